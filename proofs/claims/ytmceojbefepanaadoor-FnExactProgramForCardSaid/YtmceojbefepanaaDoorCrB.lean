/- A closed interpreter of a Go program's code, part 2: code run on plain data, and why that holds of the program. -/
import Derived.Test.YtmceojbefepanaaDoorCrA
import Derived.Laws.StructEq
import Derived.Laws.BytesString
set_option linter.unusedVariables false
set_option linter.unusedSimpArgs false
/- A closed interpreter of the program's code: values and memory are data, every choice is decided. Definitions alone: nothing is proved here. -/
namespace Go.CR
noncomputable section
open Go Go.DW
abbrev Id := Nat × Nat

/-- Values. 'd': plain data; 'sl': a slice of an object of the store (offset in cells, length in elements, capacity where it is known); 'ptr': a cell of one. -/
inductive V where
  | undef
  | gone
  | d (x : D)
  | sl (id : Id) (off len : Nat) (cap : Option Nat)
  | ptr (id : Id) (off : Nat)
  | agg (cs : List V)
  | tup (vs : List V)
  | fn (f : FuncId) (a b : List V)

/-- An object: the type of its elements, its cells from the first one on, whether they name no object, whether it is only read. -/
structure O where
  t : TypeId
  cs : List V
  fl : Bool
  ro : Bool

abbrev Sto := List (Id × O)

/-- The values of the slots: a tree. -/
inductive Tr where
  | lf
  | nd (v : V) (a b c d : Tr)
/-- the way to a slot -/
inductive Way where
  | e
  | a (r : Way)
  | b (r : Way)
  | c (r : Way)
  | d (r : Way)
deriving DecidableEq
def wayK : Nat → Nat → Way
  | 0, _ => .e
  | _ + 1, 0 => .e
  | k + 1, i + 1 => match i % 4 with
    | 0 => .a (wayK k (i / 4))
    | 1 => .b (wayK k (i / 4))
    | 2 => .c (wayK k (i / 4))
    | _ => .d (wayK k (i / 4))
def pathOf (i : Nat) : Way := wayK i i
def Tr.val (t : Tr) : V := Tr.rec (motive := fun _ => V) .undef (fun v _ _ _ _ _ _ _ _ => v) t
def Tr.ta (t : Tr) : Tr := Tr.rec (motive := fun _ => Tr) .lf (fun _ a _ _ _ _ _ _ _ => a) t
def Tr.tb (t : Tr) : Tr := Tr.rec (motive := fun _ => Tr) .lf (fun _ _ b _ _ _ _ _ _ => b) t
def Tr.tc (t : Tr) : Tr := Tr.rec (motive := fun _ => Tr) .lf (fun _ _ _ c _ _ _ _ _ => c) t
def Tr.td (t : Tr) : Tr := Tr.rec (motive := fun _ => Tr) .lf (fun _ _ _ _ d _ _ _ _ => d) t
def Tr.getP : Way → Tr → V := Way.rec (motive := fun _ => Tr → V) Tr.val (fun _ ih t => ih t.ta) (fun _ ih t => ih t.tb) (fun _ ih t => ih t.tc) (fun _ ih t => ih t.td)
def Tr.onV : Tr → V → Tr := Tr.rec (motive := fun _ => V → Tr) (fun v => .nd v .lf .lf .lf .lf) (fun _ a b c d _ _ _ _ v => .nd v a b c d)
def Tr.onA : Tr → (Tr → Tr) → Tr := Tr.rec (motive := fun _ => (Tr → Tr) → Tr) (fun f => .nd .undef (f .lf) .lf .lf .lf) (fun u a b c d _ _ _ _ f => .nd u (f a) b c d)
def Tr.onB : Tr → (Tr → Tr) → Tr := Tr.rec (motive := fun _ => (Tr → Tr) → Tr) (fun f => .nd .undef .lf (f .lf) .lf .lf) (fun u a b c d _ _ _ _ f => .nd u a (f b) c d)
def Tr.onC : Tr → (Tr → Tr) → Tr := Tr.rec (motive := fun _ => (Tr → Tr) → Tr) (fun f => .nd .undef .lf .lf (f .lf) .lf) (fun u a b c d _ _ _ _ f => .nd u a b (f c) d)
def Tr.onD : Tr → (Tr → Tr) → Tr := Tr.rec (motive := fun _ => (Tr → Tr) → Tr) (fun f => .nd .undef .lf .lf .lf (f .lf)) (fun u a b c d _ _ _ _ f => .nd u a b c (f d))
def Tr.setP : Way → V → Tr → Tr := Way.rec (motive := fun _ => V → Tr → Tr) (fun v t => t.onV v) (fun _ ih v t => t.onA (ih v)) (fun _ ih v t => t.onB (ih v)) (fun _ ih v t => t.onC (ih v)) (fun _ ih v t => t.onD (ih v))
def Tr.get (t : Tr) (i : Nat) : V := Tr.getP (pathOf i) t

abbrev Env := Tr
/-- slot numbers lie below -/
def most : Nat := 4000
noncomputable def setE (e : Env) (i : Nat) (v : V) : Env := Tr.setP (pathOf i) v e

-- the store
def sget : Sto → Id → Option O
  | [], _ => none
  | (j, o) :: r, i => match ideq j i with | true => some o | false => sget r i
def sdel : Sto → Id → Sto
  | [], _ => []
  | (j, o) :: r, i => match ideq j i with | true => sdel r i | false => (j, o) :: sdel r i
def sdels : Sto → List Id → Sto
  | s, [] => s
  | s, i :: r => sdels (sdel s i) r

-- a change of the names of objects
mutual
def vmap (f : Id → Option Id) : V → V
  | .sl id a b c => match f id with | some j => .sl j a b c | none => .gone
  | .ptr id a => match f id with | some j => .ptr j a | none => .gone
  | .agg cs => .agg (vmapL f cs)
  | .tup vs => .tup (vmapL f vs)
  | .fn g a b => .fn g (vmapL f a) (vmapL f b)
  | v => v
def vmapL (f : Id → Option Id) : List V → List V
  | [] => []
  | v :: r => vmap f v :: vmapL f r
end
def omap (f : Id → Option Id) : O → O
  | ⟨t, cs, true, ro⟩ => ⟨t, cs, true, ro⟩
  | ⟨t, cs, false, ro⟩ => ⟨t, vmapL f cs, false, ro⟩

/-- it names no object -/
def flatV : V → Bool
  | .sl _ _ _ _ | .ptr _ _ | .agg _ | .tup _ | .fn _ _ _ => false
  | _ => true
def flatL : List V → Bool
  | [] => true
  | v :: r => match flatV v with | true => flatL r | false => false

structure Ctx where
  T : TT
  G : Nat → Option (List D)
  F : FuncId → Option Func
  X : FuncId → Option Nat
  E : List TypeId

/-- what an operation comes to: its value, the objects that it looks into, those that it takes away, those that it makes -/
structure Rec where
  v : V
  acc : List Id
  del : List Id
  new : Sto

def withObj (g : Id → Option O) (id : Id) (K : O → Option Rec) : Option Rec :=
  match g id with
  | none => none
  | some o => match K o with
    | none => none
    | some T => some ⟨T.v, id :: T.acc, T.del, T.new⟩
def ret (v : V) : Option Rec := some ⟨v, [], [], []⟩

def opnd (G : Nat → Option (List D)) (e : Env) : Operand → V
  | .tmp t => e.get t
  | .const v => .d (DW.ofConst v)
  | .global g => match G g with | some cs => .d (.iptr cs) | none => .undef
  | .func f => .fn f [] []

def wrapL : List D → List V
  | [] => []
  | d :: r => .d d :: wrapL r
def toV : D → V
  | .agg cs => .agg (wrapL cs)
  | d => .d d
def cellsOf : V → List V
  | .agg cs => cs
  | v => [v]
/-- may it lie in one cell -/
def oneV : V → Bool
  | .undef | .agg _ | .tup _ => false
  | .d x => match x with
    | .undef | .agg _ | .tup _ | .own _ _ | .ref _ | .ptr _ _ _ _ | .fn _ _ _ => false
    | _ => true
  | _ => true
def oneL : List V → Bool
  | [] => true
  | v :: r => match oneV v with | true => oneL r | false => false
def lenV : List V → Nat
  | [] => 0
  | _ :: r => lenV r + 1
def takeV : Nat → List V → List V
  | 0, _ => []
  | _ + 1, [] => []
  | n + 1, v :: r => v :: takeV n r
def dropV : Nat → List V → List V
  | 0, l => l
  | _ + 1, [] => []
  | n + 1, _ :: r => dropV n r
/-- the cells from 'off' on are replaced -/
def writeV (cs : List V) (off : Nat) (new : List V) : List V := takeV off cs ++ (new ++ dropV (off + lenV new) cs)
/-- 'sz' cells as a value, if there are so many -/
def packV (agg : Bool) (sz : Nat) (cs : List V) : Option V :=
  match Nat.beq (lenV cs) sz, agg, cs with
  | true, true, cs => some (.agg cs)
  | true, false, [v] => some v
  | _, _, _ => none
def packT (T : TT) (t : TypeId) (off : Nat) (cs : List V) : Option V :=
  match (T t).k.known with
  | true => packV (T t).k.agg (T t).size (takeV (T t).size (dropV off cs))
  | false => none
def packD (T : TT) (t : TypeId) (off : Nat) (cs : List D) : Option V :=
  match (T t).k.known with
  | true => match pack (T t).k.agg (T t).size (takeD (T t).size (dropD off cs)) with
    | some d => some (toV d)
    | none => none
  | false => none

-- arithmetic
def leI : Int → Int → Bool
  | .ofNat a, .ofNat b => Nat.ble a b
  | .ofNat _, .negSucc _ => false
  | .negSucc _, .ofNat _ => true
  | .negSucc a, .negSucc b => Nat.ble b a
def ltI (a b : Int) : Bool := match leI b a with | true => false | false => true
def arith1 (op : BinOp) (k : IntKind) (a b : Int) : Option D :=
  match op with
  | .add => some (.int k (k.wrap (a + b)))
  | .sub => some (.int k (k.wrap (a - b)))
  | .mul => some (.int k (k.wrap (a * b)))
  | .quo => match b == 0 with | true => none | false => some (.int k (k.wrap (Int.tdiv a b)))
  | .rem => match b == 0 with | true => none | false => some (.int k (Int.tmod a b))
  | .and => some (.int k (Ar.real.bit .and k a b))
  | .or => some (.int k (Ar.real.bit .or k a b))
  | .xor => some (.int k (Ar.real.bit .xor k a b))
  | .andNot => some (.int k (Ar.real.bit .andNot k a b))
  | .shl => match decide (0 ≤ b) with | true => some (.int k (Ar.real.shl k a b)) | false => none
  | .shr => match decide (0 ≤ b) with | true => some (.int k (Ar.real.shr k a b)) | false => none
  | .eql => some (.bool (a == b))
  | .neq => some (.bool (a != b))
  | .lss => some (.bool (ltI a b))
  | .leq => some (.bool (leI a b))
  | .gtr => some (.bool (ltI b a))
  | .geq => some (.bool (leI b a))
def bytesEq : List UInt8 → List UInt8 → Bool
  | [], [] => true
  | a :: r, b :: q => match Nat.beq a.toNat b.toNat with | true => bytesEq r q | false => false
  | _, _ => false
def lenB : List UInt8 → Nat
  | [] => 0
  | _ :: r => lenB r + 1
def nthB : List UInt8 → Nat → Option UInt8
  | [], _ => none
  | a :: _, 0 => some a
  | _ :: r, n + 1 => nthB r n
def takeB : Nat → List UInt8 → List UInt8
  | 0, _ => []
  | _ + 1, [] => []
  | n + 1, v :: r => v :: takeB n r
def dropB : Nat → List UInt8 → List UInt8
  | 0, l => l
  | _ + 1, [] => []
  | n + 1, _ :: r => dropB n r
def bytesOf (s : ByteArray) : List UInt8 := s.data.toList
def strOf (l : List UInt8) : ByteArray := ⟨⟨l⟩⟩
def bin1 (op : BinOp) (tk : TK) (x y : D) : Option D :=
  match x, y with
  | .int k a, .int k' b => match kindEq k k', shiftOp op with
    | true, _ | false, true => arith1 op k a b
    | false, false => none
  | .str a, .str b => match op with
    | .add => match Nat.ble (lenB (bytesOf a) + lenB (bytesOf b)) 9223372036854775807 with
      | true => some (.str (strOf (bytesOf a ++ bytesOf b)))
      | false => none
    | .eql => some (.bool (bytesEq (bytesOf a) (bytesOf b)))
    | .neq => some (.bool (!(bytesEq (bytesOf a) (bytesOf b))))
    | _ => none
  | x, y => match boolOf x, boolOf y, op, tk with
    | some a, some b, .eql, .bool => some (.bool (a == b))
    | some a, some b, .neq, .bool => some (.bool (!(a == b)))
    | _, _, _, _ => none
def boolV : V → Option Bool
  | .d x => boolOf x
  | _ => none
/-- cells that are numbers, of the kinds that fields tell: are they equal -/
def eqInts (T : TT) : List (Nat × TypeId) → Nat → List V → List V → Option Bool
  | [], _, [], [] => some true
  | (off, t) :: fs, n, .d (.int k a) :: r, .d (.int k' b) :: q => match Nat.beq off n, (T t).k, kindEq k k' with
    | true, .int _, true => match eqInts T fs (n + 1) r q with
      | some c => some (match a == b with | true => c | false => false)
      | none => none
    | _, _, _ => none
  | _, _, _, _ => none
def binV (T : TT) (E : List TypeId) (op : BinOp) (t : TypeId) (x y : V) : Option V :=
  match x, y with
  | .d x, .d y => match bin1 op (T t).k x y with | some r => some (.d r) | none => none
  | .agg cs, .agg cs' => match (T t).k, mem1 E t with
    | .struct fs, true => match eqInts T fs 0 cs cs', op with
      | some b, .eql => some (.d (.bool b))
      | some b, .neq => some (.d (.bool (!b)))
      | _, _ => none
    | _, _ => none
  | _, _ => none
def unV (op : UnOp) (x : V) : Option V :=
  match op, x with
  | .not, x => match boolV x with | some b => some (.d (.bool (!b))) | none => none
  | .neg, .d (.int k n) => some (.d (.int k (k.wrap (0 - n))))
  | .xor, .d (.int k n) => some (.d (.int k (DW.Ar.real.bit .xor k (match k.signed with | true => -1 | false => k.max) n)))
  | _, _ => none

/-- a number of Go, not negative -/
def natOf : V → Option Nat
  | .d (.int _ (.ofNat n)) => some n
  | _ => none
def natOr (z : Nat) : Option V → Option Nat
  | none => some z
  | some v => natOf v

/-- an aggregate out of its parts -/
def fillV (place : Nat → Option (Nat × Nat)) : List V → List (Nat × V) → Option (List V)
  | cs, [] => some cs
  | cs, (i, v) :: r => match place i with
    | none => none
    | some (off, sz) => match oneL (cellsOf v), Nat.beq (lenV (cellsOf v)) sz, Nat.ble (off + sz) (lenV cs) with
      | true, true, true => fillV place (writeV cs off (cellsOf v)) r
      | _, _, _ => none
/-- the cells of all parts, each of one size -/
def joinV (sz : Nat) : List V → Option (List V)
  | [] => some []
  | v :: r => match oneL (cellsOf v), Nat.beq (lenV (cellsOf v)) sz, joinV sz r with
    | true, true, some q => some (cellsOf v ++ q)
    | _, _, _ => none
def repV : Nat → List V → List V
  | 0, _ => []
  | n + 1, l => l ++ repV n l
/-- an object of its own -/
def mk (t : TypeId) (cs : List V) : O := ⟨t, cs, flatL cs, false⟩
/-- its cells are changed: 'new' are those that came -/
def upd (o : O) (cs new : List V) (ro : Bool) : O := match o.fl with
  | true => match flatL new with
    | true => ⟨o.t, cs, true, ro⟩
    | false => ⟨o.t, cs, false, ro⟩
  | false => ⟨o.t, cs, false, ro⟩

/-- the cells of a slice's elements (with the objects looked into): for 'append', 'copy', 'string' -/
def srcV (T : TT) (el : TypeId) (g : Id → Option O) (y : V) (K : List V → Nat → Option Rec) : Option Rec :=
  match y with
  | .d .nils => K [] 0
  | .d (.imm []) => K [] 0
  | .sl id off len _ => withObj g id fun o => match Nat.beq o.t el, Nat.ble (off + len * (T el).size) (lenV o.cs) with
    | true, true => K (takeV (len * (T el).size) (dropV off o.cs)) len
    | _, _ => none
  | _ => none

def bytesIn : List V → Option (List UInt8)
  | [] => some []
  | .d (.int .u8 (.ofNat n)) :: r => match Nat.blt n 256, bytesIn r with
    | true, some q => some (UInt8.ofNat n :: q)
    | _, _ => none
  | _ => none

/-- 'append' -/
def appendV (T : TT) (el : TypeId) (g : Id → Option O) (d : Nat) (x : V) (news : List V) (m : Nat) : Option Rec :=
  match Nat.beq m 0, x with
  | true, .d .nils => ret (.d .nils)
  | true, .d (.imm []) => ret (.d (.imm []))
  | true, .sl id off len cap => withObj g id fun _ => ret (.sl id off len cap)
  | false, .d .nils => match Nat.ble (m * (T el).bytes) 140737488355328 with
    | true => some ⟨.sl (d, 0) 0 m none, [], [], [((d, 0), mk el news)]⟩
    | false => none
  | false, .sl id off len cap => withObj g id fun o => match Nat.beq o.t el, Nat.ble ((len + m) * (T el).bytes) 140737488355328, Nat.ble (off + len * (T el).size) (lenV o.cs) with
    | true, true, true => match cap with
      | some c => match Nat.ble (len + m) c with
        | true => match o.ro, Nat.ble (off + (len + m) * (T el).size) (lenV o.cs) with
          | false, true => some ⟨.sl id off (len + m) (some c), [], [id], [(id, upd o (writeV o.cs (off + len * (T el).size) news) news false)]⟩
          | _, _ => none
        | false => some ⟨.sl (d, 0) 0 (len + m) none, [], [], [((d, 0), mk el (takeV (len * (T el).size) (dropV off o.cs) ++ news))]⟩
      | none => match o.ro, Nat.beq (off + len * (T el).size) (lenV o.cs), Nat.beq off 0 with
        | false, true, true => some ⟨.sl (d, 0) 0 (len + m) none, [], [id], [((d, 0), upd o (o.cs ++ news) news false)]⟩
        | false, true, false => some ⟨.sl (d, 0) 0 (len + m) none, [], [id], [(id, ⟨o.t, o.cs, o.fl, true⟩), ((d, 0), upd o (dropV off o.cs ++ news) news true)]⟩
        | _, _, _ => none
    | _, _, _ => none
  | _, _ => none

/-- what is cut of a slice -/
def cutV (T : TT) (el : TypeId) (id : Id) (off len : Nat) (cap : Option Nat) (l h : Nat) (m : Option Nat) : Option V :=
  match Nat.ble l h, Nat.ble h len with
  | true, true => match m, cap with
    | none, none => match Nat.blt l len with
      | true => some (.sl id (off + l * (T el).size) (h - l) none)
      | false => some (.d (.imm []))
    | none, some c => some (.sl id (match Nat.beq c l with | true => off | false => off + l * (T el).size) (h - l) (some (c - l)))
    | some m, _ => match Nat.ble h m, Nat.ble m len with
      | true, true => some (.sl id (match Nat.beq m l with | true => off | false => off + l * (T el).size) (h - l) (some (m - l)))
      | _, _ => none
  | _, _ => none

/-! ### operations -/
def pBool (b : Option Bool) (x y : V) : Option Rec := match b with
  | some true => ret x
  | some false => ret y
  | none => none
def retO (v : Option V) : Option Rec := match v with
  | some v => ret v
  | none => none
def pAlloc (T : TT) (t : TypeId) (d : Nat) : Option Rec := match (T t).k.known with
  | true => some ⟨.ptr (d, 0) 0, [], [], [((d, 0), mk t (wrapL (T t).zero))]⟩
  | false => none
def pBox (T : TT) (t : TypeId) (cs : List V) (d : Nat) : Option Rec := match Nat.beq (lenV cs) (T t).size, oneL cs with
  | true, true => some ⟨.ptr (d, 0) 0, [], [], [((d, 0), mk t cs)]⟩
  | _, _ => none
def pBuild (T : TT) (t : TypeId) (parts : List (Nat × V)) : Option Rec := match (T t).k with
  | .struct fs => match fillV (fieldAtT T fs) (wrapL (T t).zero) parts with
    | some cs => ret (.agg cs)
    | none => none
  | .array n el => match fillV (fun i => some (i * (T el).size, (T el).size)) (wrapL (T t).zero) parts with
    | some cs => ret (.agg cs)
    | none => none
  | _ => none
def pBuildSlice (T : TT) (t : TypeId) (len : Nat) (sq : Bool) (n : Nat) (xs : List V) (d : Nat) : Option Rec := match (T t).k, sq, Nat.beq len n with
  | .slice el, true, true => match Nat.ble (len * (T el).size) 16777216, joinV (T el).size xs with
    | true, some cs => some ⟨.sl (d, 0) 0 len (some len), [], [], [((d, 0), mk el cs)]⟩
    | _, _ => none
  | _, _, _ => none
def pMakeSlice (T : TT) (t : TypeId) (l c : Option Nat) (d : Nat) : Option Rec := match (T t).k, l, c with
  | .slice el, some n, some m => match Nat.ble n m, Nat.ble (m * (T el).bytes) 140737488355328 with
    | true, true => some ⟨.sl (d, 0) 0 n (some m), [], [], [((d, 0), mk el (repV m (wrapL (T el).zero)))]⟩
    | _, _ => none
  | _, _, _ => none
def pLoad (T : TT) (t : TypeId) (g : Id → Option O) : V → Option Rec
  | .ptr id off => withObj g id fun o => retO (packT T t off o.cs)
  | .d (.iptr cells) => retO (packD T t 0 cells)
  | _ => none
def pStore (T : TT) (t : TypeId) (g : Id → Option O) (a : V) (cs : List V) : Option Rec := match a, oneL cs, Nat.beq (lenV cs) (T t).size, (T t).k.known with
  | .ptr id off, true, true, true => withObj g id fun o => match o.ro, Nat.ble (Nat.add off (T t).size) (lenV o.cs), Nat.blt 0 (T t).size with
    | false, true, true => some ⟨.undef, [], [id], [(id, upd o (writeV o.cs off cs) cs false)]⟩
    | _, _, _ => none
  | _, _, _, _ => none
def pNilCheck (g : Id → Option O) : V → Option Rec
  | .ptr id off => withObj g id fun _ => ret (.ptr id off)
  | .d (.iptr cs) => ret (.d (.iptr cs))
  | .fn a b cc => ret (.fn a b cc)
  | _ => none
def pBin (c : Ctx) (op : BinOp) (t : TypeId) (g : Id → Option O) (x y : V) : Option Rec := match x, y with
  | .sl id _ _ _, .d .nils => match op, (c.T t).k with
    | .eql, .slice _ => withObj g id fun _ => ret (.d (.bool false))
    | .neq, .slice _ => withObj g id fun _ => ret (.d (.bool true))
    | _, _ => none
  | x, y => retO (binV c.T c.E op t x y)
def pConvert (T : TT) (g : Id → Option O) (src dst : TypeId) (x : V) : Option Rec := match (T src).k, (T dst).k with
  | .int _, .int k => match x with
    | .d (.int _ n) => ret (.d (.int k (k.wrap n)))
    | _ => none
  | .slice el, .str => match (T el).k with
    | .int .u8 => srcV T el g x fun cs _ => match bytesIn cs with
      | some l => ret (.d (.str (strOf l)))
      | none => none
    | _ => none
  | _, _ => none
def pFieldAddr (T : TT) (st : TypeId) (f : Nat) (g : Id → Option O) (x : V) : Option Rec := match (T st).k with
  | .struct fs => match nthF fs f with
    | some (fo, _) => match x with
      | .ptr id off => withObj g id fun _ => ret (.ptr id (Nat.add off fo))
      | .d (.iptr cells) => match Nat.blt fo (lenD cells) with
        | true => ret (.d (.iptr (dropD fo cells)))
        | false => none
      | _ => none
    | none => none
  | _ => none
def pField (T : TT) (st : TypeId) (f : Nat) (x : V) : Option Rec := match (T st).k, x with
  | .struct fs, .agg cs => match nthF fs f with
    | some (fo, ty) => retO (packT T ty fo cs)
    | none => none
  | _, _ => none
def pIndexAddr (T : TT) (t : TypeId) (g : Id → Option O) (x : V) (ix : Option Nat) : Option Rec := match (T t).k, x, ix with
  | .slice et, .sl id off len _, some i => withObj g id fun o => match Nat.beq o.t et, Nat.blt i len with
    | true, true => ret (.ptr id (Nat.add off (Nat.mul i (T et).size)))
    | _, _ => none
  | .array n el, .ptr id off, some i => withObj g id fun _ => match Nat.blt i n with
    | true => ret (.ptr id (Nat.add off (Nat.mul i (T el).size)))
    | false => none
  | .array n el, .d (.iptr cells), some i => match Nat.blt i n with
    | true => ret (.d (.iptr (dropD (Nat.mul i (T el).size) cells)))
    | false => none
  | _, _, _ => none
def pIndex (T : TT) (t : TypeId) (x : V) (ix : Option Nat) : Option Rec := match (T t).k, x, ix with
  | .array n el, .agg cs, some i => match Nat.blt i n with
    | true => retO (packT T el (Nat.mul i (T el).size) cs)
    | false => none
  | .str, .d (.str b), some i => match nthB (bytesOf b) i with
    | some u => ret (.d (.int .u8 (.ofNat u.toNat)))
    | none => none
  | _, _, _ => none
def cutS (b : ByteArray) (l h : Option Nat) : Option Rec := match l, h with
  | some l, some h => match Nat.ble l h, Nat.ble h (lenB (bytesOf b)) with
    | true, true => ret (.d (.str (strOf (dropB l (takeB h (bytesOf b))))))
    | _, _ => none
  | _, _ => none
def cut0 (x : V) (l h : Option Nat) : Option Rec := match l, h with
  | some 0, some 0 => ret x
  | _, _ => none
/-- mx: not there, not a number, a number -/
def pSlice (T : TT) (t : TypeId) (g : Id → Option O) (x : V) (lo hi mx : Option V) : Option Rec := match (T t).k, x with
  | .str, .d (.str b) => match mx with
    | none => cutS b (natOr 0 lo) (natOr (lenB (bytesOf b)) hi)
    | some _ => none
  | .slice _, .d .nils => match mx with
    | none => cut0 (.d .nils) (natOr 0 lo) (natOr 0 hi)
    | some _ => none
  | .slice _, .d (.imm []) => match mx with
    | none => cut0 (.d (.imm [])) (natOr 0 lo) (natOr 0 hi)
    | some _ => none
  | .slice el, .sl id off len cap => withObj g id fun o => match Nat.beq o.t el, natOr 0 lo, natOr len hi with
    | true, some l, some h => match mx with
      | none => retO (cutV T el id off len cap l h none)
      | some mv => match natOf mv, hi with
        | some m, some _ => retO (cutV T el id off len cap l h (some m))
        | _, _ => none
    | _, _, _ => none
  | _, _ => none
def pExtract (j : Nat) : V → Option Rec
  | .tup vs => match dropV j vs with
    | v :: _ => ret v
    | [] => none
  | _ => none
def pLen (T : TT) (g : Id → Option O) : List V → List TypeId → Option Rec
  | [x], [t] => match x, (T t).k with
    | .d .nils, .slice _ => ret (.d (.int .i64 (.ofNat 0)))
    | .d (.imm []), .slice _ => ret (.d (.int .i64 (.ofNat 0)))
    | .d (.str b), .str => ret (.d (.int .i64 (.ofNat (lenB (bytesOf b)))))
    | .sl id _ len _, .slice _ => withObj g id fun _ => ret (.d (.int .i64 (.ofNat len)))
    | _, _ => none
  | _, _ => none
def pAppend (T : TT) (g : Id → Option O) (d : Nat) : List V → List TypeId → Option Rec
  | [x, y], [t, u] => match (T t).k, Nat.beq t u with
    | .slice el, true => srcV T el g y fun news m => appendV T el g d x news m
    | _, _ => none
  | _, _ => none
def pMin (lt : Bool) : List V → Option Rec
  | [.d (.int k a), .d (.int k' b)] => match kindEq k k' with
    | true => match lt with
      | true => ret (.d (.int k (match decide (b < a) with | true => b | false => a)))
      | false => ret (.d (.int k (match decide (a < b) with | true => b | false => a)))
    | false => none
  | _ => none
def pCall (T : TT) (ρ : Operand → V) (g : Id → Option O) (d : Nat) (c : Call) : Option Rec := match c.callee with
  | .builtin .len => pLen T g (c.args.toList.map ρ) c.argTypes.toList
  | .builtin .append => pAppend T g d (c.args.toList.map ρ) c.argTypes.toList
  | .builtin .min => pMin true (c.args.toList.map ρ)
  | .builtin .max => pMin false (c.args.toList.map ρ)
  | _ => none
def sndL (ρ : Operand → V) : List (Nat × Operand) → List V
  | [] => []
  | (_, x) :: r => ρ x :: sndL ρ r
def prL (ρ : Operand → V) : List (Nat × Operand) → List (Nat × V)
  | [] => []
  | (i, x) :: r => (i, ρ x) :: prL ρ r
def omapV (ρ : Operand → V) : Option Operand → Option V
  | none => none
  | some x => some (ρ x)
/-- an operation other than a call of a Go function; 'd' is the number under which it makes objects -/
def prim (c : Ctx) (op : Op) (ρ : Operand → V) (g : Id → Option O) (d : Nat) : Option Rec :=
  match op with
  | .move x => ret (ρ x)
  | .assign x => ret (ρ x)
  | .pick x a b => pBool (boolV (ρ x)) (ρ a) (ρ b)
  | .alloc t => pAlloc c.T t d
  | .box t x => pBox c.T t (cellsOf (ρ x)) d
  | .build t parts => pBuild c.T t (prL ρ parts.toList)
  | .buildSlice t len parts => pBuildSlice c.T t len (seqParts 0 parts.toList) parts.toList.length (sndL ρ parts.toList) d
  | .makeSlice t l cp => pMakeSlice c.T t (natOf (ρ l)) (natOf (ρ cp)) d
  | .load t a => pLoad c.T t g (ρ a)
  | .store t a x => pStore c.T t g (ρ a) (cellsOf (ρ x))
  | .nilCheck x => pNilCheck g (ρ x)
  | .binOp op t x y _ => pBin c op t g (ρ x) (ρ y)
  | .unOp op _ x => retO (unV op (ρ x))
  | .convert src dst x => pConvert c.T g src dst (ρ x)
  | .makeFunc (.func f) first caps => ret (.fn f (first.toList.map ρ) (caps.toList.map ρ))
  | .fieldAddr st x f => pFieldAddr c.T st f g (ρ x)
  | .field st x f => pField c.T st f (ρ x)
  | .indexAddr t x ix => pIndexAddr c.T t g (ρ x) (natOf (ρ ix))
  | .index t x ix => pIndex c.T t (ρ x) (natOf (ρ ix))
  | .slice t x lo hi mx => pSlice c.T t g (ρ x) (omapV ρ lo) (omapV ρ hi) (omapV ρ mx)
  | .extract x j => pExtract j (ρ x)
  | .call cl => pCall c.T ρ g d cl
  | _ => none

/-! ### calls -/
/-- what values lead to: names, in the order in which they are met (those of no object, too) -/
def reach (g : Id → Option O) : Nat → List Id → List V → List Id
  | 0, acc, _ => acc
  | _ + 1, acc, [] => acc
  | n + 1, acc, .sl id _ _ _ :: r => match memI acc id with
    | true => reach g n acc r
    | false => match g id with
      | some ⟨_, cs, false, _⟩ => reach g n (acc ++ [id]) (cs ++ r)
      | _ => reach g n (acc ++ [id]) r
  | n + 1, acc, .ptr id _ :: r => match memI acc id with
    | true => reach g n acc r
    | false => match g id with
      | some ⟨_, cs, false, _⟩ => reach g n (acc ++ [id]) (cs ++ r)
      | _ => reach g n (acc ++ [id]) r
  | n + 1, acc, .agg cs :: r => reach g n acc (cs ++ r)
  | n + 1, acc, .tup cs :: r => reach g n acc (cs ++ r)
  | n + 1, acc, .fn _ a b :: r => reach g n acc (a ++ (b ++ r))
  | n + 1, acc, _ :: r => reach g n acc r
def enough : Nat := 1000000
def idxOf : List Id → Id → Option Nat
  | [], _ => none
  | a :: r, b => match ideq a b with
    | true => some 0
    | false => match idxOf r b with | some n => some (n + 1) | none => none
/-- under the number d -/
def nameIn (d : Nat) (m : List Id) (id : Id) : Option Id := match idxOf m id with
  | some j => some (d, j)
  | none => none
def nthI : List Id → Nat → Option Id
  | [], _ => none
  | a :: _, 0 => some a
  | _ :: r, i + 1 => nthI r i
/-- the objects that are handed over, under their new names -/
def handed (g : Id → Option O) (f : Id → Option Id) (d : Nat) : Nat → List Id → Sto
  | _, [] => []
  | j, id :: r => match g id with
    | some o => ((d, j), omap f o) :: handed g f d (j + 1) r
    | none => handed g f d (j + 1) r
/-- the cells that may lead on, of objects that came in and are changed -/
def rootsOf (s : Sto) : List Nat → List V
  | [] => []
  | j :: r => match sget s (0, j) with
    | some ⟨_, cs, false, _⟩ => cs ++ rootsOf s r
    | _ => rootsOf s r
def newOf : List Id → List Id
  | [] => []
  | (0, j) :: r => newOf r
  | id :: r => id :: newOf r
/-- names on the way out -/
def nameOut (m kept : List Id) (d : Nat) : Id → Option Id
  | (0, j) => nthI m j
  | id => nameIn d kept id
def changed (s : Sto) (f : Id → Option Id) (m : List Id) : List Nat → Sto
  | [] => []
  | j :: r => match nthI m j, sget s (0, j) with
    | some id, some o => (id, omap f o) :: changed s f m r
    | _, _ => changed s f m r
def nthsOf (m : List Id) : List Nat → List Id
  | [] => []
  | j :: r => match nthI m j with | some id => id :: nthsOf m r | none => nthsOf m r

def liveOf (g : Id → Option O) : List Id → List Id
  | [] => []
  | id :: r => match g id with | some _ => id :: liveOf g r | none => liveOf g r
/-- what a call's run gives: the result, the store, the objects handed over that were changed -/
abbrev Res := V × Sto × List Nat
abbrev Caller := FuncId → List V → Sto → Option Res

def callRec (run : Caller) (fn : FuncId) (as : List V) (g : Id → Option O) (d : Nat) : Option Rec :=
  let all := reach g enough [] as
  let m := liveOf g all
  match run fn (vmapL (nameIn 0 m) as) (handed g (nameIn 0 m) 0 0 m) with
  | none => none
  | some (r, s, dirty) =>
    let kept := newOf (liveOf (sget s) (reach (sget s) enough [] (r :: rootsOf s dirty)))
    let f := nameOut m kept d
    some ⟨vmap f r, all, nthsOf m dirty, changed s f m dirty ++ handed (sget s) f d 0 kept⟩

/-- functions without a body that are covered: 0: bytealg.CountString, 1: bytealg.IndexByteString -/
def countB : List UInt8 → Nat → Nat
  | [], _ => 0
  | b :: r, c => match Nat.beq b.toNat c with | true => countB r c + 1 | false => countB r c
def indexB : List UInt8 → Nat → Nat → Int
  | [], _, _ => -1
  | b :: r, c, i => match Nat.beq b.toNat c with | true => .ofNat i | false => indexB r c (i + 1)
def extRec (k : Nat) (as : List V) : Option Rec :=
  match k, as with
  | 0, [.d (.str s), .d (.int .u8 (.ofNat n))] => match Nat.blt n 256 with
    | true => ret (.d (.int .i64 (countB (bytesOf s) n)))
    | false => none
  | 1, [.d (.str s), .d (.int .u8 (.ofNat n))] => match Nat.blt n 256 with
    | true => ret (.d (.int .i64 (indexB (bytesOf s) n 0)))
    | false => none
  | _, _ => none

def single : List V → V
  | [v] => v
  | l => .tup l

/-- a call of a function -/
def doCall (c : Ctx) (run : Caller) (g : Id → Option O) (d : Nat) (args : List V) : V → Option Rec
  | .fn fn first caps => match c.X fn with
    | some k => extRec k (first ++ (args ++ caps))
    | none => callRec run fn (first ++ (args ++ caps)) g d
  | _ => none
/-- any operation -/
def exec (c : Ctx) (run : Caller) (op : Op) (e : Env) (g : Id → Option O) (d : Nat) : Option Rec :=
  match op with
  | .call cl => match cl.callee with
    | .value f => doCall c run g d (cl.args.toList.map (opnd c.G e)) (opnd c.G e f)
    | _ => pCall c.T (opnd c.G e) g d cl
  | op => prim c op (opnd c.G e) g d

/-- a state: the slots, the store, the next number, the objects handed over that were changed -/
structure St where
  e : Env
  s : Sto
  n : Nat
  dirty : List Nat

def put (e : Env) (o : Option Nat) (v : V) : Env := match o with | some i => setE e i v | none => e
def dstOk (N : Nat) : Option Nat → Bool
  | none => true
  | some i => Nat.blt i N
def addDirty : List Nat → List Id → List Nat
  | l, [] => l
  | l, (0, j) :: r => match mem1 l j with | true => addDirty l r | false => addDirty (j :: l) r
  | l, _ :: r => addDirty l r
noncomputable def eff (s : Sto) (T : Rec) : Sto := List.rec (motive := fun _ => Sto) (List.rec (motive := fun _ => Sto) s (fun x r _ => x :: (r ++ s)) T.new)
  (fun _ _ _ => T.new ++ sdels s T.del) T.del

def dstOf : List Oper → Nat → Option Nat
  | [], _ => none
  | o :: _, 0 => o.dst
  | _ :: r, i + 1 => dstOf r i
/-- is an operation wanted: its guard's answer -/
def wanted (all : List Oper) (o : Oper) (e : Env) : Option Bool := match o.guard with
  | none => some true
  | some (j, want) => match dstOf all j with
    | none => none
    | some d => match e.get d with
      | .tup [] => some false
      | v => match boolV v with
        | none => none
        | some b => some (want == b)

/-- operations in the text's order -/
def runOps (c : Ctx) (run : Caller) (N : Nat) (all : List Oper) : List Oper → St → Option St
  | [], st => some st
  | o :: r, ⟨e, s, n, dirty⟩ => match wanted all o e, dstOk N o.dst with
    | some true, true => match exec c run o.op e (sget s) n with
      | some T => runOps c run N all r ⟨put e o.dst T.v, eff s T, n + 1, addDirty dirty T.del⟩
      | none => none
    | some false, true => runOps c run N all r ⟨put e o.dst (.tup []), s, n + 1, dirty⟩
    | _, _ => none

/-! ### a region that draws its order -/
def noRec : Rec := ⟨.tup [], [], [], []⟩
def runD (c : Ctx) (run : Caller) (N : Nat) (all : List Oper) : List Oper → St → Option (St × List Rec)
  | [], st => some (st, [])
  | o :: r, ⟨e, s, n, dirty⟩ => match wanted all o e, dstOk N o.dst with
    | some true, true => match exec c run o.op e (sget s) n with
      | some T => match runD c run N all r ⟨put e o.dst T.v, eff s T, n + 1, addDirty dirty T.del⟩ with
        | some (st, rs) => some (st, T :: rs)
        | none => none
      | none => none
    | some false, true => match runD c run N all r ⟨put e o.dst (.tup []), s, n + 1, dirty⟩ with
      | some (st, rs) => some (st, noRec :: rs)
      | none => none
    | _, _ => none
def keys : Sto → List Id
  | [] => []
  | (i, _) :: r => i :: keys r
/-- two operations, neither of which hinders the other -/
def apartOps (all : List Oper) (o : Oper) (T : Rec) (o' : Oper) (T' : Rec) : Bool :=
  match memO (slotsOf all o') o.dst, memO (slotsOf all o) o'.dst, sameO o.dst o'.dst,
    hits (T.del ++ keys T.new) (T'.acc ++ (T'.del ++ keys T'.new)), hits (T'.del ++ keys T'.new) T.acc with
  | false, false, false, false, false => true
  | _, _, _, _, _ => false
/-- operation number n against those ahead of it -/
def apartAll (all : List Oper) (bef : List Nat) (o : Oper) (T : Rec) : Nat → List Oper → List Rec → Bool
  | i, o' :: r, T' :: q => match mem1 bef i with
    | true => apartAll all bef o T (i + 1) r q
    | false => match apartOps all o' T' o T with
      | true => apartAll all bef o T (i + 1) r q
      | false => false
  | _, _, _ => true
def orderFree (all : List Oper) : List Oper → List Rec → List (List Nat) → List Oper → List Rec → Bool
  | os, ts, b :: br, o :: r, T :: q => match apartAll all b o T 0 os ts with
    | true => orderFree all (os ++ [o]) (ts ++ [T]) br r q
    | false => false
  | _, _, [], [], [] => true
  | _, _, _, _, _ => false
/-- edges that always hold lead backwards -/
def edgesBack (n : Nat) : List Edge → Bool
  | [] => true
  | x :: r => match always x.ground with
    | true => match Nat.blt x.on n with | true => edgesBack n r | false => false
    | false => edgesBack n r
def backward : Nat → List Oper → Bool
  | _, [] => true
  | n, o :: r => match edgesBack n o.after.toList with
    | true => backward (n + 1) r
    | false => false
def runDraw (c : Ctx) (run : Caller) (N : Nat) (ops : List Oper) (st : St) : Option St :=
  match backward 0 ops, runD c run N ops ops st with
  | true, some (st', rs) => match orderFree ops [] [] (befs [] ops) ops rs with
    | true => some st'
    | false => none
  | _, _ => none

/-! ### code -/
def iter : Nat → (St → Option (X × St)) → St → Option (X × St)
  | 0, _, _ => none
  | n + 1, f, st => match f st with
    | some (.normal, st') => iter n f st'
    | r => r
def runC (c : Ctx) (run : Caller) (N : Nat) (fuel : Nat) : Code → St → Option (X × St)
  | .skip, st => some (.normal, st)
  | .region _ ops false, st => match runOps c run N ops.toList ops.toList st with
    | some st' => some (.normal, st')
    | none => none
  | .region _ ops true, st => match runDraw c run N ops.toList st with
    | some st' => some (.normal, st')
    | none => none
  | .seq a b, st => match runC c run N fuel a st with
    | some (.normal, st') => runC c run N fuel b st'
    | r => r
  | .cond (.tmp t) a b, st => match boolV (st.e.get t) with
    | some true => runC c run N fuel a st
    | some false => runC c run N fuel b st
    | none => none
  | .block id b, st => match runC c run N fuel b st with
    | some (.exit j, st') => (match Nat.beq j id with | true => some (.normal, st') | false => some (.exit j, st'))
    | r => r
  | .exit id, st => some (.exit id, st)
  | .ret, st => some (.ret, st)
  | .loop b, st => iter fuel (runC c run N fuel b) st
  | _, _ => none

def resOf (T : TT) (e : Env) (s : Sto) : ResultVar → Option V
  | .tmp t => some (e.get t)
  | .cell a t => match e.get a with
    | .ptr id off => match sget s id with
      | some o => packT T t off o.cs
      | none => none
    | _ => none
def resAll (T : TT) (e : Env) (s : Sto) : List ResultVar → Option (List V)
  | [] => some []
  | r :: q => match resOf T e s r, resAll T e s q with
    | some v, some l => some (v :: l)
    | _, _ => none
def envOf : Nat → List V → Env → Env
  | _, [], e => e
  | i, v :: r, e => envOf (i + 1) r (setE e i v)
/-- the call of a function, to a depth -/
def runF (c : Ctx) : Nat → FuncId → List V → Sto → Option Res
  | 0, _, _, _ => none
  | n + 1, f, as, s => match c.F f with
    | none => none
    | some fn => match fn.body, Nat.ble (lenV as) fn.ntmps, Nat.ble fn.ntmps most with
      | some b, true, true => match runC c (runF c n) fn.ntmps n b ⟨envOf 0 as .lf, s, 1, []⟩ with
        | some (.exit _, _) => none
        | some (_, st) => match resAll c.T st.e st.s fn.results.toList with
          | some rs => some (single rs, st.s, st.dirty)
          | none => none
        | none => none
      | _, _, _ => none
end
end Go.CR

/- What the closed interpreter's data say of values and memory. -/
namespace Go.CR
open Go
open Go.DW (D TT TI TK RV RVL RI RIL RILL ideq ideq_iff ideq_false TOk TRow GOk zerosAre)

/-- no object has a value -/
def vac (_ : DW.Id) : Value := .pointer none
section
/-- where an object stands: its block, the cell there at which it begins, the block's size -/
abbrev Place := Nat × Nat × Nat
variable (T : TT) (w : World) (A : Nat → Prop) (S : Nat → Prop) (s : Sto) (β : Id → Place)
mutual
def VR : V → Value → Prop
  | .undef, _ => True
  | .gone, v => v.oneCell' = true
  | .d x, v => RV w A [] vac x v
  | .sl id off len cap, v => v.oneCell' = true ∧ S id.1 ∧ ∀ o, sget s id = some o → ∃ c, v = .slice (some ⟨(β id).1, (β id).2.1 + off, none⟩) len c ∧ len ≤ c ∧ c ≤ maxLen ∧ (∀ k, cap = some k → c = k) ∧ (β id).2.1 + off + c * (T o.t).size ≤ (β id).2.2
  | .ptr id off, v => v.oneCell' = true ∧ S id.1 ∧ ((sget s id).isSome = true → v = .pointer (some ⟨(β id).1, (β id).2.1 + off, none⟩))
  | .agg cs, v => ∃ vs : Array Value, v = .agg vs ∧ VRL cs vs.toList
  | .tup cs, v => ∃ vs : Array Value, v = .tuple vs ∧ VRL cs vs.toList
  | .fn f a b, v => ∃ x y : Array Value, v = .func (.func f) x y ∧ VRL a x.toList ∧ VRL b y.toList
def VRL : List V → List Value → Prop
  | [], us => us = []
  | d :: r, us => ∃ u us', us = u :: us' ∧ VR d u ∧ VRL r us'
end
end

/-- the objects that s' has of the names that are issued stand under the same blocks -/
def Agrees (S : Nat → Prop) (s s' : Sto) (β β' : Id → Place) : Prop :=
  ∀ id o', S id.1 → sget s' id = some o' → ∃ o, sget s id = some o ∧ β' id = β id ∧ o'.t = o.t

section
variable {T : TT} {w w' : World} {A : Nat → Prop} {S S' : Nat → Prop} {s s' : Sto} {β β' : Id → Place}
theorem dv_mono (hw : ∀ b, A b → w'.heap[b]? = w.heap[b]?) {x : D} {v : Value} (h : RV w A [] vac x v) : RV w' A [] vac x v :=
  RV.mono (fun _ h => h) hw x v (fun i _ o' ho' => by simp [DW.sget] at ho') h

mutual
theorem VR.mono (hw : ∀ b, A b → w'.heap[b]? = w.heap[b]?) (hS : ∀ n, S n → S' n) (hag : Agrees S s s' β β') : ∀ (d : V) (v : Value), VR T w A S s β d v → VR T w' A S' s' β' d v
  | .undef, v, h => by simp [VR]
  | .gone, v, h => by simpa [VR] using h
  | .d x, v, h => by
    simp only [VR] at h ⊢
    exact dv_mono hw h
  | .sl id off len cap, v, h => by
    simp only [VR] at h ⊢
    obtain ⟨h1, h2, h3⟩ := h
    refine ⟨h1, hS _ h2, fun o' ho' => ?_⟩
    obtain ⟨o, ho, hb, ht⟩ := hag id o' h2 ho'
    obtain ⟨c, h4, h5, h6, h7, h8⟩ := h3 o ho
    exact ⟨c, by rw [hb]; exact h4, h5, h6, h7, by rw [hb, ht]; exact h8⟩
  | .ptr id off, v, h => by
    simp only [VR] at h ⊢
    obtain ⟨h1, h2, h3⟩ := h
    refine ⟨h1, hS _ h2, fun hs => ?_⟩
    obtain ⟨o', ho'⟩ := Option.isSome_iff_exists.1 hs
    obtain ⟨o, ho, hb, ht⟩ := hag id o' h2 ho'
    rw [hb]
    exact h3 (by simp [ho])
  | .agg cs, v, h => by
    simp only [VR] at h ⊢
    obtain ⟨vs, hv, h⟩ := h
    exact ⟨vs, hv, VRL.mono hw hS hag cs _ h⟩
  | .tup cs, v, h => by
    simp only [VR] at h ⊢
    obtain ⟨vs, hv, h⟩ := h
    exact ⟨vs, hv, VRL.mono hw hS hag cs _ h⟩
  | .fn f a b, v, h => by
    simp only [VR] at h ⊢
    obtain ⟨x, y, hv, h1, h2⟩ := h
    exact ⟨x, y, hv, VRL.mono hw hS hag a _ h1, VRL.mono hw hS hag b _ h2⟩
theorem VRL.mono (hw : ∀ b, A b → w'.heap[b]? = w.heap[b]?) (hS : ∀ n, S n → S' n) (hag : Agrees S s s' β β') : ∀ (l : List V) (us : List Value), VRL T w A S s β l us → VRL T w' A S' s' β' l us
  | [], us, h => by simpa [VRL] using h
  | d :: r, us, h => by
    simp only [VRL] at h ⊢
    obtain ⟨u, us', rfl, h1, h2⟩ := h
    exact ⟨u, us', rfl, VR.mono hw hS hag d u h1, VRL.mono hw hS hag r us' h2⟩
end

theorem Agrees.refl (S : Nat → Prop) (s : Sto) (β : Id → Place) : Agrees S s s β β := fun id o' _ h => ⟨o', h, rfl, rfl⟩

theorem VRL.length : ∀ {l : List V} {us : List Value}, VRL T w A S s β l us → us.length = l.length
  | [], us, h => by simp [VRL] at h; simp [h]
  | d :: r, us, h => by
    simp only [VRL] at h
    obtain ⟨u, us', rfl, _, h2⟩ := h
    simp [VRL.length h2]
theorem VRL.take : ∀ {l : List V} {us : List Value} (n : Nat), VRL T w A S s β l us → VRL T w A S s β (l.take n) (us.take n)
  | [], us, n, h => by simp [VRL] at h; simp [h, VRL]
  | d :: r, us, 0, h => by simp [VRL]
  | d :: r, us, n + 1, h => by
    simp only [VRL] at h
    obtain ⟨u, us', rfl, h1, h2⟩ := h
    simp only [List.take_succ_cons, VRL]
    exact ⟨u, _, rfl, h1, VRL.take n h2⟩
theorem VRL.drop : ∀ {l : List V} {us : List Value} (n : Nat), VRL T w A S s β l us → VRL T w A S s β (l.drop n) (us.drop n)
  | [], us, n, h => by simp [VRL] at h; simp [h, VRL]
  | d :: r, us, 0, h => by simpa using h
  | d :: r, us, n + 1, h => by
    simp only [VRL] at h
    obtain ⟨u, us', rfl, h1, h2⟩ := h
    simpa using VRL.drop n h2
theorem VRL.append : ∀ {l : List V} {us : List Value} {l' : List V} {us' : List Value}, VRL T w A S s β l us → VRL T w A S s β l' us' → VRL T w A S s β (l ++ l') (us ++ us')
  | [], us, l', us', h, h' => by simp [VRL] at h; simpa [h] using h'
  | d :: r, us, l', us', h, h' => by
    simp only [VRL] at h
    obtain ⟨u, us1, rfl, h1, h2⟩ := h
    simp only [List.cons_append, VRL]
    exact ⟨u, _, rfl, h1, VRL.append h2 h'⟩

theorem dv_one {x : D} {v : Value} (ho : oneV (.d x) = true) (h : RV w A [] vac x v) : v.oneCell' = true := by
  cases x with
  | iptr cells =>
    simp only [RV] at h
    obtain ⟨b, o, us, rfl, _⟩ := h
    rfl
  | imm els =>
    simp only [RV] at h
    exact RI.one h
  | gone => simpa [RV] using h
  | int k n => simp [RV] at h; simp [h, Value.oneCell']
  | bool b => simp [RV] at h; simp [h, Value.oneCell']
  | tt => simp [RV] at h; simp [h, Value.oneCell']
  | ff => simp [RV] at h; simp [h, Value.oneCell']
  | str b => simp [RV] at h; simp [h, Value.oneCell']
  | nils => simp [RV] at h; simp [h, Value.oneCell']
  | nilp => simp [RV] at h; simp [h, Value.oneCell']
  | nili => simp [RV] at h; simp [h, Value.oneCell']
  | _ => simp [oneV] at ho

theorem VR.one {d : V} {v : Value} (ho : oneV d = true) (h : VR T w A S s β d v) : v.oneCell' = true := by
  cases d with
  | undef => simp [oneV] at ho
  | gone => simpa [VR] using h
  | d x => simp only [VR] at h; exact dv_one ho h
  | sl id off len cap => simp only [VR] at h; exact h.1
  | ptr id off => simp only [VR] at h; exact h.1
  | agg cs => simp [oneV] at ho
  | tup cs => simp [oneV] at ho
  | fn f a b =>
    simp only [VR] at h
    obtain ⟨x, y, rfl, _⟩ := h
    rfl
theorem oneL_iff {l : List V} : oneL l = true ↔ ∀ v ∈ l, oneV v = true := by
  induction l with
  | nil => simp [oneL]
  | cons v r ih =>
    simp only [oneL]
    cases h : oneV v <;> simp [h, ih]
theorem VRL.one : ∀ {l : List V} {us : List Value}, (∀ v ∈ l, oneV v = true) → VRL T w A S s β l us → ∀ u ∈ us, u.oneCell' = true
  | [], us, _, h, u, hu => by simp [VRL] at h; subst h; cases hu
  | d :: r, us, ho, h, u, hu => by
    simp only [VRL] at h
    obtain ⟨v, us', rfl, h1, h2⟩ := h
    rcases List.mem_cons.1 hu with rfl | hu
    · exact h1.one (ho d (by simp))
    · exact VRL.one (fun v hv => ho v (by simp [hv])) h2 u hu

/-- flat data says nothing of the store -/
theorem VR.flat {d : V} {v : Value} (hf : flatV d = true) (h : VR T w A S s β d v) : VR T w A S' s' β' d v := by
  cases d <;> simp_all [flatV, VR]
theorem flatL_iff {l : List V} : flatL l = true ↔ ∀ v ∈ l, flatV v = true := by
  induction l with
  | nil => simp [flatL]
  | cons v r ih =>
    simp only [flatL]
    cases h : flatV v <;> simp [h, ih]
theorem VRL.flat : ∀ {l : List V} {us : List Value}, (∀ v ∈ l, flatV v = true) → VRL T w A S s β l us → VRL T w A S' s' β' l us
  | [], us, _, h => by simpa [VRL] using h
  | d :: r, us, hf, h => by
    simp only [VRL] at h ⊢
    obtain ⟨u, us', rfl, h1, h2⟩ := h
    exact ⟨u, us', rfl, h1.flat (hf d (by simp)), VRL.flat (fun v hv => hf v (by simp [hv])) h2⟩
end

/-! ### the store as a function -/
theorem sget_cons (j : Id) (o : O) (r : Sto) (i : Id) : sget ((j, o) :: r) i = if j = i then some o else sget r i := by
  simp only [sget]
  cases h : ideq j i
  · rw [ideq_false] at h; simp [h]
  · rw [ideq_iff] at h; simp [h]
theorem sget_sdel (s : Sto) (j i : Id) : sget (sdel s j) i = if j = i then none else sget s i := by
  induction s with
  | nil => simp [sdel, sget]
  | cons x r ih =>
    obtain ⟨k, o⟩ := x
    simp only [sdel]
    cases h : ideq k j
    · rw [ideq_false] at h
      simp only [sget_cons, ih]
      by_cases hk : k = i
      · subst hk; simp [Ne.symm h]
      · simp [hk]
    · rw [ideq_iff] at h
      subst h
      simp only [ih, sget_cons]
      by_cases hk : k = i <;> simp [hk]
theorem sget_sdels (s : Sto) (l : List Id) (i : Id) : sget (sdels s l) i = if i ∈ l then none else sget s i := by
  induction l generalizing s with
  | nil => simp [sdels]
  | cons j r ih =>
    simp only [sdels, ih, sget_sdel]
    by_cases h1 : i ∈ r
    · simp [h1]
    · by_cases h2 : j = i
      · simp [h2]
      · simp [h1, h2, Ne.symm h2]
theorem sget_append (s t : Sto) (i : Id) : sget (s ++ t) i = (sget s i).or (sget t i) := by
  induction s with
  | nil => simp [sget]
  | cons x r ih =>
    obtain ⟨k, o⟩ := x
    simp only [List.cons_append, sget_cons, ih]
    by_cases hk : k = i <;> simp [hk]
theorem eff_eq (s : Sto) (R : Rec) : eff s R = R.new ++ sdels s R.del := by
  unfold eff
  cases R.del with
  | nil => cases R.new <;> simp [sdels]
  | cons i r => rfl
theorem sget_eff (s : Sto) (R : Rec) (id : Id) : sget (eff s R) id = (sget R.new id).or (if id ∈ R.del then none else sget s id) := by
  rw [eff_eq, sget_append, sget_sdels]

/-! ### slots -/
theorem Tr.getP_lf : ∀ p : Way, Tr.getP p .lf = .undef
  | .e => rfl
  | .a p => Tr.getP_lf p
  | .b p => Tr.getP_lf p
  | .c p => Tr.getP_lf p
  | .d p => Tr.getP_lf p
theorem Tr.getP_e (t : Tr) : Tr.getP .e t = t.val := rfl
theorem Tr.getP_a (q : Way) (v : V) (a b c d : Tr) : Tr.getP (.a q) (.nd v a b c d) = Tr.getP q a := rfl
theorem Tr.getP_b (q : Way) (v : V) (a b c d : Tr) : Tr.getP (.b q) (.nd v a b c d) = Tr.getP q b := rfl
theorem Tr.getP_c (q : Way) (v : V) (a b c d : Tr) : Tr.getP (.c q) (.nd v a b c d) = Tr.getP q c := rfl
theorem Tr.getP_d (q : Way) (v : V) (a b c d : Tr) : Tr.getP (.d q) (.nd v a b c d) = Tr.getP q d := rfl
theorem Tr.val_nd (v : V) (a b c d : Tr) : Tr.val (.nd v a b c d) = v := rfl
theorem Tr.val_lf : Tr.val .lf = .undef := rfl
theorem Tr.getP_setP (v : V) : ∀ (p q : Way) (t : Tr), Tr.getP q (Tr.setP p v t) = if q = p then v else Tr.getP q t
  | .e, q, t => by
    cases t with
    | lf => rw [show Tr.setP .e v .lf = .nd v .lf .lf .lf .lf from rfl]; cases q <;> simp [Tr.getP_e, Tr.val_nd, Tr.getP_a, Tr.getP_b, Tr.getP_c, Tr.getP_d, Tr.getP_lf]
    | nd u a b c d => rw [show Tr.setP .e v (.nd u a b c d) = .nd v a b c d from rfl]; cases q <;> simp [Tr.getP_e, Tr.val_nd, Tr.getP_a, Tr.getP_b, Tr.getP_c, Tr.getP_d]
  | .a p, q, t => by
    cases t with
    | lf => rw [show Tr.setP (.a p) v .lf = .nd .undef (Tr.setP p v .lf) .lf .lf .lf from rfl]; cases q <;> simp [Tr.getP_e, Tr.val_nd, Tr.val_lf, Tr.getP_a, Tr.getP_b, Tr.getP_c, Tr.getP_d, Tr.getP_lf, Tr.getP_setP v p]
    | nd u a b c d => rw [show Tr.setP (.a p) v (.nd u a b c d) = .nd u (Tr.setP p v a) b c d from rfl]; cases q <;> simp [Tr.getP_e, Tr.val_nd, Tr.getP_a, Tr.getP_b, Tr.getP_c, Tr.getP_d, Tr.getP_setP v p]
  | .b p, q, t => by
    cases t with
    | lf => rw [show Tr.setP (.b p) v .lf = .nd .undef .lf (Tr.setP p v .lf) .lf .lf from rfl]; cases q <;> simp [Tr.getP_e, Tr.val_nd, Tr.val_lf, Tr.getP_a, Tr.getP_b, Tr.getP_c, Tr.getP_d, Tr.getP_lf, Tr.getP_setP v p]
    | nd u a b c d => rw [show Tr.setP (.b p) v (.nd u a b c d) = .nd u a (Tr.setP p v b) c d from rfl]; cases q <;> simp [Tr.getP_e, Tr.val_nd, Tr.getP_a, Tr.getP_b, Tr.getP_c, Tr.getP_d, Tr.getP_setP v p]
  | .c p, q, t => by
    cases t with
    | lf => rw [show Tr.setP (.c p) v .lf = .nd .undef .lf .lf (Tr.setP p v .lf) .lf from rfl]; cases q <;> simp [Tr.getP_e, Tr.val_nd, Tr.val_lf, Tr.getP_a, Tr.getP_b, Tr.getP_c, Tr.getP_d, Tr.getP_lf, Tr.getP_setP v p]
    | nd u a b c d => rw [show Tr.setP (.c p) v (.nd u a b c d) = .nd u a b (Tr.setP p v c) d from rfl]; cases q <;> simp [Tr.getP_e, Tr.val_nd, Tr.getP_a, Tr.getP_b, Tr.getP_c, Tr.getP_d, Tr.getP_setP v p]
  | .d p, q, t => by
    cases t with
    | lf => rw [show Tr.setP (.d p) v .lf = .nd .undef .lf .lf .lf (Tr.setP p v .lf) from rfl]; cases q <;> simp [Tr.getP_e, Tr.val_nd, Tr.val_lf, Tr.getP_a, Tr.getP_b, Tr.getP_c, Tr.getP_d, Tr.getP_lf, Tr.getP_setP v p]
    | nd u a b c d => rw [show Tr.setP (.d p) v (.nd u a b c d) = .nd u a b c (Tr.setP p v d) from rfl]; cases q <;> simp [Tr.getP_e, Tr.val_nd, Tr.getP_a, Tr.getP_b, Tr.getP_c, Tr.getP_d, Tr.getP_setP v p]
def unway : Way → Nat
  | .e => 0
  | .a r => 4 * unway r + 1
  | .b r => 4 * unway r + 2
  | .c r => 4 * unway r + 3
  | .d r => 4 * unway r + 4
theorem unway_wayK : ∀ (k i : Nat), i ≤ k → unway (wayK k i) = i
  | 0, i, h => by
    obtain rfl : i = 0 := by omega
    rfl
  | k + 1, 0, h => rfl
  | k + 1, i + 1, h => by
    have ih := unway_wayK k (i / 4) (by omega)
    rcases (by omega : i % 4 = 0 ∨ i % 4 = 1 ∨ i % 4 = 2 ∨ i % 4 = 3) with h | h | h | h <;> simp only [wayK, h, unway, ih] <;> omega
theorem pathOf_inj {i j : Nat} (h : pathOf i = pathOf j) : i = j := by
  have := congrArg unway h
  rwa [pathOf, pathOf, unway_wayK i i (Nat.le_refl _), unway_wayK j j (Nat.le_refl _)] at this
theorem get_setE {e : Env} {i j : Nat} {v : V} (h : i < most) : (setE e i v).get j = if j = i then v else e.get j := by
  unfold setE Tr.get
  rw [Tr.getP_setP]
  by_cases hj : j = i
  · subst hj; simp
  · rw [if_neg hj, if_neg (fun e => hj (pathOf_inj e))]

/-! ### lists -/
theorem lenV_eq (l : List V) : lenV l = l.length := by induction l with | nil => rfl | cons d r ih => simp [lenV, ih]
theorem takeV_eq (n : Nat) (l : List V) : takeV n l = l.take n := by
  induction l generalizing n with
  | nil => cases n <;> simp [takeV]
  | cons d r ih => cases n <;> simp [takeV, ih]
theorem dropV_eq (n : Nat) (l : List V) : dropV n l = l.drop n := by
  induction l generalizing n with
  | nil => cases n <;> simp [dropV]
  | cons d r ih => cases n <;> simp [dropV, ih]
theorem writeV_eq (cs : List V) (off : Nat) (new : List V) : writeV cs off new = cs.take off ++ (new ++ cs.drop (off + new.length)) := by simp [writeV, takeV_eq, dropV_eq, lenV_eq]
theorem wrapL_eq (l : List D) : wrapL l = l.map .d := by induction l with | nil => rfl | cons d r ih => simp [wrapL, ih]
theorem packV_some {agg : Bool} {sz : Nat} {cs : List V} {v : V} (h : packV agg sz cs = some v) : cs.length = sz ∧ ((agg = true ∧ v = .agg cs) ∨ (agg = false ∧ cs = [v])) := by
  unfold packV at h
  split at h
  · rename_i h1
    simp only [Option.some.injEq] at h
    rw [lenV_eq] at h1
    exact ⟨by simpa using h1, .inl ⟨rfl, h.symm⟩⟩
  · rename_i h1
    simp only [Option.some.injEq] at h
    rw [lenV_eq] at h1
    subst h
    exact ⟨by simpa using h1, .inr ⟨rfl, rfl⟩⟩
  · cases h
end Go.CR

/- The state of a call against memory, and its steps. -/
namespace Go.CR
open Go
open Go.DW (D TT TI TK RV RVL RI RIL RILL ideq ideq_iff ideq_false TOk TRow GOk zerosAre)

/-- what stands in memory for an object -/
def RO (T : TT) (w : World) (A : Nat → Prop) (S : Nat → Prop) (s : Sto) (β : Id → Place) (id : Id) (o : O) : Prop :=
  ∃ cur, w.heap[(β id).1]? = some (.cells cur o.t (0, 0)) ∧ cur.size = (β id).2.2 ∧
    VRL T w A S s β o.cs ((cur.toList.drop (β id).2.1).take o.cs.length) ∧ (∀ v ∈ o.cs, oneV v = true) ∧ (o.fl = true → ∀ v ∈ o.cs, flatV v = true)

abbrev Live (s : Sto) (id : Id) : Prop := (sget s id).isSome = true

structure Rel (T : TT) (N : Nat) (w0 : World) (A : Nat → Prop) (s0 : Sto) (β0 : Id → Place) (w : World) (S : Nat → Prop) (s : Sto) (β : Id → Place) (e : Env) (a : Act) (Dp : Nat → Prop) : Prop where
  defers : a.defers = []
  tsize : a.tmps.size = N
  nmost : N ≤ most
  env : ∀ t, VR T w A S s β (e.get t) (a.tmps.getD t undef)
  obj : ∀ id o, sget s id = some o → RO T w A S s β id o ∧ S id.1
  inj : ∀ i j o o', sget s i = some o → sget s j = some o' → (β i).1 = (β j).1 → i = j ∨ (o.ro = true ∧ o'.ro = true)
  rw : ∀ j o, Dp j → sget s0 (0, j) = some o → o.ro = false
  fresh : ∀ i, Live s i → i.1 = 0 ∨ w0.heap.size ≤ (β i).1 ∨ ∃ j, Dp j ∧ Live s0 (0, j) ∧ (β0 (0, j)).1 = (β i).1
  pin : ∀ j, β (0, j) = β0 (0, j)
  same : ∀ j, ¬ Dp j → sget s (0, j) = sget s0 (0, j)
  keepT : ∀ j o, sget s (0, j) = some o → ∃ o0, sget s0 (0, j) = some o0 ∧ o.t = o0.t
  frame : ∀ b, b < w0.heap.size → (∀ j, Dp j → Live s0 (0, j) → (β0 (0, j)).1 ≠ b) → w.heap[b]? = w0.heap[b]?
  hsize : w0.heap.size ≤ w.heap.size
  os : w.os = w0.os
  tape : w.tape = w0.tape
  output : w.output = w0.output
  base : ∀ b, A b → b < w0.heap.size ∧ ∀ j, Live s0 (0, j) → (β0 (0, j)).1 ≠ b
  zero : S 0

section
variable {T : TT} {N : Nat} {w0 : World} {A : Nat → Prop} {s0 : Sto} {β0 : Id → Place} {w : World} {S : Nat → Prop} {s : Sto} {β : Id → Place} {e : Env} {a : Act} {Dp : Nat → Prop}

theorem RO.lt {id : Id} {o : O} (h : RO T w A S s β id o) : (β id).1 < w.heap.size := by
  obtain ⟨cur, h1, _⟩ := h
  exact (Array.getElem?_eq_some_iff.1 h1).1
theorem RO.mono {w' : World} {S' : Nat → Prop} {s' : Sto} {β' : Id → Place} {id : Id} {o : O} (h : RO T w A S s β id o) (hw : ∀ b, A b → w'.heap[b]? = w.heap[b]?) (hS : ∀ n, S n → S' n) (hag : Agrees S s s' β β')
    (hβ : β' id = β id) (hb : w'.heap[(β id).1]? = w.heap[(β id).1]?) : RO T w' A S' s' β' id o := by
  obtain ⟨cur, h1, h2, h4, h5⟩ := h
  exact ⟨cur, by rw [hβ, hb]; exact h1, by rw [hβ]; exact h2, by rw [hβ]; exact VRL.mono hw hS hag _ _ h4, h5⟩

theorem Rel.keep (h : Rel T N w0 A s0 β0 w S s β e a Dp) (j : Nat) (hl : Live s (0, j)) : Live s0 (0, j) := by
  obtain ⟨o, ho⟩ := Option.isSome_iff_exists.1 hl
  obtain ⟨o0, h0, _⟩ := h.keepT j o ho
  simp [Live, h0]
theorem Rel.old (h : Rel T N w0 A s0 β0 w S s β e a Dp) (b : Nat) (hb : A b) : w.heap[b]? = w0.heap[b]? :=
  h.frame b (h.base b hb).1 fun j _ hj => (h.base b hb).2 j hj
/-- no object lies where memory is only read -/
theorem Rel.notA (h : Rel T N w0 A s0 β0 w S s β e a Dp) {id : Id} (hl : Live s id) : ¬ A (β id).1 := by
  intro hA
  obtain ⟨h1, h2⟩ := h.base _ hA
  rcases h.fresh id hl with h3 | h3 | ⟨j, _, h4, h5⟩
  · obtain ⟨i, j⟩ := id
    simp only at h3
    subst h3
    exact h2 j (h.keep j hl) (by rw [← h.pin])
  · omega
  · exact h2 j h4 h5

/-- a change of memory, as an operation's record tells it -/
structure Chg (T : TT) (A : Nat → Prop) (w w' : World) (S : Nat → Prop) (s : Sto) (β : Id → Place) (d : Nat) (R : Rec) (β' : Id → Place) (v : Value) : Prop where
  os : w'.os = w.os
  tape : w'.tape = w.tape
  output : w'.output = w.output
  size : w.heap.size ≤ w'.heap.size
  blocks : ∀ b, b < w.heap.size → (∀ id ∈ R.del, Live s id → (β id).1 ≠ b) → w'.heap[b]? = w.heap[b]?
  beta : ∀ id : Id, id.1 ≠ d → β' id = β id
  new : ∀ id o', sget R.new id = some o' → (id ∈ R.del ∧ ∃ o, sget s id = some o ∧ o'.t = o.t) ∨ id.1 = d
  newblk : ∀ id o', sget R.new id = some o' → id.1 = d → w.heap.size ≤ (β' id).1 ∨ ∃ i ∈ R.del, Live s i ∧ (β i).1 = (β' id).1
  newinj : ∀ i j o o', sget R.new i = some o → sget R.new j = some o' → (β' i).1 = (β' j).1 → i = j ∨ (o.ro = true ∧ o'.ro = true)
  delrw : ∀ id ∈ R.del, ∀ o, sget s id = some o → o.ro = false
  objs : ∀ id o', sget R.new id = some o' → RO T w' A (fun n => S n ∨ n = d) (eff s R) β' id o'
  val : VR T w' A (fun n => S n ∨ n = d) (eff s R) β' R.v v

theorem getD_put {a : Act} {i t : Nat} {v : Value} (hi : i < a.tmps.size) : (a.put (some i) v).tmps.getD t undef = if t = i then v else a.tmps.getD t undef := by
  simp only [Act.put, Array.getD_eq_getD_getElem?, Array.getElem?_setIfInBounds]
  by_cases h : i = t
  · subst h; simp [hi]
  · simp [h, Ne.symm h]

theorem dstOk_some {N i : Nat} (h : dstOk N (some i) = true) : i < N := by
  simpa only [dstOk, Nat.blt_eq] using h

theorem Rel.put (h : Rel T N w0 A s0 β0 w S s β e a Dp) {d : V} {v : Value} {dst : Option Nat} (hd : dstOk N dst = true) (hv : VR T w A S s β d v) : Rel T N w0 A s0 β0 w S s β (put e dst d) (a.put dst v) Dp := by
  cases dst with
  | none => exact h
  | some i =>
    have h1 := dstOk_some hd
    have h2 : i < most := Nat.lt_of_lt_of_le h1 h.nmost
    refine { h with defers := h.defers, tsize := by simp [Act.put, h.tsize], env := fun t => ?_ }
    simp only [CR.put]
    rw [get_setE h2, getD_put (by rw [h.tsize]; exact h1)]
    split
    · exact hv
    · exact h.env t

theorem Chg.agrees {w' : World} {d : Nat} {R : Rec} {β' : Id → Place} {v : Value} (c : Chg T A w w' S s β d R β' v) (hd : ¬ S d) : Agrees S s (eff s R) β β' := by
  intro id o' hS ho'
  have hne : id.1 ≠ d := fun e => hd (e ▸ hS)
  rw [sget_eff] at ho'
  cases hn : sget R.new id with
  | some o2 =>
    rw [hn] at ho'
    simp only [Option.some_or, Option.some.injEq] at ho'
    subst ho'
    rcases c.new id o2 hn with ⟨_, o, h1, h2⟩ | h1
    · exact ⟨o, h1, c.beta id hne, h2⟩
    · exact absurd h1 hne
  | none =>
    rw [hn] at ho'
    simp only [Option.none_or] at ho'
    split at ho'
    · cases ho'
    · exact ⟨o', ho', c.beta id hne, rfl⟩

theorem Rel.chg (h : Rel T N w0 A s0 β0 w S s β e a Dp) {w' : World} {d : Nat} {R : Rec} {β' : Id → Place} {v : Value} (c : Chg T A w w' S s β d R β' v) (hd : ¬ S d) {dst : Option Nat} (hdst : dstOk N dst = true) :
    Rel T N w0 A s0 β0 w' (fun n => S n ∨ n = d) (eff s R) β' (CR.put e dst R.v) (a.put dst v) (fun j => Dp j ∨ (0, j) ∈ R.del) := by
  have hag := c.agrees hd
  have hS : ∀ n, S n → (S n ∨ n = d) := fun n hn => .inl hn
  have hd0 : d ≠ 0 := fun e => hd (e ▸ h.zero)
  have hA : ∀ b, A b → w'.heap[b]? = w.heap[b]? := by
    intro b hb
    refine c.blocks b (Nat.lt_of_lt_of_le (h.base b hb).1 h.hsize) fun id _ hl e => h.notA hl (e ▸ hb)
  have hcase : ∀ id, Live (eff s R) id → (Live R.new id) ∨ (sget R.new id = none ∧ id ∉ R.del ∧ Live s id ∧ sget (eff s R) id = sget s id) := by
    intro id hl
    cases hn : sget R.new id with
    | some o => exact .inl (by simp [Live, hn])
    | none =>
      unfold Live at hl
      rw [sget_eff, hn] at hl
      simp only [Option.none_or] at hl
      split at hl
      · simp at hl
      · rename_i hnd
        exact .inr ⟨rfl, hnd, hl, by rw [sget_eff, hn]; simp [hnd]⟩
  have hold : ∀ id, Live s id → id.1 ≠ d := by
    intro id hl e
    obtain ⟨o, ho⟩ := Option.isSome_iff_exists.1 hl
    exact hd (e ▸ (h.obj id o ho).2)
  have hlt : ∀ id, Live s id → (β id).1 < w.heap.size := by
    intro id hl
    obtain ⟨o, ho⟩ := Option.isSome_iff_exists.1 hl
    exact (h.obj id o ho).1.lt
  have hone : ∀ i j, Live s i → Live s j → j ∉ R.del → i ∈ R.del → (β i).1 = (β j).1 → False := by
    intro i j hi hj hjd hid he
    obtain ⟨o, ho⟩ := Option.isSome_iff_exists.1 hi
    obtain ⟨o2, ho2⟩ := Option.isSome_iff_exists.1 hj
    rcases h.inj i j o o2 ho ho2 he with rfl | ⟨h1, _⟩
    · exact hjd hid
    · rw [c.delrw i hid o ho] at h1
      cases h1
  have hmix : ∀ i j, Live R.new i → Live s j → j ∉ R.del → (β' i).1 ≠ (β' j).1 := by
    intro i j hi hj hjd he
    rw [c.beta j (hold j hj)] at he
    obtain ⟨o', ho'⟩ := Option.isSome_iff_exists.1 hi
    rcases c.new i o' ho' with ⟨hid, o, ho, _⟩ | hid
    · have hil : Live s i := by simp [Live, ho]
      rw [c.beta i (hold i hil)] at he
      exact hone i j hil hj hjd hid he
    · rcases c.newblk i o' ho' hid with h1 | ⟨k, hk, hkl, hkb⟩
      · have := hlt j hj
        omega
      · exact hone k j hkl hj hjd hk (by rw [hkb]; exact he)
  have main : Rel T N w0 A s0 β0 w' (fun n => S n ∨ n = d) (eff s R) β' e a (fun j => Dp j ∨ (0, j) ∈ R.del) := by
    refine ⟨h.defers, h.tsize, h.nmost, fun t => (h.env t).mono hA hS hag, ?_, ?_, ?_, ?_, fun j => by rw [c.beta _ (by exact hd0.symm)]; exact h.pin j, ?_, ?_, ?_, Nat.le_trans h.hsize c.size, c.os.trans h.os, c.tape.trans h.tape, c.output.trans h.output, h.base, .inl h.zero⟩
    · intro id o' ho'
      rcases hcase id (by simp [Live, ho']) with hn | ⟨hn, hnd, hl, he⟩
      · obtain ⟨o2, ho2⟩ := Option.isSome_iff_exists.1 hn
        have heq : o' = o2 := by
          rw [sget_eff, ho2] at ho'
          simpa using ho'.symm
        subst heq
        refine ⟨c.objs id o' ho2, ?_⟩
        rcases c.new id o' ho2 with ⟨_, o, ho, _⟩ | hid
        · exact .inl (h.obj id o ho).2
        · exact .inr hid
      · rw [he] at ho'
        obtain ⟨h1, h2⟩ := h.obj id o' ho'
        refine ⟨h1.mono hA hS hag (c.beta id (hold id hl)) ?_, .inl h2⟩
        refine c.blocks _ h1.lt fun i hi hil hib => ?_
        exact hone i id hil hl hnd hi hib
    · intro i j o o' hio hjo he
      have hi : Live (eff s R) i := by simp [Live, hio]
      have hj : Live (eff s R) j := by simp [Live, hjo]
      have newo : ∀ i o, sget (eff s R) i = some o → Live R.new i → sget R.new i = some o := by
        intro i o hio hl
        obtain ⟨o2, ho2⟩ := Option.isSome_iff_exists.1 hl
        rw [sget_eff, ho2] at hio
        simp at hio
        rw [ho2, hio]
      rcases hcase i hi with h1 | ⟨_, h1d, h1, h1e⟩ <;> rcases hcase j hj with h2 | ⟨_, h2d, h2, h2e⟩
      · exact c.newinj i j o o' (newo i o hio h1) (newo j o' hjo h2) he
      · exact absurd he (hmix i j h1 h2 h2d)
      · exact absurd he.symm (hmix j i h2 h1 h1d)
      · rw [c.beta i (hold i h1), c.beta j (hold j h2)] at he
        rw [h1e] at hio
        rw [h2e] at hjo
        exact h.inj i j o o' hio hjo he
    · intro j o hj ho
      rcases hj with hj | hj
      · exact h.rw j o hj ho
      · by_cases hdj : Dp j
        · exact h.rw j o hdj ho
        · have := h.same j hdj
          rw [ho] at this
          exact c.delrw _ hj o this
    · intro i hi
      have old : ∀ i, Live s i → (i.1 = 0 ∨ w0.heap.size ≤ (β i).1 ∨ ∃ j, (Dp j ∨ (0, j) ∈ R.del) ∧ Live s0 (0, j) ∧ (β0 (0, j)).1 = (β i).1) := by
        intro i hl
        rcases h.fresh i hl with h1 | h1 | ⟨j, h1, h2⟩
        · exact .inl h1
        · exact .inr (.inl h1)
        · exact .inr (.inr ⟨j, .inl h1, h2⟩)
      rcases hcase i hi with h1 | ⟨_, h1d, h1, _⟩
      · obtain ⟨o', ho'⟩ := Option.isSome_iff_exists.1 h1
        rcases c.new i o' ho' with ⟨hid, o, ho, _⟩ | hid
        · have hil : Live s i := by simp [Live, ho]
          rw [c.beta i (hold i hil)]
          exact old i hil
        · rcases c.newblk i o' ho' hid with h2 | ⟨k, hk, hkl, hkb⟩
          · exact .inr (.inl (Nat.le_trans h.hsize h2))
          · rw [← hkb]
            rcases old k hkl with h3 | h3 | h3
            · obtain ⟨k1, k2⟩ := k
              simp only at h3
              subst h3
              exact .inr (.inr ⟨k2, .inr hk, h.keep k2 hkl, by rw [h.pin]⟩)
            · exact .inr (.inl h3)
            · exact .inr (.inr h3)
      · rw [c.beta i (hold i h1)]
        exact old i h1
    · intro j hj
      simp only [not_or] at hj
      rw [sget_eff, if_neg hj.2]
      cases hn : sget R.new (0, j) with
      | none => simpa using h.same j hj.1
      | some o' =>
        rcases c.new _ o' hn with ⟨hid, _⟩ | hid
        · exact absurd hid hj.2
        · exact absurd hid (by exact hd0.symm)
    · intro j o1 ho1
      rcases hcase (0, j) (by simp [Live, ho1]) with h1 | ⟨_, _, h1, he⟩
      · obtain ⟨o', ho'⟩ := Option.isSome_iff_exists.1 h1
        have heq : o1 = o' := by
          rw [sget_eff, ho'] at ho1
          simpa using ho1.symm
        subst heq
        rcases c.new _ o1 ho' with ⟨_, o, ho, ht⟩ | hid
        · obtain ⟨o0, h2, h3⟩ := h.keepT j o ho
          exact ⟨o0, h2, ht.trans h3⟩
        · exact absurd hid (by exact hd0.symm)
      · rw [he] at ho1
        exact h.keepT j o1 ho1
    · intro b hb hnb
      rw [c.blocks b (Nat.lt_of_lt_of_le hb h.hsize) fun id hid hl he => ?_]
      · exact h.frame b hb fun j hj => hnb j (.inl hj)
      · rcases h.fresh id hl with h1 | h1 | ⟨j, h1, h2, h3⟩
        · obtain ⟨k1, k2⟩ := id
          simp only at h1
          subst h1
          exact hnb k2 (.inr hid) (h.keep k2 hl) (by rw [← h.pin]; exact he)
        · omega
        · exact hnb j (.inl h1) h2 (h3.trans he)
  exact main.put hdst c.val

theorem VR.val {R : Rec} {d : Nat} {x : V} {v : Value} (hv : VR T w A S s β x v) (hr : R.del = []) (hn : R.new = []) : VR T w A (fun n => S n ∨ n = d) (eff s R) β x v := by
  have : eff s R = s := by simp [eff_eq, hr, hn, sdels]
  rw [this]
  exact hv.mono (fun _ _ => rfl) (fun n h => .inl h) (Agrees.refl S s β)
/-- a value alone -/
theorem Chg.val1 {x : V} {v : Value} {acc : List Id} {d : Nat} (hv : VR T w A S s β x v) : Chg T A w w S s β d ⟨x, acc, [], []⟩ β v :=
  ⟨rfl, rfl, rfl, Nat.le_refl _, fun _ _ _ => rfl, fun _ _ => rfl, fun id o' h => by simp [sget] at h, fun id o' h => by simp [sget] at h, fun i j o o' h => by simp [sget] at h, fun id h => by simp at h, fun id o' h => by simp [sget] at h, VR.val hv rfl rfl⟩

theorem sget_one {i : Id} {o o' : O} {id : Id} (h : sget [(i, o)] id = some o') : id = i ∧ o' = o := by
  rw [sget_cons] at h
  split at h
  · rename_i h1
    simp only [Option.some.injEq] at h
    exact ⟨h1.symm, h.symm⟩
  · simp [sget] at h

/-- an object is made -/
theorem Chg.add1 (h : Rel T N w0 A s0 β0 w S s β e a Dp) {x : V} {v : Value} {acc : List Id} {d : Nat} (hd : ¬ S d) {o : O} {w' : World} {b : Nat} {n : Nat × Nat} (hg : w.grownBy w' none) (hb : w.heap.size ≤ b)
    (ho : ∀ s' β' S', (∀ n, S n → S' n) → Agrees S s s' β β' → β' (d, 0) = (b, n) → RO T w' A S' s' β' (d, 0) o)
    (hv : ∀ s' β' S', (∀ n, S n → S' n) → S' d → Agrees S s s' β β' → β' (d, 0) = (b, n) → sget s' (d, 0) = some o → VR T w' A S' s' β' x v) :
    ∃ β', Chg T A w w' S s β d ⟨x, acc, [], [((d, 0), o)]⟩ β' v := by
  have hag : Agrees S s (eff s ⟨x, acc, [], [((d, 0), o)]⟩) β (fun id => if id = (d, 0) then (b, n) else β id) := by
    intro id o' hS ho'
    have hne : id ≠ (d, 0) := by rintro rfl; exact hd hS
    rw [sget_eff, sget_cons, if_neg (Ne.symm hne)] at ho'
    simp only [sget, Option.none_or, List.not_mem_nil, if_false] at ho'
    exact ⟨o', ho', by simp [hne], rfl⟩
  refine ⟨fun id => if id = (d, 0) then (b, n) else β id, hg.os, hg.tape, hg.output, hg.size, fun b hb _ => hg.block b hb (by simp), ?_, ?_, ?_, ?_, fun id h => by simp at h, ?_, ?_⟩
  · intro id hid
    have : id ≠ (d, 0) := by rintro rfl; exact hid rfl
    simp [this]
  · intro id o' h1
    obtain ⟨rfl, _⟩ := sget_one h1
    exact .inr rfl
  · intro id o' h1 _
    obtain ⟨rfl, _⟩ := sget_one h1
    exact .inl (by simpa using hb)
  · intro i j o1 o2 h1 h2 _
    exact .inl (by rw [(sget_one h1).1, (sget_one h2).1])
  · intro id o' h1
    obtain ⟨rfl, rfl⟩ := sget_one h1
    exact ho _ _ _ (fun n hn => .inl hn) hag (by simp)
  · exact hv _ _ _ (fun n hn => .inl hn) (.inr rfl) hag (by simp) (by rw [sget_eff]; simp [sget_cons])

/-- an object is changed in its place, or goes over into another one -/
theorem Chg.upd1 (h : Rel T N w0 A s0 β0 w S s β e a Dp) {x : V} {v : Value} {acc : List Id} {d : Nat} (hd : ¬ S d) {id i : Id} {o o' : O} {w' : World} (hid : sget s id = some o) (hrw : o.ro = false) (hi : (i = id ∧ o'.t = o.t) ∨ i = (d, 0)) (hg : w.grownBy w' (some (β id).1)) {n : Place}
    (hn : n.1 = (β id).1 ∨ (i = (d, 0) ∧ w.heap.size ≤ n.1)) (hn2 : i = id → n = β id)
    (ho : ∀ s' β' S', (∀ n, S n → S' n) → Agrees S s s' β β' → β' i = n → RO T w' A S' s' β' i o')
    (hv : ∀ s' β' S', (∀ n, S n → S' n) → S' d → Agrees S s s' β β' → β' i = n → sget s' i = some o' → VR T w' A S' s' β' x v) :
    ∃ β', Chg T A w w' S s β d ⟨x, acc, [id], [(i, o')]⟩ β' v := by
  have hSid := (h.obj id o hid).2
  have hidd : id.1 ≠ d := fun e => hd (e ▸ hSid)
  have hb' : ∀ id', S id'.1 → (if id' = i then n else β id') = β id' := by
    intro id' hS
    split
    · rename_i he
      subst he
      rcases hi with ⟨rfl, _⟩ | rfl
      · exact hn2 rfl
      · exact absurd hS hd
    · rfl
  have hag : Agrees S s (eff s ⟨x, acc, [id], [(i, o')]⟩) β (fun id => if id = i then n else β id) := by
    intro id' o2 hS ho2
    rw [sget_eff, sget_cons] at ho2
    simp only [List.mem_singleton] at ho2
    split at ho2
    · rename_i he
      subst he
      simp only [Option.some_or, Option.some.injEq] at ho2
      subst ho2
      rcases hi with ⟨rfl, ht⟩ | rfl
      · exact ⟨o, hid, hb' _ hS, ht⟩
      · exact absurd hS hd
    · simp only [sget, Option.none_or] at ho2
      split at ho2
      · cases ho2
      · exact ⟨o2, ho2, hb' _ hS, rfl⟩
  refine ⟨fun id => if id = i then n else β id, hg.os, hg.tape, hg.output, hg.size, ?_, ?_, ?_, ?_, ?_, ?_, ?_, ?_⟩
  · intro b hb hnb
    refine hg.block b hb ?_
    simp only [ne_eq, Option.some.injEq]
    exact fun e => hnb id (by simp) (by simp [Live, hid]) e.symm
  · intro id' hne
    by_cases he : id' = i
    · subst he
      rcases hi with ⟨rfl, _⟩ | rfl
      · simp [hn2]
      · exact absurd rfl hne
    · simp [he]
  · intro id' o2 h1
    obtain ⟨rfl, rfl⟩ := sget_one h1
    rcases hi with ⟨rfl, ht⟩ | rfl
    · exact .inl ⟨by simp, o, hid, ht⟩
    · exact .inr rfl
  · intro id' o2 h1 _
    obtain ⟨rfl, _⟩ := sget_one h1
    simp only [if_true]
    rcases hn with hn | ⟨_, hn⟩
    · exact .inr ⟨id, by simp, by simp [Live, hid], hn.symm⟩
    · exact .inl hn
  · intro p q o1 o2 h1 h2 _
    exact .inl (by rw [(sget_one h1).1, (sget_one h2).1])
  · intro id' hm o2 ho2
    simp only [List.mem_singleton] at hm
    subst hm
    rw [hid] at ho2
    cases ho2
    exact hrw
  · intro id' o2 h1
    obtain ⟨rfl, rfl⟩ := sget_one h1
    exact ho _ _ _ (fun n hn => .inl hn) hag (by simp)
  · exact hv _ _ _ (fun n hn => .inl hn) (.inr rfl) hag (by simp) (by rw [sget_eff]; simp [sget_cons])
end
end Go.CR

/- Operations that write to no memory: their runs. -/
namespace Go.CR
open Go
open Go.DW (D TT TI TK RV RVL RI RIL RILL ideq ideq_iff ideq_false TOk TRow GOk zerosAre)

/-- the operation's run -/
def Runs (P : Program) (o : Oper) (a : Act) (w : World) (v : Value) (w' : World) : Prop :=
  (execOp a.eval o).run P w = .ok (.value v) w' ∨ ((execOp a.eval o).run P w = .ok .skip w' ∧ v = undef)
def Good (P : Program) (T : TT) (A : Nat → Prop) (o : Oper) (a : Act) (w : World) (S : Nat → Prop) (s : Sto) (β : Id → Place) (d : Nat) (R : Rec) : Prop :=
  ∃ v w' β', Runs P o a w v w' ∧ Chg T A w w' S s β d R β' v

section
variable {P : Program} {c : Ctx} {N : Nat} {w0 : World} {A : Nat → Prop} {s0 : Sto} {β0 : Id → Place} {w : World} {S : Nat → Prop} {s : Sto} {β : Id → Place} {e : Env} {a : Act} {Dp : Nat → Prop} {o : Oper} {d : Nat} {R : Rec} {T : TT} {G : Nat → Option (List D)}

theorem Good.val {x : V} {v : Value} {acc : List Id} (hrun : (execOp a.eval o).run P w = .ok (.value v) w) (hv : VR T w A S s β x v) : Good P T A o a w S s β d ⟨x, acc, [], []⟩ :=
  ⟨v, w, β, .inl hrun, Chg.val1 hv⟩
theorem Good.ret {x : V} {v : Value} {R : Rec} (hr : ret x = some R) (hrun : (execOp a.eval o).run P w = .ok (.value v) w) (hv : VR T w A S s β x v) : Good P T A o a w S s β d R := by
  simp only [CR.ret, Option.some.injEq] at hr
  subst hr
  exact Good.val hrun hv

/-- an object is looked into -/
theorem withObj_some {g : Id → Option O} {id : Id} {K : O → Option Rec} {R : Rec} (h : withObj g id K = some R) : ∃ ob R1, g id = some ob ∧ K ob = some R1 ∧ R = ⟨R1.v, id :: R1.acc, R1.del, R1.new⟩ := by
  unfold withObj at h
  split at h
  · cases h
  · rename_i ob hob
    split at h
    · cases h
    · rename_i R1 hR
      simp only [Option.some.injEq] at h
      exact ⟨ob, R1, hob, hR, h.symm⟩
theorem Good.acc {R1 : Rec} {acc : List Id} (h : Good P T A o a w S s β d R1) : Good P T A o a w S s β d ⟨R1.v, acc, R1.del, R1.new⟩ := by
  obtain ⟨v, w', β', h1, h2⟩ := h
  exact ⟨v, w', β', h1, ⟨h2.os, h2.tape, h2.output, h2.size, h2.blocks, h2.beta, h2.new, h2.newblk, h2.newinj, h2.delrw, h2.objs, h2.val⟩⟩

theorem gok_now (hG : GOk G w0 A) (h : Rel T N w0 A s0 β0 w S s β e a Dp) : GOk G w A := by
  intro g cells hg
  obtain ⟨us, h1, h2, h3⟩ := hG g cells hg
  exact ⟨us, h1, DW.rangeAt_mono h.old h1 h2, RIL.mono (fun _ h => h) h.old _ _ h3⟩

theorem opnd_vr (hG : GOk G w0 A) (h : Rel T N w0 A s0 β0 w S s β e a Dp) (x : Operand) : VR T w A S s β (opnd G e x) (a.eval x) := by
  cases x with
  | tmp t =>
    have := h.env t
    simpa [opnd, Act.eval] using this
  | const v =>
    simp only [opnd, Act.eval, VR]
    unfold DW.ofConst
    split <;> simp [RV]
  | global g =>
    simp only [opnd, Act.eval]
    split
    · rename_i cs hc
      obtain ⟨us, h1, h2, h3⟩ := gok_now hG h g cs hc
      simp only [VR, RV]
      exact ⟨g, 0, us, rfl, h1, h2, h3⟩
    · simp [VR]
  | func f =>
    simp only [opnd, Act.eval, VR]
    exact ⟨#[], #[], rfl, by simp [VRL], by simp [VRL]⟩
theorem opnds_vr (hG : GOk G w0 A) (h : Rel T N w0 A s0 β0 w S s β e a Dp) : ∀ l : List Operand, VRL T w A S s β (l.map (opnd G e)) (l.map a.eval)
  | [] => by simp [VRL]
  | x :: r => by
    simp only [List.map_cons, VRL]
    exact ⟨_, _, rfl, opnd_vr hG h x, opnds_vr hG h r⟩

theorem boolV_vr {x : V} {b : Bool} {v : Value} (hb : boolV x = some b) (hv : VR T w A S s β x v) : v = .bool b := by
  unfold boolV at hb
  split at hb
  · simp only [VR] at hv
    exact DW.boolOf_rv hb hv
  · cases hb
theorem natOf_vr {x : V} {n : Nat} {v : Value} (hb : natOf x = some n) (hv : VR T w A S s β x v) : ∃ k, v = .int k n := by
  unfold natOf at hb
  split at hb
  · rename_i k m
    simp only [Option.some.injEq] at hb
    subst hb
    simp only [VR, RV] at hv
    exact ⟨k, hv⟩
  · cases hb

/-! ### what only computes -/
theorem bytesEq_iff (a b : List UInt8) : bytesEq a b = (a == b) := by
  induction a generalizing b with
  | nil => cases b <;> rfl
  | cons x r ih =>
    cases b with
    | nil => rfl
    | cons y q =>
      simp only [bytesEq, List.cons_beq_cons]
      cases h : Nat.beq x.toNat y.toNat
      · have : x ≠ y := by rintro rfl; simp at h
        simp [this]
      · have : x = y := UInt8.toNat_inj.1 (by simpa using h)
        simp [this, ih]
theorem lenB_eq (l : List UInt8) : lenB l = l.length := by induction l with | nil => rfl | cons d r ih => simp [lenB, ih]
theorem takeB_eq (n : Nat) (l : List UInt8) : takeB n l = l.take n := by
  induction l generalizing n with
  | nil => cases n <;> simp [takeB]
  | cons d r ih => cases n <;> simp [takeB, ih]
theorem dropB_eq (n : Nat) (l : List UInt8) : dropB n l = l.drop n := by
  induction l generalizing n with
  | nil => cases n <;> simp [dropB]
  | cons d r ih => cases n <;> simp [dropB, ih]
theorem nthB_eq (l : List UInt8) (n : Nat) : nthB l n = l[n]? := by
  induction l generalizing n with
  | nil => simp [nthB]
  | cons d r ih => cases n <;> simp [nthB, ih]
theorem bytesOf_length (s : ByteArray) : (bytesOf s).length = s.size := by unfold bytesOf; rw [Array.length_toList]; rfl
theorem strOf_append (a b : ByteArray) : strOf (bytesOf a ++ bytesOf b) = a ++ b := by
  apply ByteArray.ext
  simp [strOf, bytesOf]
theorem toList_bytes (a b : ByteArray) : (a.toList == b.toList) = (bytesOf a == bytesOf b) := by
  have h1 : ∀ s : ByteArray, s.toList = bytesOf s := fun s => ByteArray.toList_eq s
  rw [h1, h1]
theorem strOf_cut (b : ByteArray) (l h : Nat) (h1 : l ≤ h) (h2 : h ≤ b.size) : strOf (dropB l (takeB h (bytesOf b))) = b.extract l h := by
  apply ByteArray.ext
  rw [dropB_eq, takeB_eq]
  simp only [strOf, bytesOf, ByteArray.data_extract]
  apply Array.ext'
  simp [Array.toList_extract, List.extract_eq_take_drop, List.drop_take]

theorem leI_eq (a b : Int) : leI a b = decide (a ≤ b) := by
  cases a with
  | ofNat a => cases b with
    | ofNat b =>
      rw [Bool.eq_iff_iff]
      simp [leI]
    | negSucc b =>
      rw [Bool.eq_iff_iff]
      simp only [leI, decide_eq_true_eq, Bool.false_eq_true, false_iff, Int.ofNat_eq_natCast]
      omega
  | negSucc a => cases b with
    | ofNat b =>
      rw [Bool.eq_iff_iff]
      simp only [leI, decide_eq_true_eq, true_iff, Int.ofNat_eq_natCast]
      omega
    | negSucc b =>
      rw [Bool.eq_iff_iff]
      simp only [leI, decide_eq_true_eq, Nat.ble_eq]
      omega
theorem ltI_eq (a b : Int) : ltI a b = decide (a < b) := by
  unfold ltI
  rw [leI_eq]
  by_cases h : b ≤ a
  · simp [h]
  · simp [h, Int.not_le.1 h]
theorem bin1_bin {op : BinOp} {tk : TK} {x y r : D} (h : bin1 op tk x y = some r) : DW.bin DW.Ar.real op tk x y (fun r' => r' = r) := by
  unfold bin1 at h
  split at h
  · rename_i k a k' b
    simp only [DW.bin]
    have main : arith1 op k a b = some r → DW.arith DW.Ar.real op k a b (fun r' => r' = r) := by
      intro h
      unfold arith1 at h
      split at h
      case h_4 =>
        split at h
        · cases h
        · rename_i hb
          exact ⟨⟨by simpa using hb⟩, by simpa [DW.Ar.real] using h⟩
      case h_5 =>
        split at h
        · cases h
        · rename_i hb
          exact ⟨⟨by simpa using hb⟩, by simpa [DW.Ar.real] using h⟩
      case h_10 =>
        split at h
        · rename_i hb
          exact ⟨⟨by simpa using hb⟩, by simpa [DW.Ar.real] using h⟩
        · cases h
      case h_11 =>
        split at h
        · rename_i hb
          exact ⟨⟨by simpa using hb⟩, by simpa [DW.Ar.real] using h⟩
        · cases h
      all_goals (simpa [DW.arith, DW.Ar.real, leI_eq, ltI_eq] using h)
    split at h
    · rename_i h1; simp only [h1]; exact main h
    · rename_i h1 h2; simp only [h1, h2]; exact main h
    · cases h
  · rename_i a b
    simp only [DW.bin]
    split at h
    · split at h
      · rename_i hle
        simp only [Option.some.injEq] at h
        refine ⟨⟨?_⟩, ?_⟩
        · have := Nat.le_of_ble_eq_true hle
          rw [lenB_eq, lenB_eq, bytesOf_length, bytesOf_length] at this
          simp only [DW.Ar.real]; omega
        · rw [← h, strOf_append]; rfl
      · cases h
    · simp only [Option.some.injEq] at h
      simp only [DW.Ar.real, toList_bytes]
      rw [← h, bytesEq_iff]
    · simp only [Option.some.injEq] at h
      simp only [DW.Ar.real, toList_bytes]
      rw [← h, bytesEq_iff]
    · cases h
  · rename_i h1 h2
    unfold DW.bin
    split
    · rename_i k a k' b; exact (h1 k a k' b rfl rfl).elim
    · rename_i a b; exact (h2 a b rfl rfl).elim
    · split at h
      · rename_i p q hp hq
        simp only [hp, hq, DW.Ar.real]
        simpa using h
      · rename_i p q hp hq
        simp only [hp, hq, DW.Ar.real]
        simpa using h
      · cases h
end
end Go.CR

/- Operations that write to no memory, one by one. -/
namespace Go.CR
open Go
open Go.DW (D TT TI TK RV RVL RI RIL RILL ideq ideq_iff ideq_false TOk TRow GOk zerosAre)

section
variable {P : Program} {c : Ctx} {N : Nat} {w0 : World} {A : Nat → Prop} {s0 : Sto} {β0 : Id → Place} {w : World} {S : Nat → Prop} {s : Sto} {β : Id → Place} {e : Env} {a : Act} {Dp : Nat → Prop} {o : Oper} {d : Nat} {R : Rec} {T : TT} {G : Nat → Option (List D)}

theorem dval {x : D} {v : Value} (h : RV w A [] vac x v) : VR T w A S s β (.d x) v := by simpa only [VR] using h

theorem wrap_vr : ∀ {l : List D} {us : List Value}, RVL w A [] vac l us → VRL T w A S s β (wrapL l) us
  | [], us, h => by simpa [RVL, VRL, wrapL] using h
  | x :: r, us, h => by
    simp only [RVL] at h
    obtain ⟨u, us', rfl, h1, h2⟩ := h
    simp only [wrapL, VRL]
    exact ⟨u, us', rfl, dval h1, wrap_vr h2⟩
theorem toV_vr {x : D} {v : Value} (h : RV w A [] vac x v) : VR T w A S s β (toV x) v := by
  cases x with
  | agg cs =>
    simp only [RV] at h
    obtain ⟨vs, rfl, h⟩ := h
    simp only [toV, VR]
    exact ⟨vs, rfl, wrap_vr h⟩
  | _ => simpa only [toV, VR] using h

/-- a part of an aggregate -/
theorem part_run {t : TypeId} {i : TypeInfo} {z : Value} {dd : TypeDesc} (h : TRow P T t i z dd) {cs : Array Value} {cells : List V} {off : Nat} {v : V} (hr : VRL T w A S s β cells cs.toList)
    (hp : packV (T t).k.agg (T t).size (takeV (T t).size (dropV off cells)) = some v) : ∃ u, (part t cs off).run P w = .ok u w ∧ VR T w A S s β v u := by
  obtain ⟨hl, hp⟩ := packV_some hp
  rw [takeV_eq, dropV_eq] at *
  have hr' := VRL.take (T t).size (VRL.drop off hr)
  unfold part
  rw [Sem.run_bind, h.agg, Result.andThen_ok]
  rcases hp with ⟨ha, rfl⟩ | ⟨ha, hv⟩
  · refine ⟨.agg (cs.extract off (off + (T t).size)), by simp [ha, h.sizeOf], ?_⟩
    simp only [VR]
    refine ⟨_, rfl, ?_⟩
    have : (cs.extract off (off + (T t).size)).toList = (cs.toList.drop off).take (T t).size := by
      simp [Array.toList_extract, List.extract_eq_take_drop]
    rw [this]
    exact hr'
  · rw [hv] at hr'
    simp only [VRL] at hr'
    obtain ⟨u, us, he, h1, h2⟩ := hr'
    have hsz := h.one ha
    rw [hsz] at he
    have hu : cs[off]? = some u := by
      have : (cs.toList.drop off)[0]? = some u := by
        cases hd : cs.toList.drop off with
        | nil => rw [hd] at he; simp at he
        | cons x y => rw [hd] at he; simp at he; simp [he.1]
      simpa using this
    exact ⟨u, by simp [ha, hu], h1⟩
theorem packT_some {t : TypeId} {off : Nat} {cs : List V} {v : V} (h : packT T t off cs = some v) : (T t).k.known = true ∧ packV (T t).k.agg (T t).size (takeV (T t).size (dropV off cs)) = some v := by
  unfold packT at h
  split at h
  · rename_i hk; exact ⟨hk, h⟩
  · cases h

/-- a variable in memory, read -/
theorem loadVar_run {t : TypeId} {i : TypeInfo} {z : Value} {dd : TypeDesc} (r : TRow P T t i z dd) {b off : Nat} {us : List Value} {cells : List V} {v : V} (hr : w.rangeAt b off us) (hc : VRL T w A S s β cells us)
    (hp : packV (T t).k.agg (T t).size (takeV (T t).size cells) = some v) : ∃ u, (loadVar t ⟨b, off, none⟩).run P w = .ok u w ∧ VR T w A S s β v u := by
  obtain ⟨hl, hp⟩ := packV_some hp
  rw [takeV_eq] at *
  have hc' := VRL.take (T t).size hc
  have hlen := hc'.length
  rw [hl] at hlen
  rcases hp with ⟨ha, rfl⟩ | ⟨ha, hv⟩
  · refine ⟨.agg (us.take (T t).size).toArray, ?_, ?_⟩
    · refine run_loadVar_mid w b off t (us.take (T t).size) dd ?_ r.under (r.isRow ha) ?_
      · intro j v hj
        rw [List.getElem?_take] at hj
        split at hj
        · exact hr j v hj
        · cases hj
      · rw [hlen, r.info]; simp [r.size]
    · simp only [VR]
      exact ⟨_, rfl, by simpa using hc'⟩
  · rw [hv] at hc'
    simp only [VRL] at hc'
    obtain ⟨u, us', he, h1, h2⟩ := hc'
    have h0 : us[0]? = some u := by
      have hsz := r.one ha
      rw [hsz] at he
      cases us with
      | nil => simp at he
      | cons x y => simp at he; simp [he.1]
    refine ⟨u, ?_, h1⟩
    have hcell := hr 0 u h0
    simp only [loadVar, Sem.run_bind, r.agg, Result.andThen_ok, ha]
    simpa using DW.run_load_cell hcell

/-- an object's cells in memory -/
theorem RO.range {id : Id} {ob : O} (h : RO T w A S s β id ob) : ∃ us, VRL T w A S s β ob.cs us ∧ w.rangeAt (β id).1 (β id).2.1 us := by
  obtain ⟨cur, h1, h2, h3, h4⟩ := h
  refine ⟨_, h3, ?_⟩
  intro j v hj
  rw [cell_of_row w _ _ cur ob.t (0, 0) h1]
  rw [List.getElem?_take] at hj
  split at hj
  · simpa using hj
  · cases hj

theorem good_ret {x : V} {v : Value} {R : Rec} (hr : ret x = some R) (hrun : (execOp a.eval o).run P w = .ok (.value v) w) (hv : VR T w A S s β x v) : Good P T A o a w S s β d R := Good.ret hr hrun hv
theorem retO_some {x : Option V} {R : Rec} (h : retO x = some R) : ∃ v, x = some v ∧ ret v = some R := by
  unfold retO at h
  split at h
  · exact ⟨_, rfl, h⟩
  · cases h
/-- an object is looked into, a value comes -/
theorem good_obj {id : Id} {K : O → Option Rec} (h : withObj (sget s) id K = some R) (hk : ∀ ob R1, sget s id = some ob → K ob = some R1 → Good P T A o a w S s β d R1) : Good P T A o a w S s β d R := by
  obtain ⟨ob, R1, h1, h2, rfl⟩ := withObj_some h
  exact (hk ob R1 h1 h2).acc

theorem p_load (hT : TOk P T) (hG : GOk G w0 A) (h : Rel T N w0 A s0 β0 w S s β e a Dp) {t : TypeId} {x : Operand} (ho : o.op = .load t x) (hp : pLoad T t (sget s) (opnd G e x) = some R) : Good P T A o a w S s β d R := by
  have hx := opnd_vr hG h x
  have go : ∀ b off us cells v, a.eval x = .pointer (some ⟨b, off, none⟩) → w.rangeAt b off us → VRL T w A S s β cells us → (T t).k.known = true →
      packV (T t).k.agg (T t).size (takeV (T t).size cells) = some v → ∀ R, ret v = some R → Good P T A o a w S s β d R := by
    intro b off us cells v hv hr hc hkn hp R hR
    obtain ⟨i, z, dd, r⟩ := hT.row t hkn
    obtain ⟨u, hu, hru⟩ := loadVar_run r hr hc hp
    refine good_ret hR (v := u) ?_ hru
    simp only [execOp, ho, hv, Instr.loadAt, Instr.sureAddr, Sem.run_bind, Sem.run_pure, Result.andThen_ok, hu]
  unfold pLoad at hp
  split at hp
  · rename_i id off he
    rw [he] at hx
    refine good_obj hp fun ob R1 hob hk => ?_
    obtain ⟨v, hv, hR⟩ := retO_some hk
    obtain ⟨hkn, hpk⟩ := packT_some hv
    simp only [VR] at hx
    have hval := hx.2.2 (by simp [hob])
    obtain ⟨us, h1, h2⟩ := (h.obj id ob hob).1.range
    refine go _ _ (us.drop off) (ob.cs.drop off) v hval (DW.rangeAt_drop h2) (VRL.drop off h1) hkn (by rw [← dropV_eq]; exact hpk) R1 hR
  · rename_i cells he
    rw [he] at hx
    obtain ⟨v, hv, hR⟩ := retO_some hp
    simp only [VR, RV] at hx
    obtain ⟨b, off, us, hval, hA, hr, hu⟩ := hx
    unfold packD at hv
    split at hv
    · rename_i hkn
      split at hv
      · rename_i x' hpk
        simp only [Option.some.injEq] at hv
        subst hv
        obtain ⟨i, z, dd, r⟩ := hT.row t hkn
        obtain ⟨u, hu', hru⟩ := DW.run_loadVar (P := P) (s := []) (β := vac) r hr (hu.toRVL) (by simpa [DW.dropD] using hpk)
        refine good_ret hR (v := u) ?_ (toV_vr hru)
        simp only [execOp, ho, hval, Instr.loadAt, Instr.sureAddr, Sem.run_bind, Sem.run_pure, Result.andThen_ok, hu']
      · cases hv
    · cases hv
  · cases hp

theorem p_nilCheck (hG : GOk G w0 A) (h : Rel T N w0 A s0 β0 w S s β e a Dp) {x : Operand} (ho : o.op = .nilCheck x) (hp : pNilCheck (sget s) (opnd G e x) = some R) : Good P T A o a w S s β d R := by
  have hx := opnd_vr hG h x
  unfold pNilCheck at hp
  split at hp
  · rename_i id off he
    rw [he] at hx
    refine good_obj hp fun ob R1 hob hk => ?_
    have hx' := hx
    simp only [VR] at hx
    have hval := hx.2.2 (by simp [hob])
    exact good_ret hk (v := a.eval x) (by simp [execOp, ho, hval]) hx'
  · rename_i cs he
    rw [he] at hx
    have hx' := hx
    simp only [VR, RV] at hx
    obtain ⟨b, o', us, hv, _⟩ := hx
    exact good_ret hp (v := a.eval x) (by simp [execOp, ho, hv]) hx'
  · rename_i f b cc he
    rw [he] at hx
    have hx' := hx
    simp only [VR] at hx
    obtain ⟨p, q, hv, _⟩ := hx
    exact good_ret hp (v := a.eval x) (by simp [execOp, ho, hv]) hx'
  · cases hp

/-- the struct types that may be compared -/
structure EqOk (P : Program) (T : TT) (E : List TypeId) : Prop where
  ok : ∀ t ∈ E, P.eqGuardType P.depth t = false ∧ P.stoodInHeld t = false ∧ ∀ f ∈ (P.fieldsOf t).toList, f.name ≠ "_"
  deep : ∀ t ∈ E, ∀ fs, (T t).k = .struct fs → P.underlying t = some (.struct (P.fieldsOf t)) ∧ (P.fieldsOf t).toList.map (fun f => (f.offset, f.type)) = fs

theorem mem1_iff (l : List Nat) (a : Nat) : DW.mem1 l a = true ↔ a ∈ l := by
  induction l with
  | nil => simp [DW.mem1]
  | cons b r ih =>
    simp only [DW.mem1]
    cases h : Nat.beq b a
    · have : b ≠ a := fun e => by simp [e] at h
      simp [ih, Ne.symm this]
    · have : b = a := by simpa using h
      simp [this]

theorem eqInts_cons {off : Nat} {t : TypeId} {fs : List (Nat × TypeId)} {n : Nat} {cs cs' : List V} {b : Bool} (h : eqInts T ((off, t) :: fs) n cs cs' = some b) :
    ∃ k p r q r' cc kk, cs = .d (.int k p) :: r ∧ cs' = .d (.int k q) :: r' ∧ off = n ∧ (T t).k = .int kk ∧ eqInts T fs (n + 1) r r' = some cc ∧ b = (match p == q with | true => cc | false => false) := by
  match cs, cs', h with
  | .d (.int k p) :: r, .d (.int k' q) :: r', h =>
    simp only [eqInts] at h
    split at h
    · rename_i kk hoff hk hkk
      have hkk : k = k' := (DW.kindEq_iff _ _).1 hkk
      subst hkk
      split at h
      · rename_i cc hcc
        simp only [Option.some.injEq] at h
        exact ⟨k, p, r, q, r', cc, kk, rfl, rfl, by simpa using hoff, hk, hcc, h.symm⟩
      · cases h
    · cases h

theorem eqFields_run {fields : List Field} : ∀ (n : Nat) (cs cs' : List V) (b : Bool) (pre pre' : List Value) (xs ys : List Value), eqInts T (fields.map fun f => (f.offset, f.type)) n cs cs' = some b → (hT : TOk P T) → pre.length = n → pre'.length = n →
    VRL T w A S s β cs xs → VRL T w A S s β cs' ys → (∀ f ∈ fields, f.name ≠ "_") → (Op.eqFields 9999 (pre ++ xs).toArray (pre' ++ ys).toArray fields).run P w = .ok b w := by
  induction fields with
  | nil =>
    intro n cs cs' b pre pre' xs ys h hT h1 h2 hx hy hn
    cases cs <;> cases cs' <;> simp [eqInts] at h
    subst h
    simp [Op.eqFields]
  | cons f fs ih =>
    intro n cs cs' b pre pre' xs ys h hT h1 h2 hx hy hn
    simp only [List.map_cons] at h
    obtain ⟨k, p, r, q, r', cc, kk, rfl, rfl, hoff, hk, hcc, hb⟩ := eqInts_cons h
    simp only [VRL, VR, RV] at hx hy
    obtain ⟨u, us, rfl, rfl, hxs⟩ := hx
    obtain ⟨u', us', rfl, rfl, hys⟩ := hy
    have hih := ih (n + 1) r r' cc (pre ++ [.int k p]) (pre' ++ [.int k q]) us us' hcc hT (by simp [h1]) (by simp [h2]) hxs hys (fun g hg => hn g (by simp [hg]))
    simp only [List.append_assoc, List.singleton_append] at hih
    obtain ⟨i, z, dd, row⟩ := hT.row f.type (by rw [hk]; rfl)
    have hd := row.desc; rw [hk] at hd; simp only [DW.DescIs] at hd
    subst hd
    have hagg : (T f.type).k.agg = false := by rw [hk]; rfl
    have p1 : ∀ (pr : List Value) (v : Value) (rest : List Value), pr.length = n → (part f.type (pr ++ v :: rest).toArray f.offset).run P w = .ok v w := by
      intro pr v rest hl
      unfold part
      rw [Sem.run_bind, row.agg, Result.andThen_ok, hagg]
      have : ((pr ++ v :: rest).toArray)[f.offset]? = some v := by
        simp [hoff, ← hl]
      simp [this]
    simp only [Op.eqFields, hn f (by simp), ne_eq, not_false_eq_true, if_true, Sem.run_bind, p1 pre _ _ h1, p1 pre' _ _ h2, Result.andThen_ok, run_equalIn_int w 9998 f.type _ _ _ _ row.under]
    cases hpq : p == q
    · simp only [hpq] at hb
      simp [hb]
    · simp only [hpq] at hb
      subst hb
      simpa using hih

theorem p_bin (hT : TOk P c.T) (hE : EqOk P c.T c.E) (hG : GOk G w0 A) (h : Rel c.T N w0 A s0 β0 w S s β e a Dp) {op : BinOp} {t t' : TypeId} {x y : Operand} (ho : o.op = .binOp op t x y t') (hp : pBin c op t (sget s) (opnd G e x) (opnd G e y) = some R) : Good P c.T A o a w S s β d R := by
  have hx := opnd_vr hG h x
  have hy := opnd_vr hG h y
  unfold pBin at hp
  split at hp
  · rename_i id off len cap hex hey
    rw [hex] at hx; rw [hey] at hy
    have hyv : a.eval y = .slice none 0 0 := by simpa [VR, RV] using hy
    have main : ∀ (bo : Bool) R1 (ob : O), sget s id = some ob → ret (.d (.bool bo)) = some R1 →
        (∀ p n cc, a.eval x = .slice (some p) n cc → (execOp a.eval o).run P w = .ok (.value (.bool bo)) w) → Good P c.T A o a w S s β d R1 := by
      intro bo R1 ob hob hR hrun
      simp only [VR] at hx
      obtain ⟨cc, hv, _⟩ := hx.2.2 ob hob
      exact good_ret hR (hrun _ _ _ hv) (by simp [VR, RV])
    have heq : ∀ (p : Addr) (n cc : Nat) (el : TypeId), P.underlying t = some (.slice el) → (Op.equal t (.slice (some p) n cc) (.slice none 0 0)).run P w = .ok false w := by
      intro p n cc el hu
      have : ∀ k, (Op.equalIn (k + 1) t (.slice (some p) n cc) (.slice none 0 0)).run P w = .ok false w := by
        intro k
        simp [Op.equalIn, run_underlying hu]
      exact this 9999
    split at hp
    · rename_i el hk1
      obtain ⟨hu, _⟩ := DW.TRow.slice hT hk1
      refine good_obj hp fun ob R1 hob hk => main false R1 ob hob hk fun p n cc hv => ?_
      simp [execOp, ho, hv, hyv, eqGuard, binOp, heq p n cc el hu]
    · rename_i el hk1
      obtain ⟨hu, _⟩ := DW.TRow.slice hT hk1
      refine good_obj hp fun ob R1 hob hk => main true R1 ob hob hk fun p n cc hv => ?_
      simp [execOp, ho, hv, hyv, eqGuard, binOp, heq p n cc el hu]
    · cases hp
  · obtain ⟨v, hv, hR⟩ := retO_some hp
    unfold binV at hv
    split at hv
    · rename_i x' y' hex hey
      rw [hex] at hx; rw [hey] at hy
      simp only [VR] at hx hy
      split at hv
      · rename_i r hr
        simp only [Option.some.injEq] at hv
        subst hv
        obtain ⟨dd, rr, rfl, h2, h3⟩ := DW.bin_run (P := P) hT (xo := x) (yo := y) (bin1_bin hr) hx hy
        refine good_ret hR ?_ (dval h3)
        simp only [execOp, ho]
        rw [Sem.run_bind, h2]
        rfl
      · cases hv
    · rename_i cs cs' hex hey
      rw [hex] at hx; rw [hey] at hy
      simp only [VR] at hx hy
      obtain ⟨vs, hxv, hxs⟩ := hx
      obtain ⟨vs', hyv, hys⟩ := hy
      split at hv
      · rename_i fs hk1 hmem
        have hmem := (mem1_iff _ _).1 hmem
        obtain ⟨e1, e2, e3⟩ := hE.ok t hmem
        obtain ⟨e4, e5⟩ := hE.deep t hmem fs hk1
        have hef : ∀ b, eqInts c.T fs 0 cs cs' = some b → (Op.eqFields 9999 vs vs' (P.fieldsOf t).toList).run P w = .ok b w := by
          intro b hb
          have := eqFields_run (P := P) (w := w) (A := A) (S := S) (s := s) (β := β) (fields := (P.fieldsOf t).toList) 0 cs cs' b [] [] vs.toList vs'.toList (by rw [e5]; exact hb) hT rfl rfl hxs hys e3
          simpa using this
        split at hv
        · rename_i b hb
          simp only [Option.some.injEq] at hv
          subst hv
          refine good_ret hR (v := .bool b) ?_ (by simp [VR, RV])
          simp only [execOp, ho, Sem.run_bind, hxv, hyv, run_eqGuard_agg w .eql t x y vs vs' e1, Result.andThen_ok, run_eql_struct, run_equalIn_struct w 9999 t vs vs' e4 e2, hef b hb, Sem.run_pure]
        · rename_i b hb
          simp only [Option.some.injEq] at hv
          subst hv
          refine good_ret hR (v := .bool (!b)) ?_ (by simp [VR, RV])
          simp only [execOp, ho, Sem.run_bind, hxv, hyv, run_eqGuard_agg w .neq t x y vs vs' e1, Result.andThen_ok, run_neq_struct, run_equalIn_struct w 9999 t vs vs' e4 e2, hef b hb, Sem.run_pure]
        · cases hv
      · cases hv
    · cases hv
end
end Go.CR

/- Operations that write to no memory, the others. -/
namespace Go.CR
open Go
open Go.DW (D TT TI TK RV RVL RI RIL RILL ideq ideq_iff ideq_false TOk TRow GOk zerosAre)

section
variable {P : Program} {c : Ctx} {N : Nat} {w0 : World} {A : Nat → Prop} {s0 : Sto} {β0 : Id → Place} {w : World} {S : Nat → Prop} {s : Sto} {β : Id → Place} {e : Env} {a : Act} {Dp : Nat → Prop} {o : Oper} {d : Nat} {R : Rec} {T : TT} {G : Nat → Option (List D)}

theorem p_pick (hG : GOk G w0 A) (h : Rel T N w0 A s0 β0 w S s β e a Dp) {x y z : Operand} (ho : o.op = .pick x y z) (hp : pBool (boolV (opnd G e x)) (opnd G e y) (opnd G e z) = some R) : Good P T A o a w S s β d R := by
  have hx := opnd_vr hG h x
  unfold pBool at hp
  split at hp
  · rename_i hb
    exact good_ret hp (v := a.eval y) (by simp [execOp, ho, boolV_vr hb hx, asBool]) (opnd_vr hG h y)
  · rename_i hb
    exact good_ret hp (v := a.eval z) (by simp [execOp, ho, boolV_vr hb hx, asBool]) (opnd_vr hG h z)
  · cases hp

theorem p_un (hG : GOk G w0 A) (h : Rel T N w0 A s0 β0 w S s β e a Dp) {op : UnOp} {t : TypeId} {x : Operand} (ho : o.op = .unOp op t x) (hp : retO (unV op (opnd G e x)) = some R) : Good P T A o a w S s β d R := by
  have hx := opnd_vr hG h x
  obtain ⟨v, hv, hR⟩ := retO_some hp
  unfold unV at hv
  split at hv
  · split at hv
    · rename_i b hb
      simp only [Option.some.injEq] at hv
      subst hv
      exact good_ret hR (v := .bool (!b)) (by simp [execOp, ho, boolV_vr hb hx, Op.unary]) (by simp [VR, RV])
    · cases hv
  · rename_i k n he
    simp only [Option.some.injEq] at hv
    subst hv
    rw [he] at hx; simp only [VR, RV] at hx
    exact good_ret hR (v := .int k (k.wrap (0 - n))) (by simp [execOp, ho, hx, Op.unary, Op.intArith]) (by simp [VR, RV])
  · rename_i k n he
    simp only [Option.some.injEq] at hv
    subst hv
    rw [he] at hx; simp only [VR, RV] at hx
    refine good_ret hR (v := .int k (DW.Ar.real.bit .xor k (match k.signed with | true => -1 | false => k.max) n)) ?_ (by simp only [VR, RV] <;> rfl)
    simp only [execOp, ho, hx, Op.unary, Op.intBits, DW.Ar.real]
    cases k.signed <;> simp
  · cases hv

theorem p_makeFunc (hG : GOk G w0 A) (h : Rel T N w0 A s0 β0 w S s β e a Dp) {f : FuncId} {x y : Array Operand} (ho : o.op = .makeFunc (.func f) x y) (hp : ret (.fn f (x.toList.map (opnd G e)) (y.toList.map (opnd G e))) = some R) : Good P T A o a w S s β d R := by
  refine good_ret hp (v := .func (.func f) (x.map a.eval) (y.map a.eval)) (by simp [execOp, ho, Instr.makeFunc]) ?_
  simp only [VR]
  exact ⟨_, _, rfl, by simpa using opnds_vr hG h x.toList, by simpa using opnds_vr hG h y.toList⟩

theorem p_extract (hG : GOk G w0 A) (h : Rel T N w0 A s0 β0 w S s β e a Dp) {x : Operand} {j : Nat} (ho : o.op = .extract x j) (hp : pExtract j (opnd G e x) = some R) : Good P T A o a w S s β d R := by
  have hx := opnd_vr hG h x
  unfold pExtract at hp
  split at hp
  · rename_i vs he
    rw [he] at hx; simp only [VR] at hx
    obtain ⟨us, hv, hr⟩ := hx
    split at hp
    · rename_i v r hd
      have h2 := VRL.drop j hr
      rw [dropV_eq] at hd
      rw [hd] at h2
      simp only [VRL] at h2
      obtain ⟨u, us', hu, h3, _⟩ := h2
      have hg : us[j]? = some u := by
        have : (us.toList.drop j)[0]? = some u := by rw [hu]; rfl
        simpa using this
      refine good_ret hp (v := u) ?_ h3
      simp [execOp, ho, hv, Instr.extract, hg]
    · cases hp
  · cases hp

theorem p_fieldAddr (hT : TOk P T) (hG : GOk G w0 A) (h : Rel T N w0 A s0 β0 w S s β e a Dp) {st : TypeId} {x : Operand} {f : Nat} (ho : o.op = .fieldAddr st x f) (hp : pFieldAddr T st f (sget s) (opnd G e x) = some R) : Good P T A o a w S s β d R := by
  have hx := opnd_vr hG h x
  unfold pFieldAddr at hp
  split at hp
  · rename_i fs hk1
    obtain ⟨i, z, dd, r⟩ := hT.row st (by rw [hk1]; rfl)
    have hd := r.desc; rw [hk1] at hd; simp only [DW.DescIs] at hd
    obtain ⟨fields, rfl, hfs, hall⟩ := hd
    split at hp
    · rename_i fo ty hnth
      rw [DW.nthF_eq] at hnth
      have hm := hall (fo, ty) (List.mem_of_getElem? hnth)
      rw [← hfs] at hnth
      simp only [List.getElem?_map, Option.map_eq_some_iff] at hnth
      obtain ⟨fl, hfl, hfe⟩ := hnth
      simp only [Prod.mk.injEq] at hfe
      obtain ⟨i2, z2, d2, r2⟩ := hT.row ty hm.1
      have hne : (T ty).size ≠ 0 := by have := hm.2.1; simp at this; omega
      have hsz : (Go.sizeOf fl.type).run P w = .ok (T ty).size w := by rw [hfe.2]; exact r2.sizeOf
      have hfl' : fields[f]? = some fl := by simpa using hfl
      have hrun : ∀ b off, a.eval x = .pointer (some ⟨b, off, none⟩) → (execOp a.eval o).run P w = .ok (.value (.pointer (some ⟨b, off + fo, none⟩))) w := by
        intro b off hv
        simp only [execOp, ho, Instr.fieldAt, Sem.run_bind, run_underlying r.under, Result.andThen_ok, hfl', hv, Instr.sureAddr, Sem.run_pure, fieldPlace, hsz, if_neg hne, Addr.add_mid, hfe.1]
      split at hp
      · rename_i id off he
        rw [he] at hx
        refine good_obj hp fun ob R1 hob hk => ?_
        simp only [VR] at hx
        have hval := hx.2.2 (by simp [hob])
        refine good_ret hk (hrun _ _ hval) ?_
        simp only [VR]
        exact ⟨rfl, hx.2.1, fun _ => by rw [Nat.add_eq, Nat.add_assoc]⟩
      · rename_i cells he
        rw [he] at hx
        simp only [VR, RV] at hx
        obtain ⟨b, off, us, hv, hA, hr, hu⟩ := hx
        split at hp
        · refine good_ret hp (hrun _ _ hv) ?_
          simp only [VR, RV, DW.dropD_eq]
          refine ⟨b, off + fo, us.drop fo, rfl, hA, DW.rangeAt_drop hr, RIL.drop' fo hu⟩
        · cases hp
      · cases hp
    · cases hp
  · cases hp

theorem p_field (hT : TOk P T) (hG : GOk G w0 A) (h : Rel T N w0 A s0 β0 w S s β e a Dp) {st : TypeId} {x : Operand} {f : Nat} (ho : o.op = .field st x f) (hp : pField T st f (opnd G e x) = some R) : Good P T A o a w S s β d R := by
  have hx := opnd_vr hG h x
  unfold pField at hp
  split at hp
  · rename_i fs cs hk1 he
    rw [he] at hx; simp only [VR] at hx
    obtain ⟨vs, hv, hr⟩ := hx
    split at hp
    · rename_i fo ty hnth
      obtain ⟨v, hpk, hR⟩ := retO_some hp
      obtain ⟨hkn, hpk⟩ := packT_some hpk
      obtain ⟨i, z, dd, r⟩ := hT.row st (by rw [hk1]; rfl)
      have hd := r.desc; rw [hk1] at hd; simp only [DW.DescIs] at hd
      obtain ⟨fields, rfl, hfs, hall⟩ := hd
      rw [DW.nthF_eq, ← hfs] at hnth
      have hfield : ∃ fl, fields[f]? = some fl ∧ fl.offset = fo ∧ fl.type = ty := by
        simp only [List.getElem?_map, Array.getElem?_toList] at hnth
        cases hx : fields[f]? with
        | none => rw [hx] at hnth; simp at hnth
        | some fl =>
          rw [hx] at hnth
          simp only [Option.map_some, Option.some.injEq, Prod.mk.injEq] at hnth
          exact ⟨fl, rfl, hnth.1, hnth.2⟩
      obtain ⟨fl, hfl, hfo, hty⟩ := hfield
      obtain ⟨i2, z2, d2, r2⟩ := hT.row ty hkn
      obtain ⟨u, hu, hru⟩ := part_run r2 hr hpk
      refine good_ret hR (v := u) ?_ hru
      simp only [execOp, ho, hv, Instr.field, Sem.run_bind, run_underlying r.under, Result.andThen_ok, hfl, hfo, hty, hu, Sem.run_pure, asAgg]
    · cases hp
  · cases hp

theorem p_indexAddr (hT : TOk P T) (hG : GOk G w0 A) (h : Rel T N w0 A s0 β0 w S s β e a Dp) {t : TypeId} {x ix : Operand} (ho : o.op = .indexAddr t x ix) (hp : pIndexAddr T t (sget s) (opnd G e x) (natOf (opnd G e ix)) = some R) : Good P T A o a w S s β d R := by
  have hx := opnd_vr hG h x
  have hix := opnd_vr hG h ix
  have runS : ∀ et k (i : Nat) b off (n c : Nat), (T t).k = .slice et → a.eval ix = .int k i → i < n → a.eval x = .slice (some ⟨b, off, none⟩) n c →
      (execOp a.eval o).run P w = .ok (.value (.pointer (some ⟨b, off + i * (T et).size, none⟩))) w := by
    intro et k i b off n c hk1 hi h1 hv
    obtain ⟨hu, i', z, dd, r, _⟩ := DW.TRow.slice hT hk1
    simp [execOp, ho, Instr.indexAt, hi, hv, asIntOf, run_underlying hu, h1, r.sizeOf, Addr.add_mid]
  have runA : ∀ et k (i : Nat) b off (n : Nat), (T t).k = .array n et → a.eval ix = .int k i → i < n → a.eval x = .pointer (some ⟨b, off, none⟩) →
      (execOp a.eval o).run P w = .ok (.value (.pointer (some ⟨b, off + i * (T et).size, none⟩))) w := by
    intro et k i b off n hk1 hi h1 hv
    obtain ⟨hu, i', z, dd, r, _⟩ := DW.TRow.array hT hk1
    simp [execOp, ho, Instr.indexAt, hi, hv, asIntOf, run_underlying hu, h1, r.sizeOf, Addr.add_mid, Instr.sureAddr]
  unfold pIndexAddr at hp
  split at hp
  · rename_i et id off len cap i hk1 he hei
    obtain ⟨k, hi⟩ := natOf_vr hei hix
    rw [he] at hx
    refine good_obj hp fun ob R1 hob hk => ?_
    split at hk
    · rename_i ht hlt
      have ht : ob.t = et := by simpa using ht
      have hlt : i < len := by simpa using hlt
      simp only [VR] at hx
      obtain ⟨cc, hv, h1, h2, h3, h4⟩ := hx.2.2 ob hob
      refine good_ret hk (runS et k i _ _ len cc hk1 hi hlt hv) ?_
      simp only [VR]
      exact ⟨rfl, hx.2.1, fun _ => by simp only [Nat.add_eq, Nat.mul_eq, Nat.add_assoc]⟩
    · cases hk
  · rename_i n el id off i hk1 he hei
    obtain ⟨k, hi⟩ := natOf_vr hei hix
    rw [he] at hx
    refine good_obj hp fun ob R1 hob hk => ?_
    split at hk
    · rename_i hlt
      have hlt : i < n := by simpa using hlt
      simp only [VR] at hx
      have hv := hx.2.2 (by simp [hob])
      refine good_ret hk (runA el k i _ _ n hk1 hi hlt hv) ?_
      simp only [VR]
      exact ⟨rfl, hx.2.1, fun _ => by simp only [Nat.add_eq, Nat.mul_eq, Nat.add_assoc]⟩
    · cases hk
  · rename_i n el cells i hk1 he hei
    obtain ⟨k, hi⟩ := natOf_vr hei hix
    rw [he] at hx
    simp only [VR, RV] at hx
    obtain ⟨b, off, us, hv, hA, hr, hu⟩ := hx
    split at hp
    · rename_i hlt
      have hlt : i < n := by simpa using hlt
      refine good_ret hp (runA el k i b off n hk1 hi hlt hv) ?_
      simp only [VR, RV, DW.dropD_eq]
      refine ⟨b, off + i * (T el).size, us.drop (i * (T el).size), rfl, hA, DW.rangeAt_drop hr, ?_⟩
      simpa only [Nat.mul_eq] using RIL.drop' _ hu
    · cases hp
  · cases hp

theorem p_index (hT : TOk P T) (hG : GOk G w0 A) (h : Rel T N w0 A s0 β0 w S s β e a Dp) {t : TypeId} {x ix : Operand} (ho : o.op = .index t x ix) (hp : pIndex T t (opnd G e x) (natOf (opnd G e ix)) = some R) : Good P T A o a w S s β d R := by
  have hx := opnd_vr hG h x
  have hix := opnd_vr hG h ix
  unfold pIndex at hp
  split at hp
  · rename_i n el cs i hk1 he hei
    obtain ⟨k, hi⟩ := natOf_vr hei hix
    rw [he] at hx; simp only [VR] at hx
    obtain ⟨vs, hv, hr⟩ := hx
    split at hp
    · rename_i hlt
      have hlt : i < n := by simpa using hlt
      obtain ⟨v, hpk, hR⟩ := retO_some hp
      obtain ⟨_, hpk⟩ := packT_some hpk
      obtain ⟨hu, i', z, dd, r, _⟩ := DW.TRow.array hT hk1
      obtain ⟨u, hu', hru⟩ := part_run r hr hpk
      refine good_ret hR (v := u) ?_ hru
      have h0 : (0 : Int) ≤ i := Int.natCast_nonneg i
      have h1 : (i : Int) < n := by omega
      simp only [Nat.mul_eq] at hu'
      simp only [execOp, ho, Instr.index, hi, hv, asIntOf, Sem.run_bind, Sem.run_pure, Result.andThen_ok, run_underlying hu, h0, h1, and_self, if_true, r.sizeOf, Int.toNat_natCast, hu']
    · cases hp
  · rename_i b i hk1 he hei
    obtain ⟨k, hi⟩ := natOf_vr hei hix
    rw [he] at hx; simp only [VR, RV] at hx
    split at hp
    · rename_i u hu
      rw [nthB_eq] at hu
      have hlt : i < b.size := by
        have := (List.getElem?_eq_some_iff.1 hu).1
        rwa [bytesOf_length] at this
      have hg : b[i]? = some u := by
        have h1 : b[i]? = some b[i] := by simp [hlt]
        rw [h1]
        have h2 := (List.getElem?_eq_some_iff.1 hu).2
        rw [← h2]
        rfl
      refine good_ret hp (v := .int .u8 u.toNat) ?_ (by simp [VR, RV])
      have h0 : (0 : Int) ≤ i := Int.natCast_nonneg i
      simp [execOp, ho, Instr.index, hi, hx, asIntOf, run_underlying (DW.TRow.str hT hk1), hg]
    · cases hp
  · cases hp

theorem p_len (hT : TOk P T) (hG : GOk G w0 A) (h : Rel T N w0 A s0 β0 w S s β e a Dp) {args : Array Operand} {ats : Array TypeId} (ho : o.op = .call { callee := .builtin .len, args := args, argTypes := ats }) (hp : pLen T (sget s) (args.toList.map (opnd G e)) ats.toList = some R) : Good P T A o a w S s β d R := by
  unfold pLen at hp
  split at hp
  · rename_i x t hx ht
    obtain ⟨y, rfl, rfl⟩ := DW.arr1 _ hx
    obtain rfl := DW.arrE1 ht
    have hv := opnd_vr hG h y
    have run : ∀ (n : Nat) p c el, P.underlying t = some (.slice el) → a.eval y = .slice p n c → (execOp a.eval o).run P w = .ok (.value (.int .i64 n)) w := by
      intro n p c el hu hv
      simp [execOp, ho, resolve, invoke, builtin, Builtin.len_, run_underlying hu, hv, goInt]
    split at hp
    · rename_i he hk1
      rw [he] at hv; simp only [VR, RV] at hv
      exact good_ret hp (run 0 none 0 _ (DW.TRow.slice hT hk1).1 hv) (by simp [VR, RV])
    · rename_i he hk1
      rw [he] at hv; simp only [VR, RV, RI] at hv
      obtain ⟨p, c, hv, _⟩ := hv
      exact good_ret hp (run 0 p c _ (DW.TRow.slice hT hk1).1 hv) (by simp [VR, RV])
    · rename_i b he hk1
      rw [he] at hv; simp only [VR, RV] at hv
      refine good_ret hp (v := .int .i64 b.size) ?_ (by simp [VR, RV, lenB_eq, bytesOf_length])
      simp [execOp, ho, resolve, invoke, builtin, Builtin.len_, run_underlying (DW.TRow.str hT hk1), hv, goInt]
    · rename_i id off len cap el he hk1
      rw [he] at hv
      refine good_obj hp fun ob R1 hob hk => ?_
      simp only [VR] at hv
      obtain ⟨cc, hv, _⟩ := hv.2.2 ob hob
      exact good_ret hk (run _ _ _ _ (DW.TRow.slice hT hk1).1 hv) (by simp [VR, RV])
    · cases hp
  · cases hp

theorem p_min (hG : GOk G w0 A) (h : Rel T N w0 A s0 β0 w S s β e a Dp) {lt : Bool} {args : Array Operand} {ats : Array TypeId} (ho : o.op = .call { callee := .builtin (match lt with | true => .min | false => .max), args := args, argTypes := ats }) (hp : pMin lt (args.toList.map (opnd G e)) = some R) : Good P T A o a w S s β d R := by
  unfold pMin at hp
  split at hp
  · rename_i k p k' q hx
    obtain ⟨y, z, rfl, hy, hz⟩ := DW.arr2 _ hx
    have hyv := opnd_vr hG h y
    have hzv := opnd_vr hG h z
    rw [hy] at hyv; rw [hz] at hzv
    simp only [VR, RV] at hyv hzv
    split at hp
    · split at hp
      · refine good_ret hp (v := .int k (match decide (q < p) with | true => q | false => p)) ?_ (by simp only [VR, RV] <;> rfl)
        simp only [execOp, ho, resolve, invoke, builtin, Builtin.min_, List.map_toArray, List.map_cons, List.map_nil, hyv, hzv, Sem.run_bind, Sem.run_pure, Result.andThen_ok, List.foldlM_cons, List.foldlM_nil, Builtin.min2]
        by_cases hq : q < p <;> simp [hq]
      · refine good_ret hp (v := .int k (match decide (p < q) with | true => q | false => p)) ?_ (by simp only [VR, RV] <;> rfl)
        simp only [execOp, ho, resolve, invoke, builtin, Builtin.max_, List.map_toArray, List.map_cons, List.map_nil, hyv, hzv, Sem.run_bind, Sem.run_pure, Result.andThen_ok, List.foldlM_cons, List.foldlM_nil, Builtin.max2]
        by_cases hq : p < q <;> simp [hq]
    · cases hp
  · cases hp
end
end Go.CR

/- Cuts, conversions, aggregates. -/
namespace Go.CR
open Go
open Go.DW (D TT TI TK RV RVL RI RIL RILL ideq ideq_iff ideq_false TOk TRow GOk zerosAre)

section
variable {P : Program} {c : Ctx} {N : Nat} {w0 : World} {A : Nat → Prop} {s0 : Sto} {β0 : Id → Place} {w : World} {S : Nat → Prop} {s : Sto} {β : Id → Place} {e : Env} {a : Act} {Dp : Nat → Prop} {o : Oper} {d : Nat} {R : Rec} {T : TT} {G : Nat → Option (List D)}

theorem natOr_run (hG : GOk G w0 A) (h : Rel T N w0 A s0 β0 w S s β e a Dp) {lo : Option Operand} {z l : Nat} (hl : natOr z (omapV (opnd G e) lo) = some l) : (lo.map a.eval = none ∧ (l : Int) = z) ∨ ∃ k, lo.map a.eval = some (.int k (l : Int)) := by
  cases lo with
  | none =>
    simp [natOr, omapV] at hl
    exact .inl ⟨rfl, by omega⟩
  | some x =>
    simp only [natOr, omapV] at hl
    obtain ⟨k, hk⟩ := natOf_vr hl (opnd_vr hG h x)
    exact .inr ⟨k, by simp [hk]⟩

theorem bounds3 (len cap : Nat) (L : Option Value) (l h m : Nat) {kh km : IntKind} (hl : (L = none ∧ (l : Int) = (0 : Nat)) ∨ ∃ k, L = some (.int k (l : Int))) (h1 : l ≤ h) (h2 : h ≤ m) (h3 : m ≤ cap) :
    (Instr.sliceBounds true len cap L (some (.int kh h)) (some (.int km m))).run P w = .ok (l, h, m) w := by
  have e1 : (m : Int) ≤ (cap : Int) := by omega
  have e2 : (h : Int) ≤ (m : Int) := by omega
  have e3 : (l : Int) ≤ (h : Int) := by omega
  rcases hl with ⟨rfl, h0⟩ | ⟨k, rfl⟩
  · have : l = 0 := by omega
    subst this
    simp [Instr.sliceBounds, Instr.sliceBound, asIntOf, h1, h2, h3]
  · simp [Instr.sliceBounds, Instr.sliceBound, asIntOf, h1, h2, h3]

theorem map_of_omapV {ρ : Operand → V} {x : Option Operand} {v : V} (h : omapV ρ x = some v) : ∃ y, x = some y ∧ ρ y = v := by
  cases x with
  | none => simp [omapV] at h
  | some y => simp [omapV] at h; exact ⟨y, rfl, h⟩
theorem none_of_omapV {ρ : Operand → V} {x : Option Operand} (h : omapV ρ x = none) : x = none := by
  cases x with
  | none => rfl
  | some y => simp [omapV] at h

theorem cutV_vr {el : TypeId} {id : Id} {off len : Nat} {cap : Option Nat} {l h : Nat} {m : Option Nat} {v : V} (hc : cutV T el id off len cap l h m = some v) {ob : O} (hob : sget s id = some ob) (ht : ob.t = el) {vv : Value} (hv : VR T w A S s β (.sl id off len cap) vv) :
    ∃ p cc mm, vv = .slice (some p) len cc ∧ len ≤ cc ∧ l ≤ h ∧ h ≤ len ∧ (match m with | none => mm = cc | some k => mm = k ∧ h ≤ k ∧ k ≤ cc) ∧ VR T w A S s β v (.slice (some (if mm = l then p else p.add (l * (T el).size))) (h - l) (mm - l)) := by
  subst ht
  simp only [VR] at hv
  obtain ⟨_, hS, hv⟩ := hv
  obtain ⟨cc, rfl, h1, h2, h3, h4⟩ := hv ob hob
  unfold cutV at hc
  split at hc
  · rename_i hlh hhl
    have hlh := Nat.le_of_ble_eq_true hlh
    have hhl := Nat.le_of_ble_eq_true hhl
    have hmul : l * (T ob.t).size ≤ cc * (T ob.t).size := Nat.mul_le_mul_right _ (by omega)
    have hsplit : ∀ n, l ≤ n → l * (T ob.t).size + (n - l) * (T ob.t).size = n * (T ob.t).size := by
      intro n hn
      rw [← Nat.add_mul]
      congr 1
      omega
    split at hc
    · split at hc
      · rename_i hlt
        have hlt : l < len := by simpa using hlt
        simp only [Option.some.injEq] at hc
        subst hc
        refine ⟨_, cc, cc, rfl, h1, hlh, hhl, rfl, ?_⟩
        rw [if_neg (by omega), Addr.add_mid]
        simp only [VR]
        refine ⟨rfl, hS, fun o' ho' => ?_⟩
        rw [hob] at ho'; cases ho'
        refine ⟨cc - l, by rw [Nat.add_assoc], by omega, by omega, fun k hk => (by cases hk), ?_⟩
        have := hsplit cc (by omega)
        omega
      · rename_i hlt
        have hlt : ¬ l < len := by intro hh; rw [← Nat.blt_eq] at hh; rw [hh] at hlt; cases hlt
        simp only [Option.some.injEq] at hc
        subst hc
        refine ⟨_, cc, cc, rfl, h1, hlh, hhl, rfl, ?_⟩
        simp only [VR, RV, RI]
        have h0 : h - l = 0 := by omega
        rw [h0]
        exact ⟨some _, cc - l, rfl, by simp, fun hn => (by cases hn), .inl trivial⟩
    · rename_i k
      simp only [Option.some.injEq] at hc
      subst hc
      have hck := h3 k rfl
      subst hck
      refine ⟨_, cc, cc, rfl, h1, hlh, hhl, rfl, ?_⟩
      simp only [VR]
      refine ⟨rfl, hS, fun o' ho' => ?_⟩
      rw [hob] at ho'; cases ho'
      have hs := hsplit cc (by omega)
      cases hb : Nat.beq cc l
      · have hne : cc ≠ l := fun e => by simp [e] at hb
        rw [if_neg hne, Addr.add_mid]
        exact ⟨cc - l, by simp only [Nat.add_assoc], by omega, by omega, fun k hk => by simpa using hk, by simp only; omega⟩
      · have heq : cc = l := by simpa using hb
        rw [if_pos heq]
        exact ⟨cc - l, rfl, by omega, by omega, fun k hk => by simpa using hk, by simp only; omega⟩
    · rename_i k
      split at hc
      · rename_i hhk hkl
        have hhk := Nat.le_of_ble_eq_true hhk
        have hkl := Nat.le_of_ble_eq_true hkl
        simp only [Option.some.injEq] at hc
        subst hc
        refine ⟨_, cc, k, rfl, h1, hlh, hhl, ⟨rfl, hhk, by omega⟩, ?_⟩
        simp only [VR]
        refine ⟨rfl, hS, fun o' ho' => ?_⟩
        rw [hob] at ho'; cases ho'
        have hs := hsplit k (by omega)
        have hkc : k * (T ob.t).size ≤ cc * (T ob.t).size := Nat.mul_le_mul_right _ (by omega)
        cases hb : Nat.beq k l
        · have hne : k ≠ l := fun e => by simp [e] at hb
          rw [if_neg hne, Addr.add_mid]
          exact ⟨k - l, by simp only [Nat.add_assoc], by omega, by omega, fun k hk => by simpa using hk, by simp only; omega⟩
        · have heq : k = l := by simpa using hb
          rw [if_pos heq]
          exact ⟨k - l, rfl, by omega, by omega, fun k hk => by simpa using hk, by simp only; omega⟩
      · cases hc
  · cases hc

theorem p_slice (hT : TOk P T) (hG : GOk G w0 A) (h : Rel T N w0 A s0 β0 w S s β e a Dp) {t : TypeId} {x : Operand} {lo hi mx : Option Operand} (ho : o.op = .slice t x lo hi mx)
    (hp : pSlice T t (sget s) (opnd G e x) (omapV (opnd G e) lo) (omapV (opnd G e) hi) (omapV (opnd G e) mx) = some R) : Good P T A o a w S s β d R := by
  have hx := opnd_vr hG h x
  unfold pSlice at hp
  split at hp
  · rename_i b hk1 he
    rw [he] at hx; simp only [VR, RV] at hx
    split at hp
    · rename_i hmx
      have hmx := none_of_omapV hmx
      subst hmx
      unfold cutS at hp
      split at hp
      · rename_i l hh hl hhi
        split at hp
        · rename_i h1 h2
          have h1 := Nat.le_of_ble_eq_true h1
          have h2 := Nat.le_of_ble_eq_true h2
          rw [lenB_eq, bytesOf_length] at h2 hhi
          have hb := DW.run_bounds (P := P) (w := w) false b.size b.size _ _ l hh (natOr_run hG h hl) (natOr_run hG h hhi) (by omega) (by omega) (by omega) (Nat.le_refl _)
          refine good_ret hp (v := .string (b.extract l hh)) ?_ ?_
          · simp only [execOp, ho, Instr.sliceAt, Sem.run_bind, run_underlying (DW.TRow.str hT hk1), Result.andThen_ok, hx, Instr.slice]
            simp [hb, run_underlying (DW.TRow.str hT hk1)]
          · simp only [VR, RV]
            rw [strOf_cut b l hh h1 h2]
        · cases hp
      · cases hp
    · cases hp
  · rename_i el hk1 he
    rw [he] at hx; simp only [VR, RV] at hx
    obtain ⟨hun, i', z, dd, r, _⟩ := DW.TRow.slice hT hk1
    split at hp
    · rename_i hmx
      have hmx := none_of_omapV hmx
      subst hmx
      unfold cut0 at hp
      split at hp
      · rename_i hl hhi
        have hb := DW.run_bounds (P := P) (w := w) true 0 0 _ _ (0 : Nat) (0 : Nat) (natOr_run hG h hl) (natOr_run hG h hhi) (by omega) (by omega) (by omega) (Nat.le_refl _)
        refine good_ret hp (v := .slice none 0 0) ?_ (by simp [VR, RV])
        simp only [execOp, ho, Instr.sliceAt, Sem.run_bind, run_underlying hun, Result.andThen_ok, hx, Instr.slice]
        simp at hb
        simp [hb, run_underlying hun, r.sizeOf]
      · cases hp
    · cases hp
  · rename_i el hk1 he
    rw [he] at hx; simp only [VR, RV, RI] at hx
    obtain ⟨p, cap, hv, _, hz, _⟩ := hx
    obtain ⟨hun, i', z, dd, r, _⟩ := DW.TRow.slice hT hk1
    split at hp
    · rename_i hmx
      have hmx := none_of_omapV hmx
      subst hmx
      unfold cut0 at hp
      split at hp
      · rename_i hl hhi
        have hb := DW.run_bounds (P := P) (w := w) true 0 cap _ _ (0 : Nat) (0 : Nat) (natOr_run hG h hl) (natOr_run hG h hhi) (by omega) (by omega) (by omega) (Nat.zero_le _)
        refine good_ret hp (v := .slice p 0 cap) ?_ ?_
        · simp only [execOp, ho, Instr.sliceAt, Sem.run_bind, run_underlying hun, Result.andThen_ok, hv, Instr.slice, List.length_nil]
          simp at hb
          simp only [Option.map_none, hb, run_underlying hun, r.sizeOf, Sem.run_bind, Result.andThen_ok, Sem.run_pure]
          have : p.map (fun x => x.add (0 * (T el).size)) = p := by cases p <;> simp [Addr.add]
          by_cases h0 : cap = 0 <;> simp [h0, this]
          all_goals (cases p <;> simp [Addr.add])
        · simp only [VR, RV, RI]
          exact ⟨p, cap, rfl, by simp, hz, .inl trivial⟩
      · cases hp
    · cases hp
  · rename_i el id off len cap hk1 he
    rw [he] at hx
    obtain ⟨hun, i', z, dd, r, _⟩ := DW.TRow.slice hT hk1
    refine good_obj hp fun ob R1 hob hk => ?_
    split at hk
    · rename_i l hh ht hl hhi
      have ht : ob.t = el := by simpa using ht
      split at hk
      · rename_i hmx
        have hmx := none_of_omapV hmx
        subst hmx
        obtain ⟨v, hcut, hR⟩ := retO_some hk
        obtain ⟨p, cc, mm, hv, h1, h2, h3, hmm, hvr⟩ := cutV_vr hcut hob ht hx
        simp only at hmm
        subst hmm
        have hb := DW.run_bounds (P := P) (w := w) true len mm _ _ l hh (natOr_run hG h hl) (natOr_run hG h hhi) (by omega) (by omega) (by omega) h1
        refine good_ret hR ?_ hvr
        simp only [execOp, ho, Instr.sliceAt, Sem.run_bind, run_underlying hun, Result.andThen_ok, hv, Instr.slice]
        simp only [Int.toNat_natCast] at hb
        simp only [Option.map_none, hb, Sem.run_bind, Result.andThen_ok, r.sizeOf, Sem.run_pure, Option.map_some]
        split <;> rfl
      · rename_i mv hmx
        split at hk
        · rename_i m hv' hm hhv
          obtain ⟨my, rfl, hmy⟩ := map_of_omapV hmx
          obtain ⟨hy, rfl, hhy⟩ := map_of_omapV hhv
          obtain ⟨v, hcut, hR⟩ := retO_some hk
          obtain ⟨p, cc, mm, hv, h1, h2, h3, hmm, hvr⟩ := cutV_vr hcut hob ht hx
          simp only at hmm
          obtain ⟨rfl, hm1, hm2⟩ := hmm
          obtain ⟨km, hkm⟩ := natOf_vr hm (by rw [← hmy]; exact opnd_vr hG h my)
          have hhi2 : natOf hv' = some hh := by rw [hhv] at hhi; simpa [natOr] using hhi
          obtain ⟨kh, hkh⟩ := natOf_vr hhi2 (by rw [← hhy]; exact opnd_vr hG h hy)
          have hb := bounds3 (P := P) (w := w) len cc (lo.map a.eval) l hh mm (kh := kh) (km := km) (natOr_run hG h hl) h2 hm1 hm2
          refine good_ret hR ?_ hvr
          simp only [execOp, ho, Instr.sliceAt, Sem.run_bind, run_underlying hun, Result.andThen_ok, hv, Instr.slice, Option.map_some, hkm, hkh, hb, r.sizeOf, Sem.run_pure]
          split <;> rfl
        · cases hk
    · cases hk
  · cases hp

theorem bytesIn_vr : ∀ {cs : List V} {us : List Value} {l : List UInt8}, bytesIn cs = some l → VRL T w A S s β cs us → us = l.map fun b => Value.int .u8 b.toNat
  | [], us, l, hb, h => by
    simp [bytesIn] at hb
    simp [VRL] at h
    simp [← hb, h]
  | v :: r, us, l, hb, h => by
    unfold bytesIn at hb
    split at hb
    · cases ‹v :: r = []›
    · rename_i n r' he
      simp only [List.cons.injEq] at he
      obtain ⟨rfl, rfl⟩ := he
      split at hb
      · rename_i q hn hq
        simp only [Option.some.injEq] at hb
        subst hb
        simp only [VRL, VR, RV] at h
        obtain ⟨u, us', rfl, rfl, h2⟩ := h
        have hn : n < 256 := by simpa using hn
        rw [bytesIn_vr hq h2]
        simp [Nat.mod_eq_of_lt hn]
      · cases hb
    · cases hb

/-- a slice operand's cells -/
theorem srcV_some {el : TypeId} {y : V} {vy : Value} (h : Rel T N w0 A s0 β0 w S s β e a Dp) (hy : VR T w A S s β y vy) {K : List V → Nat → Option Rec} (hs : srcV T el (sget s) y K = some R) :
    ∃ cs m R1 acc, K cs m = some R1 ∧ R = ⟨R1.v, acc, R1.del, R1.new⟩ ∧ (∀ v ∈ cs, oneV v = true) ∧
      ((∃ cc, vy = .slice none 0 cc ∧ cs = [] ∧ m = 0) ∨ ∃ p cc us, vy = .slice (some p) m cc ∧ VRL T w A S s β cs us ∧ cs.length = m * (T el).size ∧ (∀ j u, us[j]? = some u → w.cell? (p.add j) = some u)) := by
  unfold srcV at hs
  split at hs
  · simp only [VR, RV] at hy
    exact ⟨[], 0, R, R.acc, hs, rfl, by simp, .inl ⟨0, hy, rfl, rfl⟩⟩
  · simp only [VR, RV, RI] at hy
    obtain ⟨p, cap, hv, _, hz, _⟩ := hy
    cases p with
    | none => exact ⟨[], 0, R, R.acc, hs, rfl, by simp, .inl ⟨cap, hv, rfl, rfl⟩⟩
    | some p => exact ⟨[], 0, R, R.acc, hs, rfl, by simp, .inr ⟨p, cap, [], hv, by simp [VRL], by simp, by simp⟩⟩
  · rename_i id off len cap
    obtain ⟨ob, R1, hob, hk, rfl⟩ := withObj_some hs
    split at hk
    · rename_i ht hle
      have ht : ob.t = el := by simpa using ht
      have hle := Nat.le_of_ble_eq_true hle
      rw [lenV_eq] at hle
      simp only [VR] at hy
      obtain ⟨_, hS, hy⟩ := hy
      obtain ⟨cc, hv, h1, h2, h3, h4⟩ := hy ob hob
      obtain ⟨us, h5, h6⟩ := (h.obj id ob hob).1.range
      obtain ⟨cur, _, _, _, hone, _⟩ := (h.obj id ob hob).1
      refine ⟨_, len, R1, _, hk, rfl, ?_, .inr ⟨_, cc, (us.drop off).take (len * (T el).size), hv, ?_, ?_, ?_⟩⟩
      · intro v hv
        rw [takeV_eq, dropV_eq] at hv
        exact hone v (List.mem_of_mem_drop (List.mem_of_mem_take hv))
      · rw [takeV_eq, dropV_eq]
        exact VRL.take _ (VRL.drop _ h5)
      · rw [takeV_eq, dropV_eq]
        simp
        omega
      · intro j u hj
        rw [Addr.add_mid]
        rw [List.getElem?_take] at hj
        split at hj
        · rw [Nat.add_assoc]
          exact h6 _ u (by simpa using hj)
        · cases hj
    · cases hk
  · cases hs

theorem p_convert (hT : TOk P T) (hG : GOk G w0 A) (h : Rel T N w0 A s0 β0 w S s β e a Dp) {t u : TypeId} {x : Operand} (ho : o.op = .convert t u x) (hp : pConvert T (sget s) t u (opnd G e x) = some R) : Good P T A o a w S s β d R := by
  have hx := opnd_vr hG h x
  unfold pConvert at hp
  split at hp
  · rename_i k1 k hk1 hk2
    split at hp
    · rename_i k3 n he
      rw [he] at hx; simp only [VR, RV] at hx
      obtain ⟨i, z, dd, r1⟩ := hT.row t (by rw [hk1]; rfl)
      obtain ⟨i', z', d', r2⟩ := hT.row u (by rw [hk2]; rfl)
      have hd := r1.desc; rw [hk1] at hd; simp only [DW.DescIs] at hd
      have hd' := r2.desc; rw [hk2] at hd'; simp only [DW.DescIs] at hd'
      subst hd; subst hd'
      exact good_ret hp (v := .int k (k.wrap n)) (by simp [execOp, ho, hx, convert, run_underlying r1.under, run_underlying r2.under, Conv.intToInt]) (by simp [VR, RV])
    · cases hp
  · rename_i el hk1 hk2
    split at hp
    · rename_i hk3
      obtain ⟨hu, i', z, dd, r, hpos, _⟩ := DW.TRow.slice hT hk1
      have hd := r.desc; rw [hk3] at hd; simp only [DW.DescIs] at hd
      subst hd
      have hsz := r.one (by rw [hk3]; rfl)
      obtain ⟨cs, m, R1, acc, hk, rfl, hone, hcase⟩ := srcV_some h hx hp
      refine Good.acc ?_
      split at hk
      · rename_i l hl
        rcases hcase with ⟨cc, hv, rfl, rfl⟩ | ⟨p, cc, us, hv, hvr, hlen, hcells⟩
        · simp [bytesIn] at hl
          subst hl
          refine good_ret hk (v := .string .empty) ?_ (by simp only [VR, RV]; rfl)
          simp [execOp, ho, hv, convert, run_underlying hu, run_underlying (DW.TRow.str hT hk2), run_underlying r.under, Conv.bytesToString]
        · have hus := bytesIn_vr hl hvr
          subst hus
          rw [hsz, Nat.mul_one] at hlen
          have hll := hvr.length
          simp only [List.length_map] at hll
          have hfc := run_firstCells_some (P := P) w 1 m p m cc (l.map fun b => Value.int .u8 b.toNat) (by simp; omega) hcells
          simp only [Builtin.firstCells, Nat.mul_one] at hfc
          have hrun := run_bytesToString (P := P) w p m cc (l.map fun b => (b.toNat : Int)) (by rw [hfc]; simp [Function.comp_def])
          refine good_ret hk (v := .string (strOf l)) ?_ (by simp [VR, RV])
          simp only [execOp, ho, hv, convert, Sem.run_bind, run_underlying hu, run_underlying (DW.TRow.str hT hk2), run_underlying r.under, Result.andThen_ok, hrun]
          have hfold : ∀ (l : List UInt8) (b : ByteArray), (l.map fun b => (b.toNat : Int)).foldl (fun r n => r.push (UInt8.ofNat n.toNat)) b = strOf (bytesOf b ++ l) := by
            intro l
            induction l with
            | nil => intro b; simp [strOf, bytesOf]
            | cons x r ih =>
              intro b
              simp only [List.map_cons, List.foldl_cons, ih]
              simp [strOf, bytesOf, ByteArray.push]
          rw [hfold]
          rfl
      · cases hk
    · cases hp
  · cases hp
end
end Go.CR

/- Aggregates; operations that make objects. -/
namespace Go.CR
open Go
open Go.DW (D TT TI TK RV RVL RI RIL RILL ideq ideq_iff ideq_false TOk TRow GOk zerosAre)

def writeS (cs : List V) (off : Nat) : List V → List V
  | [] => cs
  | v :: r => writeS (cs.set off v) (off + 1) r
theorem writeS_eq : ∀ (l cs : List V) (off : Nat), off + l.length ≤ cs.length → writeS cs off l = cs.take off ++ (l ++ cs.drop (off + l.length))
  | [], cs, off, h => by simp [writeS]
  | d :: r, cs, off, h => by
    simp only [List.length_cons] at h
    simp only [writeS]
    rw [writeS_eq r (cs.set off d) (off + 1) (by simp; omega)]
    have h1 : (cs.set off d).take (off + 1) = cs.take off ++ [d] := by
      apply List.ext_getElem?
      intro j
      simp only [List.getElem?_take, List.getElem?_set, List.getElem?_append, List.length_take, Nat.min_eq_left (show off ≤ cs.length by omega)]
      by_cases hj : j < off
      · simp [hj, Nat.lt_succ_of_lt hj, show off ≠ j by omega]
      · by_cases hj2 : j = off
        · subst hj2; simp; omega
        · obtain ⟨k, rfl⟩ := Nat.exists_eq_add_of_le (show off + 1 ≤ j by omega)
          simp [show ¬ off + 1 + k < off by omega, show ¬ off + 1 + k < off + 1 by omega, show off + 1 + k - off = k + 1 by omega]
    have h2 : (cs.set off d).drop (off + 1 + r.length) = cs.drop (off + (r.length + 1)) := by
      rw [List.drop_set_of_lt (by omega), show off + 1 + r.length = off + (r.length + 1) by omega]
    rw [h1, h2]
    simp

section
variable {P : Program} {c : Ctx} {N : Nat} {w0 : World} {A : Nat → Prop} {s0 : Sto} {β0 : Id → Place} {w : World} {S : Nat → Prop} {s : Sto} {β : Id → Place} {e : Env} {a : Act} {Dp : Nat → Prop} {o : Oper} {d : Nat} {R : Rec} {T : TT} {G : Nat → Option (List D)}

theorem VRL.set {v : V} {u : Value} (hd : VR T w A S s β v u) : ∀ {e : List V} {us : List Value} (i : Nat), VRL T w A S s β e us → VRL T w A S s β (e.set i v) (us.set i u)
  | [], us, i, h => by simp [VRL] at h; simp [h, VRL]
  | x :: r, us, 0, h => by
    simp only [VRL] at h
    obtain ⟨u', us', rfl, _, h2⟩ := h
    simp only [List.set_cons_zero, VRL]
    exact ⟨u, us', rfl, hd, h2⟩
  | x :: r, us, i + 1, h => by
    simp only [VRL] at h
    obtain ⟨u', us', rfl, h1, h2⟩ := h
    simp only [List.set_cons_succ, VRL]
    exact ⟨u', _, rfl, h1, VRL.set hd i h2⟩
theorem VRL.write : ∀ {l : List V} {vs : List Value} {cs : List V} {us : Array Value} (off : Nat), VRL T w A S s β cs us.toList → VRL T w A S s β l vs → ∀ k,
    VRL T w A S s β (writeS cs (off + k) l) ((vs.zipIdx k).foldl (fun cs p => cs.setIfInBounds (off + p.2) p.1) us).toList
  | [], vs, cs, us, off, h, hl, k => by simp [VRL] at hl; subst hl; simpa [writeS] using h
  | d :: r, vs, cs, us, off, h, hl, k => by
    simp only [VRL] at hl
    obtain ⟨u, vs', rfl, h1, h2⟩ := hl
    simp only [writeS, List.zipIdx_cons, List.foldl_cons]
    have := VRL.write (cs := cs.set (off + k) d) (us := us.setIfInBounds (off + k) u) off (by simpa using VRL.set h1 (off + k) h) h2 (k + 1)
    simpa [Nat.add_assoc] using this

/-- a value's cells -/
theorem VR.cells {v : V} {u : Value} (hv : VR T w A S s β v u) (hc : oneL (cellsOf v) = true) : VRL T w A S s β (cellsOf v) u.cells.toList ∧ ∀ x ∈ u.cells.toList, x.oneCell' = true := by
  have hsingle : cellsOf v = [v] → VRL T w A S s β (cellsOf v) u.cells.toList ∧ ∀ x ∈ u.cells.toList, x.oneCell' = true := by
    intro h1
    rw [h1] at hc ⊢
    have h2 : oneV v = true := oneL_iff.1 hc v (by simp)
    have h3 := hv.one h2
    have he : u.cells = #[u] := by cases u <;> first | rfl | (simp [Value.oneCell'] at h3)
    rw [he]
    refine ⟨by simp [VRL, hv], ?_⟩
    intro x hx
    simp at hx
    subst hx
    exact h3
  cases v with
  | agg cs =>
    simp only [VR] at hv
    obtain ⟨vs, rfl, hv⟩ := hv
    exact ⟨hv, VRL.one (oneL_iff.1 hc) hv⟩
  | _ => exact hsingle rfl

theorem fill_run {place : Nat → Option (Nat × Nat)} : ∀ {parts : List (Nat × V)} {vals : List (Nat × Value)} {cs cs' : List V} {us : Array Value}, fillV place cs parts = some cs' → VRL T w A S s β cs us.toList →
    vals.map (·.1) = parts.map (·.1) → VRL T w A S s β (parts.map (·.2)) (vals.map (·.2)) → ∃ us', Instr.fill place us vals = some us' ∧ VRL T w A S s β cs' us'.toList
  | [], vals, cs, cs', us, hf, h, hi, hv => by
    have : vals = [] := by simpa using hi
    subst this
    simp [fillV] at hf
    subst hf
    exact ⟨us, rfl, h⟩
  | (i, v) :: r, vals, cs, cs', us, hf, h, hi, hv => by
    match vals, hi, hv with
    | (j, u) :: vals', hi1, hv1 =>
      simp only [List.map_cons, List.cons.injEq] at hi1
      obtain ⟨rfl, hi2⟩ := hi1
      simp only [List.map_cons, VRL, List.cons.injEq] at hv1
      obtain ⟨x, us'', ⟨rfl, rfl⟩, h1, h2⟩ := hv1
      simp only [fillV] at hf
      simp only [Instr.fill]
      cases hp : place j with
      | none => simp [hp] at hf
      | some q =>
        obtain ⟨off, sz⟩ := q
        simp only [hp] at hf ⊢
        split at hf
        · rename_i hc hsz hlt
          rw [lenV_eq] at hsz hlt
          obtain ⟨h3, h4⟩ := h1.cells hc
          have hl3 := h3.length
          have hl4 := h.length
          have hsz : (cellsOf v).length = sz := by simpa using hsz
          have hlt : off + sz ≤ cs.length := by simpa using hlt
          have hs1 : u.cells.size = sz := by rw [← hsz, ← hl3]; simp
          have hs2 : us.size = cs.length := by rw [← hl4]; simp
          rw [if_neg (by simp [hs1, hs2]; omega)]
          have hw := VRL.write off h h3 0
          simp only [Nat.add_zero] at hw
          rw [writeS_eq _ _ _ (by omega), ← writeV_eq] at hw
          refine fill_run hf ?_ hi2 h2
          have : (u.cells.zipIdx.foldl (fun cs (c, j) => cs.setIfInBounds (off + j) c) us) = ((u.cells.toList.zipIdx 0).foldl (fun cs p => cs.setIfInBounds (off + p.2) p.1) us) := by
            rw [← Array.foldl_toList, Array.toList_zipIdx]
          rw [this]
          exact hw
        · cases hf

theorem prL_eq (ρ : Operand → V) (l : List (Nat × Operand)) : prL ρ l = l.map fun (i, x) => (i, ρ x) := by
  induction l with
  | nil => rfl
  | cons p r ih => simp [prL, ih]
theorem sndL_eq (ρ : Operand → V) (l : List (Nat × Operand)) : sndL ρ l = l.map fun (_, x) => ρ x := by
  induction l with
  | nil => rfl
  | cons p r ih => simp [sndL, ih]
theorem parts_vr (hG : GOk G w0 A) (h : Rel T N w0 A s0 β0 w S s β e a Dp) (parts : List (Nat × Operand)) :
    VRL T w A S s β ((parts.map fun (i, x) => (i, opnd G e x)).map (·.2)) ((parts.map fun (i, x) => (i, a.eval x)).map (·.2)) := by
  induction parts with
  | nil => simp [VRL]
  | cons p r ih =>
    simp only [List.map_cons, VRL]
    exact ⟨_, _, rfl, opnd_vr hG h p.2, ih⟩
theorem zeros_vr {t : TypeId} {i : TypeInfo} {z : Value} {dd : TypeDesc} (r : TRow P T t i z dd) : VRL T w A S s β (wrapL (T t).zero) z.cells.toList := wrap_vr (DW.zerosAre_ril w A r.zeros).toRVL

theorem p_build (hT : TOk P T) (hG : GOk G w0 A) (h : Rel T N w0 A s0 β0 w S s β e a Dp) {t : TypeId} {parts : Array (Nat × Operand)} (ho : o.op = .build t parts) (hp : pBuild T t (prL (opnd G e) parts.toList) = some R) : Good P T A o a w S s β d R := by
  have hv := parts_vr hG h parts.toList
  rw [prL_eq] at hp
  have hidx : (parts.toList.map fun (i, x) => (i, a.eval x)).map (·.1) = (parts.toList.map fun (i, x) => (i, opnd G e x)).map (·.1) := by simp [Function.comp_def]
  have fin : ∀ cs us, VRL T w A S s β cs us.toList → ret (.agg cs) = some R → (Instr.build t (parts.map fun (i, x) => (i, a.eval x))).run P w = .ok (.agg us) w → Good P T A o a w S s β d R := by
    intro cs us hr hk hrun
    refine good_ret hk (v := .agg us) ?_ (by simp only [VR]; exact ⟨us, rfl, hr⟩)
    simp only [execOp, ho, Sem.run_bind, hrun, Result.andThen_ok, Sem.run_pure]
  unfold pBuild at hp
  split at hp
  · rename_i fs hk1
    split at hp
    · rename_i cs hf
      obtain ⟨i, z, dd, r⟩ := hT.row t (by rw [hk1]; rfl)
      have hd := r.desc; rw [hk1] at hd; simp only [DW.DescIs] at hd
      obtain ⟨fields, rfl, hfs, hall⟩ := hd
      obtain ⟨us, hus, hr⟩ := fill_run hf (zeros_vr r) hidx hv
      refine fin cs us hr hp (run_build w t _ us ?_)
      have hpl : fields.toList.mapM (fun f => (P.info? f.type).map fun i => (f.offset, i.size)) = some (fields.toList.map fun f => (f.offset, (T f.type).size)) := by
        have : ∀ l : List Field, (∀ f ∈ l, (f.offset, f.type) ∈ fs) → l.mapM (fun f => (P.info? f.type).map fun i => (f.offset, i.size)) = some (l.map fun f => (f.offset, (T f.type).size)) := by
          intro l
          induction l with
          | nil => intro _; rfl
          | cons f l ih =>
            intro hm
            obtain ⟨i2, z2, d2, r2⟩ := hT.row f.type (hall _ (hm f (by simp))).1
            simp [List.mapM_cons, r2.info, r2.size, ih (fun g hg => hm g (by simp [hg]))]
        exact this _ (fun f hf => by rw [← hfs]; exact List.mem_map.2 ⟨f, hf, rfl⟩)
      simp only [Program.built, r.info, r.under, r.zero, hpl]
      have hplace : (fun x => ((fields.toList.map fun f => (f.offset, (T f.type).size)).toArray)[x]?) = DW.fieldAtT T fs := by
        funext x
        simp only [DW.fieldAtT, DW.nthF_eq, ← hfs]
        cases hx : fields[x]? <;> simp [hx]
      rw [hplace]
      simpa using hus
    · cases hp
  · rename_i n el hk1
    split at hp
    · rename_i cs hf
      obtain ⟨i, z, dd, r⟩ := hT.row t (by rw [hk1]; rfl)
      obtain ⟨hu, i', z', d', r', _⟩ := DW.TRow.array hT hk1
      obtain ⟨us, hus, hr⟩ := fill_run hf (zeros_vr r) hidx hv
      refine fin cs us hr hp (run_build w t _ us ?_)
      simp only [Program.built, r.info, hu, r.zero, r'.info, r'.size]
      simpa using hus
    · cases hp
  · cases hp

/-- an object is made: the general case -/
theorem Good.make (h : Rel T N w0 A s0 β0 w S s β e a Dp) (hd : ¬ S d) {acc : List Id} {x : V} {v : Value} {t : TypeId} {cs : List V} {cur : Array Value} (hvr : VRL T w A S s β cs (cur.toList.take cs.length)) (hone : ∀ v ∈ cs, oneV v = true)
    {w' : World} (hg : w.grownBy w' none) (hb : w'.heap[w.heap.size]? = some (.cells cur t (0, 0)))
    (hx : ∀ s' S' β', S' d → β' (d, 0) = (w.heap.size, 0, cur.size) → sget s' (d, 0) = some (mk t cs) → VR T w' A S' s' β' x v)
    (hrun : (execOp a.eval o).run P w = .ok (.value v) w') : Good P T A o a w S s β d ⟨x, acc, [], [((d, 0), mk t cs)]⟩ := by
  have hA : ∀ b, A b → w'.heap[b]? = w.heap[b]? := fun b hbA => hg.block b (Nat.lt_of_lt_of_le (h.base b hbA).1 h.hsize) (by simp)
  obtain ⟨β', hc⟩ := Chg.add1 (x := x) (v := v) (acc := acc) h hd (o := mk t cs) (b := w.heap.size) (n := (0, cur.size)) hg (Nat.le_refl _) (by
    intro s' β' S' hS hag hβ
    refine ⟨cur, by rw [hβ]; exact hb, by rw [hβ], ?_, hone, ?_⟩
    · rw [hβ]
      exact VRL.mono hA hS hag _ _ (by simpa [mk] using hvr)
    · intro hf
      exact flatL_iff.1 hf) (fun s' β' S' hS hSd hag hβ hs => hx s' S' β' hSd hβ hs)
  exact ⟨v, w', β', .inl hrun, hc⟩

theorem take_all {l : List Value} {n : Nat} (h : l.length ≤ n) : l.take n = l := List.take_of_length_le h

theorem zero_one : ∀ {l : List D} {us : List Value}, zerosAre l us = true → ∀ v ∈ wrapL l, oneV v = true
  | [], us, h, v, hv => by simp [wrapL] at hv
  | x :: r, [], h, v, hv => by simp [zerosAre] at h
  | x :: r, u :: q, h, v, hv => by
    simp only [zerosAre, Bool.and_eq_true] at h
    simp only [wrapL, List.mem_cons] at hv
    rcases hv with rfl | hv
    · have := h.1
      unfold DW.zeroIs at this
      split at this <;> first | rfl | cases this
    · exact zero_one h.2 v hv

theorem p_alloc (hT : TOk P T) (h : Rel T N w0 A s0 β0 w S s β e a Dp) (hd : ¬ S d) {t : TypeId} (ho : o.op = .alloc t) (hp : pAlloc T t d = some R) : Good P T A o a w S s β d R := by
  unfold pAlloc at hp
  split at hp
  · rename_i hkn
    simp only [Option.some.injEq] at hp
    subst hp
    obtain ⟨i, z, dd, r⟩ := hT.row t hkn
    have hz := zeros_vr (w := w) (A := A) (S := S) (s := s) (β := β) r
    have hl := hz.length
    refine Good.make h hd (v := .pointer (some ⟨w.heap.size, 0, none⟩)) (cur := z.cells) (w' := w.alloc (.cells z.cells t)) (by rw [take_all (by omega)]; exact hz) (zero_one r.zeros) (World.grownBy_alloc w _ none) (heap_alloc_new w _) ?_ ?_
    · intro s' S' β' hS hβ hs
      simp only [VR]
      exact ⟨rfl, hS, fun _ => by rw [hβ]⟩
    · simp [execOp, ho, Instr.alloc, r.zeroValue, newVar, newRow]
  · cases hp

theorem p_box (hG : GOk G w0 A) (h : Rel T N w0 A s0 β0 w S s β e a Dp) (hd : ¬ S d) {t : TypeId} {x : Operand} (ho : o.op = .box t x) (hp : pBox T t (cellsOf (opnd G e x)) d = some R) : Good P T A o a w S s β d R := by
  unfold pBox at hp
  split at hp
  · rename_i hsz hone
    simp only [Option.some.injEq] at hp
    subst hp
    obtain ⟨h1, h2⟩ := (opnd_vr hG h x).cells hone
    have hl := h1.length
    refine Good.make h hd (v := .pointer (some ⟨w.heap.size, 0, none⟩)) (cur := (a.eval x).cells) (w' := w.alloc (.cells (a.eval x).cells t)) (by rw [take_all (by omega)]; exact h1) (oneL_iff.1 hone) (World.grownBy_alloc w _ none) (heap_alloc_new w _) ?_ ?_
    · intro s' S' β' hS hβ hs
      simp only [VR]
      exact ⟨rfl, hS, fun _ => by rw [hβ]⟩
    · simp [execOp, ho, Instr.box, newVar, newRow]
  · cases hp

theorem joinV_run {sz : Nat} : ∀ {xs : List V} {us : List Value} {cs : List V}, joinV sz xs = some cs → VRL T w A S s β xs us → VRL T w A S s β cs (us.flatMap fun v => v.cells.toList) ∧ (∀ v ∈ us, v.cells.size = sz) ∧ (∀ v ∈ cs, oneV v = true) ∧ cs.length = us.length * sz
  | [], us, cs, hj, h => by
    simp [VRL] at h
    simp [joinV] at hj
    subst h; subst hj
    simp [VRL]
  | x :: r, us, cs, hj, h => by
    simp only [VRL] at h
    obtain ⟨u, us', rfl, h1, h2⟩ := h
    simp only [joinV] at hj
    split at hj
    · rename_i q hone hsz hq
      simp only [Option.some.injEq] at hj
      subst hj
      obtain ⟨i1, i2, i3, i4⟩ := joinV_run hq h2
      obtain ⟨h3, h4⟩ := h1.cells hone
      have hl := h3.length
      rw [lenV_eq] at hsz
      have hsz : (cellsOf x).length = sz := by simpa using hsz
      refine ⟨?_, ?_, ?_, ?_⟩
      · simp only [List.flatMap_cons]
        exact VRL.append h3 i1
      · intro v hv
        rcases List.mem_cons.1 hv with rfl | hv
        · rw [← hsz, ← hl]; simp
        · exact i2 v hv
      · intro v hv
        rcases List.mem_append.1 hv with hv | hv
        · exact oneL_iff.1 hone v hv
        · exact i3 v hv
      · rw [List.length_append, hsz, i4, List.length_cons, Nat.add_mul, Nat.one_mul, Nat.add_comm]
    · cases hj

theorem p_buildSlice (hT : TOk P T) (hG : GOk G w0 A) (h : Rel T N w0 A s0 β0 w S s β e a Dp) (hd : ¬ S d) {t : TypeId} {len : Nat} {parts : Array (Nat × Operand)} (ho : o.op = .buildSlice t len parts)
    (hp : pBuildSlice T t len (DW.seqParts 0 parts.toList) parts.toList.length (sndL (opnd G e) parts.toList) d = some R) : Good P T A o a w S s β d R := by
  unfold pBuildSlice at hp
  split at hp
  · rename_i el hk1 hseq hlen
    have hlen : len = parts.toList.length := by simpa using hlen
    split at hp
    · rename_i cs hsmall hj
      simp only [Option.some.injEq] at hp
      subst hp
      obtain ⟨hu, i', z, dd, r, hpos, _⟩ := DW.TRow.slice hT hk1
      have hvs : VRL T w A S s β (sndL (opnd G e) parts.toList) (parts.toList.map fun (_, x) => a.eval x) := by
        have := parts_vr hG h parts.toList
        rw [sndL_eq]
        simpa [Function.comp_def] using this
      obtain ⟨h1, hs1, hone, hl⟩ := joinV_run hj hvs
      simp only [List.length_map] at hl
      have hnl : ((parts.toList.map fun (_, x) => a.eval x).flatMap fun v => v.cells.toList).length = len * (T el).size := by
        rw [h1.length, hl, hlen]
      have hparts : (parts.map fun (i, x) => (i, a.eval x)).toList = ((parts.toList.map fun (_, x) => a.eval x).zipIdx 0).map fun x => (x.2, x.1) := by
        rw [Array.toList_map]; exact DW.seq_zip a.eval parts.toList 0 hseq
      have hsm : len * (T el).size ≤ 16777216 := by simpa using hsmall
      have hfill : ∀ cs : Array Value, cs.size = len * (T el).size → Instr.fill (fun i => some (i * (T el).size, (T el).size)) cs (parts.map fun (i, x) => (i, a.eval x)).toList = some ((parts.toList.map fun (_, x) => a.eval x).flatMap fun v => v.cells.toList).toArray := by
        intro cs hcs
        rw [hparts]
        exact Great.fill_whole hpos _ cs hs1 (by rw [hcs, hlen]; simp)
      have hrun : (Instr.buildSlice t len (parts.map fun (i, x) => (i, a.eval x))).run P w = .ok (.slice (some ⟨w.heap.size, 0, none⟩) len len) (w.alloc (.cells ((parts.toList.map fun (_, x) => a.eval x).flatMap fun v => v.cells.toList).toArray el)) := by
        by_cases h0 : len * (T el).size = 0
        · have hl0 : len = 0 := by
            rcases Nat.mul_eq_zero.1 h0 with h0 | h0 <;> omega
          have hp0 : parts = #[] := by
            apply Array.eq_empty_of_size_eq_zero
            have := hlen; simp at this; omega
          subst hp0; subst hl0
          simp [Instr.buildSlice, run_underlying hu, Go.sizeOf, typeInfo, r.info, newRow, Instr.fill]
          congr 2
          exact Array.eq_empty_of_size_eq_zero (by simp)
        · refine run_buildSlice w t el len _ _ i' z hu r.info r.zero (by rw [r.size]; omega) (by rw [r.size]; omega) ?_
          rw [r.size]
          exact hfill _ (by simp)
      refine Good.make h hd (v := .slice (some ⟨w.heap.size, 0, none⟩) len len) (cur := ((parts.toList.map fun (_, x) => a.eval x).flatMap fun v => v.cells.toList).toArray) (w' := w.alloc (.cells ((parts.toList.map fun (_, x) => a.eval x).flatMap fun v => v.cells.toList).toArray el)) (t := el) ?_ hone (World.grownBy_alloc w _ none) (heap_alloc_new w _) ?_ ?_
      · simp only [List.toList_toArray]
        rw [take_all (by rw [h1.length]; omega)]
        exact h1
      · intro s' S' β' hS hβ hs
        simp only [VR]
        refine ⟨rfl, hS, fun o' ho' => ?_⟩
        rw [hs] at ho'
        cases ho'
        have hln : len ≤ len * (T el).size := Nat.le_mul_of_pos_right len hpos
        refine ⟨len, by rw [hβ], Nat.le_refl _, by simp only [maxLen]; omega, fun k hk => by simpa using hk, ?_⟩
        rw [hβ]
        simp only [List.size_toArray, hnl, mk, Nat.zero_add]
        omega
      · simp only [execOp, ho, Sem.run_bind, hrun, Result.andThen_ok, Sem.run_pure]
    · cases hp
  · cases hp

theorem repV_vr {zs : List V} {us : List Value} (hz : VRL T w A S s β zs us) : ∀ n, VRL T w A S s β (repV n zs) (List.flatten (List.replicate n us))
  | 0 => by simp [repV, VRL]
  | n + 1 => by
    simp only [repV, List.replicate_succ, List.flatten_cons]
    exact VRL.append hz (repV_vr hz n)
theorem repV_one {zs : List V} (hz : ∀ v ∈ zs, oneV v = true) : ∀ n, ∀ v ∈ repV n zs, oneV v = true
  | 0, v, h => by simp [repV] at h
  | n + 1, v, h => by
    simp only [repV, List.mem_append] at h
    rcases h with h | h
    · exact hz v h
    · exact repV_one hz n v h
theorem repV_length (zs : List V) : ∀ n, (repV n zs).length = n * zs.length
  | 0 => by simp [repV]
  | n + 1 => by simp [repV, repV_length zs n, Nat.add_mul, Nat.add_comm]
theorem made_flat {z : Array Value} {sz : Nat} (hs : z.size = sz) (hp : 0 < sz) : ∀ (n k : Nat), (List.range' (k * sz) (n * sz)).map (fun i => z[i % z.size]!) = List.flatten (List.replicate n z.toList)
  | 0, k => by simp
  | n + 1, k => by
    have e1 : (List.range' (k * sz) ((n + 1) * sz)) = List.range' (k * sz) sz ++ List.range' ((k + 1) * sz) (n * sz) := by
      rw [Nat.add_mul n, Nat.one_mul, Nat.add_comm (n * sz), Nat.add_mul k, Nat.one_mul, List.range'_append_1]
    rw [e1, List.map_append, made_flat hs hp n (k + 1), List.replicate_succ, List.flatten_cons]
    congr 1
    apply List.ext_getElem
    · simp [hs]
    · intro i h1 h2
      simp only [List.length_map, List.length_range'] at h1
      have hm : (k * sz + i) % z.size = i := by
        rw [hs, Nat.mul_comm, Nat.mul_add_mod, Nat.mod_eq_of_lt h1]
      simp only [List.getElem_map, List.getElem_range', Nat.one_mul, hm]
      simp at h2
      simp [h2]

theorem p_makeSlice (hT : TOk P T) (hG : GOk G w0 A) (h : Rel T N w0 A s0 β0 w S s β e a Dp) (hd : ¬ S d) {t : TypeId} {l cp : Operand} (ho : o.op = .makeSlice t l cp)
    (hp : pMakeSlice T t (natOf (opnd G e l)) (natOf (opnd G e cp)) d = some R) : Good P T A o a w S s β d R := by
  unfold pMakeSlice at hp
  split at hp
  · rename_i el n m hk1 hn hm
    obtain ⟨k1, hn⟩ := natOf_vr hn (opnd_vr hG h l)
    obtain ⟨k2, hm⟩ := natOf_vr hm (opnd_vr hG h cp)
    split at hp
    · rename_i hnm hfit
      have hnm := Nat.le_of_ble_eq_true hnm
      have hfit := Nat.le_of_ble_eq_true hfit
      simp only [Option.some.injEq] at hp
      subst hp
      obtain ⟨hu, i', z, dd, r, hpos, hbp⟩ := DW.TRow.slice hT hk1
      have hz := zeros_vr (w := w) (A := A) (S := S) (s := s) (β := β) r
      have hzl := hz.length
      rw [wrapL_eq, List.length_map, r.zlen] at hzl
      have hzs : z.cells.size = (T el).size := by simpa using hzl
      have hmb : m ≤ m * (T el).bytes := Nat.le_mul_of_pos_right m hbp
      have hmi : ((m * (T el).bytes : Nat) : Int) ≤ 140737488355328 := by omega
      have hrun := run_make (P := P) w t el i' z hu r.info r.zero k1 k2 (n : Int) (m : Int) (by omega) (by omega) (by rw [r.bytes, Int.mul_comm, ← Int.natCast_mul]; omega) (by omega)
      simp only [Int.toNat_natCast, r.size] at hrun
      have hmc : (madeCells z.cells (m * (T el).size)).toList = List.flatten (List.replicate m z.cells.toList) := by
        have := made_flat hzs hpos m 0
        rw [Nat.zero_mul] at this
        rw [← this]
        simp [madeCells, Array.toList_range, List.range_eq_range']
      have hrep := repV_vr hz m
      rw [← hmc] at hrep
      refine Good.make h hd (v := .slice (some ⟨w.heap.size, 0, none⟩) n m) (cur := madeCells z.cells (m * (T el).size)) (w' := w.alloc (.cells (madeCells z.cells (m * (T el).size)) el)) (t := el) ?_ (repV_one (zero_one r.zeros) m) (World.grownBy_alloc w _ none) (heap_alloc_new w _) ?_ ?_
      · rw [take_all (by rw [hrep.length]; exact Nat.le_refl _)]
        exact hrep
      · intro s' S' β' hS hβ hs
        simp only [VR]
        refine ⟨rfl, hS, fun o' ho' => ?_⟩
        rw [hs] at ho'
        cases ho'
        refine ⟨m, by rw [hβ], hnm, by simp only [maxLen]; omega, fun k hk => by simpa using hk, ?_⟩
        rw [hβ]
        simp [size_madeCells, mk]
      · simp only [execOp, ho, hn, hm, Sem.run_bind, hrun, Result.andThen_ok, Sem.run_pure]
    · cases hp
  · cases hp
end
end Go.CR

/- Stores and 'append'. -/
namespace Go.CR
open Go
open Go.DW (D TT TI TK RV RVL RI RIL RILL ideq ideq_iff ideq_false TOk TRow GOk zerosAre)

/-- cells put into a row, seen through a window -/
theorem put_window {α : Type} (cur l : List α) (b off n : Nat) (h1 : off + l.length ≤ n) (h2 : b + n ≤ cur.length) :
    ((cur.take (b + off) ++ (l ++ cur.drop (b + off + l.length))).drop b).take n = ((cur.drop b).take n).take off ++ (l ++ ((cur.drop b).take n).drop (off + l.length)) := by
  have e1 : (cur.take (b + off) ++ (l ++ cur.drop (b + off + l.length))).drop b = (cur.drop b).take off ++ (l ++ (cur.drop b).drop (off + l.length)) := by
    rw [List.drop_append_of_le_length (by simp; omega), List.drop_take, List.drop_drop]
    congr 2
    · omega
    · rw [show b + (off + l.length) = b + off + l.length by omega]
  rw [e1, List.take_append, List.take_append]
  have hl : ((cur.drop b).take off).length = off := by simp; omega
  rw [hl, List.take_of_length_le (by omega), List.take_of_length_le (show l.length ≤ n - off by omega), List.take_take, Nat.min_eq_left (by omega), List.drop_take]
  congr 3
  omega

theorem upd_t (o : O) (cs new : List V) (ro : Bool) : (upd o cs new ro).t = o.t := by unfold upd; (split <;> try split) <;> rfl
theorem upd_cs (o : O) (cs new : List V) (ro : Bool) : (upd o cs new ro).cs = cs := by unfold upd; (split <;> try split) <;> rfl
theorem upd_ro (o : O) (cs new : List V) (ro : Bool) : (upd o cs new ro).ro = ro := by unfold upd; (split <;> try split) <;> rfl
theorem upd_fl {o : O} {cs new : List V} {ro : Bool} (h : (upd o cs new ro).fl = true) : o.fl = true ∧ flatL new = true := by
  unfold upd at h
  split at h
  · rename_i h1
    split at h
    · rename_i h2; exact ⟨h1, h2⟩
    · cases h
  · cases h

section
variable {P : Program} {c : Ctx} {N : Nat} {w0 : World} {A : Nat → Prop} {s0 : Sto} {β0 : Id → Place} {w : World} {S : Nat → Prop} {s : Sto} {β : Id → Place} {e : Env} {a : Act} {Dp : Nat → Prop} {o : Oper} {d : Nat} {R : Rec} {T : TT} {G : Nat → Option (List D)}

theorem run_store_at {w : World} {g off : Nat} {cur : Array Value} {et ty : TypeId} {v : Value} (hg : w.heap[g]? = some (.cells cur et (0, 0))) (hi : (P.info? ty).map (·.size) = some v.cells.size) (hfit : off + v.cells.size ≤ cur.size)
    (h1 : ∀ u ∈ v.cells.toList, u.oneCell' = true) : (Instr.storeAt ty (.pointer (some ⟨g, off, none⟩)) v).run P w = .ok () (w.setRow g (cur.toList.take off ++ v.cells.toList ++ cur.toList.drop (off + v.cells.size)).toArray) := by
  have := run_storeCells_at P g off et v.cells.toList 0 cur w hg (by simpa using hfit) h1
  cases hq : P.info? ty with
  | none => simp [hq] at hi
  | some i =>
    have hs : i.size = v.cells.size := by simpa [hq] using hi
    simp only [Nat.add_zero] at this
    simp [Instr.storeAt, Instr.sureAddr, storeVar, Go.sizeOf, typeInfo, hq, hs, this]

theorem grown_row (w : World) (g : Nat) (cs : Array Value) : w.grownBy (w.setRow g cs) (some g) :=
  ⟨rfl, rfl, rfl, by simp, fun k _ hk => setRow_other w g k _ (fun e => hk (by simp [e]))⟩

/-- the object with cells put in -/
theorem RO.put {id : Id} {ob : O} {cur : Array Value} (hg : w.heap[(β id).1]? = some (.cells cur ob.t (0, 0))) (hsz : cur.size = (β id).2.2) (hvr : VRL T w A S s β ob.cs ((cur.toList.drop (β id).2.1).take ob.cs.length)) (hone : ∀ v ∈ ob.cs, oneV v = true) (hfl : ob.fl = true → ∀ v ∈ ob.cs, flatV v = true)
    (hnA : ¬ A (β id).1) {off : Nat} {new : List V} {us : List Value} (hn : VRL T w A S s β new us) (hnone : ∀ v ∈ new, oneV v = true) (hfit : off + new.length ≤ ob.cs.length) (hpos : 0 < new.length)
    {s' : Sto} {β' : Id → Place} {S' : Nat → Prop} (hS : ∀ n, S n → S' n) (hag : Agrees S s s' β β') (hβ : β' id = β id) :
    RO T (w.setRow (β id).1 (cur.toList.take ((β id).2.1 + off) ++ us ++ cur.toList.drop ((β id).2.1 + off + us.length)).toArray) A S' s' β' id (upd ob (writeV ob.cs off new) new false) := by
  have hA : ∀ b, A b → (w.setRow (β id).1 (cur.toList.take ((β id).2.1 + off) ++ us ++ cur.toList.drop ((β id).2.1 + off + us.length)).toArray).heap[b]? = w.heap[b]? := fun b hb => setRow_other w _ b _ (fun e => hnA (e ▸ hb))
  have hul := hn.length
  have hcl := hvr.length
  simp only [List.length_take, List.length_drop, Array.length_toList] at hcl
  have hnl : (writeV ob.cs off new).length = ob.cs.length := by
    rw [writeV_eq]; simp; omega
  refine ⟨_, by rw [hβ, upd_t]; exact setRow_heap w _ cur _ _ _ hg, ?_, ?_, ?_, ?_⟩
  · rw [hβ, ← hsz]
    simp
    omega
  · rw [hβ, upd_cs, hnl]
    have hpw := put_window cur.toList us (β id).2.1 off ob.cs.length (by omega) (by simp; omega)
    rw [← List.append_assoc] at hpw
    rw [List.toList_toArray, hpw, writeV_eq, ← hul]
    refine VRL.mono hA hS hag _ _ ?_
    exact VRL.append (VRL.take off hvr) (VRL.append hn (VRL.drop _ hvr))
  · rw [upd_cs, writeV_eq]
    intro v hv
    rcases List.mem_append.1 hv with hv | hv
    · exact hone v (List.mem_of_mem_take hv)
    · rcases List.mem_append.1 hv with hv | hv
      · exact hnone v hv
      · exact hone v (List.mem_of_mem_drop hv)
  · intro hf
    obtain ⟨h1, h2⟩ := upd_fl hf
    rw [upd_cs, writeV_eq]
    intro v hv
    rcases List.mem_append.1 hv with hv | hv
    · exact hfl h1 v (List.mem_of_mem_take hv)
    · rcases List.mem_append.1 hv with hv | hv
      · exact flatL_iff.1 h2 v hv
      · exact hfl h1 v (List.mem_of_mem_drop hv)

theorem p_store (hT : TOk P T) (hG : GOk G w0 A) (h : Rel T N w0 A s0 β0 w S s β e a Dp) (hd : ¬ S d) {t : TypeId} {x y : Operand} (ho : o.op = .store t x y) (hp : pStore T t (sget s) (opnd G e x) (cellsOf (opnd G e y)) = some R) : Good P T A o a w S s β d R := by
  have hx := opnd_vr hG h x
  unfold pStore at hp
  split at hp
  · rename_i id off he hone hsz hkn
    rw [he] at hx
    refine good_obj hp fun ob R1 hob hk => ?_
    split at hk
    · rename_i hro hle hpos
      simp only [Option.some.injEq] at hk
      subst hk
      have hle := Nat.le_of_ble_eq_true hle
      have hpos : 0 < (T t).size := by simpa using hpos
      rw [lenV_eq] at hsz hle
      have hsz : (cellsOf (opnd G e y)).length = (T t).size := by simpa using hsz
      simp only [Nat.add_eq] at hle
      obtain ⟨h1, h2⟩ := (opnd_vr hG h y).cells hone
      have hl := h1.length
      obtain ⟨i, z, dd, r⟩ := hT.row t hkn
      simp only [VR] at hx
      have hv := hx.2.2 (by simp [hob])
      obtain ⟨cur, hg, hcs, hvr, hcone, hfl⟩ := (h.obj id ob hob).1
      have hcl := hvr.length
      simp only [List.length_take, List.length_drop, Array.length_toList] at hcl
      have hus : (a.eval y).cells.size = (T t).size := by rw [← hsz, ← hl]; simp
      have hrun := run_store_at (P := P) (off := (β id).2.1 + off) (ty := t) (v := a.eval y) hg (by rw [r.info]; simp [r.size, hus]) (by omega) h2
      have hnA := h.notA (id := id) (by simp [Live, hob])
      obtain ⟨β', hc⟩ := Chg.upd1 (x := .undef) (v := undef) (acc := []) h hd (o' := upd ob (writeV ob.cs off (cellsOf (opnd G e y))) (cellsOf (opnd G e y)) false) hob hro (.inl ⟨rfl, upd_t _ _ _ _⟩) (grown_row w (β id).1 _) (n := β id) (.inl rfl) (fun _ => rfl)
        (fun s' β' S' hS hag hβ => RO.put hg hcs hvr hcone hfl hnA h1 (oneL_iff.1 hone) (by omega) (by omega) hS hag hβ) (fun s' β' S' hS hSd hag hβ hs => by simp [VR])
      refine ⟨undef, _, β', .inr ⟨?_, rfl⟩, hc⟩
      simp only [Array.length_toList] at hrun ⊢
      simp only [execOp, ho, hv, Sem.run_bind, hrun, Result.andThen_ok, Sem.run_pure]
    · cases hk
  · cases hp

/-- nothing is appended -/
theorem append_zero {t ty el : TypeId} {i : TypeInfo} (hu : P.underlying t = some (.slice el)) (hi : P.info? el = some i) {p q : Option Addr} {n cap cc : Nat} (h : n ≤ cap) (hq : q = none ∨ True) :
    (Builtin.append_ #[t, t] ty #[.slice p n cap, .slice q 0 cc]).run P w = .ok (.slice p n cap) w := by
  have hl0 : ∀ (b : Addr), (loadCells b 0).run P w = .ok #[] w := by
    intro b
    have := run_loadCells_list (P := P) w b [] (by simp)
    simpa using this
  cases p <;> cases q <;> simp [Builtin.append_, run_underlying hu, sizeOf, typeInfo, hi, Builtin.lenOf, h, Builtin.firstCells, hl0, storeCells]

/-- 'append' in place, wherever the slice begins -/
theorem append_room (t ty el : TypeId) (i : TypeInfo) (ht : P.underlying t = some (.slice el)) (hi : P.info? el = some i) {et : TypeId}
    (g off sLen sCap : Nat) (cur : Array Value) (hg : w.heap[g]? = some (.cells cur et (0, 0)))
    (p : Addr) (m cc : Nat) (news : List Value) (hl : news.length = m * i.size) (hnews : ∀ j u, news[j]? = some u → w.cell? (p.add j) = some u) (h1 : ∀ u ∈ news, u.oneCell' = true)
    (hroom : sLen + m ≤ sCap) (hfit : off + sLen * i.size + news.length ≤ cur.size) :
    (Builtin.append_ #[t, t] ty #[.slice (some ⟨g, off, none⟩) sLen sCap, .slice (some p) m cc]).run P w =
      .ok (.slice (some ⟨g, off, none⟩) (sLen + m) sCap) (w.setRow g (cur.toList.take (off + sLen * i.size) ++ news ++ cur.toList.drop (off + sLen * i.size + news.length)).toArray) := by
  have hf := run_firstCells_some (P := P) w i.size m p m cc news hl hnews
  have hst := run_storeCells_at P g (off + sLen * i.size) et news 0 cur w hg (by simpa using hfit) h1
  simp only [Nat.add_zero] at hst
  simp [Builtin.append_, run_underlying ht, sizeOf, typeInfo, hi, Builtin.lenOf, hroom, hf, Addr.add_mid, hst]

theorem grown_new (w : World) (o : Obj) : w.grownBy (w.drew.alloc o) none :=
  ⟨rfl, rfl, rfl, by simp, fun k hk _ => heap_alloc_old w.drew o hk⟩
theorem grown_weak {w w' : World} (h : w.grownBy w' none) (row : Option Nat) : w.grownBy w' row :=
  ⟨h.os, h.tape, h.output, h.size, fun k hk _ => h.block k hk (by simp)⟩

/-- the object splits in two, which are only read -/
theorem Chg.split1 (h : Rel T N w0 A s0 β0 w S s β e a Dp) {x : V} {v : Value} {acc : List Id} {d : Nat} (hd : ¬ S d) {id : Id} {ob o1 o2 : O} {w' : World} (hid : sget s id = some ob) (hrw : ob.ro = false) (h1t : o1.t = ob.t) (h1r : o1.ro = true) (h2r : o2.ro = true)
    (hg : w.grownBy w' (some (β id).1)) {n : Place} (hn : n.1 = (β id).1 ∨ w.heap.size ≤ n.1)
    (ho1 : ∀ s' β' S', (∀ n, S n → S' n) → Agrees S s s' β β' → β' id = β id → RO T w' A S' s' β' id o1)
    (ho2 : ∀ s' β' S', (∀ n, S n → S' n) → Agrees S s s' β β' → β' (d, 0) = n → RO T w' A S' s' β' (d, 0) o2)
    (hv : ∀ s' β' S', (∀ n, S n → S' n) → S' d → Agrees S s s' β β' → β' (d, 0) = n → sget s' (d, 0) = some o2 → VR T w' A S' s' β' x v) :
    ∃ β', Chg T A w w' S s β d ⟨x, acc, [id], [(id, o1), ((d, 0), o2)]⟩ β' v := by
  have hSid := (h.obj id ob hid).2
  have hidd : id.1 ≠ d := fun e => hd (e ▸ hSid)
  have hne : id ≠ (d, 0) := fun e => hidd (by rw [e])
  have hb' : ∀ id' : Id, id'.1 ≠ d → (if id' = (d, 0) then n else β id') = β id' := by
    intro id' hS
    rw [if_neg (fun e => hS (by rw [e]))]
  have hb2 : ∀ id' : Id, S id'.1 → (if id' = (d, 0) then n else β id') = β id' := fun id' hS => hb' id' (fun e => hd (e ▸ hS))
  have two : ∀ id' o', sget [(id, o1), ((d, 0), o2)] id' = some o' → (id' = id ∧ o' = o1) ∨ (id' = (d, 0) ∧ o' = o2) := by
    intro id' o' h1
    rw [sget_cons] at h1
    split at h1
    · rename_i he
      exact .inl ⟨he.symm, by simpa using h1.symm⟩
    · obtain ⟨h2, h3⟩ := sget_one h1
      exact .inr ⟨h2, h3⟩
  have hag : Agrees S s (eff s ⟨x, acc, [id], [(id, o1), ((d, 0), o2)]⟩) β (fun id => if id = (d, 0) then n else β id) := by
    intro id' o' hS ho'
    rw [sget_eff] at ho'
    cases hq : sget [(id, o1), ((d, 0), o2)] id' with
    | some o3 =>
      simp only [hq, Option.some_or, Option.some.injEq] at ho'
      subst ho'
      rcases two id' o3 hq with ⟨rfl, rfl⟩ | ⟨rfl, rfl⟩
      · exact ⟨ob, hid, hb2 _ hS, h1t⟩
      · exact absurd hS hd
    | none =>
      simp only [hq, Option.none_or] at ho'
      split at ho'
      · cases ho'
      · exact ⟨o', ho', hb2 _ hS, rfl⟩
  refine ⟨fun id => if id = (d, 0) then n else β id, hg.os, hg.tape, hg.output, hg.size, ?_, hb', ?_, ?_, ?_, ?_, ?_, ?_⟩
  · intro b hb hnb
    refine hg.block b hb ?_
    simp only [ne_eq, Option.some.injEq]
    exact fun e => hnb id (by simp) (by simp [Live, hid]) e.symm
  · intro id' o' h1
    rcases two id' o' h1 with ⟨rfl, rfl⟩ | ⟨rfl, rfl⟩
    · exact .inl ⟨by simp, ob, hid, h1t⟩
    · exact .inr rfl
  · intro id' o' h1 hdd
    rcases two id' o' h1 with ⟨rfl, rfl⟩ | ⟨rfl, rfl⟩
    · exact absurd hdd hidd
    · simp only [if_true]
      rcases hn with hn | hn
      · exact .inr ⟨id, by simp, by simp [Live, hid], hn.symm⟩
      · exact .inl hn
  · intro p q p1 q1 hp hq _
    refine .inr ⟨?_, ?_⟩
    · rcases two p p1 hp with ⟨_, rfl⟩ | ⟨_, rfl⟩ <;> assumption
    · rcases two q q1 hq with ⟨_, rfl⟩ | ⟨_, rfl⟩ <;> assumption
  · intro id' hm o3 ho3
    simp only [List.mem_singleton] at hm
    subst hm
    rw [hid] at ho3
    cases ho3
    exact hrw
  · intro id' o' h1
    rcases two id' o' h1 with ⟨rfl, rfl⟩ | ⟨rfl, rfl⟩
    · exact ho1 _ _ _ (fun n hn => .inl hn) hag (hb2 _ hSid)
    · exact ho2 _ _ _ (fun n hn => .inl hn) hag (by simp)
  · exact hv _ _ _ (fun n hn => .inl hn) (.inr rfl) hag (by simp) (by rw [sget_eff]; simp [sget_cons, hne])

/-- what grew: its cells -/
theorem grown_vr {cs : List V} {us zs : List Value} (h : VRL T w A S s β cs us) : VRL T w A S s β cs (((us.toArray ++ zs.toArray).toList.drop 0).take cs.length) := by
  have := h.length
  simp [← this]
  exact h

theorem p_append (hT : TOk P T) (hG : GOk G w0 A) (h : Rel T N w0 A s0 β0 w S s β e a Dp) (hd : ¬ S d) {args : Array Operand} {ats : Array TypeId} (ho : o.op = .call { callee := .builtin .append, args := args, argTypes := ats })
    (hp : pAppend T (sget s) d (args.toList.map (opnd G e)) ats.toList = some R) : Good P T A o a w S s β d R := by
  unfold pAppend at hp
  split at hp
  · rename_i x y t u hargs hts
    obtain ⟨xo, yo, rfl, hxo, hyo⟩ := DW.arr2 _ hargs
    obtain ⟨t', u', rfl, ht', hu'⟩ := DW.arr2 id (by simpa using hts)
    simp only [id] at ht' hu'
    subst ht'; subst hu'
    have hx := opnd_vr hG h xo
    have hy := opnd_vr hG h yo
    rw [hxo] at hx; rw [hyo] at hy
    split at hp
    · rename_i el hk1 htu
      have htu : t' = u' := by simpa using htu
      subst htu
      obtain ⟨hun, i', z, dd, r, hpos, hbp⟩ := DW.TRow.slice hT hk1
      obtain ⟨cs, m, R1, acc, hk, rfl, hone, hcase⟩ := srcV_some h hy hp
      refine Good.acc ?_
      have hzl : z.cells.size = (T el).size := by
        have := (zeros_vr (w := w) (A := A) (S := S) (s := s) (β := β) r).length
        rw [wrapL_eq, List.length_map, r.zlen] at this
        simpa using this
      have runs : ∀ v w', (Builtin.append_ #[t', t'] o.type #[a.eval xo, a.eval yo]).run P w = .ok v w' → (execOp a.eval o).run P w = .ok (.value v) w' := by
        intro v w' hr
        simp only [execOp, ho, resolve, invoke, builtin, Sem.run_bind, Sem.run_pure, Result.andThen_ok, List.map_toArray, List.map_cons, List.map_nil, hr]
      unfold appendV at hk
      split at hk
      · -- nothing comes: nil
        rename_i hm
        have hm : m = 0 := by simpa using hm
        subst hm
        have hxv : a.eval xo = .slice none 0 0 := by simpa [VR, RV] using hx
        refine good_ret hk (runs _ w ?_) (by simp [VR, RV]) (v := .slice none 0 0)
        rw [hxv]
        rcases hcase with ⟨cc, hv, _, _⟩ | ⟨p, cc, us, hv, _⟩ <;> rw [hv] <;> exact append_zero hun r.info (Nat.le_refl 0) (.inr trivial)
      · rename_i hm
        have hm : m = 0 := by simpa using hm
        subst hm
        have hx' := hx
        simp only [VR, RV, RI] at hx
        obtain ⟨p0, c0, hxv, _⟩ := hx
        refine good_ret hk (runs _ w ?_) hx'
        rw [hxv]
        rcases hcase with ⟨cc, hv, _, _⟩ | ⟨p, cc, us, hv, _⟩ <;> rw [hv] <;> exact append_zero hun r.info (Nat.zero_le _) (.inr trivial)
      · rename_i id off len cap hm
        have hm : m = 0 := by simpa using hm
        subst hm
        refine good_obj hk fun ob R2 hob hk => ?_
        have hx' := hx
        simp only [VR] at hx
        obtain ⟨c0, hxv, hlc, _⟩ := hx.2.2 ob hob
        refine good_ret hk (runs _ w ?_) hx'
        rw [hxv]
        rcases hcase with ⟨cc, hv, _, _⟩ | ⟨p, cc, us, hv, _⟩ <;> rw [hv] <;> exact append_zero hun r.info hlc (.inr trivial)
      · -- onto nil
        rename_i hm
        have hm : m ≠ 0 := fun e => by simp [e] at hm
        rcases hcase with ⟨cc, _, _, h0⟩ | ⟨p, cc, us, hv, hvr, hlen, hcells⟩
        · exact absurd h0 hm
        have hxv : a.eval xo = .slice none 0 0 := by simpa [VR, RV] using hx
        split at hk
        · rename_i hfit
          have hfit := Nat.le_of_ble_eq_true hfit
          simp only [Option.some.injEq] at hk
          subst hk
          have hul := hvr.length
          have hmb : m ≤ m * (T el).bytes := Nat.le_mul_of_pos_right m hbp
          have hr := run_append_nil (P := P) w t' o.type el i' z hun r.info r.zero p m cc us (by rw [hul, hlen, r.size]) hcells (by omega) (by omega) (by rw [r.bytes]; omega)
          have hge := grownCap_ge w m 0 el
          have hle := grownCap_le_maxLen w m 0 el (by simp only [maxLen]; omega)
          refine Good.make h hd (v := .slice (some ⟨w.heap.size, 0, none⟩) m (grownCap w m 0 el)) (cur := us.toArray ++ Builtin.zeroCells z.cells (grownCap w m 0 el - m)) (t := el) (w' := w.drew.alloc (.cells (us.toArray ++ Builtin.zeroCells z.cells (grownCap w m 0 el - m)) el)) ?_ hone (grown_new w _) (heap_alloc_new w.drew _) ?_ (runs _ _ (by rw [hxv, hv]; exact hr))
          · simp [← hul]
            exact hvr
          · intro s' S' β' hS hβ hs
            simp only [VR]
            refine ⟨rfl, hS, fun o' ho' => ?_⟩
            rw [hs] at ho'; cases ho'
            refine ⟨grownCap w m 0 el, by rw [hβ], hge, hle, fun k hk => (by cases hk), ?_⟩
            rw [hβ]
            simp only [Array.size_append, List.size_toArray, size_zeroCells, hul, hlen, mk, hzl, Nat.zero_add, ← Nat.add_mul]
            exact Nat.mul_le_mul_right _ (by omega)
        · cases hk
      · -- onto an object
        rename_i id off len cap hm
        have hm : m ≠ 0 := fun e => by simp [e] at hm
        rcases hcase with ⟨cc, _, _, h0⟩ | ⟨p, cc, us, hv, hvr, hlen, hcells⟩
        · exact absurd h0 hm
        clear hp
        obtain ⟨ob, R2, hob, hk2, rfl⟩ := withObj_some hk
        refine Good.acc ?_
        clear hk
        have hk := hk2
        clear hk2
        have hul := hvr.length
        have hu1 : ∀ u ∈ us, u.oneCell' = true := VRL.one hone hvr
        obtain ⟨cur, hg, hcs, hcvr, hcone, hfl⟩ := (h.obj id ob hob).1
        have hSid := (h.obj id ob hob).2
        have hnA := h.notA (id := id) (by simp [Live, hob])
        simp only [VR] at hx
        obtain ⟨c0, hxv, hlc, hcm, hck, hroomy⟩ := hx.2.2 ob hob
        have hcl := hcvr.length
        simp only [List.length_take, List.length_drop, Array.length_toList] at hcl
        split at hk
        · rename_i ht hfit hin
          have ht : ob.t = el := by simpa using ht
          have hfit := Nat.le_of_ble_eq_true hfit
          have hin := Nat.le_of_ble_eq_true hin
          rw [lenV_eq] at hin
          subst ht
          have hnb : len + m ≤ (len + m) * (T ob.t).bytes := Nat.le_mul_of_pos_right _ hbp
          have hmpos : 0 < m * (T ob.t).size := Nat.mul_pos (by omega) hpos
          -- the elements that are there
          have holds : VRL T w A S s β ((ob.cs.drop off).take (len * (T ob.t).size)) (((((cur.toList.drop (β id).2.1).take ob.cs.length)).drop off).take (len * (T ob.t).size)) := VRL.take _ (VRL.drop _ hcvr)
          have hol : ((((cur.toList.drop (β id).2.1).take ob.cs.length).drop off).take (len * (T ob.t).size)).length = len * (T ob.t).size := by
            rw [holds.length]; simp; omega
          have hocell : ∀ j u, ((((cur.toList.drop (β id).2.1).take ob.cs.length).drop off).take (len * (T ob.t).size))[j]? = some u → w.cell? ((⟨(β id).1, (β id).2.1 + off, none⟩ : Addr).add j) = some u := by
            intro j u hj
            rw [Addr.add_mid, cell_of_row w _ _ cur ob.t (0, 0) hg]
            rw [List.getElem?_take] at hj
            split at hj
            · rw [List.getElem?_drop, List.getElem?_take] at hj
              split at hj
              · rw [List.getElem?_drop] at hj
                simpa [Nat.add_assoc] using hj
              · cases hj
            · cases hj
          generalize hO : ((((cur.toList.drop (β id).2.1).take ob.cs.length).drop off).take (len * (T ob.t).size)) = olds at holds hol hocell
          have grow : c0 < len + m → ∃ gc, len + m ≤ gc ∧ gc ≤ maxLen ∧ (Builtin.append_ #[t', t'] o.type #[a.eval xo, a.eval yo]).run P w = .ok (.slice (some ⟨w.heap.size, 0, none⟩) (len + m) gc) (w.drew.alloc (.cells (olds.toArray ++ us.toArray ++ Builtin.zeroCells z.cells (gc - (len + m))) ob.t)) := by
            intro hlt
            refine ⟨grownCap w (len + m) c0 ob.t, grownCap_ge _ _ _ _, grownCap_le_maxLen _ _ _ _ (by simp only [maxLen]; omega), ?_⟩
            rw [hxv, hv]
            exact run_append_grow (P := P) w t' o.type ob.t i' z hun r.info r.zero _ len c0 olds (by rw [hol, r.size]) hocell p m cc us (by rw [hul, hlen, r.size]) hcells hlt (by omega) (growslice_fits hlt (by rw [r.bytes]; exact hfit))
          have hgsz : ∀ gc, len + m ≤ gc → (olds.toArray ++ us.toArray ++ Builtin.zeroCells z.cells (gc - (len + m))).size = gc * (T ob.t).size := by
            intro gc hgc
            simp only [Array.size_append, List.size_toArray, size_zeroCells, hol, hul, hlen, hzl, ← Nat.add_mul]
            congr 1
            omega
          have hgv : ∀ (s' : Sto) (S' : Nat → Prop) (β' : Id → Place) (gc : Nat) (o' : O), len + m ≤ gc → gc ≤ maxLen → S' d → β' (d, 0) = (w.heap.size, 0, gc * (T ob.t).size) → sget s' (d, 0) = some o' → o'.t = ob.t →
              VR T (w.drew.alloc (.cells (olds.toArray ++ us.toArray ++ Builtin.zeroCells z.cells (gc - (len + m))) ob.t)) A S' s' β' (.sl (d, 0) 0 (len + m) none) (.slice (some ⟨w.heap.size, 0, none⟩) (len + m) gc) := by
            intro s' S' β' gc o' h1 h2 hS hβ hs ht'
            simp only [VR]
            refine ⟨rfl, hS, fun o2 ho2 => ?_⟩
            rw [hs] at ho2; cases ho2
            exact ⟨gc, by rw [hβ], h1, h2, fun k hk => (by cases hk), by rw [hβ, ht']; simp⟩
          have hAg : ∀ (ob2 : Obj) b, A b → (w.drew.alloc ob2).heap[b]? = w.heap[b]? := fun ob2 b hb => (grown_new w ob2).block b (Nat.lt_of_lt_of_le (h.base b hb).1 h.hsize) (by simp)
          have hgo : ∀ (s' : Sto) (S' : Nat → Prop) (β' : Id → Place) (gc : Nat) (o' : O), len + m ≤ gc → (∀ n, S n → S' n) → Agrees S s s' β β' → β' (d, 0) = (w.heap.size, 0, gc * (T ob.t).size) → o'.t = ob.t → o'.cs = (ob.cs.drop off).take (len * (T ob.t).size) ++ cs → (o'.fl = true → ∀ v ∈ o'.cs, flatV v = true) →
              RO T (w.drew.alloc (.cells (olds.toArray ++ us.toArray ++ Builtin.zeroCells z.cells (gc - (len + m))) ob.t)) A S' s' β' (d, 0) o' := by
            intro s' S' β' gc o' h1 hS hag hβ ht' hcs' hfl'
            refine ⟨_, by rw [hβ, ht']; exact heap_alloc_new w.drew _, by rw [hβ]; exact hgsz gc h1, ?_, ?_, hfl'⟩
            · rw [hβ, hcs']
              have hl1 : ((ob.cs.drop off).take (len * (T ob.t).size) ++ cs).length = (olds ++ us).length := by
                rw [(VRL.append holds hvr).length]
              simp only [List.drop_zero, Array.toList_append, hl1, List.append_assoc]
              rw [← List.append_assoc, List.take_left' (by simp)]
              exact VRL.mono (hAg _) hS hag _ _ (VRL.append holds hvr)
            · rw [hcs']
              intro v hv
              rcases List.mem_append.1 hv with hv | hv
              · exact hcone v (List.mem_of_mem_drop (List.mem_of_mem_take hv))
              · exact hone v hv
          cases cap with
          | some c1 =>
            simp only at hk
            have hc1 := hck c1 rfl
            subst hc1
            split at hk
            · rename_i hroom
              have hroom := Nat.le_of_ble_eq_true hroom
              split at hk
              · rename_i hro hle
                have hle := Nat.le_of_ble_eq_true hle
                rw [lenV_eq] at hle
                rw [Nat.add_mul] at hle
                simp only [Option.some.injEq] at hk
                subst hk
                have hr := append_room (P := P) (w := w) t' o.type ob.t i' hun r.info (β id).1 ((β id).2.1 + off) len c0 cur hg p m cc us (by rw [hul, hlen, r.size]) hcells hu1 hroom (by rw [r.size]; omega)
                rw [r.size] at hr
                obtain ⟨β', hc⟩ := Chg.upd1 (x := .sl id off (len + m) (some c0)) (v := .slice (some ⟨(β id).1, (β id).2.1 + off, none⟩) (len + m) c0) (acc := []) h hd (o' := upd ob (writeV ob.cs (off + len * (T ob.t).size) cs) cs false) hob hro (.inl ⟨rfl, upd_t _ _ _ _⟩) (grown_row w (β id).1 _) (n := β id) (.inl rfl) (fun _ => rfl)
                  (fun s' β' S' hS hag hβ => RO.put hg hcs hcvr hcone hfl hnA hvr hone (by omega) (by omega) hS hag hβ) (fun s' β' S' hS hSd hag hβ hs => by
                    simp only [VR]
                    refine ⟨rfl, hS _ hSid, fun o2 ho2 => ?_⟩
                    rw [hs] at ho2; cases ho2
                    exact ⟨c0, by rw [hβ], hroom, hcm, fun k hk => by simpa using hk, by rw [hβ, upd_t]; exact hroomy⟩)
                refine ⟨_, _, β', .inl (runs _ _ ?_), hc⟩
                rw [hxv, hv, hr, Nat.add_assoc]
              · cases hk
            · rename_i hroom
              have hroom : c0 < len + m := by
                refine Nat.lt_of_not_le fun hle => ?_
                rw [Nat.ble_eq_true_of_le hle] at hroom
                cases hroom
              simp only [Option.some.injEq] at hk
              subst hk
              obtain ⟨gc, hg1, hg2, hr⟩ := grow hroom
              rw [takeV_eq, dropV_eq]
              have hnn := hgsz gc hg1
              obtain ⟨β', hc⟩ := Chg.add1 (x := .sl (d, 0) 0 (len + m) none) (v := .slice (some ⟨w.heap.size, 0, none⟩) (len + m) gc) (acc := []) h hd (o := mk ob.t ((ob.cs.drop off).take (len * (T ob.t).size) ++ cs)) (b := w.heap.size) (n := (0, gc * (T ob.t).size)) (grown_new w _) (Nat.le_refl _)
                (fun s' β' S' hS hag hβ => hgo s' S' β' gc _ hg1 hS hag hβ rfl rfl (fun hf => flatL_iff.1 hf)) (fun s' β' S' hS hSd hag hβ hs => hgv s' S' β' gc _ hg1 hg2 hSd hβ hs rfl)
              exact ⟨_, _, β', .inl (runs _ _ hr), hc⟩
          | none =>
            simp only at hk
            split at hk
            · rename_i hro hend hoff
              have hend : off + len * (T ob.t).size = ob.cs.length := by rw [lenV_eq] at hend; simpa using hend
              have hoff : off = 0 := by simpa using hoff
              subst hoff
              simp only [Option.some.injEq] at hk
              subst hk
              have hall : (ob.cs.drop 0).take (len * (T ob.t).size) = ob.cs := by
                rw [List.drop_zero, List.take_of_length_le (by omega)]
              have hfl2 : (upd ob (ob.cs ++ cs) cs false).fl = true → ∀ v ∈ (upd ob (ob.cs ++ cs) cs false).cs, flatV v = true := by
                intro hf v hv
                obtain ⟨f1, f2⟩ := upd_fl hf
                rw [upd_cs] at hv
                rcases List.mem_append.1 hv with hv | hv
                · exact hfl f1 v hv
                · exact flatL_iff.1 f2 v hv
              by_cases hroom : len + m ≤ c0
              · have hroomy2 : (len + m) * (T ob.t).size ≤ c0 * (T ob.t).size := Nat.mul_le_mul_right _ hroom
                rw [Nat.add_mul] at hroomy2
                have hr := append_room (P := P) (w := w) t' o.type ob.t i' hun r.info (β id).1 ((β id).2.1 + 0) len c0 cur hg p m cc us (by rw [hul, hlen, r.size]) hcells hu1 hroom (by rw [r.size]; omega)
                rw [r.size] at hr
                have hA : ∀ cs' b, A b → (w.setRow (β id).1 cs').heap[b]? = w.heap[b]? := fun cs' b hb => setRow_other w _ b _ (fun e => hnA (e ▸ hb))
                obtain ⟨β', hc⟩ := Chg.upd1 (x := .sl (d, 0) 0 (len + m) none) (v := .slice (some ⟨(β id).1, (β id).2.1 + 0, none⟩) (len + m) c0) (acc := []) h hd (o' := upd ob (ob.cs ++ cs) cs false) hob hro (.inr rfl) (grown_row w (β id).1 _) (n := β id) (.inl rfl) (fun _ => rfl)
                  (w' := w.setRow (β id).1 (cur.toList.take ((β id).2.1 + 0 + len * (T ob.t).size) ++ us ++ cur.toList.drop ((β id).2.1 + 0 + len * (T ob.t).size + us.length)).toArray)
                  (fun s' β' S' hS hag hβ => by
                    refine ⟨_, by rw [hβ, upd_t]; exact setRow_heap w _ cur _ _ _ hg, ?_, ?_, ?_, hfl2⟩
                    · rw [hβ, ← hcs]
                      simp
                      omega
                    · rw [hβ, upd_cs]
                      have hpw := put_window cur.toList us (β id).2.1 (len * (T ob.t).size) (ob.cs.length + us.length) (by omega) (by simp; omega)
                      rw [← List.append_assoc] at hpw
                      have e0 : (β id).2.1 + 0 = (β id).2.1 := rfl
                      rw [List.toList_toArray, e0, show (ob.cs ++ cs).length = ob.cs.length + us.length by rw [hul]; simp, hpw]
                      refine VRL.mono (hA _) hS hag _ _ ?_
                      have e1 : (((cur.toList.drop (β id).2.1).take (ob.cs.length + us.length)).take (len * (T ob.t).size)) = (cur.toList.drop (β id).2.1).take ob.cs.length := by
                        rw [List.take_take]
                        congr 1
                        omega
                      have e2 : ((cur.toList.drop (β id).2.1).take (ob.cs.length + us.length)).drop (len * (T ob.t).size + us.length) = [] := by
                        apply List.drop_eq_nil_of_le
                        simp
                        omega
                      rw [e1, e2, List.append_nil]
                      exact VRL.append hcvr hvr
                    · rw [upd_cs]
                      intro v hv
                      rcases List.mem_append.1 hv with hv | hv
                      · exact hcone v hv
                      · exact hone v hv)
                  (fun s' β' S' hS hSd hag hβ hs => by
                    simp only [VR]
                    refine ⟨rfl, hSd, fun o2 ho2 => ?_⟩
                    rw [hs] at ho2; cases ho2
                    exact ⟨c0, by rw [hβ], hroom, hcm, fun k hk => (by cases hk), by rw [hβ, upd_t]; exact hroomy⟩)
                refine ⟨_, _, β', .inl (runs _ _ ?_), hc⟩
                rw [hxv, hv, hr]
              · obtain ⟨gc, hg1, hg2, hr⟩ := grow (by omega)
                obtain ⟨β', hc⟩ := Chg.upd1 (x := .sl (d, 0) 0 (len + m) none) (v := .slice (some ⟨w.heap.size, 0, none⟩) (len + m) gc) (acc := []) h hd (o' := upd ob (ob.cs ++ cs) cs false) hob hro (.inr rfl) (grown_weak (grown_new w _) _) (n := (w.heap.size, 0, gc * (T ob.t).size)) (.inr ⟨rfl, Nat.le_refl _⟩) (fun he => (hd (by rw [show d = id.1 from congrArg Prod.fst he]; exact hSid)).elim)
                  (fun s' β' S' hS hag hβ => hgo s' S' β' gc _ hg1 hS hag hβ (upd_t _ _ _ _) (by rw [upd_cs, hall]) hfl2) (fun s' β' S' hS hSd hag hβ hs => hgv s' S' β' gc _ hg1 hg2 hSd hβ hs (upd_t _ _ _ _))
                exact ⟨_, _, β', .inl (runs _ _ hr), hc⟩
            · rename_i hro hend hoff
              have hend : off + len * (T ob.t).size = ob.cs.length := by rw [lenV_eq] at hend; simpa using hend
              simp only [Option.some.injEq] at hk
              subst hk
              rw [dropV_eq]
              have hall : (ob.cs.drop off).take (len * (T ob.t).size) = ob.cs.drop off := by
                rw [List.take_of_length_le (by simp; omega)]
              have hfl2 : (upd ob (ob.cs.drop off ++ cs) cs true).fl = true → ∀ v ∈ (upd ob (ob.cs.drop off ++ cs) cs true).cs, flatV v = true := by
                intro hf v hv
                obtain ⟨f1, f2⟩ := upd_fl hf
                rw [upd_cs] at hv
                rcases List.mem_append.1 hv with hv | hv
                · exact hfl f1 v (List.mem_of_mem_drop hv)
                · exact flatL_iff.1 f2 v hv
              by_cases hroom : len + m ≤ c0
              · have hroomy2 : (len + m) * (T ob.t).size ≤ c0 * (T ob.t).size := Nat.mul_le_mul_right _ hroom
                rw [Nat.add_mul] at hroomy2
                have hr := append_room (P := P) (w := w) t' o.type ob.t i' hun r.info (β id).1 ((β id).2.1 + off) len c0 cur hg p m cc us (by rw [hul, hlen, r.size]) hcells hu1 hroom (by rw [r.size]; omega)
                rw [r.size] at hr
                have hA : ∀ cs' b, A b → (w.setRow (β id).1 cs').heap[b]? = w.heap[b]? := fun cs' b hb => setRow_other w _ b _ (fun e => hnA (e ▸ hb))
                have e0 : (β id).2.1 + off + len * (T ob.t).size = (β id).2.1 + ob.cs.length := by omega
                rw [e0] at hr
                have hpw := put_window cur.toList us (β id).2.1 ob.cs.length (ob.cs.length + us.length) (by omega) (by simp; omega)
                rw [← List.append_assoc] at hpw
                have e2 : ((cur.toList.drop (β id).2.1).take (ob.cs.length + us.length)).drop (ob.cs.length + us.length) = [] := by
                  apply List.drop_eq_nil_of_le
                  simp
                  omega
                have e1 : (((cur.toList.drop (β id).2.1).take (ob.cs.length + us.length)).take ob.cs.length) = (cur.toList.drop (β id).2.1).take ob.cs.length := by
                  rw [List.take_take]
                  congr 1
                  omega
                rw [e1, e2, List.append_nil] at hpw
                have hsz' : (cur.toList.take ((β id).2.1 + ob.cs.length) ++ us ++ cur.toList.drop ((β id).2.1 + ob.cs.length + us.length)).toArray.size = cur.size := by
                  simp
                  omega
                obtain ⟨β', hc⟩ := Chg.split1 (x := .sl (d, 0) 0 (len + m) none) (v := .slice (some ⟨(β id).1, (β id).2.1 + off, none⟩) (len + m) c0) (acc := []) h hd (o1 := ⟨ob.t, ob.cs, ob.fl, true⟩) (o2 := upd ob (ob.cs.drop off ++ cs) cs true) hob hro rfl rfl (upd_ro _ _ _ _) (grown_row w (β id).1 (cur.toList.take ((β id).2.1 + ob.cs.length) ++ us ++ cur.toList.drop ((β id).2.1 + ob.cs.length + us.length)).toArray) (n := ((β id).1, (β id).2.1 + off, (β id).2.2)) (.inl rfl)
                  (fun s' β' S' hS hag hβ => by
                    refine ⟨_, by rw [hβ]; exact setRow_heap w _ cur _ _ _ hg, by rw [hβ, ← hcs]; exact hsz', ?_, hcone, hfl⟩
                    rw [hβ]
                    have e3 : ((cur.toList.take ((β id).2.1 + ob.cs.length) ++ us ++ cur.toList.drop ((β id).2.1 + ob.cs.length + us.length)).drop (β id).2.1).take ob.cs.length = (cur.toList.drop (β id).2.1).take ob.cs.length := by
                      have := congrArg (List.take ob.cs.length) hpw
                      rw [List.take_take, Nat.min_eq_left (by omega)] at this
                      rw [this, List.take_left' (by rw [hcvr.length])]
                    simp only [List.toList_toArray]
                    rw [e3]
                    exact VRL.mono (hA _) hS hag _ _ hcvr)
                  (fun s' β' S' hS hag hβ => by
                    refine ⟨_, by rw [hβ, upd_t]; exact setRow_heap w _ cur _ _ _ hg, by rw [hβ, ← hcs]; exact hsz', ?_, ?_, hfl2⟩
                    · rw [hβ, upd_cs]
                      simp only [List.toList_toArray]
                      have e3 : ((cur.toList.take ((β id).2.1 + ob.cs.length) ++ us ++ cur.toList.drop ((β id).2.1 + ob.cs.length + us.length)).drop ((β id).2.1 + off)).take (ob.cs.drop off ++ cs).length = ((cur.toList.drop (β id).2.1).take ob.cs.length).drop off ++ us := by
                        have := congrArg (List.drop off) hpw
                        rw [List.drop_append_of_le_length (l₁ := (cur.toList.drop (β id).2.1).take ob.cs.length) (by rw [hcvr.length]; omega)] at this
                        rw [← this, List.drop_take, List.drop_drop]
                        congr 1
                        simp
                        omega
                      rw [e3]
                      exact VRL.mono (hA _) hS hag _ _ (VRL.append (VRL.drop off hcvr) hvr)
                    · rw [upd_cs]
                      intro v hv
                      rcases List.mem_append.1 hv with hv | hv
                      · exact hcone v (List.mem_of_mem_drop hv)
                      · exact hone v hv)
                  (fun s' β' S' hS hSd hag hβ hs => by
                    simp only [VR]
                    refine ⟨rfl, hSd, fun o2 ho2 => ?_⟩
                    rw [hs] at ho2; cases ho2
                    exact ⟨c0, by rw [hβ]; rfl, hroom, hcm, fun k hk => (by cases hk), by rw [hβ, upd_t]; simpa using hroomy⟩)
                refine ⟨_, _, β', .inl (runs _ _ ?_), hc⟩
                rw [hxv, hv, hr]
              · obtain ⟨gc, hg1, hg2, hr⟩ := grow (by omega)
                obtain ⟨β', hc⟩ := Chg.split1 (x := .sl (d, 0) 0 (len + m) none) (v := .slice (some ⟨w.heap.size, 0, none⟩) (len + m) gc) (acc := []) h hd (o1 := ⟨ob.t, ob.cs, ob.fl, true⟩) (o2 := upd ob (ob.cs.drop off ++ cs) cs true) hob hro rfl rfl (upd_ro _ _ _ _) (grown_weak (grown_new w _) _) (n := (w.heap.size, 0, gc * (T ob.t).size)) (.inr (Nat.le_refl _))
                  (fun s' β' S' hS hag hβ => by
                    refine ⟨cur, ?_, by rw [hβ]; exact hcs, ?_, hcone, hfl⟩
                    · rw [hβ, (grown_new w _).block _ (h.obj id ob hob).1.lt (by simp)]; exact hg
                    · rw [hβ]; exact VRL.mono (hAg _) hS hag _ _ hcvr)
                  (fun s' β' S' hS hag hβ => hgo s' S' β' gc _ hg1 hS hag hβ (upd_t _ _ _ _) (by rw [upd_cs, hall]) hfl2) (fun s' β' S' hS hSd hag hβ hs => hgv s' S' β' gc _ hg1 hg2 hSd hβ hs (upd_t _ _ _ _))
                exact ⟨_, _, β', .inl (runs _ _ hr), hc⟩
            · cases hk
        · cases hk
      · cases hk
    · cases hp
  · cases hp
end
end Go.CR
