/- A closed interpreter of a Go program's code, part 1: code run on plain data, and why that holds of the program. -/
import Derived.WalkKit
import Derived.Deep.MidRow
import Derived.Laws.Tables
import Derived.Great.BuildSlice
set_option linter.unusedVariables false
set_option linter.unusedSimpArgs false
/- The evaluator: a Go function's code, run on plain data (numbers, lists) in the place of memory. Definitions alone: nothing is proved here. -/
namespace Go.DW

/-- The number of an object: the slot of the operation that makes it, and a number among what that operation makes. -/
abbrev Id := Nat × Nat

/-- Data in the place of values. 'imm': a slice that is only read; 'ref': a slice that the activation owns (its elements stand in the store); 'own': an owned slice by value (results); 'undef': anything; 'gone': any value of one cell. -/
inductive D where
  | undef
  | gone
  | int (k : IntKind) (n : Int)
  | bool (b : Bool)
  | tt
  | ff
  | str (s : ByteArray)
  | nils
  | imm (els : List (List D))
  | ref (id : Id)
  | own (e : TypeId) (els : List (List D))
  | ptr (id : Id) (i : Int) (sz off : Nat)
  | iptr (cells : List D)
  | agg (cells : List D)
  | tup (vs : List D)
  | fn (f : FuncId) (first caps : List D)
  | nilp
  | nili

inductive O where
  | box (cells : List D)
  | row (e : TypeId) (els : List (List D))

abbrev Env := List D
abbrev Sto := List (Id × O)

inductive TK where
  | int (k : IntKind) | bool | str | slice (e : TypeId) | struct (fs : List (Nat × TypeId)) | array (n : Nat) (e : TypeId) | ptr (e : TypeId) | fn | oth

structure TI where
  size : Nat
  bytes : Nat
  zero : List D
  k : TK

def TK.agg : TK → Bool
  | .struct _ | .array _ _ => true
  | _ => false

def TK.known : TK → Bool
  | .oth => false
  | _ => true

abbrev TT := TypeId → TI

def look : List (Nat × TI) → Nat → TI
  | [], _ => ⟨0, 0, [], .oth⟩
  | (a, i) :: r, t => match Nat.beq a t with | true => i | false => look r t

inductive X where | normal | exit (id : Nat) | ret

def mem1 : List Nat → Nat → Bool
  | [], _ => false
  | a :: r, b => match Nat.beq a b with | true => true | false => mem1 r b

def keepFrom (ks : List Nat) : Nat → List D → List D
  | _, [] => []
  | i, d :: r => (match mem1 ks i with | true => d | false => .undef) :: keepFrom ks (i + 1) r

/-- Arithmetic behind names: as a variable in a walk, 'Ar.real' in the end. -/
structure Ar where
  wr : IntKind → Int → Int
  add : Int → Int → Int
  sub : Int → Int → Int
  mul : Int → Int → Int
  tmod : Int → Int → Int
  tdiv : Int → Int → Int
  bit : BinOp → IntKind → Int → Int → Int
  shl : IntKind → Int → Int → Int
  shr : IntKind → Int → Int → Int
  eq : Int → Int → Bool
  ne : Int → Int → Bool
  lt : Int → Int → Bool
  le : Int → Int → Bool
  not : Bool → Bool
  eqb : Bool → Bool → Bool
  sapp : ByteArray → ByteArray → ByteArray
  ssize : ByteArray → Int
  seq : ByteArray → ByteArray → Bool
  sget : ByteArray → Int → Int
  scut : ByteArray → Int → Int → ByteArray
  elen : List (List D) → Int
  eapp : List (List D) → List (List D) → List (List D)
  eset : List (List D) → Int → List D → List (List D)
  ecut : List (List D) → Int → Int → List (List D)
  erep : Int → List D → List (List D)

def Ar.real : Ar where
  wr := IntKind.wrap
  add := (· + ·)
  sub := (· - ·)
  mul := (· * ·)
  tmod := Int.tmod
  tdiv := Int.tdiv
  bit op k a b := match op with
    | .and => k.wrap (BitVec.ofInt k.bits a &&& BitVec.ofInt k.bits b).toNat
    | .or => k.wrap (BitVec.ofInt k.bits a ||| BitVec.ofInt k.bits b).toNat
    | .xor => k.wrap (BitVec.ofInt k.bits a ^^^ BitVec.ofInt k.bits b).toNat
    | _ => k.wrap (BitVec.ofInt k.bits a &&& ~~~ BitVec.ofInt k.bits b).toNat
  shl k a b := k.wrap (a * 2 ^ (min b.toNat k.bits))
  shr k a b := a.fdiv (2 ^ (min b.toNat k.bits))
  eq a b := a == b
  ne a b := a != b
  lt a b := decide (a < b)
  le a b := decide (a ≤ b)
  not b := !b
  eqb a b := a == b
  sapp a b := a ++ b
  ssize a := a.size
  seq a b := a.toList == b.toList
  sget a i := ((a[i.toNat]?).getD 0).toNat
  scut a lo hi := a.extract lo.toNat hi.toNat
  elen l := l.length
  eapp a b := a ++ b
  eset l i el := l.set i.toNat el
  ecut l lo hi := (l.take hi.toNat).drop lo.toNat
  erep n el := List.replicate n.toNat el

structure NZ (b : Int) : Prop where
  h : b ≠ 0
structure Ge0 (b : Int) : Prop where
  h : 0 ≤ b
structure Rng (i n : Int) : Prop where
  h : 0 ≤ i ∧ i < n
structure Cut (lo hi n : Int) : Prop where
  h : 0 ≤ lo ∧ lo ≤ hi ∧ hi ≤ n
structure Fit (n : Int) (b : Nat) : Prop where
  h : n * b ≤ 140737488355328
structure Uni (els : List (List D)) (sz : Nat) : Prop where
  h : ∀ el ∈ els, el.length = sz
structure Same (a b : Int) : Prop where
  h : a = b
structure Fit2 (a b : Int) : Prop where
  h : a + b ≤ 9223372036854775807
/-- a stop of the evaluation: on with 'refine ⟨?_⟩; cbv' -/
structure On (K : Unit → Prop) : Prop where
  h : K ()
structure Stuck (n : Nat) : Prop where
  h : False
structure Must (p q : Prop) : Prop where
  l : p
  r : q
structure Br (t : Bool) (p q : Prop) : Prop where
  yes : t = true → p
  no : t = false → q
structure At (els : List (List D)) (i : Int) (K : List D → Prop) : Prop where
  lo : 0 ≤ i
  get : ∃ el, els[i.toNat]? = some el ∧ K el
abbrev Post := D → List (List D) → Prop
structure Leaf (Q : Post) (r : D) (st : List (List D)) : Prop where
  h : Q r st
abbrev CC := FuncId → List D → List (List D) → Post → Prop
/-- the same, where the contract tells one answer -/
structure CallF (C : CC) (g : FuncId) (as : List D) (st : List (List D)) (K : Post) : Prop where
  h : ∃ r st', C g as st (fun r' st'' => r' = r ∧ st'' = st') ∧ K r st'
structure CallI (C : CC) (g : FuncId) (as : List D) (st : List (List D)) (K : Post) : Prop where
  h : C g as st K

def ideq (a b : Id) : Bool := match Nat.beq a.1 b.1 with | true => Nat.beq a.2 b.2 | false => false
def memI : List Id → Id → Bool
  | [], _ => false
  | a :: r, b => match ideq a b with | true => true | false => memI r b
-- the store
def sget : Sto → Id → Option O
  | [], _ => none
  | (j, o) :: r, i => match ideq j i with | true => some o | false => sget r i
def sdel : Sto → Id → Sto
  | [], _ => []
  | (j, o) :: r, i => match ideq j i with | true => sdel r i | false => (j, o) :: sdel r i
def sdels : Sto → List Id → Sto
  | s, [] => s
  | s, i :: r => sdels (sdel s i) r
/-- all that was made at a slot -/
def sdelAt : Sto → Nat → Sto
  | [], _ => []
  | (j, o) :: r, d => match Nat.beq j.1 d with | true => sdelAt r d | false => (j, o) :: sdelAt r d

-- a change of the leaves of a value
mutual
def lmap (g : D → D) : D → D
  | .agg cs => .agg (lmapL g cs)
  | .tup cs => .tup (lmapL g cs)
  | .fn f a b => .fn f (lmapL g a) (lmapL g b)
  | d => g d
def lmapL (g : D → D) : List D → List D
  | [] => []
  | d :: r => lmap g d :: lmapL g r
end
/-- what speaks of the object is forgotten -/
def killG (id : Id) : D → D
  | .ref j => match ideq j id with | true => .gone | false => .ref j
  | .ptr j i sz off => match ideq j id with | true => .gone | false => .ptr j i sz off
  | d => d
/-- an owned row is only read from now on -/
def frzG (id : Id) (els : List (List D)) : D → D
  | .ref j => match ideq j id with | true => .imm els | false => .ref j
  | .ptr j i sz off => match ideq j id with | true => .gone | false => .ptr j i sz off
  | d => d
/-- the same for all that was made at a slot -/
def cleanG (s : Sto) (d : Nat) : D → D
  | .ref j => match Nat.beq j.1 d with | true => (match sget s j with | some (.row _ els) => .imm els | _ => .gone) | false => .ref j
  | .ptr j i sz off => match Nat.beq j.1 d with | true => .gone | false => .ptr j i sz off
  | d => d
def omap (g : D → D) : O → O
  | .box cs => .box (lmapL g cs)
  | .row e els => .row e els
def smap (g : D → D) : Sto → Sto
  | [] => []
  | (j, o) :: r => (j, omap g o) :: smap g r

def setAt : List D → Nat → D → List D
  | [], _, _ => []
  | _ :: r, 0, v => v :: r
  | d :: r, i + 1, v => d :: setAt r i v
def getAt : List D → Nat → D
  | [], _ => .undef
  | d :: _, 0 => d
  | _ :: r, i + 1 => getAt r i
def put (e : Env) (o : Option Nat) (v : D) : Env := match o with | some i => setAt e i v | none => e

def ofConst : Value → D
  | .int k n => .int k n
  | .bool true => .tt
  | .bool false => .ff
  | .string s => .str s
  | .slice none 0 0 => .nils
  | .pointer none => .nilp
  | .nilIface => .nili
  | _ => .undef

def opnd (G : Nat → Option (List D)) (e : Env) : Operand → D
  | .tmp t => getAt e t
  | .const v => ofConst v
  | .global g => match G g with | some cs => .iptr cs | none => .undef
  | .func f => .fn f [] []

def cellsOf : D → List D
  | .agg cs => cs
  | d => [d]
def writeAt (cs : List D) (off : Nat) : List D → List D
  | [] => cs
  | v :: r => writeAt (setAt cs off v) (off + 1) r
def takeD : Nat → List D → List D
  | 0, _ => []
  | _ + 1, [] => []
  | n + 1, d :: r => d :: takeD n r
def dropD : Nat → List D → List D
  | 0, l => l
  | _ + 1, [] => []
  | n + 1, _ :: r => dropD n r
def lenD : List D → Nat
  | [] => 0
  | _ :: r => lenD r + 1
def sub (cs : List D) (off sz : Nat) : List D := takeD sz (dropD off cs)
/-- 'sz' cells as a value, if there are so many -/
def pack (agg : Bool) (sz : Nat) (cs : List D) : Option D :=
  match Nat.beq (lenD cs) sz, agg, cs with
  | true, true, cs => some (.agg cs)
  | true, false, [d] => some d
  | _, _, _ => none

def arith (A : Ar) (op : BinOp) (k : IntKind) (a b : Int) (K : D → Prop) : Prop :=
  match op with
  | .add => K (.int k (A.wr k (A.add a b)))
  | .sub => K (.int k (A.wr k (A.sub a b)))
  | .mul => K (.int k (A.wr k (A.mul a b)))
  | .quo => Must (NZ b) (K (.int k (A.wr k (A.tdiv a b))))
  | .rem => Must (NZ b) (K (.int k (A.tmod a b)))
  | .and => K (.int k (A.bit .and k a b))
  | .or => K (.int k (A.bit .or k a b))
  | .xor => K (.int k (A.bit .xor k a b))
  | .andNot => K (.int k (A.bit .andNot k a b))
  | .shl => Must (Ge0 b) (K (.int k (A.shl k a b)))
  | .shr => Must (Ge0 b) (K (.int k (A.shr k a b)))
  | .eql => K (.bool (A.eq a b))
  | .neq => K (.bool (A.ne a b))
  | .lss => K (.bool (A.lt a b))
  | .leq => K (.bool (A.le a b))
  | .gtr => K (.bool (A.lt b a))
  | .geq => K (.bool (A.le b a))
def boolOf : D → Option Bool
  | .bool b => some b
  | .tt => some true
  | .ff => some false
  | _ => none
def kindEq : IntKind → IntKind → Bool
  | .i64, .i64 | .i32, .i32 | .i16, .i16 | .i8, .i8 | .u64, .u64 | .u32, .u32 | .u16, .u16 | .u8, .u8 => true
  | _, _ => false
def shiftOp : BinOp → Bool
  | .shl | .shr => true
  | _ => false
def bin (A : Ar) (op : BinOp) (tk : TK) (x y : D) (K : D → Prop) : Prop :=
  match x, y with
  | .int k a, .int k' b => match kindEq k k', shiftOp op with
    | true, _ | false, true => arith A op k a b K
    | false, false => Stuck 1
  | .str a, .str b => match op with
    | .add => Must (Fit2 (A.ssize a) (A.ssize b)) (K (.str (A.sapp a b)))
    | .eql => K (.bool (A.seq a b))
    | .neq => K (.bool (A.not (A.seq a b)))
    | _ => Stuck 3
  | x, y => match boolOf x, boolOf y, op, tk with
    | some a, some b, .eql, .bool => K (.bool (A.eqb a b))
    | some a, some b, .neq, .bool => K (.bool (A.not (A.eqb a b)))
    | _, _, _, _ => Stuck 4

/-- what an operation comes to: its value, the objects that it looks into, those that it takes away, those that it makes -/
structure Rec where
  v : D
  acc : List Id
  del : List Id
  new : Sto

/-- the elements of a slice value, the objects looked into; is their size still to be shown? -/
def elsOf (g : Id → Option O) (e : TypeId) : D → Option (List (List D) × List Id × Bool)
  | .nils => some ([], [], false)
  | .imm els => some (els, [], true)
  | .ref id => match g id with | some (.row e' els) => (match Nat.beq e' e with | true => some (els, [id], false) | false => none) | _ => none
  | _ => none
def uniIf (b : Bool) (els : List (List D)) (sz : Nat) (p : Prop) : Prop := match b with
  | true => Must (Uni els sz) p
  | false => p

/-- an argument, as the callee sees it: what is owned is lent -/
def lendG (g : Id → Option O) : D → D
  | .ref id => match g id with | some (.row _ els) => .imm els | _ => .gone
  | .nils => .imm []
  | .tt => .bool true
  | .ff => .bool false
  | .iptr _ => .gone
  | d => d

structure Ctx where
  A : Ar
  T : TT
  G : Nat → Option (List D)
  C : CC

/-- the variables in memory that arguments lead to, by first appearance -/
def addId (acc : List Id) (id : Id) : List Id := match memI acc id with | true => acc | false => acc ++ [id]
def ptrsIn : List Id → List D → List Id
  | acc, [] => acc
  | acc, .ptr id _ _ _ :: r => ptrsIn (addId acc id) r
  | acc, _ :: r => ptrsIn acc r
def ptrs : List Id → List D → List Id
  | acc, [] => acc
  | acc, .ptr id _ _ _ :: r => ptrs (addId acc id) r
  | acc, .fn _ _ caps :: r => ptrs (ptrsIn acc caps) r
  | acc, _ :: r => ptrs acc r
def idxOf : List Id → Id → Nat
  | [], _ => 0
  | a :: r, b => match ideq a b with | true => 0 | false => idxOf r b + 1
def far : Nat := 1000000
/-- the callee's own names for them: whole variables alone -/
def renG (m : List Id) : D → D
  | .ptr id (.ofNat 0) 0 0 => match memI m id with | true => .ptr (far, idxOf m id) 0 0 0 | false => .gone
  | .ptr _ _ _ _ => .gone
  | d => d

/-- an argument, as the callee sees it -/
def argG (m : List Id) (g : Id → Option O) : D → D
  | .ptr id i sz off => renG m (.ptr id i sz off)
  | d => lendG g d
/-- what a variable holds, on the way out -/
def shutG (g : Id → Option O) : D → D
  | .ptr _ _ _ _ => .gone
  | d => lendG g d

mutual
def hasImm : D → Bool
  | .imm _ | .own _ _ => true
  | .agg cs => hasImmL cs
  | .tup cs => hasImmL cs
  | .int _ _ | .bool _ | .tt | .ff | .str _ | .nils => false
  | _ => true
def hasImmL : List D → Bool
  | [] => false
  | d :: r => match hasImm d with | true => true | false => hasImmL r
end
def hasImmLL : List (List D) → Bool
  | [] => false
  | d :: r => match hasImmL d with | true => true | false => hasImmLL r

-- the owned rows that values name
mutual
def refsOf : D → List Id
  | .ref id => [id]
  | .agg cs => refsOfL cs
  | .tup cs => refsOfL cs
  | .fn _ a b => refsOfL a ++ refsOfL b
  | _ => []
def refsOfL : List D → List Id
  | [] => []
  | d :: r => refsOf d ++ refsOfL r
end
def refsOfLL : List (List D) → List Id
  | [] => []
  | d :: r => refsOfL d ++ refsOfLL r

/-- this row is only read from now on -/
def frz1 (id : Id) (e : Env) (s : Sto) : Env × Sto :=
  match sget s id with
  | some (.row _ els) => (lmapL (frzG id els) e, smap (frzG id els) (sdel s id))
  | _ => (e, s)
def frz : List Id → Env → Sto → Env × Sto
  | [], e, s => (e, s)
  | id :: r, e, s => match frz1 id e s with | (e1, s1) => frz r e1 s1
/-- the slot's numbers are free, and nothing names them: a row is only read from now on, a variable is forgotten -/
def clean (d : Nat) (e : Env) (s : Sto) : Env × Sto := (lmapL (cleanG s d) e, smap (cleanG s d) (sdelAt s d))

-- results: what is handed over owned becomes rows of the caller's: the next number, the value, the rows
mutual
def imp (d k : Nat) : D → Nat × D × Sto
  | .own e els => (k + 1, .ref (d, k), [((d, k), .row e els)])
  | .agg cs => match impL d k cs with | (k', cs', s) => (k', .agg cs', s)
  | .tup cs => match impL d k cs with | (k', cs', s) => (k', .tup cs', s)
  | v => (k, v, [])
def impL (d k : Nat) : List D → Nat × List D × Sto
  | [] => (k, [], [])
  | v :: r => match imp d k v with
    | (k', v', s) => match impL d k' r with | (k'', r', s') => (k'', v' :: r', s ++ s')
end
/-- results, on the way out -/
def expoG (s : Sto) : D → D
  | .ref id => match sget s id with | some (.row e els) => .own e els | _ => .gone
  | .ptr _ _ _ _ => .gone
  | .iptr _ => .gone
  | .tt => .bool true
  | .ff => .bool false
  | d => d
mutual
def noFn : D → Bool
  | .fn _ _ _ => false
  | .agg cs => noFnL cs
  | .tup cs => noFnL cs
  | _ => true
def noFnL : List D → Bool
  | [] => true
  | d :: r => match noFn d with | true => noFnL r | false => false
end
def nodupI : List Id → Bool
  | [] => true
  | a :: r => match memI r a with | true => false | false => nodupI r

def nthF : List (Nat × TypeId) → Nat → Option (Nat × TypeId)
  | [], _ => none
  | p :: _, 0 => some p
  | _ :: r, i + 1 => nthF r i
def seqParts : Nat → List (Nat × Operand) → Bool
  | _, [] => true
  | n, (i, _) :: r => match Nat.beq i n with | true => seqParts (n + 1) r | false => false
/-- may these values lie in one cell each -/
def cellsOk : List D → Bool
  | [] => true
  | d :: r => match d with
    | .undef | .agg _ | .tup _ | .own _ _ => false
    | _ => cellsOk r
/-- may these lie in a row: what is only read alone -/
def rowOk : List D → Bool
  | [] => true
  | d :: r => match d with
    | .gone | .int _ _ | .bool _ | .tt | .ff | .str _ | .nils | .imm _ | .nilp | .nili => rowOk r
    | _ => false
/-- an aggregate out of its parts: each has the size of its place, and lies in it -/
def fillD (place : Nat → Option (Nat × Nat)) : List D → List (Nat × D) → Option (List D)
  | cs, [] => some cs
  | cs, (i, d) :: r => match place i with
    | none => none
    | some (off, sz) => match cellsOk (cellsOf d), Nat.beq (lenD (cellsOf d)) sz, Nat.ble (off + sz) (lenD cs) with
      | true, true, true => fillD place (writeAt cs off (cellsOf d)) r
      | _, _, _ => none
def fieldAtT (T : TT) (fs : List (Nat × TypeId)) (i : Nat) : Option (Nat × Nat) := match nthF fs i with
  | some (off, ty) => some (off, (T ty).size)
  | none => none
def sizesOk (sz : Nat) : List (List D) → Bool
  | [] => true
  | d :: r => match rowOk d, Nat.beq (lenD d) sz with | true, true => sizesOk sz r | _, _ => false

def boxesOf (g : Id → Option O) : List Id → Option (List (List D))
  | [] => some []
  | id :: r => match g id, boxesOf g r with
    | some (.box cells), some q => some (cells :: q)
    | _, _ => none
def zipBox : List Id → List (List D) → Sto
  | id :: r, cells :: q => (id, .box cells) :: zipBox r q
  | _, _ => []

/-- a slice's or string's bounds -/
def lowOf : Option D → Option Int
  | none => some 0
  | some (.int _ n) => some n
  | _ => none
def highOf (z : Int) : Option D → Option Int
  | none => some z
  | some (.int _ n) => some n
  | _ => none

def packK (tk : TK) (sz : Nat) (cells : List D) (n : Nat) (K : D → Prop) : Prop :=
  match tk.known, pack tk.agg sz (takeD sz cells) with
  | true, some v => K v
  | _, _ => Stuck n

def nilConst : Operand → Bool
  | .const (.slice none 0 0) => true
  | _ => false
/-- an operation other than a call of a Go function -/
def reck (A : Ar) (T : TT) (o : Oper) (ρ : Operand → D) (g : Id → Option O) (K : Rec → Prop) : Prop :=
  let ret := fun v => K ⟨v, [], [], []⟩
  match o.op with
  | .move x => ret (ρ x)
  | .assign x => match nilConst x, o.dst, (T o.type).k with
    | true, some d, .slice el => K ⟨.ref (d, 0), [], [], [((d, 0), .row el [])]⟩
    | _, _, _ => ret (ρ x)
  | .pick x a b => match ρ x with
    | .tt => ret (ρ a)
    | .ff => ret (ρ b)
    | .bool t => Br t (On fun _ => ret (ρ a)) (On fun _ => ret (ρ b))
    | _ => Stuck 5
  | .alloc t => match o.dst, (T t).k.known with
    | some d, true => K ⟨.ptr (d, 0) 0 0 0, [], [], [((d, 0), .box (T t).zero)]⟩
    | _, _ => Stuck 6
  | .box t x => match o.dst, Nat.beq (lenD (cellsOf (ρ x))) (T t).size, cellsOk (cellsOf (ρ x)) with
    | some d, true, true => K ⟨.ptr (d, 0) 0 0 0, [], [], [((d, 0), .box (cellsOf (ρ x)))]⟩
    | _, _, _ => Stuck 7
  | .build t parts => match (T t).k with
    | .struct fs => match fillD (fieldAtT T fs) (T t).zero (parts.toList.map fun (i, x) => (i, ρ x)) with
      | some cs => ret (.agg cs)
      | none => Stuck 8
    | .array n el => match fillD (fun i => some (i * (T el).size, (T el).size)) (T t).zero (parts.toList.map fun (i, x) => (i, ρ x)) with
      | some cs => ret (.agg cs)
      | none => Stuck 8
    | _ => Stuck 8
  | .buildSlice t len parts => match (T t).k, o.dst, seqParts 0 parts.toList, Nat.beq len parts.toList.length with
    | .slice el, some d, true, true =>
      match Nat.ble (len * (T el).size) 16777216, sizesOk (T el).size (parts.toList.map fun (_, x) => lmapL (lendG g) (cellsOf (ρ x))) with
      | true, true => K ⟨.ref (d, 0), refsOfL (parts.toList.map fun (_, x) => ρ x), refsOfL (parts.toList.map fun (_, x) => ρ x), [((d, 0), .row el (parts.toList.map fun (_, x) => lmapL (lendG g) (cellsOf (ρ x))))]⟩
      | _, _ => Stuck 9
    | _, _, _, _ => Stuck 9
  | .makeSlice t l cp => match (T t).k, o.dst, ρ l, ρ cp with
    | .slice el, some d, .int .i64 n, .int .i64 m => Must (Same n m) <| Must (Ge0 n) <| Must (Fit n (T el).bytes) <| K ⟨.ref (d, 0), [], [], [((d, 0), .row el (A.erep n (T el).zero))]⟩
    | _, _, _, _ => Stuck 10
  | .load t a => match ρ a with
    | .iptr cells => packK (T t).k (T t).size cells 11 ret
    | .ptr id i sz off => match g id with
      | some (.box cells) => packK (T t).k (T t).size (dropD off cells) 11 fun v => K ⟨v, [id], [], []⟩
      | some (.row et els) => match Nat.beq sz (T et).size with
        | true => At els i fun el => packK (T t).k (T t).size (dropD off el) 11 fun v => K ⟨v, [id], [], []⟩
        | false => Stuck 12
      | none => Stuck 12
    | _ => Stuck 12
  | .store t a x => match ρ a, cellsOk (cellsOf (ρ x)), Nat.beq (lenD (cellsOf (ρ x))) (T t).size, (T t).k.known with
    | .ptr id i sz off, true, true, true => match g id with
      | some (.box cells) => match Nat.ble (off + (T t).size) (lenD cells) with
        | true => K ⟨.undef, [id], [id], [(id, .box (writeAt cells off (cellsOf (ρ x))))]⟩
        | false => Stuck 13
      | some (.row el els) => At els i fun old => match Nat.ble (off + (T t).size) (lenD old), rowOk (lmapL (lendG g) (cellsOf (ρ x))), Nat.beq sz (T el).size, memI (refsOf (ρ x)) id with
        | true, true, true, false => K ⟨.undef, id :: refsOf (ρ x), id :: refsOf (ρ x), [(id, .row el (A.eset els i (writeAt old off (lmapL (lendG g) (cellsOf (ρ x))))))]⟩
        | _, _, _, _ => Stuck 13
      | none => Stuck 14
    | _, _, _, _ => Stuck 15
  | .nilCheck x => match ρ x with
    | .ptr id b z cc => match g id with
      | some _ => K ⟨.ptr id b z cc, [id], [], []⟩
      | none => Stuck 16
    | .iptr cs => ret (.iptr cs)
    | .fn a b cc => ret (.fn a b cc)
    | _ => Stuck 16
  | .binOp op t x y _ => bin A op (T t).k (ρ x) (ρ y) ret
  | .unOp op _ x => match op, ρ x with
    | .not, .tt => ret .ff
    | .not, .ff => ret .tt
    | .not, .bool b => ret (.bool (A.not b))
    | .neg, .int k n => ret (.int k (A.wr k (A.sub 0 n)))
    | _, _ => Stuck 17
  | .convert src dst x => match (T src).k, (T dst).k, ρ x with
    | .int _, .int k, .int _ n => ret (.int k (A.wr k n))
    | _, _, _ => Stuck 18
  | .makeFunc (.func f) first caps => ret (.fn f (first.toList.map ρ) (caps.toList.map ρ))
  | .fieldAddr st x f => match (T st).k, ρ x with
    | .struct fs, .ptr id i sz off => match nthF fs f, g id with
      | some (fo, _), some _ => K ⟨.ptr id i sz (off + fo), [id], [], []⟩
      | _, _ => Stuck 19
    | .struct fs, .iptr cells => match nthF fs f with
      | some (fo, _) => match Nat.blt fo (lenD cells) with
        | true => ret (.iptr (dropD fo cells))
        | false => Stuck 19
      | none => Stuck 19
    | _, _ => Stuck 19
  | .field st x f => match (T st).k, ρ x with
    | .struct fs, .agg cs => match nthF fs f with
      | some (fo, ty) => packK (T ty).k (T ty).size (dropD fo cs) 20 ret
      | none => Stuck 20
    | _, _ => Stuck 21
  | .indexAddr t x ix => match (T t).k, ρ x, ρ ix with
    | .slice et, .imm els, .int _ i => At els i fun el => match Nat.beq (lenD el) (T et).size with | true => ret (.iptr el) | false => Stuck 22
    | .slice et, .ref id, .int _ i => match g id with
      | some (.row e2 els) => match Nat.beq e2 et with
        | true => Must (Rng i (A.elen els)) <| K ⟨.ptr id i (T et).size 0, [id], [], []⟩
        | false => Stuck 22
      | _ => Stuck 22
    | .array n el, .ptr id j sz off, .int _ i => match g id with
      | some _ => Must (Rng i n) (K ⟨.ptr id j sz (off + i.toNat * (T el).size), [id], [], []⟩)
      | none => Stuck 23
    | .array n el, .iptr cells, .int _ i => Must (Rng i n) (ret (.iptr (dropD (i.toNat * (T el).size) cells)))
    | _, _, _ => Stuck 23
  | .index t x ix => match (T t).k, ρ x, ρ ix with
    | .array n el, .agg cs, .int _ i => Must (Rng i n) <| packK (T el).k (T el).size (dropD (i.toNat * (T el).size) cs) 24 ret
    | .str, .str b, .int _ i => Must (Rng i (A.ssize b)) (ret (.int .u8 (A.sget b i)))
    | _, _, _ => Stuck 25
  | .slice t x lo hi none => match (T t).k, ρ x with
    | .str, .str b => match lowOf (lo.map ρ), highOf (A.ssize b) (hi.map ρ) with
      | some l, some h => Must (Cut l h (A.ssize b)) (ret (.str (A.scut b l h)))
      | _, _ => Stuck 26
    | .slice et, .imm els => match lowOf (lo.map ρ), highOf (A.elen els) (hi.map ρ) with
      | some l, some h => Must (Uni els (T et).size) <| Must (Cut l h (A.elen els)) (ret (.imm (A.ecut els l h)))
      | _, _ => Stuck 27
    | .slice et, .ref id => match g id with
      | some (.row e2 els) => match Nat.beq e2 et, lowOf (lo.map ρ), highOf (A.elen els) (hi.map ρ) with
        | true, some l, some h => Must (Cut l h (A.elen els)) (K ⟨.imm (A.ecut els l h), [id], [id], []⟩)
        | _, _, _ => Stuck 28
      | _ => Stuck 29
    | _, _ => Stuck 32
  | .extract x j => match ρ x with
    | .tup vs => match Nat.blt j (lenD vs) with
      | true => ret (getAt vs j)
      | false => Stuck 33
    | _ => Stuck 33
  | .call { callee := .builtin .len, args, argTypes } => match args.toList.map ρ, argTypes.toList with
    | [x], [t] => match x, (T t).k with
      | .nils, .slice _ => ret (.int .i64 0)
      | .imm els, .slice _ => ret (.int .i64 (A.elen els))
      | .str b, .str => ret (.int .i64 (A.ssize b))
      | .ref id, .slice _ => match g id with
        | some (.row _ els) => K ⟨.int .i64 (A.elen els), [id], [], []⟩
        | _ => Stuck 34
      | _, _ => Stuck 35
    | _, _ => Stuck 35
  | .call { callee := .builtin .append, args, argTypes } => match args.toList.map ρ, argTypes.toList, o.dst with
    | [x, y], [t, u], some d => match (T t).k, Nat.beq t u with
      | .slice el, true => match x, elsOf g el y with
        | .ref id, some (els2, acc, b) => match g id with
          | some (.row e2 els) => match Nat.beq e2 el with
            | true => uniIf b els2 (T el).size <| Must (Fit (A.add (A.elen els) (A.elen els2)) (T el).bytes) <| K ⟨.ref (d, 0), id :: acc, [id], [((d, 0), .row el (A.eapp els els2))]⟩
            | false => Stuck 36
          | _ => Stuck 36
        | .nils, some (els2, acc, b) => uniIf b els2 (T el).size <| Must (Fit (A.elen els2) (T el).bytes) <| K ⟨.ref (d, 0), acc, [], [((d, 0), .row el els2)]⟩
        | _, _ => Stuck 38
      | _, _ => Stuck 38
    | _, _, _ => Stuck 39
  | _ => Stuck 41

/-- does it make an object, under its slot's number -/
def makes (o : Oper) : Bool := match o.op with
  | .alloc _ | .box _ _ | .buildSlice .. | .makeSlice .. | .call _ => true
  | .assign x => nilConst x
  | _ => false
/-- the rows that become parts of another -/
def partRefs (ρ : Operand → D) (g : Id → Option O) (o : Oper) : List Id := match o.op with
  | .buildSlice _ _ parts => refsOfL (parts.toList.map fun (_, x) => ρ x)
  | .slice _ x _ _ _ => refsOf (ρ x)
  | .store _ a x => match ρ a with
    | .ptr id _ _ _ => match g id with
      | some (.row _ _) => refsOf (ρ x)
      | _ => []
    | _ => []
  | _ => []

/-- the variables in memory, as the callee sees them -/
def lentBoxes (m : List Id) (g : Id → Option O) : List (List D) → List (List D)
  | [] => []
  | cells :: r => lmapL (argG m g) cells :: lentBoxes m g r
/-- none of them was made at the slot -/
def slotFree (d : Nat) : List Id → Bool
  | [] => true
  | i :: r => match Nat.beq i.1 d with | true => false | false => slotFree d r
def slotFreeO : Option Nat → List Id → Bool
  | none, _ => true
  | some d, m => slotFree d m

def isFar (d : Nat) : Bool := Nat.beq d far
def anyFar : List Nat → Bool
  | [] => false
  | d :: r => match isFar d with | true => true | false => anyFar r
/-- what a call leaves -/
def callEnd (m : List Id) (st : List (List D)) (r : D) (dst : Option Nat) (K : Env → Sto → Prop) : Env × Sto → Prop
  | (e2, s2) => match dst with
    | some d => match isFar d, clean d e2 s2, imp d 0 r with
      | false, (e3, s3), (_, r', s') => K (setAt e3 d r') (s' ++ (zipBox m st ++ sdels s3 m))
      | true, _, _ => Stuck 60
    | none => K e2 (zipBox m st ++ sdels s2 m)
/-- a call of a Go function -/
def evCall (c : Ctx) (fn : FuncId) (as : List D) (dst : Option Nat) (e : Env) (s : Sto) (K : Env → Sto → Prop) : Prop :=
  match boxesOf (sget s) (ptrs [] as), slotFreeO dst (ptrs [] as) with
  | some bx, true => match frz (refsOfLL bx) e s with
    | (e1, s1) => match boxesOf (sget s1) (ptrs [] as) with
      | none => Stuck 31
      | some bx1 => CallI c.C fn (lmapL (argG (ptrs [] as) (sget s1)) as) (lentBoxes (ptrs [] as) (sget s1) bx1) fun r st =>
        callEnd (ptrs [] as) st r dst K (match hasImm r, hasImmLL st with
          | false, false => (e1, s1)
          | _, _ => frz (refsOfL as ++ refsOfLL bx1) e1 s1)
  | _, _ => Stuck 30

def evOp (c : Ctx) (o : Oper) (e : Env) (s : Sto) (K : Env → Sto → Prop) : Prop :=
  match o.op with
  | .call { callee := .value f, args, .. } => match opnd c.G e f with
    | .fn g first caps => evCall c g (first ++ args.toList.map (opnd c.G e) ++ caps) o.dst e s K
    | _ => Stuck 40
  | _ => match frz (partRefs (opnd c.G e) (sget s) o) e s with
    | (e1, s1) => match o.dst, makes o with
      | some d, true => match isFar d, clean d e1 s1 with
        | true, _ => Stuck 60
        | false, (e2, s2) => reck c.A c.T o (opnd c.G e2) (sget s2) fun T => K (put e2 o.dst T.v) (T.new ++ sdels s2 T.del)
      | _, _ => reck c.A c.T o (opnd c.G e1) (sget s1) fun T => K (put e1 o.dst T.v) (T.new ++ sdels s1 T.del)

def dstOf : List Oper → Nat → Option Nat
  | [], _ => none
  | o :: _, 0 => o.dst
  | _ :: r, i + 1 => dstOf r i

def evOps (c : Ctx) (all : List Oper) : List Oper → Env → Sto → (Env → Sto → Prop) → Prop
  | [], e, s, K => K e s
  | o :: r, e, s, K => match o.guard with
    | none => evOp c o e s fun e s => evOps c all r e s K
    | some (j, want) => match dstOf all j with
      | none => Stuck 42
      | some d => match getAt e d, want with
        | .tt, true | .ff, false => evOp c o e s fun e s => evOps c all r e s K
        | .tt, false | .ff, true => evOps c all r (put e o.dst .undef) s K
        | .bool b, true => Br b (On fun _ => evOp c o (setAt e d .tt) s fun e s => evOps c all r e s K) (On fun _ => evOps c all r (put (setAt e d .ff) o.dst .undef) s K)
        | .bool b, false => Br b (On fun _ => evOps c all r (put (setAt e d .tt) o.dst .undef) s K) (On fun _ => evOp c o (setAt e d .ff) s fun e s => evOps c all r e s K)
        | _, _ => Stuck 43

/-! A region that draws its order: evaluated in the text's order; what each operation came to shows that the order is without effect. -/

def ifImm (r : D) (st : List (List D)) (l : List Id) : List Id := match hasImm r, hasImmLL st with
  | false, false => []
  | _, _ => l
/-- a call here: the contract tells one answer -/
def reckCall (c : Ctx) (fn : FuncId) (as : List D) (dst : Option Nat) (g : Id → Option O) (K : Rec → Prop) : Prop :=
  match boxesOf g (ptrs [] as), dst, slotFreeO dst (ptrs [] as) with
  | some bx, some d, true => match refsOfLL bx with
    | [] => CallF c.C fn (lmapL (argG (ptrs [] as) g) as) (lentBoxes (ptrs [] as) g bx) fun r st =>
      match imp d 0 r with
      | (_, v, news) => K ⟨v, refsOfL as ++ ptrs [] as, ifImm r st (refsOfL as) ++ ptrs [] as, news ++ zipBox (ptrs [] as) st⟩
    | _ => Stuck 51
  | _, _, _ => Stuck 52
def reckAny (c : Ctx) (o : Oper) (e : Env) (s : Sto) (K : Rec → Prop) : Prop :=
  match o.op with
  | .call { callee := .value f, args, .. } => match opnd c.G e f with
    | .fn g first caps => reckCall c g (first ++ args.toList.map (opnd c.G e) ++ caps) o.dst (sget s) K
    | _ => Stuck 53
  | _ => reck c.A c.T o (opnd c.G e) (sget s) K
def noRec : Rec := ⟨.undef, [], [], []⟩
/-- is a guard's answer known -/
def knownAt : List (Nat × Bool) → Nat → Option Bool
  | [], _ => none
  | (d, b) :: r, t => match Nat.beq d t with | true => some b | false => knownAt r t
def litB : Bool → D
  | true => .tt
  | false => .ff
def refineE : List (Nat × Bool) → Env → Env
  | [], e => e
  | (d, b) :: r, e => refineE r (setAt e d (litB b))
def sameB : Bool → Bool → Bool
  | true, b => b
  | false, true => false
  | false, false => true
/-- guard: is it known to hold, known to fail, or a test still -/
inductive GD where
  | yes | no | ask (b : Bool) | bad
def guardOf (kn : List (Nat × Bool)) (e : Env) (d : Nat) (want : Bool) : GD :=
  match knownAt kn d with
  | some b => (match sameB want b with | true => .yes | false => .no)
  | none => match getAt e d with
    | .tt => (match want with | true => .yes | false => .no)
    | .ff => (match want with | true => .no | false => .yes)
    | .bool b => .ask b
    | _ => .bad
/-- a slot is written: what was known of it is no more -/
def forget : Option Nat → List (Nat × Bool) → List (Nat × Bool)
  | none, kn => kn
  | some _, [] => []
  | some d, (t, b) :: r => match Nat.beq t d with | true => forget (some d) r | false => (t, b) :: forget (some d) r
/-- an operation, where the answers of guards are known -/
def reckKn (c : Ctx) (kn : List (Nat × Bool)) (o : Oper) (e : Env) (s : Sto) (K : Rec → Prop) : Prop :=
  match o.op with
  | .pick (.tmp t) x y => match knownAt kn t with
    | some true => K ⟨opnd c.G e x, [], [], []⟩
    | some false => K ⟨opnd c.G e y, [], [], []⟩
    | none => reckAny c o e s K
  | _ => reckAny c o e s K
def evD (c : Ctx) (all : List Oper) : List Oper → Env → Sto → List (Nat × Bool) → List Rec → (Env → Sto → List Rec → Prop) → Prop
  | [], e, s, kn, rs, K => K (refineE kn e) s rs
  | o :: r, e, s, kn, rs, K => match o.guard with
    | none => reckKn c kn o e s fun T => evD c all r (put e o.dst T.v) (T.new ++ sdels s T.del) (forget o.dst kn) (rs ++ [T]) K
    | some (j, want) => match dstOf all j with
      | none => Stuck 54
      | some d => match guardOf kn e d want, want with
        | .yes, _ => reckKn c kn o e s fun T => evD c all r (put e o.dst T.v) (T.new ++ sdels s T.del) (forget o.dst kn) (rs ++ [T]) K
        | .no, _ => evD c all r (put e o.dst .undef) s (forget o.dst kn) (rs ++ [noRec]) K
        | .ask b, true => Br b (On fun _ => reckKn c ((d, true) :: kn) o e s fun T => evD c all r (put e o.dst T.v) (T.new ++ sdels s T.del) (forget o.dst ((d, true) :: kn)) (rs ++ [T]) K)
            (On fun _ => evD c all r (put e o.dst .undef) s (forget o.dst ((d, false) :: kn)) (rs ++ [noRec]) K)
        | .ask b, false => Br b (On fun _ => evD c all r (put e o.dst .undef) s (forget o.dst ((d, true) :: kn)) (rs ++ [noRec]) K)
            (On fun _ => reckKn c ((d, false) :: kn) o e s fun T => evD c all r (put e o.dst T.v) (T.new ++ sdels s T.del) (forget o.dst ((d, false) :: kn)) (rs ++ [T]) K)
        | .bad, _ => Stuck 55
/-- the slots that the region's operations make objects under -/
def makers : List Oper → List Nat
  | [] => []
  | o :: r => match makes o, o.dst with
    | true, some d => d :: makers r
    | _, _ => makers r
def cleans : List Nat → Env → Sto → Env × Sto
  | [], e, s => (e, s)
  | d :: r, e, s => match clean d e s with | (e1, s1) => cleans r e1 s1

def always : Ground → Bool
  | .textOnly _ | .gcOnly _ => false
  | _ => true
def nthL : List (List Nat) → Nat → List Nat
  | [], _ => []
  | a :: _, 0 => a
  | _ :: r, i + 1 => nthL r i
def befOf (acc : List (List Nat)) : List Edge → List Nat
  | [] => []
  | x :: r => match always x.ground with
    | true => x.on :: (nthL acc x.on ++ befOf acc r)
    | false => befOf acc r
/-- which operations come ahead of each, in whatever order -/
def befs : List (List Nat) → List Oper → List (List Nat)
  | acc, [] => acc
  | acc, o :: r => befs (acc ++ [befOf acc o.after.toList]) r
def tmpsOf : List Operand → List Nat
  | [] => []
  | .tmp t :: r => t :: tmpsOf r
  | _ :: r => tmpsOf r
def slotsOf (all : List Oper) (o : Oper) : List Nat :=
  match o.guard with
  | none => tmpsOf o.op.operands.toList
  | some (j, _) => match dstOf all j with
    | some d => d :: tmpsOf o.op.operands.toList
    | none => tmpsOf o.op.operands.toList
def hits : List Id → List Id → Bool
  | [], _ => false
  | a :: r, l => match memI l a with | true => true | false => hits r l
def memO (l : List Nat) : Option Nat → Bool
  | none => false
  | some d => mem1 l d
def sameO : Option Nat → Option Nat → Bool
  | some a, some b => Nat.beq a b
  | _, _ => false
def keys : Sto → List Id
  | [] => []
  | (i, _) :: r => i :: keys r
/-- two operations, neither of which hinders the other -/
def apartOps (all : List Oper) (o : Oper) (T : Rec) (o' : Oper) (T' : Rec) : Bool :=
  match memO (slotsOf all o') o.dst, memO (slotsOf all o) o'.dst, sameO o.dst o'.dst,
    hits (T.del ++ keys T.new) (T'.acc ++ (T'.del ++ keys T'.new)), hits (T'.del ++ keys T'.new) T.acc with
  | false, false, false, false, false => true
  | _, _, _, _, _ => false
-- the objects that values name
mutual
def idsOf : D → List Id
  | .ref id => [id]
  | .ptr id _ _ _ => [id]
  | .agg cs => idsOfL cs
  | .tup cs => idsOfL cs
  | .fn _ a b => idsOfL a ++ idsOfL b
  | _ => []
def idsOfL : List D → List Id
  | [] => []
  | d :: r => idsOf d ++ idsOfL r
end
def boxIds : Sto → List Id
  | [] => []
  | (_, .box cells) :: r => idsOfL cells ++ boxIds r
  | (_, .row _ _) :: r => boxIds r
/-- nothing of the record names what the slot's operation makes -/
def clearOf (d : Option Nat) (T : Rec) : Bool := slotFreeO d (keys T.new ++ (idsOf T.v ++ boxIds T.new))
/-- operation number n against those ahead of it -/
def apartAll (all : List Oper) (bef : List Nat) (o : Oper) (T : Rec) : Nat → List Oper → List Rec → Bool
  | i, o' :: r, T' :: q => match clearOf o.dst T' with
    | false => false
    | true => match mem1 bef i with
      | true => apartAll all bef o T (i + 1) r q
      | false => match apartOps all o' T' o T, clearOf o'.dst T with
        | true, true => apartAll all bef o T (i + 1) r q
        | _, _ => false
  | _, _, _ => true
def orderFree (all : List Oper) : List Oper → List Rec → List (List Nat) → List Oper → List Rec → Bool
  | os, ts, b :: br, o :: r, T :: q => match apartAll all b o T 0 os ts with
    | true => orderFree all (os ++ [o]) (ts ++ [T]) br r q
    | false => false
  | _, _, [], [], [] => true
  | _, _, _, _, _ => false
/-- edges lead backwards -/
def backward : Nat → List Oper → Bool
  | _, [] => true
  | n, o :: r => match o.after.toList.all fun x => Nat.blt x.on n with
    | true => backward (n + 1) r
    | false => false
/-- the order is without effect: by 'kernel_rfl', twice; then on -/
structure Fence (ops : List Oper) (rs : List Rec) (K : Unit → Prop) : Prop where
  back : backward 0 ops = true
  free : orderFree ops [] [] (befs [] ops) ops rs = true
  h : K ()
/-- the order is without effect -/
structure OrderFree (ops : List Oper) (rs : List Rec) : Prop where
  back : backward 0 ops = true
  free : orderFree ops [] [] (befs [] ops) ops rs = true
def evDraw (c : Ctx) (ops : List Oper) (e : Env) (s : Sto) (K : Env → Sto → Prop) : Prop :=
  match anyFar (makers ops), cleans (makers ops) e s with
  | true, _ => Stuck 60
  | false, (e1, s1) => evD c ops ops e1 s1 [] [] fun e2 s2 rs => Fence ops rs fun _ => K e2 s2

/-- what may be forgotten ahead of a loop's round, and another number for a row -/
inductive Wk where
  | keep (ks : List Nat)
  | frz (id : Id)
  | ren (id to : Id)
  | drop (id : Id)
def renR (a b : Id) : D → D
  | .ref j => match ideq j a with | true => .ref b | false => .ref j
  | .ptr j i sz off => match ideq j a with | true => .gone | false => .ptr j i sz off
  | d => d
def weak1 : Wk → Env → Sto → Env × Sto
  | .keep ks, e, s => (keepFrom ks 0 e, s)
  | .frz id, e, s => frz1 id e s
  | .drop id, e, s => (lmapL (killG id) e, smap (killG id) (sdel s id))
  | .ren a b, e, s => match sget s a, sget s b, isFar b.1 with
    | some (.row t els), none, false => (lmapL (renR a b) (lmapL (killG b) e), (b, .row t els) :: smap (renR a b) (smap (killG b) (sdel s a)))
    | _, _, _ => (e, s)
def weak : List Wk → Env → Sto → Env × Sto
  | [], e, s => (e, s)
  | k :: r, e, s => match weak1 k e s with | (e1, s1) => weak r e1 s1

structure LoopOK (ev : Env → Sto → (X → Env → Sto → Prop) → Prop) (e : Env) (s : Sto) (K : X → Env → Sto → Prop) : Prop where
  h : ∃ (wk : List Wk) (I : Nat → Env → Sto → Prop) (n : Nat), I n (weak wk e s).1 (weak wk e s).2 ∧
      ∀ n e s, I n e s → ev e s fun x e s => match x with | .normal => ∃ m, m < n ∧ I m (weak wk e s).1 (weak wk e s).2 | x => K x e s

def evC (c : Ctx) : Code → Env → Sto → (X → Env → Sto → Prop) → Prop
  | .skip, e, s, K => K .normal e s
  | .region _ ops false, e, s, K => evOps c ops.toList ops.toList e s (K .normal)
  | .region _ ops true, e, s, K => evDraw c ops.toList e s (K .normal)
  | .seq a b, e, s, K => evC c a e s fun x e s => match x with | .normal => On fun _ => evC c b e s K | x => K x e s
  | .cond (.tmp t) a b, e, s, K => match getAt e t with
    | .tt => evC c a e s K
    | .ff => evC c b e s K
    | .bool v => Br v (On fun _ => evC c a (setAt e t .tt) s K) (On fun _ => evC c b (setAt e t .ff) s K)
    | _ => Stuck 44
  | .block id b, e, s, K => evC c b e s fun x e s => match x with | .exit j => (match Nat.beq j id with | true => K .normal e s | false => K (.exit j) e s) | x => K x e s
  | .exit id, e, s, K => K (.exit id) e s
  | .ret, e, s, K => K .ret e s
  | .loop b, e, s, K => LoopOK (evC c b) e s K
  | _, _, _, _ => Stuck 45

def resOf (c : Ctx) (e : Env) (s : Sto) : ResultVar → Option D
  | .tmp t => some (getAt e t)
  | .cell a t => match getAt e a with
    | .ptr id _ _ off => match sget s id with
      | some (.box cells) => match (c.T t).k.known with
        | true => pack (c.T t).k.agg (c.T t).size (takeD (c.T t).size (dropD off cells))
        | false => none
      | _ => none
    | _ => none
def resAll (c : Ctx) (e : Env) (s : Sto) : List ResultVar → Option (List D)
  | [] => some []
  | r :: q => match resOf c e s r, resAll c e s q with
    | some d, some l => some (d :: l)
    | _, _ => none
def single : List D → D
  | [d] => d
  | l => .tup l

def undefs : Nat → List D
  | 0 => []
  | n + 1 => .undef :: undefs n
def firstSto (j : Nat) : List (List D) → Sto
  | [] => []
  | cells :: r => ((far, j), .box cells) :: firstSto (j + 1) r
def lastSto (s : Sto) (j : Nat) : List (List D) → Option (List (List D))
  | [] => some []
  | _ :: r => match sget s (far, j), lastSto s (j + 1) r with
    | some (.box cells), some q => some (lmapL (shutG (sget s)) cells :: q)
    | _, _ => none

/-- what a function's end leaves -/
def leave (c : Ctx) (f : Func) (st : List (List D)) (Q : Post) (e : Env) (s : Sto) : Prop :=
  match resAll c e s f.results.toList, lastSto s 0 st with
  | some rs, some ls => match nodupI (refsOfL rs), noFnL rs, hasImmLL ls with
    | true, true, false => Leaf Q (lmap (expoG s) (single rs)) ls
    | true, true, true => match frz (refsOfL rs) e s with   -- what the variables lead to may be the results' own: both are only read
      | (e1, s1) => match resAll c e1 s1 f.results.toList, lastSto s1 0 st with
        | some rs1, some ls1 => match noFnL rs1 with
          | true => Leaf Q (lmap (expoG []) (single rs1)) ls1
          | false => Stuck 47
        | _, _ => Stuck 48
    | _, _, _ => Stuck 47
  | _, _ => Stuck 46

def evF (c : Ctx) (f : Func) (as : List D) (st : List (List D)) (Q : Post) : Prop :=
  match f.body with
  | none => Stuck 49
  | some b => evC c b (as ++ undefs (f.ntmps - lenD as)) (firstSto 0 st) fun x e s => match x with
    | .exit _ => Stuck 50
    | _ => leave c f st Q e s
end Go.DW

namespace Go.DW
/-- contracts may be weakened -/
def MonoC (C : CC) : Prop := ∀ g as st (Q Q' : Post), (∀ r st, Q r st → Q' r st) → C g as st Q → C g as st Q'
/-- a contract that tells the answer -/
def Ret (C : CC) (g : FuncId) (as : List D) (st : List (List D)) (r : D) (st' : List (List D)) : Prop := C g as st (fun r' st'' => r' = r ∧ st'' = st')
theorem CallI.ret {C : CC} (hM : MonoC C) {g : FuncId} {as : List D} {st : List (List D)} {r : D} {st' : List (List D)} {K : Post} (h : Ret C g as st r st') (hK : K r st') : CallI C g as st K :=
  ⟨hM _ _ _ _ _ (fun _ _ hh => by rw [hh.1, hh.2]; exact hK) h⟩
theorem CallF.ret {C : CC} {g : FuncId} {as : List D} {st : List (List D)} {r : D} {st' : List (List D)} {K : Post} (h : Ret C g as st r st') (hK : K r st') : CallF C g as st K :=
  ⟨⟨r, st', h, hK⟩⟩
end Go.DW

/- What the evaluator's data say of values and memory, and how that is kept while memory grows. -/
namespace Go.DW
open Go

theorem ideq_iff (a b : Id) : ideq a b = true ↔ a = b := by
  obtain ⟨a1, a2⟩ := a
  obtain ⟨b1, b2⟩ := b
  unfold ideq
  cases h : Nat.beq a1 b1
  · simp only [Bool.false_eq_true, false_iff, Prod.mk.injEq, not_and]
    intro e
    subst e
    simp at h
  · simp only [Prod.mk.injEq]
    rw [Nat.beq_eq] at h
    rw [Nat.beq_eq]
    simp [h]

theorem ideq_false (a b : Id) : ideq a b = false ↔ a ≠ b := by
  rw [← Bool.not_eq_true, ideq_iff]

section
variable (w : World) (A : Nat → Prop)
mutual
/-- data that is only read -/
def RI : D → Value → Prop
  | .gone, v => v.oneCell' = true
  | .int k n, v => v = .int k n
  | .bool b, v => v = .bool b
  | .tt, v => v = .bool true
  | .ff, v => v = .bool false
  | .str s, v => v = .string s
  | .nils, v => v = .slice none 0 0
  | .nilp, v => v = .pointer none
  | .nili, v => v = .nilIface
  | .imm els, v => ∃ a cap, v = .slice a els.length cap ∧ els.length ≤ cap ∧ (a = none → cap = 0) ∧ (els = [] ∨ ∃ b o sz us, a = some ⟨b, o, none⟩ ∧ A b ∧ (∀ el ∈ els, el.length = sz) ∧ w.rangeAt b o us ∧ RILL els us)
  | _, _ => False
def RIL : List D → List Value → Prop
  | [], us => us = []
  | d :: r, us => ∃ u us', us = u :: us' ∧ RI d u ∧ RIL r us'
def RILL : List (List D) → List Value → Prop
  | [], us => us = []
  | el :: r, us => ∃ u1 u2, us = u1 ++ u2 ∧ RIL el u1 ∧ RILL r u2
end
end

/-- the block of a pointer or a slice -/
def blk : Value → Option Nat
  | .pointer (some a) => some a.block
  | .slice (some a) _ _ => some a.block
  | _ => none

section
variable (w : World) (A : Nat → Prop) (s : Sto) (β : Id → Value)
mutual
/-- data in an activation: what it owns stands in the store s, under the values β -/
def RV : D → Value → Prop
  | .undef, _ => True
  | .ref id, v => v.oneCell' = true ∧ ((sget s id).isSome = true → v = β id)
  | .ptr id i sz off, v => v.oneCell' = true ∧ (∀ o, sget s id = some o → ∃ b, blk (β id) = some b ∧ v = .pointer (some ⟨b, i.toNat * sz + off, none⟩) ∧
      match o with
      | .box _ => i.toNat * sz = 0
      | .row _ _ => 0 ≤ i)
  | .iptr cells, v => ∃ b o us, v = .pointer (some ⟨b, o, none⟩) ∧ A b ∧ w.rangeAt b o us ∧ RIL w A cells us
  | .agg cs, v => ∃ vs : Array Value, v = .agg vs ∧ RVL cs vs.toList
  | .tup cs, v => ∃ vs : Array Value, v = .tuple vs ∧ RVL cs vs.toList
  | .fn f a b, v => ∃ x y : Array Value, v = .func (.func f) x y ∧ RVL a x.toList ∧ RVL b y.toList
  | .own _ _, _ => False
  | .gone, v => v.oneCell' = true
  | .int k n, v => v = .int k n
  | .bool b, v => v = .bool b
  | .tt, v => v = .bool true
  | .ff, v => v = .bool false
  | .str t, v => v = .string t
  | .nils, v => v = .slice none 0 0
  | .nilp, v => v = .pointer none
  | .nili, v => v = .nilIface
  | .imm els, v => RI w A (.imm els) v
def RVL : List D → List Value → Prop
  | [], us => us = []
  | d :: r, us => ∃ u us', us = u :: us' ∧ RV d u ∧ RVL r us'
end
end

section
variable {w w' : World} {A A' : Nat → Prop}
theorem rangeAt_mono (hw : ∀ b, A b → w'.heap[b]? = w.heap[b]?) {b o : Nat} {us : List Value} (hb : A b) (h : w.rangeAt b o us) : w'.rangeAt b o us := by
  intro j v hv
  rw [World.cell?_of_block (w := w) (hw b hb)]
  exact h j v hv

mutual
theorem RI.mono (hA : ∀ b, A b → A' b) (hw : ∀ b, A b → w'.heap[b]? = w.heap[b]?) : ∀ (d : D) (v : Value), RI w A d v → RI w' A' d v
  | .gone, v, h => by simpa [RI] using h
  | .int k n, v, h => by simpa [RI] using h
  | .bool b, v, h => by simpa [RI] using h
  | .tt, v, h => by simpa [RI] using h
  | .ff, v, h => by simpa [RI] using h
  | .str s, v, h => by simpa [RI] using h
  | .nils, v, h => by simpa [RI] using h
  | .nilp, v, h => by simpa [RI] using h
  | .nili, v, h => by simpa [RI] using h
  | .imm els, v, h => by
    simp only [RI] at h ⊢
    obtain ⟨a, cap, hv, hc, hz, h⟩ := h
    refine ⟨a, cap, hv, hc, hz, h.imp id ?_⟩
    rintro ⟨b, o, sz, us, ha, hb, hs, hr, hu⟩
    exact ⟨b, o, sz, us, ha, hA b hb, hs, rangeAt_mono hw hb hr, RILL.mono hA hw els us hu⟩
  | .undef, v, h | .ref _, v, h | .own _ _, v, h | .ptr _ _ _ _, v, h | .iptr _, v, h | .agg _, v, h | .tup _, v, h | .fn _ _ _, v, h => by simp [RI] at h
theorem RIL.mono (hA : ∀ b, A b → A' b) (hw : ∀ b, A b → w'.heap[b]? = w.heap[b]?) : ∀ (l : List D) (us : List Value), RIL w A l us → RIL w' A' l us
  | [], us, h => by simpa [RIL] using h
  | d :: r, us, h => by
    simp only [RIL] at h ⊢
    obtain ⟨u, us', rfl, h1, h2⟩ := h
    exact ⟨u, us', rfl, RI.mono hA hw d u h1, RIL.mono hA hw r us' h2⟩
theorem RILL.mono (hA : ∀ b, A b → A' b) (hw : ∀ b, A b → w'.heap[b]? = w.heap[b]?) : ∀ (l : List (List D)) (us : List Value), RILL w A l us → RILL w' A' l us
  | [], us, h => by simpa [RILL] using h
  | el :: r, us, h => by
    simp only [RILL] at h ⊢
    obtain ⟨u1, u2, rfl, h1, h2⟩ := h
    exact ⟨u1, u2, rfl, RIL.mono hA hw el u1 h1, RILL.mono hA hw r u2 h2⟩
end
end

theorem RIL.length {w : World} {A : Nat → Prop} : ∀ {l : List D} {us : List Value}, RIL w A l us → us.length = l.length
  | [], us, h => by simp [RIL] at h; simp [h]
  | d :: r, us, h => by
    simp only [RIL] at h
    obtain ⟨u, us', rfl, _, h2⟩ := h
    simp [RIL.length h2]
theorem RVL.length {w : World} {A : Nat → Prop} {s : Sto} {β : Id → Value} : ∀ {l : List D} {us : List Value}, RVL w A s β l us → us.length = l.length
  | [], us, h => by simp [RVL] at h; simp [h]
  | d :: r, us, h => by
    simp only [RVL] at h
    obtain ⟨u, us', rfl, _, h2⟩ := h
    simp [RVL.length h2]
theorem RILL.length {w : World} {A : Nat → Prop} {sz : Nat} : ∀ {l : List (List D)} {us : List Value}, RILL w A l us → (∀ el ∈ l, el.length = sz) → us.length = l.length * sz
  | [], us, h, _ => by simp [RILL] at h; simp [h]
  | el :: r, us, h, hs => by
    simp only [RILL] at h
    obtain ⟨u1, u2, rfl, h1, h2⟩ := h
    simp only [List.length_append, RIL.length h1, RILL.length h2 (fun x hx => hs x (by simp [hx])), hs el (by simp), List.length_cons]
    rw [Nat.add_mul, Nat.one_mul, Nat.add_comm]

section
variable {w : World} {A : Nat → Prop} {s : Sto} {β : Id → Value}
theorem RI.one : ∀ {d : D} {v : Value}, RI w A d v → v.oneCell' = true
  | .gone, v, h => by simpa [RI] using h
  | .int k n, v, h => by simp [RI] at h; simp [h, Value.oneCell']
  | .bool b, v, h => by simp [RI] at h; simp [h, Value.oneCell']
  | .tt, v, h => by simp [RI] at h; simp [h, Value.oneCell']
  | .ff, v, h => by simp [RI] at h; simp [h, Value.oneCell']
  | .str s, v, h => by simp [RI] at h; simp [h, Value.oneCell']
  | .nils, v, h => by simp [RI] at h; simp [h, Value.oneCell']
  | .nilp, v, h => by simp [RI] at h; simp [h, Value.oneCell']
  | .nili, v, h => by simp [RI] at h; simp [h, Value.oneCell']
  | .imm els, v, h => by
    simp only [RI] at h
    obtain ⟨a, cap, rfl, _⟩ := h
    rfl
  | .undef, v, h | .ref _, v, h | .own _ _, v, h | .ptr _ _ _ _, v, h | .iptr _, v, h | .agg _, v, h | .tup _, v, h | .fn _ _ _, v, h => by simp [RI] at h

theorem RI.toRV : ∀ {d : D} {v : Value}, RI w A d v → RV w A s β d v
  | .gone, v, h | .int k n, v, h | .bool b, v, h | .tt, v, h | .ff, v, h | .str _, v, h | .nils, v, h | .nilp, v, h | .nili, v, h => by simpa [RI, RV] using h
  | .imm els, v, h => by simpa only [RV] using h
  | .undef, v, h | .ref _, v, h | .own _ _, v, h | .ptr _ _ _ _, v, h | .iptr _, v, h | .agg _, v, h | .tup _, v, h | .fn _ _ _, v, h => by simp [RI] at h
theorem RIL.toRVL : ∀ {l : List D} {us : List Value}, RIL w A l us → RVL w A s β l us
  | [], us, h => by simpa [RIL, RVL] using h
  | d :: r, us, h => by
    simp only [RIL, RVL] at h ⊢
    obtain ⟨u, us', rfl, h1, h2⟩ := h
    exact ⟨u, us', rfl, h1.toRV, h2.toRVL⟩
end

-- the objects that data names
mutual
def Ids : D → Id → Prop
  | .ref j, i => j = i
  | .ptr j _ _ _, i => j = i
  | .agg cs, i => IdsL cs i
  | .tup cs, i => IdsL cs i
  | .fn _ a b, i => IdsL a i ∨ IdsL b i
  | _, _ => False
def IdsL : List D → Id → Prop
  | [], _ => False
  | d :: r, i => Ids d i ∨ IdsL r i
end

def SameKind : O → O → Prop
  | .box _, .box _ => True
  | .row _ _, .row _ _ => True
  | _, _ => False
theorem SameKind.refl (o : O) : SameKind o o := by cases o <;> simp [SameKind]

/-- the objects of s' that data names are those of s, under the same values -/
def Agrees (s s' : Sto) (β β' : Id → Value) (i : Id) : Prop :=
  ∀ o', sget s' i = some o' → ∃ o, sget s i = some o ∧ β' i = β i ∧ SameKind o o'

section
variable {w w' : World} {A A' : Nat → Prop} {s s' : Sto} {β β' : Id → Value}
mutual
theorem RV.mono (hA : ∀ b, A b → A' b) (hw : ∀ b, A b → w'.heap[b]? = w.heap[b]?) : ∀ (d : D) (v : Value), (∀ i, Ids d i → Agrees s s' β β' i) → RV w A s β d v → RV w' A' s' β' d v
  | .undef, v, _, h => by simp [RV]
  | .gone, v, _, h | .int k n, v, _, h | .bool b, v, _, h | .tt, v, _, h | .ff, v, _, h | .str _, v, _, h | .nils, v, _, h | .nilp, v, _, h | .nili, v, _, h => by simpa [RV] using h
  | .imm els, v, _, h => by
    simp only [RV] at h ⊢
    exact RI.mono hA hw _ _ h
  | .own _ _, v, _, h => by simp [RV] at h
  | .ref id, v, hi, h => by
    simp only [RV] at h ⊢
    refine ⟨h.1, fun hs => ?_⟩
    obtain ⟨o', ho'⟩ := Option.isSome_iff_exists.1 hs
    obtain ⟨o, ho, hb, _⟩ := hi id (by simp [Ids]) o' ho'
    rw [hb]
    exact h.2 (by simp [ho])
  | .ptr id i sz off, v, hi, h => by
    simp only [RV] at h ⊢
    refine ⟨h.1, fun o' ho' => ?_⟩
    obtain ⟨o, ho, hb, hk⟩ := hi id (by simp [Ids]) o' ho'
    obtain ⟨b, h1, h2, h3⟩ := h.2 o ho
    refine ⟨b, by rw [hb]; exact h1, h2, ?_⟩
    cases o <;> cases o' <;> simp_all [SameKind]
  | .iptr cells, v, _, h => by
    simp only [RV] at h ⊢
    obtain ⟨b, o, us, hv, hb, hr, hu⟩ := h
    exact ⟨b, o, us, hv, hA b hb, rangeAt_mono hw hb hr, RIL.mono hA hw cells us hu⟩
  | .agg cs, v, hi, h => by
    simp only [RV] at h ⊢
    obtain ⟨vs, hv, h⟩ := h
    exact ⟨vs, hv, RVL.mono hA hw cs _ (fun i h => hi i (by simpa [Ids] using h)) h⟩
  | .tup cs, v, hi, h => by
    simp only [RV] at h ⊢
    obtain ⟨vs, hv, h⟩ := h
    exact ⟨vs, hv, RVL.mono hA hw cs _ (fun i h => hi i (by simpa [Ids] using h)) h⟩
  | .fn f a b, v, hi, h => by
    simp only [RV] at h ⊢
    obtain ⟨x, y, hv, h1, h2⟩ := h
    exact ⟨x, y, hv, RVL.mono hA hw a _ (fun i h => hi i (by simp [Ids, h])) h1, RVL.mono hA hw b _ (fun i h => hi i (by simp [Ids, h])) h2⟩
theorem RVL.mono (hA : ∀ b, A b → A' b) (hw : ∀ b, A b → w'.heap[b]? = w.heap[b]?) : ∀ (l : List D) (us : List Value), (∀ i, IdsL l i → Agrees s s' β β' i) → RVL w A s β l us → RVL w' A' s' β' l us
  | [], us, _, h => by simpa [RVL] using h
  | d :: r, us, hi, h => by
    simp only [RVL] at h ⊢
    obtain ⟨u, us', rfl, h1, h2⟩ := h
    exact ⟨u, us', rfl, RV.mono hA hw d u (fun i h => hi i (by simp [IdsL, h])) h1, RVL.mono hA hw r us' (fun i h => hi i (by simp [IdsL, h])) h2⟩
end
end
end Go.DW

/- The state of an activation against memory; what may be forgotten. -/
namespace Go.DW
open Go

/-! ### the store as a function -/
theorem sget_cons (j : Id) (o : O) (r : Sto) (i : Id) : sget ((j, o) :: r) i = if j = i then some o else sget r i := by
  simp only [sget]
  cases h : ideq j i
  · rw [ideq_false] at h; simp [h]
  · rw [ideq_iff] at h; simp [h]
theorem sget_sdel (s : Sto) (j i : Id) : sget (sdel s j) i = if j = i then none else sget s i := by
  induction s with
  | nil => simp [sdel, sget]
  | cons x r ih =>
    obtain ⟨k, o⟩ := x
    simp only [sdel]
    cases h : ideq k j
    · rw [ideq_false] at h
      simp only [sget_cons, ih]
      by_cases hk : k = i
      · subst hk; simp [Ne.symm h]
      · simp [hk]
    · rw [ideq_iff] at h
      subst h
      simp only [ih, sget_cons]
      by_cases hk : k = i <;> simp [hk]
theorem sget_sdels (s : Sto) (l : List Id) (i : Id) : sget (sdels s l) i = if i ∈ l then none else sget s i := by
  induction l generalizing s with
  | nil => simp [sdels]
  | cons j r ih =>
    simp only [sdels, ih, sget_sdel]
    by_cases h1 : i ∈ r
    · simp [h1]
    · by_cases h2 : j = i
      · simp [h2]
      · simp [h1, h2, Ne.symm h2]
theorem sget_sdelAt (s : Sto) (d : Nat) (i : Id) : sget (sdelAt s d) i = if i.1 = d then none else sget s i := by
  induction s with
  | nil => simp [sdelAt, sget]
  | cons x r ih =>
    obtain ⟨k, o⟩ := x
    simp only [sdelAt]
    cases h : Nat.beq k.1 d
    · have h' : k.1 ≠ d := fun e => by simp [e] at h
      simp only [sget_cons, ih]
      by_cases hk : k = i
      · subst hk; simp [h']
      · simp [hk]
    · have h' : k.1 = d := by simpa using h
      simp only [ih, sget_cons]
      by_cases hk : k = i
      · subst hk; simp [h']
      · simp [hk]
theorem sget_smap (g : D → D) (s : Sto) (i : Id) : sget (smap g s) i = (sget s i).map (omap g) := by
  induction s with
  | nil => simp [smap, sget]
  | cons x r ih =>
    obtain ⟨k, o⟩ := x
    simp only [smap, sget_cons, ih]
    by_cases hk : k = i <;> simp [hk]
theorem sget_append (s t : Sto) (i : Id) : sget (s ++ t) i = (sget s i).or (sget t i) := by
  induction s with
  | nil => simp [sget]
  | cons x r ih =>
    obtain ⟨k, o⟩ := x
    simp only [List.cons_append, sget_cons, ih]
    by_cases hk : k = i <;> simp [hk]

/-! ### leaves -/
def leaf : D → Bool
  | .agg _ | .tup _ | .fn _ _ _ => false
  | _ => true
theorem lmap_leaf (g : D → D) {d : D} (h : leaf d = true) : lmap g d = g d := by cases d <;> simp_all [lmap, leaf]

section
variable {w w' : World} {A A' : Nat → Prop} {s s' : Sto} {β β' : Id → Value} {g : D → D}
mutual
theorem RV.lmap (hg : ∀ d v, leaf d = true → RV w A s β d v → RV w' A' s' β' (g d) v) : ∀ (d : D) (v : Value), RV w A s β d v → RV w' A' s' β' (lmap g d) v
  | .agg cs, v, h => by
    simp only [RV, DW.lmap] at h ⊢
    obtain ⟨vs, hv, h⟩ := h
    exact ⟨vs, hv, RVL.lmap hg cs _ h⟩
  | .tup cs, v, h => by
    simp only [RV, DW.lmap] at h ⊢
    obtain ⟨vs, hv, h⟩ := h
    exact ⟨vs, hv, RVL.lmap hg cs _ h⟩
  | .fn f a b, v, h => by
    simp only [RV, DW.lmap] at h ⊢
    obtain ⟨x, y, hv, h1, h2⟩ := h
    exact ⟨x, y, hv, RVL.lmap hg a _ h1, RVL.lmap hg b _ h2⟩
  | .undef, v, h | .gone, v, h | .int _ _, v, h | .bool _, v, h | .tt, v, h | .ff, v, h | .str _, v, h | .nils, v, h | .imm _, v, h | .ref _, v, h | .own _ _, v, h | .ptr _ _ _ _, v, h | .iptr _, v, h | .nilp, v, h | .nili, v, h => by
    rw [lmap_leaf g (by rfl)]
    exact hg _ _ (by rfl) h
theorem RVL.lmap (hg : ∀ d v, leaf d = true → RV w A s β d v → RV w' A' s' β' (g d) v) : ∀ (l : List D) (us : List Value), RVL w A s β l us → RVL w' A' s' β' (lmapL g l) us
  | [], us, h => by simpa [RVL, lmapL] using h
  | d :: r, us, h => by
    simp only [RVL, lmapL] at h ⊢
    obtain ⟨u, us', rfl, h1, h2⟩ := h
    exact ⟨u, us', rfl, RV.lmap hg d u h1, RVL.lmap hg r us' h2⟩
end
end

/-! ### objects -/
/-- what stands in memory for an object -/
def RO (T : TT) (w : World) (A : Nat → Prop) (s : Sto) (β : Id → Value) (id : Id) : O → Prop
  | .box cells => ∃ b cur t, β id = .pointer (some ⟨b, 0, none⟩) ∧ w.heap[b]? = some (.cells cur t (0, 0)) ∧ ¬ A b ∧ RVL w A s β cells cur.toList
  | .row e els => ∃ xs, 0 < (T e).size ∧ w.ownsRow 0 e (T e).size (β id) els.length xs ∧ (∀ el ∈ els, el.length = (T e).size) ∧ RILL w A els xs ∧ ∀ b, blk (β id) = some b → ¬ A b

theorem RO.lt {T : TT} {w : World} {A : Nat → Prop} {s : Sto} {β : Id → Value} {id : Id} {o : O} (h : RO T w A s β id o) {b : Nat} (hb : blk (β id) = some b) : b < w.heap.size ∧ ¬ A b := by
  cases o with
  | box cells =>
    obtain ⟨b', cur, t, h1, h2, h3, _⟩ := h
    rw [h1] at hb
    simp [blk] at hb
    subst hb
    exact ⟨(Array.getElem?_eq_some_iff.1 h2).1, h3⟩
  | row e els =>
    obtain ⟨xs, _, h1, _, _, h4⟩ := h
    refine ⟨?_, h4 b hb⟩
    rcases h1.2 with ⟨h1, _⟩ | ⟨g, cap, cur, h1, _, h2, _⟩
    · rw [h1] at hb; simp [blk] at hb
    · rw [h1] at hb
      simp [blk] at hb
      subst hb
      exact (Array.getElem?_eq_some_iff.1 h2).1

/-- a row, read from now on -/
theorem RO.freeze {T : TT} {w : World} {A A' : Nat → Prop} {s : Sto} {β : Id → Value} {id : Id} {e : TypeId} {els : List (List D)} (h : RO T w A s β id (.row e els))
    (hA : ∀ b, A b → A' b) (hb : ∀ b, blk (β id) = some b → A' b) : RI w A' (.imm els) (β id) := by
  obtain ⟨xs, hp, h1, h2, h3, _⟩ := h
  simp only [RI]
  rcases h1.2 with ⟨hv, hn⟩ | ⟨g, cap, cur, hv, _, hg, hc, _, _, ht⟩
  · have : els = [] := List.eq_nil_of_length_eq_zero hn
    subst this
    exact ⟨none, 0, by rw [hv]; rfl, by simp, fun _ => rfl, .inl rfl⟩
  · refine ⟨some ⟨g, 0, none⟩, cap, hv, hc, fun h => by (cases h), .inr ⟨g, 0, _, xs, rfl, hb g (by rw [hv]; rfl), h2, ?_, RILL.mono hA (fun _ _ => rfl) _ _ h3⟩⟩
    intro j v hj
    rw [Nat.zero_add, cell_of_row w g j cur e (0, 0) hg]
    rw [← ht, List.getElem?_take] at hj
    split at hj
    · simpa using hj
    · cases hj

/-! ### the state -/
/-- the values of the variables that the call was handed -/
def βf (bs : List Nat) (i : Id) : Value := .pointer (some ⟨bs.getD i.2 0, 0, none⟩)
structure Rel (T : TT) (w0 : World) (A0 : Nat → Prop) (Ω0 : List Nat) (w : World) (A : Nat → Prop) (s : Sto) (β : Id → Value) (e : Env) (a : Act) : Prop where
  defers : a.defers = []
  env : RVL w A s β e a.tmps.toList
  obj : ∀ id o, sget s id = some o → RO T w A s β id o
  inj : ∀ i j b, (sget s i).isSome = true → (sget s j).isSome = true → blk (β i) = some b → blk (β j) = some b → i = j
  fresh : ∀ i b, (sget s i).isSome = true → blk (β i) = some b → b ∈ Ω0 ∨ w0.heap.size ≤ b
  lt : ∀ b, A b → b < w.heap.size
  sub : ∀ b, A0 b → A b
  sup : ∀ b, A b → A0 b ∨ w0.heap.size ≤ b ∨ b ∈ Ω0
  frame : ∀ b, b < w0.heap.size → b ∉ Ω0 → w.heap[b]? = w0.heap[b]?
  size : w0.heap.size ≤ w.heap.size
  os : w.os = w0.os
  tape : w.tape = w0.tape
  output : w.output = w0.output
  base : ∀ b, A0 b → b < w0.heap.size ∧ b ∉ Ω0
  pin : ∀ j, (sget s (far, j)).isSome = true → β (far, j) = βf Ω0 (far, j)

/-- the objects that p tells are forgotten: rows among them are only read from now on -/
def goneG (p : Id → Bool) (s : Sto) : D → D
  | .ref j => if p j then (match sget s j with | some (.row _ els) => .imm els | _ => .gone) else .ref j
  | .ptr j i sz off => if p j then .gone else .ptr j i sz off
  | d => d

section
variable {T : TT} {w0 : World} {A0 : Nat → Prop} {Ω0 : List Nat} {w : World} {A : Nat → Prop} {s : Sto} {β : Id → Value} {e : Env} {a : Act}

/-- what may be read once the objects are forgotten -/
def goneA (p : Id → Bool) (s : Sto) (β : Id → Value) (A : Nat → Prop) (b : Nat) : Prop :=
  A b ∨ ∃ i t els, p i = true ∧ sget s i = some (.row t els) ∧ blk (β i) = some b

theorem goneG_leaf (h : Rel T w0 A0 Ω0 w A s β e a) (p : Id → Bool) (s' : Sto) (hs' : ∀ i, sget s' i = if p i then none else (sget s i).map (omap (goneG p s))) :
    ∀ d v, leaf d = true → RV w A s β d v → RV w (goneA p s β A) s' β (goneG p s d) v := by
  have hA : ∀ b, A b → goneA p s β A b := fun b hb => .inl hb
  intro d v hl hd
  cases d with
  | agg _ => simp [leaf] at hl
  | tup _ => simp [leaf] at hl
  | fn _ _ _ => simp [leaf] at hl
  | ref j =>
    simp only [RV] at hd
    simp only [goneG]
    by_cases hp : p j = true
    · simp only [hp, if_true]
      split
      · rename_i t els ho
        have hv : v = β j := hd.2 (by simp [ho])
        subst hv
        simp only [RV]
        exact (h.obj j _ ho).freeze hA fun b hb => .inr ⟨j, t, els, hp, ho, hb⟩
      · simp only [RV]; exact hd.1
    · simp only [hp]
      simp only [Bool.false_eq_true, if_false, RV]
      refine ⟨hd.1, fun hq => hd.2 ?_⟩
      rw [hs' j] at hq
      simp only [hp, Bool.false_eq_true, if_false] at hq
      simpa using hq
  | ptr j i sz off =>
    simp only [RV] at hd
    simp only [goneG]
    by_cases hp : p j = true
    · simp only [hp, if_true, RV]; exact hd.1
    · simp only [hp]
      simp only [Bool.false_eq_true, if_false, RV]
      refine ⟨hd.1, fun o ho => ?_⟩
      rw [hs' j] at ho
      simp only [hp, Bool.false_eq_true, if_false, Option.map_eq_some_iff] at ho
      obtain ⟨o1, ho1, rfl⟩ := ho
      obtain ⟨b, h1, h2, h3⟩ := hd.2 o1 ho1
      exact ⟨b, h1, h2, by cases o1 <;> simpa [omap] using h3⟩
  | own _ _ => simp [RV] at hd
  | iptr cells =>
    refine RV.mono hA (fun _ _ => rfl) (.iptr cells) v (fun i hi => by simp [Ids] at hi) hd
  | imm els => exact RV.mono hA (fun _ _ => rfl) (.imm els) v (fun i hi => by simp [Ids] at hi) hd
  | undef => exact RV.mono hA (fun _ _ => rfl) .undef v (fun i hi => by simp [Ids] at hi) hd
  | gone => exact RV.mono hA (fun _ _ => rfl) .gone v (fun i hi => by simp [Ids] at hi) hd
  | int k n => exact RV.mono hA (fun _ _ => rfl) (.int k n) v (fun i hi => by simp [Ids] at hi) hd
  | bool b => exact RV.mono hA (fun _ _ => rfl) (.bool b) v (fun i hi => by simp [Ids] at hi) hd
  | tt => exact RV.mono hA (fun _ _ => rfl) .tt v (fun i hi => by simp [Ids] at hi) hd
  | ff => exact RV.mono hA (fun _ _ => rfl) .ff v (fun i hi => by simp [Ids] at hi) hd
  | str b => exact RV.mono hA (fun _ _ => rfl) (.str b) v (fun i hi => by simp [Ids] at hi) hd
  | nils => exact RV.mono hA (fun _ _ => rfl) .nils v (fun i hi => by simp [Ids] at hi) hd
  | nilp => exact RV.mono hA (fun _ _ => rfl) .nilp v (fun i hi => by simp [Ids] at hi) hd
  | nili => exact RV.mono hA (fun _ _ => rfl) .nili v (fun i hi => by simp [Ids] at hi) hd

theorem Rel.gone (h : Rel T w0 A0 Ω0 w A s β e a) (p : Id → Bool) (s' : Sto) (hs' : ∀ i, sget s' i = if p i then none else (sget s i).map (omap (goneG p s))) :
    Rel T w0 A0 Ω0 w (goneA p s β A) s' β (lmapL (goneG p s) e) a := by
  have hA : ∀ b, A b → goneA p s β A b := fun b hb => .inl hb
  have hl := goneG_leaf h p s' hs'
  have hk : ∀ i, (sget s' i).isSome = true → p i = false ∧ (sget s i).isSome = true := by
    intro i hi
    rw [hs' i] at hi
    by_cases hp : p i = true
    · simp [hp] at hi
    · simp only [hp, Bool.false_eq_true, if_false] at hi
      exact ⟨by simpa using hp, by simpa using hi⟩
  have hnA : ∀ i b, (sget s' i).isSome = true → blk (β i) = some b → ¬ A b → ¬ goneA p s β A b := by
    rintro i b hi hb hn (hb' | ⟨j, t, els, hp, ho, hbj⟩)
    · exact hn hb'
    · have := h.inj i j b (hk i hi).2 (by simp [ho]) hb hbj
      subst this
      rw [(hk i hi).1] at hp
      cases hp
  refine ⟨h.defers, RVL.lmap hl _ _ h.env, ?_, fun i j b hi hj => h.inj i j b (hk i hi).2 (hk j hj).2, fun i b hi => h.fresh i b (hk i hi).2, ?_, fun b hb => hA b (h.sub b hb), ?_, h.frame, h.size, h.os, h.tape, h.output, h.base, fun j hj => h.pin j (hk _ hj).2⟩
  · intro id o ho
    have hsome : (sget s' id).isSome = true := by simp [ho]
    rw [hs' id] at ho
    simp only [(hk id hsome).1, Bool.false_eq_true, if_false, Option.map_eq_some_iff] at ho
    obtain ⟨o1, ho1, rfl⟩ := ho
    have hr := h.obj id o1 ho1
    cases o1 with
    | box cells =>
      obtain ⟨b, cur, t, h1, h2, h3, h4⟩ := hr
      exact ⟨b, cur, t, h1, h2, hnA id b hsome (by rw [h1]; rfl) h3, RVL.lmap hl _ _ h4⟩
    | row t els =>
      obtain ⟨xs, hp, h1, h2, h3, h4⟩ := hr
      exact ⟨xs, hp, h1, h2, RILL.mono hA (fun _ _ => rfl) _ _ h3, fun b hb => hnA id b hsome hb (h4 b hb)⟩
  · rintro b (hb | ⟨j, t, els, hp, ho, hbj⟩)
    · exact h.lt b hb
    · exact ((h.obj j _ ho).lt hbj).1
  · rintro b (hb | ⟨j, t, els, hp, ho, hbj⟩)
    · exact h.sup b hb
    · rcases h.fresh j b (by simp [ho]) hbj with h1 | h1
      · exact .inr (.inr h1)
      · exact .inr (.inl h1)

theorem lmapL_congr {g g' : D → D} (h : g = g') (l : List D) : lmapL g l = lmapL g' l := by rw [h]

theorem Rel.frz1 (h : Rel T w0 A0 Ω0 w A s β e a) (id : Id) : ∃ A', (∀ b, A b → A' b) ∧ Rel T w0 A0 Ω0 w A' (frz1 id e s).2 β (frz1 id e s).1 a ∧ ∀ t els b, sget s id = some (.row t els) → blk (β id) = some b → A' b := by
  unfold DW.frz1
  split
  · rename_i t els ho
    have hg : frzG id els = goneG (fun j => ideq j id) s := by
      funext d
      cases d <;> simp only [frzG, goneG]
      · rename_i j
        by_cases hj : ideq j id = true
        · simp only [hj, if_true]
          rw [ideq_iff] at hj
          subst hj
          simp [ho]
        · simp only [Bool.not_eq_true] at hj
          simp [hj]
      · rename_i j i sz off
        by_cases hj : ideq j id = true
        · simp [hj]
        · simp only [Bool.not_eq_true] at hj
          simp [hj]
    refine ⟨goneA (fun j => ideq j id) s β A, fun b hb => .inl hb, ?_, fun t els b hr hb => .inr ⟨id, t, els, (ideq_iff id id).2 rfl, hr, hb⟩⟩
    rw [hg]
    refine h.gone _ _ fun i => ?_
    rw [sget_smap, sget_sdel]
    by_cases hi : id = i
    · subst hi; simp [(ideq_iff id id).2 rfl]
    · have : ideq i id = false := by rw [ideq_false]; exact fun e => hi e.symm
      simp [hi, this]
  · rename_i hno
    exact ⟨A, fun _ h => h, h, fun t els b hr _ => absurd hr (by intro hr; exact hno t els hr)⟩

theorem frz1_row {id i : Id} {t : TypeId} {els : List (List D)} (hi : i ≠ id) (h : sget s i = some (.row t els)) : sget (DW.frz1 id e s).2 i = some (.row t els) := by
  unfold DW.frz1
  split
  · rw [sget_smap, sget_sdel, if_neg (fun e => hi e.symm), h]; rfl
  · exact h

theorem Rel.frz (ids : List Id) : ∀ {A : Nat → Prop} {s : Sto} {e : Env}, Rel T w0 A0 Ω0 w A s β e a → ∃ A', (∀ b, A b → A' b) ∧ Rel T w0 A0 Ω0 w A' (frz ids e s).2 β (frz ids e s).1 a ∧ ∀ i ∈ ids, ∀ t els b, sget s i = some (.row t els) → blk (β i) = some b → A' b := by
  induction ids with
  | nil => exact fun h => ⟨_, fun _ h => h, h, fun i hi => by cases hi⟩
  | cons id r ih =>
    intro A s e h
    obtain ⟨A1, h1, h2, h5⟩ := h.frz1 id
    obtain ⟨A2, h3, h4, h6⟩ := ih h2
    refine ⟨A2, fun b hb => h3 b (h1 b hb), h4, fun i hi t els b hr hb => ?_⟩
    by_cases hii : i = id
    · subst hii
      exact h3 b (h5 t els b hr hb)
    · rcases List.mem_cons.1 hi with rfl | hi
      · exact absurd rfl hii
      · exact h6 i hi t els b (frz1_row hii hr) hb

theorem frz1_sub {id i : Id} {o' : O} (h : sget (DW.frz1 id e s).2 i = some o') : ∃ o, sget s i = some o ∧ SameKind o o' := by
  unfold DW.frz1 at h
  split at h
  · rw [sget_smap, sget_sdel] at h
    split at h
    · cases h
    · simp only [Option.map_eq_some_iff] at h
      obtain ⟨o, ho, rfl⟩ := h
      exact ⟨o, ho, by cases o <;> simp [omap, SameKind]⟩
  · exact ⟨o', h, .refl o'⟩
theorem frz_sub (ids : List Id) : ∀ {s : Sto} {e : Env} {i : Id} {o' : O}, sget (DW.frz ids e s).2 i = some o' → ∃ o, sget s i = some o ∧ SameKind o o' := by
  induction ids with
  | nil => exact fun {s e i o'} h => ⟨o', h, .refl o'⟩
  | cons id r ih =>
    intro s e i o' h
    obtain ⟨o1, h1, h2⟩ := ih h
    obtain ⟨o, h3, h4⟩ := frz1_sub h1
    exact ⟨o, h3, by cases o <;> cases o1 <;> cases o' <;> simp_all [SameKind]⟩
theorem frz_box (ids : List Id) : ∀ {s : Sto} {e : Env} {i : Id} {c : List D}, sget s i = some (.box c) → ∃ c', sget (DW.frz ids e s).2 i = some (.box c') := by
  induction ids with
  | nil => exact fun {s e i c} h => ⟨c, h⟩
  | cons id r ih =>
    intro s e i c h
    have : ∃ c', sget (DW.frz1 id e s).2 i = some (.box c') := by
      unfold DW.frz1
      split
      · rename_i t els hr
        by_cases hi : id = i
        · subst hi; rw [h] at hr; cases hr
        · exact ⟨_, by rw [sget_smap, sget_sdel, if_neg hi, h]; rfl⟩
      · exact ⟨c, h⟩
    obtain ⟨c', hc'⟩ := this
    exact ih hc'
theorem clean_box {d : Nat} {i : Id} {c : List D} (hi : i.1 ≠ d) (h : sget s i = some (.box c)) : ∃ c', sget (DW.clean d e s).2 i = some (.box c') := by
  exact ⟨_, by rw [DW.clean, sget_smap, sget_sdelAt, if_neg hi, h]; rfl⟩

theorem Rel.clean (h : Rel T w0 A0 Ω0 w A s β e a) (d : Nat) : ∃ A', (∀ b, A b → A' b) ∧ Rel T w0 A0 Ω0 w A' (clean d e s).2 β (clean d e s).1 a := by
  unfold DW.clean
  have hg : cleanG s d = goneG (fun j => Nat.beq j.1 d) s := by
    funext x
    cases x <;> simp only [cleanG, goneG]
    · rename_i j
      by_cases hj : Nat.beq j.1 d = true
      · simp only [hj, if_true]
        all_goals (cases sget s j with
        | none => rfl
        | some o => cases o <;> rfl)
      · simp only [Bool.not_eq_true] at hj
        simp [hj]
    · rename_i j i sz off
      by_cases hj : Nat.beq j.1 d = true
      · simp [hj]
      · simp only [Bool.not_eq_true] at hj
        simp [hj]
  refine ⟨goneA (fun j => Nat.beq j.1 d) s β A, fun b hb => .inl hb, ?_⟩
  rw [hg]
  refine h.gone _ _ fun i => ?_
  rw [sget_smap, sget_sdelAt]
  by_cases hi : i.1 = d
  · simp [hi]
  · have : Nat.beq i.1 d = false := by
      cases hb : Nat.beq i.1 d
      · rfl
      · exact absurd (by simpa using hb) hi
    simp [hi, this]
end
end Go.DW

/- Steps of the state: memory grows, an object is made, changed, taken away; a slot is written. -/
namespace Go.DW
open Go

theorem Agrees.refl (s : Sto) (β : Id → Value) (i : Id) : Agrees s s β β i := by
  intro o ho
  exact ⟨o, ho, rfl, .refl o⟩

theorem RO.mono {T : TT} {w w' : World} {A A' : Nat → Prop} {s s' : Sto} {β β' : Id → Value} {id : Id} {o : O} (h : RO T w A s β id o)
    (hA : ∀ b, A b → A' b) (hw : ∀ b, A b → w'.heap[b]? = w.heap[b]?) (hβ : β' id = β id) (hb : ∀ b, blk (β id) = some b → w'.heap[b]? = w.heap[b]? ∧ ¬ A' b)
    (hi : ∀ cells, o = .box cells → ∀ i, IdsL cells i → Agrees s s' β β' i) : RO T w' A' s' β' id o := by
  cases o with
  | box cells =>
    obtain ⟨b, cur, t, h1, h2, h3, h4⟩ := h
    have hb' := hb b (by rw [h1]; rfl)
    exact ⟨b, cur, t, by rw [hβ]; exact h1, by rw [hb'.1]; exact h2, hb'.2, RVL.mono hA hw _ _ (hi cells rfl) h4⟩
  | row e els =>
    obtain ⟨xs, hp, h1, h2, h3, h4⟩ := h
    refine ⟨xs, hp, ?_, h2, RILL.mono hA hw _ _ h3, fun b hbb => (hb b (by rw [← hβ]; exact hbb)).2⟩
    rw [hβ]
    refine ⟨h1.1, h1.2.imp (fun h => h) ?_⟩
    rintro ⟨g, cap, cur, hv, hz, hg, r⟩
    exact ⟨g, cap, cur, hv, hz, by rw [(hb g (by rw [hv]; rfl)).1]; exact hg, r⟩

theorem RVL.set {w : World} {A : Nat → Prop} {s : Sto} {β : Id → Value} {d : D} {v : Value} (hd : RV w A s β d v) : ∀ {e : List D} {us : List Value} (i : Nat), RVL w A s β e us → RVL w A s β (setAt e i d) (us.set i v)
  | [], us, i, h => by simp [RVL] at h; simp [h, setAt, RVL]
  | x :: r, us, 0, h => by
    simp only [RVL] at h
    obtain ⟨u, us', rfl, _, h2⟩ := h
    simp only [setAt, List.set_cons_zero, RVL]
    exact ⟨v, us', rfl, hd, h2⟩
  | x :: r, us, i + 1, h => by
    simp only [RVL] at h
    obtain ⟨u, us', rfl, h1, h2⟩ := h
    simp only [setAt, List.set_cons_succ, RVL]
    exact ⟨u, _, rfl, h1, RVL.set hd i h2⟩

theorem RVL.get {w : World} {A : Nat → Prop} {s : Sto} {β : Id → Value} : ∀ {e : List D} {us : List Value} (i : Nat), RVL w A s β e us → RV w A s β (getAt e i) (us.getD i undef)
  | [], us, i, h => by simp [getAt, RV]
  | x :: r, us, 0, h => by
    simp only [RVL] at h
    obtain ⟨u, us', rfl, h1, h2⟩ := h
    simpa [getAt] using h1
  | x :: r, us, i + 1, h => by
    simp only [RVL] at h
    obtain ⟨u, us', rfl, h1, h2⟩ := h
    simpa [getAt] using RVL.get i h2

section
variable {T : TT} {w0 : World} {A0 : Nat → Prop} {Ω0 : List Nat} {w : World} {A : Nat → Prop} {s : Sto} {β : Id → Value} {e : Env} {a : Act}

theorem Rel.put (h : Rel T w0 A0 Ω0 w A s β e a) {d : D} {v : Value} (dst : Option Nat) (hd : RV w A s β d v) : Rel T w0 A0 Ω0 w A s β (put e dst d) (a.put dst v) := by
  cases dst with
  | none => exact h
  | some i => exact { h with env := by simpa [DW.put, Act.put] using RVL.set hd i h.env, defers := h.defers }

/-- memory grows; what is read and what is owned stays as it is -/
theorem Rel.grow (h : Rel T w0 A0 Ω0 w A s β e a) {w' : World} {row : Option Nat} (hg : w.grownBy w' row)
    (hrow : ∀ b, row = some b → ¬ A b ∧ (∀ i, (sget s i).isSome = true → blk (β i) ≠ some b) ∧ (b ∈ Ω0 ∨ w0.heap.size ≤ b)) : Rel T w0 A0 Ω0 w' A s β e a := by
  have hA : ∀ b, A b → w'.heap[b]? = w.heap[b]? := fun b hb => hg.block b (h.lt b hb) (fun hr => (hrow b hr.symm).1 hb)
  refine ⟨h.defers, RVL.mono (fun _ h => h) hA _ _ (fun i _ => Agrees.refl s β i) h.env, ?_, h.inj, h.fresh, fun b hb => Nat.lt_of_lt_of_le (h.lt b hb) hg.size, h.sub, h.sup, ?_, Nat.le_trans h.size hg.size, hg.os.trans h.os, hg.tape.trans h.tape, hg.output.trans h.output, h.base, h.pin⟩
  · intro id o ho
    have hr := h.obj id o ho
    refine hr.mono (fun _ h => h) hA rfl (fun b hb => ⟨?_, (hr.lt hb).2⟩) (fun _ _ i _ => Agrees.refl s β i)
    exact hg.block b (hr.lt hb).1 (fun hr' => (hrow b hr'.symm).2.1 id (by simp [ho]) hb)
  · intro b hb hn
    rw [hg.block b (Nat.lt_of_lt_of_le hb h.size) (fun hr => by
      rcases (hrow b hr.symm).2.2 with h1 | h1
      · exact hn h1
      · omega)]
    exact h.frame b hb hn

theorem Rel.dels (h : Rel T w0 A0 Ω0 w A s β e a) (l : List Id) : Rel T w0 A0 Ω0 w A (sdels s l) β e a := by
  have hag : ∀ i, Agrees s (sdels s l) β β i := by
    intro i o ho
    rw [sget_sdels] at ho
    split at ho
    · cases ho
    · exact Agrees.refl s β i o ho
  have hs : ∀ i, (sget (sdels s l) i).isSome = true → (sget s i).isSome = true := by
    intro i hi
    rw [sget_sdels] at hi
    split at hi
    · cases hi
    · exact hi
  refine { h with env := RVL.mono (fun _ h => h) (fun _ _ => rfl) _ _ (fun i _ => hag i) h.env, obj := ?_, inj := fun i j b hi hj => h.inj i j b (hs i hi) (hs j hj), fresh := fun i b hi => h.fresh i b (hs i hi), pin := fun j hj => h.pin j (hs _ hj) }
  intro id o ho
  have ho' : sget s id = some o := by
    rw [sget_sdels] at ho
    split at ho
    · cases ho
    · exact ho
  have hr := h.obj id o ho'
  exact hr.mono (fun _ h => h) (fun _ _ => rfl) rfl (fun b hb => ⟨rfl, (hr.lt hb).2⟩) (fun _ _ i _ => hag i)

/-- nothing names the number -/
def Free (i : Id) (e : Env) (s : Sto) : Prop := (sget s i = none ∧ i.1 ≠ far) ∧ ¬ IdsL e i ∧ ∀ j cells, sget s j = some (.box cells) → ¬ IdsL cells i

/-- an object is made -/
theorem Rel.add (h : Rel T w0 A0 Ω0 w A s β e a) {i : Id} {o : O} {v : Value} (hf : Free i e s)
    (ho : RO T w A ((i, o) :: s) (fun j => if j = i then v else β j) i o)
    (hb : ∀ b, blk v = some b → (b ∈ Ω0 ∨ w0.heap.size ≤ b) ∧ ∀ j, (sget s j).isSome = true → blk (β j) ≠ some b) :
    Rel T w0 A0 Ω0 w A ((i, o) :: s) (fun j => if j = i then v else β j) e a := by
  have hag : ∀ j, j ≠ i → Agrees s ((i, o) :: s) β (fun j => if j = i then v else β j) j := by
    intro j hj o' ho'
    rw [sget_cons, if_neg (fun e => hj e.symm)] at ho'
    exact ⟨o', ho', by simp [hj], .refl o'⟩
  have hcase : ∀ j, (sget ((i, o) :: s) j).isSome = true → j = i ∨ (j ≠ i ∧ (sget s j).isSome = true) := by
    intro j hj
    by_cases hji : j = i
    · exact .inl hji
    · rw [sget_cons, if_neg (fun e => hji e.symm)] at hj
      exact .inr ⟨hji, hj⟩
  refine { h with env := RVL.mono (fun _ h => h) (fun _ _ => rfl) _ _ (fun j hj => hag j (fun e => hf.2.1 (e ▸ hj))) h.env, obj := ?_, inj := ?_, fresh := ?_, pin := ?_ }
  · intro j o' ho'
    by_cases hji : j = i
    · subst hji
      rw [sget_cons, if_pos rfl] at ho'
      cases ho'
      exact ho
    · rw [sget_cons, if_neg (fun e => hji e.symm)] at ho'
      have hr := h.obj j o' ho'
      refine hr.mono (fun _ h => h) (fun _ _ => rfl) (by simp [hji]) (fun b hb' => ⟨rfl, (hr.lt hb').2⟩) ?_
      rintro cells rfl k hk
      exact hag k (fun e => hf.2.2 j cells ho' (e ▸ hk))
  · intro j k b hj hk hbj hbk
    rcases hcase j hj with rfl | ⟨hj1, hj2⟩ <;> rcases hcase k hk with rfl | ⟨hk1, hk2⟩
    · rfl
    · simp only [if_true] at hbj
      simp only [hk1, if_false] at hbk
      exact absurd hbk ((hb b hbj).2 k hk2)
    · simp only [if_true] at hbk
      simp only [hj1, if_false] at hbj
      exact absurd hbj ((hb b hbk).2 j hj2)
    · simp only [hj1, hk1, if_false] at hbj hbk
      exact h.inj j k b hj2 hk2 hbj hbk
  · intro j b hj hbj
    rcases hcase j hj with rfl | ⟨hj1, hj2⟩
    · simp only [if_true] at hbj
      exact (hb b hbj).1
    · simp only [hj1, if_false] at hbj
      exact h.fresh j b hj2 hbj
  · intro j hj
    rcases hcase (far, j) hj with h1 | ⟨h1, h2⟩
    · exact absurd (by rw [← h1]) hf.1.2
    · simp only [h1, if_false]
      exact h.pin j h2

/-- an object is changed in its place -/
theorem Rel.upd (h : Rel T w0 A0 Ω0 w A s β e a) {i : Id} {o o' : O} (hi : sget s i = some o) (hk : SameKind o o') {w' : World} {row : Option Nat} (hg : w.grownBy w' row)
    (hrow : ∀ b, row = some b → blk (β i) = some b)
    (ho : ∀ s', (∀ j, Agrees s s' β β j) → RO T w' A s' β i o') : Rel T w0 A0 Ω0 w' A ((i, o') :: sdels s [i]) β e a := by
  have hsg : ∀ j, sget ((i, o') :: sdels s [i]) j = if j = i then some o' else sget s j := by
    intro j
    rw [sget_cons, sget_sdels]
    by_cases hj : j = i
    · simp [hj]
    · simp [hj, Ne.symm hj]
  have hag : ∀ j, Agrees s ((i, o') :: sdels s [i]) β β j := by
    intro j q hq
    rw [hsg j] at hq
    by_cases hj : j = i
    · subst hj
      simp only [if_true] at hq
      cases hq
      exact ⟨o, hi, rfl, hk⟩
    · rw [if_neg hj] at hq
      exact Agrees.refl s β j q hq
  have hs : ∀ j, (sget ((i, o') :: sdels s [i]) j).isSome = true → (sget s j).isSome = true := by
    intro j hj
    rw [hsg j] at hj
    by_cases hji : j = i
    · subst hji; simp [hi]
    · simpa [hji] using hj
  have hro := h.obj i o hi
  have hA : ∀ b, A b → w'.heap[b]? = w.heap[b]? := fun b hb => hg.block b (h.lt b hb) (fun hr => (hro.lt (hrow b hr.symm)).2 hb)
  refine ⟨h.defers, RVL.mono (fun _ h => h) hA _ _ (fun j _ => hag j) h.env, ?_, fun j k b hj hk => h.inj j k b (hs j hj) (hs k hk), fun j b hj => h.fresh j b (hs j hj), fun b hb => Nat.lt_of_lt_of_le (h.lt b hb) hg.size, h.sub, h.sup, ?_, Nat.le_trans h.size hg.size, hg.os.trans h.os, hg.tape.trans h.tape, hg.output.trans h.output, h.base, fun j hj => h.pin j (hs _ hj)⟩
  · intro j q hq
    by_cases hji : j = i
    · subst hji
      rw [hsg j, if_pos rfl] at hq
      cases hq
      exact ho _ hag
    · rw [hsg j, if_neg hji] at hq
      have hr := h.obj j q hq
      refine hr.mono (fun _ h => h) hA rfl (fun b hb => ⟨?_, (hr.lt hb).2⟩) (fun _ _ k _ => hag k)
      exact hg.block b (hr.lt hb).1 (fun hr' => hji (h.inj j i b (by simp [hq]) (by simp [hi]) hb (hrow b hr'.symm)))
  · intro b hb hn
    rw [hg.block b (Nat.lt_of_lt_of_le hb h.size) (fun hr => by
      rcases h.fresh i b (by simp [hi]) (hrow b hr.symm) with h1 | h1
      · exact hn h1
      · omega)]
    exact h.frame b hb hn
end
end Go.DW

/- The table of types against the program; operands; what an operation's run is to leave. -/
namespace Go.DW
open Go

def zeroIs : D → Value → Bool
  | .int k n, .int k' n' => k == k' && n == n'
  | .ff, .bool false => true
  | .str s, .string s' => s.size == 0 && s'.size == 0
  | .nils, .slice none 0 0 => true
  | .nilp, .pointer none => true
  | .nili, .nilIface => true
  | _, _ => false
def zerosAre : List D → List Value → Bool
  | [], [] => true
  | d :: r, v :: q => zeroIs d v && zerosAre r q
  | _, _ => false
def goodEl (l : List (Nat × TI)) (e : TypeId) : Bool := (look l e).k.known && Nat.ble 1 (look l e).size && Nat.ble 1 (look l e).bytes
def descIs (l : List (Nat × TI)) : TK → TypeDesc → Bool
  | .int k, .int k' => k == k'
  | .bool, .bool => true
  | .str, .string => true
  | .slice e, .slice e' => e == e' && goodEl l e
  | .struct fs, .struct fields => fields.toList.map (fun f => (f.offset, f.type)) == fs && fs.all fun p => goodEl l p.2
  | .array n e, .array n' e' => n == n' && e == e' && goodEl l e
  | .ptr e, .pointer e' => e == e'
  | .fn, .func .. => true
  | _, _ => false
def tiOk (P : Program) (l : List (Nat × TI)) (t : Nat) (i : TI) : Bool :=
  match P.info? t, P.underlying t with
  | some info, some d => info.size == i.size && info.bytes == i.bytes && (match info.zero with | some z => zerosAre i.zero z.cells.toList | none => false) && descIs l i.k d && (i.k.agg || i.size == 1) && Nat.beq i.zero.length i.size
  | _, _ => false
def tabOk (P : Program) (l : List (Nat × TI)) : Bool := l.all fun x => tiOk P l x.1 x.2

def DescIs (T : TT) : TK → TypeDesc → Prop
  | .int k, d => d = .int k
  | .bool, d => d = .bool
  | .str, d => d = .string
  | .slice e, d => d = .slice e ∧ (T e).k.known = true ∧ 0 < (T e).size ∧ 0 < (T e).bytes
  | .struct fs, d => ∃ fields, d = .struct fields ∧ fields.toList.map (fun f => (f.offset, f.type)) = fs ∧ ∀ p ∈ fs, (T p.2).k.known = true ∧ 0 < (T p.2).size ∧ 0 < (T p.2).bytes
  | .array n e, d => d = .array n e ∧ (T e).k.known = true ∧ 0 < (T e).size ∧ 0 < (T e).bytes
  | .ptr e, d => d = .pointer e
  | .fn, d => ∃ a b c, d = .func a b c
  | .oth, _ => False

structure TRow (P : Program) (T : TT) (t : TypeId) (i : TypeInfo) (z : Value) (d : TypeDesc) : Prop where
  info : P.info? t = some i
  under : P.underlying t = some d
  size : i.size = (T t).size
  bytes : i.bytes = (T t).bytes
  zero : i.zero = some z
  zeros : zerosAre (T t).zero z.cells.toList = true
  desc : DescIs T (T t).k d
  one : (T t).k.agg = false → (T t).size = 1
  zlen : (T t).zero.length = (T t).size

structure TOk (P : Program) (T : TT) : Prop where
  row : ∀ t, (T t).k.known = true → ∃ i z d, TRow P T t i z d

theorem look_mem (l : List (Nat × TI)) (t : Nat) (h : (look l t).k.known = true) : (t, look l t) ∈ l := by
  induction l with
  | nil => simp [look, TK.known] at h
  | cons x r ih =>
    obtain ⟨a, i⟩ := x
    by_cases ha : Nat.beq a t = true
    · have : a = t := by simpa using ha
      subst this
      simp [look]
    · simp only [Bool.not_eq_true] at ha
      simp only [look, ha] at h ⊢
      exact List.mem_cons_of_mem _ (ih h)

theorem TOk.of_tab {P : Program} {l : List (Nat × TI)} (h : tabOk P l = true) : TOk P (look l) := by
  refine ⟨fun t ht => ?_⟩
  have hm := look_mem l t ht
  have hk := (List.all_eq_true.1 h) _ hm
  simp only [tiOk] at hk
  split at hk
  · rename_i info d hi hd
    simp only [Bool.and_eq_true, Bool.or_eq_true] at hk
    obtain ⟨⟨⟨⟨⟨h1, h2⟩, h3⟩, h4⟩, h5⟩, h6⟩ := hk
    cases hz : info.zero with
    | none => simp [hz] at h3
    | some z =>
      simp only [hz] at h3
      have hg : ∀ e, goodEl l e = true → (look l e).k.known = true ∧ 0 < (look l e).size ∧ 0 < (look l e).bytes := by
        intro e he
        simp only [goodEl, Bool.and_eq_true] at he
        exact ⟨he.1.1, Nat.le_of_ble_eq_true he.1.2, Nat.le_of_ble_eq_true he.2⟩
      refine ⟨info, z, d, hi, hd, by simpa using h1, by simpa using h2, hz, h3, ?_, fun ha => ?_, by simpa using h6⟩
      · generalize (look l t).k = k at h4 ht
        cases k <;> cases d <;> simp_all [descIs, DescIs, TK.known]
        · obtain ⟨rfl, h4⟩ := h4; exact hg _ h4
        · obtain ⟨rfl, h4⟩ := h4; exact fun a b hm => hg _ (h4 a b hm)
        · obtain ⟨⟨rfl, rfl⟩, h4⟩ := h4; exact hg _ h4
      · rcases h5 with h5 | h5
        · rw [ha] at h5; cases h5
        · simpa using h5
  · cases hk

theorem zeroIs_ri (w : World) (A : Nat → Prop) {d : D} {v : Value} (h : zeroIs d v = true) : RI w A d v := by
  unfold zeroIs at h
  split at h
  · simp only [Bool.and_eq_true, beq_iff_eq] at h
    simp [RI, h.1, h.2]
  · simp [RI]
  · rename_i s s'
    simp only [Bool.and_eq_true, beq_iff_eq] at h
    obtain ⟨h1, h2⟩ := h
    have e : s' = s := by
      cases s with | mk s => cases s' with | mk s' =>
      simp only [ByteArray.size] at h1 h2
      rw [Array.eq_empty_of_size_eq_zero h1, Array.eq_empty_of_size_eq_zero h2]
    simp [RI, e]
  · simp [RI]
  · simp [RI]
  · simp [RI]
  · cases h

theorem zerosAre_ril (w : World) (A : Nat → Prop) : ∀ {l : List D} {us : List Value}, zerosAre l us = true → RIL w A l us
  | [], [], _ => by simp [RIL]
  | d :: r, v :: q, h => by
    simp only [zerosAre, Bool.and_eq_true] at h
    simp only [RIL]
    exact ⟨v, q, rfl, zeroIs_ri w A h.1, zerosAre_ril w A h.2⟩
  | [], _ :: _, h => by simp [zerosAre] at h
  | _ :: _, [], h => by simp [zerosAre] at h

/-- the package's variables, when the call begins -/
def GOk (G : Nat → Option (List D)) (w0 : World) (A0 : Nat → Prop) : Prop :=
  ∀ g cells, G g = some cells → ∃ us, A0 g ∧ w0.rangeAt g 0 us ∧ RIL w0 A0 cells us

section
variable {P : Program} {T : TT} {G : Nat → Option (List D)} {w0 : World} {A0 : Nat → Prop} {Ω0 : List Nat} {w : World} {A : Nat → Prop} {s : Sto} {β : Id → Value} {e : Env} {a : Act}

theorem Rel.old (h : Rel T w0 A0 Ω0 w A s β e a) (b : Nat) (hb : A0 b) : w.heap[b]? = w0.heap[b]? := h.frame b (h.base b hb).1 (h.base b hb).2

theorem opnd_rv (hG : GOk G w0 A0) (h : Rel T w0 A0 Ω0 w A s β e a) (x : Operand) : RV w A s β (opnd G e x) (a.eval x) := by
  cases x with
  | tmp t =>
    have := RVL.get t h.env
    simpa [opnd, Act.eval, Array.getD_eq_getD_getElem?, List.getD_eq_getElem?_getD] using this
  | const v =>
    simp only [opnd, Act.eval]
    unfold ofConst
    split <;> simp [RV]
  | global g =>
    simp only [opnd, Act.eval]
    split
    · rename_i cs hc
      obtain ⟨us, h1, h2, h3⟩ := hG g cs hc
      simp only [RV]
      exact ⟨g, 0, us, rfl, h.sub g h1, rangeAt_mono h.old h1 h2, RIL.mono h.sub h.old _ _ h3⟩
    · simp [RV]
  | func f =>
    simp only [opnd, Act.eval, RV]
    exact ⟨#[], #[], rfl, by simp [RVL], by simp [RVL]⟩

/-- the operation's run, and the activation behind it -/
def Runs (P : Program) (o : Oper) (a : Act) (w : World) (a' : Act) (w' : World) : Prop :=
  (∃ v, (execOp a.eval o).run P w = .ok (.value v) w' ∧ a' = a.put o.dst v) ∨ ((execOp a.eval o).run P w = .ok .skip w' ∧ a' = a.put o.dst undef)

theorem Runs.wp {o : Oper} {a' : Act} {w' : World} {next : Act → World → Prop} {Q : Exit → Act → World → Prop} (h : Runs P o a w a' w') (hn : next a' w') : o.wp P a w next Q := by
  unfold Oper.wp
  rcases h with ⟨v, hr, rfl⟩ | ⟨hr, rfl⟩
  · rw [hr]; exact hn
  · rw [hr]; exact hn

/-- what is to be shown of an operation -/
def Out (P : Program) (T : TT) (w0 : World) (A0 : Nat → Prop) (Ω0 : List Nat) (o : Oper) (e : Env) (s : Sto) (w : World) (a : Act) (K : Rec → Prop) : Prop :=
  ∃ R a' w' A' β', K R ∧ Runs P o a w a' w' ∧ Rel T w0 A0 Ω0 w' A' (R.new ++ sdels s R.del) β' (put e o.dst R.v) a'

theorem Out.val {o : Oper} {K : Rec → Prop} {d : D} {acc : List Id} {v : Value} (hK : K ⟨d, acc, [], []⟩) (h : Rel T w0 A0 Ω0 w A s β e a)
    (hrun : (execOp a.eval o).run P w = .ok (.value v) w) (hv : RV w A s β d v) : Out P T w0 A0 Ω0 o e s w a K :=
  ⟨_, _, _, A, β, hK, .inl ⟨v, hrun, rfl⟩, by simpa [sdels] using h.put o.dst hv⟩
end

theorem nthF_eq (fs : List (Nat × TypeId)) (i : Nat) : nthF fs i = fs[i]? := by
  induction fs generalizing i with
  | nil => simp [nthF]
  | cons q r ih => cases i <;> simp [nthF, ih]
theorem lenD_eq (l : List D) : lenD l = l.length := by induction l with | nil => rfl | cons d r ih => simp [lenD, ih]
theorem takeD_eq (n : Nat) (l : List D) : takeD n l = l.take n := by
  induction l generalizing n with
  | nil => cases n <;> simp [takeD]
  | cons d r ih => cases n <;> simp [takeD, ih]
theorem dropD_eq (n : Nat) (l : List D) : dropD n l = l.drop n := by
  induction l generalizing n with
  | nil => cases n <;> simp [dropD]
  | cons d r ih => cases n <;> simp [dropD, ih]
theorem setAt_eq (l : List D) (i : Nat) (d : D) : setAt l i d = l.set i d := by
  induction l generalizing i with
  | nil => simp [setAt]
  | cons x r ih => cases i <;> simp [setAt, ih]
theorem pack_some {agg : Bool} {sz : Nat} {cs : List D} {v : D} (h : pack agg sz cs = some v) : cs.length = sz ∧ ((agg = true ∧ v = .agg cs) ∨ (agg = false ∧ cs = [v])) := by
  unfold pack at h
  split at h
  · rename_i h1
    simp only [Option.some.injEq] at h
    rw [lenD_eq] at h1
    exact ⟨by simpa using h1, .inl ⟨rfl, h.symm⟩⟩
  · rename_i h1
    simp only [Option.some.injEq] at h
    rw [lenD_eq] at h1
    subst h
    exact ⟨by simpa using h1, .inr ⟨rfl, rfl⟩⟩
  · cases h
theorem kindEq_iff (a b : IntKind) : kindEq a b = true ↔ a = b := by cases a <;> cases b <;> simp [kindEq]
end Go.DW

/- Operations that only compute: their runs against the evaluator. -/
namespace Go.DW
open Go

section basics
variable {P : Program} {T : TT} {w : World} {A : Nat → Prop} {s : Sto} {β : Id → Value}

theorem TRow.agg {t : TypeId} {i : TypeInfo} {z : Value} {d : TypeDesc} (h : TRow P T t i z d) : (isAgg t).run P w = .ok (T t).k.agg w := by
  have hd := h.desc
  unfold isAgg
  rw [Sem.run_bind, run_underlying h.under w]
  cases hk : (T t).k <;> rw [hk] at hd <;> simp only [DescIs] at hd
  case slice e => rw [hd.1]; simp [TK.agg]
  case struct fs => obtain ⟨f, rfl, _⟩ := hd; simp [TK.agg]
  case array n e => rw [hd.1]; simp [TK.agg]
  case fn => obtain ⟨a, b, c, rfl⟩ := hd; simp [TK.agg]
  all_goals (try (rw [hd]; simp [TK.agg]))
theorem TRow.sizeOf {t : TypeId} {i : TypeInfo} {z : Value} {d : TypeDesc} (h : TRow P T t i z d) : (Go.sizeOf t).run P w = .ok (T t).size w := by
  simp [Go.sizeOf, typeInfo, h.info, h.size]
theorem TRow.zeroValue {t : TypeId} {i : TypeInfo} {z : Value} {d : TypeDesc} (h : TRow P T t i z d) : (Go.zeroValue t).run P w = .ok z w := by
  simp [Go.zeroValue, typeInfo, h.info, h.zero]

theorem RVL.take : ∀ {l : List D} {us : List Value} (n : Nat), RVL w A s β l us → RVL w A s β (l.take n) (us.take n)
  | [], us, n, h => by simp [RVL] at h; simp [h, RVL]
  | d :: r, us, 0, h => by simp [RVL]
  | d :: r, us, n + 1, h => by
    simp only [RVL] at h
    obtain ⟨u, us', rfl, h1, h2⟩ := h
    simp only [List.take_succ_cons, RVL]
    exact ⟨u, _, rfl, h1, RVL.take n h2⟩
theorem RVL.drop : ∀ {l : List D} {us : List Value} (n : Nat), RVL w A s β l us → RVL w A s β (l.drop n) (us.drop n)
  | [], us, n, h => by simp [RVL] at h; simp [h, RVL]
  | d :: r, us, 0, h => by simpa using h
  | d :: r, us, n + 1, h => by
    simp only [RVL] at h
    obtain ⟨u, us', rfl, h1, h2⟩ := h
    simpa using RVL.drop n h2
theorem RVL.append : ∀ {l : List D} {us : List Value} {l' : List D} {us' : List Value}, RVL w A s β l us → RVL w A s β l' us' → RVL w A s β (l ++ l') (us ++ us')
  | [], us, l', us', h, h' => by simp [RVL] at h; simpa [h] using h'
  | d :: r, us, l', us', h, h' => by
    simp only [RVL] at h
    obtain ⟨u, us1, rfl, h1, h2⟩ := h
    simp only [List.cons_append, RVL]
    exact ⟨u, _, rfl, h1, RVL.append h2 h'⟩

theorem RIL.take' : ∀ {l : List D} {us : List Value} (n : Nat), RIL w A l us → RIL w A (l.take n) (us.take n)
  | [], us, n, h => by simp [RIL] at h; simp [h, RIL]
  | d :: r, us, 0, h => by simp [RIL]
  | d :: r, us, n + 1, h => by
    simp only [RIL] at h
    obtain ⟨u, us', rfl, h1, h2⟩ := h
    simp only [List.take_succ_cons, RIL]
    exact ⟨u, _, rfl, h1, RIL.take' n h2⟩
theorem RIL.drop' : ∀ {l : List D} {us : List Value} (n : Nat), RIL w A l us → RIL w A (l.drop n) (us.drop n)
  | [], us, n, h => by simp [RIL] at h; simp [h, RIL]
  | d :: r, us, 0, h => by simpa using h
  | d :: r, us, n + 1, h => by
    simp only [RIL] at h
    obtain ⟨u, us', rfl, h1, h2⟩ := h
    simpa using RIL.drop' n h2

/-- a part of an aggregate -/
theorem run_part {t : TypeId} {i : TypeInfo} {z : Value} {d : TypeDesc} (h : TRow P T t i z d) {cs : Array Value} {cells : List D} {off : Nat} {v : D} (hr : RVL w A s β cells cs.toList)
    (hp : pack (T t).k.agg (T t).size (takeD (T t).size (dropD off cells)) = some v) : ∃ u, (part t cs off).run P w = .ok u w ∧ RV w A s β v u := by
  obtain ⟨hl, hp⟩ := pack_some hp
  rw [takeD_eq, dropD_eq] at *
  have hr' := RVL.take (T t).size (RVL.drop off hr)
  unfold part
  rw [Sem.run_bind, h.agg, Result.andThen_ok]
  rcases hp with ⟨ha, rfl⟩ | ⟨ha, hv⟩
  · refine ⟨.agg (cs.extract off (off + (T t).size)), by simp [ha, h.sizeOf], ?_⟩
    simp only [RV]
    refine ⟨_, rfl, ?_⟩
    have : (cs.extract off (off + (T t).size)).toList = (cs.toList.drop off).take (T t).size := by
      simp [Array.toList_extract, List.extract_eq_take_drop]
    rw [this]
    exact hr'
  · rw [hv] at hr'
    simp only [RVL] at hr'
    obtain ⟨u, us, he, h1, h2⟩ := hr'
    have hsz := h.one ha
    rw [hsz] at he
    have hu : cs[off]? = some u := by
      have : (cs.toList.drop off)[0]? = some u := by
        cases hd : cs.toList.drop off with
        | nil => rw [hd] at he; simp at he
        | cons x y => rw [hd] at he; simp at he; simp [he.1]
      simpa using this
    exact ⟨u, by simp [ha, hu], h1⟩

theorem packK_some {tk : TK} {sz : Nat} {cells : List D} {n : Nat} {K : D → Prop} (h : packK tk sz cells n K) : ∃ v, tk.known = true ∧ pack tk.agg sz (takeD sz cells) = some v ∧ K v := by
  unfold packK at h
  split at h
  · rename_i v hk hv; exact ⟨v, hk, hv, h⟩
  · exact h.h.elim
end basics

section ops
variable {P : Program} {T : TT} {G : Nat → Option (List D)} {w0 : World} {A0 : Nat → Prop} {Ω0 : List Nat} {w : World} {A : Nat → Prop} {s : Sto} {β : Id → Value} {e : Env} {a : Act}

theorem boolOf_rv {d : D} {b : Bool} {v : Value} (h : boolOf d = some b) (hv : RV w A s β d v) : v = .bool b := by
  cases d <;> simp_all [boolOf, RV]

theorem run_equal_bool {t : TypeId} {d : TypeDesc} (hu : P.underlying t = some d) (hd : d = .bool) (p q : Bool) : (Op.equal t (.bool p) (.bool q)).run P w = .ok (p == q) w := by
  subst hd
  have he : ∀ n, (Op.equalIn (n + 1) t (.bool p) (.bool q)).run P w = .ok (p == q) w := by
    intro n
    unfold Op.equalIn
    rw [Sem.run_bind, run_underlying hu]
    rfl
  exact he 9999

/-- 'op' on values -/
theorem bin_run (hT : TOk P T) {op : BinOp} {t : TypeId} {xo yo : Operand} {x y : D} {u v : Value} {K : D → Prop} (h : bin Ar.real op (T t).k x y K) (hx : RV w A s β x u) (hy : RV w A s β y v) :
    ∃ d r, K d ∧ (do eqGuard op t xo yo u v; binOp op t u v : Sem Value).run P w = .ok r w ∧ RV w A s β d r := by
  unfold bin at h
  split at h
  · -- numbers
    rename_i k a' k' b'
    simp only [RV] at hx hy
    subst hx; subst hy
    have hg : ∀ op, (eqGuard op t xo yo (.int k a') (.int k' b')).run P w = .ok () w := by
      intro op
      unfold eqGuard
      split <;> simp
    have hsh : (shiftOp op = true ∨ k = k') ∧ arith Ar.real op k a' b' K := by
      by_cases hk : kindEq k k' = true
      · simp only [hk] at h
        exact ⟨.inr ((kindEq_iff _ _).1 hk), h⟩
      · simp only [Bool.not_eq_true] at hk
        by_cases hs : shiftOp op = true
        · simp only [hk, hs] at h
          exact ⟨.inl hs, h⟩
        · simp only [Bool.not_eq_true] at hs
          simp only [hk, hs] at h
          exact h.h.elim
    obtain ⟨hsh, h'⟩ := hsh
    clear h
    rw [Sem.run_bind, hg, Result.andThen_ok]
    cases op <;> simp only [arith, Ar.real] at h' <;> simp only [shiftOp, Bool.false_eq_true, false_or] at hsh
    case shl =>
      refine ⟨_, _, h'.r, ?_, by simp only [RV]; rfl⟩
      simp [binOp, Op.shift, Int.not_lt.2 h'.l.h]
    case shr =>
      refine ⟨_, _, h'.r, ?_, by simp only [RV]; rfl⟩
      simp [binOp, Op.shift, Int.not_lt.2 h'.l.h]
    case quo =>
      subst hsh
      refine ⟨_, _, h'.r, ?_, by simp only [RV]; rfl⟩
      simp [binOp, Op.intDiv, h'.l.h]
    case rem =>
      subst hsh
      refine ⟨_, _, h'.r, ?_, by simp only [RV]; rfl⟩
      simp [binOp, Op.intDiv, h'.l.h]
    all_goals
      subst hsh
      refine ⟨_, _, h', ?_, by simp only [RV]; rfl⟩
      simp [binOp, Op.intArith, Op.intBits, Op.intCmp]
  · -- strings
    rename_i p q
    simp only [RV] at hx hy
    subst hx; subst hy
    have hg : ∀ op, (eqGuard op t xo yo (.string p) (.string q)).run P w = .ok () w := by
      intro op
      unfold eqGuard
      split <;> simp
    rw [Sem.run_bind, hg, Result.andThen_ok]
    split at h
    · have hl : (p.size : Int) + q.size ≤ 9223372036854775807 := h.l.h
      refine ⟨_, _, h.r, ?_, by simp only [RV]; rfl⟩
      have : ¬ (((p.size + q.size : Nat) : Int) > IntKind.i64.max) := by
        have : IntKind.i64.max = 9223372036854775807 := by decide
        omega
      simp [binOp, Op.stringOp, this, Ar.real]
      omega
    · refine ⟨_, _, h, ?_, by simp only [RV]; rfl⟩
      simp [binOp, Op.stringOp, Ar.real]
    · refine ⟨_, _, h, ?_, by simp only [RV]; rfl⟩
      simp [binOp, Op.stringOp, Ar.real]
    · exact h.h.elim
  · -- bools
    split at h
    · rename_i p q hp hq hk
      have hp := boolOf_rv hp hx
      have hq := boolOf_rv hq hy
      subst hp; subst hq
      obtain ⟨i, z, d, hrow⟩ := hT.row t (by rw [hk]; rfl)
      have hd := hrow.desc
      rw [hk] at hd
      simp only [DescIs] at hd
      have hq' := run_equal_bool (w := w) hrow.under hd p q
      refine ⟨_, .bool (p == q), h, ?_, by simp [RV, Ar.real]⟩
      simp [eqGuard, binOp, hq']
    · rename_i p q hp hq hk
      have hp := boolOf_rv hp hx
      have hq := boolOf_rv hq hy
      subst hp; subst hq
      obtain ⟨i, z, d, hrow⟩ := hT.row t (by rw [hk]; rfl)
      have hd := hrow.desc
      rw [hk] at hd
      simp only [DescIs] at hd
      have hq' := run_equal_bool (w := w) hrow.under hd p q
      refine ⟨_, .bool (!(p == q)), h, ?_, by simp [RV, Ar.real]⟩
      simp [eqGuard, binOp, hq']
    · exact h.h.elim
end ops
end Go.DW

/- Each operation that writes to no memory: its run is what the evaluator says. -/
namespace Go.DW
open Go

section
variable {P : Program} {T : TT} {G : Nat → Option (List D)} {w0 : World} {A0 : Nat → Prop} {Ω0 : List Nat} {w : World} {A : Nat → Prop} {s : Sto} {β : Id → Value} {e : Env} {a : Act} {K : Rec → Prop} {o : Oper}

theorem out_move (hG : GOk G w0 A0) (h : Rel T w0 A0 Ω0 w A s β e a) {x : Operand} (ho : o.op = .move x) (hk : reck Ar.real T o (opnd G e) (sget s) K) : Out P T w0 A0 Ω0 o e s w a K := by
  simp only [reck, ho] at hk
  exact Out.val hk h (by simp [execOp, ho]) (opnd_rv hG h x)

theorem out_pick (hG : GOk G w0 A0) (h : Rel T w0 A0 Ω0 w A s β e a) {x y z : Operand} (ho : o.op = .pick x y z) (hk : reck Ar.real T o (opnd G e) (sget s) K) : Out P T w0 A0 Ω0 o e s w a K := by
  simp only [reck, ho] at hk
  have hx := opnd_rv hG h x
  have key : ∀ t, a.eval x = .bool t → (t = true → K ⟨opnd G e y, [], [], []⟩) → (t = false → K ⟨opnd G e z, [], [], []⟩) → Out P T w0 A0 Ω0 o e s w a K := by
    intro t ht h1 h2
    cases t
    · exact Out.val (h2 rfl) h (by simp [execOp, ho, ht, asBool]) (opnd_rv hG h z)
    · exact Out.val (h1 rfl) h (by simp [execOp, ho, ht, asBool]) (opnd_rv hG h y)
  split at hk
  · rename_i he; rw [he] at hx; simp only [RV] at hx
    exact key true hx (fun _ => hk) (fun h => by cases h)
  · rename_i he; rw [he] at hx; simp only [RV] at hx
    exact key false hx (fun h => by cases h) (fun _ => hk)
  · rename_i t he; rw [he] at hx; simp only [RV] at hx
    exact key t hx (fun h => (hk.yes h).h) (fun h => (hk.no h).h)
  · exact hk.h.elim

theorem out_binOp (hT : TOk P T) (hG : GOk G w0 A0) (h : Rel T w0 A0 Ω0 w A s β e a) {op : BinOp} {t t' : TypeId} {x y : Operand} (ho : o.op = .binOp op t x y t') (hk : reck Ar.real T o (opnd G e) (sget s) K) : Out P T w0 A0 Ω0 o e s w a K := by
  simp only [reck, ho] at hk
  obtain ⟨d, r, h1, h2, h3⟩ := bin_run hT (xo := x) (yo := y) hk (opnd_rv hG h x) (opnd_rv hG h y)
  refine Out.val h1 h ?_ h3
  simp only [execOp, ho]
  rw [Sem.run_bind, h2]
  rfl

theorem out_unOp (hG : GOk G w0 A0) (h : Rel T w0 A0 Ω0 w A s β e a) {op : UnOp} {t : TypeId} {x : Operand} (ho : o.op = .unOp op t x) (hk : reck Ar.real T o (opnd G e) (sget s) K) : Out P T w0 A0 Ω0 o e s w a K := by
  simp only [reck, ho] at hk
  have hx := opnd_rv hG h x
  split at hk
  · rename_i he; rw [he] at hx; simp only [RV] at hx
    exact Out.val hk h (v := .bool false) (by simp [execOp, ho, hx, Op.unary]) (by simp [RV])
  · rename_i he; rw [he] at hx; simp only [RV] at hx
    exact Out.val hk h (v := .bool true) (by simp [execOp, ho, hx, Op.unary]) (by simp [RV])
  · rename_i b he; rw [he] at hx; simp only [RV] at hx
    exact Out.val hk h (v := .bool (!b)) (by simp [execOp, ho, hx, Op.unary]) (by simp [RV, Ar.real])
  · rename_i k n he; rw [he] at hx; simp only [RV] at hx
    exact Out.val hk h (v := .int k (k.wrap (0 - n))) (by simp [execOp, ho, hx, Op.unary, Op.intArith]) (by simp [RV, Ar.real])
  · exact hk.h.elim

theorem out_convert (hT : TOk P T) (hG : GOk G w0 A0) (h : Rel T w0 A0 Ω0 w A s β e a) {t u : TypeId} {x : Operand} (ho : o.op = .convert t u x) (hk : reck Ar.real T o (opnd G e) (sget s) K) : Out P T w0 A0 Ω0 o e s w a K := by
  simp only [reck, ho] at hk
  have hx := opnd_rv hG h x
  split at hk
  · rename_i k' k k'' n hk1 hk2 he; rw [he] at hx; simp only [RV] at hx
    obtain ⟨i, z, d, r1⟩ := hT.row t (by rw [hk1]; rfl)
    obtain ⟨i', z', d', r2⟩ := hT.row u (by rw [hk2]; rfl)
    have hd := r1.desc; rw [hk1] at hd; simp only [DescIs] at hd
    have hd' := r2.desc; rw [hk2] at hd'; simp only [DescIs] at hd'
    subst hd; subst hd'
    exact Out.val hk h (v := .int k (k.wrap n)) (by simp [execOp, ho, hx, convert, run_underlying r1.under, run_underlying r2.under, Conv.intToInt]) (by simp [RV, Ar.real])
  · exact hk.h.elim

theorem opnds_rv (hG : GOk G w0 A0) (h : Rel T w0 A0 Ω0 w A s β e a) : ∀ l : List Operand, RVL w A s β (l.map (opnd G e)) (l.map a.eval)
  | [] => by simp [RVL]
  | x :: r => by
    simp only [List.map_cons, RVL]
    exact ⟨_, _, rfl, opnd_rv hG h x, opnds_rv hG h r⟩

theorem out_makeFunc (hG : GOk G w0 A0) (h : Rel T w0 A0 Ω0 w A s β e a) {f : FuncId} {x y : Array Operand} (ho : o.op = .makeFunc (.func f) x y) (hk : reck Ar.real T o (opnd G e) (sget s) K) : Out P T w0 A0 Ω0 o e s w a K := by
  simp only [reck, ho] at hk
  refine Out.val hk h (v := .func (.func f) (x.map a.eval) (y.map a.eval)) (by simp [execOp, ho, Instr.makeFunc]) ?_
  simp only [RV]
  exact ⟨_, _, rfl, by simpa using opnds_rv hG h x.toList, by simpa using opnds_rv hG h y.toList⟩

theorem out_nilCheck (hG : GOk G w0 A0) (h : Rel T w0 A0 Ω0 w A s β e a) {x : Operand} (ho : o.op = .nilCheck x) (hk : reck Ar.real T o (opnd G e) (sget s) K) : Out P T w0 A0 Ω0 o e s w a K := by
  simp only [reck, ho] at hk
  have hx := opnd_rv hG h x
  split at hk
  · rename_i id b z cc he
    rw [he] at hx
    split at hk
    · rename_i ob hob
      have hx' := hx
      simp only [RV] at hx
      obtain ⟨bb, _, hv, _⟩ := hx.2 ob hob
      exact Out.val hk h (v := a.eval x) (by simp [execOp, ho, hv]) hx'
    · exact hk.h.elim
  · rename_i cs he
    rw [he] at hx
    have hx' := hx
    simp only [RV] at hx
    obtain ⟨b, o', us, hv, _⟩ := hx
    exact Out.val hk h (v := a.eval x) (by simp [execOp, ho, hv]) hx'
  · rename_i f b cc he
    rw [he] at hx
    have hx' := hx
    simp only [RV] at hx
    obtain ⟨p, q, hv, _⟩ := hx
    exact Out.val hk h (v := a.eval x) (by simp [execOp, ho, hv]) hx'
  · exact hk.h.elim

theorem out_extract (hG : GOk G w0 A0) (h : Rel T w0 A0 Ω0 w A s β e a) {x : Operand} {j : Nat} (ho : o.op = .extract x j) (hk : reck Ar.real T o (opnd G e) (sget s) K) : Out P T w0 A0 Ω0 o e s w a K := by
  simp only [reck, ho] at hk
  have hx := opnd_rv hG h x
  split at hk
  · rename_i vs he
    rw [he] at hx
    simp only [RV] at hx
    obtain ⟨us, hv, hr⟩ := hx
    split at hk
    · rename_i hj
      rw [lenD_eq] at hj
      have hlt : j < us.size := by
        have := hr.length
        simp at this
        rw [this]
        simpa using hj
      have hg := RVL.get j hr
      refine Out.val hk h (v := us[j]) (by simp [execOp, ho, hv, Instr.extract, hlt]) ?_
      simpa [List.getD_eq_getElem?_getD, hlt] using hg
    · exact hk.h.elim
  · exact hk.h.elim

theorem out_fieldAddr (hT : TOk P T) (hG : GOk G w0 A0) (h : Rel T w0 A0 Ω0 w A s β e a) {st : TypeId} {x : Operand} {f : Nat} (ho : o.op = .fieldAddr st x f) (hk : reck Ar.real T o (opnd G e) (sget s) K) : Out P T w0 A0 Ω0 o e s w a K := by
  simp only [reck, ho] at hk
  have hx := opnd_rv hG h x
  have key : ∀ fs fo ty, (T st).k = .struct fs → nthF fs f = some (fo, ty) → ∀ b off, a.eval x = .pointer (some ⟨b, off, none⟩) →
      (execOp a.eval o).run P w = .ok (.value (.pointer (some ⟨b, off + fo, none⟩))) w := by
    intro fs fo ty hs hn b off hv
    obtain ⟨i, z, d, r⟩ := hT.row st (by rw [hs]; rfl)
    have hd := r.desc; rw [hs] at hd; simp only [DescIs] at hd
    obtain ⟨fields, rfl, hf, hall⟩ := hd
    rw [nthF_eq] at hn
    have hm := hall (fo, ty) (List.mem_of_getElem? hn)
    rw [← hf] at hn
    simp only [List.getElem?_map, Option.map_eq_some_iff] at hn
    obtain ⟨fl, hfl, hfe⟩ := hn
    simp only [Prod.mk.injEq] at hfe
    obtain ⟨i2, z2, d2, r2⟩ := hT.row ty hm.1
    have hne : (T ty).size ≠ 0 := by have := hm.2.1; simp at this; omega
    have hsz : (Go.sizeOf fl.type).run P w = .ok (T ty).size w := by rw [hfe.2]; exact r2.sizeOf
    have hfl' : fields[f]? = some fl := by simpa using hfl
    simp only [execOp, ho, Instr.fieldAt, Sem.run_bind, run_underlying r.under, Result.andThen_ok, hfl', hv, Instr.sureAddr, Sem.run_pure, fieldPlace, hsz, if_neg hne, Addr.add_mid, hfe.1]
  split at hk
  · rename_i fs id i sz off hs he
    rw [he] at hx
    split at hk
    · rename_i fo ty ob hn hob
      simp only [RV] at hx
      obtain ⟨b, hb, hv, hkind⟩ := hx.2 ob hob
      refine Out.val hk h (key fs fo ty hs hn _ _ hv) ?_
      simp only [RV]
      refine ⟨rfl, fun o' ho' => ⟨b, hb, by rw [Nat.add_assoc], ?_⟩⟩
      rw [hob] at ho'
      cases ho'
      exact hkind
    · exact hk.h.elim
  · rename_i fs cells hs he
    rw [he] at hx
    split at hk
    · rename_i fo ty hn
      split at hk
      · simp only [RV] at hx
        obtain ⟨b, off, us, hv, hA, hr, hu⟩ := hx
        refine Out.val hk h (key fs fo ty hs hn _ _ hv) ?_
        simp only [RV]
        refine ⟨b, off + fo, us.drop fo, rfl, hA, ?_, ?_⟩
        · intro j v hj
          rw [Nat.add_assoc]
          exact hr (fo + j) v (by simpa using hj)
        · rw [dropD_eq]
          exact RIL.drop' fo hu
      · exact hk.h.elim
    · exact hk.h.elim
  · exact hk.h.elim

theorem out_field (hT : TOk P T) (hG : GOk G w0 A0) (h : Rel T w0 A0 Ω0 w A s β e a) {st : TypeId} {x : Operand} {f : Nat} (ho : o.op = .field st x f) (hk : reck Ar.real T o (opnd G e) (sget s) K) : Out P T w0 A0 Ω0 o e s w a K := by
  simp only [reck, ho] at hk
  have hx := opnd_rv hG h x
  split at hk
  · rename_i fs cs hs he
    rw [he] at hx
    simp only [RV] at hx
    obtain ⟨vs, hv, hr⟩ := hx
    split at hk
    · rename_i fo ty hn
      obtain ⟨v, _, hp, hk⟩ := packK_some hk
      obtain ⟨i, z, d, r⟩ := hT.row st (by rw [hs]; rfl)
      have hd := r.desc; rw [hs] at hd; simp only [DescIs] at hd
      obtain ⟨fields, rfl, hf, hall⟩ := hd
      rw [nthF_eq] at hn
      have hm := hall (fo, ty) (List.mem_of_getElem? hn)
      rw [← hf] at hn
      simp only [List.getElem?_map, Option.map_eq_some_iff] at hn
      obtain ⟨fl, hfl, hfe⟩ := hn
      simp only [Prod.mk.injEq] at hfe
      obtain ⟨i2, z2, d2, r2⟩ := hT.row ty hm.1
      have hfl' : fields[f]? = some fl := by simpa using hfl
      obtain ⟨u, hu, hru⟩ := run_part r2 hr hp
      refine Out.val hk h (v := u) ?_ hru
      simp only [execOp, ho, Instr.field, Sem.run_bind, run_underlying r.under, Result.andThen_ok, hfl', hv, asAgg, Sem.run_pure, hfe.1, hfe.2, hu]
    · exact hk.h.elim
  · exact hk.h.elim
end
end Go.DW

/- Lengths, indexes, cuts: their runs against the evaluator. -/
namespace Go.DW
open Go

section
variable {P : Program} {T : TT} {G : Nat → Option (List D)} {w0 : World} {A0 : Nat → Prop} {Ω0 : List Nat} {w : World} {A : Nat → Prop} {s : Sto} {β : Id → Value} {e : Env} {a : Act} {K : Rec → Prop} {o : Oper}

theorem TRow.slice {t el : TypeId} (hT : TOk P T) (h : (T t).k = .slice el) : P.underlying t = some (.slice el) ∧ ∃ i z d, TRow P T el i z d ∧ 0 < (T el).size ∧ 0 < (T el).bytes := by
  obtain ⟨i, z, d, r⟩ := hT.row t (by rw [h]; rfl)
  have hd := r.desc; rw [h] at hd; simp only [DescIs] at hd
  obtain ⟨rfl, h1, h2⟩ := hd
  obtain ⟨i', z', d', r'⟩ := hT.row el h1
  exact ⟨r.under, i', z', d', r', h2⟩
theorem TRow.array {t el : TypeId} {n : Nat} (hT : TOk P T) (h : (T t).k = .array n el) : P.underlying t = some (.array n el) ∧ ∃ i z d, TRow P T el i z d ∧ 0 < (T el).size ∧ 0 < (T el).bytes := by
  obtain ⟨i, z, d, r⟩ := hT.row t (by rw [h]; rfl)
  have hd := r.desc; rw [h] at hd; simp only [DescIs] at hd
  obtain ⟨rfl, h1, h2⟩ := hd
  obtain ⟨i', z', d', r'⟩ := hT.row el h1
  exact ⟨r.under, i', z', d', r', h2⟩
theorem TRow.str {t : TypeId} (hT : TOk P T) (h : (T t).k = .str) : P.underlying t = some .string := by
  obtain ⟨i, z, d, r⟩ := hT.row t (by rw [h]; rfl)
  have hd := r.desc; rw [h] at hd; simp only [DescIs] at hd
  subst hd
  exact r.under

theorem RO.len {id : Id} {t : TypeId} {els : List (List D)} (h : RO T w A s β id (.row t els)) : ∃ p cap, β id = .slice p els.length cap := by
  obtain ⟨xs, _, h1, _⟩ := h
  rcases h1.2 with ⟨h1, h2⟩ | ⟨g, cap, cur, h1, _⟩
  · exact ⟨none, 0, by rw [h1, h2]⟩
  · exact ⟨_, cap, h1⟩

theorem arr1 {α β : Type} (f : α → β) {l : Array α} {x : β} (h : l.toList.map f = [x]) : ∃ y, l = #[y] ∧ f y = x := by
  obtain ⟨l⟩ := l
  match l, h with
  | [y], h => exact ⟨y, rfl, by simpa using h⟩
theorem arr2 {α β : Type} (f : α → β) {l : Array α} {x y : β} (h : l.toList.map f = [x, y]) : ∃ p q, l = #[p, q] ∧ f p = x ∧ f q = y := by
  obtain ⟨l⟩ := l
  match l, h with
  | [p, q], h => simp at h; exact ⟨p, q, rfl, h.1, h.2⟩
theorem arrE1 {α : Type} {l : Array α} {x : α} (h : l.toList = [x]) : l = #[x] := by
  obtain ⟨l⟩ := l; simp at h; simp [h]
theorem arrE2 {α : Type} {l : Array α} {x y : α} (h : l.toList = [x, y]) : l = #[x, y] := by
  obtain ⟨l⟩ := l; simp at h; simp [h]

theorem out_len (hT : TOk P T) (hG : GOk G w0 A0) (h : Rel T w0 A0 Ω0 w A s β e a) {args : Array Operand} {ats : Array TypeId} (ho : o.op = .call { callee := .builtin .len, args := args, argTypes := ats }) (hk : reck Ar.real T o (opnd G e) (sget s) K) : Out P T w0 A0 Ω0 o e s w a K := by
  simp only [reck, ho] at hk
  split at hk
  · rename_i x t hx ht
    obtain ⟨y, rfl, rfl⟩ := arr1 _ hx
    obtain rfl := arrE1 ht
    have hv := opnd_rv hG h y
    have run : ∀ (n : Nat) p c el, P.underlying t = some (.slice el) → a.eval y = .slice p n c → (execOp a.eval o).run P w = .ok (.value (.int .i64 n)) w := by
      intro n p c el hu hv
      simp [execOp, ho, resolve, invoke, builtin, Builtin.len_, run_underlying hu, hv, goInt]
    split at hk
    · rename_i he hk1
      rw [he] at hv; simp only [RV] at hv
      exact Out.val hk h (run 0 none 0 _ (TRow.slice hT hk1).1 hv) (by simp [RV])
    · rename_i els el he hk1
      rw [he] at hv; simp only [RV, RI] at hv
      obtain ⟨p, c, hv, _⟩ := hv
      exact Out.val hk h (run _ p c _ (TRow.slice hT hk1).1 hv) (by simp [RV, Ar.real])
    · rename_i b he hk1
      rw [he] at hv; simp only [RV] at hv
      refine Out.val hk h (v := .int .i64 b.size) ?_ (by simp [RV, Ar.real])
      simp [execOp, ho, resolve, invoke, builtin, Builtin.len_, run_underlying (TRow.str hT hk1), hv, goInt]
    · rename_i id el he hk1
      rw [he] at hv; simp only [RV] at hv
      split at hk
      · rename_i t' els hob
        obtain ⟨p, c, hb⟩ := (h.obj id _ hob).len
        exact Out.val hk h (run _ p c _ (TRow.slice hT hk1).1 (by rw [hv.2 (by simp [hob]), hb])) (by simp [RV, Ar.real])
      · exact hk.h.elim
    · exact hk.h.elim
  · exact hk.h.elim

theorem RILL.at {sz : Nat} : ∀ {els : List (List D)} {us : List Value} {i : Nat} {el : List D}, RILL w A els us → (∀ x ∈ els, x.length = sz) → els[i]? = some el →
    RIL w A el ((us.drop (i * sz)).take sz)
  | [], us, i, el, _, _, hi => by simp at hi
  | x :: r, us, 0, el, h, hs, hi => by
    simp only [RILL] at h
    obtain ⟨u1, u2, rfl, h1, h2⟩ := h
    simp at hi
    subst hi
    have := h1.length
    rw [hs x (by simp)] at this
    simp [← this]
    simpa using h1
  | x :: r, us, i + 1, el, h, hs, hi => by
    simp only [RILL] at h
    obtain ⟨u1, u2, rfl, h1, h2⟩ := h
    have hl := h1.length
    rw [hs x (by simp)] at hl
    have := RILL.at (i := i) h2 (fun y hy => hs y (by simp [hy])) (by simpa using hi)
    rw [Nat.add_mul, Nat.one_mul, Nat.add_comm, ← List.drop_drop]
    rw [show List.drop sz (u1 ++ u2) = u2 from by rw [← hl]; simp]
    exact this

theorem out_index (hT : TOk P T) (hG : GOk G w0 A0) (h : Rel T w0 A0 Ω0 w A s β e a) {t : TypeId} {x ix : Operand} (ho : o.op = .index t x ix) (hk : reck Ar.real T o (opnd G e) (sget s) K) : Out P T w0 A0 Ω0 o e s w a K := by
  simp only [reck, ho] at hk
  have hx := opnd_rv hG h x
  have hix := opnd_rv hG h ix
  split at hk
  · rename_i n el cs k i hk1 he hei
    rw [he] at hx; rw [hei] at hix
    simp only [RV] at hx hix
    obtain ⟨vs, hv, hr⟩ := hx
    obtain ⟨h0, h1⟩ := hk.l.h
    obtain ⟨v, _, hp, hk⟩ := packK_some hk.r
    obtain ⟨hu, i', z, d, r, _⟩ := TRow.array hT hk1
    obtain ⟨u, hu', hru⟩ := run_part r hr hp
    refine Out.val hk h (v := u) ?_ hru
    simp only [execOp, ho, Instr.index, hix, hv, asIntOf, Sem.run_bind, Sem.run_pure, Result.andThen_ok, run_underlying hu, h0, h1, and_self, if_true, r.sizeOf, hu']
  · rename_i b k i hk1 he hei
    rw [he] at hx; rw [hei] at hix
    simp only [RV] at hx hix
    obtain ⟨h0, h1⟩ := hk.l.h
    simp only [Ar.real] at h1
    have hlt : i.toNat < b.size := by omega
    refine Out.val hk.r h (v := .int .u8 (b[i.toNat]).toNat) ?_ ?_
    · have hg : b[i.toNat]? = some b[i.toNat] := by simp [hlt]
      simp [execOp, ho, Instr.index, hix, hx, asIntOf, run_underlying (TRow.str hT hk1), h0, hg]
    · have hg : b[i.toNat]? = some b[i.toNat] := by simp [hlt]
      simp [RV, Ar.real, hg]
  · exact hk.h.elim

theorem out_indexAddr (hT : TOk P T) (hG : GOk G w0 A0) (h : Rel T w0 A0 Ω0 w A s β e a) {t : TypeId} {x ix : Operand} (ho : o.op = .indexAddr t x ix) (hk : reck Ar.real T o (opnd G e) (sget s) K) : Out P T w0 A0 Ω0 o e s w a K := by
  simp only [reck, ho] at hk
  have hx := opnd_rv hG h x
  have hix := opnd_rv hG h ix
  have runS : ∀ et k (i : Int) b off (n c : Nat), (T t).k = .slice et → a.eval ix = .int k i → 0 ≤ i → i < n → a.eval x = .slice (some ⟨b, off, none⟩) n c →
      (execOp a.eval o).run P w = .ok (.value (.pointer (some ⟨b, off + i.toNat * (T et).size, none⟩))) w := by
    intro et k i b off n c hk1 hi h0 h1 hv
    obtain ⟨hu, i', z, d, r, _⟩ := TRow.slice hT hk1
    simp [execOp, ho, Instr.indexAt, hi, hv, asIntOf, run_underlying hu, h0, h1, r.sizeOf, Addr.add_mid]
  have runA : ∀ et k (i : Int) b off (n : Nat), (T t).k = .array n et → a.eval ix = .int k i → 0 ≤ i → i < n → a.eval x = .pointer (some ⟨b, off, none⟩) →
      (execOp a.eval o).run P w = .ok (.value (.pointer (some ⟨b, off + i.toNat * (T et).size, none⟩))) w := by
    intro et k i b off n hk1 hi h0 h1 hv
    obtain ⟨hu, i', z, d, r, _⟩ := TRow.array hT hk1
    simp [execOp, ho, Instr.indexAt, hi, hv, asIntOf, run_underlying hu, h0, h1, r.sizeOf, Addr.add_mid, Instr.sureAddr]
  split at hk
  · rename_i et els k i hk1 he hei
    rw [he] at hx; rw [hei] at hix
    simp only [RV, RI] at hx hix
    obtain ⟨el, hel, hk'⟩ := hk.get
    have h0 := hk.lo
    obtain ⟨p, c, hv, hc, _, hx⟩ := hx
    have hlt : i.toNat < els.length := (List.getElem?_eq_some_iff.1 hel).1
    split at hk'
    · rename_i hsz
      rw [lenD_eq] at hsz
      have hsz : el.length = (T et).size := by simpa using hsz
      rcases hx with hx | ⟨b, off, sz, us, rfl, hA, hs, hr, hu⟩
      · subst hx; simp at hlt
      · have hsz' : sz = (T et).size := by rw [← hsz, hs el (List.mem_of_getElem? hel)]
        subst hsz'
        refine Out.val hk' h (runS et k i b off els.length c hk1 hix h0 (by omega) hv) ?_
        simp only [RV]
        refine ⟨b, off + i.toNat * (T et).size, (us.drop (i.toNat * (T et).size)).take (T et).size, rfl, hA, ?_, RILL.at hu hs hel⟩
        intro j v hj
        rw [List.getElem?_take] at hj
        split at hj
        · rw [Nat.add_assoc]
          exact hr _ v (by simpa using hj)
        · cases hj
    · exact hk'.h.elim
  · rename_i et id k i hk1 he hei
    rw [he] at hx; rw [hei] at hix
    simp only [RV] at hx hix
    split at hk
    · rename_i e2 els hob
      split at hk
      · rename_i heq
        have heq : e2 = et := by simpa using heq
        subst heq
        obtain ⟨h0, h1⟩ := hk.l.h
        simp only [Ar.real] at h1
        have hro := h.obj id _ hob
        have hv := hx.2 (by simp [hob])
        have hro' := hro
        obtain ⟨xs, hp, hown, hs, hr, hn⟩ := hro
        rcases hown.2 with ⟨hb, hl⟩ | ⟨g, cap, cur, hb, _, hg, hc, _⟩
        · omega
        · refine Out.val hk.r h (runS e2 k i g 0 els.length cap hk1 hix h0 h1 (by rw [hv, hb])) ?_
          simp only [RV]
          refine ⟨rfl, fun o' ho' => ⟨g, by rw [hb]; rfl, by simp, ?_⟩⟩
          rw [hob] at ho'
          cases ho'
          exact h0
      · exact hk.h.elim
    · exact hk.h.elim
  · rename_i n el id j sz off k i hk1 he hei
    rw [he] at hx; rw [hei] at hix
    simp only [RV] at hx hix
    split at hk
    · rename_i ob hob
      obtain ⟨h0, h1⟩ := hk.l.h
      obtain ⟨b, hb, hv, hkind⟩ := hx.2 ob hob
      refine Out.val hk.r h (runA el k i b _ n hk1 hix h0 h1 hv) ?_
      simp only [RV]
      refine ⟨rfl, fun o' ho' => ⟨b, hb, by rw [Nat.add_assoc], ?_⟩⟩
      rw [hob] at ho'
      cases ho'
      exact hkind
    · exact hk.h.elim
  · rename_i n el cells k i hk1 he hei
    rw [he] at hx; rw [hei] at hix
    simp only [RV] at hx hix
    obtain ⟨h0, h1⟩ := hk.l.h
    obtain ⟨b, off, us, hv, hA, hr, hu⟩ := hx
    refine Out.val hk.r h (runA el k i b off n hk1 hix h0 h1 hv) ?_
    simp only [RV]
    refine ⟨b, off + i.toNat * (T el).size, us.drop (i.toNat * (T el).size), rfl, hA, ?_, ?_⟩
    · intro j v hj
      rw [Nat.add_assoc]
      exact hr _ v (by simpa using hj)
    · rw [dropD_eq]
      exact RIL.drop' _ hu
  · exact hk.h.elim
end
end Go.DW

/- Cuts, aggregates, loads: their runs against the evaluator. -/
namespace Go.DW
open Go

section
variable {P : Program} {T : TT} {G : Nat → Option (List D)} {w0 : World} {A0 : Nat → Prop} {Ω0 : List Nat} {w : World} {A : Nat → Prop} {s : Sto} {β : Id → Value} {e : Env} {a : Act} {K : Rec → Prop} {o : Oper}

theorem low_run (hG : GOk G w0 A0) (h : Rel T w0 A0 Ω0 w A s β e a) {lo : Option Operand} {l : Int} (hl : lowOf (lo.map (opnd G e)) = some l) : (lo.map a.eval = none ∧ l = 0) ∨ ∃ k, lo.map a.eval = some (.int k l) := by
  cases lo with
  | none => simp [lowOf] at hl; simp [hl]
  | some x =>
    have hx := opnd_rv hG h x
    simp only [Option.map_some] at hl
    unfold lowOf at hl
    split at hl
    · rename_i he; cases he
    · rename_i k n he
      simp only [Option.some.injEq] at he hl
      rw [he] at hx
      simp only [RV] at hx
      subst hl
      exact .inr ⟨k, by simp [hx]⟩
    · cases hl
theorem high_run (hG : GOk G w0 A0) (h : Rel T w0 A0 Ω0 w A s β e a) {hi : Option Operand} {l z : Int} (hl : highOf z (hi.map (opnd G e)) = some l) : (hi.map a.eval = none ∧ l = z) ∨ ∃ k, hi.map a.eval = some (.int k l) := by
  cases hi with
  | none => simp [highOf] at hl; simp [hl]
  | some x =>
    have hx := opnd_rv hG h x
    simp only [Option.map_some] at hl
    unfold highOf at hl
    split at hl
    · rename_i he; cases he
    · rename_i k n he
      simp only [Option.some.injEq] at he hl
      rw [he] at hx
      simp only [RV] at hx
      subst hl
      exact .inr ⟨k, by simp [hx]⟩
    · cases hl

theorem run_bounds (isS : Bool) (len cap : Nat) (L H : Option Value) (l hh : Int) (hl : (L = none ∧ l = 0) ∨ ∃ k, L = some (.int k l)) (hhi : (H = none ∧ hh = len) ∨ ∃ k, H = some (.int k hh)) (h0 : 0 ≤ l) (h1 : l ≤ hh) (h2 : hh ≤ len) (hc : len ≤ cap) :
    (Instr.sliceBounds isS len cap L H none).run P w = .ok (l.toNat, hh.toNat, cap) w := by
  have h3 : 0 ≤ hh := by omega
  have h4 : hh ≤ (cap : Int) := by omega
  have h5 : l ≤ (hh.toNat : Int) := by omega
  rcases hl with ⟨rfl, rfl⟩ | ⟨k, rfl⟩ <;> rcases hhi with ⟨rfl, rfl⟩ | ⟨k', rfl⟩
  · simp [Instr.sliceBounds]
  · simp [Instr.sliceBounds, Instr.sliceBound, asIntOf, h3, h4]
  · simp [Instr.sliceBounds, Instr.sliceBound, asIntOf, h0, h1]
  · simp [Instr.sliceBounds, Instr.sliceBound, asIntOf, h0, h3, h4, h5, Int.max_eq_left h3, h1]

theorem RILL.take {sz : Nat} : ∀ {els : List (List D)} {us : List Value} (n : Nat), RILL w A els us → (∀ x ∈ els, x.length = sz) → RILL w A (els.take n) (us.take (n * sz))
  | [], us, n, h, _ => by simp [RILL] at h; simp [h, RILL]
  | x :: r, us, 0, h, _ => by simp [RILL]
  | x :: r, us, n + 1, h, hs => by
    simp only [RILL] at h
    obtain ⟨u1, u2, rfl, h1, h2⟩ := h
    have hl := h1.length
    rw [hs x (by simp)] at hl
    simp only [List.take_succ_cons, RILL]
    refine ⟨u1, u2.take (n * sz), ?_, h1, RILL.take n h2 (fun y hy => hs y (by simp [hy]))⟩
    rw [Nat.add_mul, Nat.one_mul, Nat.add_comm, ← hl, List.take_length_add_append]
theorem RILL.drop {sz : Nat} : ∀ {els : List (List D)} {us : List Value} (n : Nat), RILL w A els us → (∀ x ∈ els, x.length = sz) → RILL w A (els.drop n) (us.drop (n * sz))
  | [], us, n, h, _ => by simp [RILL] at h; simp [h, RILL]
  | x :: r, us, 0, h, _ => by simpa using h
  | x :: r, us, n + 1, h, hs => by
    simp only [RILL] at h
    obtain ⟨u1, u2, rfl, h1, h2⟩ := h
    have hl := h1.length
    rw [hs x (by simp)] at hl
    have := RILL.drop n h2 (fun y hy => hs y (by simp [hy]))
    rw [show (n + 1) * sz = u1.length + n * sz from by rw [hl, Nat.add_mul, Nat.one_mul, Nat.add_comm], List.drop_length_add_append]
    simpa using this

/-- a cut of what is only read -/
theorem ri_cut {els : List (List D)} {p : Option Addr} {cap sz : Nat} (h : RI w A (.imm els) (.slice p els.length cap)) (hs : ∀ x ∈ els, x.length = sz) {l hh : Nat} (h1 : l ≤ hh) (h2 : hh ≤ els.length) :
    RI w A (.imm ((els.take hh).drop l)) (.slice (if cap = l then p else p.map (·.add (l * sz))) (hh - l) (cap - l)) := by
  simp only [RI] at h ⊢
  obtain ⟨a', cap', hv, hc, hz, h⟩ := h
  simp only [Value.slice.injEq, true_and] at hv
  obtain ⟨rfl, rfl⟩ := hv
  have hlen : ((els.take hh).drop l).length = hh - l := by simp; omega
  refine ⟨_, _, by rw [hlen], by rw [hlen]; omega, ?_, ?_⟩
  · intro hn
    have : p = none := by
      split at hn
      · exact hn
      · simpa using hn
    have := hz this
    omega
  by_cases he : hh = l
  · left
    apply List.eq_nil_of_length_eq_zero
    omega
  · right
    have hne : els ≠ [] := by intro hn; subst hn; simp at h2; omega
    obtain ⟨b, off, sz', us, rfl, hA, hs', hr, hu⟩ := h.resolve_left hne
    have hsz : sz' = sz := by
      cases els with
      | nil => exact absurd rfl hne
      | cons x r => rw [← hs' x (by simp), hs x (by simp)]
    subst hsz
    refine ⟨b, off + l * sz', sz', (us.take (hh * sz')).drop (l * sz'), by rw [if_neg (by omega)]; simp [Addr.add_mid], hA, ?_, ?_, RILL.drop l (RILL.take hh hu hs) (fun x hx => hs x (List.mem_of_mem_take hx))⟩
    · intro x hx
      exact hs x (List.mem_of_mem_take (List.mem_of_mem_drop hx))
    · intro j v hj
      rw [Nat.add_assoc]
      rw [List.getElem?_drop, List.getElem?_take] at hj
      split at hj
      · exact hr _ v hj
      · cases hj

theorem out_slice (hT : TOk P T) (hG : GOk G w0 A0) (h : Rel T w0 A0 Ω0 w A s β e a) {t : TypeId} {x : Operand} {lo hi : Option Operand} (ho : o.op = .slice t x lo hi none) (hk : reck Ar.real T o (opnd G e) (sget s) K) : Out P T w0 A0 Ω0 o e s w a K := by
  simp only [reck, ho] at hk
  have hx := opnd_rv hG h x
  split at hk
  · rename_i b hk1 he
    rw [he] at hx; simp only [RV] at hx
    split at hk
    · rename_i l hh hl hhi
      have hc : Cut l hh b.size := hk.l
      obtain ⟨h0, h1, h2⟩ := hc.h
      have hb := run_bounds (P := P) (w := w) false b.size b.size _ _ l hh (low_run hG h hl) (high_run hG h hhi) h0 h1 h2 (Nat.le_refl _)
      refine Out.val hk.r h (v := .string (b.extract l.toNat hh.toNat)) ?_ (by simp [RV, Ar.real])
      simp only [execOp, ho, Instr.sliceAt, Sem.run_bind, run_underlying (TRow.str hT hk1), Result.andThen_ok, hx, Instr.slice]
      simp [hb, run_underlying (TRow.str hT hk1)]
    · exact hk.h.elim
  · rename_i et els hk1 he
    rw [he] at hx
    have hx' := hx
    simp only [RV, RI] at hx
    obtain ⟨p, cap, hv, hcap, _, _⟩ := hx
    split at hk
    · rename_i l hh hl hhi
      have hu : Uni els (T et).size := hk.l
      have hc : Cut l hh els.length := hk.r.l
      obtain ⟨h0, h1, h2⟩ := hc.h
      obtain ⟨hun, i', z, d, r, _⟩ := TRow.slice hT hk1
      have hb := run_bounds (P := P) (w := w) true els.length cap _ _ l hh (low_run hG h hl) (high_run hG h hhi) h0 h1 h2 hcap
      rw [hv] at hx'
      simp only [RV] at hx'
      refine Out.val hk.r.r h (v := .slice (if cap = l.toNat then p else p.map (·.add (l.toNat * (T et).size))) (hh.toNat - l.toNat) (cap - l.toNat)) ?_ ?_
      · simp only [execOp, ho, Instr.sliceAt, Sem.run_bind, run_underlying hun, Result.andThen_ok, hv, Instr.slice]
        simp [hb, run_underlying hun, r.sizeOf]
      · simp only [RV, Ar.real]
        exact ri_cut hx' hu.h (by omega) (by omega)
    · exact hk.h.elim
  · rename_i et id hk1 he
    rw [he] at hx
    split at hk
    · rename_i e2 els hob
      split at hk
      · rename_i l hh heq hl hhi
        have heq : e2 = et := by simpa using heq
        subst heq
        have hc : Cut l hh els.length := hk.l
        obtain ⟨h0, h1, h2⟩ := hc.h
        obtain ⟨hun, i', z, d, r, _⟩ := TRow.slice hT hk1
        simp only [RV] at hx
        have hv := hx.2 (by simp [hob])
        have hro := h.obj id _ hob
        obtain ⟨p, cap, hb'⟩ := hro.len
        have hr2 := h.gone (fun j => ideq j id) (smap (goneG (fun j => ideq j id) s) (sdel s id)) (by
          intro i
          rw [sget_smap, sget_sdel]
          by_cases hi : id = i
          · subst hi; simp [(ideq_iff id id).2 rfl]
          · have : ideq i id = false := by rw [ideq_false]; exact fun e => hi e.symm
            simp [hi, this])
        have hA : ∀ b, A b → goneA (fun j => ideq j id) s β A b := fun b hb => .inl hb
        have hri := hro.freeze (A' := goneA (fun j => ideq j id) s β A) hA (fun b hb => .inr ⟨id, e2, els, (ideq_iff _ _).2 rfl, hob, hb⟩)
        rw [hb'] at hri
        have hcap : els.length ≤ cap := by
          simp only [RI] at hri
          obtain ⟨_, c', hv', hc', _⟩ := hri
          simp only [Value.slice.injEq, true_and] at hv'
          omega
        obtain ⟨xs, _, _, hs, _, _⟩ := hro
        have hb := run_bounds (P := P) (w := w) true els.length cap _ _ l hh (low_run hG h hl) (high_run hG h hhi) h0 h1 h2 hcap
        -- the state without the object, its row read from now on
        have hst : Rel T w0 A0 Ω0 w (goneA (fun j => ideq j id) s β A) (sdels s [id]) β e a := by
          have hd := h.dels [id]
          have hlt : ∀ b, goneA (fun j => ideq j id) s β A b → b < w.heap.size := hr2.lt
          refine { hd with env := RVL.mono hA (fun _ _ => rfl) _ _ (fun i _ => Agrees.refl _ β i) hd.env, obj := ?_, lt := hlt, sub := fun b hb => hA b (h.sub b hb), sup := hr2.sup }
          intro i o' ho'
          have hr := hd.obj i o' ho'
          refine hr.mono hA (fun _ _ => rfl) rfl (fun b hb => ⟨rfl, ?_⟩) (fun _ _ k _ => Agrees.refl _ β k)
          rintro (hb1 | ⟨j, t', els', hp, hj, hbj⟩)
          · exact (hr.lt hb).2 hb1
          · have hp : j = id := (ideq_iff _ _).1 hp
            subst hp
            have hso : (sget s i).isSome = true := by
              rw [sget_sdels] at ho'
              split at ho'
              · cases ho'
              · simp [ho']
            have := h.inj i j b hso (by simp [hj]) hb hbj
            subst this
            rw [sget_sdels] at ho'
            simp at ho'
        refine ⟨_, _, w, goneA (fun j => ideq j id) s β A, β, hk.r, .inl ⟨.slice (if cap = l.toNat then p else p.map (·.add (l.toNat * (T e2).size))) (hh.toNat - l.toNat) (cap - l.toNat), ?_, rfl⟩, ?_⟩
        · simp only [execOp, ho, Instr.sliceAt, Sem.run_bind, run_underlying hun, Result.andThen_ok, hv, hb', Instr.slice]
          simp [hb, run_underlying hun, r.sizeOf]
        · refine hst.put o.dst ?_
          simp only [RV, Ar.real]
          exact ri_cut hri hs (by omega) (by omega)
      · exact hk.h.elim
    · exact hk.h.elim
  · exact hk.h.elim
end
end Go.DW

/- Loads and aggregates: their runs against the evaluator. -/
namespace Go.DW
open Go

section
variable {P : Program} {T : TT} {G : Nat → Option (List D)} {w0 : World} {A0 : Nat → Prop} {Ω0 : List Nat} {w : World} {A : Nat → Prop} {s : Sto} {β : Id → Value} {e : Env} {a : Act} {K : Rec → Prop} {o : Oper}

theorem TRow.isRow {t : TypeId} {i : TypeInfo} {z : Value} {d : TypeDesc} (r : TRow P T t i z d) (h : (T t).k.agg = true) : d.isRow = true := by
  have hd := r.desc
  cases hk : (T t).k <;> rw [hk] at h hd <;> simp [TK.agg] at h <;> simp only [DescIs] at hd
  · obtain ⟨f, rfl, _⟩ := hd; rfl
  · rw [hd.1]

theorem run_load_cell {p : Addr} {v : Value} (h : w.cell? p = some v) : (load p).run P w = .ok v w := by simp [load, Sem.run, h]

/-- a variable in memory, read -/
theorem run_loadVar {t : TypeId} {i : TypeInfo} {z : Value} {d : TypeDesc} (r : TRow P T t i z d) {b off : Nat} {us : List Value} {cells : List D} {v : D} (hr : w.rangeAt b off us) (hc : RVL w A s β cells us)
    (hp : pack (T t).k.agg (T t).size (takeD (T t).size cells) = some v) : ∃ u, (loadVar t ⟨b, off, none⟩).run P w = .ok u w ∧ RV w A s β v u := by
  obtain ⟨hl, hp⟩ := pack_some hp
  rw [takeD_eq] at *
  have hc' := RVL.take (T t).size hc
  have hlen := hc'.length
  rw [hl] at hlen
  rcases hp with ⟨ha, rfl⟩ | ⟨ha, hv⟩
  · refine ⟨.agg (us.take (T t).size).toArray, ?_, ?_⟩
    · refine run_loadVar_mid w b off t (us.take (T t).size) d ?_ r.under (r.isRow ha) ?_
      · intro j v hj
        rw [List.getElem?_take] at hj
        split at hj
        · exact hr j v hj
        · cases hj
      · rw [hlen, r.info]; simp [r.size]
    · simp only [RV]
      exact ⟨_, rfl, by simpa using hc'⟩
  · rw [hv] at hc'
    simp only [RVL] at hc'
    obtain ⟨u, us', he, h1, h2⟩ := hc'
    have h0 : us[0]? = some u := by
      have hsz := r.one ha
      rw [hsz] at he
      cases us with
      | nil => simp at he
      | cons x y => simp at he; simp [he.1]
    refine ⟨u, ?_, h1⟩
    have hcell := hr 0 u h0
    simp only [loadVar, Sem.run_bind, r.agg, Result.andThen_ok, ha]
    simpa using run_load_cell hcell

theorem rangeAt_drop {b off n : Nat} {us : List Value} (h : w.rangeAt b off us) : w.rangeAt b (off + n) (us.drop n) := by
  intro j v hj
  rw [Nat.add_assoc]
  exact h _ v (by simpa using hj)

theorem out_load (hT : TOk P T) (hG : GOk G w0 A0) (h : Rel T w0 A0 Ω0 w A s β e a) {t : TypeId} {x : Operand} (ho : o.op = .load t x) (hk : reck Ar.real T o (opnd G e) (sget s) K) : Out P T w0 A0 Ω0 o e s w a K := by
  simp only [reck, ho] at hk
  have hx := opnd_rv hG h x
  have go : ∀ b off us cells v acc, a.eval x = .pointer (some ⟨b, off, none⟩) → w.rangeAt b off us → RVL w A s β cells us → (T t).k.known = true →
      pack (T t).k.agg (T t).size (takeD (T t).size cells) = some v → K ⟨v, acc, [], []⟩ → Out P T w0 A0 Ω0 o e s w a K := by
    intro b off us cells v acc hv hr hc hkn hp hk
    obtain ⟨i, z, d, r⟩ := hT.row t hkn
    obtain ⟨u, hu, hru⟩ := run_loadVar r hr hc hp
    refine Out.val hk h (v := u) ?_ hru
    simp only [execOp, ho, hv, Instr.loadAt, Instr.sureAddr, Sem.run_bind, Sem.run_pure, Result.andThen_ok, hu]
  split at hk
  · rename_i cells he
    rw [he] at hx; simp only [RV] at hx
    obtain ⟨b, off, us, hv, hA, hr, hu⟩ := hx
    obtain ⟨v, hkn, hp, hk⟩ := packK_some hk
    exact go b off us cells v _ hv hr hu.toRVL hkn hp hk
  · rename_i id i sz off he
    rw [he] at hx; simp only [RV] at hx
    split at hk
    · rename_i cells hob
      obtain ⟨v, hkn, hp, hk⟩ := packK_some hk
      obtain ⟨b, hb, hv, hz⟩ := hx.2 _ hob
      simp only at hz
      obtain ⟨b', cur, t', hb', hg, hn, hc⟩ := h.obj id _ hob
      rw [hb'] at hb
      simp [blk] at hb
      subst hb
      rw [hz, Nat.zero_add] at hv
      rw [dropD_eq] at hp
      have hr : w.rangeAt b' 0 cur.toList := by
        intro j u hj
        rw [Nat.zero_add, cell_of_row w b' j cur t' (0, 0) hg]
        simpa using hj
      refine go b' off (cur.toList.drop off) (cells.drop off) v _ hv ?_ (RVL.drop off hc) hkn hp hk
      simpa using rangeAt_drop (n := off) hr
    · rename_i et els hob
      split at hk
      · rename_i hsz
        have hsz : sz = (T et).size := by simpa using hsz
        obtain ⟨el, hel, hk⟩ := hk.get
        obtain ⟨v, hkn, hp, hk⟩ := packK_some hk
        obtain ⟨b, hb, hv, _⟩ := hx.2 _ hob
        obtain ⟨xs, hpos, hown, hs, hr, hn⟩ := h.obj id _ hob
        rcases hown.2 with ⟨hv0, _⟩ | ⟨g, cap, cur, hv0, _, hg, hc, _, _, htake⟩
        · rw [hv0] at hb; simp [blk] at hb
        · rw [hv0] at hb
          simp [blk] at hb
          subst hb
          have hra : w.rangeAt g 0 xs := by
            intro j u hj
            rw [Nat.zero_add, cell_of_row w g j cur et (0, 0) hg]
            rw [← htake, List.getElem?_take] at hj
            split at hj
            · simpa using hj
            · cases hj
          have hat := RILL.at hr hs hel
          rw [dropD_eq] at hp
          have hra2 : w.rangeAt g (i.toNat * sz) ((xs.drop (i.toNat * sz)).take sz) := by
            have h2 := rangeAt_drop (n := i.toNat * sz) hra
            rw [Nat.zero_add] at h2
            intro j u hj
            rw [List.getElem?_take] at hj
            split at hj
            · exact h2 j u hj
            · cases hj
          subst hsz
          exact go g (i.toNat * (T et).size + off) _ (el.drop off) v _ hv (rangeAt_drop hra2) (RVL.drop off hat.toRVL) hkn hp hk
      · exact hk.h.elim
    · exact hk.h.elim
  · exact hk.h.elim

/-! ### aggregates -/
theorem RV.cells {d : D} {v : Value} (hd : RV w A s β d v) (hc : cellsOk (cellsOf d) = true) : RVL w A s β (cellsOf d) v.cells.toList ∧ ∀ u ∈ v.cells.toList, u.oneCell' = true := by
  have hone : ∀ {d : D} {v : Value}, RV w A s β d v → cellsOk [d] = true → v.oneCell' = true := by
    intro d v hd hc
    cases d <;> simp [cellsOk] at hc <;> simp only [RV] at hd
    case imm => exact RI.one hd
    case gone => exact hd
    case ref => exact hd.1
    case ptr => exact hd.1
    case iptr => obtain ⟨b, o, us, rfl, _⟩ := hd; rfl
    case fn => obtain ⟨x, y, rfl, _⟩ := hd; rfl
    all_goals (subst hd; rfl)
  have hlist : ∀ {l : List D} {us : List Value}, RVL w A s β l us → cellsOk l = true → ∀ u ∈ us, u.oneCell' = true := by
    intro l
    induction l with
    | nil => intro us h _ u hu; simp [RVL] at h; subst h; cases hu
    | cons d r ih =>
      intro us h hc u hu
      simp only [RVL] at h
      obtain ⟨u', us', rfl, h1, h2⟩ := h
      have hcc : cellsOk [d] = true ∧ cellsOk r = true := by
        cases d <;> simp [cellsOk] at hc ⊢ <;> exact hc
      rcases List.mem_cons.1 hu with rfl | hu
      · exact hone h1 hcc.1
      · exact ih h2 hcc.2 u hu
  have hsingle : ∀ {d : D}, RV w A s β d v → cellsOk [d] = true → RVL w A s β [d] v.cells.toList ∧ ∀ u ∈ v.cells.toList, u.oneCell' = true := by
    intro d hd hc
    have h1 := hone hd hc
    have he : v.cells = #[v] := by cases v <;> first | rfl | (simp [Value.oneCell'] at h1)
    rw [he]
    refine ⟨by simp [RVL, hd], ?_⟩
    intro u hu
    simp at hu
    subst hu
    exact h1
  cases d with
  | agg cs =>
    simp only [RV] at hd
    obtain ⟨vs, rfl, hd⟩ := hd
    exact ⟨hd, hlist hd hc⟩
  | _ => exact hsingle hd hc

theorem RVL.write : ∀ {l : List D} {vs : List Value} {cs : List D} {us : Array Value} (off : Nat), RVL w A s β cs us.toList → RVL w A s β l vs → ∀ k,
    RVL w A s β (writeAt cs (off + k) l) ((vs.zipIdx k).foldl (fun cs p => cs.setIfInBounds (off + p.2) p.1) us).toList
  | [], vs, cs, us, off, h, hl, k => by simp [RVL] at hl; subst hl; simpa [writeAt] using h
  | d :: r, vs, cs, us, off, h, hl, k => by
    simp only [RVL] at hl
    obtain ⟨u, vs', rfl, h1, h2⟩ := hl
    simp only [writeAt, List.zipIdx_cons, List.foldl_cons]
    have := RVL.write (cs := setAt cs (off + k) d) (us := us.setIfInBounds (off + k) u) off (by simpa using RVL.set h1 (off + k) h) h2 (k + 1)
    simpa [Nat.add_assoc] using this

theorem writeAt_length : ∀ (l : List D) (cs : List D) (off : Nat), (writeAt cs off l).length = cs.length
  | [], cs, off => by simp [writeAt]
  | d :: r, cs, off => by simp [writeAt, writeAt_length r, setAt_eq]

theorem fill_rel {place : Nat → Option (Nat × Nat)} : ∀ {parts : List (Nat × D)} {vals : List (Nat × Value)} {cs cs' : List D} {us : Array Value}, fillD place cs parts = some cs' → RVL w A s β cs us.toList →
    vals.map (·.1) = parts.map (·.1) → RVL w A s β (parts.map (·.2)) (vals.map (·.2)) → ∃ us', Instr.fill place us vals = some us' ∧ RVL w A s β cs' us'.toList
  | [], vals, cs, cs', us, hf, h, hi, hv => by
    have : vals = [] := by simpa using hi
    subst this
    simp [fillD] at hf
    subst hf
    exact ⟨us, rfl, h⟩
  | (i, d) :: r, vals, cs, cs', us, hf, h, hi, hv => by
    match vals, hi, hv with
    | (j, v) :: vals', hi1, hv1 =>
      simp only [List.map_cons, List.cons.injEq] at hi1
      obtain ⟨rfl, hi2⟩ := hi1
      simp only [List.map_cons, RVL, List.cons.injEq] at hv1
      obtain ⟨u, us'', ⟨rfl, rfl⟩, h1, h2⟩ := hv1
      simp only [fillD] at hf
      simp only [Instr.fill]
      cases hp : place j with
      | none => simp [hp] at hf
      | some q =>
        obtain ⟨off, sz⟩ := q
        simp only [hp] at hf ⊢
        split at hf
        · rename_i hc hsz hlt
          rw [lenD_eq] at hsz hlt
          obtain ⟨h3, h4⟩ := h1.cells hc
          have hl3 := h3.length
          have hl4 := h.length
          have hsz : (cellsOf d).length = sz := by simpa using hsz
          have hlt : off + sz ≤ cs.length := by simpa using hlt
          have hs1 : v.cells.size = sz := by rw [← hsz, ← hl3]; simp
          have hs2 : us.size = cs.length := by rw [← hl4]; simp
          rw [if_neg (by simp [hs1, hs2]; omega)]
          have hw := RVL.write off h h3 0
          simp only [Nat.add_zero] at hw
          refine fill_rel hf ?_ hi2 h2
          have : (v.cells.zipIdx.foldl (fun cs (c, j) => cs.setIfInBounds (off + j) c) us) = ((v.cells.toList.zipIdx 0).foldl (fun cs p => cs.setIfInBounds (off + p.2) p.1) us) := by
            rw [← Array.foldl_toList, Array.toList_zipIdx]
          rw [this]
          exact hw
        · cases hf

theorem parts_rv (hG : GOk G w0 A0) (h : Rel T w0 A0 Ω0 w A s β e a) (parts : List (Nat × Operand)) :
    RVL w A s β ((parts.map fun (i, x) => (i, opnd G e x)).map (·.2)) ((parts.map fun (i, x) => (i, a.eval x)).map (·.2)) := by
  induction parts with
  | nil => simp [RVL]
  | cons p r ih =>
    simp only [List.map_cons, RVL]
    exact ⟨_, _, rfl, opnd_rv hG h p.2, ih⟩

theorem out_build (hT : TOk P T) (hG : GOk G w0 A0) (h : Rel T w0 A0 Ω0 w A s β e a) {t : TypeId} {parts : Array (Nat × Operand)} (ho : o.op = .build t parts) (hk : reck Ar.real T o (opnd G e) (sget s) K) : Out P T w0 A0 Ω0 o e s w a K := by
  simp only [reck, ho] at hk
  have hv := parts_rv hG h parts.toList
  have hidx : (parts.toList.map fun (i, x) => (i, a.eval x)).map (·.1) = (parts.toList.map fun (i, x) => (i, opnd G e x)).map (·.1) := by simp [Function.comp_def]
  have fin : ∀ cs us, RVL w A s β cs us.toList → K ⟨.agg cs, [], [], []⟩ → (Instr.build t (parts.map fun (i, x) => (i, a.eval x))).run P w = .ok (.agg us) w → Out P T w0 A0 Ω0 o e s w a K := by
    intro cs us hr hk hrun
    refine Out.val hk h (v := .agg us) ?_ (by simp only [RV]; exact ⟨us, rfl, hr⟩)
    simp only [execOp, ho, Sem.run_bind, hrun, Result.andThen_ok, Sem.run_pure]
  split at hk
  · rename_i fs hk1
    split at hk
    · rename_i cs hf
      obtain ⟨i, z, d, r⟩ := hT.row t (by rw [hk1]; rfl)
      have hd := r.desc; rw [hk1] at hd; simp only [DescIs] at hd
      obtain ⟨fields, rfl, hfs, hall⟩ := hd
      obtain ⟨us, hus, hr⟩ := fill_rel hf (zerosAre_ril w A r.zeros).toRVL hidx hv
      refine fin cs us hr hk (run_build w t _ us ?_)
      have hpl : fields.toList.mapM (fun f => (P.info? f.type).map fun i => (f.offset, i.size)) = some (fields.toList.map fun f => (f.offset, (T f.type).size)) := by
        have : ∀ l : List Field, (∀ f ∈ l, (f.offset, f.type) ∈ fs) → l.mapM (fun f => (P.info? f.type).map fun i => (f.offset, i.size)) = some (l.map fun f => (f.offset, (T f.type).size)) := by
          intro l
          induction l with
          | nil => intro _; rfl
          | cons f l ih =>
            intro hm
            obtain ⟨i2, z2, d2, r2⟩ := hT.row f.type (hall _ (hm f (by simp))).1
            simp [List.mapM_cons, r2.info, r2.size, ih (fun g hg => hm g (by simp [hg]))]
        exact this _ (fun f hf => by rw [← hfs]; exact List.mem_map.2 ⟨f, hf, rfl⟩)
      simp only [Program.built, r.info, r.under, r.zero, hpl]
      have hplace : (fun x => ((fields.toList.map fun f => (f.offset, (T f.type).size)).toArray)[x]?) = fieldAtT T fs := by
        funext x
        simp only [fieldAtT, nthF_eq, ← hfs]
        cases hx : fields[x]? <;> simp [hx]
      rw [hplace]
      simpa using hus
    · exact hk.h.elim
  · rename_i n el hk1
    split at hk
    · rename_i cs hf
      obtain ⟨i, z, d, r⟩ := hT.row t (by rw [hk1]; rfl)
      obtain ⟨hu, i', z', d', r', _⟩ := TRow.array hT hk1
      obtain ⟨us, hus, hr⟩ := fill_rel hf (zerosAre_ril w A r.zeros).toRVL hidx hv
      refine fin cs us hr hk (run_build w t _ us ?_)
      simp only [Program.built, r.info, hu, r.zero, r'.info, r'.size]
      simpa using hus
    · exact hk.h.elim
  · exact hk.h.elim
end
end Go.DW

/- Operations that make objects: their runs against the evaluator. -/
namespace Go.DW
open Go

theorem getAt_ids {e : List D} {t : Nat} {i : Id} (h : Ids (getAt e t) i) : IdsL e i := by
  induction e generalizing t with
  | nil => simp [getAt, Ids] at h
  | cons d r ih =>
    cases t with
    | zero => exact .inl (by simpa [getAt] using h)
    | succ n => exact .inr (ih (t := n) (by simpa [getAt] using h))

theorem ids_opnd {G : Nat → Option (List D)} {e : Env} {i : Id} (x : Operand) (h : Ids (opnd G e x) i) : IdsL e i := by
  cases x with
  | tmp t => exact getAt_ids (by simpa [opnd] using h)
  | const v =>
    simp only [opnd] at h
    unfold ofConst at h
    split at h <;> simp [Ids] at h
  | global g =>
    simp only [opnd] at h
    split at h <;> simp [Ids] at h
  | func f => simp [opnd, Ids, IdsL] at h

theorem ids_cellsOf {d : D} {i : Id} : IdsL (cellsOf d) i ↔ Ids d i := by
  cases d <;> simp [cellsOf, IdsL, Ids]

theorem refs_cellsOf (d : D) : refsOfL (cellsOf d) = refsOf d := by
  cases d <;> simp [cellsOf, refsOfL, refsOf]

theorem Free.dels {i : Id} {e : Env} {s : Sto} (h : Free i e s) (l : List Id) : Free i e (sdels s l) := by
  refine ⟨⟨by rw [sget_sdels]; split <;> simp [h.1.1], h.1.2⟩, h.2.1, fun j cells hj => ?_⟩
  rw [sget_sdels] at hj
  split at hj
  · cases hj
  · exact h.2.2 j cells hj

section
variable {P : Program} {T : TT} {G : Nat → Option (List D)} {w0 : World} {A0 : Nat → Prop} {Ω0 : List Nat} {w : World} {A : Nat → Prop} {s : Sto} {β : Id → Value} {e : Env} {a : Act} {K : Rec → Prop} {o : Oper}

/-- what may be read once these rows are only read -/
def thawA (l : List Id) (s : Sto) (β : Id → Value) (A : Nat → Prop) (b : Nat) : Prop := A b ∨ ∃ i t els, i ∈ l ∧ sget s i = some (.row t els) ∧ blk (β i) = some b

/-- objects are taken away; the rows among them are read from now on -/
theorem Rel.thaw' (h : Rel T w0 A0 Ω0 w A s β e a) (l : List Id) : Rel T w0 A0 Ω0 w (thawA l s β A) (sdels s l) β e a ∧ ∀ id ∈ l, ∀ t els, sget s id = some (.row t els) → RI w (thawA l s β A) (.imm els) (β id) := by
  have hr2 := h.gone (fun j => decide (j ∈ l)) (smap (goneG (fun j => decide (j ∈ l)) s) (sdels s l)) (by
    intro i
    rw [sget_smap, sget_sdels]
    by_cases hi : i ∈ l <;> simp [hi])
  have hga : goneA (fun j => decide (j ∈ l)) s β A = thawA l s β A := by
    funext b
    simp [goneA, thawA]
  rw [hga] at hr2
  have hA : ∀ b, A b → thawA l s β A b := fun b hb => .inl hb
  refine ⟨?_, ?_⟩
  · have hd := h.dels l
    refine { hd with env := RVL.mono hA (fun _ _ => rfl) _ _ (fun i _ => Agrees.refl _ β i) hd.env, obj := ?_, lt := hr2.lt, sub := fun b hb => hA b (h.sub b hb), sup := hr2.sup }
    intro i o' ho'
    have hr := hd.obj i o' ho'
    refine hr.mono hA (fun _ _ => rfl) rfl (fun b hb => ⟨rfl, ?_⟩) (fun _ _ k _ => Agrees.refl _ β k)
    rintro (hb1 | ⟨j, t', els', hp, hj, hbj⟩)
    · exact (hr.lt hb).2 hb1
    · rw [sget_sdels] at ho'
      split at ho'
      · cases ho'
      · rename_i hn
        have := h.inj i j b (by simp [ho']) (by simp [hj]) hb hbj
        subst this
        exact hn hp
  · intro id hid t els ho
    exact (h.obj id _ ho).freeze hA fun b hb => .inr ⟨id, t, els, hid, ho, hb⟩

theorem Rel.thaw (h : Rel T w0 A0 Ω0 w A s β e a) (l : List Id) : ∃ A1 : Nat → Prop, (∀ b, A b → A1 b) ∧ Rel T w0 A0 Ω0 w A1 (sdels s l) β e a ∧
    (∀ b, A1 b → A b ∨ ∃ i t els, i ∈ l ∧ sget s i = some (.row t els) ∧ blk (β i) = some b) ∧ ∀ id ∈ l, ∀ t els, sget s id = some (.row t els) → RI w A1 (.imm els) (β id) :=
  ⟨thawA l s β A, fun _ hb => .inl hb, (h.thaw' l).1, fun _ hb => hb, (h.thaw' l).2⟩

theorem lend_ri {A1 : Nat → Prop} (hA : ∀ b, A b → A1 b) {l : List Id} (hrow : ∀ id ∈ l, ∀ t els, sget s id = some (.row t els) → RI w A1 (.imm els) (β id)) :
    ∀ {cs : List D} {us : List Value}, RVL w A s β cs us → rowOk (lmapL (lendG (sget s)) cs) = true → (∀ i ∈ refsOfL cs, i ∈ l) → RIL w A1 (lmapL (lendG (sget s)) cs) us
  | [], us, h, _, _ => by simp [RVL] at h; simp [h, lmapL, RIL]
  | d :: r, us, h, ho, hl => by
    simp only [RVL] at h
    obtain ⟨u, us', rfl, h1, h2⟩ := h
    have hh : RI w A1 (lmap (lendG (sget s)) d) u ∧ rowOk (lmapL (lendG (sget s)) r) = true := by
      cases d <;> simp only [lmapL, lmap, lendG, rowOk, Bool.false_eq_true] at ho ⊢
      case gone => exact ⟨by simpa [RV, RI] using h1, ho⟩
      case int => exact ⟨by simpa [RV, RI] using h1, ho⟩
      case bool => exact ⟨by simpa [RV, RI] using h1, ho⟩
      case tt => exact ⟨by simpa [RV, RI] using h1, ho⟩
      case ff => exact ⟨by simpa [RV, RI] using h1, ho⟩
      case str => exact ⟨by simpa [RV, RI] using h1, ho⟩
      case nilp => exact ⟨by simpa [RV, RI] using h1, ho⟩
      case nili => exact ⟨by simpa [RV, RI] using h1, ho⟩
      case nils =>
        refine ⟨?_, ho⟩
        simp only [RV] at h1
        subst h1
        simp only [RI]
        exact ⟨none, 0, rfl, by simp, fun _ => rfl, by simp⟩
      case imm els =>
        refine ⟨?_, ho⟩
        simp only [RV] at h1
        exact RI.mono hA (fun _ _ => rfl) _ _ h1
      case iptr cells =>
        refine ⟨?_, ho⟩
        simp only [RV] at h1
        obtain ⟨b, off, us, rfl, _⟩ := h1
        simp [RI, Value.oneCell']
      case ref id =>
        simp only [RV] at h1
        cases hg : sget s id with
        | none => simp only [hg] at ho ⊢; exact ⟨by simpa [RI] using h1.1, ho⟩
        | some ob =>
          cases ob with
          | box c => simp only [hg] at ho ⊢; exact ⟨by simpa [RI] using h1.1, ho⟩
          | row t els =>
            simp only [hg] at ho ⊢
            refine ⟨?_, ho⟩
            rw [h1.2 (by simp [hg])]
            exact hrow id (hl id (by simp [refsOfL, refsOf])) t els hg
    simp only [lmapL, RIL]
    exact ⟨u, us', rfl, hh.1, lend_ri hA hrow h2 hh.2 (fun i hi => hl i (by simp [refsOfL, hi]))⟩

theorem rowOk_cellsOk (g : Id → Option O) : ∀ {cs : List D}, rowOk (lmapL (lendG g) cs) = true → cellsOk cs = true
  | [], _ => rfl
  | d :: r, h => by
    cases d <;> simp only [lmapL, lmap, lendG, rowOk, cellsOk, Bool.false_eq_true] at h ⊢
    case ref id =>
      revert h
      split <;> (intro h; first | exact rowOk_cellsOk g h | cases h)
    all_goals (first | exact rowOk_cellsOk g h | cases h)

/-- an object is made -/
theorem Out.new (h : Rel T w0 A0 Ω0 w A s β e a) {w' : World} {A1 : Nat → Prop} {l acc : List Id} {row : Option Nat} {d : Nat} {v : Value} {ob : O} {dv : D}
    (h1 : Rel T w0 A0 Ω0 w A1 (sdels s l) β e a) (hg : w.grownBy w' row)
    (hrow : ∀ b, row = some b → ¬ A1 b ∧ (∀ i, (sget (sdels s l) i).isSome = true → blk (β i) ≠ some b) ∧ (b ∈ Ω0 ∨ w0.heap.size ≤ b))
    (hf : Free (d, 0) e s) (hdst : o.dst = some d) (hb : ∀ b, blk v = some b → some b = row ∨ w.heap.size ≤ b)
    (hro : ∀ s' β', (∀ j, j ≠ (d, 0) → Agrees (sdels s l) s' β β' j) → β' (d, 0) = v → (∀ b, blk v = some b → ¬ A1 b) → RO T w' A1 s' β' (d, 0) ob)
    (hdv : ∀ s' β', sget s' (d, 0) = some ob → β' (d, 0) = v → RV w' A1 s' β' dv v)
    (hK : K ⟨dv, acc, l, [((d, 0), ob)]⟩) (hrun : (execOp a.eval o).run P w = .ok (.value v) w') : Out P T w0 A0 Ω0 o e s w a K := by
  have h2 := h1.grow hg hrow
  have hna : ∀ b, blk v = some b → ¬ A1 b := by
    intro b hbb
    rcases hb b hbb with h3 | h3
    · exact (hrow b h3.symm).1
    · exact fun hA => by have := h1.lt b hA; omega
  have hag : ∀ j, j ≠ (d, 0) → Agrees (sdels s l) (((d, 0), ob) :: sdels s l) β (fun j => if j = (d, 0) then v else β j) j := by
    intro j hj o' ho'
    rw [sget_cons, if_neg (fun e => hj e.symm)] at ho'
    exact ⟨o', ho', by simp [hj], .refl o'⟩
  have h3 := h2.add (v := v) (hf.dels l) (hro (((d, 0), ob) :: sdels s l) _ hag (by simp) hna) (by
    intro b hbb
    rcases hb b hbb with h3 | h3
    · exact ⟨(hrow b h3.symm).2.2, (hrow b h3.symm).2.1⟩
    · refine ⟨.inr (Nat.le_trans h1.size h3), fun j hj hbj => ?_⟩
      obtain ⟨o', ho'⟩ := Option.isSome_iff_exists.1 hj
      have := ((h1.obj j o' ho').lt hbj).1
      omega)
  have h4 := h3.put o.dst (hdv (((d, 0), ob) :: sdels s l) (fun j => if j = (d, 0) then v else β j) (by rw [sget_cons, if_pos rfl]) (by simp))
  exact ⟨_, _, w', A1, _, hK, .inl ⟨v, hrun, rfl⟩, h4⟩

theorem hrow_none {Ω0 : List Nat} {A1 : Nat → Prop} {s' : Sto} {β : Id → Value} {n : Nat} : ∀ b, (none : Option Nat) = some b → ¬ A1 b ∧ (∀ i, (sget s' i).isSome = true → blk (β i) ≠ some b) ∧ (b ∈ Ω0 ∨ n ≤ b) := fun b hb => by cases hb

/-- a variable in memory is made -/
theorem Out.newBox (h : Rel T w0 A0 Ω0 w A s β e a) {d : Nat} (hf : Free (d, 0) e s) (hdst : o.dst = some d) {cells : List D} {us : Array Value} {t : TypeId} (hc : RVL w A s β cells us.toList) (hi : ∀ i, IdsL cells i → i ≠ (d, 0))
    (hK : K ⟨.ptr (d, 0) 0 0 0, [], [], [((d, 0), .box cells)]⟩) (hrun : (execOp a.eval o).run P w = .ok (.value (.pointer (some ⟨w.heap.size, 0, none⟩))) (w.alloc (.cells us t))) : Out P T w0 A0 Ω0 o e s w a K := by
  have hA : ∀ b, A b → (w.alloc (.cells us t)).heap[b]? = w.heap[b]? := fun b hb => heap_alloc_old w _ (h.lt b hb)
  refine Out.new h (l := []) (h.dels []) (World.grownBy_alloc w _ none) hrow_none hf hdst (fun b hb => .inr (by simp [blk] at hb; omega)) ?_ ?_ hK hrun
  · intro s' β' hag hβ hna
    exact ⟨w.heap.size, us, t, hβ, heap_alloc_new w _, hna _ rfl, RVL.mono (fun _ h => h) hA _ _ (fun i hi' => hag i (hi i hi')) hc⟩
  · intro s' β' hs hβ
    simp only [RV]
    refine ⟨rfl, fun o' ho' => ⟨w.heap.size, by rw [hβ]; rfl, by simp, ?_⟩⟩
    rw [hs] at ho'
    cases ho'
    rfl

theorem out_alloc (hT : TOk P T) (hG : GOk G w0 A0) (h : Rel T w0 A0 Ω0 w A s β e a) (hf : ∀ d, o.dst = some d → Free (d, 0) e s) {t : TypeId} (ho : o.op = .alloc t) (hk : reck Ar.real T o (opnd G e) (sget s) K) : Out P T w0 A0 Ω0 o e s w a K := by
  simp only [reck, ho] at hk
  split at hk
  · rename_i d hdst hkn
    obtain ⟨i, z, dd, r⟩ := hT.row t hkn
    refine Out.newBox h (hf d hdst) hdst (us := z.cells) (t := t) (zerosAre_ril w A r.zeros).toRVL (fun i hi => ?_) hk ?_
    · exfalso
      have hz : ∀ (l : List D) (us : List Value), RIL w A l us → ¬ IdsL l i := by
        intro l
        induction l with
        | nil => intro us _ h; exact h
        | cons d r ih =>
          intro us h hi
          simp only [RIL] at h
          obtain ⟨u, us', rfl, h1, h2⟩ := h
          rcases hi with hi | hi
          · cases d <;> simp [RI, Ids] at h1 hi
          · exact ih _ h2 hi
      exact hz _ _ (zerosAre_ril w A r.zeros) hi
    · simp [execOp, ho, Instr.alloc, r.zeroValue, newVar, newRow]
  · exact hk.h.elim

theorem out_box (hT : TOk P T) (hG : GOk G w0 A0) (h : Rel T w0 A0 Ω0 w A s β e a) (hf : ∀ d, o.dst = some d → Free (d, 0) e s) {t : TypeId} {x : Operand} (ho : o.op = .box t x) (hk : reck Ar.real T o (opnd G e) (sget s) K) : Out P T w0 A0 Ω0 o e s w a K := by
  simp only [reck, ho] at hk
  split at hk
  · rename_i d hdst hsz hc
    have hx := opnd_rv hG h x
    obtain ⟨h1, h2⟩ := hx.cells hc
    refine Out.newBox h (hf d hdst) hdst (t := t) h1 (fun i hi he => ?_) hk ?_
    · subst he
      exact (hf d hdst).2.1 (ids_opnd x (ids_cellsOf.1 hi))
    · simp [execOp, ho, Instr.box, newVar, newRow]
  · exact hk.h.elim

/-- a row is made -/
theorem Out.newRow (h : Rel T w0 A0 Ω0 w A s β e a) {d : Nat} (hf : Free (d, 0) e s) (hdst : o.dst = some d) {el : TypeId} {els : List (List D)} {w' : World} {A1 : Nat → Prop} {l acc : List Id} {row : Option Nat} {v : Value} {xs : List Value}
    (h1 : Rel T w0 A0 Ω0 w A1 (sdels s l) β e a) (hg : w.grownBy w' row)
    (hrow : ∀ b, row = some b → ¬ A1 b ∧ (∀ i, (sget (sdels s l) i).isSome = true → blk (β i) ≠ some b) ∧ (b ∈ Ω0 ∨ w0.heap.size ≤ b))
    (hb : ∀ b, blk v = some b → some b = row ∨ w.heap.size ≤ b) (hpos : 0 < (T el).size) (hown : w'.ownsRow 0 el (T el).size v els.length xs)
    (hs : ∀ x ∈ els, x.length = (T el).size) (hr : RILL w A1 els xs)
    (hK : K ⟨.ref (d, 0), acc, l, [((d, 0), .row el els)]⟩) (hrun : (execOp a.eval o).run P w = .ok (.value v) w') : Out P T w0 A0 Ω0 o e s w a K := by
  have hA : ∀ b, A1 b → w'.heap[b]? = w.heap[b]? := fun b hb => hg.block b (h1.lt b hb) (fun e => (hrow b e.symm).1 hb)
  refine Out.new h h1 hg hrow hf hdst hb ?_ ?_ hK hrun
  · intro s' β' hag hβ hna
    exact ⟨xs, hpos, by rw [hβ]; exact hown, hs, RILL.mono (fun _ h => h) hA _ _ hr, fun b hbb => hna b (by rw [← hβ]; exact hbb)⟩
  · intro s' β' hs hβ
    simp only [RV]
    refine ⟨?_, fun _ => hβ.symm⟩
    rcases hown.2 with ⟨h1, _⟩ | ⟨g, cap, cur, h1, _⟩ <;> rw [h1] <;> rfl

theorem out_assign (hT : TOk P T) (hG : GOk G w0 A0) (h : Rel T w0 A0 Ω0 w A s β e a) (hf : makes o = true → ∀ d, o.dst = some d → Free (d, 0) e s) {x : Operand} (ho : o.op = .assign x) (hk : reck Ar.real T o (opnd G e) (sget s) K) : Out P T w0 A0 Ω0 o e s w a K := by
  simp only [reck, ho] at hk
  have hrun : (execOp a.eval o).run P w = .ok (.value (a.eval x)) w := by simp [execOp, ho]
  split at hk
  · rename_i d el hn hdst hk1
    have hv : a.eval x = .slice none 0 0 := by
      unfold nilConst at hn
      split at hn
      · rfl
      · cases hn
    obtain ⟨hu, i', z, d', r, hp, _⟩ := TRow.slice hT hk1
    rw [hv] at hrun
    refine Out.newRow h (hf (by simp [makes, ho, hn]) d hdst) hdst (w' := w) (row := none) (xs := []) (h.dels []) ⟨rfl, rfl, rfl, Nat.le_refl _, fun _ _ _ => rfl⟩ hrow_none (fun b hb => by simp [blk] at hb) hp (World.ownsRow_nil w 0 el _) (by simp) (by simp [RILL]) hk hrun
  · exact Out.val hk h hrun (opnd_rv hG h x)
end
end Go.DW

/- Rows made, joined, changed: their runs against the evaluator. -/
namespace Go.DW
open Go

section
variable {P : Program} {T : TT} {G : Nat → Option (List D)} {w0 : World} {A0 : Nat → Prop} {Ω0 : List Nat} {w : World} {A : Nat → Prop} {s : Sto} {β : Id → Value} {e : Env} {a : Act} {K : Rec → Prop} {o : Oper}

theorem RIL.one : ∀ {l : List D} {us : List Value}, RIL w A l us → ∀ u ∈ us, u.oneCell' = true
  | [], us, h, u, hu => by simp [RIL] at h; subst h; cases hu
  | d :: r, us, h, u, hu => by
    simp only [RIL] at h
    obtain ⟨v, us', rfl, h1, h2⟩ := h
    rcases List.mem_cons.1 hu with rfl | hu
    · exact h1.one
    · exact RIL.one h2 u hu
theorem RILL.one : ∀ {l : List (List D)} {us : List Value}, RILL w A l us → ∀ u ∈ us, u.oneCell' = true
  | [], us, h, u, hu => by simp [RILL] at h; subst h; cases hu
  | el :: r, us, h, u, hu => by
    simp only [RILL] at h
    obtain ⟨u1, u2, rfl, h1, h2⟩ := h
    rcases List.mem_append.1 hu with hu | hu
    · exact h1.one u hu
    · exact RILL.one h2 u hu
theorem RILL.append : ∀ {l l' : List (List D)} {us us' : List Value}, RILL w A l us → RILL w A l' us' → RILL w A (l ++ l') (us ++ us')
  | [], l', us, us', h, h' => by simp [RILL] at h; simpa [h] using h'
  | el :: r, l', us, us', h, h' => by
    simp only [RILL] at h
    obtain ⟨u1, u2, rfl, h1, h2⟩ := h
    simp only [List.cons_append, RILL]
    exact ⟨u1, u2 ++ us', by simp, h1, RILL.append h2 h'⟩

theorem seq_zip (f : Operand → Value) : ∀ (l : List (Nat × Operand)) (n : Nat), seqParts n l = true → (l.map fun (i, x) => (i, f x)) = ((l.map fun (_, x) => f x).zipIdx n).map fun x => (x.2, x.1)
  | [], n, _ => rfl
  | (i, x) :: r, n, h => by
    simp only [seqParts] at h
    split at h
    · rename_i hi
      have hi : i = n := by simpa using hi
      subst hi
      simp only [List.map_cons, List.zipIdx_cons, List.cons.injEq, true_and]
      exact seq_zip f r (i + 1) h
    · cases h

theorem parts_row {A1 : Nat → Prop} (hA : ∀ b, A b → A1 b) {l : List Id} (hrow : ∀ id ∈ l, ∀ t els, sget s id = some (.row t els) → RI w A1 (.imm els) (β id)) (hG : GOk G w0 A0) (h : Rel T w0 A0 Ω0 w A s β e a) {sz : Nat} :
    ∀ (parts : List (Nat × Operand)), sizesOk sz (parts.map fun (_, x) => lmapL (lendG (sget s)) (cellsOf (opnd G e x))) = true → (∀ i ∈ refsOfL (parts.map fun (_, x) => opnd G e x), i ∈ l) →
      RILL w A1 (parts.map fun (_, x) => lmapL (lendG (sget s)) (cellsOf (opnd G e x))) ((parts.map fun (_, x) => a.eval x).flatMap fun v => v.cells.toList) ∧
      (∀ v ∈ parts.map fun (_, x) => a.eval x, v.cells.size = sz) ∧ ∀ x ∈ (parts.map fun (_, x) => lmapL (lendG (sget s)) (cellsOf (opnd G e x))), x.length = sz
  | [], _, _ => by simp [RILL]
  | (i, x) :: r, hs, hl => by
    simp only [List.map_cons, sizesOk] at hs
    split at hs
    · rename_i h1 h2
      rw [lenD_eq] at h2
      have h2 : (lmapL (lendG (sget s)) (cellsOf (opnd G e x))).length = sz := by simpa using h2
      obtain ⟨i1, i2, i3⟩ := parts_row hA hrow hG h r hs (fun i hi => hl i (by simp [refsOfL, hi]))
      obtain ⟨h3, _⟩ := (opnd_rv hG h x).cells (rowOk_cellsOk _ h1)
      have h4 := lend_ri hA hrow h3 h1 (fun i hi => hl i (by rw [refs_cellsOf] at hi; simp [refsOfL, hi]))
      refine ⟨?_, ?_, ?_⟩
      · simp only [List.map_cons, List.flatMap_cons, RILL]
        exact ⟨_, _, rfl, h4, i1⟩
      · intro v hv
        simp only [List.map_cons, List.mem_cons] at hv
        rcases hv with rfl | hv
        · rw [← h2, ← h4.length]; simp
        · exact i2 v hv
      · intro y hy
        simp only [List.map_cons, List.mem_cons] at hy
        rcases hy with rfl | hy
        · exact h2
        · exact i3 y hy
    · cases hs

theorem out_buildSlice (hT : TOk P T) (hG : GOk G w0 A0) (h : Rel T w0 A0 Ω0 w A s β e a) (hf : ∀ d, o.dst = some d → Free (d, 0) e s) {t : TypeId} {len : Nat} {parts : Array (Nat × Operand)} (ho : o.op = .buildSlice t len parts)
    (hk : reck Ar.real T o (opnd G e) (sget s) K) : Out P T w0 A0 Ω0 o e s w a K := by
  simp only [reck, ho] at hk
  split at hk
  · rename_i el d hk1 hdst hseq hlen
    have hlen : len = parts.toList.length := by simpa using hlen
    split at hk
    · rename_i hsmall hsz
      obtain ⟨hu, i', z, d', r, hp, _⟩ := TRow.slice hT hk1
      obtain ⟨A1, hA, hth, hA1, hrow⟩ := h.thaw (refsOfL (parts.toList.map fun (_, x) => opnd G e x))
      obtain ⟨hr, hs1, hs2⟩ := parts_row hA hrow hG h parts.toList hsz (fun i hi => hi)
      have hz : z.cells.size = (T el).size := by
        have := (zerosAre_ril w A r.zeros).length
        rw [r.zlen] at this
        simpa using this
      have hnl : ((parts.toList.map fun (_, x) => a.eval x).flatMap fun v => v.cells.toList).length = len * (T el).size := by
        rw [hr.length hs2, hlen]; simp
      have hparts : (parts.map fun (i, x) => (i, a.eval x)).toList = ((parts.toList.map fun (_, x) => a.eval x).zipIdx 0).map fun x => (x.2, x.1) := by
        rw [Array.toList_map]; exact seq_zip a.eval parts.toList 0 hseq
      have hsm : len * (T el).size ≤ 16777216 := by simpa using hsmall
      have hfill : ∀ cs : Array Value, cs.size = len * (T el).size → Instr.fill (fun i => some (i * (T el).size, (T el).size)) cs (parts.map fun (i, x) => (i, a.eval x)).toList = some ((parts.toList.map fun (_, x) => a.eval x).flatMap fun v => v.cells.toList).toArray := by
        intro cs hcs
        rw [hparts]
        exact Great.fill_whole hp _ cs hs1 (by rw [hcs, hlen]; simp)
      have hrun : (Instr.buildSlice t len (parts.map fun (i, x) => (i, a.eval x))).run P w = .ok (.slice (some ⟨w.heap.size, 0, none⟩) len len) (w.alloc (.cells ((parts.toList.map fun (_, x) => a.eval x).flatMap fun v => v.cells.toList).toArray el)) := by
        by_cases h0 : len * (T el).size = 0
        · have hl0 : len = 0 := by
            rcases Nat.mul_eq_zero.1 h0 with h0 | h0 <;> omega
          have hp0 : parts = #[] := by
            apply Array.eq_empty_of_size_eq_zero
            have := hlen; simp at this; omega
          subst hp0; subst hl0
          simp [Instr.buildSlice, run_underlying hu, Go.sizeOf, typeInfo, r.info, newRow, Instr.fill]
          congr 2
          exact Array.eq_empty_of_size_eq_zero (by simp)
        · refine run_buildSlice w t el len _ _ i' z hu r.info r.zero (by rw [r.size]; omega) (by rw [r.size]; omega) ?_
          rw [r.size]
          exact hfill _ (by simp)
      refine Out.newRow h (hf d hdst) hdst (v := .slice (some ⟨w.heap.size, 0, none⟩) len len) (xs := (parts.toList.map fun (_, x) => a.eval x).flatMap fun v => v.cells.toList) (row := none) hth (World.grownBy_alloc w _ none) hrow_none (fun b hb => .inr (by simp [blk] at hb; omega)) hp ?_ hs2 hr hk (w' := w.alloc (.cells ((parts.toList.map fun (_, x) => a.eval x).flatMap fun v => v.cells.toList).toArray el)) ?_
      · have hln : len ≤ len * (T el).size := Nat.le_mul_of_pos_right len hp
        have := World.ownsRow_lit (base := 0) (e := el) (size := (T el).size) w ((parts.toList.map fun (_, x) => a.eval x).flatMap fun v => v.cells.toList).toArray len (Nat.zero_le _) (by simp only [maxLen]; omega) (by simpa using hnl)
        simpa [hlen] using this
      · simp only [execOp, ho, Sem.run_bind, hrun, Result.andThen_ok, Sem.run_pure]
    · exact hk.h.elim
  · exact hk.h.elim

theorem made_rill {z : Array Value} {zs : List D} {sz : Nat} (hz : RIL w A zs z.toList) (hs : z.size = sz) (hp : 0 < sz) : ∀ (n k : Nat), RILL w A (List.replicate n zs) ((List.range' (k * sz) (n * sz)).map (fun i => z[i % z.size]!))
  | 0, k => by simp [RILL]
  | n + 1, k => by
    simp only [List.replicate_succ, RILL]
    refine ⟨z.toList, (List.range' ((k + 1) * sz) (n * sz)).map (fun i => z[i % z.size]!), ?_, hz, made_rill hz hs hp n (k + 1)⟩
    have e1 : (List.range' (k * sz) ((n + 1) * sz)) = List.range' (k * sz) sz ++ List.range' ((k + 1) * sz) (n * sz) := by
      rw [Nat.add_mul n, Nat.one_mul, Nat.add_comm (n * sz), Nat.add_mul k, Nat.one_mul, List.range'_append_1]
    rw [e1, List.map_append]
    congr 1
    apply List.ext_getElem
    · simp [hs]
    · intro i h1 h2
      simp only [List.length_map, List.length_range'] at h1
      have hm : (k * sz + i) % z.size = i := by
        rw [hs, Nat.mul_comm, Nat.mul_add_mod, Nat.mod_eq_of_lt h1]
      simp only [List.getElem_map, List.getElem_range', Nat.one_mul, hm]
      simp at h2
      simp [h2]

theorem madeCells_eq (z : Array Value) (n : Nat) : (madeCells z n).toList = (List.range' 0 n).map (fun i => z[i % z.size]!) := by
  simp [madeCells, Array.toList_range, List.range_eq_range']

theorem out_makeSlice (hT : TOk P T) (hG : GOk G w0 A0) (h : Rel T w0 A0 Ω0 w A s β e a) (hf : ∀ d, o.dst = some d → Free (d, 0) e s) {t : TypeId} {l cp : Operand} (ho : o.op = .makeSlice t l cp)
    (hk : reck Ar.real T o (opnd G e) (sget s) K) : Out P T w0 A0 Ω0 o e s w a K := by
  simp only [reck, ho] at hk
  have hl := opnd_rv hG h l
  have hc := opnd_rv hG h cp
  split at hk
  · rename_i el d n m hk1 hdst hel hec
    rw [hel] at hl; rw [hec] at hc
    simp only [RV] at hl hc
    have hnm : n = m := hk.l.h
    have h0 : 0 ≤ n := hk.r.l.h
    have hfit : n * (T el).bytes ≤ 140737488355328 := hk.r.r.l.h
    have hk3 := hk.r.r.r
    subst hnm
    obtain ⟨hu, i', z, d', r, hp, hbp⟩ := TRow.slice hT hk1
    obtain ⟨k, rfl⟩ := Int.eq_ofNat_of_zero_le h0
    have hfn : (k : Int) * ((T el).bytes : Int) ≤ 140737488355328 := hfit
    have hfn2 : k * (T el).bytes ≤ 140737488355328 := by
      have : ((k * (T el).bytes : Nat) : Int) ≤ 140737488355328 := by rw [Int.natCast_mul]; exact hfn
      omega
    have hkb : k ≤ k * (T el).bytes := Nat.le_mul_of_pos_right k hbp
    obtain ⟨w', hrun, hown, hg⟩ := run_make_full (P := P) w 0 t el i' z (T el).size hu r.info r.zero r.size .i64 .i64 k (by rw [r.bytes, Nat.mul_comm]; omega) (by simp only [maxLen]; omega) (Nat.zero_le _)
    have hz : z.cells.size = (T el).size := by
      have := (zerosAre_ril w A r.zeros).length
      rw [r.zlen] at this
      simpa using this
    have hr := made_rill (zerosAre_ril w A r.zeros) hz hp k 0
    rw [Nat.zero_mul, ← madeCells_eq] at hr
    have herep : Ar.real.erep (k : Int) (T el).zero = List.replicate k (T el).zero := by simp [Ar.real]
    rw [herep] at hk3
    refine Out.newRow h (hf d hdst) hdst (v := .slice (some ⟨w.heap.size, 0, none⟩) k k) (row := none) (h.dels []) hg hrow_none (fun b hb => .inr (by simp [blk] at hb; omega)) hp (by simpa using hown) ?_ hr hk3 ?_
    · intro x hx
      rw [(List.mem_replicate.1 hx).2, r.zlen]
    · simp only [execOp, ho, hl, hc, Sem.run_bind, hrun, Result.andThen_ok, Sem.run_pure]
  · exact hk.h.elim
end
end Go.DW
