/-
  The engine, part A: what it computes with. A compiled form of a program's code (types resolved), values and blocks without capacities and addresses, and an evaluator that gives the weakest precondition of code: 'wpx'.
-/
import Derived.WalkKit
import Derived.WalkSpells
import Derived.WalkLawsBesides
set_option linter.unusedSimpArgs false
set_option linter.unusedVariables false
namespace Go.Proofs.YtafchcmemeinlaaDoor
open Go.RowKit

/-- values: a slice knows its block, how many cells the block had, its first cell, its length and the size of an element -/
inductive AV where
  | undef
  | opq (i : Nat)
  | bool (b : Bool)
  | int (k : IntKind) (n : Int)
  | str (s : List UInt8)
  | nilp
  | ptr (id tot off : Nat)
  | gptr (g off : Nat)
  | nils
  | sl (id tot off len sz : Nat)
  | nilf
  | fn (f : Fn) (first cap : List AV)
  | yld (u : Nat)
  | nili
  | iface (t : TypeId) (v : AV)
  | agg (cs : List AV)
  | tup (vs : List AV)
  | lst (t : Nat) (l : List AV) (len sz : Nat)
  | lptr (t : Nat) (l : List AV) (off : Nat)
  deriving Inhabited

inductive AO where
  | t (n : Nat)
  | c (v : AV)
  deriving Inhabited

/-- a part of a value: whether it is of several cells, where it begins, its size -/
structure Pt where
  agg : Bool
  off : Nat
  size : Nat
  deriving Inhabited

mutual
/-- how two values of a type are compared -/
inductive Sh where
  | bl | it | st | ptr | slc | fnc | ifc
  | agg (fs : Fs)
  | bad
inductive Fs where
  | nil
  | cons (p : Pt) (sh : Sh) (fs : Fs)
end
instance : Inhabited Sh := ⟨.bad⟩
instance : Inhabited Fs := ⟨.nil⟩

def Fs.of : List (Pt × Sh) → Fs
  | [] => .nil
  | (p, sh) :: l => .cons p sh (Fs.of l)

inductive CV where
  | toInt (k : IntKind) | toBytes | ofBytes | same | bad
  deriving Inhabited

inductive AOp where
  | mv (x : AO)
  | pick (c a b : AO)
  | box (x : AO)
  | build (zero : List AV) (parts : List (Nat × Nat × AO))
  | bsl (zero : List AV) (size len : Nat) (parts : List (Nat × Nat × AO))
  | ld (agg : Bool) (size : Nat) (a : AO)
  | st (size : Nat) (a x : AO)
  | nilck (x : AO)
  | bin (op : BinOp) (sh : Sh) (x y : AO)
  | un (op : UnOp) (x : AO)
  | conv (k : CV) (x : AO)
  | mark (x : AO)
  | mkif (t : Nat) (x : AO)
  | mkfn (f : Fn) (first cap : List AO)
  | mksl (zero : List AV) (size bytes : Nat) (same : Bool) (l c : AO)
  | slS (x : AO) (lo hi : Option AO)
  | slL (size : Nat) (x : AO) (lo hi : Option AO)
  | slA (n size : Nat) (x : AO) (lo hi : Option AO)
  | fa (off : Nat) (x : AO)
  | fld (p : Pt) (x : AO)
  | iaA (n size : Nat) (x i : AO)
  | iaL (size : Nat) (x i : AO)
  | ixA (n : Nat) (p : Pt) (x i : AO)
  | ixS (x i : AO)
  | ext (x : AO) (i : Nat)
  | call (f : AO) (args : List AO)
  | lenS (x : AO) | lenL (x : AO) | lenA (n : Nat)
  | app (size bytes : Nat) (zs : Option (List AV)) (x y : AO)
  | copy (size : Nat) (x y : AO)
  | s2a (n : Nat) (x : AO)
  | mx (xs : List AO) | mn (xs : List AO)
  | bad (why : String)
  deriving Inhabited

structure AOper where
  dst : Option Nat
  op : AOp
  guard : Option (Nat × Bool)
  ix : Nat := 0
  bf : Nat := 0
  deriving Inhabited

/-! ## cells, references -/

def cellsO : AV → Option (List AV)
  | .undef => none
  | .tup _ => none
  | .agg cs => some cs
  | v => some [v]

def one : AV → Bool
  | .undef => false
  | .tup _ => false
  | .agg _ => false
  | _ => true

def oneL : List AV → Bool
  | [] => true
  | v :: l => one v && oneL l

mutual
/-- all blocks that v refers to lie below b -/
def old (b : Nat) : AV → Bool
  | .ptr id _ _ => Nat.blt id b
  | .sl id _ _ _ _ => Nat.blt id b
  | .fn _ x y => oldL b x && oldL b y
  | .iface _ v => old b v
  | .agg l => oldL b l
  | .tup l => oldL b l
  | _ => true
def oldL (b : Nat) : List AV → Bool
  | [] => true
  | v :: l => old b v && oldL b l
end

mutual
def noY : AV → Bool
  | .fn _ x y => noYL x && noYL y
  | .yld _ => false
  | .iface _ v => noY v
  | .agg l => noYL l
  | .tup l => noYL l
  | _ => true
def noYL : List AV → Bool
  | [] => true
  | v :: l => noY v && noYL l
end

mutual
/-- a value refers not to a block -/
def nor (i : Nat) : AV → Bool
  | .ptr id _ _ => !Nat.beq id i
  | .sl id _ _ _ _ => !Nat.beq id i
  | .fn _ x y => norL i x && norL i y
  | .iface _ v => nor i v
  | .agg l => norL i l
  | .tup l => norL i l
  | _ => true
def norL (i : Nat) : List AV → Bool
  | [] => true
  | v :: l => nor i v && norL i l
end

inductive BK where | ro | exact | grow
  deriving Inhabited, DecidableEq

/-- a block: lf says that no cell refers to a block -/
structure Blk where
  k : BK
  lf : Bool
  cs : List AV
  deriving Inhabited

def oldH (b : Nat) : List Blk → Bool
  | [] => true
  | x :: l => (x.lf || oldL b x.cs) && oldH b l

def mkBlk (k : BK) (cs : List AV) : Blk := ⟨k, oldL 0 cs, cs⟩

/-! ## the slots of a frame -/

inductive T where
  | e
  | n (l : T) (v : AV) (r : T)
  deriving Inhabited

def T.get : T → Nat → AV
  | .e, _ => .undef
  | .n l v r, k => match k with
    | 0 => v
    | k + 1 => if k % 2 = 0 then l.get (k / 2) else r.get (k / 2)

def T.put : Nat → T → Nat → AV → T
  | 0, t, _, _ => t
  | d + 1, .e, k, v => match k with
    | 0 => .n .e v .e
    | k + 1 => if k % 2 = 0 then .n (T.put d .e (k / 2) v) .undef .e else .n .e .undef (T.put d .e (k / 2) v)
  | d + 1, .n l x r, k, v => match k with
    | 0 => .n l v r
    | k + 1 => if k % 2 = 0 then .n (T.put d l (k / 2) v) x r else .n l x (T.put d r (k / 2) v)

def T.mk' : T → AV → T → T
  | .e, .undef, .e => .e
  | l, v, r => .n l v r

/-- the slots that a mask names -/
def T.keep (mask : Nat) : T → (a b : Nat) → T
  | .e, _, _ => .e
  | .n l v r, a, b => T.mk' (l.keep mask (2 * a) (a + b)) (bif mask.testBit b then v else .undef) (r.keep mask (2 * a) (2 * a + b))

def T.old (b : Nat) : T → Bool
  | .e => true
  | .n l v r => YtafchcmemeinlaaDoor.old b v && l.old b && r.old b

def T.nor (i : Nat) : T → Bool
  | .e => true
  | .n l v r => YtafchcmemeinlaaDoor.nor i v && l.nor i && r.nor i

def norH (i : Nat) : List Blk → Bool
  | [] => true
  | x :: l => (x.lf || norL i x.cs) && norH i l

def mkArgs : Nat → List AV → T → T
  | _, [], t => t
  | i, v :: l, t => mkArgs (i + 1) l (T.put 12 t i v)

structure S where
  tm : T
  hp : List Blk
  deriving Inhabited

inductive Ex where
  | nrm | exit (id : Nat) | ret | pan (v : AV)
  deriving Inhabited

inductive Out where
  | ret (v : AV) | pan (v : AV)
  deriving Inhabited

inductive AC where
  | skip
  | region (ops : List AOper)
  | drawn (ops : List AOper)
  | seq (a b : AC)
  | cond (c : AO) (a b : AC)
  | block (id : Nat) (b : AC)
  | loop (id lv : Nat) (b : AC)
  | exit (id : Nat)
  | ret
  | sum (g : S → (Ex → S → Prop) → Prop)
  | rfn (g : AO) (ps : List Nat) (asg body : AC)
  | bad (why : String)
  deriving Inhabited

/-- where a range over a function stands: a round may begin, is under way, or was left by a jump -/
inductive Lst where
  | ready | busy | done (e : Ex)
  deriving Inhabited

/-- a range over a function that is under way: its number, the slots at its beginning, its variables, its code -/
structure Lp where
  u : Nat
  tm : T
  ps : List Nat
  asg : AC
  body : AC
  st : Lst
  f : Nat
  deriving Inhabited

/-- what is counted: ranges over functions; those under way; the function that runs -/
structure Gh where
  f : Nat := 0
  n : Nat := 0
  lps : List Lp := []
  deriving Inhabited

def Gh.at (g : Gh) (f : Nat) : Gh := { g with f := f }
/-- the number of an operation, for hints -/
def Gh.key (g : Gh) : Option Nat → Nat
  | some d => g.f * 4096 + d
  | none => g.f * 4096 + 4095

def findLp (u : Nat) : List Lp → Option Lp
  | [] => none
  | p :: l => bif Nat.beq p.u u then some p else findLp u l

def setLp (u : Nat) (st : Lst) : List Lp → List Lp
  | [] => []
  | p :: l => bif Nat.beq p.u u then { p with st := st } :: l else p :: setLp u st l

def Gh.set (g : Gh) (u : Nat) (st : Lst) : Gh := { g with lps := setLp u st g.lps }

def Gh.isReady (g : Gh) (u : Nat) : Bool := match findLp u g.lps with
  | some p => (match p.st with | .ready => true | _ => false)
  | none => false

/-- the variables of a range get their values -/
def putAll : T → List Nat → List AV → T
  | t, p :: ps, v :: vs => putAll (T.put 12 t p v) ps vs
  | t, _, _ => t

inductive ARes where
  | tmp (t : Nat)
  | cell (a : Nat) (agg : Bool) (size : Nat)
  deriving Inhabited

structure AFn where
  res : List ARes
  body : AC
  deriving Inhabited

def S.ev (s : S) : AO → AV
  | .t n => s.tm.get n
  | .c v => v

def S.put (s : S) (d : Option Nat) (v : AV) : S := match d with
  | some k => { s with tm := T.put 12 s.tm k v }
  | none => s

/-- a form of values -/
inductive Pa where
  | int (k : IntKind) | bool | str | agg (l : List Pa) | sl (sz : Nat) | any | lit (v : AV) | split
  deriving Inhabited

/-- a fact that is left as it is written -/
structure Lf (p : Prop) : Prop where
  h : p

/-- what is known at the beginning of each round of a loop: states that are named by the elements of a type -/
structure LInv where
  α : Type
  pre : α → Prop
  st : α → S
  mu : α → Nat

/-- what the evaluator is given: the functions' code, contracts of functions, package variables; invariants of loops; results that it is told -/
structure Env where
  fn : Nat → Option AFn
  sm : Nat → Option (List AV → List Blk → (Out → List Blk → Prop) → Prop) := fun _ => none
  gl : Nat → Option (List AV) := fun _ => none
  inv : Nat → Option (S → List (List LInv)) := fun _ => none
  hv : Nat → Option Pa := fun _ => none
  hb : Nat → Option Bool := fun _ => none
  hz : Nat → Bool := fun _ => false
  hf : Nat → List (Nat × Nat) := fun _ => []

def ck (_E : Env) (b : Bool) (c : Prop) : Prop := bif b then c else False

mutual
/-- some value of a form -/
def exP : Pa → (AV → Prop) → Prop
  | .int k, K => ∃ n : Int, K (.int k n)
  | .bool, K => ∃ b : Bool, K (.bool b)
  | .str, K => ∃ s : List UInt8, K (.str s)
  | .agg l, K => exPL l fun vs => K (.agg vs)
  | .sl sz, K => ∃ id tot off len : Nat, K (.sl id tot off len sz)
  | .any, K => ∃ v : AV, K v
  | .lit v, K => K v
  | .split, _ => False
def exPL : List Pa → (List AV → Prop) → Prop
  | [], K => K []
  | p :: l, K => exP p fun v => exPL l fun vs => K (v :: vs)
end

def hint (E : Env) (k : Nat) (v : AV) (c : AV → Prop) : Prop := match E.hv k with
  | none => (match v with
    | .bool b => bif b then c (.bool true) else c (.bool false)
    | v => c v)
  | some .split => c v
  | some p => exP p fun u => v = u ∧ c u

/-! ## operations -/

def setRange (l : List AV) (off : Nat) (vs : List AV) : List AV := l.take off ++ vs ++ l.drop (off + vs.length)

def lenAt (H : List Blk) (id : Nat) : Option Nat := match H[id]? with
  | some b => some b.cs.length
  | none => none

def cur (H : List Blk) (id tot : Nat) : Bool := match H[id]? with
  | some b => Nat.beq b.cs.length tot
  | none => false

def cellsAt (H : List Blk) (id off size : Nat) : List AV := match H[id]? with
  | some b => (b.cs.drop off).take size
  | none => []

/-- which cells were read -/
structure Rdc where
  id : Nat
  off : Nat
  size : Nat
  deriving Inhabited

structure LR where
  v : AV
  pre : Bool := true
  nb : Option Blk := none
  rd : List Rdc := []

def asNat : AV → Option (Bool × Nat)
  | .int _ n => some (decide (0 ≤ n), n.toNat)
  | _ => none

def toB : AV → UInt8
  | .int _ n => UInt8.ofNat n.toNat
  | _ => 0

def allU8 : List AV → Bool
  | [] => true
  | .int .u8 _ :: l => allU8 l
  | _ :: _ => false

def ofBytes (l : List UInt8) : List AV := l.map fun c => .int .u8 (c.toNat : Int)

def ltB : List UInt8 → List UInt8 → Bool
  | _, [] => false
  | [], _ :: _ => true
  | a :: x, b :: y => decide (a.toNat < b.toNat) || (a.toNat == b.toNat && ltB x y)

def eqB : List UInt8 → List UInt8 → Bool
  | [], [] => true
  | a :: x, b :: y => Nat.beq a.toNat b.toNat && eqB x y
  | _, _ => false

def intBits (op : BinOp) (k : IntKind) (x y : Int) : Option AV :=
  let a := (x % (2 ^ k.bits : Int)).toNat
  let b := (y % (2 ^ k.bits : Int)).toNat
  match op with
  | .and => some (.int k (k.wrap ((a &&& b : Nat) : Int)))
  | .or => some (.int k (k.wrap ((a ||| b : Nat) : Int)))
  | .xor => some (.int k (k.wrap ((a ^^^ b : Nat) : Int)))
  | .andNot => some (.int k (k.wrap ((a &&& (2 ^ k.bits - 1 - b) : Nat) : Int)))
  | _ => none

def partOf (p : Pt) (l : List AV) : AV := bif p.agg then .agg ((l.drop p.off).take p.size) else l.getD p.off .undef

mutual
/-- whether two values are equal, and the blocks whose pointers must not be stale -/
def eqV : Sh → AV → AV → Option (List (Nat × Nat) × Bool)
  | .bl, .bool a, .bool b => some ([], a == b)
  | .it, .int k a, .int k' b => if k = k' then some ([], a == b) else none
  | .st, .str a, .str b => some ([], eqB a b)
  | .ptr, .nilp, .nilp => some ([], true)
  | .ptr, .nilp, .ptr id tot _ => some ([(id, tot)], false)
  | .ptr, .ptr id tot _, .nilp => some ([(id, tot)], false)
  | .slc, .nils, .nils => some ([], true)
  | .slc, .nils, .sl id tot _ _ _ => some ([(id, tot)], false)
  | .slc, .sl id tot _ _ _, .nils => some ([(id, tot)], false)
  | .fnc, .nilf, .nilf => some ([], true)
  | .fnc, .nilf, .fn .. => some ([], false)
  | .fnc, .fn .., .nilf => some ([], false)
  | .ifc, .nili, .nili => some ([], true)
  | .ifc, .nili, .iface .. => some ([], false)
  | .ifc, .iface .., .nili => some ([], false)
  | .agg fs, .agg a, .agg b => match eqF fs a b with
    | some (true, c, r) => some (c, r)
    | _ => none
  | _, _, _ => none
def eqF : Fs → List AV → List AV → Option (Bool × List (Nat × Nat) × Bool)
  | .nil, _, _ => some (true, [], true)
  | .cons p sh fs, x, y =>
    match eqV sh (partOf p x) (partOf p y), eqF fs x y with
    | some (c, r), some (b, c', r') => some (b && (p.agg || Nat.blt p.off x.length && Nat.blt p.off y.length), c ++ c', r && r')
    | _, _ => none
end

/-- what a binary operation asks, the pointers that it looks at, its value -/
def binop (op : BinOp) (sh : Sh) (x y : AV) : Option (Bool × List (Nat × Nat) × AV) :=
  match op, x, y with
  | .shl, .int k a, .int _ b => some (decide (0 ≤ b), [], .int k (k.wrap (a * 2 ^ (min b.toNat k.bits))))
  | .shr, .int k a, .int _ b => some (decide (0 ≤ b), [], .int k (a.fdiv (2 ^ (min b.toNat k.bits))))
  | _, .int k a, .int k' b => if k = k' then (match op with
    | .add => some (true, [], .int k (k.wrap (a + b)))
    | .sub => some (true, [], .int k (k.wrap (a - b)))
    | .mul => some (true, [], .int k (k.wrap (a * b)))
    | .quo => some (b != 0, [], .int k (k.wrap (a.tdiv b)))
    | .rem => some (b != 0, [], .int k (a.tmod b))
    | .and | .or | .xor | .andNot => (intBits op k a b).map fun v => (true, [], v)
    | .eql => some (true, [], .bool (a == b))
    | .neq => some (true, [], .bool (a != b))
    | .lss => some (true, [], .bool (decide (a < b)))
    | .leq => some (true, [], .bool (decide (a ≤ b)))
    | .gtr => some (true, [], .bool (decide (a > b)))
    | .geq => some (true, [], .bool (decide (a ≥ b)))
    | _ => none) else none
  | _, .str a, .str b => match op with
    | .add => some (decide (a.length + b.length ≤ 9223372036854775807), [], .str (a ++ b))
    | .eql => some (true, [], .bool (eqB a b))
    | .neq => some (true, [], .bool (!eqB a b))
    | .lss => some (true, [], .bool (ltB a b))
    | .leq => some (true, [], .bool (ltB a b || eqB a b))
    | .gtr => some (true, [], .bool (!(ltB a b || eqB a b)))
    | .geq => some (true, [], .bool (!ltB a b))
    | _ => none
  | .eql, .agg a, .agg b => match sh with
    | .agg fs => (match eqF fs a b with | some (p, c, r) => some (p, c, .bool r) | none => none)
    | _ => none
  | .neq, .agg a, .agg b => match sh with
    | .agg fs => (match eqF fs a b with | some (p, c, r) => some (p, c, .bool !r) | none => none)
    | _ => none
  | .eql, x, y => match eqV sh x y with
    | some (c, r) => some (true, c, .bool r)
    | none => none
  | .neq, x, y => match eqV sh x y with
    | some (c, r) => some (true, c, .bool !r)
    | none => none
  | _, _, _ => none

def unop (op : UnOp) (x : AV) : Option AV :=
  match op, x with
  | .neg, .int k n => some (.int k (k.wrap (0 - n)))
  | .xor, .int k n => intBits .xor k (if k.signed then -1 else k.max) n
  | .not, .bool b => some (.bool !b)
  | _, _ => none

def fillP (ev : AO → AV) : List AV → List (Nat × Nat × AO) → Option (Bool × List AV)
  | cs, [] => some (true, cs)
  | cs, (o, n, x) :: ps => match cellsO (ev x) with
    | none => none
    | some v => match fillP ev (setRange cs o v) ps with
      | some (b, r) => some (b && Nat.beq v.length n && Nat.ble (o + n) cs.length, r)
      | none => none

def bnd (ev : AO → AV) (o : Option AO) (d : Nat) : Option (Bool × Nat) := match o with
  | none => some (true, d)
  | some x => asNat (ev x)

def imin (x y : Int) : Int := if y < x then y else x
def imax (x y : Int) : Int := if y > x then y else x
def minL (k : IntKind) (x : Int) : List AV → Option AV
  | [] => some (.int k x)
  | .int _ y :: l => minL k (imin x y) l
  | _ :: _ => none
def maxL (k : IntKind) (x : Int) : List AV → Option AV
  | [] => some (.int k x)
  | .int _ y :: l => maxL k (imax x y) l
  | _ :: _ => none

def pairOf (b : Option (Bool × Nat)) (c : Option (Bool × Nat)) : Option (Bool × Nat × Nat) := match b, c with
  | some (p, l), some (q, h) => some (p && q, l, h)
  | _, _ => none

def allCur (cu : Nat → Nat → Bool) : List (Nat × Nat) → Bool
  | [] => true
  | (id, tot) :: l => cu id tot && allCur cu l

/-- an operation that writes nothing and calls nothing: its value, what it asks, the block that it makes, the cells that it reads. 'cu' says whether a pointer is not stale, 'ca' gives cells, a new block gets the number 'nid' -/
def lop (gl : Nat → Option (List AV)) (ev : AO → AV) (cu : Nat → Nat → Bool) (ca : Nat → Nat → Nat → List AV) (nid : Nat) : AOp → Option LR
  | .mv x => some { v := ev x }
  | .pick c a b => match ev c with
    | .bool t => some { v := bif t then ev a else ev b }
    | _ => none
  | .box x => match cellsO (ev x) with
    | some cs => some { v := .ptr nid cs.length 0, nb := some (mkBlk .exact cs) }
    | none => none
  | .build z ps => match fillP ev z ps with
    | some (b, cs) => some { v := .agg cs, pre := b }
    | none => none
  | .bsl z size n ps => match fillP ev z ps with
    | some (b, cs) => some { v := .sl nid cs.length 0 n size, pre := b, nb := some (mkBlk .exact cs) }
    | none => none
  | .ld agg n a => match ev a with
    | .ptr id tot off => some (bif agg then { v := .agg (ca id off n), pre := cu id tot && Nat.ble (off + n) tot, rd := [⟨id, off, n⟩] }
        else { v := (ca id off 1).getD 0 .undef, pre := cu id tot && Nat.blt off tot, rd := [⟨id, off, 1⟩] })
    | .gptr g off => match gl g with
      | some cs => some (bif agg then { v := .agg ((cs.drop off).take n), pre := Nat.ble (off + n) cs.length } else { v := cs.getD off .undef, pre := Nat.blt off cs.length })
      | none => none
    | .lptr _ l off => some (bif agg then { v := .agg ((l.drop off).take n), pre := Nat.ble (off + n) l.length } else { v := l.getD off .undef, pre := Nat.blt off l.length })
    | _ => none
  | .nilck x => match ev x with
    | .ptr id tot off => some { v := .ptr id tot off, pre := cu id tot, rd := [⟨id, 0, 0⟩] }
    | .gptr g off => some { v := .gptr g off }
    | .fn (.func f) a b => some { v := .fn (.func f) a b }
    | .iface t v => some { v := .iface t v }
    | .lptr t l off => some { v := .lptr t l off }
    | _ => none
  | .bin op sh x y => match binop op sh (ev x) (ev y) with
    | some (b, c, v) => some { v := v, pre := b && allCur cu c, rd := c.map fun p => ⟨p.1, 0, 0⟩ }
    | none => none
  | .un op x => match unop op (ev x) with
    | some v => some { v := v }
    | none => none
  | .conv k x => match k, ev x with
    | .toInt k, .int _ n => some { v := .int k (k.wrap n) }
    | .same, .str b => some { v := .str b }
    | .toBytes, .str b => some { v := .sl nid b.length 0 b.length 1, nb := some (mkBlk .grow (ofBytes b)) }
    | .ofBytes, .nils => some { v := .str [] }
    | .ofBytes, .lst _ l n sz => some { v := .str (l.map toB), pre := Nat.beq sz 1 && allU8 l && Nat.beq l.length n }
    | .ofBytes, .sl id tot off n sz => some { v := .str ((ca id off n).map toB), pre := cu id tot && Nat.ble (off + n) tot && Nat.beq sz 1 && allU8 (ca id off n), rd := [⟨id, off, n⟩] }
    | _, _ => none
  | .mkif t x => some { v := .iface t (ev x) }
  | .mkfn f a b => some { v := .fn f (a.map ev) (b.map ev) }
  | .mksl z size bytes same l c => match ev l, ev c with
    | .int _ l, .int _ c => some { v := .sl nid (l.toNat * size) 0 l.toNat size, pre := decide (0 ≤ l) && decide (l ≤ c) && decide (c ≤ 1099511627776) && decide (c * bytes ≤ 1099511627776), nb := some (mkBlk (bif same then .exact else .grow) ((List.replicate l.toNat z).flatten)) }
    | _, _ => none
  | .slS x lo hi => match ev x with
    | .str b => match pairOf (bnd ev lo 0) (bnd ev hi b.length) with
      | some (p, l, h) => some { v := .str ((b.drop l).take (h - l)), pre := p && Nat.ble l h && Nat.ble h b.length }
      | none => none
    | _ => none
  | .slL n x lo hi => match ev x with
    | .nils => match pairOf (bnd ev lo 0) (bnd ev hi 0) with
      | some (p, l, h) => some { v := .nils, pre := p && Nat.beq l 0 && Nat.beq h 0 }
      | none => none
    | .sl id tot off len sz => match pairOf (bnd ev lo 0) (bnd ev hi len) with
      | some (p, l, h) => some { v := .sl id tot (off + l * n) (h - l) n, pre := p && Nat.ble l h && Nat.ble h len && cu id tot && Nat.beq sz n, rd := [⟨id, 0, 0⟩] }
      | none => none
    | .lst t cs len sz => match pairOf (bnd ev lo 0) (bnd ev hi len) with
      | some (p, l, h) => some { v := .lst t ((cs.drop (l * n)).take ((h - l) * n)) (h - l) n, pre := p && Nat.ble l h && Nat.ble h len && Nat.beq sz n }
      | none => none
    | _ => none
  | .slA k n x lo hi => match ev x with
    | .ptr id tot off => match pairOf (bnd ev lo 0) (bnd ev hi k) with
      | some (p, l, h) => some { v := .sl id tot (off + l * n) (h - l) n, pre := p && Nat.ble l h && Nat.ble h k && cu id tot && Nat.ble (off + k * n) tot, rd := [⟨id, 0, 0⟩] }
      | none => none
    | _ => none
  | .fa o x => match ev x with
    | .ptr id tot off => some { v := .ptr id tot (off + o), pre := cu id tot, rd := [⟨id, 0, 0⟩] }
    | .gptr g off => some { v := .gptr g (off + o) }
    | .lptr t l off => some { v := .lptr t l (off + o) }
    | _ => none
  | .fld p x => match ev x with
    | .agg cs => some { v := partOf p cs, pre := p.agg || Nat.blt p.off cs.length }
    | _ => none
  | .iaA k n x i => match ev x, asNat (ev i) with
    | .ptr id tot off, some (b, i) => some { v := .ptr id tot (off + i * n), pre := b && Nat.blt i k && cu id tot, rd := [⟨id, 0, 0⟩] }
    | .gptr g off, some (b, i) => some { v := .gptr g (off + i * n), pre := b && Nat.blt i k }
    | .lptr t l off, some (b, i) => some { v := .lptr t l (off + i * n), pre := b && Nat.blt i k }
    | _, _ => none
  | .iaL n x i => match ev x, asNat (ev i) with
    | .sl id tot off len sz, some (b, i) => some { v := .ptr id tot (off + i * n), pre := b && Nat.blt i len && cu id tot && Nat.beq sz n, rd := [⟨id, 0, 0⟩] }
    | .lst t l len sz, some (b, i) => some { v := .lptr t l (i * n), pre := b && Nat.blt i len && Nat.beq sz n }
    | _, _ => none
  | .ixA k p x i => match ev x, asNat (ev i) with
    | .agg cs, some (b, i) => some { v := partOf ⟨p.agg, i * p.size, p.size⟩ cs, pre := b && Nat.blt i k && (p.agg || Nat.blt (i * p.size) cs.length) }
    | _, _ => none
  | .ixS x i => match ev x, asNat (ev i) with
    | .str s, some (b, i) => some { v := .int .u8 ((s.getD i 0).toNat : Int), pre := b && Nat.blt i s.length }
    | _, _ => none
  | .ext x i => match ev x with
    | .tup vs => some { v := vs.getD i .undef, pre := Nat.blt i vs.length }
    | _ => none
  | .lenS x => match ev x with
    | .str b => some { v := .int .i64 (b.length : Int) }
    | _ => none
  | .lenL x => match ev x with
    | .nils => some { v := .int .i64 0 }
    | .sl id tot _ n _ => some { v := .int .i64 (n : Int), pre := cu id tot, rd := [⟨id, 0, 0⟩] }
    | .lst _ _ n _ => some { v := .int .i64 (n : Int) }
    | _ => none
  | .lenA n => some { v := .int .i64 (n : Int) }
  | .s2a n x => match ev x with
    | .sl id tot off len _ => some { v := .ptr id tot off, pre := cu id tot && Nat.ble n len && Nat.blt 0 n, rd := [⟨id, 0, 0⟩] }
    | _ => none
  | .mx xs => match xs.map ev with
    | .int k x :: l => match maxL k x l with
      | some v => some { v := v }
      | none => none
    | _ => none
  | .mn xs => match xs.map ev with
    | .int k x :: l => match minL k x l with
      | some v => some { v := v }
      | none => none
    | _ => none
  | _ => none

/-- the cells that an append or a copy takes, how many elements they are, and what that asks -/
def src (H : List Blk) (size : Nat) : AV → Option (Bool × Nat × List AV)
  | .nils => some (true, 0, [])
  | .str b => some (Nat.beq size 1, b.length, ofBytes b)
  | .sl id tot off len sz => some (cur H id tot && Nat.beq sz size && Nat.ble (off + len * size) tot, len, cellsAt H id off (len * size))
  | .lst _ l len sz => some (Nat.beq sz size && Nat.beq l.length (len * size), len, l)
  | _ => none

/-- .. of an append: 'append(x, make(t, n)...)' takes zeros -/
def srcA (H : List Blk) (size : Nat) (zs : Option (List AV)) (v : AV) : Option (Bool × Nat × List AV) := match zs with
  | none => src H size v
  | some z => match v with
    | .int _ l => some (decide (0 ≤ l) && decide (l ≤ 1099511627776), l.toNat, (List.replicate l.toNat z).flatten)
    | _ => none

def setB (H : List Blk) (id : Nat) (off : Nat) (vs : List AV) : List Blk := match H[id]? with
  | some b => H.set id ⟨b.k, b.lf && oldL 0 vs, setRange b.cs off vs⟩
  | none => H

def growB (H : List Blk) (id : Nat) (vs : List AV) : List Blk := match H[id]? with
  | some b => H.set id ⟨b.k, b.lf && oldL 0 vs, b.cs ++ vs⟩
  | none => H

def kindAt (H : List Blk) (id : Nat) : BK := match H[id]? with
  | some b => b.k
  | none => .ro

/-- whether no element is appended: decided by the operand's form where it can be -/
def noneOf : AV → Option Bool
  | .nils => some true
  | .str [] => some true
  | .str (_ :: _) => some false
  | .sl _ _ _ 0 _ => some true
  | .sl _ _ _ (_ + 1) _ => some false
  | .lst _ _ 0 _ => some true
  | .lst _ _ (_ + 1) _ => some false
  | .int _ l => some (decide (l = 0))
  | _ => none

/-- an operation that writes: K gets its value and the heap behind it -/
def hop (E : Env) (ev : AO → AV) (H : List Blk) (k : Nat) (op : AOp) (K : AV → List Blk → Prop) : Prop :=
  match op with
  | .st n a x => match ev a, cellsO (ev x) with
    | .ptr id tot off, some vs => ck E (cur H id tot && Nat.ble (off + n) tot && Nat.beq vs.length n && oneL vs && kindAt H id != .ro) (K .undef (setB H id off vs))
    | _, _ => False
  | .mark x => match ev x with
    | .sl id tot off len sz => ck E (cur H id tot && kindAt H id != .ro) (K (.sl id tot off len sz) H)
    | _ => False
  | .app n bytes zs x y => match srcA H n zs (ev y) with
    | none => False
    | some (b, m, vs) =>
      ck E (b && oneL vs && Nat.blt 0 n && Nat.ble (m * bytes) 1099511627776) <|
      match (match E.hb k with | some t => some t | none => noneOf (ev y)) with
      | none => False
      | some true => ck E (Nat.beq m 0) (match ev x with
        | .nils => K .nils H
        | .sl id tot off len sz => ck E (cur H id tot && Nat.beq sz n) (K (.sl id tot off len sz) H)
        | _ => False)
      | some false => ck E (Nat.blt 0 m) (match ev x with
        | .nils => ck E (Nat.ble m 1099511627776 && Nat.ble (m * bytes) 1099511627776) (K (.sl H.length vs.length 0 m n) (H ++ [mkBlk .grow vs]))
        | .sl id tot off len sz =>
          ck E (cur H id tot && Nat.beq sz n && Nat.beq (off + len * n) tot && Nat.ble (len + m) 1099511627776 && Nat.ble ((len + m) * bytes) 1099511627776) <|
          match kindAt H id with
          | .grow => ck E (Nat.beq off 0) (K (.sl id (tot + vs.length) 0 (len + m) n) (growB H id vs))
          | .exact => K (.sl H.length (len * n + vs.length) 0 (len + m) n) (H ++ [mkBlk .grow (cellsAt H id off (len * n) ++ vs)])
          | .ro => False
        | _ => False)
  | .copy n x y => match src H n (ev y) with
    | none => False
    | some (b, m, vs) => ck E (b && oneL vs) <| match ev x with
      | .nils => K (.int .i64 0) H
      | .sl id tot off len sz => ck E (cur H id tot && Nat.beq sz n && Nat.ble (off + len * n) tot && kindAt H id != .ro) (K (.int .i64 ((min m len : Nat) : Int)) (setB H id off (vs.take (min m len * n))))
      | _ => False
  | _ => False

/-! ## code -/

/-- the slots that an operation looks at -/
def slots (l : List AO) : List Nat := l.filterMap fun x => match x with | .t n => some n | .c _ => none
def optL (x : Option AO) : List AO := match x with | some a => [a] | none => []
def usesOp : AOp → List Nat
  | .mv x | .box x | .nilck x | .un _ x | .conv _ x | .mark x | .mkif _ x | .fa _ x | .fld _ x | .ext x _ | .lenS x | .lenL x | .s2a _ x | .ld _ _ x => slots [x]
  | .pick a b c => slots [a, b, c]
  | .build _ ps | .bsl _ _ _ ps => slots (ps.map fun p => p.2.2)
  | .st _ a b | .bin _ _ a b | .mksl _ _ _ _ a b | .iaA _ _ a b | .iaL _ a b | .ixA _ _ a b | .ixS a b | .app _ _ _ a b | .copy _ a b => slots [a, b]
  | .mkfn _ a b => slots (a ++ b)
  | .slS x l h | .slL _ x l h | .slA _ _ x l h => slots (x :: (optL l ++ optL h))
  | .call f l => slots (f :: l)
  | .mx l | .mn l => slots l
  | .lenA _ | .bad _ => []

/-- operands of the slots that are named, and of no other -/
def evu (us : List Nat) (tm : T) : AO → AV
  | .t n => bif us.contains n then tm.get n else .undef
  | .c v => v

def gd (s : S) : Option (Nat × Bool) → Option Bool
  | none => some true
  | some (j, b) => match s.tm.get j with
    | .bool x => some (bif b then x else !x)
    | .tup [] => some false
    | _ => none

def tupOf : List AV → AV
  | [v] => v
  | l => .tup l

def readRes (E : Env) (s : S) : List ARes → (List AV → Prop) → Prop
  | [], K => K []
  | .tmp t :: l, K => readRes E s l fun vs => K (s.tm.get t :: vs)
  | .cell a agg n :: l, K => match s.tm.get a with
    | .ptr id tot off => ck E (cur s.hp id tot && Nat.ble (off + (bif agg then n else 1)) tot) <|
        readRes E s l fun vs => K ((bif agg then .agg (cellsAt s.hp id off n) else (cellsAt s.hp id off 1).getD 0 .undef) :: vs)
    | _ => False

/-- behind a call: blocks that nobody can reach are dropped -/
def leave (E : Env) (base k : Nat) (v : AV) (H : List Blk) (K : List Blk → Prop) : Prop :=
  match E.hb k with
  | some true => (old base v && oldH base (H.take base)) = true ∧ K (H.take base)
  | some false => K H
  | none => bif old base v && oldH base (H.take base) then K (H.take base) else K H

/-- a call's end -/
def done (E : Env) (res : List ARes) (base k : Nat) (Q : Out → List Blk → Gh → Prop) (e : Ex) (s : S) (k' : Gh) : Prop := match e with
  | .nrm => readRes E s res fun vs => leave E base (k'.f * 4096 + 4094) (tupOf vs) s.hp fun H' => Q (.ret (tupOf vs)) H' (k'.at k)
  | .ret => readRes E s res fun vs => leave E base (k'.f * 4096 + 4094) (tupOf vs) s.hp fun H' => Q (.ret (tupOf vs)) H' (k'.at k)
  | .pan v => leave E base (k'.f * 4096 + 4094) v s.hp fun H' => Q (.pan v) H' (k'.at k)
  | .exit _ => False

/-- how code is run: what is behind it gets the exit, the state, the count -/
abbrev Rec := AC → S → Gh → (Ex → S → Gh → Prop) → Prop

/-- what is needed for a call; Q gets what it gives -/
def callx (E : Env) (rec : Rec) (f : Nat) (args : List AV) (H : List Blk) (g : Gh) (Q : Out → List Blk → Gh → Prop) : Prop :=
  match E.sm f with
  | some c => c args H fun o H' => Q o H' g
  | none => match E.fn f with
    | some c => bif Nat.ble args.length 4000 then rec c.body ⟨mkArgs 0 args .e, H⟩ (g.at f) (done E c.res H.length g.f Q) else False
    | none => False

/-- a round of a range over a function -/
def yieldx (rec : Rec) (u : Nat) (args : List AV) (H : List Blk) (g : Gh) (Q : Out → List Blk → Gh → Prop) : Prop :=
  match findLp u g.lps with
  | some p => bif Nat.beq args.length p.ps.length && g.isReady u then
      rec p.asg ⟨putAll p.tm p.ps args, H⟩ (g.at p.f) fun e s g1 => match e with
        | .nrm => bif g1.isReady u then rec p.body s (g1.set u .busy) fun e s g2 => match e with
            | .nrm => Q (.ret (.bool true)) s.hp ((g2.at g.f).set u .ready)
            | .ret => Q (.ret (.bool false)) s.hp ((g2.at g.f).set u (.done .ret))
            | .exit i => Q (.ret (.bool false)) s.hp ((g2.at g.f).set u (.done (.exit i)))
            | .pan _ => False
          else False
        | _ => False
      else False
  | none => False

mutual
def eqAV : AV → AV → Bool
  | .undef, .undef => true
  | .opq i, .opq j => Nat.beq i j
  | .bool a, .bool b => a == b
  | .int k a, .int k' b => decide (k = k') && decide (a = b)
  | .str a, .str b => eqB a b
  | .nilp, .nilp => true
  | .ptr a b c, .ptr a' b' c' => Nat.beq a a' && Nat.beq b b' && Nat.beq c c'
  | .gptr a b, .gptr a' b' => Nat.beq a a' && Nat.beq b b'
  | .nils, .nils => true
  | .sl a b c d e, .sl a' b' c' d' e' => Nat.beq a a' && Nat.beq b b' && Nat.beq c c' && Nat.beq d d' && Nat.beq e e'
  | .nilf, .nilf => true
  | .fn f x y, .fn f' x' y' => decide (f = f') && eqAVL x x' && eqAVL y y'
  | .yld u, .yld u' => Nat.beq u u'
  | .nili, .nili => true
  | .iface t v, .iface t' v' => Nat.beq t t' && eqAV v v'
  | .agg l, .agg l' => eqAVL l l'
  | .tup l, .tup l' => eqAVL l l'
  | .lst t l n z, .lst t' l' n' z' => Nat.beq t t' && eqAVL l l' && Nat.beq n n' && Nat.beq z z'
  | .lptr t l o, .lptr t' l' o' => Nat.beq t t' && eqAVL l l' && Nat.beq o o'
  | _, _ => false
def eqAVL : List AV → List AV → Bool
  | [], [] => true
  | a :: l, b :: l' => eqAV a b && eqAVL l l'
  | _, _ => false
end

def eqBlk : Option Blk → Option Blk → Bool
  | some a, some b => decide (a.k = b.k) && (a.lf == b.lf) && eqAVL a.cs b.cs
  | none, none => true
  | _, _ => false

/-- cells that were read, or a block that was made, by an operation of a drawn region: a later operation that writes must leave them alone, unless it is known to come later -/
inductive Fl where
  | rd (ix : Nat) (r : Rdc)
  | nb (ix id : Nat)

def flOk (E : Env) (H H' : List Blk) (bf : Nat) : List Fl → Prop → Prop
  | [], c => c
  | .rd ix r :: l, c => bif Nat.testBit bf ix then flOk E H H' bf l c else
      bif eqAVL (cellsAt H r.id r.off r.size) (cellsAt H' r.id r.off r.size) && (lenAt H r.id == lenAt H' r.id) then flOk E H H' bf l c else False
  | .nb ix id :: l, c => bif Nat.testBit bf ix then flOk E H H' bf l c else
      bif eqBlk H[id]? H'[id]? then flOk E H H' bf l c else False

/-- a value is called: a function, or a range's 'yield' -/
def callv (E : Env) (rec : Rec) (f : AV) (args : List AV) (H : List Blk) (g : Gh) (Q : Out → List Blk → Gh → Prop) : Prop := match f with
  | .fn (.func f) fst cap => callx E rec f (fst ++ args ++ cap) H g Q
  | .yld u => yieldx rec u args H g Q
  | _ => False

/-- a new block that nobody will write: its slice by content -/
def frzN (nid : Nat) (v : AV) (nb : Option Blk) (K : AV → Prop) : Prop := match v, nb with
  | .sl id tot off len sz, some b => bif Nat.beq id nid && Nat.beq off 0 && Nat.beq tot b.cs.length && Nat.beq (len * sz) tot && b.lf && noYL b.cs then K (.lst 0 b.cs len sz) else False
  | _, _ => False

def rOps (E : Env) (rec : Rec) : List AOper → S → Gh → (Ex → S → Gh → Prop) → Prop
  | [], s, k, Q => Q .nrm s k
  | o :: os, s, k, Q => match gd s o.guard with
    | none => False
    | some false => rOps E rec os (s.put o.dst (.tup [])) k Q
    | some true => match o.op with
      | .call f args => callv E rec (s.ev f) (args.map s.ev) s.hp k fun o' H' k' => match o' with
          | .ret v => hint E (k.key o.dst) v fun v => rOps E rec os (S.put ⟨s.tm, H'⟩ o.dst v) k' Q
          | .pan v => Q (.pan v) ⟨s.tm, H'⟩ k'
      | op => match lop E.gl s.ev (cur s.hp) (cellsAt s.hp) s.hp.length op with
        | some r => ck E r.pre <| bif E.hz (k.key o.dst) then frzN s.hp.length r.v r.nb fun v => rOps E rec os (S.put ⟨s.tm, s.hp⟩ o.dst v) k Q
            else hint E (k.key o.dst) r.v fun v => rOps E rec os (S.put ⟨s.tm, s.hp ++ r.nb.toList⟩ o.dst v) k Q
        | none => hop E s.ev s.hp (k.key o.dst) op fun v H' => hint E (k.key o.dst) v fun v => rOps E rec os (S.put ⟨s.tm, H'⟩ o.dst v) k Q

def flNew (o : AOper) (H : List Blk) (r : LR) : List Fl :=
  (r.rd.map (Fl.rd o.ix)) ++ (match r.nb with | some _ => [Fl.nb o.ix H.length] | none => [])

def dOps (E : Env) (rec : Rec) : List AOper → S → Gh → List Fl → (Ex → S → Gh → Prop) → Prop
  | [], s, k, _, Q => Q .nrm s k
  | o :: os, s, k, fl, Q => match gd s o.guard with
    | none => False
    | some false => dOps E rec os (s.put o.dst (.tup [])) k fl Q
    | some true => match o.op with
      | .call f args => callv E rec (evu (usesOp o.op) s.tm f) (args.map (evu (usesOp o.op) s.tm)) s.hp k fun o' H' k' => match o' with
          | .ret v => flOk E s.hp H' o.bf fl <| hint E (k.key o.dst) v fun v => dOps E rec os (S.put ⟨s.tm, H'⟩ o.dst v) k' fl Q
          | .pan v => Q (.pan v) ⟨.e, H'⟩ k'
      | op => match lop E.gl (evu (usesOp o.op) s.tm) (cur s.hp) (cellsAt s.hp) s.hp.length op with
        | some r => ck E r.pre <| hint E (k.key o.dst) r.v fun v => dOps E rec os (S.put ⟨s.tm, s.hp ++ r.nb.toList⟩ o.dst v) k (flNew o s.hp r ++ fl) Q
        | none => hop E (evu (usesOp o.op) s.tm) s.hp (k.key o.dst) op fun v H' => flOk E s.hp H' o.bf fl <| hint E (k.key o.dst) v fun v => dOps E rec os (S.put ⟨s.tm, H'⟩ o.dst v) k fl Q

def clr (lv : Nat) (s : S) : S := ⟨s.tm.keep lv 1 0, s.hp⟩

/-- at a round's end: the slots that are still read, the blocks that can be reached -/
def trimK (E : Env) (lv base k : Nat) (s : S) (K : S → Prop) : Prop :=
  match E.hb k with
  | some true => ((clr lv s).tm.old base && oldH base (s.hp.take base)) = true ∧ K ⟨(clr lv s).tm, s.hp.take base⟩
  | some false => K (clr lv s)
  | none => bif (clr lv s).tm.old base && oldH base (s.hp.take base) then K ⟨(clr lv s).tm, s.hp.take base⟩ else K (clr lv s)

def leafOk : AV → AV → Prop
  | .undef, _ => True
  | v, u => u = v

/-- all slots that the first tree names are as it says -/
def subT : T → T → Prop
  | .e, _ => True
  | .n l v r, t => match t with
    | .e => leafOk v .undef ∧ subT l .e ∧ subT r .e
    | .n l' v' r' => leafOk v v' ∧ subT l l' ∧ subT r r'

def eqHp : List Blk → List Blk → Prop
  | [], [] => True
  | b :: l, b' :: l' => (b.k = b'.k ∧ b.lf = b'.lf ∧ b.cs = b'.cs) ∧ eqHp l l'
  | _, _ => False

/-- the same, one fact behind the other -/
def leafC : AV → AV → Prop → Prop
  | .undef, _, K => K
  | v, u, K => u = v ∧ K
def subC : T → T → Prop → Prop
  | .e, _, K => K
  | .n l v r, t, K => match t with
    | .e => leafC v .undef (subC l .e (subC r .e K))
    | .n l' v' r' => leafC v v' (subC l l' (subC r r' K))
def eqC : List Blk → List Blk → Prop → Prop
  | [], [], K => K
  | b :: l, b' :: l', K => bif decide (b.k = b'.k) && (b.lf == b'.lf) then b.cs = b'.cs ∧ eqC l l' K else False
  | _, _, _ => False

def eqLp : List Lp → List Lp → Prop
  | [], [] => True
  | a, b => a = b

def anyI : List LInv → (LInv → Prop) → Prop
  | [], _ => False
  | [I], p => p I
  | I :: l, p => p I ∨ anyI l p
def allI : List LInv → (LInv → Prop) → Prop
  | [], _ => True
  | [I], p => p I
  | I :: l, p => p I ∧ allI l p

def deadB : Blk := ⟨.exact, true, []⟩
/-- at a round's end: a slice in a slot becomes one by content; nobody else knows its block -/
def frzS (b0 f z : Nat) (s : S) (K : S → Prop) : Prop := bif !Nat.blt f 4000 then K s else match s.tm.get f with
  | .sl id tot off len sz => match s.hp[id]? with
    | some b => bif Nat.ble b0 id && Nat.beq b.cs.length tot && Nat.ble (off + len * sz) tot && b.k != .ro && b.lf && noYL b.cs && (T.put 12 s.tm f .undef).nor id && norH id (s.hp.set id deadB)
        then K ⟨T.put 12 s.tm f (.lst 0 ((b.cs.drop off).take (len * sz)) len sz), s.hp.set id deadB⟩ else False
    | none => False
  | .nils => bif Nat.blt 0 z then K ⟨T.put 12 s.tm f (.lst 0 [] 0 z), s.hp⟩ else K s
  | _ => K s
def frzAll (b0 : Nat) : List (Nat × Nat) → S → (S → Prop) → Prop
  | [], s, K => K s
  | (f, z) :: l, s, K => frzS b0 f z s fun s => frzAll b0 l s K
def endK (E : Env) (id lv b0 base : Nat) (s : S) (K : S → Prop) : Prop := match E.hf id with
  | [] => trimK E lv base (id * 4096 + 1000000000) s K
  | fs => frzAll b0 fs (clr lv s) fun s => trimK E lv base (id * 4096 + 1000000000) s K

/-- a loop with invariants: one of them holds at its beginning; each round that begins with one ends with one -/
def loopInv1 (E : Env) (rec : Rec) (id lv : Nat) (b : AC) (Is : List LInv) (s : S) (k : Gh) (Q : Ex → S → Gh → Prop) : Prop :=
  anyI Is (fun I => ∃ x, I.pre x ∧ eqC s.hp (I.st x).hp (subC (I.st x).tm s.tm True)) ∧
  allI Is fun I => ∀ x, I.pre x → rec b (I.st x) k fun e s' k' => match e with
    | .nrm => endK E id lv s.hp.length (I.st x).hp.length s' fun s'' => (eqLp k'.lps k.lps ∧ k'.n = k.n) ∧ anyI Is fun J => ∃ y, J.pre y ∧ J.mu y < I.mu x ∧ eqC s''.hp (J.st y).hp (subC (J.st y).tm s''.tm True)
    | e => Q e s' k'

/-- .. of several sets of invariants one is taken -/
def anyG : List (List LInv) → (List LInv → Prop) → Prop
  | [], _ => False
  | [I], p => p I
  | I :: l, p => p I ∨ anyG l p
def loopInv (E : Env) (rec : Rec) (id lv : Nat) (b : AC) (Gs : List (List LInv)) (s : S) (k : Gh) (Q : Ex → S → Gh → Prop) : Prop := anyG Gs fun Is => loopInv1 E rec id lv b Is s k Q

/-- behind a range over a function -/
def rfnEnd (tm : T) (Q : Ex → S → Gh → Prop) (o : Out) (H : List Blk) (g : Gh) : Prop := match g.lps with
  | [] => False
  | p :: l => match o with
    | .pan v => Q (.pan v) ⟨tm, H⟩ { g with lps := l }
    | .ret _ => match p.st with
      | .ready => Q .nrm ⟨tm, H⟩ { g with lps := l }
      | .done e => Q e ⟨tm, H⟩ { g with lps := l }
      | .busy => False

def step (E : Env) (rec : Rec) (c : AC) (s : S) (k : Gh) (Q : Ex → S → Gh → Prop) : Prop :=
  match c with
  | .skip => Q .nrm s k
  | .ret => Q .ret s k
  | .exit i => Q (.exit i) s k
  | .bad _ => False
  | .seq a b => rec a s k fun e s k => match e with
    | .nrm => rec b s k Q
    | e => Q e s k
  | .cond c a b => match s.ev c with
    | .bool t => bif t then rec a s k Q else rec b s k Q
    | _ => False
  | .block id b => rec b s k fun e s k => match e with
    | .exit i => Q (bif Nat.beq i id then .nrm else .exit i) s k
    | e => Q e s k
  | .loop id lv b => match E.inv id with
    | some I => loopInv E rec id lv b (I s) s k Q
    | none => rec b (clr lv s) k fun e s' k => match e with
      | .nrm => trimK E lv s.hp.length (id * 4096 + 1000000000) s' fun s' => rec (.loop id lv b) s' k Q
      | e => Q e s' k
  | .sum g => g s fun e s => Q e s k
  | .rfn f ps asg body => match s.ev f with
    | .fn (.func f) x y => callx E rec f (x ++ [.yld k.n] ++ y) s.hp { k with n := k.n + 1, lps := ⟨k.n, s.tm, ps, asg, body, .ready, k.f⟩ :: k.lps } (rfnEnd s.tm Q)
    | _ => False
  | .region os => rOps E rec os s k Q
  | .drawn os => dOps E rec os s k [] Q

def wpx (E : Env) : Nat → AC → S → Gh → (Ex → S → Gh → Prop) → Prop
  | 0, _, _, _, _ => False
  | n + 1, c, s, k, Q => step E (wpx E n) c s k Q
end Go.Proofs.YtafchcmemeinlaaDoor
