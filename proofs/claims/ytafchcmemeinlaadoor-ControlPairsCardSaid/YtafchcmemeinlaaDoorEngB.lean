/-
  The engine, part B: a program's code compiled: types resolved, regions that draw their order put into one order that every drawn order comes to.
-/
import Derived.Test.YtafchcmemeinlaaDoorEngA
set_option linter.unusedSimpArgs false
set_option linter.unusedVariables false
namespace Go.Proofs.YtafchcmemeinlaaDoor
open Go.RowKit

def ofV : Nat → Value → AV
  | _, .bool b => .bool b
  | _, .int k n => .int k n
  | _, .string s => .str s.data.toList
  | _, .pointer none => .nilp
  | _, .slice none 0 0 => .nils
  | _, .nilFunc => .nilf
  | _, .nilIface => .nili
  | d + 1, .agg cs => .agg (cs.toList.map (ofV d))
  | d + 1, .tuple cs => .tup (cs.toList.map (ofV d))
  | _, _ => .undef

def cO : Operand → AO
  | .tmp t => .t t
  | .const v => .c (ofV 4 v)
  | .global g => .c (.gptr g 0)
  | .func f => .c (.fn (.func f) [] [])

section
variable (P : Program)
def und (t : TypeId) : TypeDesc := (P.underlying t).getD .invalid
def szT (t : TypeId) : Nat := P.cellsOf t
def aggT (t : TypeId) : Bool := match und P t with | .struct _ => true | .array _ _ => true | _ => false
def knownT (t : TypeId) : Bool := (P.info? t).isSome && (P.underlying t).isSome
def zeroT (t : TypeId) : AV := match P.info? t with
  | some i => (match i.zero with | some z => ofV 4 z | none => .undef)
  | none => .undef
def zeroC (t : TypeId) : List AV := (cellsO (zeroT P t)).getD []
def ptT (t : TypeId) (off : Nat) : Pt := ⟨aggT P t, off, szT P t⟩
def shT : Nat → TypeId → Sh
  | 0, _ => .bad
  | d + 1, t => match und P t with
    | .bool => .bl
    | .int _ => .it
    | .string => .st
    | .pointer _ => .ptr
    | .slice _ => .slc
    | .func .. => .fnc
    | .interface _ => .ifc
    | .struct fs => if P.stoodInHeld t || P.eqGuardType P.depth t || !(fs.toList.all fun f => knownT P f.type) then .bad
        else .agg (Fs.of ((fs.toList.filter fun f => f.name != "_").map fun f => (ptT P f.type f.offset, shT d f.type)))
    | .array n e => if P.eqGuardType P.depth t || !(knownT P e) then .bad
        else .agg (Fs.of ((List.range n).map fun i => (ptT P e (i * szT P e), shT d e)))
    | _ => .bad

def isConstO : Operand → Bool
  | .const _ => true
  | _ => false

def cOp : Op → AOp
  | .move x => .mv (cO x)
  | .assign x => .mv (cO x)
  | .pick c a b => .pick (cO c) (cO a) (cO b)
  | .alloc e => .box (.c (zeroT P e))
  | .box _ v => .box (cO v)
  | .build t ps => if (cellsO (zeroT P t)).isNone then .bad "build" else match und P t with
    | .struct fs => if fs.toList.all (fun f => knownT P f.type) && ps.toList.all (fun p => Nat.blt p.1 fs.size) then
        .build (zeroC P t) (ps.toList.map fun (p : Nat × Operand) => match fs[p.1]? with | some f => (f.offset, szT P f.type, cO p.2) | none => (0, 0, cO p.2)) else .bad "build"
    | .array _ e => if knownT P e then .build (zeroC P t) (ps.toList.map fun (p : Nat × Operand) => (p.1 * szT P e, szT P e, cO p.2)) else .bad "build"
    | _ => .bad "build"
  | .buildSlice t len ps => match und P t with
    | .slice e => if knownT P e && (zeroC P e).length == szT P e && Nat.blt 0 (szT P e) && Nat.ble (len * szT P e) 16777216 then
        .bsl ((List.replicate len (zeroC P e)).flatten) (szT P e) len (ps.toList.map fun (p : Nat × Operand) => (p.1 * szT P e, szT P e, cO p.2)) else .bad "bsl"
    | _ => .bad "bsl"
  | .load t a => if knownT P t then .ld (aggT P t) (szT P t) (cO a) else .bad "load"
  | .store t a v => if knownT P t then .st (szT P t) (cO a) (cO v) else .bad "store"
  | .nilCheck x => .nilck (cO x)
  | .binOp op t x y _ => match shT P 8 t with
    | .ifc => if isConstO x || isConstO y then .bin op .ifc (cO x) (cO y) else .bad "eql of interfaces"
    | sh => .bin op sh (cO x) (cO y)
  | .unOp op _ x => .un op (cO x)
  | .convert s d x => if knownT P s && knownT P d then (match und P s, und P d with
      | .int _, .int k => .conv (.toInt k) (cO x)
      | .string, .slice e => (match und P e with | .int .u8 => .conv .toBytes (cO x) | _ => .bad "convert")
      | .slice e, .string => (match und P e with | .int .u8 => .conv .ofBytes (cO x) | _ => .bad "convert")
      | .string, .string => .conv .same (cO x)
      | .slice _, .slice e => if s = d then (match und P e with | .int .u8 => .mark (cO x) | _ => .bad "convert") else .bad "convert"
      | _, _ => .bad "convert") else .bad "convert"
  | .sliceToArrayPointer t x => (match und P t with | .array n _ => .s2a n (cO x) | _ => .bad "s2a")
  | .makeInterface t x => (match und P t with | .interface _ => .bad "mkif" | .invalid => .bad "mkif" | _ => .mkif t (cO x))
  | .makeFunc f a b => .mkfn f (a.toList.map cO) (b.toList.map cO)
  | .makeSlice t l c => match und P t with
    | .slice e => if knownT P e && (zeroC P e).length == szT P e && Nat.blt 0 (szT P e) then
        .mksl (zeroC P e) (szT P e) (P.bytesOf e) (match l, c with | .tmp a, .tmp b => Nat.beq a b | _, _ => false) (cO l) (cO c) else .bad "mksl"
    | _ => .bad "mksl"
  | .slice t x lo hi none => match und P t with
    | .string => .slS (cO x) (lo.map cO) (hi.map cO)
    | .slice e => if knownT P e && Nat.blt 0 (szT P e) then .slL (szT P e) (cO x) (lo.map cO) (hi.map cO) else .bad "slice"
    | .array n e => if knownT P e && Nat.blt 0 (szT P e) then .slA n (szT P e) (cO x) (lo.map cO) (hi.map cO) else .bad "slice"
    | _ => .bad "slice"
  | .fieldAddr s x f => match und P s with
    | .struct fs => (match fs[f]? with | some f => if knownT P f.type && Nat.blt 0 (szT P f.type) then .fa f.offset (cO x) else .bad "fieldAddr" | none => .bad "fieldAddr")
    | _ => .bad "fieldAddr"
  | .field s x f => match und P s with
    | .struct fs => (match fs[f]? with | some f => if knownT P f.type then .fld (ptT P f.type f.offset) (cO x) else .bad "field" | none => .bad "field")
    | _ => .bad "field"
  | .indexAddr t x i => match und P t with
    | .array n e => if knownT P e then .iaA n (szT P e) (cO x) (cO i) else .bad "indexAddr"
    | .slice e => if knownT P e then .iaL (szT P e) (cO x) (cO i) else .bad "indexAddr"
    | _ => .bad "indexAddr"
  | .index t x i => match und P t with
    | .array n e => if knownT P e then .ixA n (ptT P e 0) (cO x) (cO i) else .bad "index"
    | .string => .ixS (cO x) (cO i)
    | _ => .bad "index"
  | .extract x i => .ext (cO x) i
  | .call { callee := .value f, args, .. } => .call (cO f) (args.toList.map cO)
  | .call { callee := .builtin b, args, argTypes } => match b, args.toList, argTypes.toList with
    | .len, [x], [t] => (match und P t with | .string => .lenS (cO x) | .slice _ => .lenL (cO x) | .array n _ => .lenA n | _ => .bad "len")
    | .append, [x, y], [t, u] => (match und P t, und P u with
       | .slice e, .slice _ => if knownT P e && (zeroC P e).length == szT P e then .app (szT P e) (P.bytesOf e) none (cO x) (cO y) else .bad "append"
       | .slice e, .string => if knownT P e && (zeroC P e).length == szT P e && szT P e == 1 then .app (szT P e) (P.bytesOf e) none (cO x) (cO y) else .bad "append"
       | .slice e, .int _ => if knownT P e && (zeroC P e).length == szT P e then .app (szT P e) (P.bytesOf e) (some (zeroC P e)) (cO x) (cO y) else .bad "append"
       | _, _ => .bad "append")
    | .copy, [x, y], [t, _] => (match und P t with | .slice e => if knownT P e then .copy (szT P e) (cO x) (cO y) else .bad "copy" | _ => .bad "copy")
    | .max, l, _ => .mx (l.map cO)
    | .min, l, _ => .mn (l.map cO)
    | _, _, _ => .bad "builtin"
  | _ => .bad "op"

def uses (o : AOper) : List Nat := (match o.guard with | some (j, _) => [j] | none => []) ++ usesOp o.op

def heavy : AOp → Bool
  | .st .. | .mark _ | .call .. | .app .. | .copy .. | .bad _ => true
  | _ => false

def cOper (nt : Nat) (ops : Array Oper) (o : Oper) : AOper :=
  let bad (why : String) : AOper := { dst := none, op := .bad why, guard := none }
  match o.guard with
  | none => (match o.dst with
    | none => { dst := none, op := cOp P o.op, guard := none }
    | some d => if Nat.blt d nt then { dst := some d, op := cOp P o.op, guard := none } else bad "slot")
  | some (j, b) => match (ops[j]?).bind (·.dst) with
    | none => bad "guard"
    | some g => if Nat.blt g nt then (match o.dst with
      | none => { dst := none, op := cOp P o.op, guard := some (g, b) }
      | some d => if Nat.blt d nt then { dst := some d, op := cOp P o.op, guard := some (g, b) } else bad "slot") else bad "guard"

/-- for each operation the mask of those that must come before it -/
def befores : List Oper → List Nat → List Nat
  | [], acc => acc
  | o :: l, acc => befores l (acc ++ [o.after.toList.foldl (fun m e => if Region.binds .any e then m ||| 2 ^ e.on ||| acc.getD e.on 0 else m) 0])

def number : Nat → List Nat → List AOper → List AOper
  | i, b :: bs, o :: os => { o with ix := i, bf := b } :: number (i + 1) bs os
  | _, _, _ => []

def subMask (a b : Nat) : Bool := Nat.beq (a &&& b) a

/-- takes out the first operation that is ready -/
def takeOut (p : AOper → Bool) : List AOper → Option (AOper × List AOper)
  | [] => none
  | o :: l => bif p o then some (o, l) else (match takeOut p l with | some (x, r) => some (x, o :: r) | none => none)

def canon : Nat → Nat → List AOper → List AOper
  | 0, _, _ => []
  | n + 1, done, l => match takeOut (fun o => !heavy o.op && subMask o.bf done) l with
    | some (o, r) => o :: canon n (done ||| 2 ^ o.ix) r
    | none => match takeOut (fun o => subMask o.bf done) l with
      | some (o, r) => o :: canon n (done ||| 2 ^ o.ix) r
      | none => []

def clash (x y : AOper) : Bool := (match x.dst with | some d => (uses y).contains d || y.dst == some d | none => false) || (match y.dst with | some d => (uses x).contains d | none => false)

/-- what the order must keep: y comes behind x -/
def pairOk (x y : AOper) : Bool := !(x.bf.testBit y.ix) && x.ix != y.ix && ((!(clash x y) && !(heavy x.op)) || y.bf.testBit x.ix)

def allPairs : List AOper → Bool
  | [] => true
  | x :: l => l.all (pairOk x) && allPairs l

def drawnOf (nt : Nat) (ops : Array Oper) : AC :=
  let l := canon ops.size 0 (number 0 (befores ops.toList []) (ops.toList.map (cOper P nt ops)))
  bif Nat.beq l.length ops.size && allPairs l && l.all (fun o => Nat.blt o.ix ops.size && Nat.blt o.bf (2 ^ ops.size) && !(o.bf.testBit o.ix)) && (List.range ops.size).all (fun i => l.any fun o => Nat.beq o.ix i) then .drawn l else .bad "order"

def cC (fid nt : Nat) : Nat → Code → AC
  | _, .skip => .skip
  | _, .label _ => .skip
  | _, .region _ ops draw => bif draw then drawnOf P nt ops else .region (ops.toList.map (cOper P nt ops))
  | i, .seq a b => .seq (cC fid nt i a) (cC fid nt i b)
  | i, .cond c a b => .cond (cO c) (cC fid nt i a) (cC fid nt i b)
  | _, .block id b => .block id (cC fid nt id b)
  | i, .loop b => .loop (fid * 1000 + i) 0 (cC fid nt i b)
  | _, .exit id => .exit id
  | i, .scope b => cC fid nt i b
  | _, .goto _ => .bad "goto"
  | _, .ret => .ret
  | i, .rangeFunc g ps a b => bif ps.toList.all (fun p => Nat.blt p nt) then .rfn (cO g) ps.toList (cC fid nt i a) (cC fid nt i b) else .bad "rangeFunc"
  | _, .refuse w => .bad w
end

/-! ## which slots are still read -/
def orAll (L : Nat) : List Nat → Nat
  | [] => L
  | d :: l => orAll (L ||| 2 ^ d) l
def kill (L : Nat) : Option Nat → Nat
  | none => L
  | some d => bif L.testBit d then L - 2 ^ d else L
def lvOps (L : Nat) : List AOper → Nat
  | [] => L
  | o :: l => orAll (kill (lvOps L l) o.dst) (uses o)

/-- the code with its loops' masks, and the slots that it reads -/
def an : AC → (L : Nat) → (xs : List (Nat × Nat)) → (R : Nat) → AC × Nat
  | .skip, L, _, _ => (.skip, L)
  | .region os, L, _, _ => (.region os, lvOps L os)
  | .drawn os, L, _, _ => (.drawn os, lvOps L os)
  | .seq a b, L, xs, R => let y := an b L xs R; let x := an a y.2 xs R; (.seq x.1 y.1, x.2)
  | .cond c a b, L, xs, R => let x := an a L xs R; let y := an b L xs R; (.cond c x.1 y.1, orAll (x.2 ||| y.2) (slots [c]))
  | .block id b, L, xs, R => let x := an b L ((id, L) :: xs) R; (.block id x.1, x.2)
  | .loop id _ b, _, xs, R => let x1 := (an b 0 xs R).2; let x2 := (an b x1 xs R).2; let y := an b (x1 ||| x2) xs R; let m := x1 ||| x2 ||| y.2; (.loop id m y.1, m)
  | .exit i, _, xs, _ => (.exit i, (xs.lookup i).getD 0)
  | .ret, _, _, R => (.ret, R)
  | .sum g, _, _, _ => (.sum g, 0)
  | .rfn g ps a b, L, xs, R => let y := an b 0 xs R; let x := an a y.2 xs R; (.rfn g ps x.1 y.1, orAll (x.2 ||| L ||| R) (slots [g]))
  | .bad w, _, _, _ => (.bad w, 0)

def resMask : List ARes → Nat
  | [] => 0
  | .tmp t :: l => resMask l ||| 2 ^ t
  | .cell a _ _ :: l => resMask l ||| 2 ^ a

def cRes (P : Program) : ResultVar → ARes
  | .tmp t => .tmp t
  | .cell a t => .cell a (aggT P t) (szT P t)

def resOk (P : Program) : ResultVar → Bool
  | .tmp _ => true
  | .cell _ t => knownT P t

def fnOf (P : Program) (i : Nat) : Option AFn := match P.funcs[i]? with
  | some f => (match f.body with
    | some c => bif f.results.toList.all (resOk P) && Nat.ble f.ntmps 4000 then
        some { res := f.results.toList.map (cRes P), body := (an (cC P i f.ntmps 0 c) (resMask (f.results.toList.map (cRes P))) [] (resMask (f.results.toList.map (cRes P)))).1 } else none
    | none => none)
  | none => none
end Go.Proofs.YtafchcmemeinlaaDoor
