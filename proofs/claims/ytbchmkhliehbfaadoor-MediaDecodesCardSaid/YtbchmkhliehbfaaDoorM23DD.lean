/-
  Chapter 23: Decode of the program.
-/
import Derived.Test.YtbchmkhliehbfaaDoorM23J
set_option linter.unusedSimpArgs false
set_option linter.unusedVariables false
set_option linter.unusedSectionVars false
namespace Go.Proofs.YtbchmkhliehbfaaDoor
open Go.RowKit
set_option maxRecDepth 1000000

def numM (l : List UInt8) : Int := l.foldl (fun n c => n * 256 + (c.toNat : Int)) 0
/-- what is taken, what is left, and whether there was too little -/
def takeNM (l : List UInt8) (k : Int) : Int := if l.length < k.toNat then 0 else numM (l.take k.toNat)
def takeLM (l : List UInt8) (k : Int) : List UInt8 := if l.length < k.toNat then [] else l.drop k.toNat
def takeSM (b : Bool) (l : List UInt8) (k : Int) : Bool := b || decide (l.length < k.toNat)
def leftM (l : List UInt8) : Nat → List UInt8
  | 0 => l
  | i + 1 => takeLM (leftM l i) 4
def csM (l : List UInt8) : Nat → List Int
  | 0 => []
  | i + 1 => csM l i ++ [takeNM (leftM l i) 4]
def lackM (b : Bool) (l : List UInt8) : Nat → Bool
  | 0 => b
  | i + 1 => takeSM (lackM b l i) (leftM l i) 4
def trimM (s : List UInt8) : List UInt8 := ((s.reverse.dropWhile (· == 0)).reverse).dropWhile (· == 0)
/-- the extensions of octets, and whether something is wrong -/
def extGoM (prof : Int) : Nat → Int → Nat → List UInt8 → List Xt × Bool
  | 0, _, _, _ => ([], false)
  | _ + 1, _, _, [] => ([], false)
  | f + 1, last, n, c :: s =>
    if (c.toNat : Int) = 0 then ([], decide ((c :: s).length > 3) || !eqB (trimM (c :: s)) [])
    else if prof ≠ 48862 ∧ s = [] then ([], true)
    else
      let id : Int := if prof = 48862 then ((c.toNat / 16 : Nat) : Int) else (c.toNat : Int)
      let k : Nat := if prof = 48862 then c.toNat % 16 + 1 else (s.headD 0).toNat
      let r : List UInt8 := if prof = 48862 then s else s.tail
      if id ≤ last ∨ r.length < k ∨ (prof = 48862 ∧ id > 14) ∨ n = 16 then ([], true)
      else ((id, r.take k) :: (extGoM prof f id (n + 1) (r.drop k)).1, (extGoM prof f id (n + 1) (r.drop k)).2)
def extsM (prof : Int) (s : List UInt8) : List Xt × Bool :=
  ((extGoM prof s.length 0 0 s).1, (extGoM prof s.length 0 0 s).2 || !(decide (prof = 48862) || decide (prof = 4096)) || (extGoM prof s.length 0 0 s).1.isEmpty || (shortM (extGoM prof s.length 0 0 s).1 != decide (prof = 48862)))

def flatLM (c : List AV) : Bool := oldL 0 c && noYL c
theorem flat_cI (l : List Int) : flatLM (cellsI l) = true := by
  induction l with
  | nil => rfl
  | cons x l ih => simpa [flatLM, cellsI, oldL, noYL, old, noY] using ih
theorem flat_cX : ∀ l : List Xt, flatLM (cellsXM l) = true
  | [] => rfl
  | x :: l => by simpa [flatLM, cellsXM, oldL, noYL, old, noY] using flat_cX l
def cTake : Con
  | [.int .i64 k, .ptr 2 1 0, .ptr 3 1 0], [⟨.exact, true, [.bool false, .int .i64 0, .int .i64 0, .int .i64 0, .int .i64 0, .nils, .nils, .int .i64 0, .str []]⟩, ⟨.exact, true, [.bool false, .int .i64 0, .int .i64 sq, .int .i64 ti, .int .i64 ss, .nils, .nils, .int .i64 0, .str [], .str l, .bool false]⟩, ⟨.exact, false, [.ptr 1 11 0]⟩, ⟨.exact, true, [.bool sh]⟩], K =>
    bif decide (0 ≤ k) && decide (k ≤ 4) then K (.ret (.int .i64 (takeNM l k))) [⟨.exact, true, [.bool false, .int .i64 0, .int .i64 0, .int .i64 0, .int .i64 0, .nils, .nils, .int .i64 0, .str []]⟩, ⟨.exact, true, [.bool false, .int .i64 0, .int .i64 sq, .int .i64 ti, .int .i64 ss, .nils, .nils, .int .i64 0, .str [], .str (takeLM l k), .bool false]⟩, ⟨.exact, false, [.ptr 1 11 0]⟩, ⟨.exact, true, [.bool (takeSM sh l k)]⟩] else False
  | [.int .i64 k, .ptr 2 1 0, .ptr 3 1 0], [⟨.exact, true, [.bool false, .int .i64 0, .int .i64 0, .int .i64 0, .int .i64 0, .nils, .nils, .int .i64 0, .str []]⟩, ⟨.exact, false, [.bool false, .int .i64 0, .int .i64 sq, .int .i64 ti, .int .i64 ss, .sl 5 n 0 n1 1, .nils, .int .i64 0, .str [], .str l, .bool false]⟩, ⟨.exact, false, [.ptr 1 11 0]⟩, ⟨.exact, true, [.bool sh]⟩, ⟨.exact, true, [.int .i64 c4]⟩, ⟨.grow, true, c5⟩], K =>
    bif decide (0 ≤ k) && decide (k ≤ 4) && Nat.beq n n1 && flatLM c5 then K (.ret (.int .i64 (takeNM l k))) [⟨.exact, true, [.bool false, .int .i64 0, .int .i64 0, .int .i64 0, .int .i64 0, .nils, .nils, .int .i64 0, .str []]⟩, ⟨.exact, false, [.bool false, .int .i64 0, .int .i64 sq, .int .i64 ti, .int .i64 ss, .sl 5 n 0 n1 1, .nils, .int .i64 0, .str [], .str (takeLM l k), .bool false]⟩, ⟨.exact, false, [.ptr 1 11 0]⟩, ⟨.exact, true, [.bool (takeSM sh l k)]⟩, ⟨.exact, true, [.int .i64 c4]⟩, ⟨.grow, true, c5⟩] else False
  | _, _, _ => False
def cTrim : Con
  | [.str s, .str [0]], H, K => bif Nat.ble s.length 1000000 then K (.ret (.str (trimM s))) H else False
  | _, _, _ => False
def cExts : Con
  | [.ptr 1 11 0, .str s, .int .i64 p], [⟨.exact, true, [.bool false, .int .i64 0, .int .i64 0, .int .i64 0, .int .i64 0, .nils, .nils, .int .i64 0, .str []]⟩, ⟨.exact, true, [.bool false, .int .i64 0, .int .i64 sq, .int .i64 ti, .int .i64 ss, .nils, .nils, .int .i64 0, .str [], .str l, .bool false]⟩, ⟨.exact, false, [.ptr 1 11 0]⟩, ⟨.exact, true, [.bool sh]⟩], K =>
    bif Nat.ble s.length 1000000 then ∀ (ex : List Xt) (bad : Bool), Lf (extsM p s = (ex, bad)) → (Lf (ex = []) → K (.ret (.tup [])) [⟨.exact, true, [.bool false, .int .i64 0, .int .i64 0, .int .i64 0, .int .i64 0, .nils, .nils, .int .i64 0, .str []]⟩, ⟨.exact, true, [.bool false, .int .i64 0, .int .i64 sq, .int .i64 ti, .int .i64 ss, .nils, .nils, .int .i64 0, .str [], .str l, .bool bad]⟩, ⟨.exact, false, [.ptr 1 11 0]⟩, ⟨.exact, true, [.bool sh]⟩]) ∧
      (∀ x : Xt, Lf (ex ≠ []) → K (.ret (.tup [])) [⟨.exact, true, [.bool false, .int .i64 0, .int .i64 0, .int .i64 0, .int .i64 0, .nils, .nils, .int .i64 0, .str []]⟩, ⟨.exact, false, [.bool false, .int .i64 0, .int .i64 sq, .int .i64 ti, .int .i64 ss, .nils, .sl 5 (2 * ex.length) 0 ex.length 2, .int .i64 0, .str [], .str l, .bool bad]⟩, ⟨.exact, false, [.ptr 1 11 0]⟩, ⟨.exact, true, [.bool sh]⟩, ⟨.exact, true, cellsXM [x]⟩, ⟨.grow, true, cellsXM ex⟩]) else False
  | [.ptr 1 11 0, .str s, .int .i64 p], [⟨.exact, true, [.bool false, .int .i64 0, .int .i64 0, .int .i64 0, .int .i64 0, .nils, .nils, .int .i64 0, .str []]⟩, ⟨.exact, false, [.bool false, .int .i64 0, .int .i64 sq, .int .i64 ti, .int .i64 ss, .sl 5 n 0 n1 1, .nils, .int .i64 0, .str [], .str l, .bool false]⟩, ⟨.exact, false, [.ptr 1 11 0]⟩, ⟨.exact, true, [.bool sh]⟩, ⟨.exact, true, [.int .i64 c4]⟩, ⟨.grow, true, c5⟩], K =>
    bif Nat.ble s.length 1000000 then (bif Nat.beq n n1 && flatLM c5 then ∀ (ex : List Xt) (bad : Bool), Lf (extsM p s = (ex, bad)) → (Lf (ex = []) → K (.ret (.tup [])) [⟨.exact, true, [.bool false, .int .i64 0, .int .i64 0, .int .i64 0, .int .i64 0, .nils, .nils, .int .i64 0, .str []]⟩, ⟨.exact, false, [.bool false, .int .i64 0, .int .i64 sq, .int .i64 ti, .int .i64 ss, .sl 5 n 0 n1 1, .nils, .int .i64 0, .str [], .str l, .bool bad]⟩, ⟨.exact, false, [.ptr 1 11 0]⟩, ⟨.exact, true, [.bool sh]⟩, ⟨.exact, true, [.int .i64 c4]⟩, ⟨.grow, true, c5⟩]) ∧
      (∀ x : Xt, Lf (ex ≠ []) → K (.ret (.tup [])) [⟨.exact, true, [.bool false, .int .i64 0, .int .i64 0, .int .i64 0, .int .i64 0, .nils, .nils, .int .i64 0, .str []]⟩, ⟨.exact, false, [.bool false, .int .i64 0, .int .i64 sq, .int .i64 ti, .int .i64 ss, .sl 5 n 0 n1 1, .sl 7 (2 * ex.length) 0 ex.length 2, .int .i64 0, .str [], .str l, .bool bad]⟩, ⟨.exact, false, [.ptr 1 11 0]⟩, ⟨.exact, true, [.bool sh]⟩, ⟨.exact, true, [.int .i64 c4]⟩, ⟨.grow, true, c5⟩, ⟨.exact, true, cellsXM [x]⟩, ⟨.grow, true, cellsXM ex⟩]) else False) else False
  | _, _, _ => False
def smDD : SM := lookS [(40, cTake), (41, cExts), (42, cTrim)]
/-- the packet that is read, in the run -/
def readM (sq ti ss : Int) (cs : AV) (l : List UInt8) : List AV := [.bool false, .int .i64 0, .int .i64 sq, .int .i64 ti, .int .i64 ss, cs, .nils, .int .i64 0, .str [], .str l, .bool false]
def inv_21 (s : S) : List (List LInv) := match s.tm.get 7, s.tm.get 8, s.tm.get 44, s.hp with
  | .int _ fl, .int _ kd, .int _ n, [⟨_, _, z⟩, ⟨_, _, [_, _, .int _ sq, .int _ ti, .int _ ss, _, _, _, _, .str l, _]⟩, b2, ⟨_, _, [.bool sh]⟩] => [[
    { α := Nat, pre := fun i => Lf (i = 0), st := fun i => ⟨mkT [(2, .ptr 0 9 0), (4, .ptr 2 1 0), (5, .ptr 3 1 0), (6, .fn (.func 40) [] [.ptr 2 1 0, .ptr 3 1 0]), (7, .int .i64 fl), (8, .int .i64 kd), (44, .int .i64 n), (45, .int .i64 (i : Nat))], [⟨.exact, true, z⟩, ⟨.exact, true, readM sq ti ss .nils l⟩, b2, ⟨.exact, true, [.bool sh]⟩]⟩, mu := fun i => 100 },
    { α := Nat, pre := fun i => Lf (1 ≤ i ∧ i ≤ 15 ∧ (i : Int) ≤ n), st := fun i => ⟨mkT [(2, .ptr 0 9 0), (4, .ptr 2 1 0), (5, .ptr 3 1 0), (6, .fn (.func 40) [] [.ptr 2 1 0, .ptr 3 1 0]), (7, .int .i64 fl), (8, .int .i64 kd), (44, .int .i64 n), (45, .int .i64 (i : Nat))], [⟨.exact, true, z⟩, ⟨.exact, false, readM sq ti ss (.sl 5 i 0 i 1) (leftM l i)⟩, b2, ⟨.exact, true, [.bool (lackM sh l i)]⟩, ⟨.exact, true, cellsI (csM l 1)⟩, ⟨.grow, true, cellsI (csM l i)⟩]⟩, mu := fun i => 15 - i }]]
  | _, _, _, _ => []
noncomputable def env_21 (hv : Nat → Option Pa) (hb : Nat → Option Bool) : Env := e23 smDD (fun i => bif Nat.beq i 21000 then some inv_21 else none) hv hb
noncomputable def goal_21 (hv : Nat → Option Pa) (hb : Nat → Option Bool) (s : List UInt8) (Q : Out → List Blk → Gh → Prop) : Prop :=
  callx (env_21 hv hb) (wpx (env_21 hv hb) 1000) 21 [.str s] [] {} Q
def tailD (sh bad : Bool) (fl kd : Int) (l : List UInt8) (F : Bool → Int → Int → List UInt8 → List UInt8 → Prop) (Q : Out → List Blk → Gh → Prop) : Prop := (bif sh then (Q (Out.ret (AV.tup ((AV.agg zeroMedM) :: ((AV.int .i64 (7 : Int)) :: [])))) [] (Gh.mk (0 : Nat) (0 : Nat) []))
else (∃ n_21 : Int, (((AV.int .i64 (IntKind.wrap .i64 (Nat.cast ((Int.toNat (kd % (18446744073709551616 : Int))) &&& (128 : Nat)) : Int))) = (AV.int .i64 n_21)) ∧
 (bif (n_21 != (0 : Int)) then (∃ n_22 : Int, (((AV.int .i64 (IntKind.wrap .i64 (Nat.cast ((Int.toNat (kd % (18446744073709551616 : Int))) &&& (127 : Nat)) : Int))) = (AV.int .i64 n_22)) ∧
 (∃ n_23 : Int, (((AV.int .i64 (IntKind.wrap .i64 (Nat.cast ((Int.toNat (fl % (18446744073709551616 : Int))) &&& (32 : Nat)) : Int))) = (AV.int .i64 n_23)) ∧
 (bif (n_23 != (0 : Int)) then (∃ s_24 : (List UInt8), (((AV.str l) = (AV.str s_24)) ∧
 (∃ n_25 : Int, (((AV.int .i64 (Nat.cast (List.length s_24) : Int)) = (AV.int .i64 n_25)) ∧
 (bif (decide (n_25 > (0 : Int))) then (∃ s_26 : (List UInt8), (((AV.str l) = (AV.str s_26)) ∧
 (∃ s_27 : (List UInt8), (((AV.str l) = (AV.str s_27)) ∧
 (∃ n_28 : Int, (((AV.int .i64 (Nat.cast (List.length s_27) : Int)) = (AV.int .i64 n_28)) ∧
 (∃ n_29 : Int, (((AV.int .i64 (IntKind.wrap .i64 (n_28 - (1 : Int)))) = (AV.int .i64 n_29)) ∧
 (bif ((decide ((0 : Int) ≤ n_29)) && (Nat.blt (Int.toNat n_29) (List.length s_26))) then (∃ n_30 : Int, (((AV.int .u8 (Nat.cast (UInt8.toNat (List.getD s_26 (Int.toNat n_29) (UInt8.ofNat (0 : Nat)))) : Int)) = (AV.int .u8 n_30)) ∧
 (∃ n_31 : Int, (((AV.int .i64 (IntKind.wrap .i64 n_30)) = (AV.int .i64 n_31)) ∧
 (bif (n_31 == (0 : Int)) then (Q (Out.ret (AV.tup ((AV.agg zeroMedM) :: ((AV.int .i64 (5 : Int)) :: [])))) [] (Gh.mk (0 : Nat) (0 : Nat) []))
else (∃ s_32 : (List UInt8), (((AV.str l) = (AV.str s_32)) ∧
 (∃ n_33 : Int, (((AV.int .i64 (Nat.cast (List.length s_32) : Int)) = (AV.int .i64 n_33)) ∧
 (bif (decide (n_31 > n_33)) then (Q (Out.ret (AV.tup ((AV.agg zeroMedM) :: ((AV.int .i64 (5 : Int)) :: [])))) [] (Gh.mk (0 : Nat) (0 : Nat) []))
else (∃ s_34 : (List UInt8), (((AV.str l) = (AV.str s_34)) ∧
 (∃ s_35 : (List UInt8), (((AV.str l) = (AV.str s_35)) ∧
 (∃ n_36 : Int, (((AV.int .i64 (Nat.cast (List.length s_35) : Int)) = (AV.int .i64 n_36)) ∧
 (∃ n_37 : Int, (((AV.int .i64 (IntKind.wrap .i64 (n_36 - n_31))) = (AV.int .i64 n_37)) ∧
 (∃ s_38 : (List UInt8), (((AV.str l) = (AV.str s_38)) ∧
 (∃ n_39 : Int, (((AV.int .i64 (Nat.cast (List.length s_38) : Int)) = (AV.int .i64 n_39)) ∧
 (∃ n_40 : Int, (((AV.int .i64 (IntKind.wrap .i64 (n_39 - (1 : Int)))) = (AV.int .i64 n_40)) ∧
 (bif ((((decide ((0 : Int) ≤ n_37)) && (decide ((0 : Int) ≤ n_40))) && (Nat.ble (Int.toNat n_37) (Int.toNat n_40))) && (Nat.ble (Int.toNat n_40) (List.length s_34))) then (∃ s_41 : (List UInt8), (((AV.str (List.take ((Int.toNat n_40) - (Int.toNat n_37)) (List.drop (Int.toNat n_37) s_34))) = (AV.str s_41)) ∧
 (bif (Nat.ble (List.length s_41) (1000000 : Nat)) then (∃ s_42 : (List UInt8), (((AV.str (trimM s_41)) = (AV.str s_42)) ∧
 (bif (!(eqB s_42 [])) then (Q (Out.ret (AV.tup ((AV.agg zeroMedM) :: ((AV.int .i64 (5 : Int)) :: [])))) [] (Gh.mk (0 : Nat) (0 : Nat) []))
else (∃ s_43 : (List UInt8), (((AV.str l) = (AV.str s_43)) ∧
 (∃ s_44 : (List UInt8), (((AV.str l) = (AV.str s_44)) ∧
 (∃ n_45 : Int, (((AV.int .i64 (Nat.cast (List.length s_44) : Int)) = (AV.int .i64 n_45)) ∧
 (∃ n_46 : Int, (((AV.int .i64 (IntKind.wrap .i64 (n_45 - n_31))) = (AV.int .i64 n_46)) ∧
 (bif (((decide ((0 : Int) ≤ n_46)) && true) && (Nat.ble (Int.toNat n_46) (List.length s_43))) then (∃ s_47 : (List UInt8), (((AV.str (List.take ((Int.toNat n_46) - (0 : Nat)) (List.drop (0 : Nat) s_43))) = (AV.str s_47)) ∧
 (bif bad then (Q (Out.ret (AV.tup ((AV.agg zeroMedM) :: ((AV.int .i64 (5 : Int)) :: [])))) [] (Gh.mk (0 : Nat) (0 : Nat) []))
else (∃ n_48 : Int, (((AV.int .i64 (Int.fdiv fl (64 : Int))) = (AV.int .i64 n_48)) ∧
 (bif (n_48 != (2 : Int)) then (Q (Out.ret (AV.tup ((AV.agg zeroMedM) :: ((AV.int .i64 (5 : Int)) :: [])))) [] (Gh.mk (0 : Nat) (0 : Nat) []))
else (∃ s_49 : (List UInt8), (((AV.str s_47) = (AV.str s_49)) ∧
 (F true n_22 n_31 s_47 s_49)))))))))
else False))))))))))))
else False)))
else False)))))))))))))))))))))))))
else False)))))))))
else (Q (Out.ret (AV.tup ((AV.agg zeroMedM) :: ((AV.int .i64 (5 : Int)) :: [])))) [] (Gh.mk (0 : Nat) (0 : Nat) [])))))))
else (bif bad then (Q (Out.ret (AV.tup ((AV.agg zeroMedM) :: ((AV.int .i64 (5 : Int)) :: [])))) [] (Gh.mk (0 : Nat) (0 : Nat) []))
else (∃ n_24 : Int, (((AV.int .i64 (Int.fdiv fl (64 : Int))) = (AV.int .i64 n_24)) ∧
 (bif (n_24 != (2 : Int)) then (Q (Out.ret (AV.tup ((AV.agg zeroMedM) :: ((AV.int .i64 (5 : Int)) :: [])))) [] (Gh.mk (0 : Nat) (0 : Nat) []))
else (∃ s_25 : (List UInt8), (((AV.str l) = (AV.str s_25)) ∧
 (F true n_22 (0 : Int) l s_25))))))))))))
else (∃ n_22 : Int, (((AV.int .i64 (IntKind.wrap .i64 (Nat.cast ((Int.toNat (kd % (18446744073709551616 : Int))) &&& (127 : Nat)) : Int))) = (AV.int .i64 n_22)) ∧
 (∃ n_23 : Int, (((AV.int .i64 (IntKind.wrap .i64 (Nat.cast ((Int.toNat (fl % (18446744073709551616 : Int))) &&& (32 : Nat)) : Int))) = (AV.int .i64 n_23)) ∧
 (bif (n_23 != (0 : Int)) then (∃ s_24 : (List UInt8), (((AV.str l) = (AV.str s_24)) ∧
 (∃ n_25 : Int, (((AV.int .i64 (Nat.cast (List.length s_24) : Int)) = (AV.int .i64 n_25)) ∧
 (bif (decide (n_25 > (0 : Int))) then (∃ s_26 : (List UInt8), (((AV.str l) = (AV.str s_26)) ∧
 (∃ s_27 : (List UInt8), (((AV.str l) = (AV.str s_27)) ∧
 (∃ n_28 : Int, (((AV.int .i64 (Nat.cast (List.length s_27) : Int)) = (AV.int .i64 n_28)) ∧
 (∃ n_29 : Int, (((AV.int .i64 (IntKind.wrap .i64 (n_28 - (1 : Int)))) = (AV.int .i64 n_29)) ∧
 (bif ((decide ((0 : Int) ≤ n_29)) && (Nat.blt (Int.toNat n_29) (List.length s_26))) then (∃ n_30 : Int, (((AV.int .u8 (Nat.cast (UInt8.toNat (List.getD s_26 (Int.toNat n_29) (UInt8.ofNat (0 : Nat)))) : Int)) = (AV.int .u8 n_30)) ∧
 (∃ n_31 : Int, (((AV.int .i64 (IntKind.wrap .i64 n_30)) = (AV.int .i64 n_31)) ∧
 (bif (n_31 == (0 : Int)) then (Q (Out.ret (AV.tup ((AV.agg zeroMedM) :: ((AV.int .i64 (5 : Int)) :: [])))) [] (Gh.mk (0 : Nat) (0 : Nat) []))
else (∃ s_32 : (List UInt8), (((AV.str l) = (AV.str s_32)) ∧
 (∃ n_33 : Int, (((AV.int .i64 (Nat.cast (List.length s_32) : Int)) = (AV.int .i64 n_33)) ∧
 (bif (decide (n_31 > n_33)) then (Q (Out.ret (AV.tup ((AV.agg zeroMedM) :: ((AV.int .i64 (5 : Int)) :: [])))) [] (Gh.mk (0 : Nat) (0 : Nat) []))
else (∃ s_34 : (List UInt8), (((AV.str l) = (AV.str s_34)) ∧
 (∃ s_35 : (List UInt8), (((AV.str l) = (AV.str s_35)) ∧
 (∃ n_36 : Int, (((AV.int .i64 (Nat.cast (List.length s_35) : Int)) = (AV.int .i64 n_36)) ∧
 (∃ n_37 : Int, (((AV.int .i64 (IntKind.wrap .i64 (n_36 - n_31))) = (AV.int .i64 n_37)) ∧
 (∃ s_38 : (List UInt8), (((AV.str l) = (AV.str s_38)) ∧
 (∃ n_39 : Int, (((AV.int .i64 (Nat.cast (List.length s_38) : Int)) = (AV.int .i64 n_39)) ∧
 (∃ n_40 : Int, (((AV.int .i64 (IntKind.wrap .i64 (n_39 - (1 : Int)))) = (AV.int .i64 n_40)) ∧
 (bif ((((decide ((0 : Int) ≤ n_37)) && (decide ((0 : Int) ≤ n_40))) && (Nat.ble (Int.toNat n_37) (Int.toNat n_40))) && (Nat.ble (Int.toNat n_40) (List.length s_34))) then (∃ s_41 : (List UInt8), (((AV.str (List.take ((Int.toNat n_40) - (Int.toNat n_37)) (List.drop (Int.toNat n_37) s_34))) = (AV.str s_41)) ∧
 (bif (Nat.ble (List.length s_41) (1000000 : Nat)) then (∃ s_42 : (List UInt8), (((AV.str (trimM s_41)) = (AV.str s_42)) ∧
 (bif (!(eqB s_42 [])) then (Q (Out.ret (AV.tup ((AV.agg zeroMedM) :: ((AV.int .i64 (5 : Int)) :: [])))) [] (Gh.mk (0 : Nat) (0 : Nat) []))
else (∃ s_43 : (List UInt8), (((AV.str l) = (AV.str s_43)) ∧
 (∃ s_44 : (List UInt8), (((AV.str l) = (AV.str s_44)) ∧
 (∃ n_45 : Int, (((AV.int .i64 (Nat.cast (List.length s_44) : Int)) = (AV.int .i64 n_45)) ∧
 (∃ n_46 : Int, (((AV.int .i64 (IntKind.wrap .i64 (n_45 - n_31))) = (AV.int .i64 n_46)) ∧
 (bif (((decide ((0 : Int) ≤ n_46)) && true) && (Nat.ble (Int.toNat n_46) (List.length s_43))) then (∃ s_47 : (List UInt8), (((AV.str (List.take ((Int.toNat n_46) - (0 : Nat)) (List.drop (0 : Nat) s_43))) = (AV.str s_47)) ∧
 (bif bad then (Q (Out.ret (AV.tup ((AV.agg zeroMedM) :: ((AV.int .i64 (5 : Int)) :: [])))) [] (Gh.mk (0 : Nat) (0 : Nat) []))
else (∃ n_48 : Int, (((AV.int .i64 (Int.fdiv fl (64 : Int))) = (AV.int .i64 n_48)) ∧
 (bif (n_48 != (2 : Int)) then (Q (Out.ret (AV.tup ((AV.agg zeroMedM) :: ((AV.int .i64 (5 : Int)) :: [])))) [] (Gh.mk (0 : Nat) (0 : Nat) []))
else (∃ s_49 : (List UInt8), (((AV.str s_47) = (AV.str s_49)) ∧
 (F false n_22 n_31 s_47 s_49)))))))))
else False))))))))))))
else False)))
else False)))))))))))))))))))))))))
else False)))))))))
else (Q (Out.ret (AV.tup ((AV.agg zeroMedM) :: ((AV.int .i64 (5 : Int)) :: [])))) [] (Gh.mk (0 : Nat) (0 : Nat) [])))))))
else (bif bad then (Q (Out.ret (AV.tup ((AV.agg zeroMedM) :: ((AV.int .i64 (5 : Int)) :: [])))) [] (Gh.mk (0 : Nat) (0 : Nat) []))
else (∃ n_24 : Int, (((AV.int .i64 (Int.fdiv fl (64 : Int))) = (AV.int .i64 n_24)) ∧
 (bif (n_24 != (2 : Int)) then (Q (Out.ret (AV.tup ((AV.agg zeroMedM) :: ((AV.int .i64 (5 : Int)) :: [])))) [] (Gh.mk (0 : Nat) (0 : Nat) []))
else (∃ s_25 : (List UInt8), (((AV.str l) = (AV.str s_25)) ∧
 (F false n_22 (0 : Int) l s_25))))))))))))))))
def vc_21_1 : Prop := (
((zeroMedM = zeroMedM) ∧
 False))
def extD (c sh : Bool) (fl kd : Int) (l : List UInt8) (F0 : Bool → Int → Int → List UInt8 → List UInt8 → Prop) (F1 : List Xt → Bool → Bool → Int → Int → List UInt8 → List UInt8 → Prop) (F2 : List Xt → Bool → Xt → Bool → Int → Int → List UInt8 → List UInt8 → Prop) (Q : Out → List Blk → Gh → Prop) : Prop := (∃ n_8 : Int, (((AV.int .i64 (IntKind.wrap .i64 (Nat.cast ((Int.toNat (fl % (18446744073709551616 : Int))) &&& (16 : Nat)) : Int))) = (AV.int .i64 n_8)) ∧
 (bif (n_8 != (0 : Int)) then (bif c then (∃ n_9 : Int, (((AV.int .i64 (takeNM l (2 : Int))) = (AV.int .i64 n_9)) ∧
 (bif c then (∃ n_10 : Int, (((AV.int .i64 (takeNM (takeLM l (2 : Int)) (2 : Int))) = (AV.int .i64 n_10)) ∧
 (∃ n_11 : Int, (((AV.int .i64 (IntKind.wrap .i64 ((4 : Int) * n_10))) = (AV.int .i64 n_11)) ∧
 (∃ s_12 : (List UInt8), (((AV.str (takeLM (takeLM l (2 : Int)) (2 : Int))) = (AV.str s_12)) ∧
 (∃ n_13 : Int, (((AV.int .i64 (Nat.cast (List.length s_12) : Int)) = (AV.int .i64 n_13)) ∧
 (bif (decide (n_11 > n_13)) then (Q (Out.ret (AV.tup ((AV.agg zeroMedM) :: ((AV.int .i64 (7 : Int)) :: [])))) [] (Gh.mk (0 : Nat) (0 : Nat) []))
else (∃ s_14 : (List UInt8), (((AV.str (takeLM (takeLM l (2 : Int)) (2 : Int))) = (AV.str s_14)) ∧
 (bif (((decide ((0 : Int) ≤ n_11)) && true) && (Nat.ble (Int.toNat n_11) (List.length s_14))) then (∃ s_15 : (List UInt8), (((AV.str (List.take ((Int.toNat n_11) - (0 : Nat)) (List.drop (0 : Nat) s_14))) = (AV.str s_15)) ∧
 (bif (Nat.ble (List.length s_15) (1000000 : Nat)) then (bif c then (∀ ex_16 : (List Xt), (∀ bad_17 : Bool, ((Lf ((extsM n_9 s_15) = (Prod.mk ex_16 bad_17))) →
(((Lf (ex_16 = [])) →
(∃ s_18 : (List UInt8), (((AV.str (takeLM (takeLM l (2 : Int)) (2 : Int))) = (AV.str s_18)) ∧
 (bif ((((decide ((0 : Int) ≤ n_11)) && true) && (Nat.ble (Int.toNat n_11) (List.length s_18))) && (Nat.ble (List.length s_18) (List.length s_18))) then (∃ s_19 : (List UInt8), (((AV.str (List.take ((List.length s_18) - (Int.toNat n_11)) (List.drop (Int.toNat n_11) s_18))) = (AV.str s_19)) ∧
 (tailD (takeSM (takeSM sh l (2 : Int)) (takeLM l (2 : Int)) (2 : Int)) bad_17 fl kd s_19 (F1 ex_16 bad_17) Q)))
else False)))) ∧
 (∀ x_18 : Xt, ((Lf (ex_16 ≠ [])) →
(∃ s_19 : (List UInt8), (((AV.str (takeLM (takeLM l (2 : Int)) (2 : Int))) = (AV.str s_19)) ∧
 (bif ((((decide ((0 : Int) ≤ n_11)) && true) && (Nat.ble (Int.toNat n_11) (List.length s_19))) && (Nat.ble (List.length s_19) (List.length s_19))) then (∃ s_20 : (List UInt8), (((AV.str (List.take ((List.length s_19) - (Int.toNat n_11)) (List.drop (Int.toNat n_11) s_19))) = (AV.str s_20)) ∧
 (tailD (takeSM (takeSM sh l (2 : Int)) (takeLM l (2 : Int)) (2 : Int)) bad_17 fl kd s_20 (F2 ex_16 bad_17 x_18) Q)))
else False)))))))))
else False)
else False)))
else False))))))))))))
else False)))
else False)
else (tailD sh false fl kd l F0 Q))))
theorem vc_21 (s : List UInt8) (Q : Out → List Blk → Gh → Prop) : goal_21 (lookV [(86030, .int .i64), (86038, .int .i64), (86040, .int .i64), (86045, .int .i64), (86047, .int .i64), (86049, .int .i64), (86060, .int .i64), (86070, .int .i64), (86076, .int .i64), (86078, .int .i64), (86081, .int .i64), (86083, .int .i64), (86085, .int .i64), (86090, .str), (86091, .int .i64), (86097, .str), (86099, .str), (86106, .str), (86108, .str), (86116, .int .i64), (86119, .int .i64), (86127, .int .i64), (86133, .int .i64), (86143, .int .i64), (86144, .int .i64), (86145, .int .u8), (86146, .int .i64), (86155, .int .i64), (86167, .int .i64), (86169, .int .i64), (86174, .int .i64), (86175, .int .i64), (86176, .str), (86177, .str), (86192, .int .i64), (86194, .int .i64), (86195, .str), (86207, .int .i64), (86132, .str), (86138, .str), (86142, .str), (86154, .str), (86162, .str), (86166, .str), (86173, .str), (86187, .str), (86191, .str), (86215, .str)]) (lookB []) s Q = (
(∃ n_0 : Int, (((AV.int .i64 (Nat.cast (List.length s) : Int)) = (AV.int .i64 n_0)) ∧
 (bif (decide (n_0 > (1200 : Int))) then (Q (Out.ret (AV.tup ((AV.agg zeroMedM) :: ((AV.int .i64 (3 : Int)) :: [])))) [] (Gh.mk (0 : Nat) (0 : Nat) []))
else (∃ n_1 : Int, (((AV.int .i64 (takeNM s (1 : Int))) = (AV.int .i64 n_1)) ∧
 (∃ n_2 : Int, (((AV.int .i64 (takeNM (takeLM s (1 : Int)) (1 : Int))) = (AV.int .i64 n_2)) ∧
 (∃ n_3 : Int, (((AV.int .i64 (takeNM (takeLM (takeLM s (1 : Int)) (1 : Int)) (2 : Int))) = (AV.int .i64 n_3)) ∧
 (∃ n_4 : Int, (((AV.int .i64 (takeNM (takeLM (takeLM (takeLM s (1 : Int)) (1 : Int)) (2 : Int)) (4 : Int))) = (AV.int .i64 n_4)) ∧
 (∃ n_5 : Int, (((AV.int .i64 (takeNM (takeLM (takeLM (takeLM (takeLM s (1 : Int)) (1 : Int)) (2 : Int)) (4 : Int)) (4 : Int))) = (AV.int .i64 n_5)) ∧
 (∃ n_6 : Int, (((AV.int .i64 (IntKind.wrap .i64 (Nat.cast ((Int.toNat (n_1 % (18446744073709551616 : Int))) &&& (15 : Nat)) : Int))) = (AV.int .i64 n_6)) ∧
 (((∃ x_7 : Nat, ((Lf (x_7 = (0 : Nat))) ∧
 ((zeroMedM = zeroMedM) ∧
 ((((AV.bool false) :: ((AV.int .i64 (0 : Int)) :: ((AV.int .i64 n_3) :: ((AV.int .i64 n_4) :: ((AV.int .i64 n_5) :: (AV.nils :: (AV.nils :: ((AV.int .i64 (0 : Int)) :: ((AV.str []) :: ((AV.str (takeLM (takeLM (takeLM (takeLM (takeLM s (1 : Int)) (1 : Int)) (2 : Int)) (4 : Int)) (4 : Int))) :: ((AV.bool false) :: []))))))))))) = ((AV.bool false) :: ((AV.int .i64 (0 : Int)) :: ((AV.int .i64 n_3) :: ((AV.int .i64 n_4) :: ((AV.int .i64 n_5) :: (AV.nils :: (AV.nils :: ((AV.int .i64 (0 : Int)) :: ((AV.str []) :: ((AV.str (takeLM (takeLM (takeLM (takeLM (takeLM s (1 : Int)) (1 : Int)) (2 : Int)) (4 : Int)) (4 : Int))) :: ((AV.bool false) :: [])))))))))))) ∧
 ((((AV.ptr (1 : Nat) (11 : Nat) (0 : Nat)) :: []) = ((AV.ptr (1 : Nat) (11 : Nat) (0 : Nat)) :: [])) ∧
 ((((AV.bool (takeSM (takeSM (takeSM (takeSM (takeSM false s (1 : Int)) (takeLM s (1 : Int)) (1 : Int)) (takeLM (takeLM s (1 : Int)) (1 : Int)) (2 : Int)) (takeLM (takeLM (takeLM s (1 : Int)) (1 : Int)) (2 : Int)) (4 : Int)) (takeLM (takeLM (takeLM (takeLM s (1 : Int)) (1 : Int)) (2 : Int)) (4 : Int)) (4 : Int))) :: []) = ((AV.bool (takeSM (takeSM (takeSM (takeSM (takeSM false s (1 : Int)) (takeLM s (1 : Int)) (1 : Int)) (takeLM (takeLM s (1 : Int)) (1 : Int)) (2 : Int)) (takeLM (takeLM (takeLM s (1 : Int)) (1 : Int)) (2 : Int)) (4 : Int)) (takeLM (takeLM (takeLM (takeLM s (1 : Int)) (1 : Int)) (2 : Int)) (4 : Int)) (4 : Int))) :: [])) ∧
 (((AV.int .i64 n_1) = (AV.int .i64 n_1)) ∧
 (((AV.ptr (3 : Nat) (1 : Nat) (0 : Nat)) = (AV.ptr (3 : Nat) (1 : Nat) (0 : Nat))) ∧
 (((AV.int .i64 (0 : Int)) = (AV.int .i64 (Nat.cast x_7 : Int))) ∧
 (((AV.ptr (0 : Nat) (9 : Nat) (0 : Nat)) = (AV.ptr (0 : Nat) (9 : Nat) (0 : Nat))) ∧
 (((AV.ptr (2 : Nat) (1 : Nat) (0 : Nat)) = (AV.ptr (2 : Nat) (1 : Nat) (0 : Nat))) ∧
 (((AV.int .i64 n_2) = (AV.int .i64 n_2)) ∧
 (((AV.int .i64 n_6) = (AV.int .i64 n_6)) ∧
 (((AV.fn (Fn.func (40 : Nat)) [] ((AV.ptr (2 : Nat) (1 : Nat) (0 : Nat)) :: ((AV.ptr (3 : Nat) (1 : Nat) (0 : Nat)) :: []))) = (AV.fn (Fn.func (40 : Nat)) [] ((AV.ptr (2 : Nat) (1 : Nat) (0 : Nat)) :: ((AV.ptr (3 : Nat) (1 : Nat) (0 : Nat)) :: [])))) ∧
 True)))))))))))))) ∨
 (∃ x_7 : Nat, ((Lf (((1 : Nat) ≤ x_7) ∧
 ((x_7 ≤ (15 : Nat)) ∧
 ((Nat.cast x_7 : Int) ≤ n_6)))) ∧
 vc_21_1))) ∧
 ((∀ x_7 : Nat, ((Lf (x_7 = (0 : Nat))) →
(bif (decide ((Nat.cast x_7 : Int) < n_6)) then (∃ n_8 : Int, (((AV.int .i64 (takeNM (takeLM (takeLM (takeLM (takeLM (takeLM s (1 : Int)) (1 : Int)) (2 : Int)) (4 : Int)) (4 : Int)) (4 : Int))) = (AV.int .i64 n_8)) ∧
 (∃ n_9 : Int, (((AV.int .i64 (IntKind.wrap .i64 ((Nat.cast x_7 : Int) + (1 : Int)))) = (AV.int .i64 n_9)) ∧
 ((True ∧
 ((0 : Nat) = (0 : Nat))) ∧
 ((∃ y_10 : Nat, ((Lf (y_10 = (0 : Nat))) ∧
 (((100 : Nat) < (100 : Nat)) ∧
 vc_21_1))) ∨
 (∃ y_10 : Nat, ((Lf (((1 : Nat) ≤ y_10) ∧
 ((y_10 ≤ (15 : Nat)) ∧
 ((Nat.cast y_10 : Int) ≤ n_6)))) ∧
 ((((15 : Nat) - y_10) < (100 : Nat)) ∧
 ((zeroMedM = zeroMedM) ∧
 ((((AV.bool false) :: ((AV.int .i64 (0 : Int)) :: ((AV.int .i64 n_3) :: ((AV.int .i64 n_4) :: ((AV.int .i64 n_5) :: ((AV.sl (5 : Nat) (1 : Nat) (0 : Nat) (1 : Nat) (1 : Nat)) :: (AV.nils :: ((AV.int .i64 (0 : Int)) :: ((AV.str []) :: ((AV.str (takeLM (takeLM (takeLM (takeLM (takeLM (takeLM s (1 : Int)) (1 : Int)) (2 : Int)) (4 : Int)) (4 : Int)) (4 : Int))) :: ((AV.bool false) :: []))))))))))) = ((AV.bool false) :: ((AV.int .i64 (0 : Int)) :: ((AV.int .i64 n_3) :: ((AV.int .i64 n_4) :: ((AV.int .i64 n_5) :: ((AV.sl (5 : Nat) y_10 (0 : Nat) y_10 (1 : Nat)) :: (AV.nils :: ((AV.int .i64 (0 : Int)) :: ((AV.str []) :: ((AV.str (leftM (takeLM (takeLM (takeLM (takeLM (takeLM s (1 : Int)) (1 : Int)) (2 : Int)) (4 : Int)) (4 : Int)) y_10)) :: ((AV.bool false) :: [])))))))))))) ∧
 ((((AV.ptr (1 : Nat) (11 : Nat) (0 : Nat)) :: []) = ((AV.ptr (1 : Nat) (11 : Nat) (0 : Nat)) :: [])) ∧
 ((((AV.bool (takeSM (takeSM (takeSM (takeSM (takeSM (takeSM false s (1 : Int)) (takeLM s (1 : Int)) (1 : Int)) (takeLM (takeLM s (1 : Int)) (1 : Int)) (2 : Int)) (takeLM (takeLM (takeLM s (1 : Int)) (1 : Int)) (2 : Int)) (4 : Int)) (takeLM (takeLM (takeLM (takeLM s (1 : Int)) (1 : Int)) (2 : Int)) (4 : Int)) (4 : Int)) (takeLM (takeLM (takeLM (takeLM (takeLM s (1 : Int)) (1 : Int)) (2 : Int)) (4 : Int)) (4 : Int)) (4 : Int))) :: []) = ((AV.bool (lackM (takeSM (takeSM (takeSM (takeSM (takeSM false s (1 : Int)) (takeLM s (1 : Int)) (1 : Int)) (takeLM (takeLM s (1 : Int)) (1 : Int)) (2 : Int)) (takeLM (takeLM (takeLM s (1 : Int)) (1 : Int)) (2 : Int)) (4 : Int)) (takeLM (takeLM (takeLM (takeLM s (1 : Int)) (1 : Int)) (2 : Int)) (4 : Int)) (4 : Int)) (takeLM (takeLM (takeLM (takeLM (takeLM s (1 : Int)) (1 : Int)) (2 : Int)) (4 : Int)) (4 : Int)) y_10)) :: [])) ∧
 ((((AV.int .i64 n_8) :: []) = ((AV.int .i64 (takeNM (leftM (takeLM (takeLM (takeLM (takeLM (takeLM s (1 : Int)) (1 : Int)) (2 : Int)) (4 : Int)) (4 : Int)) (0 : Nat)) (4 : Int))) :: [])) ∧
 ((((AV.int .i64 n_8) :: []) = (cellsI (csM (takeLM (takeLM (takeLM (takeLM (takeLM s (1 : Int)) (1 : Int)) (2 : Int)) (4 : Int)) (4 : Int)) y_10))) ∧
 (((AV.int .i64 n_1) = (AV.int .i64 n_1)) ∧
 (((AV.ptr (3 : Nat) (1 : Nat) (0 : Nat)) = (AV.ptr (3 : Nat) (1 : Nat) (0 : Nat))) ∧
 (((AV.int .i64 n_9) = (AV.int .i64 (Nat.cast y_10 : Int))) ∧
 (((AV.ptr (0 : Nat) (9 : Nat) (0 : Nat)) = (AV.ptr (0 : Nat) (9 : Nat) (0 : Nat))) ∧
 (((AV.ptr (2 : Nat) (1 : Nat) (0 : Nat)) = (AV.ptr (2 : Nat) (1 : Nat) (0 : Nat))) ∧
 (((AV.int .i64 n_2) = (AV.int .i64 n_2)) ∧
 (((AV.int .i64 n_6) = (AV.int .i64 n_6)) ∧
 (((AV.fn (Fn.func (40 : Nat)) [] ((AV.ptr (2 : Nat) (1 : Nat) (0 : Nat)) :: ((AV.ptr (3 : Nat) (1 : Nat) (0 : Nat)) :: []))) = (AV.fn (Fn.func (40 : Nat)) [] ((AV.ptr (2 : Nat) (1 : Nat) (0 : Nat)) :: ((AV.ptr (3 : Nat) (1 : Nat) (0 : Nat)) :: [])))) ∧
 True)))))))))))))))))))))))
else (extD true (takeSM (takeSM (takeSM (takeSM (takeSM false s (1 : Int)) (takeLM s (1 : Int)) (1 : Int)) (takeLM (takeLM s (1 : Int)) (1 : Int)) (2 : Int)) (takeLM (takeLM (takeLM s (1 : Int)) (1 : Int)) (2 : Int)) (4 : Int)) (takeLM (takeLM (takeLM (takeLM s (1 : Int)) (1 : Int)) (2 : Int)) (4 : Int)) (4 : Int)) n_1 n_2 (takeLM (takeLM (takeLM (takeLM (takeLM s (1 : Int)) (1 : Int)) (2 : Int)) (4 : Int)) (4 : Int)) (fun (mk_ : Bool) (ty_ pad_ : Int) (le_ pl_ : List UInt8) => (Q (Out.ret (AV.tup ((AV.agg ((AV.bool mk_) :: ((AV.int .i64 ty_) :: ((AV.int .i64 n_3) :: ((AV.int .i64 n_4) :: ((AV.int .i64 n_5) :: (AV.nils :: (AV.nils :: ((AV.int .i64 pad_) :: ((AV.str pl_) :: [])))))))))) :: ((AV.int .i64 (0 : Int)) :: [])))) [] (Gh.mk (0 : Nat) (0 : Nat) []))) (fun (ex_ : List Xt) (bad_ : Bool) => (fun (mk_ : Bool) (ty_ pad_ : Int) (le_ pl_ : List UInt8) => (Q (Out.ret (AV.tup ((AV.agg ((AV.bool mk_) :: ((AV.int .i64 ty_) :: ((AV.int .i64 n_3) :: ((AV.int .i64 n_4) :: ((AV.int .i64 n_5) :: (AV.nils :: (AV.nils :: ((AV.int .i64 pad_) :: ((AV.str pl_) :: [])))))))))) :: ((AV.int .i64 (0 : Int)) :: [])))) [] (Gh.mk (0 : Nat) (0 : Nat) [])))) (fun (ex_ : List Xt) (bad_ : Bool) (x_ : Xt) => (fun (mk_ : Bool) (ty_ pad_ : Int) (le_ pl_ : List UInt8) => (Q (Out.ret (AV.tup ((AV.agg ((AV.bool mk_) :: ((AV.int .i64 ty_) :: ((AV.int .i64 n_3) :: ((AV.int .i64 n_4) :: ((AV.int .i64 n_5) :: (AV.nils :: ((AV.sl (5 : Nat) ((2 : Nat) * (List.length ex_)) (0 : Nat) (List.length ex_) (2 : Nat)) :: ((AV.int .i64 pad_) :: ((AV.str pl_) :: [])))))))))) :: ((AV.int .i64 (0 : Int)) :: [])))) ((Blk.mk BK.exact false ((AV.bool mk_) :: ((AV.int .i64 ty_) :: ((AV.int .i64 n_3) :: ((AV.int .i64 n_4) :: ((AV.int .i64 n_5) :: (AV.nils :: ((AV.sl (5 : Nat) ((2 : Nat) * (List.length ex_)) (0 : Nat) (List.length ex_) (2 : Nat)) :: ((AV.int .i64 pad_) :: ((AV.str pl_) :: [])))))))))) :: ((Blk.mk BK.exact false ((AV.bool mk_) :: ((AV.int .i64 ty_) :: ((AV.int .i64 n_3) :: ((AV.int .i64 n_4) :: ((AV.int .i64 n_5) :: (AV.nils :: ((AV.sl (5 : Nat) ((2 : Nat) * (List.length ex_)) (0 : Nat) (List.length ex_) (2 : Nat)) :: ((AV.int .i64 pad_) :: ((AV.str pl_) :: ((AV.str le_) :: ((AV.bool bad_) :: [])))))))))))) :: ((Blk.mk BK.exact false ((AV.ptr (1 : Nat) (11 : Nat) (0 : Nat)) :: [])) :: ((Blk.mk BK.exact true ((AV.bool (takeSM (takeSM (takeSM (takeSM (takeSM (takeSM (takeSM false s (1 : Int)) (takeLM s (1 : Int)) (1 : Int)) (takeLM (takeLM s (1 : Int)) (1 : Int)) (2 : Int)) (takeLM (takeLM (takeLM s (1 : Int)) (1 : Int)) (2 : Int)) (4 : Int)) (takeLM (takeLM (takeLM (takeLM s (1 : Int)) (1 : Int)) (2 : Int)) (4 : Int)) (4 : Int)) (takeLM (takeLM (takeLM (takeLM (takeLM s (1 : Int)) (1 : Int)) (2 : Int)) (4 : Int)) (4 : Int)) (2 : Int)) (takeLM (takeLM (takeLM (takeLM (takeLM (takeLM s (1 : Int)) (1 : Int)) (2 : Int)) (4 : Int)) (4 : Int)) (2 : Int)) (2 : Int))) :: [])) :: ((Blk.mk BK.exact true (cellsXM (x_ :: []))) :: ((Blk.mk BK.grow true (cellsXM ex_)) :: [])))))) (Gh.mk (0 : Nat) (0 : Nat) [])))) Q)))) ∧
 (∀ x_7 : Nat, ((Lf (((1 : Nat) ≤ x_7) ∧
 ((x_7 ≤ (15 : Nat)) ∧
 ((Nat.cast x_7 : Int) ≤ n_6)))) →
(bif (decide ((Nat.cast x_7 : Int) < n_6)) then (bif ((Nat.beq x_7 x_7) && (flatLM (cellsI (csM (takeLM (takeLM (takeLM (takeLM (takeLM s (1 : Int)) (1 : Int)) (2 : Int)) (4 : Int)) (4 : Int)) x_7)))) then (bif ((eqAVL ((AV.sl (5 : Nat) x_7 (0 : Nat) x_7 (1 : Nat)) :: []) ((AV.sl (5 : Nat) x_7 (0 : Nat) x_7 (1 : Nat)) :: [])) && true) then (∃ n_8 : Int, (((AV.int .i64 (takeNM (leftM (takeLM (takeLM (takeLM (takeLM (takeLM s (1 : Int)) (1 : Int)) (2 : Int)) (4 : Int)) (4 : Int)) x_7) (4 : Int))) = (AV.int .i64 n_8)) ∧
 (bif (((((Nat.beq (List.length (cellsI (csM (takeLM (takeLM (takeLM (takeLM (takeLM s (1 : Int)) (1 : Int)) (2 : Int)) (4 : Int)) (4 : Int)) x_7))) x_7) && true) && (Nat.beq ((0 : Nat) + (x_7 * (1 : Nat))) x_7)) && (Nat.ble (x_7 + (1 : Nat)) (1099511627776 : Nat))) && (Nat.ble ((x_7 + (1 : Nat)) * (8 : Nat)) (1099511627776 : Nat))) then (∃ n_9 : Int, (((AV.int .i64 (IntKind.wrap .i64 ((Nat.cast x_7 : Int) + (1 : Int)))) = (AV.int .i64 n_9)) ∧
 ((True ∧
 ((0 : Nat) = (0 : Nat))) ∧
 ((∃ y_10 : Nat, ((Lf (y_10 = (0 : Nat))) ∧
 (((100 : Nat) < ((15 : Nat) - x_7)) ∧
 vc_21_1))) ∨
 (∃ y_10 : Nat, ((Lf (((1 : Nat) ≤ y_10) ∧
 ((y_10 ≤ (15 : Nat)) ∧
 ((Nat.cast y_10 : Int) ≤ n_6)))) ∧
 ((((15 : Nat) - y_10) < ((15 : Nat) - x_7)) ∧
 ((zeroMedM = zeroMedM) ∧
 ((((AV.bool false) :: ((AV.int .i64 (0 : Int)) :: ((AV.int .i64 n_3) :: ((AV.int .i64 n_4) :: ((AV.int .i64 n_5) :: ((AV.sl (5 : Nat) (x_7 + (1 : Nat)) (0 : Nat) (x_7 + (1 : Nat)) (1 : Nat)) :: (AV.nils :: ((AV.int .i64 (0 : Int)) :: ((AV.str []) :: ((AV.str (takeLM (leftM (takeLM (takeLM (takeLM (takeLM (takeLM s (1 : Int)) (1 : Int)) (2 : Int)) (4 : Int)) (4 : Int)) x_7) (4 : Int))) :: ((AV.bool false) :: []))))))))))) = ((AV.bool false) :: ((AV.int .i64 (0 : Int)) :: ((AV.int .i64 n_3) :: ((AV.int .i64 n_4) :: ((AV.int .i64 n_5) :: ((AV.sl (5 : Nat) y_10 (0 : Nat) y_10 (1 : Nat)) :: (AV.nils :: ((AV.int .i64 (0 : Int)) :: ((AV.str []) :: ((AV.str (leftM (takeLM (takeLM (takeLM (takeLM (takeLM s (1 : Int)) (1 : Int)) (2 : Int)) (4 : Int)) (4 : Int)) y_10)) :: ((AV.bool false) :: [])))))))))))) ∧
 ((((AV.ptr (1 : Nat) (11 : Nat) (0 : Nat)) :: []) = ((AV.ptr (1 : Nat) (11 : Nat) (0 : Nat)) :: [])) ∧
 ((((AV.bool (takeSM (lackM (takeSM (takeSM (takeSM (takeSM (takeSM false s (1 : Int)) (takeLM s (1 : Int)) (1 : Int)) (takeLM (takeLM s (1 : Int)) (1 : Int)) (2 : Int)) (takeLM (takeLM (takeLM s (1 : Int)) (1 : Int)) (2 : Int)) (4 : Int)) (takeLM (takeLM (takeLM (takeLM s (1 : Int)) (1 : Int)) (2 : Int)) (4 : Int)) (4 : Int)) (takeLM (takeLM (takeLM (takeLM (takeLM s (1 : Int)) (1 : Int)) (2 : Int)) (4 : Int)) (4 : Int)) x_7) (leftM (takeLM (takeLM (takeLM (takeLM (takeLM s (1 : Int)) (1 : Int)) (2 : Int)) (4 : Int)) (4 : Int)) x_7) (4 : Int))) :: []) = ((AV.bool (lackM (takeSM (takeSM (takeSM (takeSM (takeSM false s (1 : Int)) (takeLM s (1 : Int)) (1 : Int)) (takeLM (takeLM s (1 : Int)) (1 : Int)) (2 : Int)) (takeLM (takeLM (takeLM s (1 : Int)) (1 : Int)) (2 : Int)) (4 : Int)) (takeLM (takeLM (takeLM (takeLM s (1 : Int)) (1 : Int)) (2 : Int)) (4 : Int)) (4 : Int)) (takeLM (takeLM (takeLM (takeLM (takeLM s (1 : Int)) (1 : Int)) (2 : Int)) (4 : Int)) (4 : Int)) y_10)) :: [])) ∧
 ((((AV.int .i64 (takeNM (leftM (takeLM (takeLM (takeLM (takeLM (takeLM s (1 : Int)) (1 : Int)) (2 : Int)) (4 : Int)) (4 : Int)) (0 : Nat)) (4 : Int))) :: []) = ((AV.int .i64 (takeNM (leftM (takeLM (takeLM (takeLM (takeLM (takeLM s (1 : Int)) (1 : Int)) (2 : Int)) (4 : Int)) (4 : Int)) (0 : Nat)) (4 : Int))) :: [])) ∧
 ((((cellsI (csM (takeLM (takeLM (takeLM (takeLM (takeLM s (1 : Int)) (1 : Int)) (2 : Int)) (4 : Int)) (4 : Int)) x_7)) ++ ((AV.int .i64 n_8) :: [])) = (cellsI (csM (takeLM (takeLM (takeLM (takeLM (takeLM s (1 : Int)) (1 : Int)) (2 : Int)) (4 : Int)) (4 : Int)) y_10))) ∧
 (((AV.int .i64 n_1) = (AV.int .i64 n_1)) ∧
 (((AV.ptr (3 : Nat) (1 : Nat) (0 : Nat)) = (AV.ptr (3 : Nat) (1 : Nat) (0 : Nat))) ∧
 (((AV.int .i64 n_9) = (AV.int .i64 (Nat.cast y_10 : Int))) ∧
 (((AV.ptr (0 : Nat) (9 : Nat) (0 : Nat)) = (AV.ptr (0 : Nat) (9 : Nat) (0 : Nat))) ∧
 (((AV.ptr (2 : Nat) (1 : Nat) (0 : Nat)) = (AV.ptr (2 : Nat) (1 : Nat) (0 : Nat))) ∧
 (((AV.int .i64 n_2) = (AV.int .i64 n_2)) ∧
 (((AV.int .i64 n_6) = (AV.int .i64 n_6)) ∧
 (((AV.fn (Fn.func (40 : Nat)) [] ((AV.ptr (2 : Nat) (1 : Nat) (0 : Nat)) :: ((AV.ptr (3 : Nat) (1 : Nat) (0 : Nat)) :: []))) = (AV.fn (Fn.func (40 : Nat)) [] ((AV.ptr (2 : Nat) (1 : Nat) (0 : Nat)) :: ((AV.ptr (3 : Nat) (1 : Nat) (0 : Nat)) :: [])))) ∧
 True)))))))))))))))))))))
else False)))
else False)
else False)
else (extD ((Nat.beq x_7 x_7) && (flatLM (cellsI (csM (takeLM (takeLM (takeLM (takeLM (takeLM s (1 : Int)) (1 : Int)) (2 : Int)) (4 : Int)) (4 : Int)) x_7)))) (lackM (takeSM (takeSM (takeSM (takeSM (takeSM false s (1 : Int)) (takeLM s (1 : Int)) (1 : Int)) (takeLM (takeLM s (1 : Int)) (1 : Int)) (2 : Int)) (takeLM (takeLM (takeLM s (1 : Int)) (1 : Int)) (2 : Int)) (4 : Int)) (takeLM (takeLM (takeLM (takeLM s (1 : Int)) (1 : Int)) (2 : Int)) (4 : Int)) (4 : Int)) (takeLM (takeLM (takeLM (takeLM (takeLM s (1 : Int)) (1 : Int)) (2 : Int)) (4 : Int)) (4 : Int)) x_7) n_1 n_2 (leftM (takeLM (takeLM (takeLM (takeLM (takeLM s (1 : Int)) (1 : Int)) (2 : Int)) (4 : Int)) (4 : Int)) x_7) (fun (mk_ : Bool) (ty_ pad_ : Int) (le_ pl_ : List UInt8) => (Q (Out.ret (AV.tup ((AV.agg ((AV.bool mk_) :: ((AV.int .i64 ty_) :: ((AV.int .i64 n_3) :: ((AV.int .i64 n_4) :: ((AV.int .i64 n_5) :: ((AV.sl (5 : Nat) x_7 (0 : Nat) x_7 (1 : Nat)) :: (AV.nils :: ((AV.int .i64 pad_) :: ((AV.str pl_) :: [])))))))))) :: ((AV.int .i64 (0 : Int)) :: [])))) ((Blk.mk BK.exact false ((AV.bool mk_) :: ((AV.int .i64 ty_) :: ((AV.int .i64 n_3) :: ((AV.int .i64 n_4) :: ((AV.int .i64 n_5) :: ((AV.sl (5 : Nat) x_7 (0 : Nat) x_7 (1 : Nat)) :: (AV.nils :: ((AV.int .i64 pad_) :: ((AV.str pl_) :: [])))))))))) :: ((Blk.mk BK.exact false ((AV.bool mk_) :: ((AV.int .i64 ty_) :: ((AV.int .i64 n_3) :: ((AV.int .i64 n_4) :: ((AV.int .i64 n_5) :: ((AV.sl (5 : Nat) x_7 (0 : Nat) x_7 (1 : Nat)) :: (AV.nils :: ((AV.int .i64 pad_) :: ((AV.str pl_) :: ((AV.str le_) :: ((AV.bool false) :: [])))))))))))) :: ((Blk.mk BK.exact false ((AV.ptr (1 : Nat) (11 : Nat) (0 : Nat)) :: [])) :: ((Blk.mk BK.exact true ((AV.bool (lackM (takeSM (takeSM (takeSM (takeSM (takeSM false s (1 : Int)) (takeLM s (1 : Int)) (1 : Int)) (takeLM (takeLM s (1 : Int)) (1 : Int)) (2 : Int)) (takeLM (takeLM (takeLM s (1 : Int)) (1 : Int)) (2 : Int)) (4 : Int)) (takeLM (takeLM (takeLM (takeLM s (1 : Int)) (1 : Int)) (2 : Int)) (4 : Int)) (4 : Int)) (takeLM (takeLM (takeLM (takeLM (takeLM s (1 : Int)) (1 : Int)) (2 : Int)) (4 : Int)) (4 : Int)) x_7)) :: [])) :: ((Blk.mk BK.exact true ((AV.int .i64 (takeNM (leftM (takeLM (takeLM (takeLM (takeLM (takeLM s (1 : Int)) (1 : Int)) (2 : Int)) (4 : Int)) (4 : Int)) (0 : Nat)) (4 : Int))) :: [])) :: ((Blk.mk BK.grow true (cellsI (csM (takeLM (takeLM (takeLM (takeLM (takeLM s (1 : Int)) (1 : Int)) (2 : Int)) (4 : Int)) (4 : Int)) x_7))) :: [])))))) (Gh.mk (0 : Nat) (0 : Nat) []))) (fun (ex_ : List Xt) (bad_ : Bool) => (fun (mk_ : Bool) (ty_ pad_ : Int) (le_ pl_ : List UInt8) => (Q (Out.ret (AV.tup ((AV.agg ((AV.bool mk_) :: ((AV.int .i64 ty_) :: ((AV.int .i64 n_3) :: ((AV.int .i64 n_4) :: ((AV.int .i64 n_5) :: ((AV.sl (5 : Nat) x_7 (0 : Nat) x_7 (1 : Nat)) :: (AV.nils :: ((AV.int .i64 pad_) :: ((AV.str pl_) :: [])))))))))) :: ((AV.int .i64 (0 : Int)) :: [])))) ((Blk.mk BK.exact false ((AV.bool mk_) :: ((AV.int .i64 ty_) :: ((AV.int .i64 n_3) :: ((AV.int .i64 n_4) :: ((AV.int .i64 n_5) :: ((AV.sl (5 : Nat) x_7 (0 : Nat) x_7 (1 : Nat)) :: (AV.nils :: ((AV.int .i64 pad_) :: ((AV.str pl_) :: [])))))))))) :: ((Blk.mk BK.exact false ((AV.bool mk_) :: ((AV.int .i64 ty_) :: ((AV.int .i64 n_3) :: ((AV.int .i64 n_4) :: ((AV.int .i64 n_5) :: ((AV.sl (5 : Nat) x_7 (0 : Nat) x_7 (1 : Nat)) :: (AV.nils :: ((AV.int .i64 pad_) :: ((AV.str pl_) :: ((AV.str le_) :: ((AV.bool bad_) :: [])))))))))))) :: ((Blk.mk BK.exact false ((AV.ptr (1 : Nat) (11 : Nat) (0 : Nat)) :: [])) :: ((Blk.mk BK.exact true ((AV.bool (takeSM (takeSM (lackM (takeSM (takeSM (takeSM (takeSM (takeSM false s (1 : Int)) (takeLM s (1 : Int)) (1 : Int)) (takeLM (takeLM s (1 : Int)) (1 : Int)) (2 : Int)) (takeLM (takeLM (takeLM s (1 : Int)) (1 : Int)) (2 : Int)) (4 : Int)) (takeLM (takeLM (takeLM (takeLM s (1 : Int)) (1 : Int)) (2 : Int)) (4 : Int)) (4 : Int)) (takeLM (takeLM (takeLM (takeLM (takeLM s (1 : Int)) (1 : Int)) (2 : Int)) (4 : Int)) (4 : Int)) x_7) (leftM (takeLM (takeLM (takeLM (takeLM (takeLM s (1 : Int)) (1 : Int)) (2 : Int)) (4 : Int)) (4 : Int)) x_7) (2 : Int)) (takeLM (leftM (takeLM (takeLM (takeLM (takeLM (takeLM s (1 : Int)) (1 : Int)) (2 : Int)) (4 : Int)) (4 : Int)) x_7) (2 : Int)) (2 : Int))) :: [])) :: ((Blk.mk BK.exact true ((AV.int .i64 (takeNM (leftM (takeLM (takeLM (takeLM (takeLM (takeLM s (1 : Int)) (1 : Int)) (2 : Int)) (4 : Int)) (4 : Int)) (0 : Nat)) (4 : Int))) :: [])) :: ((Blk.mk BK.grow true (cellsI (csM (takeLM (takeLM (takeLM (takeLM (takeLM s (1 : Int)) (1 : Int)) (2 : Int)) (4 : Int)) (4 : Int)) x_7))) :: [])))))) (Gh.mk (0 : Nat) (0 : Nat) [])))) (fun (ex_ : List Xt) (bad_ : Bool) (x_ : Xt) => (fun (mk_ : Bool) (ty_ pad_ : Int) (le_ pl_ : List UInt8) => (Q (Out.ret (AV.tup ((AV.agg ((AV.bool mk_) :: ((AV.int .i64 ty_) :: ((AV.int .i64 n_3) :: ((AV.int .i64 n_4) :: ((AV.int .i64 n_5) :: ((AV.sl (5 : Nat) x_7 (0 : Nat) x_7 (1 : Nat)) :: ((AV.sl (7 : Nat) ((2 : Nat) * (List.length ex_)) (0 : Nat) (List.length ex_) (2 : Nat)) :: ((AV.int .i64 pad_) :: ((AV.str pl_) :: [])))))))))) :: ((AV.int .i64 (0 : Int)) :: [])))) ((Blk.mk BK.exact false ((AV.bool mk_) :: ((AV.int .i64 ty_) :: ((AV.int .i64 n_3) :: ((AV.int .i64 n_4) :: ((AV.int .i64 n_5) :: ((AV.sl (5 : Nat) x_7 (0 : Nat) x_7 (1 : Nat)) :: ((AV.sl (7 : Nat) ((2 : Nat) * (List.length ex_)) (0 : Nat) (List.length ex_) (2 : Nat)) :: ((AV.int .i64 pad_) :: ((AV.str pl_) :: [])))))))))) :: ((Blk.mk BK.exact false ((AV.bool mk_) :: ((AV.int .i64 ty_) :: ((AV.int .i64 n_3) :: ((AV.int .i64 n_4) :: ((AV.int .i64 n_5) :: ((AV.sl (5 : Nat) x_7 (0 : Nat) x_7 (1 : Nat)) :: ((AV.sl (7 : Nat) ((2 : Nat) * (List.length ex_)) (0 : Nat) (List.length ex_) (2 : Nat)) :: ((AV.int .i64 pad_) :: ((AV.str pl_) :: ((AV.str le_) :: ((AV.bool bad_) :: [])))))))))))) :: ((Blk.mk BK.exact false ((AV.ptr (1 : Nat) (11 : Nat) (0 : Nat)) :: [])) :: ((Blk.mk BK.exact true ((AV.bool (takeSM (takeSM (lackM (takeSM (takeSM (takeSM (takeSM (takeSM false s (1 : Int)) (takeLM s (1 : Int)) (1 : Int)) (takeLM (takeLM s (1 : Int)) (1 : Int)) (2 : Int)) (takeLM (takeLM (takeLM s (1 : Int)) (1 : Int)) (2 : Int)) (4 : Int)) (takeLM (takeLM (takeLM (takeLM s (1 : Int)) (1 : Int)) (2 : Int)) (4 : Int)) (4 : Int)) (takeLM (takeLM (takeLM (takeLM (takeLM s (1 : Int)) (1 : Int)) (2 : Int)) (4 : Int)) (4 : Int)) x_7) (leftM (takeLM (takeLM (takeLM (takeLM (takeLM s (1 : Int)) (1 : Int)) (2 : Int)) (4 : Int)) (4 : Int)) x_7) (2 : Int)) (takeLM (leftM (takeLM (takeLM (takeLM (takeLM (takeLM s (1 : Int)) (1 : Int)) (2 : Int)) (4 : Int)) (4 : Int)) x_7) (2 : Int)) (2 : Int))) :: [])) :: ((Blk.mk BK.exact true ((AV.int .i64 (takeNM (leftM (takeLM (takeLM (takeLM (takeLM (takeLM s (1 : Int)) (1 : Int)) (2 : Int)) (4 : Int)) (4 : Int)) (0 : Nat)) (4 : Int))) :: [])) :: ((Blk.mk BK.grow true (cellsI (csM (takeLM (takeLM (takeLM (takeLM (takeLM s (1 : Int)) (1 : Int)) (2 : Int)) (4 : Int)) (4 : Int)) x_7))) :: ((Blk.mk BK.exact true (cellsXM (x_ :: []))) :: ((Blk.mk BK.grow true (cellsXM ex_)) :: [])))))))) (Gh.mk (0 : Nat) (0 : Nat) [])))) Q)))))))))))))))))))))) := by kernel_rfl

theorem and15 : ∀ m : Nat, m < 256 → m &&& 15 = m % 16 := by decide
theorem and16 : ∀ m : Nat, m < 256 → m &&& 16 = m / 16 % 2 * 16 := by decide
theorem and32 : ∀ m : Nat, m < 256 → m &&& 32 = m / 32 % 2 * 32 := by decide
theorem and127 : ∀ m : Nat, m < 256 → m &&& 127 = m % 128 := by decide
theorem and128 : ∀ m : Nat, m < 256 → m &&& 128 = m / 128 * 128 := by decide
def padNM (l : List UInt8) : Nat := if l.length = 0 then 0 else (l.getD (l.length - 1) (UInt8.ofNat 0)).toNat
def padSM (l : List UInt8) : List UInt8 := (l.drop (l.length - padNM l)).take (padNM l - 1)
/-- the end of reading: an error or none, the padding, the payload -/
def decTM (sh bad : Bool) (fl : Int) (l : List UInt8) : Int × Int × List UInt8 :=
  if sh = true then (7, 0, [])
  else if fl / 32 % 2 = 1 then
    (if padNM l = 0 ∨ l.length < padNM l ∨ eqB (trimM (padSM l)) [] = false then (5, 0, [])
    else if bad = true ∨ fl / 64 ≠ 2 then (5, 0, []) else (0, padNM l, l.take (l.length - padNM l)))
  else if bad = true ∨ fl / 64 ≠ 2 then (5, 0, []) else (0, 0, l)
def errV (e : Int) : Out := .ret (.tup [.agg [.bool false, .int .i64 0, .int .i64 0, .int .i64 0, .int .i64 0, .nils, .nils, .int .i64 0, .str []], .int .i64 e])
theorem tail_ok {sh bad : Bool} {fl kd : Int} {l : List UInt8} {F : Bool → Int → Int → List UInt8 → List UInt8 → Prop} {Q : Out → List Blk → Gh → Prop} (hf : 0 ≤ fl ∧ fl ≤ 255) (hk : 0 ≤ kd ∧ kd ≤ 255) (hl : l.length ≤ 1300)
    (h7 : (decTM sh bad fl l).1 = 7 → Q (errV 7) [] {}) (h5 : (decTM sh bad fl l).1 = 5 → Q (errV 5) [] {})
    (h0 : ∀ p y, decTM sh bad fl l = (0, p, y) → ∀ le, F (decide (128 ≤ kd)) (kd % 128) p le y) : tailD sh bad fl kd l F Q := by
  unfold tailD
  refine splitI (fun hs => ?_) (fun hs => ?_)
  · exact h7 (by simp [decTM, hs])
  obtain ⟨m, rfl⟩ := Int.eq_ofNat_of_zero_le hk.1
  obtain ⟨f, rfl⟩ := Int.eq_ofNat_of_zero_le hf.1
  have e1 : Int.toNat ((m : Int) % 18446744073709551616) = m := by omega
  have e2 : Int.toNat ((f : Int) % 18446744073709551616) = f := by omega
  have hp : padNM l ≤ 255 := by
    unfold padNM
    split
    · omega
    · have := (l.getD (l.length - 1) (UInt8.ofNat 0)).toNat_lt
      omega
  have hE : ∀ {g : Int}, g = (f : Int) → (decTM sh bad f l).1 = 5 → Q (errV 5) [] {} := fun _ h => h5 h
  have ht : ∀ a : Int, List.take (Int.toNat a - 0) (List.drop 0 l) = l.take a.toNat := fun a => by rw [List.drop_zero, Nat.sub_zero]
  have hd : Int.fdiv (f : Int) 64 = (f : Int) / 64 := by rw [Int.fdiv_eq_ediv_of_nonneg _ (by omega)]
  rw [e1, e2, and128 m (by omega), and127 m (by omega), and32 f (by omega)]
  refine wrapI (by omega) (by omega) (splitNE (fun a => ?_) (fun a => ?_))
  all_goals
    first
      | (have hm : decide (128 ≤ (m : Int)) = true := decide_eq_true (by omega))
      | (have hm : decide (128 ≤ (m : Int)) = false := decide_eq_false (by omega))
    have hkd : ((m % 128 : Nat) : Int) = (m : Int) % 128 := by omega
    rw [hm] at h0
    refine wrapI (by omega) (by omega) (wrapI (by omega) (by omega) (splitNE (fun b => ?_) (fun b => ?_)))
    · have hb : (f : Int) / 32 % 2 = 1 := by omega
      have hD : decTM sh bad f l = if padNM l = 0 ∨ l.length < padNM l ∨ eqB (trimM (padSM l)) [] = false then (5, 0, []) else if bad = true ∨ (f : Int) / 64 ≠ 2 then (5, 0, []) else (0, (padNM l : Int), l.take (l.length - padNM l)) := by rw [decTM, if_neg (by simp [hs]), if_pos hb]
      refine ⟨l, rfl, _, rfl, splitD (fun c => ?_) (fun c => ?_)⟩
      · refine ⟨l, rfl, l, rfl, _, rfl, wrapI (by omega) (by omega) (ckI (by simp; omega) ⟨_, rfl, ?_⟩)⟩
        rw [show UInt8.toNat (List.getD l (Int.toNat ((l.length : Int) - 1)) (UInt8.ofNat 0)) = padNM l by rw [padNM, if_neg (by omega), show Int.toNat ((l.length : Int) - 1) = l.length - 1 by omega]]
        refine wrapI (by omega) (by omega) (splitE (fun h => ?_) (fun h => ?_))
        · exact h5 (by rw [hD, if_pos (.inl (by omega))])
        refine ⟨l, rfl, _, rfl, splitD (fun h' => ?_) (fun h' => ?_)⟩
        · exact h5 (by rw [hD, if_pos (.inr (.inl (by omega)))])
        refine ⟨l, rfl, l, rfl, _, rfl, wrapI (by omega) (by omega) ⟨l, rfl, _, rfl, wrapI (by omega) (by omega) (ckI (by simp; omega) ⟨padSM l, ?_, ckI (by rw [Nat.ble_eq, padSM, List.length_take]; omega) ⟨_, rfl, ?_⟩⟩)⟩⟩
        · rw [padSM, show Int.toNat ((l.length : Int) - 1) - Int.toNat ((l.length : Int) - (padNM l : Int)) = padNM l - 1 by omega, show Int.toNat ((l.length : Int) - (padNM l : Int)) = l.length - padNM l by omega]
        refine splitNot (splitI (fun q => ?_) (fun q => ?_))
        · refine ⟨l, rfl, l, rfl, _, rfl, wrapI (by omega) (by omega) (ckI (by simp; omega) ⟨l.take (l.length - padNM l), by rw [ht, show Int.toNat ((l.length : Int) - (padNM l : Int)) = l.length - padNM l by omega], splitI (fun z => ?_) (fun z => ⟨_, rfl, ?_⟩)⟩)⟩
          · exact h5 (by rw [hD, if_neg (by rw [q]; simp; omega), if_pos (.inl z)])
          rw [hd]
          refine splitNE (fun y => ?_) (fun y => ?_)
          · exact h5 (by rw [hD, if_neg (by rw [q]; simp; omega), if_pos (.inr y)])
          · refine ⟨_, rfl, ?_⟩
            rw [hkd]
            exact h0 _ _ (by rw [hD, if_neg (by rw [q]; simp; omega), if_neg (by rw [z, y]; simp)]) _
        · exact h5 (by rw [hD, if_pos (.inr (.inr q))])
      · exact h5 (by rw [hD, if_pos (.inl (by rw [padNM, if_pos (by omega)]))])
    · have hb : ¬ ((f : Int) / 32 % 2 = 1) := by omega
      have hD : decTM sh bad f l = if bad = true ∨ (f : Int) / 64 ≠ 2 then (5, 0, []) else (0, 0, l) := by rw [decTM, if_neg (by simp [hs]), if_neg hb]
      refine splitI (fun z => ?_) (fun z => ⟨_, rfl, ?_⟩)
      · exact h5 (by rw [hD, if_pos (.inl z)])
      rw [hd]
      refine splitNE (fun y => ?_) (fun y => ?_)
      · exact h5 (by rw [hD, if_pos (.inr y)])
      · refine ⟨_, rfl, ?_⟩
        rw [hkd]
        exact h0 _ _ (by rw [hD, if_neg (by rw [z, y]; simp)]) _
theorem num_app (a : List UInt8) (c : UInt8) : numM (a ++ [c]) = numM a * 256 + (c.toNat : Int) := by simp [numM]
theorem num_lt (l : List UInt8) : 0 ≤ numM l ∧ numM l < 256 ^ l.length := by
  suffices ∀ n, ∀ l : List UInt8, l.length = n → 0 ≤ numM l ∧ numM l < 256 ^ l.length from this _ l rfl
  intro n
  induction n with
  | zero => intro l h; rw [List.length_eq_zero_iff.1 h]; simp [numM]
  | succ n ih =>
    intro l h
    have hne : l ≠ [] := by rintro rfl; simp at h
    rw [← List.dropLast_concat_getLast hne, num_app]
    have h1 : l.dropLast.length = n := by rw [List.length_dropLast]; omega
    have h2 := ih _ h1
    have h3 := (l.getLast hne).toNat_lt
    rw [List.length_append, List.length_singleton, Int.pow_succ]
    omega
theorem takeN_lt (l : List UInt8) (k : Nat) : 0 ≤ takeNM l k ∧ takeNM l k < 256 ^ k := by
  rw [takeNM, Int.toNat_natCast]
  split
  · exact ⟨by omega, Int.pow_pos (by omega)⟩
  · have := num_lt (l.take k)
    rw [List.length_take, Nat.min_eq_left (by omega)] at this
    exact this
theorem takeL_len (l : List UInt8) (k : Int) : (takeLM l k).length ≤ l.length := by
  rw [takeLM]
  split
  · simp
  · simp
/-- what stands behind the sources -/
def decXM (sh : Bool) (fl : Int) (l : List UInt8) : List Xt × (Int × Int × List UInt8) :=
  if fl / 16 % 2 = 1 then
    (if ((takeLM (takeLM l 2) 2).length : Int) < 4 * takeNM (takeLM l 2) 2 then ([], (7, 0, []))
    else ((extsM (takeNM l 2) ((takeLM (takeLM l 2) 2).take (4 * takeNM (takeLM l 2) 2).toNat)).1,
      decTM (takeSM (takeSM sh l 2) (takeLM l 2) 2) (extsM (takeNM l 2) ((takeLM (takeLM l 2) 2).take (4 * takeNM (takeLM l 2) 2).toNat)).2 fl ((takeLM (takeLM l 2) 2).drop (4 * takeNM (takeLM l 2) 2).toNat)))
  else ([], decTM sh false fl l)
theorem decT_code (sh bad : Bool) (fl : Int) (l : List UInt8) : (decTM sh bad fl l).1 = 7 ∨ (decTM sh bad fl l).1 = 5 ∨ (decTM sh bad fl l).1 = 0 := by
  unfold decTM
  repeat' split
  all_goals simp
theorem extD_ok {c sh : Bool} (hc : c = true) {fl kd : Int} {l : List UInt8} {F0 : Bool → Int → Int → List UInt8 → List UInt8 → Prop} {F1 : List Xt → Bool → Bool → Int → Int → List UInt8 → List UInt8 → Prop} {F2 : List Xt → Bool → Xt → Bool → Int → Int → List UInt8 → List UInt8 → Prop} {Q : Out → List Blk → Gh → Prop}
    (hf : 0 ≤ fl ∧ fl ≤ 255) (hk : 0 ≤ kd ∧ kd ≤ 255) (hl : l.length ≤ 1300) (h7 : (decXM sh fl l).2.1 = 7 → Q (errV 7) [] {}) (h5 : (decXM sh fl l).2.1 = 5 → Q (errV 5) [] {})
    (h0 : ∀ p y, decXM sh fl l = ([], 0, p, y) → ∀ le, F0 (decide (128 ≤ kd)) (kd % 128) p le y)
    (h1 : ∀ bad p y, decXM sh fl l = ([], 0, p, y) → ∀ le, F1 [] bad (decide (128 ≤ kd)) (kd % 128) p le y)
    (h2 : ∀ ex bad x p y, ex ≠ [] → decXM sh fl l = (ex, 0, p, y) → ∀ le, F2 ex bad x (decide (128 ≤ kd)) (kd % 128) p le y) : extD c sh fl kd l F0 F1 F2 Q := by
  unfold extD
  obtain ⟨f, rfl⟩ := Int.eq_ofNat_of_zero_le hf.1
  have e2 : Int.toNat ((f : Int) % 18446744073709551616) = f := by omega
  rw [e2, and16 f (by omega)]
  refine wrapI (by omega) (by omega) (splitNE (fun a => ?_) (fun a => ?_))
  · have ha : (f : Int) / 16 % 2 = 1 := by omega
    have b1 : 0 ≤ takeNM (takeLM l 2) 2 ∧ takeNM (takeLM l 2) 2 < 65536 := takeN_lt (takeLM l 2) 2
    have b2 : (takeLM (takeLM l 2) 2).length ≤ 1300 := Nat.le_trans (takeL_len _ _) (Nat.le_trans (takeL_len _ _) hl)
    refine ckI hc ⟨_, rfl, ckI hc ⟨_, rfl, wrapI (by omega) (by omega) ⟨_, rfl, _, rfl, splitD (fun h => ?_) (fun h => ?_)⟩⟩⟩
    · exact h7 (by rw [decXM, if_pos ha, if_pos (by omega)])
    have hX : decXM sh f l = ((extsM (takeNM l 2) ((takeLM (takeLM l 2) 2).take (4 * takeNM (takeLM l 2) 2).toNat)).1,
      decTM (takeSM (takeSM sh l 2) (takeLM l 2) 2) (extsM (takeNM l 2) ((takeLM (takeLM l 2) 2).take (4 * takeNM (takeLM l 2) 2).toNat)).2 f ((takeLM (takeLM l 2) 2).drop (4 * takeNM (takeLM l 2) 2).toNat)) := by rw [decXM, if_pos ha, if_neg (by omega)]
    generalize takeLM (takeLM l 2) 2 = r at *
    generalize hn : 4 * takeNM (takeLM l 2) 2 = n at *
    have hd : r.drop n.toNat = (r.drop n.toNat).take (r.length - n.toNat) := by rw [List.take_of_length_le (by simp)]
    have hdl : (r.drop n.toNat).length ≤ 1300 := by rw [List.length_drop]; omega
    refine ⟨_, rfl, ckI (by simp; omega) ⟨_, rfl, ckI (by rw [Nat.ble_eq, List.length_take]; omega) (ckI hc fun ex bad he => ⟨fun hx => ?_, fun x hx => ?_⟩)⟩⟩
    all_goals
      obtain ⟨he⟩ := he
      obtain ⟨hx⟩ := hx
      simp only [List.drop_zero, Nat.sub_zero] at he
      rw [he] at hX
      refine ⟨_, rfl, ckI (by simp; omega) ⟨r.drop n.toNat, by rw [← hd], ?_⟩⟩
      refine tail_ok hf hk hdl (fun q => h7 (by rw [hX]; exact q)) (fun q => h5 (by rw [hX]; exact q)) (fun p y q le => ?_)
      rw [q] at hX
    · subst hx
      exact h1 _ _ _ hX _
    · exact h2 _ _ _ _ _ hx hX _
  · have hX : decXM sh f l = ([], decTM sh false f l) := by rw [decXM, if_neg (by omega)]
    refine tail_ok hf hk hl (fun q => h7 (by rw [hX]; exact q)) (fun q => h5 (by rw [hX]; exact q)) (fun p y q le => h0 _ _ (by rw [hX, q]) _)
def okC (H : List Blk) (a : AV) (cs : List Int) : Prop := nlV 1 (frzV 0 H 8 a) = .lst 0 (cellsI cs) cs.length 1
def okE (H : List Blk) (a : AV) (ex : List Xt) : Prop := nlV 2 (frzV 0 H 8 a) = .lst 0 (cellsXM ex) ex.length 2
theorem okC_sl {H : List Blk} {id tot len : Nat} {k : BK} {lf : Bool} {c : List AV} {cs : List Int} (hb : H[id]? = some ⟨k, lf, c⟩) (e1 : c = cellsI cs) (e2 : tot = cs.length) (e3 : len = cs.length) (hk : k ≠ .ro) : okC H (.sl id tot 0 len 1) cs := by
  subst e1 e2 e3
  rw [okC, frz_sl hb (cellsI_length _) (Nat.mul_one _) hk (plain_cI _)]
  rfl
theorem okE_sl {H : List Blk} {id tot len : Nat} {k : BK} {lf : Bool} {c : List AV} {ex : List Xt} (hb : H[id]? = some ⟨k, lf, c⟩) (e1 : c = cellsXM ex) (e2 : tot = 2 * ex.length) (e3 : len = ex.length) (hk : k ≠ .ro) : okE H (.sl id tot 0 len 2) ex := by
  subst e1 e2 e3
  rw [okE, frz_sl hb (cellsX_len _) (Nat.mul_comm _ _) hk (plain_cX _)]
  rfl
abbrev DecT := Bool × Int × Int × Int × Int × List Int × List Xt × Int × List UInt8 × Int
def zerM (e : Int) : DecT := (false, 0, 0, 0, 0, [], [], 0, [], e)
def l5M (s : List UInt8) : List UInt8 := takeLM (takeLM (takeLM (takeLM (takeLM s 1) 1) 2) 4) 4
def s5M (s : List UInt8) : Bool := takeSM (takeSM (takeSM (takeSM (takeSM false s 1) (takeLM s 1) 1) (takeLM (takeLM s 1) 1) 2) (takeLM (takeLM (takeLM s 1) 1) 2) 4) (takeLM (takeLM (takeLM (takeLM s 1) 1) 2) 4) 4
def decPM (s : List UInt8) (n : Nat) (x : List Xt × Int × Int × List UInt8) : DecT :=
  if x.2.1 = 0 then (decide (128 ≤ takeNM (takeLM s 1) 1), takeNM (takeLM s 1) 1 % 128, takeNM (takeLM (takeLM s 1) 1) 2, takeNM (takeLM (takeLM (takeLM s 1) 1) 2) 4, takeNM (takeLM (takeLM (takeLM (takeLM s 1) 1) 2) 4) 4, csM (l5M s) n, x.1, x.2.2.1, x.2.2.2, 0)
  else zerM x.2.1
/-- what Decode answers -/
def decM (s : List UInt8) : DecT :=
  if 1200 < s.length then zerM 3
  else decPM s (takeNM s 1 % 16).toNat (decXM (lackM (s5M s) (l5M s) (takeNM s 1 % 16).toNat) (takeNM s 1) (leftM (l5M s) (takeNM s 1 % 16).toNat))
def end21 (s : List UInt8) (Q : Out → List Blk → Gh → Prop) : Prop :=
  ∀ (mk : Bool) (ty sq ti ss : Int) (a b : AV) (cs : List Int) (ex : List Xt) (p : Int) (y : List UInt8) (e : Int) (H : List Blk), okC H a cs → okE H b ex → decM s = (mk, ty, sq, ti, ss, cs, ex, p, y, e) → Q (.ret (.tup [.agg [.bool mk, .int .i64 ty, .int .i64 sq, .int .i64 ti, .int .i64 ss, a, b, .int .i64 p, .str y], .int .i64 e])) H {}
theorem cs_len (l : List UInt8) : ∀ i, (csM l i).length = i
  | 0 => rfl
  | i + 1 => by simp [csM, cs_len l i]
theorem left_len (l : List UInt8) : ∀ i, (leftM l i).length ≤ l.length
  | 0 => Nat.le_refl _
  | i + 1 => Nat.le_trans (takeL_len _ _) (left_len l i)
theorem decode_run (s : List UInt8) (hs : s.length ≤ 9223372036854775807) (Q : Out → List Blk → Gh → Prop) (hq : end21 s Q) : ∃ hv hb, goal_21 hv hb s Q := by
  obtain ⟨hv, hb', e⟩ : ∃ hv hb, goal_21 hv hb s Q = _ := ⟨_, _, vc_21 s Q⟩
  refine ⟨hv, hb', e.mpr ?_⟩
  clear e
  have zc : okC [] .nils [] := rfl
  have ze : okE [] .nils [] := rfl
  have zE : ∀ H, okE H .nils [] := fun _ => rfl
  refine ⟨_, rfl, splitD (fun h => ?_) (fun h => ?_)⟩
  · exact hq _ _ _ _ _ _ _ _ _ _ _ _ _ zc ze (by rw [decM, if_pos (by omega)]; rfl)
  have hlen : s.length ≤ 1200 := by omega
  have b1 : 0 ≤ takeNM s 1 ∧ takeNM s 1 < 256 := takeN_lt s 1
  have b2 : 0 ≤ takeNM (takeLM s 1) 1 ∧ takeNM (takeLM s 1) 1 < 256 := takeN_lt (takeLM s 1) 1
  have hl5 : (l5M s).length ≤ 1200 := Nat.le_trans (takeL_len _ _) (Nat.le_trans (takeL_len _ _) (Nat.le_trans (takeL_len _ _) (Nat.le_trans (takeL_len _ _) (Nat.le_trans (takeL_len _ _) hlen))))
  have hD : decM s = decPM s (takeNM s 1 % 16).toNat (decXM (lackM (s5M s) (l5M s) (takeNM s 1 % 16).toNat) (takeNM s 1) (leftM (l5M s) (takeNM s 1 % 16).toNat)) := by rw [decM, if_neg (by omega)]
  refine ⟨_, rfl, _, rfl, _, rfl, _, rfl, _, rfl, ?_⟩
  have hg : ∀ n : Nat, n = (takeNM s 1 % 16).toNat → ∀ (e : Int), (decXM (lackM (s5M s) (l5M s) n) (takeNM s 1) (leftM (l5M s) n)).2.1 = e → e ≠ 0 → Q (errV e) [] {} := fun n hn e he h0 => by
    subst hn
    exact hq _ _ _ _ _ _ _ _ _ _ _ _ _ zc ze (by rw [hD, decPM, he, if_neg h0]; rfl)
  have hok : ∀ n : Nat, n = (takeNM s 1 % 16).toNat → ∀ {a b : AV} {H : List Blk} {ex : List Xt} {p : Int} {y : List UInt8}, okC H a (csM (l5M s) n) → okE H b ex → decXM (lackM (s5M s) (l5M s) n) (takeNM s 1) (leftM (l5M s) n) = (ex, 0, p, y) →
      Q (.ret (.tup [.agg [.bool (decide (128 ≤ takeNM (takeLM s 1) 1)), .int .i64 (takeNM (takeLM s 1) 1 % 128), .int .i64 (takeNM (takeLM (takeLM s 1) 1) 2), .int .i64 (takeNM (takeLM (takeLM (takeLM s 1) 1) 2) 4), .int .i64 (takeNM (takeLM (takeLM (takeLM (takeLM s 1) 1) 2) 4) 4), a, b, .int .i64 p, .str y], .int .i64 0])) H {} := fun n hn {a b H ex p y} h1 h2 h3 => by
    subst hn
    exact hq _ _ _ _ _ _ _ _ _ _ _ _ _ h1 h2 (by rw [hD, h3, decPM, if_pos rfl])
  change ∃ n_6 : Int, _
  have e5 : takeLM (takeLM (takeLM (takeLM (takeLM s 1) 1) 2) 4) 4 = l5M s := rfl
  have e6 : takeSM (takeSM (takeSM (takeSM (takeSM false s 1) (takeLM s 1) 1) (takeLM (takeLM s 1) 1) 2) (takeLM (takeLM (takeLM s 1) 1) 2) 4) (takeLM (takeLM (takeLM (takeLM s 1) 1) 2) 4) 4 = s5M s := rfl
  rw [e6, e5]
  generalize takeNM (takeLM (takeLM s 1) 1) 2 = sq at *
  generalize takeNM (takeLM (takeLM (takeLM s 1) 1) 2) 4 = ti at *
  generalize takeNM (takeLM (takeLM (takeLM (takeLM s 1) 1) 2) 4) 4 = ss at *
  generalize takeNM (takeLM s 1) 1 = kd at *
  clear hD hq e5 e6
  generalize takeNM s 1 = fl at *
  generalize l5M s = l at *
  generalize s5M s = sh at *
  obtain ⟨f, rfl⟩ := Int.eq_ofNat_of_zero_le b1.1
  rw [show Int.toNat ((f : Int) % 18446744073709551616) = f by omega, and15 f (by omega)]
  have hf : (0 : Int) ≤ (f : Int) ∧ (f : Int) ≤ 255 := by omega
  have hk : 0 ≤ kd ∧ kd ≤ 255 := by omega
  refine wrapI (by omega) (by omega) ⟨.inl ⟨0, ⟨rfl⟩, rfl, rfl, rfl, rfl, rfl, rfl, rfl, rfl, rfl, rfl, rfl, rfl, trivial⟩, ?_, ?_⟩
  · rintro _ ⟨rfl⟩
    refine splitD (fun hlt => ?_) (fun hge => ?_)
    · exact ⟨_, rfl, wrapI (by omega) (by omega) ⟨⟨trivial, rfl⟩, .inr ⟨1, ⟨by omega, by omega, by omega⟩, by omega, rfl, rfl, rfl, rfl, rfl, rfl, rfl, rfl, rfl, rfl, rfl, rfl, rfl, rfl, trivial⟩⟩⟩
    · have h0 : 0 = ((f : Int) % 16).toNat := by omega
      exact extD_ok rfl hf hk (by omega) (fun q => hg 0 h0 7 q (by omega)) (fun q => hg 0 h0 5 q (by omega)) (fun p y q le => hok 0 h0 rfl (zE _) q) (fun bad p y q le => hok 0 h0 rfl (zE _) q) (fun ex bad x p y hx q le => hok 0 h0 rfl (okE_sl rfl rfl rfl rfl (by simp)) q)
  · rintro i ⟨h1, h2, h3⟩
    have hF : (Nat.beq i i && flatLM (cellsI (csM l i))) = true := by rw [flat_cI]; simp
    refine splitD (fun hlt => ?_) (fun hge => ?_)
    · exact ckI hF (ckI (by simp [eqAVL, eqAV]) ⟨_, rfl, ckI (by simp [cellsI_length, cs_len]; omega) (wrapI (by omega) (by omega) ⟨⟨trivial, rfl⟩, .inr ⟨i + 1, ⟨by omega, by omega, by omega⟩, by omega, rfl, rfl, rfl, rfl, rfl, by simp [cellsI, csM], rfl, rfl, rfl, rfl, rfl, rfl, rfl, rfl, trivial⟩⟩)⟩)
    · have h0 : i = ((f : Int) % 16).toNat := by omega
      have hc : ∀ {H : List Blk} {lf : Bool}, H[5]? = some ⟨.grow, lf, cellsI (csM l i)⟩ → okC H (.sl 5 i 0 i 1) (csM l i) := fun h => okC_sl h rfl (cs_len _ _).symm (cs_len _ _).symm (by simp)
      exact extD_ok hF hf hk (Nat.le_trans (left_len _ _) (by omega)) (fun q => hg i h0 7 q (by omega)) (fun q => hg i h0 5 q (by omega)) (fun p y q le => hok i h0 (hc rfl) (zE _) q) (fun bad p y q le => hok i h0 (hc rfl) (zE _) q) (fun ex bad x p y hx q le => hok i h0 (hc rfl) (okE_sl rfl rfl rfl rfl (by simp)) q)
end Go.Proofs.YtbchmkhliehbfaaDoor
