/-
  Chapter 23: number, Needs and exts of the reference.
-/
import Derived.Test.YtbchmkhliehbfaaDoorM23DP
set_option linter.unusedSimpArgs false
set_option linter.unusedVariables false
set_option linter.unusedSectionVars false
namespace Go.Proofs.YtbchmkhliehbfaaDoor
open Go.RowKit
set_option maxRecDepth 1000000

def inv_44 (s : List UInt8) : LInv where
  α := Nat
  pre i := Lf (i ≤ s.length)
  st i := ⟨mkT [(0, .str s), (3, .int .i64 (numM (s.take i))), (4, .int .i64 (i : Nat))], []⟩
  mu i := s.length - i
noncomputable def env_44 (hv : Nat → Option Pa) (hb : Nat → Option Bool) (s : List UInt8) : Env := e23 sm0 (fun i => bif Nat.beq i 44000 then some (fun _ => [[inv_44 s]]) else none) hv hb
noncomputable def goal_44 (hv : Nat → Option Pa) (hb : Nat → Option Bool) (s : List UInt8) (Q : Out → List Blk → Gh → Prop) : Prop :=
  callx (env_44 hv hb s) (wpx (env_44 hv hb s) 1000) 44 [.str s] [] {} Q
theorem vc_44 (s : List UInt8) (Q : Out → List Blk → Gh → Prop) : goal_44 (lookV [(180229, .int .i64), (180231, .int .i64), (180235, .int .i64), (180236, .int .i64), (180238, .int .i64), (180239, .int .u8), (180240, .int .i64), (180241, .int .i64), (180233, .int .i64), (180234, .int .i64), (180242, .int .i64)]) (lookB []) s Q = (
((∃ x_0 : Nat, ((Lf (x_0 ≤ (List.length s))) ∧
 (((AV.str s) = (AV.str s)) ∧
 (((AV.int .i64 (0 : Int)) = (AV.int .i64 (numM (List.take x_0 s)))) ∧
 (((AV.int .i64 (0 : Int)) = (AV.int .i64 (Nat.cast x_0 : Int))) ∧
 True))))) ∧
 (∀ x_0 : Nat, ((Lf (x_0 ≤ (List.length s))) →
(∃ n_1 : Int, (((AV.int .i64 (Nat.cast x_0 : Int)) = (AV.int .i64 n_1)) ∧
 (∃ n_2 : Int, (((AV.int .i64 (Nat.cast (List.length s) : Int)) = (AV.int .i64 n_2)) ∧
 (bif (decide (n_1 < n_2)) then (∃ n_3 : Int, (((AV.int .i64 (numM (List.take x_0 s))) = (AV.int .i64 n_3)) ∧
 (∃ n_4 : Int, (((AV.int .i64 (IntKind.wrap .i64 (n_3 * (256 : Int)))) = (AV.int .i64 n_4)) ∧
 (∃ n_5 : Int, (((AV.int .i64 (Nat.cast x_0 : Int)) = (AV.int .i64 n_5)) ∧
 (bif ((decide ((0 : Int) ≤ n_5)) && (Nat.blt (Int.toNat n_5) (List.length s))) then (∃ n_6 : Int, (((AV.int .u8 (Nat.cast (UInt8.toNat (List.getD s (Int.toNat n_5) (UInt8.ofNat (0 : Nat)))) : Int)) = (AV.int .u8 n_6)) ∧
 (∃ n_7 : Int, (((AV.int .i64 (IntKind.wrap .i64 n_6)) = (AV.int .i64 n_7)) ∧
 (∃ n_8 : Int, (((AV.int .i64 (IntKind.wrap .i64 (n_4 + n_7))) = (AV.int .i64 n_8)) ∧
 (∃ n_9 : Int, (((AV.int .i64 (Nat.cast x_0 : Int)) = (AV.int .i64 n_9)) ∧
 (∃ n_10 : Int, (((AV.int .i64 (IntKind.wrap .i64 (n_9 + (1 : Int)))) = (AV.int .i64 n_10)) ∧
 ((True ∧
 ((0 : Nat) = (0 : Nat))) ∧
 (∃ y_11 : Nat, ((Lf (y_11 ≤ (List.length s))) ∧
 ((((List.length s) - y_11) < ((List.length s) - x_0)) ∧
 (((AV.str s) = (AV.str s)) ∧
 (((AV.int .i64 n_8) = (AV.int .i64 (numM (List.take y_11 s)))) ∧
 (((AV.int .i64 n_10) = (AV.int .i64 (Nat.cast y_11 : Int))) ∧
 True)))))))))))))))))
else False)))))))
else (∃ n_3 : Int, (((AV.int .i64 (numM (List.take x_0 s))) = (AV.int .i64 n_3)) ∧
 (Q (Out.ret (AV.int .i64 n_3)) [] (Gh.mk (0 : Nat) (0 : Nat) []))))))))))))) := by kernel_rfl

def cNum : Con
  | [.str s], H, K => bif Nat.ble s.length 4 then K (.ret (.int .i64 (numM s))) H else False
  | _, _, _ => False
def smNe : SM := lookS [(44, cNum)]
noncomputable def goal_43 (hv : Nat → Option Pa) (hb : Nat → Option Bool) (s : List UInt8) (Q : Out → List Blk → Gh → Prop) : Prop :=
  callx (e23 smNe (fun _ => none) hv hb) (wpx (e23 smNe (fun _ => none) hv hb) 1000) 43 [.str s] [] {} Q
theorem vc_43 (s : List UInt8) (Q : Out → List Blk → Gh → Prop) : goal_43 (lookV [(176133, .int .u8), (176134, .int .u8), (176135, .int .i64), (176136, .int .i64), (176137, .int .i64), (176139, .int .u8), (176140, .int .u8), (176141, .int .u8), (176144, .int .i64), (176146, .int .i64), (176152, .int .i64), (176154, .str), (176155, .int .i64), (176156, .int .i64), (176157, .int .i64)]) (lookB []) s Q = (
(bif (Nat.blt (0 : Nat) (List.length s)) then (∃ n_0 : Int, (((AV.int .u8 (Nat.cast (UInt8.toNat (List.getD s (0 : Nat) (UInt8.ofNat (0 : Nat)))) : Int)) = (AV.int .u8 n_0)) ∧
 (∃ n_1 : Int, (((AV.int .u8 (Int.tmod n_0 (16 : Int))) = (AV.int .u8 n_1)) ∧
 (∃ n_2 : Int, (((AV.int .i64 (IntKind.wrap .i64 n_1)) = (AV.int .i64 n_2)) ∧
 (∃ n_3 : Int, (((AV.int .i64 (IntKind.wrap .i64 ((4 : Int) * n_2))) = (AV.int .i64 n_3)) ∧
 (∃ n_4 : Int, (((AV.int .i64 (IntKind.wrap .i64 ((12 : Int) + n_3))) = (AV.int .i64 n_4)) ∧
 (bif (Nat.blt (0 : Nat) (List.length s)) then (∃ n_5 : Int, (((AV.int .u8 (Nat.cast (UInt8.toNat (List.getD s (0 : Nat) (UInt8.ofNat (0 : Nat)))) : Int)) = (AV.int .u8 n_5)) ∧
 (∃ n_6 : Int, (((AV.int .u8 (IntKind.wrap .u8 (Int.tdiv n_5 (16 : Int)))) = (AV.int .u8 n_6)) ∧
 (∃ n_7 : Int, (((AV.int .u8 (Int.tmod n_6 (2 : Int))) = (AV.int .u8 n_7)) ∧
 (bif (n_7 == (1 : Int)) then (∃ n_8 : Int, (((AV.int .i64 (IntKind.wrap .i64 (n_4 + (4 : Int)))) = (AV.int .i64 n_8)) ∧
 (∃ n_9 : Int, (((AV.int .i64 (Nat.cast (List.length s) : Int)) = (AV.int .i64 n_9)) ∧
 (bif (decide (n_9 ≥ n_8)) then (∃ n_10 : Int, (((AV.int .i64 (IntKind.wrap .i64 (n_8 - (2 : Int)))) = (AV.int .i64 n_10)) ∧
 (bif ((((decide ((0 : Int) ≤ n_10)) && (decide ((0 : Int) ≤ n_8))) && (Nat.ble (Int.toNat n_10) (Int.toNat n_8))) && (Nat.ble (Int.toNat n_8) (List.length s))) then (∃ s_11 : (List UInt8), (((AV.str (List.take ((Int.toNat n_8) - (Int.toNat n_10)) (List.drop (Int.toNat n_10) s))) = (AV.str s_11)) ∧
 (bif (Nat.ble (List.length s_11) (4 : Nat)) then (∃ n_12 : Int, (((AV.int .i64 (numM s_11)) = (AV.int .i64 n_12)) ∧
 (∃ n_13 : Int, (((AV.int .i64 (IntKind.wrap .i64 ((4 : Int) * n_12))) = (AV.int .i64 n_13)) ∧
 (∃ n_14 : Int, (((AV.int .i64 (IntKind.wrap .i64 (n_8 + n_13))) = (AV.int .i64 n_14)) ∧
 (Q (Out.ret (AV.int .i64 n_14)) [] (Gh.mk (0 : Nat) (0 : Nat) []))))))))
else False)))
else False)))
else (Q (Out.ret (AV.int .i64 n_8)) [] (Gh.mk (0 : Nat) (0 : Nat) [])))))))
else (Q (Out.ret (AV.int .i64 n_4)) [] (Gh.mk (0 : Nat) (0 : Nat) [])))))))))
else False)))))))))))
else False)) := by kernel_rfl

/-- the extensions, read without a look at what is wrong -/
def rexM (sh : Bool) : Nat → List UInt8 → List Xt
  | 0, _ => []
  | _ + 1, [] => []
  | f + 1, c :: s =>
    if c.toNat = 0 then []
    else if sh = true then (((c.toNat / 16 : Nat) : Int), s.take (min (1 + c.toNat % 16) s.length)) :: rexM sh f (s.drop (min (1 + c.toNat % 16) s.length))
    else match s with
      | [] => [((c.toNat : Int), [])]
      | d :: u => ((c.toNat : Int), u.take (min d.toNat u.length)) :: rexM sh f (u.drop (min d.toNat u.length))
def rgoM (sh : Bool) (s : List UInt8) (acc : List Xt) (r : List UInt8) : Prop := r.length + acc.length ≤ s.length ∧ ∃ f, r.length ≤ f ∧ rexM sh s.length s = acc ++ rexM sh f r
def inv_45 (sh : Bool) (s : List UInt8) : List LInv := [
  { α := Nat, pre := fun i => Lf (i = 0), st := fun i => ⟨mkT [(0, .str s), (1, .bool sh), (5, .nils)], []⟩, mu := fun i => s.length + 1 },
  { α := List Xt × List UInt8, pre := fun x => Lf (rgoM sh s x.1 x.2 ∧ 1 ≤ x.1.length), st := fun x => ⟨mkT [(0, .str x.2), (1, .bool sh), (5, .sl 1 (2 * x.1.length) 0 x.1.length 2)], [⟨.exact, true, cellsXM (x.1.take 1)⟩, ⟨.grow, true, cellsXM x.1⟩]⟩, mu := fun x => x.2.length }]
noncomputable def env_45 (hv : Nat → Option Pa) (hb : Nat → Option Bool) (sh : Bool) (s : List UInt8) : Env := e23 sm0 (fun i => bif Nat.beq i 45000 then some (fun _ => [inv_45 sh s]) else none) hv hb
noncomputable def goal_45 (hv : Nat → Option Pa) (hb : Nat → Option Bool) (s : List UInt8) (sh : Bool) (Q : Out → List Blk → Gh → Prop) : Prop :=
  callx (env_45 hv hb sh s) (wpx (env_45 hv hb sh s) 1000) 45 [.str s, .bool sh] [] {} Q
def roundR (sh : Bool) (r : List UInt8) (c2 : Bool) (E : Prop) (STEP : Int → List UInt8 → List UInt8 → Prop) : Prop := (∃ n_1 : Int, (((AV.int .i64 (Nat.cast (List.length r) : Int)) = (AV.int .i64 n_1)) ∧
 (bif (decide (n_1 > (0 : Int))) then (bif (Nat.blt (0 : Nat) (List.length r)) then (∃ n_2 : Int, (((AV.int .u8 (Nat.cast (UInt8.toNat (List.getD r (0 : Nat) (UInt8.ofNat (0 : Nat)))) : Int)) = (AV.int .u8 n_2)) ∧
 (bif (n_2 != (0 : Int)) then (bif (Nat.blt (0 : Nat) (List.length r)) then (∃ n_3 : Int, (((AV.int .u8 (Nat.cast (UInt8.toNat (List.getD r (0 : Nat) (UInt8.ofNat (0 : Nat)))) : Int)) = (AV.int .u8 n_3)) ∧
 (∃ n_4 : Int, (((AV.int .u8 (IntKind.wrap .u8 (Int.tdiv n_3 (16 : Int)))) = (AV.int .u8 n_4)) ∧
 (∃ n_5 : Int, (((AV.int .i64 (IntKind.wrap .i64 n_4)) = (AV.int .i64 n_5)) ∧
 (bif (Nat.blt (0 : Nat) (List.length r)) then (∃ n_6 : Int, (((AV.int .u8 (Nat.cast (UInt8.toNat (List.getD r (0 : Nat) (UInt8.ofNat (0 : Nat)))) : Int)) = (AV.int .u8 n_6)) ∧
 (∃ n_7 : Int, (((AV.int .u8 (Int.tmod n_6 (16 : Int))) = (AV.int .u8 n_7)) ∧
 (∃ n_8 : Int, (((AV.int .i64 (IntKind.wrap .i64 n_7)) = (AV.int .i64 n_8)) ∧
 (∃ n_9 : Int, (((AV.int .i64 (IntKind.wrap .i64 ((1 : Int) + n_8))) = (AV.int .i64 n_9)) ∧
 (bif ((Nat.ble (1 : Nat) (List.length r)) && (Nat.ble (List.length r) (List.length r))) then (∃ s_10 : (List UInt8), (((AV.str (List.take ((List.length r) - (1 : Nat)) (List.drop (1 : Nat) r))) = (AV.str s_10)) ∧
 (bif sh then (∃ n_11 : Int, (((AV.int .i64 (Nat.cast (List.length s_10) : Int)) = (AV.int .i64 n_11)) ∧
 (∃ n_12 : Int, (((AV.int .i64 (imin n_9 n_11)) = (AV.int .i64 n_12)) ∧
 (bif (((decide ((0 : Int) ≤ n_12)) && true) && (Nat.ble (Int.toNat n_12) (List.length s_10))) then (∃ s_13 : (List UInt8), (((AV.str (List.take ((Int.toNat n_12) - (0 : Nat)) (List.drop (0 : Nat) s_10))) = (AV.str s_13)) ∧
 (bif c2 then (bif ((((decide ((0 : Int) ≤ n_12)) && true) && (Nat.ble (Int.toNat n_12) (List.length s_10))) && (Nat.ble (List.length s_10) (List.length s_10))) then (∃ s_14 : (List UInt8), (((AV.str (List.take ((List.length s_10) - (Int.toNat n_12)) (List.drop (Int.toNat n_12) s_10))) = (AV.str s_14)) ∧
 (STEP n_5 s_13 s_14)))
else False)
else False)))
else False)))))
else (∃ n_11 : Int, (((AV.int .i64 (IntKind.wrap .i64 (n_5 * (16 : Int)))) = (AV.int .i64 n_11)) ∧
 (∃ n_12 : Int, (((AV.int .i64 (IntKind.wrap .i64 (n_11 + n_9))) = (AV.int .i64 n_12)) ∧
 (∃ n_13 : Int, (((AV.int .i64 (IntKind.wrap .i64 (n_12 - (1 : Int)))) = (AV.int .i64 n_13)) ∧
 (∃ n_14 : Int, (((AV.int .i64 (Nat.cast (List.length s_10) : Int)) = (AV.int .i64 n_14)) ∧
 (bif (decide (n_14 > (0 : Int))) then (bif (Nat.blt (0 : Nat) (List.length s_10)) then (∃ n_15 : Int, (((AV.int .u8 (Nat.cast (UInt8.toNat (List.getD s_10 (0 : Nat) (UInt8.ofNat (0 : Nat)))) : Int)) = (AV.int .u8 n_15)) ∧
 (∃ n_16 : Int, (((AV.int .i64 (IntKind.wrap .i64 n_15)) = (AV.int .i64 n_16)) ∧
 (bif ((Nat.ble (1 : Nat) (List.length s_10)) && (Nat.ble (List.length s_10) (List.length s_10))) then (∃ s_17 : (List UInt8), (((AV.str (List.take ((List.length s_10) - (1 : Nat)) (List.drop (1 : Nat) s_10))) = (AV.str s_17)) ∧
 (∃ n_18 : Int, (((AV.int .i64 (Nat.cast (List.length s_17) : Int)) = (AV.int .i64 n_18)) ∧
 (∃ n_19 : Int, (((AV.int .i64 (imin n_16 n_18)) = (AV.int .i64 n_19)) ∧
 (bif (((decide ((0 : Int) ≤ n_19)) && true) && (Nat.ble (Int.toNat n_19) (List.length s_17))) then (∃ s_20 : (List UInt8), (((AV.str (List.take ((Int.toNat n_19) - (0 : Nat)) (List.drop (0 : Nat) s_17))) = (AV.str s_20)) ∧
 (bif c2 then (bif ((((decide ((0 : Int) ≤ n_19)) && true) && (Nat.ble (Int.toNat n_19) (List.length s_17))) && (Nat.ble (List.length s_17) (List.length s_17))) then (∃ s_21 : (List UInt8), (((AV.str (List.take ((List.length s_17) - (Int.toNat n_19)) (List.drop (Int.toNat n_19) s_17))) = (AV.str s_21)) ∧
 (STEP n_13 s_20 s_21)))
else False)
else False)))
else False)))))))
else False)))))
else False)
else (∃ n_15 : Int, (((AV.int .i64 (Nat.cast (List.length s_10) : Int)) = (AV.int .i64 n_15)) ∧
 (∃ n_16 : Int, (((AV.int .i64 (imin (0 : Int) n_15)) = (AV.int .i64 n_16)) ∧
 (bif (((decide ((0 : Int) ≤ n_16)) && true) && (Nat.ble (Int.toNat n_16) (List.length s_10))) then (∃ s_17 : (List UInt8), (((AV.str (List.take ((Int.toNat n_16) - (0 : Nat)) (List.drop (0 : Nat) s_10))) = (AV.str s_17)) ∧
 (bif c2 then (bif ((((decide ((0 : Int) ≤ n_16)) && true) && (Nat.ble (Int.toNat n_16) (List.length s_10))) && (Nat.ble (List.length s_10) (List.length s_10))) then (∃ s_18 : (List UInt8), (((AV.str (List.take ((List.length s_10) - (Int.toNat n_16)) (List.drop (Int.toNat n_16) s_10))) = (AV.str s_18)) ∧
 (STEP n_13 s_17 s_18)))
else False)
else False)))
else False)))))))))))))))))
else False)))))))))
else False)))))))
else False)
else E)))
else False)
else E)))
theorem vc_45 (s : List UInt8) (sh : Bool) (Q : Out → List Blk → Gh → Prop) : goal_45 (lookV [(184329, .int .i64), (184333, .int .u8), (184337, .int .u8), (184338, .int .u8), (184339, .int .i64), (184341, .int .u8), (184342, .int .u8), (184343, .int .i64), (184344, .int .i64), (184346, .str), (184364, .int .i64), (184365, .int .i64), (184370, .str), (184376, .str), (184350, .int .i64), (184352, .int .i64), (184353, .int .i64), (184355, .int .i64), (184358, .int .u8), (184359, .int .i64), (184361, .str)]) (lookB []) s sh Q = (
(((∃ x_0 : Nat, ((Lf (x_0 = (0 : Nat))) ∧
 (((AV.str s) = (AV.str s)) ∧
 (((AV.bool sh) = (AV.bool sh)) ∧
 ((AV.nils = AV.nils) ∧
 True))))) ∨
 (∃ x_0 : (Prod (List Xt) (List UInt8)), ((Lf ((rgoM sh s (Prod.fst x_0) (Prod.snd x_0)) ∧
 ((1 : Nat) ≤ (List.length (Prod.fst x_0))))) ∧
 False))) ∧
 ((∀ x_0 : Nat, ((Lf (x_0 = (0 : Nat))) →
(roundR sh s true (Q (Out.ret AV.nils) [] (Gh.mk (0 : Nat) (0 : Nat) [])) (fun (id_ : Int) (dt_ rs_ : List UInt8) => ((True ∧
 ((0 : Nat) = (0 : Nat))) ∧
 ((∃ y_ : Nat, ((Lf (y_ = (0 : Nat))) ∧
 ((((List.length s) + (1 : Nat)) < ((List.length s) + (1 : Nat))) ∧
 False))) ∨
 (∃ y_ : (Prod (List Xt) (List UInt8)), ((Lf ((rgoM sh s (Prod.fst y_) (Prod.snd y_)) ∧
 ((1 : Nat) ≤ (List.length (Prod.fst y_))))) ∧
 (((List.length (Prod.snd y_)) < ((List.length s) + (1 : Nat))) ∧
 ((((AV.int .i64 id_) :: ((AV.str dt_) :: [])) = (cellsXM (List.take (1 : Nat) (Prod.fst y_)))) ∧
 ((((AV.int .i64 id_) :: ((AV.str dt_) :: [])) = (cellsXM (Prod.fst y_))) ∧
 (((AV.str rs_) = (AV.str (Prod.snd y_))) ∧
 (((AV.bool sh) = (AV.bool sh)) ∧
 (((AV.sl (1 : Nat) (2 : Nat) (0 : Nat) (1 : Nat) (2 : Nat)) = (AV.sl (1 : Nat) ((2 : Nat) * (List.length (Prod.fst y_))) (0 : Nat) (List.length (Prod.fst y_)) (2 : Nat))) ∧
 True)))))))))))))) ∧
 (∀ x_0 : (Prod (List Xt) (List UInt8)), ((Lf ((rgoM sh s (Prod.fst x_0) (Prod.snd x_0)) ∧
 ((1 : Nat) ≤ (List.length (Prod.fst x_0))))) →
(roundR sh (Prod.snd x_0) (((((Nat.beq (List.length (cellsXM (Prod.fst x_0))) ((2 : Nat) * (List.length (Prod.fst x_0)))) && true) && (Nat.beq ((0 : Nat) + ((List.length (Prod.fst x_0)) * (2 : Nat))) ((2 : Nat) * (List.length (Prod.fst x_0))))) && (Nat.ble ((List.length (Prod.fst x_0)) + (1 : Nat)) (1099511627776 : Nat))) && (Nat.ble (((List.length (Prod.fst x_0)) + (1 : Nat)) * (24 : Nat)) (1099511627776 : Nat))) (Q (Out.ret (AV.sl (1 : Nat) ((2 : Nat) * (List.length (Prod.fst x_0))) (0 : Nat) (List.length (Prod.fst x_0)) (2 : Nat))) ((Blk.mk BK.exact true (cellsXM (List.take (1 : Nat) (Prod.fst x_0)))) :: ((Blk.mk BK.grow true (cellsXM (Prod.fst x_0))) :: [])) (Gh.mk (0 : Nat) (0 : Nat) [])) (fun (id_ : Int) (dt_ rs_ : List UInt8) => ((True ∧
 ((0 : Nat) = (0 : Nat))) ∧
 ((∃ y_ : Nat, ((Lf (y_ = (0 : Nat))) ∧
 ((((List.length s) + (1 : Nat)) < (List.length (Prod.snd x_0))) ∧
 False))) ∨
 (∃ y_ : (Prod (List Xt) (List UInt8)), ((Lf ((rgoM sh s (Prod.fst y_) (Prod.snd y_)) ∧
 ((1 : Nat) ≤ (List.length (Prod.fst y_))))) ∧
 (((List.length (Prod.snd y_)) < (List.length (Prod.snd x_0))) ∧
 (((cellsXM (List.take (1 : Nat) (Prod.fst x_0))) = (cellsXM (List.take (1 : Nat) (Prod.fst y_)))) ∧
 ((((cellsXM (Prod.fst x_0)) ++ ((AV.int .i64 id_) :: ((AV.str dt_) :: []))) = (cellsXM (Prod.fst y_))) ∧
 (((AV.str rs_) = (AV.str (Prod.snd y_))) ∧
 (((AV.bool sh) = (AV.bool sh)) ∧
 (((AV.sl (1 : Nat) (((2 : Nat) * (List.length (Prod.fst x_0))) + (2 : Nat)) (0 : Nat) ((List.length (Prod.fst x_0)) + (1 : Nat)) (2 : Nat)) = (AV.sl (1 : Nat) ((2 : Nat) * (List.length (Prod.fst y_))) (0 : Nat) (List.length (Prod.fst y_)) (2 : Nat))) ∧
 True))))))))))))))))) := by kernel_rfl

theorem number_run (s : List UInt8) (hs : s.length ≤ 4) (Q : Out → List Blk → Gh → Prop) (hq : Q (.ret (.int .i64 (numM s))) [] {}) : ∃ hv hb, goal_44 hv hb s Q := by
  obtain ⟨hv, hb', e⟩ : ∃ hv hb, goal_44 hv hb s Q = _ := ⟨_, _, vc_44 s Q⟩
  refine ⟨hv, hb', e.mpr ?_⟩
  clear e
  refine ⟨⟨0, ⟨by omega⟩, rfl, rfl, rfl, trivial⟩, ?_⟩
  rintro i ⟨hi⟩
  refine ⟨_, rfl, _, rfl, splitD (fun h => ?_) (fun h => ?_)⟩
  · have hlt : i < s.length := by omega
    have hn := num_small3 (l := s.take i) (by rw [List.length_take]; omega)
    have hN := num_take hlt
    have hc := s[i].toNat_lt
    have hg : List.getD s (Int.toNat (i : Int)) (UInt8.ofNat 0) = s[i] := by rw [Int.toNat_natCast]; simp [List.getD, hlt]
    refine ⟨_, rfl, wrapI (by omega) (by omega) ⟨_, rfl, ckI (by simp; omega) ⟨_, rfl, ?_⟩⟩⟩
    rw [hg]
    exact wrapI (by omega) (by omega) (wrapI (by omega) (by omega) ⟨_, rfl, wrapI (by omega) (by omega) ⟨⟨trivial, rfl⟩, i + 1, ⟨by omega⟩, by omega, rfl, by rw [hN], rfl, trivial⟩⟩)
  · have : s.take i = s := List.take_of_length_le (by omega)
    rw [this]
    exact ⟨_, rfl, hq⟩
theorem num_ok : ValidF Tryd.prog gl0 44 cNum := by
  refine valid_flat (enters_of (by kernel_rfl)) gl0_noY fun args H Q hc => ?_
  unfold cNum at hc
  split at hc
  · rename_i s
    cases hb : Nat.ble s.length 4
    · rw [hb] at hc; exact hc.elim
    · rw [hb] at hc
      rw [Nat.ble_eq] at hb
      obtain ⟨hv, hb', h⟩ := number_run s hb (fun o H' _ => H' = [] ∧ (∃ v, o = .ret v ∧ old 0 v = true ∧ noY v = true) ∧ Q o H) ⟨rfl, ⟨_, rfl, rfl, rfl⟩, hc⟩
      exact ⟨rfl, rfl, _, 1000, ⟨mixed23, names23, tabA_ok, sm0_ok⟩, rfl, h⟩
  · exact hc.elim
theorem smNe_ok : ∀ f g, smNe f = some g → ValidF Tryd.prog gl0 f g := lookS_ok _ (by simp only [List.mem_cons, List.not_mem_nil, or_false, forall_eq]; exact num_ok)
/-- how many octets a header needs -/
def fst0M (s : List UInt8) : Nat := (s.getD 0 (UInt8.ofNat 0)).toNat
def needM (s : List UInt8) : Int :=
  if fst0M s / 16 % 2 = 1 then
    (if 16 + 4 * (fst0M s % 16) ≤ s.length then ((16 + 4 * (fst0M s % 16) : Nat) : Int) + 4 * numM ((s.drop (14 + 4 * (fst0M s % 16))).take 2) else ((16 + 4 * (fst0M s % 16) : Nat) : Int))
  else ((12 + 4 * (fst0M s % 16) : Nat) : Int)
theorem num_small2 {l : List UInt8} (h : l.length ≤ 2) : 0 ≤ numM l ∧ numM l < 65536 := by
  have := num_lt l
  refine ⟨this.1, Int.lt_of_lt_of_le this.2 ?_⟩
  generalize l.length = n at *
  obtain rfl | rfl | rfl : n = 0 ∨ n = 1 ∨ n = 2 := by omega
  all_goals decide
theorem needs_run (s : List UInt8) (h0 : 0 < s.length) (hs : s.length ≤ 1000000) (Q : Out → List Blk → Gh → Prop) (hq : Q (.ret (.int .i64 (needM s))) [] {}) : ∃ hv hb, goal_43 hv hb s Q := by
  obtain ⟨hv, hb', e⟩ : ∃ hv hb, goal_43 hv hb s Q = _ := ⟨_, _, vc_43 s Q⟩
  refine ⟨hv, hb', e.mpr ?_⟩
  clear e
  have hc := (s.getD 0 (UInt8.ofNat 0)).toNat_lt
  have hm : Int.tmod (((s.getD 0 (UInt8.ofNat 0)).toNat : Nat) : Int) 16 = ((fst0M s % 16 : Nat) : Int) := rfl
  have hd : Int.tdiv (((s.getD 0 (UInt8.ofNat 0)).toNat : Nat) : Int) 16 = ((fst0M s / 16 : Nat) : Int) := rfl
  have hf : fst0M s < 256 := hc
  have hm2 : Int.tmod ((fst0M s / 16 : Nat) : Int) 2 = ((fst0M s / 16 % 2 : Nat) : Int) := rfl
  refine ckI (by simp; omega) ⟨_, rfl, _, rfl, ?_⟩
  rw [hm]
  refine wrapI (by omega) (by omega) (wrapI (by omega) (by omega) (wrapI (by omega) (by omega) (ckI (by simp; omega) ⟨_, rfl, ?_⟩)))
  rw [hd]
  refine wrapU8 (by omega) (by omega) ⟨_, rfl, ?_⟩
  rw [hm2]
  rw [needM] at hq
  refine splitE (fun hb => ?_) (fun hb => ?_)
  · rw [if_pos (by omega)] at hq
    refine wrapI (by omega) (by omega) ⟨_, rfl, splitD (fun h => ?_) (fun h => ?_)⟩
    · rw [if_pos (by omega)] at hq
      have hn := num_small2 (l := (s.drop (14 + 4 * (fst0M s % 16))).take 2) (by rw [List.length_take]; omega)
      refine wrapI (by omega) (by omega) (ckI (by simp; omega) ⟨(s.drop (14 + 4 * (fst0M s % 16))).take 2, ?_, ckI (by rw [Nat.ble_eq, List.length_take]; omega) ⟨_, rfl, wrapI (by omega) (by omega) (wrapI (by omega) (by omega) ?_)⟩⟩)
      · rw [show Int.toNat (12 + 4 * ((fst0M s % 16 : Nat) : Int) + 4 - 2) = 14 + 4 * (fst0M s % 16) by omega, show Int.toNat (12 + 4 * ((fst0M s % 16 : Nat) : Int) + 4) - (14 + 4 * (fst0M s % 16)) = 2 by omega]
      · rw [show (12 + 4 * ((fst0M s % 16 : Nat) : Int) + 4) = ((16 + 4 * (fst0M s % 16) : Nat) : Int) by omega]
        exact hq
    · rw [if_neg (by omega)] at hq
      rw [show (12 + 4 * ((fst0M s % 16 : Nat) : Int) + 4) = ((16 + 4 * (fst0M s % 16) : Nat) : Int) by omega]
      exact hq
  · rw [if_neg (by omega)] at hq
    rw [show (12 + 4 * ((fst0M s % 16 : Nat) : Int)) = ((12 + 4 * (fst0M s % 16) : Nat) : Int) by omega]
    exact hq
def cNeeds : Con
  | [.str s], H, K => bif Nat.blt 0 s.length && Nat.ble s.length 1000000 then K (.ret (.int .i64 (needM s))) H else False
  | _, _, _ => False
theorem needs_ok : ValidF Tryd.prog gl0 43 cNeeds := by
  refine valid_flat (enters_of (by kernel_rfl)) gl0_noY fun args H Q hc => ?_
  unfold cNeeds at hc
  split at hc
  · rename_i s
    cases hb : Nat.blt 0 s.length && Nat.ble s.length 1000000
    · rw [hb] at hc; exact hc.elim
    · rw [hb] at hc
      rw [Bool.and_eq_true, blt_iff, Nat.ble_eq] at hb
      obtain ⟨hv, hb', h⟩ := needs_run s hb.1 hb.2 (fun o H' _ => H' = [] ∧ (∃ v, o = .ret v ∧ old 0 v = true ∧ noY v = true) ∧ Q o H) ⟨rfl, ⟨_, rfl, rfl, rfl⟩, hc⟩
      exact ⟨rfl, rfl, _, 1000, ⟨mixed23, names23, tabA_ok, smNe_ok⟩, rfl, h⟩
  · exact hc.elim
/-! ## exts -/
theorem rex_nil (sh : Bool) (f : Nat) : rexM sh f [] = [] := by cases f <;> rfl
theorem rex_zero {sh : Bool} {f : Nat} {c : UInt8} {t : List UInt8} (z : c.toNat = 0) : rexM sh (f + 1) (c :: t) = [] := by
  cases t <;> simp [rexM, z]
theorem rex_short {f : Nat} {c : UInt8} {t : List UInt8} (z : c.toNat ≠ 0) : rexM true (f + 1) (c :: t) = (((c.toNat / 16 : Nat) : Int), t.take (min (1 + c.toNat % 16) t.length)) :: rexM true f (t.drop (min (1 + c.toNat % 16) t.length)) := by
  cases t <;> simp only [rexM, if_neg z, if_true]
theorem rex_one {f : Nat} {c : UInt8} (z : c.toNat ≠ 0) : rexM false (f + 1) [c] = [((c.toNat : Int), [])] := by
  simp [rexM, z]
theorem rex_long {f : Nat} {c d : UInt8} {u : List UInt8} (z : c.toNat ≠ 0) : rexM false (f + 1) (c :: d :: u) = ((c.toNat : Int), u.take (min d.toNat u.length)) :: rexM false f (u.drop (min d.toNat u.length)) := by
  simp [rexM, z]
theorem roundR_ok {sh : Bool} {r : List UInt8} {c2 : Bool} {E : Prop} {STEP : Int → List UInt8 → List UInt8 → Prop} (h2 : c2 = true) (hr : r.length ≤ 1000000) {f : Nat} (hf : r.length ≤ f) (hE : rexM sh f r = [] → E)
    (hS : ∀ f' id dt rs, rs.length < r.length → rs.length ≤ f' → rexM sh f r = (id, dt) :: rexM sh f' rs → STEP id dt rs) : roundR sh r c2 E STEP := by
  unfold roundR
  cases r with
  | nil => exact ⟨_, rfl, splitD (fun h => absurd h (by simp)) (fun _ => hE (rex_nil _ _))⟩
  | cons c t =>
    obtain ⟨f, rfl⟩ : ∃ g, f = g + 1 := ⟨f - 1, by simp at hf; omega⟩
    have hc := c.toNat_lt
    simp only [List.length_cons] at hr hf
    simp only [List.getD_cons_zero]
    have hd : Int.tdiv ((c.toNat : Nat) : Int) 16 = ((c.toNat / 16 : Nat) : Int) := rfl
    have hm : Int.tmod ((c.toNat : Nat) : Int) 16 = ((c.toNat % 16 : Nat) : Int) := rfl
    refine ⟨_, rfl, splitD (fun _ => ckI (by simp) ⟨_, rfl, splitNE (fun z => ?_) (fun z => hE (rex_zero (by omega)))⟩) (fun h => absurd (by simp only [List.length_cons]; omega) h)⟩
    refine ckI (by simp) ⟨_, rfl, ?_⟩
    rw [hd]
    refine wrapU8 (by omega) (by omega) (wrapI (by omega) (by omega) (ckI (by simp) ⟨_, rfl, _, rfl, ?_⟩))
    rw [hm]
    refine wrapI (by omega) (by omega) (wrapI (by omega) (by omega) (ckI (by simp) ⟨t, by simp, splitI (fun q => ?_) (fun q => ?_)⟩))
    · subst q
      refine ⟨_, rfl, iminI (a := 1 + c.toNat % 16) (by omega) (ckI (by simp; omega) ⟨t.take (min (1 + c.toNat % 16) t.length), by simp, ckI h2 (ckI (by simp; omega) ⟨t.drop (min (1 + c.toNat % 16) t.length), by rw [Int.toNat_natCast, List.take_of_length_le (by simp)], ?_⟩)⟩)⟩
      exact hS f _ _ _ (by simp; omega) (by rw [List.length_drop]; omega) (rex_short (by omega))
    · subst q
      refine wrapI (by omega) (by omega) (wrapI (by omega) (by omega) (wrapI (by omega) (by omega) ?_))
      rw [show ((c.toNat / 16 : Nat) : Int) * 16 + (1 + ((c.toNat % 16 : Nat) : Int)) - 1 = ((c.toNat : Nat) : Int) by omega]
      cases t with
      | nil =>
        refine ⟨_, rfl, splitD (fun h => absurd h (by simp)) (fun _ => ⟨_, rfl, iminI (a := 0) rfl (ckI (by simp) ⟨[], by simp, ckI h2 (ckI (by simp) ⟨[], by simp, ?_⟩)⟩)⟩)⟩
        exact hS 0 _ _ _ (by simp) (by simp) (rex_one (by omega))
      | cons d u =>
        have hd := d.toNat_lt
        simp only [List.length_cons] at hr hf
        simp only [List.getD_cons_zero]
        refine ⟨_, rfl, splitD (fun _ => ckI (by simp) ⟨_, rfl, wrapI (by omega) (by omega) (ckI (by simp) ⟨u, by simp, _, rfl, iminI (a := d.toNat) rfl (ckI (by simp; omega) ⟨u.take (min d.toNat u.length), by simp, ckI h2 (ckI (by simp; omega) ⟨u.drop (min d.toNat u.length), by rw [Int.toNat_natCast, List.take_of_length_le (by simp)], ?_⟩)⟩)⟩)⟩) (fun h => absurd (by simp only [List.length_cons]; omega) h)⟩
        exact hS f _ _ _ (by simp; omega) (by rw [List.length_drop]; omega) (rex_long (by omega))
theorem rexts_run (s : List UInt8) (sh : Bool) (hs : s.length ≤ 1000000) (Q : Out → List Blk → Gh → Prop) (hn : rexM sh s.length s = [] → Q (.ret .nils) [] {})
    (hq : ∀ x l, rexM sh s.length s = x :: l → Q (.ret (.sl 1 (2 * (x :: l).length) 0 (x :: l).length 2)) [⟨.exact, true, cellsXM [x]⟩, ⟨.grow, true, cellsXM (x :: l)⟩] {}) : ∃ hv hb, goal_45 hv hb s sh Q := by
  obtain ⟨hv, hb', e⟩ : ∃ hv hb, goal_45 hv hb s sh Q = _ := ⟨_, _, vc_45 s sh Q⟩
  refine ⟨hv, hb', e.mpr ?_⟩
  clear e
  refine ⟨.inl ⟨0, ⟨rfl⟩, rfl, rfl, rfl, trivial⟩, ?_, ?_⟩
  · rintro _ ⟨rfl⟩
    refine roundR_ok rfl hs (Nat.le_refl _) hn (fun f' id dt rs a1 a2 a3 => ?_)
    exact ⟨⟨trivial, rfl⟩, .inr ⟨([(id, dt)], rs), ⟨⟨by simp; omega, f', a2, by rw [a3]; rfl⟩, by simp⟩, by dsimp only; omega, rfl, rfl, rfl, rfl, rfl, trivial⟩⟩
  · rintro ⟨acc, r⟩ ⟨⟨g0, f, g1, g2⟩, k1⟩
    dsimp only at g0 g1 g2 k1 ⊢
    obtain ⟨x, l, rfl⟩ : ∃ x l, acc = x :: l := by
      cases acc with
      | nil => simp at k1
      | cons x l => exact ⟨x, l, rfl⟩
    simp only [List.length_cons] at g0
    refine roundR_ok (by rw [cellsX_len]; simp; omega) (by omega) g1 (fun h => hq x l (by rw [g2, h]; simp)) (fun f' id dt rs a1 a2 a3 => ?_)
    exact ⟨⟨trivial, rfl⟩, .inr ⟨(x :: l ++ [(id, dt)], rs), ⟨⟨by simp; omega, f', a2, by rw [g2, a3]; simp⟩, by simp⟩, by dsimp only; omega, rfl, by rw [cellsX_app]; rfl, rfl, rfl, by simp only [List.length_append, List.length_cons, List.length_nil]; rfl, trivial⟩⟩
def cRexts : Con
  | [.str s, .bool sh], H, K => bif Nat.ble s.length 1000000 then ∀ l : List Xt, Lf (l = rexM sh s.length s) → K (.ret (.lst 0 (cellsXM l) l.length 2)) H else False
  | _, _, _ => False
theorem rexts_ok : ValidF Tryd.prog gl0 45 cRexts := by
  refine valid_frz (enters_of (by kernel_rfl)) gl0_noY 8 (nlV 2) (wk_nl 2) fun args H Q hc => ?_
  unfold cRexts at hc
  split at hc
  · rename_i s sh
    cases hb : Nat.ble s.length 1000000
    · rw [hb] at hc; exact hc.elim
    · rw [hb] at hc
      rw [Nat.ble_eq] at hb
      obtain ⟨hv, hb', h⟩ := rexts_run s sh hb (fun o H' _ => ∃ v, o = .ret v ∧ Q (.ret (nlV 2 (frzV 0 H' 8 v))) H) (fun h => ⟨_, rfl, by
        have := hc [] ⟨h.symm⟩
        exact this⟩) (fun x l h => ⟨_, rfl, by
        have e := okE_sl (H := [⟨.exact, true, cellsXM [x]⟩, ⟨.grow, true, cellsXM (x :: l)⟩]) (id := 1) (ex := x :: l) rfl rfl rfl rfl (by simp)
        have := hc (x :: l) ⟨h.symm⟩
        unfold okE at e
        rw [e]
        exact this⟩)
      exact ⟨rfl, rfl, _, 1000, ⟨mixed23, names23, tabA_ok, sm0_ok⟩, rfl, h⟩
  · exact hc.elim
end Go.Proofs.YtbchmkhliehbfaaDoor
