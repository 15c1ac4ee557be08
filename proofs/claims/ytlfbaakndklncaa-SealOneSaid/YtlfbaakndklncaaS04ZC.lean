/-
  Chapter 4: SealOne's run.
-/
import Derived.Test.YtlfbaakndklncaaS04V
set_option linter.unusedSimpArgs false
set_option linter.unusedVariables false
namespace Go.Proofs.Ytlfbaakndklncaa
open Go.RowKit
set_option maxRecDepth 1000000

def inv_8a (s : S) : List (List LInv) := match s.tm.get 25, s.tm.get 26, s.tm.get 3 with
  | .lst τ cs n 1, .int _ m, .str key => [[{ α := Nat × List UInt8, pre := fun p => Lf (p.1 ≤ n ∧ p.2 = joinM (cs.take p.1) ∧ p.2.length = 16 * p.1), st := fun p => ⟨mkT [(0, .lst τ cs n 1), (3, .str key), (4, .str p.2), (25, .lst τ cs n 1), (26, .int .i64 m), (27, .int .i64 (p.1 : Nat))], s.hp⟩, mu := fun p => n - p.1 }]]
  | _, _, _ => []
def inv_8b (s : S) : List (List LInv) := match s.tm.get 0, s.tm.get 4, s.tm.get 7 with
  | .lst τ cs n 1, .str x, .str t => [[{ α := Nat × List Nat, pre := fun p => Lf (p.1 ≤ x.length ∧ p.2.length = 18 ∧ valNM p.2 = wsM x p.1 ∧ (∀ j, p.2.getD j 0 ≤ 255 * p.1) ∧ p.2.getD 16 0 = 0 ∧ p.2.getD 17 0 = 0), st := fun p => ⟨mkT [(0, .lst τ cs n 1), (4, .str x), (7, .str t), (9, .ptr 0 18 0), (54, .int .i64 x.length), (55, .int .i64 (p.1 : Nat))], [⟨.exact, true, cellsNM p.2⟩]⟩, mu := fun p => x.length - p.1 }]]
  | _, _, _ => []
/-- before each of the three rounds: value, bounds -/
def rdM (V r : Nat) (L : List Nat) : Prop := L.length = 18 ∧ L.getD 17 0 = 0 ∧ (∀ j, L.getD j 0 ≤ 40000) ∧ valNM L % pM = V % pM ∧
  (r = 0 → valNM L ≤ 6125082604576892342340742933771827806208) ∧ (r = 1 → valNM L < 1361129467683753853853498429727072845824 + 25) ∧ (2 ≤ r → valNM L < 1361129467683753853853498429727072845824) ∧ (3 ≤ r → (∀ j, L.getD j 0 ≤ 255) ∧ L.getD 16 0 ≤ 3)
def inv_8c (s : S) : List (List LInv) := match s.tm.get 7, s.hp with
  | .str t, [b] => [[{ α := Nat × List Nat, pre := fun p => Lf (p.1 ≤ 3 ∧ rdM (valNM (b.cs.map unNM)) p.1 p.2), st := fun p => ⟨mkT [(7, .str t), (9, .ptr 0 18 0), (72, .int .i64 (p.1 : Nat))], [⟨.exact, true, cellsNM p.2⟩]⟩, mu := fun p => 3 - p.1 }]]
  | _, _ => []
def inv_8d (s : S) : List (List LInv) := match s.tm.get 7, s.tm.get 72, s.hp with
  | .str t, .int _ r, [b] => [[{ α := Nat × List Nat, pre := fun p => Lf (p.1 ≤ 17 ∧ p.2.length = 18 ∧ valNM p.2 = valNM (b.cs.map unNM) ∧ (∀ j, j < p.1 → p.2.getD j 0 ≤ 255) ∧ (∀ j, p.1 < j → p.2.getD j 0 ≤ 40000) ∧ p.2.getD p.1 0 ≤ 41000), st := fun p => ⟨mkT [(7, .str t), (9, .ptr 0 18 0), (72, .int .i64 r), (74, .int .i64 (p.1 : Nat))], [⟨.exact, true, cellsNM p.2⟩]⟩, mu := fun p => 17 - p.1 }]]
  | _, _, _ => []
def inv_8e (s : S) : List (List LInv) := match s.tm.get 7, s.hp with
  | .str t, [b] => [[{ α := Nat, pre := fun p => Lf (1 ≤ p ∧ p ≤ 16), st := fun p => ⟨mkT [(7, .str t), (9, .ptr 0 18 0), (13, .bool (fullM (b.cs.map unNM) p)), (14, .int .i64 (p : Nat))], [⟨.exact, true, b.cs⟩]⟩, mu := fun p => 16 - p }]]
  | _, _ => []
def inv_8f (s : S) : List (List LInv) := match s.tm.get 7, s.hp with
  | .str t, [b] => [[{ α := Nat, pre := fun p => Lf (p ≤ 16), st := fun p => ⟨mkT [(7, .str t), (9, .ptr 0 18 0), (136, .int .i64 (p : Nat))], [⟨.exact, true, b.cs⟩]⟩, mu := fun p => 16 - p }]]
  | _, _ => []
noncomputable def env_8 (hv : Nat → Option Pa) (hb : Nat → Option Bool) : Env := e04 smZ (fun i => bif Nat.beq i 8000 then some inv_8a else bif Nat.beq i 8002 then some inv_8b else bif Nat.beq i 8004 then some inv_8c else bif Nat.beq i 8006 then some inv_8d else bif Nat.beq i 8008 then some inv_8e else bif Nat.beq i 8010 then some inv_8f else none) hv hb
noncomputable def goal_8 (hv : Nat → Option Pa) (hb : Nat → Option Bool) (cs : List AV) (n : Nat) (Q : Out → List Blk → Gh → Prop) : Prop :=
  callx (env_8 hv hb) (wpx (env_8 hv hb) 1000) 8 [.lst 0 cs n 1] [] {} Q
theorem vc_8 (cs : List AV) (n : Nat) (Q : Out → List Blk → Gh → Prop) : goal_8 (lookV [(32787, .str), (32791, .int .i64), (32794, .int .i64), (32798, .str), (32802, .int .i64), (32803, .int .i64), (32804, .str), (32806, .str), (32807, .int .i64), (32818, .int .i64), (32822, .int .i64), (32827, .int .i64), (32829, .int .i64), (32832, .int .u8), (32833, .int .i64), (32834, .int .i64), (32836, .int .i64), (32838, .int .i64), (32846, .int .i64), (32848, .int .i64), (32851, .int .i64), (32852, .int .i64), (32853, .int .i64), (32857, .int .i64), (32858, .int .i64), (32860, .int .i64), (32862, .int .i64), (32863, .int .i64), (32865, .int .i64), (32866, .int .i64), (32867, .int .i64), (32869, .int .i64), (32870, .int .i64), (32874, .int .i64), (32876, .int .i64), (32877, .int .i64), (32879, .int .i64), (32881, .int .i64), (32885, .int .i64), (32896, .int .i64), (32891, .int .i64), (32901, .int .i64), (32902, .int .i64), (32909, .int .i64), (32910, .int .u8), (32913, .int .u8), (32915, .int .i64)]) (lookB []) cs n Q = (
((Lf (((0 : Int) ≤ (31 : Int)) ∧
 (((31 : Int) ≤ (100000 : Int)) ∧
 ((List.length ((0 : UInt8) :: [])) ≤ (100000 : Nat))))) ∧
 (∀ t_0 : (List UInt8), ((Lf (t_0 = (repM ((0 : UInt8) :: []) (Int.toNat (31 : Int))))) →
(bif ((decide (((1 : Nat) + (List.length t_0)) ≤ (9223372036854775807 : Nat))) && true) then (∃ s_1 : (List UInt8), (((AV.str (((UInt8.ofNat (1 : Nat)) :: []) ++ t_0)) = (AV.str s_1)) ∧
 (∃ n_2 : Int, (((AV.int .i64 (imin (Nat.cast n : Int) (9 : Int))) = (AV.int .i64 n_2)) ∧
 (bif ((((decide ((0 : Int) ≤ n_2)) && true) && (Nat.ble (Int.toNat n_2) n)) && true) then (∃ n_3 : Int, (((AV.int .i64 (Nat.cast ((Int.toNat n_2) - (0 : Nat)) : Int)) = (AV.int .i64 n_3)) ∧
 ((∃ x_4 : (Prod Nat (List UInt8)), ((Lf (((Prod.fst x_4) ≤ ((Int.toNat n_2) - (0 : Nat))) ∧
 (((Prod.snd x_4) = (joinM (List.take (Prod.fst x_4) (List.take (((Int.toNat n_2) - (0 : Nat)) * (1 : Nat)) (List.drop (0 : Nat) cs))))) ∧
 ((List.length (Prod.snd x_4)) = ((16 : Nat) * (Prod.fst x_4)))))) ∧
 (((AV.lst (0 : Nat) (List.take (((Int.toNat n_2) - (0 : Nat)) * (1 : Nat)) (List.drop (0 : Nat) cs)) ((Int.toNat n_2) - (0 : Nat)) (1 : Nat)) = (AV.lst (0 : Nat) (List.take (((Int.toNat n_2) - (0 : Nat)) * (1 : Nat)) (List.drop (0 : Nat) cs)) ((Int.toNat n_2) - (0 : Nat)) (1 : Nat))) ∧
 (((AV.str s_1) = (AV.str s_1)) ∧
 (((AV.int .i64 (0 : Int)) = (AV.int .i64 (Nat.cast (Prod.fst x_4) : Int))) ∧
 (((AV.lst (0 : Nat) (List.take (((Int.toNat n_2) - (0 : Nat)) * (1 : Nat)) (List.drop (0 : Nat) cs)) ((Int.toNat n_2) - (0 : Nat)) (1 : Nat)) = (AV.lst (0 : Nat) (List.take (((Int.toNat n_2) - (0 : Nat)) * (1 : Nat)) (List.drop (0 : Nat) cs)) ((Int.toNat n_2) - (0 : Nat)) (1 : Nat))) ∧
 (((AV.str []) = (AV.str (Prod.snd x_4))) ∧
 (((AV.int .i64 n_3) = (AV.int .i64 n_3)) ∧
 True)))))))) ∧
 (∀ x_4 : (Prod Nat (List UInt8)), ((Lf (((Prod.fst x_4) ≤ ((Int.toNat n_2) - (0 : Nat))) ∧
 (((Prod.snd x_4) = (joinM (List.take (Prod.fst x_4) (List.take (((Int.toNat n_2) - (0 : Nat)) * (1 : Nat)) (List.drop (0 : Nat) cs))))) ∧
 ((List.length (Prod.snd x_4)) = ((16 : Nat) * (Prod.fst x_4)))))) →
(bif (decide ((Nat.cast (Prod.fst x_4) : Int) < n_3)) then (bif ((Nat.blt (Int.toNat (Nat.cast (Prod.fst x_4) : Int)) ((Int.toNat n_2) - (0 : Nat))) && true) then (bif (Nat.blt ((Int.toNat (Nat.cast (Prod.fst x_4) : Int)) * (1 : Nat)) (List.length (List.take (((Int.toNat n_2) - (0 : Nat)) * (1 : Nat)) (List.drop (0 : Nat) cs)))) then (∃ s_5 : (List UInt8), (((List.getD (List.take (((Int.toNat n_2) - (0 : Nat)) * (1 : Nat)) (List.drop (0 : Nat) cs)) ((Int.toNat (Nat.cast (Prod.fst x_4) : Int)) * (1 : Nat)) AV.undef) = (AV.str s_5)) ∧
 (∃ n_6 : Int, (((AV.int .i64 (Nat.cast (List.length s_5) : Int)) = (AV.int .i64 n_6)) ∧
 (∃ n_7 : Int, (((AV.int .i64 (imin n_6 (16 : Int))) = (AV.int .i64 n_7)) ∧
 (bif (((decide ((0 : Int) ≤ n_7)) && true) && (Nat.ble (Int.toNat n_7) (List.length s_5))) then (∃ s_8 : (List UInt8), (((AV.str (List.take ((Int.toNat n_7) - (0 : Nat)) (List.drop (0 : Nat) s_5))) = (AV.str s_8)) ∧
 ((Lf (((0 : Int) ≤ (16 : Int)) ∧
 (((16 : Int) ≤ (100000 : Int)) ∧
 ((List.length s_8) ≤ (100000 : Nat))))) ∧
 (∀ t_9 : (List UInt8), ((Lf (t_9 = (sizedM s_8 (Int.toNat (16 : Int))))) →
(bif ((decide (((List.length (Prod.snd x_4)) + (List.length t_9)) ≤ (9223372036854775807 : Nat))) && true) then (∃ s_10 : (List UInt8), (((AV.str ((Prod.snd x_4) ++ t_9)) = (AV.str s_10)) ∧
 (∃ n_11 : Int, (((AV.int .i64 (IntKind.wrap .i64 ((Nat.cast (Prod.fst x_4) : Int) + (1 : Int)))) = (AV.int .i64 n_11)) ∧
 ((True ∧
 ((0 : Nat) = (0 : Nat))) ∧
 (∃ y_12 : (Prod Nat (List UInt8)), ((Lf (((Prod.fst y_12) ≤ ((Int.toNat n_2) - (0 : Nat))) ∧
 (((Prod.snd y_12) = (joinM (List.take (Prod.fst y_12) (List.take (((Int.toNat n_2) - (0 : Nat)) * (1 : Nat)) (List.drop (0 : Nat) cs))))) ∧
 ((List.length (Prod.snd y_12)) = ((16 : Nat) * (Prod.fst y_12)))))) ∧
 (((((Int.toNat n_2) - (0 : Nat)) - (Prod.fst y_12)) < (((Int.toNat n_2) - (0 : Nat)) - (Prod.fst x_4))) ∧
 (((AV.lst (0 : Nat) (List.take (((Int.toNat n_2) - (0 : Nat)) * (1 : Nat)) (List.drop (0 : Nat) cs)) ((Int.toNat n_2) - (0 : Nat)) (1 : Nat)) = (AV.lst (0 : Nat) (List.take (((Int.toNat n_2) - (0 : Nat)) * (1 : Nat)) (List.drop (0 : Nat) cs)) ((Int.toNat n_2) - (0 : Nat)) (1 : Nat))) ∧
 (((AV.str s_1) = (AV.str s_1)) ∧
 (((AV.int .i64 n_11) = (AV.int .i64 (Nat.cast (Prod.fst y_12) : Int))) ∧
 (((AV.lst (0 : Nat) (List.take (((Int.toNat n_2) - (0 : Nat)) * (1 : Nat)) (List.drop (0 : Nat) cs)) ((Int.toNat n_2) - (0 : Nat)) (1 : Nat)) = (AV.lst (0 : Nat) (List.take (((Int.toNat n_2) - (0 : Nat)) * (1 : Nat)) (List.drop (0 : Nat) cs)) ((Int.toNat n_2) - (0 : Nat)) (1 : Nat))) ∧
 (((AV.str s_10) = (AV.str (Prod.snd y_12))) ∧
 (((AV.int .i64 n_3) = (AV.int .i64 n_3)) ∧
 True))))))))))))))
else False))))))
else False)))))))
else False)
else False)
else (∀ t_5 : (List UInt8), (∀ e_6 : Int, ((Lf ((tagSM s_1 (Prod.snd x_4)) = (Prod.mk t_5 e_6))) →
(bif (e_6 != (0 : Int)) then (Q (Out.ret (AV.bool false)) [] (Gh.mk (0 : Nat) (0 : Nat) []))
else (∃ n_7 : Int, (((AV.int .i64 (Nat.cast (List.length t_5) : Int)) = (AV.int .i64 n_7)) ∧
 (bif (n_7 != (16 : Int)) then (Q (Out.ret (AV.bool false)) [] (Gh.mk (0 : Nat) (0 : Nat) []))
else (∃ n_8 : Int, (((AV.int .i64 (Nat.cast (List.length (Prod.snd x_4)) : Int)) = (AV.int .i64 n_8)) ∧
 ((∃ x_9 : (Prod Nat (List Nat)), ((Lf (((Prod.fst x_9) ≤ (List.length (Prod.snd x_4))) ∧
 (((List.length (Prod.snd x_9)) = (18 : Nat)) ∧
 (((valNM (Prod.snd x_9)) = (wsM (Prod.snd x_4) (Prod.fst x_9))) ∧
 ((∀ j_10 : Nat, ((List.getD (Prod.snd x_9) j_10 (0 : Nat)) ≤ ((255 : Nat) * (Prod.fst x_9)))) ∧
 (((List.getD (Prod.snd x_9) (16 : Nat) (0 : Nat)) = (0 : Nat)) ∧
 ((List.getD (Prod.snd x_9) (17 : Nat) (0 : Nat)) = (0 : Nat)))))))) ∧
 ((((AV.int .i64 (0 : Int)) :: ((AV.int .i64 (0 : Int)) :: ((AV.int .i64 (0 : Int)) :: ((AV.int .i64 (0 : Int)) :: ((AV.int .i64 (0 : Int)) :: ((AV.int .i64 (0 : Int)) :: ((AV.int .i64 (0 : Int)) :: ((AV.int .i64 (0 : Int)) :: ((AV.int .i64 (0 : Int)) :: ((AV.int .i64 (0 : Int)) :: ((AV.int .i64 (0 : Int)) :: ((AV.int .i64 (0 : Int)) :: ((AV.int .i64 (0 : Int)) :: ((AV.int .i64 (0 : Int)) :: ((AV.int .i64 (0 : Int)) :: ((AV.int .i64 (0 : Int)) :: ((AV.int .i64 (0 : Int)) :: ((AV.int .i64 (0 : Int)) :: [])))))))))))))))))) = (cellsNM (Prod.snd x_9))) ∧
 (((AV.lst (0 : Nat) (List.take (((Int.toNat n_2) - (0 : Nat)) * (1 : Nat)) (List.drop (0 : Nat) cs)) ((Int.toNat n_2) - (0 : Nat)) (1 : Nat)) = (AV.lst (0 : Nat) (List.take (((Int.toNat n_2) - (0 : Nat)) * (1 : Nat)) (List.drop (0 : Nat) cs)) ((Int.toNat n_2) - (0 : Nat)) (1 : Nat))) ∧
 (((AV.str t_5) = (AV.str t_5)) ∧
 (((AV.int .i64 (0 : Int)) = (AV.int .i64 (Nat.cast (Prod.fst x_9) : Int))) ∧
 (((AV.ptr (0 : Nat) (18 : Nat) (0 : Nat)) = (AV.ptr (0 : Nat) (18 : Nat) (0 : Nat))) ∧
 (((AV.str (Prod.snd x_4)) = (AV.str (Prod.snd x_4))) ∧
 (((AV.int .i64 n_8) = (AV.int .i64 (Nat.cast (List.length (Prod.snd x_4)) : Int))) ∧
 True))))))))) ∧
 (∀ x_9 : (Prod Nat (List Nat)), ((Lf (((Prod.fst x_9) ≤ (List.length (Prod.snd x_4))) ∧
 (((List.length (Prod.snd x_9)) = (18 : Nat)) ∧
 (((valNM (Prod.snd x_9)) = (wsM (Prod.snd x_4) (Prod.fst x_9))) ∧
 ((∀ j_10 : Nat, ((List.getD (Prod.snd x_9) j_10 (0 : Nat)) ≤ ((255 : Nat) * (Prod.fst x_9)))) ∧
 (((List.getD (Prod.snd x_9) (16 : Nat) (0 : Nat)) = (0 : Nat)) ∧
 ((List.getD (Prod.snd x_9) (17 : Nat) (0 : Nat)) = (0 : Nat)))))))) →
(bif (decide ((Nat.cast (Prod.fst x_9) : Int) < (Nat.cast (List.length (Prod.snd x_4)) : Int))) then (∃ n_10 : Int, (((AV.int .i64 (Int.tmod (Nat.cast (Prod.fst x_9) : Int) (16 : Int))) = (AV.int .i64 n_10)) ∧
 (bif (((decide ((0 : Int) ≤ n_10)) && (Nat.blt (Int.toNat n_10) (18 : Nat))) && (Nat.beq (List.length (cellsNM (Prod.snd x_9))) (18 : Nat))) then (bif ((Nat.beq (List.length (cellsNM (Prod.snd x_9))) (18 : Nat)) && (Nat.blt ((0 : Nat) + ((Int.toNat n_10) * (1 : Nat))) (18 : Nat))) then (∃ n_11 : Int, (((List.getD (List.take (1 : Nat) (List.drop ((0 : Nat) + ((Int.toNat n_10) * (1 : Nat))) (cellsNM (Prod.snd x_9)))) (0 : Nat) AV.undef) = (AV.int .i64 n_11)) ∧
 (bif (Nat.blt (Int.toNat (Nat.cast (Prod.fst x_9) : Int)) (List.length (Prod.snd x_4))) then (∃ n_12 : Int, (((AV.int .u8 (Nat.cast (UInt8.toNat (List.getD (Prod.snd x_4) (Int.toNat (Nat.cast (Prod.fst x_9) : Int)) (UInt8.ofNat (0 : Nat)))) : Int)) = (AV.int .u8 n_12)) ∧
 (∃ n_13 : Int, (((AV.int .i64 (IntKind.wrap .i64 n_12)) = (AV.int .i64 n_13)) ∧
 (∃ n_14 : Int, (((AV.int .i64 (IntKind.wrap .i64 (n_11 + n_13))) = (AV.int .i64 n_14)) ∧
 (bif (((decide ((0 : Int) ≤ n_10)) && (Nat.blt (Int.toNat n_10) (18 : Nat))) && (Nat.beq (List.length (cellsNM (Prod.snd x_9))) (18 : Nat))) then (bif (((((Nat.beq (List.length (cellsNM (Prod.snd x_9))) (18 : Nat)) && (Nat.ble (((0 : Nat) + ((Int.toNat n_10) * (1 : Nat))) + (1 : Nat)) (18 : Nat))) && true) && true) && true) then (∃ n_15 : Int, (((AV.int .i64 (IntKind.wrap .i64 ((Nat.cast (Prod.fst x_9) : Int) + (1 : Int)))) = (AV.int .i64 n_15)) ∧
 ((True ∧
 ((0 : Nat) = (0 : Nat))) ∧
 (∃ y_16 : (Prod Nat (List Nat)), ((Lf (((Prod.fst y_16) ≤ (List.length (Prod.snd x_4))) ∧
 (((List.length (Prod.snd y_16)) = (18 : Nat)) ∧
 (((valNM (Prod.snd y_16)) = (wsM (Prod.snd x_4) (Prod.fst y_16))) ∧
 ((∀ j_17 : Nat, ((List.getD (Prod.snd y_16) j_17 (0 : Nat)) ≤ ((255 : Nat) * (Prod.fst y_16)))) ∧
 (((List.getD (Prod.snd y_16) (16 : Nat) (0 : Nat)) = (0 : Nat)) ∧
 ((List.getD (Prod.snd y_16) (17 : Nat) (0 : Nat)) = (0 : Nat)))))))) ∧
 ((((List.length (Prod.snd x_4)) - (Prod.fst y_16)) < ((List.length (Prod.snd x_4)) - (Prod.fst x_9))) ∧
 (((setRange (cellsNM (Prod.snd x_9)) ((0 : Nat) + ((Int.toNat n_10) * (1 : Nat))) ((AV.int .i64 n_14) :: [])) = (cellsNM (Prod.snd y_16))) ∧
 (((AV.lst (0 : Nat) (List.take (((Int.toNat n_2) - (0 : Nat)) * (1 : Nat)) (List.drop (0 : Nat) cs)) ((Int.toNat n_2) - (0 : Nat)) (1 : Nat)) = (AV.lst (0 : Nat) (List.take (((Int.toNat n_2) - (0 : Nat)) * (1 : Nat)) (List.drop (0 : Nat) cs)) ((Int.toNat n_2) - (0 : Nat)) (1 : Nat))) ∧
 (((AV.str t_5) = (AV.str t_5)) ∧
 (((AV.int .i64 n_15) = (AV.int .i64 (Nat.cast (Prod.fst y_16) : Int))) ∧
 (((AV.ptr (0 : Nat) (18 : Nat) (0 : Nat)) = (AV.ptr (0 : Nat) (18 : Nat) (0 : Nat))) ∧
 (((AV.str (Prod.snd x_4)) = (AV.str (Prod.snd x_4))) ∧
 (((AV.int .i64 (Nat.cast (List.length (Prod.snd x_4)) : Int)) = (AV.int .i64 (Nat.cast (List.length (Prod.snd x_4)) : Int))) ∧
 True)))))))))))))
else False)
else False)))))))
else False)))
else False)
else False)))
else (∃ n_10 : Int, (((AV.int .i64 (Nat.cast ((Int.toNat n_2) - (0 : Nat)) : Int)) = (AV.int .i64 n_10)) ∧
 (bif (Nat.beq (List.length (cellsNM (Prod.snd x_9))) (18 : Nat)) then (bif (((((Nat.beq (List.length (cellsNM (Prod.snd x_9))) (18 : Nat)) && true) && true) && true) && true) then ((∃ x_11 : (Prod Nat (List Nat)), ((Lf (((Prod.fst x_11) ≤ (3 : Nat)) ∧
 (rdM (valNM (List.map unNM (setRange (cellsNM (Prod.snd x_9)) (16 : Nat) ((AV.int .i64 n_10) :: [])))) (Prod.fst x_11) (Prod.snd x_11)))) ∧
 (((setRange (cellsNM (Prod.snd x_9)) (16 : Nat) ((AV.int .i64 n_10) :: [])) = (cellsNM (Prod.snd x_11))) ∧
 (((AV.str t_5) = (AV.str t_5)) ∧
 (((AV.ptr (0 : Nat) (18 : Nat) (0 : Nat)) = (AV.ptr (0 : Nat) (18 : Nat) (0 : Nat))) ∧
 (((AV.int .i64 (0 : Int)) = (AV.int .i64 (Nat.cast (Prod.fst x_11) : Int))) ∧
 True)))))) ∧
 (∀ x_11 : (Prod Nat (List Nat)), ((Lf (((Prod.fst x_11) ≤ (3 : Nat)) ∧
 (rdM (valNM (List.map unNM (setRange (cellsNM (Prod.snd x_9)) (16 : Nat) ((AV.int .i64 n_10) :: [])))) (Prod.fst x_11) (Prod.snd x_11)))) →
(bif (decide ((Nat.cast (Prod.fst x_11) : Int) < (3 : Int))) then ((∃ x_12 : (Prod Nat (List Nat)), ((Lf (((Prod.fst x_12) ≤ (17 : Nat)) ∧
 (((List.length (Prod.snd x_12)) = (18 : Nat)) ∧
 (((valNM (Prod.snd x_12)) = (valNM (List.map unNM (cellsNM (Prod.snd x_11))))) ∧
 ((∀ j_13 : Nat, ((j_13 < (Prod.fst x_12)) →
((List.getD (Prod.snd x_12) j_13 (0 : Nat)) ≤ (255 : Nat)))) ∧
 ((∀ j_13 : Nat, (((Prod.fst x_12) < j_13) →
((List.getD (Prod.snd x_12) j_13 (0 : Nat)) ≤ (40000 : Nat)))) ∧
 ((List.getD (Prod.snd x_12) (Prod.fst x_12) (0 : Nat)) ≤ (41000 : Nat)))))))) ∧
 (((cellsNM (Prod.snd x_11)) = (cellsNM (Prod.snd x_12))) ∧
 (((AV.str t_5) = (AV.str t_5)) ∧
 (((AV.ptr (0 : Nat) (18 : Nat) (0 : Nat)) = (AV.ptr (0 : Nat) (18 : Nat) (0 : Nat))) ∧
 (((AV.int .i64 (Nat.cast (Prod.fst x_11) : Int)) = (AV.int .i64 (Nat.cast (Prod.fst x_11) : Int))) ∧
 (((AV.int .i64 (0 : Int)) = (AV.int .i64 (Nat.cast (Prod.fst x_12) : Int))) ∧
 True))))))) ∧
 (∀ x_12 : (Prod Nat (List Nat)), ((Lf (((Prod.fst x_12) ≤ (17 : Nat)) ∧
 (((List.length (Prod.snd x_12)) = (18 : Nat)) ∧
 (((valNM (Prod.snd x_12)) = (valNM (List.map unNM (cellsNM (Prod.snd x_11))))) ∧
 ((∀ j_13 : Nat, ((j_13 < (Prod.fst x_12)) →
((List.getD (Prod.snd x_12) j_13 (0 : Nat)) ≤ (255 : Nat)))) ∧
 ((∀ j_13 : Nat, (((Prod.fst x_12) < j_13) →
((List.getD (Prod.snd x_12) j_13 (0 : Nat)) ≤ (40000 : Nat)))) ∧
 ((List.getD (Prod.snd x_12) (Prod.fst x_12) (0 : Nat)) ≤ (41000 : Nat)))))))) →
(bif (decide ((Nat.cast (Prod.fst x_12) : Int) < (17 : Int))) then (∃ n_13 : Int, (((AV.int .i64 (IntKind.wrap .i64 ((Nat.cast (Prod.fst x_12) : Int) + (1 : Int)))) = (AV.int .i64 n_13)) ∧
 (bif (((decide ((0 : Int) ≤ n_13)) && (Nat.blt (Int.toNat n_13) (18 : Nat))) && (Nat.beq (List.length (cellsNM (Prod.snd x_12))) (18 : Nat))) then (bif ((Nat.beq (List.length (cellsNM (Prod.snd x_12))) (18 : Nat)) && (Nat.blt ((0 : Nat) + ((Int.toNat n_13) * (1 : Nat))) (18 : Nat))) then (∃ n_14 : Int, (((List.getD (List.take (1 : Nat) (List.drop ((0 : Nat) + ((Int.toNat n_13) * (1 : Nat))) (cellsNM (Prod.snd x_12)))) (0 : Nat) AV.undef) = (AV.int .i64 n_14)) ∧
 (bif ((Nat.blt (Int.toNat (Nat.cast (Prod.fst x_12) : Int)) (18 : Nat)) && (Nat.beq (List.length (cellsNM (Prod.snd x_12))) (18 : Nat))) then (bif ((Nat.beq (List.length (cellsNM (Prod.snd x_12))) (18 : Nat)) && (Nat.blt ((0 : Nat) + ((Int.toNat (Nat.cast (Prod.fst x_12) : Int)) * (1 : Nat))) (18 : Nat))) then (∃ n_15 : Int, (((List.getD (List.take (1 : Nat) (List.drop ((0 : Nat) + ((Int.toNat (Nat.cast (Prod.fst x_12) : Int)) * (1 : Nat))) (cellsNM (Prod.snd x_12)))) (0 : Nat) AV.undef) = (AV.int .i64 n_15)) ∧
 (∃ n_16 : Int, (((AV.int .i64 (Int.fdiv n_15 (256 : Int))) = (AV.int .i64 n_16)) ∧
 (∃ n_17 : Int, (((AV.int .i64 (IntKind.wrap .i64 (n_14 + n_16))) = (AV.int .i64 n_17)) ∧
 (bif (((decide ((0 : Int) ≤ n_13)) && (Nat.blt (Int.toNat n_13) (18 : Nat))) && (Nat.beq (List.length (cellsNM (Prod.snd x_12))) (18 : Nat))) then (bif (((((Nat.beq (List.length (cellsNM (Prod.snd x_12))) (18 : Nat)) && (Nat.ble (((0 : Nat) + ((Int.toNat n_13) * (1 : Nat))) + (1 : Nat)) (18 : Nat))) && true) && true) && true) then (bif ((Nat.blt (Int.toNat (Nat.cast (Prod.fst x_12) : Int)) (18 : Nat)) && (Nat.beq (List.length (setRange (cellsNM (Prod.snd x_12)) ((0 : Nat) + ((Int.toNat n_13) * (1 : Nat))) ((AV.int .i64 n_17) :: []))) (18 : Nat))) then (bif ((Nat.beq (List.length (setRange (cellsNM (Prod.snd x_12)) ((0 : Nat) + ((Int.toNat n_13) * (1 : Nat))) ((AV.int .i64 n_17) :: []))) (18 : Nat)) && (Nat.blt ((0 : Nat) + ((Int.toNat (Nat.cast (Prod.fst x_12) : Int)) * (1 : Nat))) (18 : Nat))) then (∃ n_18 : Int, (((List.getD (List.take (1 : Nat) (List.drop ((0 : Nat) + ((Int.toNat (Nat.cast (Prod.fst x_12) : Int)) * (1 : Nat))) (setRange (cellsNM (Prod.snd x_12)) ((0 : Nat) + ((Int.toNat n_13) * (1 : Nat))) ((AV.int .i64 n_17) :: [])))) (0 : Nat) AV.undef) = (AV.int .i64 n_18)) ∧
 (∃ n_19 : Int, (((AV.int .i64 (IntKind.wrap .i64 (Nat.cast ((Int.toNat (n_18 % (18446744073709551616 : Int))) &&& (255 : Nat)) : Int))) = (AV.int .i64 n_19)) ∧
 (bif ((Nat.blt (Int.toNat (Nat.cast (Prod.fst x_12) : Int)) (18 : Nat)) && (Nat.beq (List.length (setRange (cellsNM (Prod.snd x_12)) ((0 : Nat) + ((Int.toNat n_13) * (1 : Nat))) ((AV.int .i64 n_17) :: []))) (18 : Nat))) then (bif (((((Nat.beq (List.length (setRange (cellsNM (Prod.snd x_12)) ((0 : Nat) + ((Int.toNat n_13) * (1 : Nat))) ((AV.int .i64 n_17) :: []))) (18 : Nat)) && (Nat.ble (((0 : Nat) + ((Int.toNat (Nat.cast (Prod.fst x_12) : Int)) * (1 : Nat))) + (1 : Nat)) (18 : Nat))) && true) && true) && true) then (∃ n_20 : Int, (((AV.int .i64 (IntKind.wrap .i64 ((Nat.cast (Prod.fst x_12) : Int) + (1 : Int)))) = (AV.int .i64 n_20)) ∧
 ((True ∧
 ((0 : Nat) = (0 : Nat))) ∧
 (∃ y_21 : (Prod Nat (List Nat)), ((Lf (((Prod.fst y_21) ≤ (17 : Nat)) ∧
 (((List.length (Prod.snd y_21)) = (18 : Nat)) ∧
 (((valNM (Prod.snd y_21)) = (valNM (List.map unNM (cellsNM (Prod.snd x_11))))) ∧
 ((∀ j_22 : Nat, ((j_22 < (Prod.fst y_21)) →
((List.getD (Prod.snd y_21) j_22 (0 : Nat)) ≤ (255 : Nat)))) ∧
 ((∀ j_22 : Nat, (((Prod.fst y_21) < j_22) →
((List.getD (Prod.snd y_21) j_22 (0 : Nat)) ≤ (40000 : Nat)))) ∧
 ((List.getD (Prod.snd y_21) (Prod.fst y_21) (0 : Nat)) ≤ (41000 : Nat)))))))) ∧
 ((((17 : Nat) - (Prod.fst y_21)) < ((17 : Nat) - (Prod.fst x_12))) ∧
 (((setRange (setRange (cellsNM (Prod.snd x_12)) ((0 : Nat) + ((Int.toNat n_13) * (1 : Nat))) ((AV.int .i64 n_17) :: [])) ((0 : Nat) + ((Int.toNat (Nat.cast (Prod.fst x_12) : Int)) * (1 : Nat))) ((AV.int .i64 n_19) :: [])) = (cellsNM (Prod.snd y_21))) ∧
 (((AV.str t_5) = (AV.str t_5)) ∧
 (((AV.ptr (0 : Nat) (18 : Nat) (0 : Nat)) = (AV.ptr (0 : Nat) (18 : Nat) (0 : Nat))) ∧
 (((AV.int .i64 (Nat.cast (Prod.fst x_11) : Int)) = (AV.int .i64 (Nat.cast (Prod.fst x_11) : Int))) ∧
 (((AV.int .i64 n_20) = (AV.int .i64 (Nat.cast (Prod.fst y_21) : Int))) ∧
 True)))))))))))
else False)
else False)))))
else False)
else False)
else False)
else False)))))))
else False)
else False)))
else False)
else False)))
else (bif (Nat.beq (List.length (cellsNM (Prod.snd x_12))) (18 : Nat)) then (bif ((Nat.beq (List.length (cellsNM (Prod.snd x_12))) (18 : Nat)) && true) then (∃ n_13 : Int, (((List.getD (List.take (1 : Nat) (List.drop (16 : Nat) (cellsNM (Prod.snd x_12)))) (0 : Nat) AV.undef) = (AV.int .i64 n_13)) ∧
 (∃ n_14 : Int, (((AV.int .i64 (Int.fdiv n_13 (4 : Int))) = (AV.int .i64 n_14)) ∧
 (bif (Nat.beq (List.length (cellsNM (Prod.snd x_12))) (18 : Nat)) then (bif ((Nat.beq (List.length (cellsNM (Prod.snd x_12))) (18 : Nat)) && true) then (∃ n_15 : Int, (((List.getD (List.take (1 : Nat) (List.drop (17 : Nat) (cellsNM (Prod.snd x_12)))) (0 : Nat) AV.undef) = (AV.int .i64 n_15)) ∧
 (∃ n_16 : Int, (((AV.int .i64 (IntKind.wrap .i64 (n_15 * (64 : Int)))) = (AV.int .i64 n_16)) ∧
 (∃ n_17 : Int, (((AV.int .i64 (IntKind.wrap .i64 (n_14 + n_16))) = (AV.int .i64 n_17)) ∧
 (bif (Nat.beq (List.length (cellsNM (Prod.snd x_12))) (18 : Nat)) then (bif ((Nat.beq (List.length (cellsNM (Prod.snd x_12))) (18 : Nat)) && true) then (∃ n_18 : Int, (((List.getD (List.take (1 : Nat) (List.drop (16 : Nat) (cellsNM (Prod.snd x_12)))) (0 : Nat) AV.undef) = (AV.int .i64 n_18)) ∧
 (∃ n_19 : Int, (((AV.int .i64 (IntKind.wrap .i64 (Nat.cast ((Int.toNat (n_18 % (18446744073709551616 : Int))) &&& (3 : Nat)) : Int))) = (AV.int .i64 n_19)) ∧
 (bif (Nat.beq (List.length (cellsNM (Prod.snd x_12))) (18 : Nat)) then (bif (((((Nat.beq (List.length (cellsNM (Prod.snd x_12))) (18 : Nat)) && true) && true) && true) && true) then (bif (Nat.beq (List.length (setRange (cellsNM (Prod.snd x_12)) (16 : Nat) ((AV.int .i64 n_19) :: []))) (18 : Nat)) then (bif (((((Nat.beq (List.length (setRange (cellsNM (Prod.snd x_12)) (16 : Nat) ((AV.int .i64 n_19) :: []))) (18 : Nat)) && true) && true) && true) && true) then (bif (Nat.beq (List.length (setRange (setRange (cellsNM (Prod.snd x_12)) (16 : Nat) ((AV.int .i64 n_19) :: [])) (17 : Nat) ((AV.int .i64 (0 : Int)) :: []))) (18 : Nat)) then (bif ((Nat.beq (List.length (setRange (setRange (cellsNM (Prod.snd x_12)) (16 : Nat) ((AV.int .i64 n_19) :: [])) (17 : Nat) ((AV.int .i64 (0 : Int)) :: []))) (18 : Nat)) && true) then (∃ n_20 : Int, (((List.getD (List.take (1 : Nat) (List.drop (0 : Nat) (setRange (setRange (cellsNM (Prod.snd x_12)) (16 : Nat) ((AV.int .i64 n_19) :: [])) (17 : Nat) ((AV.int .i64 (0 : Int)) :: [])))) (0 : Nat) AV.undef) = (AV.int .i64 n_20)) ∧
 (∃ n_21 : Int, (((AV.int .i64 (IntKind.wrap .i64 ((5 : Int) * n_17))) = (AV.int .i64 n_21)) ∧
 (∃ n_22 : Int, (((AV.int .i64 (IntKind.wrap .i64 (n_20 + n_21))) = (AV.int .i64 n_22)) ∧
 (bif (Nat.beq (List.length (setRange (setRange (cellsNM (Prod.snd x_12)) (16 : Nat) ((AV.int .i64 n_19) :: [])) (17 : Nat) ((AV.int .i64 (0 : Int)) :: []))) (18 : Nat)) then (bif (((((Nat.beq (List.length (setRange (setRange (cellsNM (Prod.snd x_12)) (16 : Nat) ((AV.int .i64 n_19) :: [])) (17 : Nat) ((AV.int .i64 (0 : Int)) :: []))) (18 : Nat)) && true) && true) && true) && true) then (∃ n_23 : Int, (((AV.int .i64 (IntKind.wrap .i64 ((Nat.cast (Prod.fst x_11) : Int) + (1 : Int)))) = (AV.int .i64 n_23)) ∧
 ((True ∧
 ((0 : Nat) = (0 : Nat))) ∧
 (∃ y_24 : (Prod Nat (List Nat)), ((Lf (((Prod.fst y_24) ≤ (3 : Nat)) ∧
 (rdM (valNM (List.map unNM (setRange (cellsNM (Prod.snd x_9)) (16 : Nat) ((AV.int .i64 n_10) :: [])))) (Prod.fst y_24) (Prod.snd y_24)))) ∧
 ((((3 : Nat) - (Prod.fst y_24)) < ((3 : Nat) - (Prod.fst x_11))) ∧
 (((setRange (setRange (setRange (cellsNM (Prod.snd x_12)) (16 : Nat) ((AV.int .i64 n_19) :: [])) (17 : Nat) ((AV.int .i64 (0 : Int)) :: [])) (0 : Nat) ((AV.int .i64 n_22) :: [])) = (cellsNM (Prod.snd y_24))) ∧
 (((AV.str t_5) = (AV.str t_5)) ∧
 (((AV.ptr (0 : Nat) (18 : Nat) (0 : Nat)) = (AV.ptr (0 : Nat) (18 : Nat) (0 : Nat))) ∧
 (((AV.int .i64 n_23) = (AV.int .i64 (Nat.cast (Prod.fst y_24) : Int))) ∧
 True))))))))))
else False)
else False)))))))
else False)
else False)
else False)
else False)
else False)
else False)))))
else False)
else False)))))))
else False)
else False)))))
else False)
else False)))))
else (bif (Nat.beq (List.length (cellsNM (Prod.snd x_11))) (18 : Nat)) then (bif ((Nat.beq (List.length (cellsNM (Prod.snd x_11))) (18 : Nat)) && true) then (∃ n_12 : Int, (((List.getD (List.take (1 : Nat) (List.drop (16 : Nat) (cellsNM (Prod.snd x_11)))) (0 : Nat) AV.undef) = (AV.int .i64 n_12)) ∧
 (bif (n_12 == (3 : Int)) then (bif (Nat.beq (List.length (cellsNM (Prod.snd x_11))) (18 : Nat)) then (bif ((Nat.beq (List.length (cellsNM (Prod.snd x_11))) (18 : Nat)) && true) then (∃ n_13 : Int, (((List.getD (List.take (1 : Nat) (List.drop (0 : Nat) (cellsNM (Prod.snd x_11)))) (0 : Nat) AV.undef) = (AV.int .i64 n_13)) ∧
 (bif (decide (n_13 ≥ (251 : Int))) then ((∃ x_14 : Nat, ((Lf (((1 : Nat) ≤ x_14) ∧
 (x_14 ≤ (16 : Nat)))) ∧
 (((cellsNM (Prod.snd x_11)) = (cellsNM (Prod.snd x_11))) ∧
 (((AV.str t_5) = (AV.str t_5)) ∧
 (((AV.ptr (0 : Nat) (18 : Nat) (0 : Nat)) = (AV.ptr (0 : Nat) (18 : Nat) (0 : Nat))) ∧
 (((AV.bool true) = (AV.bool (fullM (List.map unNM (cellsNM (Prod.snd x_11))) x_14))) ∧
 (((AV.int .i64 (1 : Int)) = (AV.int .i64 (Nat.cast x_14 : Int))) ∧
 True))))))) ∧
 (∀ x_14 : Nat, ((Lf (((1 : Nat) ≤ x_14) ∧
 (x_14 ≤ (16 : Nat)))) →
(bif (decide ((Nat.cast x_14 : Int) < (16 : Int))) then (bif (fullM (List.map unNM (cellsNM (Prod.snd x_11))) x_14) then (bif ((Nat.blt (Int.toNat (Nat.cast x_14 : Int)) (18 : Nat)) && (Nat.beq (List.length (cellsNM (Prod.snd x_11))) (18 : Nat))) then (bif ((Nat.beq (List.length (cellsNM (Prod.snd x_11))) (18 : Nat)) && (Nat.blt ((0 : Nat) + ((Int.toNat (Nat.cast x_14 : Int)) * (1 : Nat))) (18 : Nat))) then (∃ n_15 : Int, (((List.getD (List.take (1 : Nat) (List.drop ((0 : Nat) + ((Int.toNat (Nat.cast x_14 : Int)) * (1 : Nat))) (cellsNM (Prod.snd x_11)))) (0 : Nat) AV.undef) = (AV.int .i64 n_15)) ∧
 (bif (n_15 == (255 : Int)) then (∃ n_16 : Int, (((AV.int .i64 (IntKind.wrap .i64 ((Nat.cast x_14 : Int) + (1 : Int)))) = (AV.int .i64 n_16)) ∧
 ((True ∧
 ((0 : Nat) = (0 : Nat))) ∧
 (∃ y_17 : Nat, ((Lf (((1 : Nat) ≤ y_17) ∧
 (y_17 ≤ (16 : Nat)))) ∧
 ((((16 : Nat) - y_17) < ((16 : Nat) - x_14)) ∧
 (((cellsNM (Prod.snd x_11)) = (cellsNM (Prod.snd x_11))) ∧
 (((AV.str t_5) = (AV.str t_5)) ∧
 (((AV.ptr (0 : Nat) (18 : Nat) (0 : Nat)) = (AV.ptr (0 : Nat) (18 : Nat) (0 : Nat))) ∧
 (((AV.bool true) = (AV.bool (fullM (List.map unNM (cellsNM (Prod.snd x_11))) y_17))) ∧
 (((AV.int .i64 n_16) = (AV.int .i64 (Nat.cast y_17 : Int))) ∧
 True)))))))))))
else (∃ n_16 : Int, (((AV.int .i64 (IntKind.wrap .i64 ((Nat.cast x_14 : Int) + (1 : Int)))) = (AV.int .i64 n_16)) ∧
 ((True ∧
 ((0 : Nat) = (0 : Nat))) ∧
 (∃ y_17 : Nat, ((Lf (((1 : Nat) ≤ y_17) ∧
 (y_17 ≤ (16 : Nat)))) ∧
 ((((16 : Nat) - y_17) < ((16 : Nat) - x_14)) ∧
 (((cellsNM (Prod.snd x_11)) = (cellsNM (Prod.snd x_11))) ∧
 (((AV.str t_5) = (AV.str t_5)) ∧
 (((AV.ptr (0 : Nat) (18 : Nat) (0 : Nat)) = (AV.ptr (0 : Nat) (18 : Nat) (0 : Nat))) ∧
 (((AV.bool false) = (AV.bool (fullM (List.map unNM (cellsNM (Prod.snd x_11))) y_17))) ∧
 (((AV.int .i64 n_16) = (AV.int .i64 (Nat.cast y_17 : Int))) ∧
 True))))))))))))))
else False)
else False)
else (∃ n_15 : Int, (((AV.int .i64 (IntKind.wrap .i64 ((Nat.cast x_14 : Int) + (1 : Int)))) = (AV.int .i64 n_15)) ∧
 ((True ∧
 ((0 : Nat) = (0 : Nat))) ∧
 (∃ y_16 : Nat, ((Lf (((1 : Nat) ≤ y_16) ∧
 (y_16 ≤ (16 : Nat)))) ∧
 ((((16 : Nat) - y_16) < ((16 : Nat) - x_14)) ∧
 (((cellsNM (Prod.snd x_11)) = (cellsNM (Prod.snd x_11))) ∧
 (((AV.str t_5) = (AV.str t_5)) ∧
 (((AV.ptr (0 : Nat) (18 : Nat) (0 : Nat)) = (AV.ptr (0 : Nat) (18 : Nat) (0 : Nat))) ∧
 (((AV.bool false) = (AV.bool (fullM (List.map unNM (cellsNM (Prod.snd x_11))) y_16))) ∧
 (((AV.int .i64 n_15) = (AV.int .i64 (Nat.cast y_16 : Int))) ∧
 True))))))))))))
else (bif (fullM (List.map unNM (cellsNM (Prod.snd x_11))) x_14) then (bif (Nat.beq (List.length (cellsNM (Prod.snd x_11))) (18 : Nat)) then (bif ((Nat.beq (List.length (cellsNM (Prod.snd x_11))) (18 : Nat)) && true) then (∃ n_15 : Int, (((List.getD (List.take (1 : Nat) (List.drop (0 : Nat) (cellsNM (Prod.snd x_11)))) (0 : Nat) AV.undef) = (AV.int .i64 n_15)) ∧
 (∃ n_16 : Int, (((AV.int .i64 (IntKind.wrap .i64 (n_15 - (251 : Int)))) = (AV.int .i64 n_16)) ∧
 (bif (((((Nat.beq (List.length (cellsNM (Prod.snd x_11))) (18 : Nat)) && true) && true) && true) && true) then ((∃ x_17 : Nat, ((Lf (x_17 ≤ (16 : Nat))) ∧
 (((setRange (cellsNM (Prod.snd x_11)) (0 : Nat) ((AV.int .i64 n_16) :: ((AV.int .i64 (0 : Int)) :: ((AV.int .i64 (0 : Int)) :: ((AV.int .i64 (0 : Int)) :: ((AV.int .i64 (0 : Int)) :: ((AV.int .i64 (0 : Int)) :: ((AV.int .i64 (0 : Int)) :: ((AV.int .i64 (0 : Int)) :: ((AV.int .i64 (0 : Int)) :: ((AV.int .i64 (0 : Int)) :: ((AV.int .i64 (0 : Int)) :: ((AV.int .i64 (0 : Int)) :: ((AV.int .i64 (0 : Int)) :: ((AV.int .i64 (0 : Int)) :: ((AV.int .i64 (0 : Int)) :: ((AV.int .i64 (0 : Int)) :: ((AV.int .i64 (0 : Int)) :: ((AV.int .i64 (0 : Int)) :: []))))))))))))))))))) = (setRange (cellsNM (Prod.snd x_11)) (0 : Nat) ((AV.int .i64 n_16) :: ((AV.int .i64 (0 : Int)) :: ((AV.int .i64 (0 : Int)) :: ((AV.int .i64 (0 : Int)) :: ((AV.int .i64 (0 : Int)) :: ((AV.int .i64 (0 : Int)) :: ((AV.int .i64 (0 : Int)) :: ((AV.int .i64 (0 : Int)) :: ((AV.int .i64 (0 : Int)) :: ((AV.int .i64 (0 : Int)) :: ((AV.int .i64 (0 : Int)) :: ((AV.int .i64 (0 : Int)) :: ((AV.int .i64 (0 : Int)) :: ((AV.int .i64 (0 : Int)) :: ((AV.int .i64 (0 : Int)) :: ((AV.int .i64 (0 : Int)) :: ((AV.int .i64 (0 : Int)) :: ((AV.int .i64 (0 : Int)) :: [])))))))))))))))))))) ∧
 (((AV.str t_5) = (AV.str t_5)) ∧
 (((AV.ptr (0 : Nat) (18 : Nat) (0 : Nat)) = (AV.ptr (0 : Nat) (18 : Nat) (0 : Nat))) ∧
 (((AV.int .i64 (0 : Int)) = (AV.int .i64 (Nat.cast x_17 : Int))) ∧
 True)))))) ∧
 (∀ x_17 : Nat, ((Lf (x_17 ≤ (16 : Nat))) →
(bif (decide ((Nat.cast x_17 : Int) < (16 : Int))) then (bif ((Nat.blt (Int.toNat (Nat.cast x_17 : Int)) (18 : Nat)) && (Nat.beq (List.length (setRange (cellsNM (Prod.snd x_11)) (0 : Nat) ((AV.int .i64 n_16) :: ((AV.int .i64 (0 : Int)) :: ((AV.int .i64 (0 : Int)) :: ((AV.int .i64 (0 : Int)) :: ((AV.int .i64 (0 : Int)) :: ((AV.int .i64 (0 : Int)) :: ((AV.int .i64 (0 : Int)) :: ((AV.int .i64 (0 : Int)) :: ((AV.int .i64 (0 : Int)) :: ((AV.int .i64 (0 : Int)) :: ((AV.int .i64 (0 : Int)) :: ((AV.int .i64 (0 : Int)) :: ((AV.int .i64 (0 : Int)) :: ((AV.int .i64 (0 : Int)) :: ((AV.int .i64 (0 : Int)) :: ((AV.int .i64 (0 : Int)) :: ((AV.int .i64 (0 : Int)) :: ((AV.int .i64 (0 : Int)) :: [])))))))))))))))))))) (18 : Nat))) then (bif ((Nat.beq (List.length (setRange (cellsNM (Prod.snd x_11)) (0 : Nat) ((AV.int .i64 n_16) :: ((AV.int .i64 (0 : Int)) :: ((AV.int .i64 (0 : Int)) :: ((AV.int .i64 (0 : Int)) :: ((AV.int .i64 (0 : Int)) :: ((AV.int .i64 (0 : Int)) :: ((AV.int .i64 (0 : Int)) :: ((AV.int .i64 (0 : Int)) :: ((AV.int .i64 (0 : Int)) :: ((AV.int .i64 (0 : Int)) :: ((AV.int .i64 (0 : Int)) :: ((AV.int .i64 (0 : Int)) :: ((AV.int .i64 (0 : Int)) :: ((AV.int .i64 (0 : Int)) :: ((AV.int .i64 (0 : Int)) :: ((AV.int .i64 (0 : Int)) :: ((AV.int .i64 (0 : Int)) :: ((AV.int .i64 (0 : Int)) :: [])))))))))))))))))))) (18 : Nat)) && (Nat.blt ((0 : Nat) + ((Int.toNat (Nat.cast x_17 : Int)) * (1 : Nat))) (18 : Nat))) then (∃ n_18 : Int, (((List.getD (List.take (1 : Nat) (List.drop ((0 : Nat) + ((Int.toNat (Nat.cast x_17 : Int)) * (1 : Nat))) (setRange (cellsNM (Prod.snd x_11)) (0 : Nat) ((AV.int .i64 n_16) :: ((AV.int .i64 (0 : Int)) :: ((AV.int .i64 (0 : Int)) :: ((AV.int .i64 (0 : Int)) :: ((AV.int .i64 (0 : Int)) :: ((AV.int .i64 (0 : Int)) :: ((AV.int .i64 (0 : Int)) :: ((AV.int .i64 (0 : Int)) :: ((AV.int .i64 (0 : Int)) :: ((AV.int .i64 (0 : Int)) :: ((AV.int .i64 (0 : Int)) :: ((AV.int .i64 (0 : Int)) :: ((AV.int .i64 (0 : Int)) :: ((AV.int .i64 (0 : Int)) :: ((AV.int .i64 (0 : Int)) :: ((AV.int .i64 (0 : Int)) :: ((AV.int .i64 (0 : Int)) :: ((AV.int .i64 (0 : Int)) :: []))))))))))))))))))))) (0 : Nat) AV.undef) = (AV.int .i64 n_18)) ∧
 (∃ n_19 : Int, (((AV.int .u8 (IntKind.wrap .u8 n_18)) = (AV.int .u8 n_19)) ∧
 (bif (Nat.blt (Int.toNat (Nat.cast x_17 : Int)) (List.length t_5)) then (∃ n_20 : Int, (((AV.int .u8 (Nat.cast (UInt8.toNat (List.getD t_5 (Int.toNat (Nat.cast x_17 : Int)) (UInt8.ofNat (0 : Nat)))) : Int)) = (AV.int .u8 n_20)) ∧
 (bif (n_19 != n_20) then (Q (Out.ret (AV.bool false)) [] (Gh.mk (0 : Nat) (0 : Nat) []))
else (∃ n_21 : Int, (((AV.int .i64 (IntKind.wrap .i64 ((Nat.cast x_17 : Int) + (1 : Int)))) = (AV.int .i64 n_21)) ∧
 ((True ∧
 ((0 : Nat) = (0 : Nat))) ∧
 (∃ y_22 : Nat, ((Lf (y_22 ≤ (16 : Nat))) ∧
 ((((16 : Nat) - y_22) < ((16 : Nat) - x_17)) ∧
 (((setRange (cellsNM (Prod.snd x_11)) (0 : Nat) ((AV.int .i64 n_16) :: ((AV.int .i64 (0 : Int)) :: ((AV.int .i64 (0 : Int)) :: ((AV.int .i64 (0 : Int)) :: ((AV.int .i64 (0 : Int)) :: ((AV.int .i64 (0 : Int)) :: ((AV.int .i64 (0 : Int)) :: ((AV.int .i64 (0 : Int)) :: ((AV.int .i64 (0 : Int)) :: ((AV.int .i64 (0 : Int)) :: ((AV.int .i64 (0 : Int)) :: ((AV.int .i64 (0 : Int)) :: ((AV.int .i64 (0 : Int)) :: ((AV.int .i64 (0 : Int)) :: ((AV.int .i64 (0 : Int)) :: ((AV.int .i64 (0 : Int)) :: ((AV.int .i64 (0 : Int)) :: ((AV.int .i64 (0 : Int)) :: []))))))))))))))))))) = (setRange (cellsNM (Prod.snd x_11)) (0 : Nat) ((AV.int .i64 n_16) :: ((AV.int .i64 (0 : Int)) :: ((AV.int .i64 (0 : Int)) :: ((AV.int .i64 (0 : Int)) :: ((AV.int .i64 (0 : Int)) :: ((AV.int .i64 (0 : Int)) :: ((AV.int .i64 (0 : Int)) :: ((AV.int .i64 (0 : Int)) :: ((AV.int .i64 (0 : Int)) :: ((AV.int .i64 (0 : Int)) :: ((AV.int .i64 (0 : Int)) :: ((AV.int .i64 (0 : Int)) :: ((AV.int .i64 (0 : Int)) :: ((AV.int .i64 (0 : Int)) :: ((AV.int .i64 (0 : Int)) :: ((AV.int .i64 (0 : Int)) :: ((AV.int .i64 (0 : Int)) :: ((AV.int .i64 (0 : Int)) :: [])))))))))))))))))))) ∧
 (((AV.str t_5) = (AV.str t_5)) ∧
 (((AV.ptr (0 : Nat) (18 : Nat) (0 : Nat)) = (AV.ptr (0 : Nat) (18 : Nat) (0 : Nat))) ∧
 (((AV.int .i64 n_21) = (AV.int .i64 (Nat.cast y_22 : Int))) ∧
 True)))))))))))))
else False)))))
else False)
else False)
else (Q (Out.ret (AV.bool true)) [] (Gh.mk (0 : Nat) (0 : Nat) []))))))
else False)))))
else False)
else False)
else ((∃ x_15 : Nat, ((Lf (x_15 ≤ (16 : Nat))) ∧
 (((cellsNM (Prod.snd x_11)) = (cellsNM (Prod.snd x_11))) ∧
 (((AV.str t_5) = (AV.str t_5)) ∧
 (((AV.ptr (0 : Nat) (18 : Nat) (0 : Nat)) = (AV.ptr (0 : Nat) (18 : Nat) (0 : Nat))) ∧
 (((AV.int .i64 (0 : Int)) = (AV.int .i64 (Nat.cast x_15 : Int))) ∧
 True)))))) ∧
 (∀ x_15 : Nat, ((Lf (x_15 ≤ (16 : Nat))) →
(bif (decide ((Nat.cast x_15 : Int) < (16 : Int))) then (bif ((Nat.blt (Int.toNat (Nat.cast x_15 : Int)) (18 : Nat)) && (Nat.beq (List.length (cellsNM (Prod.snd x_11))) (18 : Nat))) then (bif ((Nat.beq (List.length (cellsNM (Prod.snd x_11))) (18 : Nat)) && (Nat.blt ((0 : Nat) + ((Int.toNat (Nat.cast x_15 : Int)) * (1 : Nat))) (18 : Nat))) then (∃ n_16 : Int, (((List.getD (List.take (1 : Nat) (List.drop ((0 : Nat) + ((Int.toNat (Nat.cast x_15 : Int)) * (1 : Nat))) (cellsNM (Prod.snd x_11)))) (0 : Nat) AV.undef) = (AV.int .i64 n_16)) ∧
 (∃ n_17 : Int, (((AV.int .u8 (IntKind.wrap .u8 n_16)) = (AV.int .u8 n_17)) ∧
 (bif (Nat.blt (Int.toNat (Nat.cast x_15 : Int)) (List.length t_5)) then (∃ n_18 : Int, (((AV.int .u8 (Nat.cast (UInt8.toNat (List.getD t_5 (Int.toNat (Nat.cast x_15 : Int)) (UInt8.ofNat (0 : Nat)))) : Int)) = (AV.int .u8 n_18)) ∧
 (bif (n_17 != n_18) then (Q (Out.ret (AV.bool false)) [] (Gh.mk (0 : Nat) (0 : Nat) []))
else (∃ n_19 : Int, (((AV.int .i64 (IntKind.wrap .i64 ((Nat.cast x_15 : Int) + (1 : Int)))) = (AV.int .i64 n_19)) ∧
 ((True ∧
 ((0 : Nat) = (0 : Nat))) ∧
 (∃ y_20 : Nat, ((Lf (y_20 ≤ (16 : Nat))) ∧
 ((((16 : Nat) - y_20) < ((16 : Nat) - x_15)) ∧
 (((cellsNM (Prod.snd x_11)) = (cellsNM (Prod.snd x_11))) ∧
 (((AV.str t_5) = (AV.str t_5)) ∧
 (((AV.ptr (0 : Nat) (18 : Nat) (0 : Nat)) = (AV.ptr (0 : Nat) (18 : Nat) (0 : Nat))) ∧
 (((AV.int .i64 n_19) = (AV.int .i64 (Nat.cast y_20 : Int))) ∧
 True)))))))))))))
else False)))))
else False)
else False)
else (Q (Out.ret (AV.bool true)) [] (Gh.mk (0 : Nat) (0 : Nat) [])))))))))))
else ((∃ x_14 : Nat, ((Lf (((1 : Nat) ≤ x_14) ∧
 (x_14 ≤ (16 : Nat)))) ∧
 (((cellsNM (Prod.snd x_11)) = (cellsNM (Prod.snd x_11))) ∧
 (((AV.str t_5) = (AV.str t_5)) ∧
 (((AV.ptr (0 : Nat) (18 : Nat) (0 : Nat)) = (AV.ptr (0 : Nat) (18 : Nat) (0 : Nat))) ∧
 (((AV.bool false) = (AV.bool (fullM (List.map unNM (cellsNM (Prod.snd x_11))) x_14))) ∧
 (((AV.int .i64 (1 : Int)) = (AV.int .i64 (Nat.cast x_14 : Int))) ∧
 True))))))) ∧
 (∀ x_14 : Nat, ((Lf (((1 : Nat) ≤ x_14) ∧
 (x_14 ≤ (16 : Nat)))) →
(bif (decide ((Nat.cast x_14 : Int) < (16 : Int))) then (bif (fullM (List.map unNM (cellsNM (Prod.snd x_11))) x_14) then (bif ((Nat.blt (Int.toNat (Nat.cast x_14 : Int)) (18 : Nat)) && (Nat.beq (List.length (cellsNM (Prod.snd x_11))) (18 : Nat))) then (bif ((Nat.beq (List.length (cellsNM (Prod.snd x_11))) (18 : Nat)) && (Nat.blt ((0 : Nat) + ((Int.toNat (Nat.cast x_14 : Int)) * (1 : Nat))) (18 : Nat))) then (∃ n_15 : Int, (((List.getD (List.take (1 : Nat) (List.drop ((0 : Nat) + ((Int.toNat (Nat.cast x_14 : Int)) * (1 : Nat))) (cellsNM (Prod.snd x_11)))) (0 : Nat) AV.undef) = (AV.int .i64 n_15)) ∧
 (bif (n_15 == (255 : Int)) then (∃ n_16 : Int, (((AV.int .i64 (IntKind.wrap .i64 ((Nat.cast x_14 : Int) + (1 : Int)))) = (AV.int .i64 n_16)) ∧
 ((True ∧
 ((0 : Nat) = (0 : Nat))) ∧
 (∃ y_17 : Nat, ((Lf (((1 : Nat) ≤ y_17) ∧
 (y_17 ≤ (16 : Nat)))) ∧
 ((((16 : Nat) - y_17) < ((16 : Nat) - x_14)) ∧
 (((cellsNM (Prod.snd x_11)) = (cellsNM (Prod.snd x_11))) ∧
 (((AV.str t_5) = (AV.str t_5)) ∧
 (((AV.ptr (0 : Nat) (18 : Nat) (0 : Nat)) = (AV.ptr (0 : Nat) (18 : Nat) (0 : Nat))) ∧
 (((AV.bool true) = (AV.bool (fullM (List.map unNM (cellsNM (Prod.snd x_11))) y_17))) ∧
 (((AV.int .i64 n_16) = (AV.int .i64 (Nat.cast y_17 : Int))) ∧
 True)))))))))))
else (∃ n_16 : Int, (((AV.int .i64 (IntKind.wrap .i64 ((Nat.cast x_14 : Int) + (1 : Int)))) = (AV.int .i64 n_16)) ∧
 ((True ∧
 ((0 : Nat) = (0 : Nat))) ∧
 (∃ y_17 : Nat, ((Lf (((1 : Nat) ≤ y_17) ∧
 (y_17 ≤ (16 : Nat)))) ∧
 ((((16 : Nat) - y_17) < ((16 : Nat) - x_14)) ∧
 (((cellsNM (Prod.snd x_11)) = (cellsNM (Prod.snd x_11))) ∧
 (((AV.str t_5) = (AV.str t_5)) ∧
 (((AV.ptr (0 : Nat) (18 : Nat) (0 : Nat)) = (AV.ptr (0 : Nat) (18 : Nat) (0 : Nat))) ∧
 (((AV.bool false) = (AV.bool (fullM (List.map unNM (cellsNM (Prod.snd x_11))) y_17))) ∧
 (((AV.int .i64 n_16) = (AV.int .i64 (Nat.cast y_17 : Int))) ∧
 True))))))))))))))
else False)
else False)
else (∃ n_15 : Int, (((AV.int .i64 (IntKind.wrap .i64 ((Nat.cast x_14 : Int) + (1 : Int)))) = (AV.int .i64 n_15)) ∧
 ((True ∧
 ((0 : Nat) = (0 : Nat))) ∧
 (∃ y_16 : Nat, ((Lf (((1 : Nat) ≤ y_16) ∧
 (y_16 ≤ (16 : Nat)))) ∧
 ((((16 : Nat) - y_16) < ((16 : Nat) - x_14)) ∧
 (((cellsNM (Prod.snd x_11)) = (cellsNM (Prod.snd x_11))) ∧
 (((AV.str t_5) = (AV.str t_5)) ∧
 (((AV.ptr (0 : Nat) (18 : Nat) (0 : Nat)) = (AV.ptr (0 : Nat) (18 : Nat) (0 : Nat))) ∧
 (((AV.bool false) = (AV.bool (fullM (List.map unNM (cellsNM (Prod.snd x_11))) y_16))) ∧
 (((AV.int .i64 n_15) = (AV.int .i64 (Nat.cast y_16 : Int))) ∧
 True))))))))))))
else (bif (fullM (List.map unNM (cellsNM (Prod.snd x_11))) x_14) then (bif (Nat.beq (List.length (cellsNM (Prod.snd x_11))) (18 : Nat)) then (bif ((Nat.beq (List.length (cellsNM (Prod.snd x_11))) (18 : Nat)) && true) then (∃ n_15 : Int, (((List.getD (List.take (1 : Nat) (List.drop (0 : Nat) (cellsNM (Prod.snd x_11)))) (0 : Nat) AV.undef) = (AV.int .i64 n_15)) ∧
 (∃ n_16 : Int, (((AV.int .i64 (IntKind.wrap .i64 (n_15 - (251 : Int)))) = (AV.int .i64 n_16)) ∧
 (bif (((((Nat.beq (List.length (cellsNM (Prod.snd x_11))) (18 : Nat)) && true) && true) && true) && true) then ((∃ x_17 : Nat, ((Lf (x_17 ≤ (16 : Nat))) ∧
 (((setRange (cellsNM (Prod.snd x_11)) (0 : Nat) ((AV.int .i64 n_16) :: ((AV.int .i64 (0 : Int)) :: ((AV.int .i64 (0 : Int)) :: ((AV.int .i64 (0 : Int)) :: ((AV.int .i64 (0 : Int)) :: ((AV.int .i64 (0 : Int)) :: ((AV.int .i64 (0 : Int)) :: ((AV.int .i64 (0 : Int)) :: ((AV.int .i64 (0 : Int)) :: ((AV.int .i64 (0 : Int)) :: ((AV.int .i64 (0 : Int)) :: ((AV.int .i64 (0 : Int)) :: ((AV.int .i64 (0 : Int)) :: ((AV.int .i64 (0 : Int)) :: ((AV.int .i64 (0 : Int)) :: ((AV.int .i64 (0 : Int)) :: ((AV.int .i64 (0 : Int)) :: ((AV.int .i64 (0 : Int)) :: []))))))))))))))))))) = (setRange (cellsNM (Prod.snd x_11)) (0 : Nat) ((AV.int .i64 n_16) :: ((AV.int .i64 (0 : Int)) :: ((AV.int .i64 (0 : Int)) :: ((AV.int .i64 (0 : Int)) :: ((AV.int .i64 (0 : Int)) :: ((AV.int .i64 (0 : Int)) :: ((AV.int .i64 (0 : Int)) :: ((AV.int .i64 (0 : Int)) :: ((AV.int .i64 (0 : Int)) :: ((AV.int .i64 (0 : Int)) :: ((AV.int .i64 (0 : Int)) :: ((AV.int .i64 (0 : Int)) :: ((AV.int .i64 (0 : Int)) :: ((AV.int .i64 (0 : Int)) :: ((AV.int .i64 (0 : Int)) :: ((AV.int .i64 (0 : Int)) :: ((AV.int .i64 (0 : Int)) :: ((AV.int .i64 (0 : Int)) :: [])))))))))))))))))))) ∧
 (((AV.str t_5) = (AV.str t_5)) ∧
 (((AV.ptr (0 : Nat) (18 : Nat) (0 : Nat)) = (AV.ptr (0 : Nat) (18 : Nat) (0 : Nat))) ∧
 (((AV.int .i64 (0 : Int)) = (AV.int .i64 (Nat.cast x_17 : Int))) ∧
 True)))))) ∧
 (∀ x_17 : Nat, ((Lf (x_17 ≤ (16 : Nat))) →
(bif (decide ((Nat.cast x_17 : Int) < (16 : Int))) then (bif ((Nat.blt (Int.toNat (Nat.cast x_17 : Int)) (18 : Nat)) && (Nat.beq (List.length (setRange (cellsNM (Prod.snd x_11)) (0 : Nat) ((AV.int .i64 n_16) :: ((AV.int .i64 (0 : Int)) :: ((AV.int .i64 (0 : Int)) :: ((AV.int .i64 (0 : Int)) :: ((AV.int .i64 (0 : Int)) :: ((AV.int .i64 (0 : Int)) :: ((AV.int .i64 (0 : Int)) :: ((AV.int .i64 (0 : Int)) :: ((AV.int .i64 (0 : Int)) :: ((AV.int .i64 (0 : Int)) :: ((AV.int .i64 (0 : Int)) :: ((AV.int .i64 (0 : Int)) :: ((AV.int .i64 (0 : Int)) :: ((AV.int .i64 (0 : Int)) :: ((AV.int .i64 (0 : Int)) :: ((AV.int .i64 (0 : Int)) :: ((AV.int .i64 (0 : Int)) :: ((AV.int .i64 (0 : Int)) :: [])))))))))))))))))))) (18 : Nat))) then (bif ((Nat.beq (List.length (setRange (cellsNM (Prod.snd x_11)) (0 : Nat) ((AV.int .i64 n_16) :: ((AV.int .i64 (0 : Int)) :: ((AV.int .i64 (0 : Int)) :: ((AV.int .i64 (0 : Int)) :: ((AV.int .i64 (0 : Int)) :: ((AV.int .i64 (0 : Int)) :: ((AV.int .i64 (0 : Int)) :: ((AV.int .i64 (0 : Int)) :: ((AV.int .i64 (0 : Int)) :: ((AV.int .i64 (0 : Int)) :: ((AV.int .i64 (0 : Int)) :: ((AV.int .i64 (0 : Int)) :: ((AV.int .i64 (0 : Int)) :: ((AV.int .i64 (0 : Int)) :: ((AV.int .i64 (0 : Int)) :: ((AV.int .i64 (0 : Int)) :: ((AV.int .i64 (0 : Int)) :: ((AV.int .i64 (0 : Int)) :: [])))))))))))))))))))) (18 : Nat)) && (Nat.blt ((0 : Nat) + ((Int.toNat (Nat.cast x_17 : Int)) * (1 : Nat))) (18 : Nat))) then (∃ n_18 : Int, (((List.getD (List.take (1 : Nat) (List.drop ((0 : Nat) + ((Int.toNat (Nat.cast x_17 : Int)) * (1 : Nat))) (setRange (cellsNM (Prod.snd x_11)) (0 : Nat) ((AV.int .i64 n_16) :: ((AV.int .i64 (0 : Int)) :: ((AV.int .i64 (0 : Int)) :: ((AV.int .i64 (0 : Int)) :: ((AV.int .i64 (0 : Int)) :: ((AV.int .i64 (0 : Int)) :: ((AV.int .i64 (0 : Int)) :: ((AV.int .i64 (0 : Int)) :: ((AV.int .i64 (0 : Int)) :: ((AV.int .i64 (0 : Int)) :: ((AV.int .i64 (0 : Int)) :: ((AV.int .i64 (0 : Int)) :: ((AV.int .i64 (0 : Int)) :: ((AV.int .i64 (0 : Int)) :: ((AV.int .i64 (0 : Int)) :: ((AV.int .i64 (0 : Int)) :: ((AV.int .i64 (0 : Int)) :: ((AV.int .i64 (0 : Int)) :: []))))))))))))))))))))) (0 : Nat) AV.undef) = (AV.int .i64 n_18)) ∧
 (∃ n_19 : Int, (((AV.int .u8 (IntKind.wrap .u8 n_18)) = (AV.int .u8 n_19)) ∧
 (bif (Nat.blt (Int.toNat (Nat.cast x_17 : Int)) (List.length t_5)) then (∃ n_20 : Int, (((AV.int .u8 (Nat.cast (UInt8.toNat (List.getD t_5 (Int.toNat (Nat.cast x_17 : Int)) (UInt8.ofNat (0 : Nat)))) : Int)) = (AV.int .u8 n_20)) ∧
 (bif (n_19 != n_20) then (Q (Out.ret (AV.bool false)) [] (Gh.mk (0 : Nat) (0 : Nat) []))
else (∃ n_21 : Int, (((AV.int .i64 (IntKind.wrap .i64 ((Nat.cast x_17 : Int) + (1 : Int)))) = (AV.int .i64 n_21)) ∧
 ((True ∧
 ((0 : Nat) = (0 : Nat))) ∧
 (∃ y_22 : Nat, ((Lf (y_22 ≤ (16 : Nat))) ∧
 ((((16 : Nat) - y_22) < ((16 : Nat) - x_17)) ∧
 (((setRange (cellsNM (Prod.snd x_11)) (0 : Nat) ((AV.int .i64 n_16) :: ((AV.int .i64 (0 : Int)) :: ((AV.int .i64 (0 : Int)) :: ((AV.int .i64 (0 : Int)) :: ((AV.int .i64 (0 : Int)) :: ((AV.int .i64 (0 : Int)) :: ((AV.int .i64 (0 : Int)) :: ((AV.int .i64 (0 : Int)) :: ((AV.int .i64 (0 : Int)) :: ((AV.int .i64 (0 : Int)) :: ((AV.int .i64 (0 : Int)) :: ((AV.int .i64 (0 : Int)) :: ((AV.int .i64 (0 : Int)) :: ((AV.int .i64 (0 : Int)) :: ((AV.int .i64 (0 : Int)) :: ((AV.int .i64 (0 : Int)) :: ((AV.int .i64 (0 : Int)) :: ((AV.int .i64 (0 : Int)) :: []))))))))))))))))))) = (setRange (cellsNM (Prod.snd x_11)) (0 : Nat) ((AV.int .i64 n_16) :: ((AV.int .i64 (0 : Int)) :: ((AV.int .i64 (0 : Int)) :: ((AV.int .i64 (0 : Int)) :: ((AV.int .i64 (0 : Int)) :: ((AV.int .i64 (0 : Int)) :: ((AV.int .i64 (0 : Int)) :: ((AV.int .i64 (0 : Int)) :: ((AV.int .i64 (0 : Int)) :: ((AV.int .i64 (0 : Int)) :: ((AV.int .i64 (0 : Int)) :: ((AV.int .i64 (0 : Int)) :: ((AV.int .i64 (0 : Int)) :: ((AV.int .i64 (0 : Int)) :: ((AV.int .i64 (0 : Int)) :: ((AV.int .i64 (0 : Int)) :: ((AV.int .i64 (0 : Int)) :: ((AV.int .i64 (0 : Int)) :: [])))))))))))))))))))) ∧
 (((AV.str t_5) = (AV.str t_5)) ∧
 (((AV.ptr (0 : Nat) (18 : Nat) (0 : Nat)) = (AV.ptr (0 : Nat) (18 : Nat) (0 : Nat))) ∧
 (((AV.int .i64 n_21) = (AV.int .i64 (Nat.cast y_22 : Int))) ∧
 True)))))))))))))
else False)))))
else False)
else False)
else (Q (Out.ret (AV.bool true)) [] (Gh.mk (0 : Nat) (0 : Nat) []))))))
else False)))))
else False)
else False)
else ((∃ x_15 : Nat, ((Lf (x_15 ≤ (16 : Nat))) ∧
 (((cellsNM (Prod.snd x_11)) = (cellsNM (Prod.snd x_11))) ∧
 (((AV.str t_5) = (AV.str t_5)) ∧
 (((AV.ptr (0 : Nat) (18 : Nat) (0 : Nat)) = (AV.ptr (0 : Nat) (18 : Nat) (0 : Nat))) ∧
 (((AV.int .i64 (0 : Int)) = (AV.int .i64 (Nat.cast x_15 : Int))) ∧
 True)))))) ∧
 (∀ x_15 : Nat, ((Lf (x_15 ≤ (16 : Nat))) →
(bif (decide ((Nat.cast x_15 : Int) < (16 : Int))) then (bif ((Nat.blt (Int.toNat (Nat.cast x_15 : Int)) (18 : Nat)) && (Nat.beq (List.length (cellsNM (Prod.snd x_11))) (18 : Nat))) then (bif ((Nat.beq (List.length (cellsNM (Prod.snd x_11))) (18 : Nat)) && (Nat.blt ((0 : Nat) + ((Int.toNat (Nat.cast x_15 : Int)) * (1 : Nat))) (18 : Nat))) then (∃ n_16 : Int, (((List.getD (List.take (1 : Nat) (List.drop ((0 : Nat) + ((Int.toNat (Nat.cast x_15 : Int)) * (1 : Nat))) (cellsNM (Prod.snd x_11)))) (0 : Nat) AV.undef) = (AV.int .i64 n_16)) ∧
 (∃ n_17 : Int, (((AV.int .u8 (IntKind.wrap .u8 n_16)) = (AV.int .u8 n_17)) ∧
 (bif (Nat.blt (Int.toNat (Nat.cast x_15 : Int)) (List.length t_5)) then (∃ n_18 : Int, (((AV.int .u8 (Nat.cast (UInt8.toNat (List.getD t_5 (Int.toNat (Nat.cast x_15 : Int)) (UInt8.ofNat (0 : Nat)))) : Int)) = (AV.int .u8 n_18)) ∧
 (bif (n_17 != n_18) then (Q (Out.ret (AV.bool false)) [] (Gh.mk (0 : Nat) (0 : Nat) []))
else (∃ n_19 : Int, (((AV.int .i64 (IntKind.wrap .i64 ((Nat.cast x_15 : Int) + (1 : Int)))) = (AV.int .i64 n_19)) ∧
 ((True ∧
 ((0 : Nat) = (0 : Nat))) ∧
 (∃ y_20 : Nat, ((Lf (y_20 ≤ (16 : Nat))) ∧
 ((((16 : Nat) - y_20) < ((16 : Nat) - x_15)) ∧
 (((cellsNM (Prod.snd x_11)) = (cellsNM (Prod.snd x_11))) ∧
 (((AV.str t_5) = (AV.str t_5)) ∧
 (((AV.ptr (0 : Nat) (18 : Nat) (0 : Nat)) = (AV.ptr (0 : Nat) (18 : Nat) (0 : Nat))) ∧
 (((AV.int .i64 n_19) = (AV.int .i64 (Nat.cast y_20 : Int))) ∧
 True)))))))))))))
else False)))))
else False)
else False)
else (Q (Out.ret (AV.bool true)) [] (Gh.mk (0 : Nat) (0 : Nat) []))))))))))))))
else False)
else False)
else ((∃ x_13 : Nat, ((Lf (((1 : Nat) ≤ x_13) ∧
 (x_13 ≤ (16 : Nat)))) ∧
 (((cellsNM (Prod.snd x_11)) = (cellsNM (Prod.snd x_11))) ∧
 (((AV.str t_5) = (AV.str t_5)) ∧
 (((AV.ptr (0 : Nat) (18 : Nat) (0 : Nat)) = (AV.ptr (0 : Nat) (18 : Nat) (0 : Nat))) ∧
 (((AV.bool false) = (AV.bool (fullM (List.map unNM (cellsNM (Prod.snd x_11))) x_13))) ∧
 (((AV.int .i64 (1 : Int)) = (AV.int .i64 (Nat.cast x_13 : Int))) ∧
 True))))))) ∧
 (∀ x_13 : Nat, ((Lf (((1 : Nat) ≤ x_13) ∧
 (x_13 ≤ (16 : Nat)))) →
(bif (decide ((Nat.cast x_13 : Int) < (16 : Int))) then (bif (fullM (List.map unNM (cellsNM (Prod.snd x_11))) x_13) then (bif ((Nat.blt (Int.toNat (Nat.cast x_13 : Int)) (18 : Nat)) && (Nat.beq (List.length (cellsNM (Prod.snd x_11))) (18 : Nat))) then (bif ((Nat.beq (List.length (cellsNM (Prod.snd x_11))) (18 : Nat)) && (Nat.blt ((0 : Nat) + ((Int.toNat (Nat.cast x_13 : Int)) * (1 : Nat))) (18 : Nat))) then (∃ n_14 : Int, (((List.getD (List.take (1 : Nat) (List.drop ((0 : Nat) + ((Int.toNat (Nat.cast x_13 : Int)) * (1 : Nat))) (cellsNM (Prod.snd x_11)))) (0 : Nat) AV.undef) = (AV.int .i64 n_14)) ∧
 (bif (n_14 == (255 : Int)) then (∃ n_15 : Int, (((AV.int .i64 (IntKind.wrap .i64 ((Nat.cast x_13 : Int) + (1 : Int)))) = (AV.int .i64 n_15)) ∧
 ((True ∧
 ((0 : Nat) = (0 : Nat))) ∧
 (∃ y_16 : Nat, ((Lf (((1 : Nat) ≤ y_16) ∧
 (y_16 ≤ (16 : Nat)))) ∧
 ((((16 : Nat) - y_16) < ((16 : Nat) - x_13)) ∧
 (((cellsNM (Prod.snd x_11)) = (cellsNM (Prod.snd x_11))) ∧
 (((AV.str t_5) = (AV.str t_5)) ∧
 (((AV.ptr (0 : Nat) (18 : Nat) (0 : Nat)) = (AV.ptr (0 : Nat) (18 : Nat) (0 : Nat))) ∧
 (((AV.bool true) = (AV.bool (fullM (List.map unNM (cellsNM (Prod.snd x_11))) y_16))) ∧
 (((AV.int .i64 n_15) = (AV.int .i64 (Nat.cast y_16 : Int))) ∧
 True)))))))))))
else (∃ n_15 : Int, (((AV.int .i64 (IntKind.wrap .i64 ((Nat.cast x_13 : Int) + (1 : Int)))) = (AV.int .i64 n_15)) ∧
 ((True ∧
 ((0 : Nat) = (0 : Nat))) ∧
 (∃ y_16 : Nat, ((Lf (((1 : Nat) ≤ y_16) ∧
 (y_16 ≤ (16 : Nat)))) ∧
 ((((16 : Nat) - y_16) < ((16 : Nat) - x_13)) ∧
 (((cellsNM (Prod.snd x_11)) = (cellsNM (Prod.snd x_11))) ∧
 (((AV.str t_5) = (AV.str t_5)) ∧
 (((AV.ptr (0 : Nat) (18 : Nat) (0 : Nat)) = (AV.ptr (0 : Nat) (18 : Nat) (0 : Nat))) ∧
 (((AV.bool false) = (AV.bool (fullM (List.map unNM (cellsNM (Prod.snd x_11))) y_16))) ∧
 (((AV.int .i64 n_15) = (AV.int .i64 (Nat.cast y_16 : Int))) ∧
 True))))))))))))))
else False)
else False)
else (∃ n_14 : Int, (((AV.int .i64 (IntKind.wrap .i64 ((Nat.cast x_13 : Int) + (1 : Int)))) = (AV.int .i64 n_14)) ∧
 ((True ∧
 ((0 : Nat) = (0 : Nat))) ∧
 (∃ y_15 : Nat, ((Lf (((1 : Nat) ≤ y_15) ∧
 (y_15 ≤ (16 : Nat)))) ∧
 ((((16 : Nat) - y_15) < ((16 : Nat) - x_13)) ∧
 (((cellsNM (Prod.snd x_11)) = (cellsNM (Prod.snd x_11))) ∧
 (((AV.str t_5) = (AV.str t_5)) ∧
 (((AV.ptr (0 : Nat) (18 : Nat) (0 : Nat)) = (AV.ptr (0 : Nat) (18 : Nat) (0 : Nat))) ∧
 (((AV.bool false) = (AV.bool (fullM (List.map unNM (cellsNM (Prod.snd x_11))) y_15))) ∧
 (((AV.int .i64 n_14) = (AV.int .i64 (Nat.cast y_15 : Int))) ∧
 True))))))))))))
else (bif (fullM (List.map unNM (cellsNM (Prod.snd x_11))) x_13) then (bif (Nat.beq (List.length (cellsNM (Prod.snd x_11))) (18 : Nat)) then (bif ((Nat.beq (List.length (cellsNM (Prod.snd x_11))) (18 : Nat)) && true) then (∃ n_14 : Int, (((List.getD (List.take (1 : Nat) (List.drop (0 : Nat) (cellsNM (Prod.snd x_11)))) (0 : Nat) AV.undef) = (AV.int .i64 n_14)) ∧
 (∃ n_15 : Int, (((AV.int .i64 (IntKind.wrap .i64 (n_14 - (251 : Int)))) = (AV.int .i64 n_15)) ∧
 (bif (((((Nat.beq (List.length (cellsNM (Prod.snd x_11))) (18 : Nat)) && true) && true) && true) && true) then ((∃ x_16 : Nat, ((Lf (x_16 ≤ (16 : Nat))) ∧
 (((setRange (cellsNM (Prod.snd x_11)) (0 : Nat) ((AV.int .i64 n_15) :: ((AV.int .i64 (0 : Int)) :: ((AV.int .i64 (0 : Int)) :: ((AV.int .i64 (0 : Int)) :: ((AV.int .i64 (0 : Int)) :: ((AV.int .i64 (0 : Int)) :: ((AV.int .i64 (0 : Int)) :: ((AV.int .i64 (0 : Int)) :: ((AV.int .i64 (0 : Int)) :: ((AV.int .i64 (0 : Int)) :: ((AV.int .i64 (0 : Int)) :: ((AV.int .i64 (0 : Int)) :: ((AV.int .i64 (0 : Int)) :: ((AV.int .i64 (0 : Int)) :: ((AV.int .i64 (0 : Int)) :: ((AV.int .i64 (0 : Int)) :: ((AV.int .i64 (0 : Int)) :: ((AV.int .i64 (0 : Int)) :: []))))))))))))))))))) = (setRange (cellsNM (Prod.snd x_11)) (0 : Nat) ((AV.int .i64 n_15) :: ((AV.int .i64 (0 : Int)) :: ((AV.int .i64 (0 : Int)) :: ((AV.int .i64 (0 : Int)) :: ((AV.int .i64 (0 : Int)) :: ((AV.int .i64 (0 : Int)) :: ((AV.int .i64 (0 : Int)) :: ((AV.int .i64 (0 : Int)) :: ((AV.int .i64 (0 : Int)) :: ((AV.int .i64 (0 : Int)) :: ((AV.int .i64 (0 : Int)) :: ((AV.int .i64 (0 : Int)) :: ((AV.int .i64 (0 : Int)) :: ((AV.int .i64 (0 : Int)) :: ((AV.int .i64 (0 : Int)) :: ((AV.int .i64 (0 : Int)) :: ((AV.int .i64 (0 : Int)) :: ((AV.int .i64 (0 : Int)) :: [])))))))))))))))))))) ∧
 (((AV.str t_5) = (AV.str t_5)) ∧
 (((AV.ptr (0 : Nat) (18 : Nat) (0 : Nat)) = (AV.ptr (0 : Nat) (18 : Nat) (0 : Nat))) ∧
 (((AV.int .i64 (0 : Int)) = (AV.int .i64 (Nat.cast x_16 : Int))) ∧
 True)))))) ∧
 (∀ x_16 : Nat, ((Lf (x_16 ≤ (16 : Nat))) →
(bif (decide ((Nat.cast x_16 : Int) < (16 : Int))) then (bif ((Nat.blt (Int.toNat (Nat.cast x_16 : Int)) (18 : Nat)) && (Nat.beq (List.length (setRange (cellsNM (Prod.snd x_11)) (0 : Nat) ((AV.int .i64 n_15) :: ((AV.int .i64 (0 : Int)) :: ((AV.int .i64 (0 : Int)) :: ((AV.int .i64 (0 : Int)) :: ((AV.int .i64 (0 : Int)) :: ((AV.int .i64 (0 : Int)) :: ((AV.int .i64 (0 : Int)) :: ((AV.int .i64 (0 : Int)) :: ((AV.int .i64 (0 : Int)) :: ((AV.int .i64 (0 : Int)) :: ((AV.int .i64 (0 : Int)) :: ((AV.int .i64 (0 : Int)) :: ((AV.int .i64 (0 : Int)) :: ((AV.int .i64 (0 : Int)) :: ((AV.int .i64 (0 : Int)) :: ((AV.int .i64 (0 : Int)) :: ((AV.int .i64 (0 : Int)) :: ((AV.int .i64 (0 : Int)) :: [])))))))))))))))))))) (18 : Nat))) then (bif ((Nat.beq (List.length (setRange (cellsNM (Prod.snd x_11)) (0 : Nat) ((AV.int .i64 n_15) :: ((AV.int .i64 (0 : Int)) :: ((AV.int .i64 (0 : Int)) :: ((AV.int .i64 (0 : Int)) :: ((AV.int .i64 (0 : Int)) :: ((AV.int .i64 (0 : Int)) :: ((AV.int .i64 (0 : Int)) :: ((AV.int .i64 (0 : Int)) :: ((AV.int .i64 (0 : Int)) :: ((AV.int .i64 (0 : Int)) :: ((AV.int .i64 (0 : Int)) :: ((AV.int .i64 (0 : Int)) :: ((AV.int .i64 (0 : Int)) :: ((AV.int .i64 (0 : Int)) :: ((AV.int .i64 (0 : Int)) :: ((AV.int .i64 (0 : Int)) :: ((AV.int .i64 (0 : Int)) :: ((AV.int .i64 (0 : Int)) :: [])))))))))))))))))))) (18 : Nat)) && (Nat.blt ((0 : Nat) + ((Int.toNat (Nat.cast x_16 : Int)) * (1 : Nat))) (18 : Nat))) then (∃ n_17 : Int, (((List.getD (List.take (1 : Nat) (List.drop ((0 : Nat) + ((Int.toNat (Nat.cast x_16 : Int)) * (1 : Nat))) (setRange (cellsNM (Prod.snd x_11)) (0 : Nat) ((AV.int .i64 n_15) :: ((AV.int .i64 (0 : Int)) :: ((AV.int .i64 (0 : Int)) :: ((AV.int .i64 (0 : Int)) :: ((AV.int .i64 (0 : Int)) :: ((AV.int .i64 (0 : Int)) :: ((AV.int .i64 (0 : Int)) :: ((AV.int .i64 (0 : Int)) :: ((AV.int .i64 (0 : Int)) :: ((AV.int .i64 (0 : Int)) :: ((AV.int .i64 (0 : Int)) :: ((AV.int .i64 (0 : Int)) :: ((AV.int .i64 (0 : Int)) :: ((AV.int .i64 (0 : Int)) :: ((AV.int .i64 (0 : Int)) :: ((AV.int .i64 (0 : Int)) :: ((AV.int .i64 (0 : Int)) :: ((AV.int .i64 (0 : Int)) :: []))))))))))))))))))))) (0 : Nat) AV.undef) = (AV.int .i64 n_17)) ∧
 (∃ n_18 : Int, (((AV.int .u8 (IntKind.wrap .u8 n_17)) = (AV.int .u8 n_18)) ∧
 (bif (Nat.blt (Int.toNat (Nat.cast x_16 : Int)) (List.length t_5)) then (∃ n_19 : Int, (((AV.int .u8 (Nat.cast (UInt8.toNat (List.getD t_5 (Int.toNat (Nat.cast x_16 : Int)) (UInt8.ofNat (0 : Nat)))) : Int)) = (AV.int .u8 n_19)) ∧
 (bif (n_18 != n_19) then (Q (Out.ret (AV.bool false)) [] (Gh.mk (0 : Nat) (0 : Nat) []))
else (∃ n_20 : Int, (((AV.int .i64 (IntKind.wrap .i64 ((Nat.cast x_16 : Int) + (1 : Int)))) = (AV.int .i64 n_20)) ∧
 ((True ∧
 ((0 : Nat) = (0 : Nat))) ∧
 (∃ y_21 : Nat, ((Lf (y_21 ≤ (16 : Nat))) ∧
 ((((16 : Nat) - y_21) < ((16 : Nat) - x_16)) ∧
 (((setRange (cellsNM (Prod.snd x_11)) (0 : Nat) ((AV.int .i64 n_15) :: ((AV.int .i64 (0 : Int)) :: ((AV.int .i64 (0 : Int)) :: ((AV.int .i64 (0 : Int)) :: ((AV.int .i64 (0 : Int)) :: ((AV.int .i64 (0 : Int)) :: ((AV.int .i64 (0 : Int)) :: ((AV.int .i64 (0 : Int)) :: ((AV.int .i64 (0 : Int)) :: ((AV.int .i64 (0 : Int)) :: ((AV.int .i64 (0 : Int)) :: ((AV.int .i64 (0 : Int)) :: ((AV.int .i64 (0 : Int)) :: ((AV.int .i64 (0 : Int)) :: ((AV.int .i64 (0 : Int)) :: ((AV.int .i64 (0 : Int)) :: ((AV.int .i64 (0 : Int)) :: ((AV.int .i64 (0 : Int)) :: []))))))))))))))))))) = (setRange (cellsNM (Prod.snd x_11)) (0 : Nat) ((AV.int .i64 n_15) :: ((AV.int .i64 (0 : Int)) :: ((AV.int .i64 (0 : Int)) :: ((AV.int .i64 (0 : Int)) :: ((AV.int .i64 (0 : Int)) :: ((AV.int .i64 (0 : Int)) :: ((AV.int .i64 (0 : Int)) :: ((AV.int .i64 (0 : Int)) :: ((AV.int .i64 (0 : Int)) :: ((AV.int .i64 (0 : Int)) :: ((AV.int .i64 (0 : Int)) :: ((AV.int .i64 (0 : Int)) :: ((AV.int .i64 (0 : Int)) :: ((AV.int .i64 (0 : Int)) :: ((AV.int .i64 (0 : Int)) :: ((AV.int .i64 (0 : Int)) :: ((AV.int .i64 (0 : Int)) :: ((AV.int .i64 (0 : Int)) :: [])))))))))))))))))))) ∧
 (((AV.str t_5) = (AV.str t_5)) ∧
 (((AV.ptr (0 : Nat) (18 : Nat) (0 : Nat)) = (AV.ptr (0 : Nat) (18 : Nat) (0 : Nat))) ∧
 (((AV.int .i64 n_20) = (AV.int .i64 (Nat.cast y_21 : Int))) ∧
 True)))))))))))))
else False)))))
else False)
else False)
else (Q (Out.ret (AV.bool true)) [] (Gh.mk (0 : Nat) (0 : Nat) []))))))
else False)))))
else False)
else False)
else ((∃ x_14 : Nat, ((Lf (x_14 ≤ (16 : Nat))) ∧
 (((cellsNM (Prod.snd x_11)) = (cellsNM (Prod.snd x_11))) ∧
 (((AV.str t_5) = (AV.str t_5)) ∧
 (((AV.ptr (0 : Nat) (18 : Nat) (0 : Nat)) = (AV.ptr (0 : Nat) (18 : Nat) (0 : Nat))) ∧
 (((AV.int .i64 (0 : Int)) = (AV.int .i64 (Nat.cast x_14 : Int))) ∧
 True)))))) ∧
 (∀ x_14 : Nat, ((Lf (x_14 ≤ (16 : Nat))) →
(bif (decide ((Nat.cast x_14 : Int) < (16 : Int))) then (bif ((Nat.blt (Int.toNat (Nat.cast x_14 : Int)) (18 : Nat)) && (Nat.beq (List.length (cellsNM (Prod.snd x_11))) (18 : Nat))) then (bif ((Nat.beq (List.length (cellsNM (Prod.snd x_11))) (18 : Nat)) && (Nat.blt ((0 : Nat) + ((Int.toNat (Nat.cast x_14 : Int)) * (1 : Nat))) (18 : Nat))) then (∃ n_15 : Int, (((List.getD (List.take (1 : Nat) (List.drop ((0 : Nat) + ((Int.toNat (Nat.cast x_14 : Int)) * (1 : Nat))) (cellsNM (Prod.snd x_11)))) (0 : Nat) AV.undef) = (AV.int .i64 n_15)) ∧
 (∃ n_16 : Int, (((AV.int .u8 (IntKind.wrap .u8 n_15)) = (AV.int .u8 n_16)) ∧
 (bif (Nat.blt (Int.toNat (Nat.cast x_14 : Int)) (List.length t_5)) then (∃ n_17 : Int, (((AV.int .u8 (Nat.cast (UInt8.toNat (List.getD t_5 (Int.toNat (Nat.cast x_14 : Int)) (UInt8.ofNat (0 : Nat)))) : Int)) = (AV.int .u8 n_17)) ∧
 (bif (n_16 != n_17) then (Q (Out.ret (AV.bool false)) [] (Gh.mk (0 : Nat) (0 : Nat) []))
else (∃ n_18 : Int, (((AV.int .i64 (IntKind.wrap .i64 ((Nat.cast x_14 : Int) + (1 : Int)))) = (AV.int .i64 n_18)) ∧
 ((True ∧
 ((0 : Nat) = (0 : Nat))) ∧
 (∃ y_19 : Nat, ((Lf (y_19 ≤ (16 : Nat))) ∧
 ((((16 : Nat) - y_19) < ((16 : Nat) - x_14)) ∧
 (((cellsNM (Prod.snd x_11)) = (cellsNM (Prod.snd x_11))) ∧
 (((AV.str t_5) = (AV.str t_5)) ∧
 (((AV.ptr (0 : Nat) (18 : Nat) (0 : Nat)) = (AV.ptr (0 : Nat) (18 : Nat) (0 : Nat))) ∧
 (((AV.int .i64 n_18) = (AV.int .i64 (Nat.cast y_19 : Int))) ∧
 True)))))))))))))
else False)))))
else False)
else False)
else (Q (Out.ret (AV.bool true)) [] (Gh.mk (0 : Nat) (0 : Nat) []))))))))))))))
else False)
else False)))))
else False)
else False))))))))))))))))))))))
else False)))))
else False))))) := by kernel_rfl

theorem full_one (L : List Nat) : fullM L 1 = decide (L.getD 16 0 = 3 ∧ 251 ≤ L.getD 0 0) := by
  unfold fullM
  exact decide_eq_decide.2 ⟨fun h => ⟨h.1, h.2.1⟩, fun h => ⟨h.1, h.2, fun j h1 h2 => by omega⟩⟩
theorem full_step (L : List Nat) (i : Nat) (hi : 1 ≤ i) : fullM L (i + 1) = (fullM L i && decide (L.getD i 0 = 255)) := by
  unfold fullM
  rw [← Bool.decide_and]
  refine decide_eq_decide.2 ⟨fun h => ⟨⟨h.1, h.2.1, fun j h1 h2 => h.2.2 j (by omega) h2⟩, h.2.2 i (by omega) hi⟩, fun h => ⟨h.1.1, h.1.2.1, fun j h1 h2 => ?_⟩⟩
  by_cases hj : j = i
  · rw [hj]; exact h.2
  · exact h.1.2.2 j (by omega) h2
theorem get_map (L : List Nat) {k : Nat} (hk : k < 16) (hl : 16 ≤ L.length) : ((L.take 16).map UInt8.ofNat).getD k 0 = UInt8.ofNat (L.getD k 0) := by
  rw [List.getD_eq_getElem?_getD, List.getElem?_map, List.getElem?_take, if_pos hk, List.getD_eq_getElem?_getD, List.getElem?_eq_getElem (by omega)]
  rfl
theorem ones_run (cs : List AV) (n : Nat) (hn : n = cs.length) (hcs : ∀ c ∈ cs, ∃ s, c = AV.str s ∧ s.length ≤ 9223372036854775807) (Q : Out → List Blk → Gh → Prop) (hq : Q (.ret (.bool true)) [] {}) : ∃ hv hb, goal_8 hv hb cs n Q := by
  obtain ⟨hv, hb', e⟩ : ∃ hv hb, goal_8 hv hb cs n Q = _ := ⟨_, _, vc_8 cs n Q⟩
  refine ⟨hv, hb', e.mpr ?_⟩
  clear e
  have i1 : imin (n : Int) 9 = ((min n 9 : Nat) : Int) := imin_nat _ 9
  have hm : min n 9 ≤ 9 := by omega
  have hmn : min n 9 ≤ n := by omega
  refine ⟨⟨by decide, by decide, by decide⟩, ?_⟩
  rintro z ⟨hz⟩
  have hz' : z = List.replicate 31 0 := hz
  subst hz'
  refine ckI (by rw [List.length_replicate]; rfl) ⟨_, rfl, _, rfl, ?_⟩
  rw [i1]
  generalize min n 9 = m at *
  refine ckI (by simp; omega) ⟨_, rfl, ?_⟩
  rw [Int.toNat_natCast, Nat.sub_zero, Nat.mul_one, List.drop_zero]
  have lc : (List.take m cs).length = m := by rw [List.length_take]; omega
  have hcs' : ∀ c ∈ List.take m cs, ∃ s, c = AV.str s ∧ s.length ≤ 9223372036854775807 := fun c hc => hcs c (List.mem_of_mem_take hc)
  generalize List.take m cs = ds at *
  refine ⟨⟨(0, []), ⟨by omega, by simp [joinM], rfl⟩, rfl, rfl, rfl, rfl, rfl, rfl, trivial⟩, ?_⟩
  rintro ⟨i, s⟩ ⟨g1, g2, g3⟩
  dsimp only at *
  refine splitD (fun hlt => ?_) (fun hge => ?_)
  · have hi : i < m := by omega
    have hid : i < ds.length := by omega
    obtain ⟨c, hc, hcl⟩ := hcs' ds[i] (List.getElem_mem hid)
    have hg : ds.getD i AV.undef = AV.str c := by rw [List.getD_eq_getElem?_getD, List.getElem?_eq_getElem hid]; exact hc
    have i2 : imin (c.length : Int) 16 = ((min c.length 16 : Nat) : Int) := imin_nat _ 16
    rw [Int.toNat_natCast, Nat.mul_one]
    refine ckI (by simp; omega) (ckI (by simp; omega) ⟨_, hg, _, rfl, _, rfl, ?_⟩)
    rw [i2, Int.toNat_natCast, List.drop_zero, Nat.sub_zero]
    refine ckI (by simp; omega) ⟨_, rfl, ⟨by decide, by decide, ?_⟩, ?_⟩
    · rw [List.length_take]; omega
    rintro t ⟨ht⟩
    have lt : t.length = 16 := by rw [ht, sized_len]; rfl
    have et : t = sizedM ((strAM (AV.str c)).take 16) 16 := by
      rw [ht]
      show sizedM (List.take (min c.length 16) c) 16 = sizedM (List.take 16 c) 16
      by_cases h : c.length ≤ 16
      · rw [Nat.min_eq_left h, List.take_of_length_le (Nat.le_refl _), List.take_of_length_le h]
      · rw [Nat.min_eq_right (by omega)]
    refine ckI (by simp; omega) ⟨_, rfl, wrapI (by omega) (by omega) ⟨⟨trivial, rfl⟩, (i + 1, s ++ t), ⟨by dsimp only; omega, ?_, by dsimp only; rw [List.length_append]; omega⟩, by dsimp only; omega, rfl, rfl, rfl, rfl, rfl, rfl, trivial⟩⟩
    dsimp only
    rw [take_snocD ds AV.undef hid, join_snoc, hg, ← et, g2]
  · obtain rfl : i = m := by omega
    rintro t e ⟨ht⟩
    rw [tagS32 (by rw [List.length_append, List.length_replicate]; rfl) (by omega)] at ht
    obtain ⟨rfl, rfl⟩ := Prod.mk.inj ht
    have lt := tag_len ([UInt8.ofNat 1] ++ List.replicate 31 0) s
    have hV : tagM ([UInt8.ofNat 1] ++ List.replicate 31 0) s = leBM 16 ((wsM s s.length + i * 340282366920938463463374607431768211456) % pM) := by
      have e1 : leNM (clampM (List.take 16 ([UInt8.ofNat 1] ++ List.replicate 31 0))) = 1 := by decide +kernel
      have e2 : leNM (List.drop 16 ([UInt8.ofNat 1] ++ List.replicate 31 0)) = 0 := by decide +kernel
      rw [tag_sum, sumTM, e1, e2, Nat.add_zero, poly_one i s.length 0 s g3 (by omega) (by decide), Nat.zero_add, g3, ws_ps s i (by omega)]
    have hVlt : wsM s s.length + i * 340282366920938463463374607431768211456 < 6125082604576892342340742933771827806208 + 1 := by
      have := ps_lt s i
      rw [g3, ws_ps s i (by omega)]
      omega
    generalize tagM ([UInt8.ofNat 1] ++ List.replicate 31 0) s = t at *
    have lsx : s.length ≤ 144 := by omega
    have z18 : ∀ j, (List.replicate 18 0).getD j 0 = 0 := fun j => by
      rw [List.getD_eq_getElem?_getD, List.getElem?_replicate]
      split <;> rfl
    refine splitNE (fun h => absurd rfl h) fun _ => ⟨_, rfl, splitNE (fun h => by exfalso; omega) fun _ => ⟨_, rfl, ⟨(0, List.replicate 18 0), ⟨by dsimp only; omega, by simp, (show valNM (List.replicate 18 0) = 0 by decide +kernel), fun j => by dsimp only; rw [z18]; omega, by dsimp only; rw [z18], by dsimp only; rw [z18]⟩, rfl, rfl, rfl, rfl, rfl, rfl, rfl, trivial⟩, ?_⟩⟩
    rintro ⟨j, L⟩ ⟨b1, b2, b3, b4, b5, b6⟩
    dsimp only at *
    have w64 : ∀ x : Int, 0 ≤ x → x ≤ 1000000000 → IntKind.wrap .i64 x = x := fun x h1 h2 => by rw [IntKind.wrap_i64]; omega
    refine splitD (fun hlt => ?_) (fun hge => ?_)
    · have hj : j < s.length := by omega
      have hm1 : Int.tmod (j : Int) 16 = ((j % 16 : Nat) : Int) := by rw [Int.tmod_eq_emod_of_nonneg (by omega)]; omega
      have hj16 : j % 16 < 16 := Nat.mod_lt _ (by decide)
      have hx := (s.getD j 0).toNat_lt
      have hlj := b4 (j % 16)
      refine ⟨_, rfl, ?_⟩
      rw [hm1, Int.toNat_natCast, Int.toNat_natCast, Nat.zero_add, Nat.mul_one, cellsN_len, show UInt8.ofNat 0 = 0 from rfl]
      refine ckI (by simp [b2]; omega) (ckI (by simp [b2]; omega) (ldN (by omega) rfl (ckI (by simp; omega) ⟨_, rfl, _, rfl, _, rfl, ckI (by simp [b2]; omega) (ckI (by simp [b2]; omega) (wrapI (by omega) (by omega) ⟨⟨trivial, rfl⟩, (j + 1, L.set (j % 16) (L.getD (j % 16) 0 + (s.getD j 0).toNat)), ⟨by dsimp only; omega, by dsimp only; rw [List.length_set]; exact b2, ?_, fun k => ?_, ?_, ?_⟩, by dsimp only; omega, ?_, rfl, rfl, rfl, rfl, rfl, rfl, trivial⟩))⟩)))
      · dsimp only
        have := val_set L (j % 16) (L.getD (j % 16) 0 + (s.getD j 0).toNat) (by omega)
        rw [wsM, ← b3]
        rw [Nat.add_mul] at this
        omega
      · dsimp only
        rw [set_get _ _ _ _ (by omega)]
        split
        · omega
        · have := b4 k
          omega
      · dsimp only
        rw [set_get _ _ _ _ (by omega), if_neg (by omega)]; exact b5
      · dsimp only
        rw [set_get _ _ _ _ (by omega), if_neg (by omega)]; exact b6
      · dsimp only
        rw [w64 ((s.getD j 0).toNat : Int) (by omega) (by omega), w64 _ (by omega) (by omega), ← Int.natCast_add, stN (by omega) rfl]
    · obtain rfl : j = s.length := by omega
      refine ⟨_, rfl, ?_⟩
      rw [cellsN_len, b2]
      refine ckI rfl (ckI rfl ?_)
      rw [stN (by omega) rfl, unN_map]
      have hv0 := val_set L 16 i (by omega)
      rw [b5, Nat.zero_mul, Nat.add_zero, b3, show (256 : Nat) ^ 16 = 340282366920938463463374607431768211456 by decide] at hv0
      have lL : (L.set 16 i).length = 18 := by rw [List.length_set]; exact b2
      have hL17 : (L.set 16 i).getD 17 0 = 0 := by rw [set_get _ _ _ _ (by omega), if_neg (by decide)]; exact b6
      have hLb : ∀ j, (L.set 16 i).getD j 0 ≤ 40000 := fun j => by
        rw [set_get _ _ _ _ (by omega)]
        have := b4 j
        split <;> omega
      rw [← hv0] at hV hVlt
      clear hv0 b1 b3 b4 b5 b6
      generalize L.set 16 i = L0 at *
      have rd0 : rdM (valNM L0) 0 L0 := ⟨lL, hL17, hLb, rfl, fun _ => by omega, fun h => by omega, fun h => by omega, fun h => by omega⟩
      refine ⟨⟨(0, L0), ⟨by dsimp only; omega, rd0⟩, rfl, rfl, rfl, rfl, trivial⟩, ?_⟩
      clear rd0 hL17 hLb lL b2
      have m64 : ∀ x : Nat, x ≤ 1000000000 → ((x : Int) % 18446744073709551616).toNat = x := fun x h => mod64 (by omega)
      have st0 : ∀ L : List Nat, 17 < L.length → setRange (cellsNM L) 17 [AV.int .i64 0] = cellsNM (L.set 17 0) := fun L h => stN (x := 0) h rfl
      rintro ⟨r, L⟩ ⟨c1, c2⟩
      dsimp only at *
      obtain ⟨d1, d2, d3, d4, d5, d6, d7, d8⟩ := c2
      rw [unN_map]
      refine splitD (fun hr => ?_) (fun hr => ?_)
      · refine ⟨⟨(0, L), ⟨by dsimp only; omega, d1, rfl, fun j h => absurd h (Nat.not_lt_zero _), fun j _ => d3 j, by have := d3 0; dsimp only; omega⟩, rfl, rfl, rfl, rfl, rfl, trivial⟩, ?_⟩
        rintro ⟨k, M⟩ ⟨e1, e2, e3, e4, e5, e6⟩
        dsimp only at *
        refine splitD (fun hk => ?_) (fun hk => ?_)
        · have hk' : k < 17 := by omega
          have m1 := e5 (k + 1) (by omega)
          refine wrapI (by omega) (by omega) ?_
          rw [show ((k : Int) + 1).toNat = k + 1 by omega, Int.toNat_natCast, cellsN_len, e2, Nat.zero_add, Nat.zero_add, Nat.mul_one, Nat.mul_one]
          refine ckI (by simp; omega) (ckI (by simp; omega) (ldN (by omega) rfl (ckI (by simp; omega) (ckI (by simp; omega) (ldN (by omega) rfl ⟨_, rfl, ?_⟩)))))
          rw [fdivN _ 256 256 rfl]
          refine ⟨_, rfl, ?_⟩
          have hlen : (M.set (k + 1) (M.getD (k + 1) 0 + M.getD k 0 / 256)).length = 18 := by rw [List.length_set]; exact e2
          have hgk : (M.set (k + 1) (M.getD (k + 1) 0 + M.getD k 0 / 256)).getD k 0 = M.getD k 0 := by rw [set_get _ _ _ _ (by omega), if_neg (by omega)]
          have a1 := val_set M (k + 1) (M.getD (k + 1) 0 + M.getD k 0 / 256) (by omega)
          have a2 := val_set (M.set (k + 1) (M.getD (k + 1) 0 + M.getD k 0 / 256)) k (M.getD k 0 % 256) (by omega)
          rw [hgk] at a2
          have gN : ∀ j, ((M.set (k + 1) (M.getD (k + 1) 0 + M.getD k 0 / 256)).set k (M.getD k 0 % 256)).getD j 0 = if k = j then M.getD k 0 % 256 else if k + 1 = j then M.getD (k + 1) 0 + M.getD k 0 / 256 else M.getD j 0 := fun j => by
            rw [set_get _ _ _ _ (by omega), set_get _ _ _ _ (by omega)]
          rw [w64 _ (by omega) (by omega), ← Int.natCast_add, stN (by omega) rfl, cellsN_len, hlen]
          refine ckI (by simp; omega) (ckI (by simp; omega) (ckI (by simp; omega) (ckI (by simp; omega) (ldN (by omega) rfl ⟨_, rfl, ?_⟩))))
          rw [hgk, m64 _ (by omega), Nat.and_two_pow_sub_one_eq_mod _ 8, w64 ((M.getD k 0 % 2 ^ 8 : Nat) : Int) (by omega) (by omega), stN (by omega) rfl]
          refine ckI (by simp; omega) (ckI (by simp; omega) (wrapI (by omega) (by omega) ⟨⟨trivial, rfl⟩, (k + 1, (M.set (k + 1) (M.getD (k + 1) 0 + M.getD k 0 / 256)).set k (M.getD k 0 % 256)), ⟨by dsimp only; omega, by dsimp only; rw [List.length_set]; exact hlen, ?_, fun j hj => ?_, fun j hj => ?_, ?_⟩, by dsimp only; omega, rfl, rfl, rfl, rfl, rfl, trivial⟩))
          · dsimp only
            rw [← e3]
            have hp : 256 ^ (k + 1) = 256 ^ k * 256 := by rw [Nat.pow_succ]
            have hq : M.getD k 0 = M.getD k 0 % 256 + 256 * (M.getD k 0 / 256) := (Nat.mod_add_div _ _).symm
            rw [hp] at a1
            generalize M.getD k 0 / 256 = q at *
            generalize M.getD k 0 % 256 = u at *
            rw [hq, Nat.add_mul, Nat.mul_assoc] at a2
            rw [Nat.add_mul, ← Nat.mul_assoc q, Nat.mul_comm (q * 256 ^ k)] at a1
            omega
          · dsimp only at hj ⊢
            rw [gN]
            split
            · omega
            · rw [if_neg (by omega)]; exact e4 j (by omega)
          · dsimp only at hj ⊢
            rw [gN, if_neg (by omega), if_neg (by omega)]; exact e5 j (by omega)
          · dsimp only
            rw [gN, if_neg (by omega), if_pos rfl]; omega
        · obtain rfl : k = 17 := by omega
          have h16 := e4 16 (by omega)
          have h0 := e4 0 (by omega)
          have R := round_end M e2 (fun j hj => e4 j hj) _ rfl _ rfl
          rw [cellsN_len, e2]
          refine ckI rfl (ckI rfl (ldN (by omega) rfl ⟨_, rfl, ckI rfl (ckI rfl (ldN (by omega) rfl ?_))⟩))
          rw [fdivN _ 4 4 rfl]
          refine ⟨_, rfl, _, rfl, ckI rfl (ckI rfl (ldN (by omega) rfl ⟨_, rfl, ?_⟩))⟩
          rw [w64 ((M.getD 17 0 : Nat) * 64) (by omega) (by omega), w64 (((M.getD 16 0 / 4 : Nat) : Int) + ((M.getD 17 0 : Nat) : Int) * 64) (by omega) (by omega), m64 _ (by omega), Nat.and_two_pow_sub_one_eq_mod _ 2, w64 ((M.getD 16 0 % 2 ^ 2 : Nat) : Int) (by omega) (by omega), stN (by omega) rfl, st0 _ (by rw [List.length_set]; omega)]
          have l2 : (M.set 16 (M.getD 16 0 % 2 ^ 2)).length = 18 := by rw [List.length_set]; exact e2
          have l3 : ((M.set 16 (M.getD 16 0 % 2 ^ 2)).set 17 0).length = 18 := by rw [List.length_set]; exact l2
          have hg0 : ((M.set 16 (M.getD 16 0 % 2 ^ 2)).set 17 0).getD 0 0 = M.getD 0 0 := by rw [set_get _ _ _ _ (by omega), if_neg (by decide), set_get _ _ _ _ (by omega), if_neg (by decide)]
          rw [cellsN_len, l2, cellsN_len, l3]
          refine ckI rfl (ckI rfl (ckI rfl (ckI rfl (ckI rfl (ckI rfl (ldN (by omega) rfl ⟨_, rfl, _, rfl, ?_⟩))))))
          rw [hg0, show ((M.getD 16 0 / 4 : Nat) : Int) + ((M.getD 17 0 : Nat) : Int) * 64 = ((M.getD 16 0 / 4 + M.getD 17 0 * 64 : Nat) : Int) by omega]
          have hvL : valNM L ≤ 6125082604576892342340742933771827806208 := by
            have : r = 0 ∨ r = 1 ∨ r = 2 := by omega
            rcases this with rfl | rfl | rfl
            · exact d5 rfl
            · have := d6 rfl; omega
            · have := d7 (by omega); omega
          generalize M.getD 16 0 / 4 + M.getD 17 0 * 64 = o at *
          obtain ⟨r1, r2, r3, r4, r5, r6, r7⟩ := R
          rw [e3] at r1 r2
          have ho : o ≤ 4 := by omega
          rw [w64 (5 * (o : Int)) (by omega) (by omega), w64 (((M.getD 0 0 : Nat) : Int) + 5 * (o : Int)) (by omega) (by omega), show ((M.getD 0 0 : Nat) : Int) + 5 * (o : Int) = ((M.getD 0 0 + 5 * o : Nat) : Int) by omega, stN (by omega) rfl]
          refine ckI rfl (ckI rfl (wrapI (by omega) (by omega) ⟨⟨trivial, rfl⟩, (r + 1, ((M.set 16 (M.getD 16 0 % 4)).set 17 0).set 0 (M.getD 0 0 + 5 * o)), ⟨by dsimp only; omega, ?_⟩, by dsimp only; omega, rfl, rfl, rfl, rfl, trivial⟩))
          dsimp only
          generalize ((M.set 16 (M.getD 16 0 % 4)).set 17 0).set 0 (M.getD 0 0 + 5 * o) = N at *
          refine ⟨r3, r4, fun j => ?_, ?_, fun h => by omega, fun h => ?_, fun h => ?_, fun h => ⟨fun j => ?_, r5⟩⟩
          · by_cases hj : 1 ≤ j
            · have := r7 j hj; omega
            · obtain rfl : j = 0 := by omega
              omega
          · rw [← d4, r1, Nat.add_mul_mod_self_right]
          · unfold pM at r1
            omega
          · have hv1 : valNM L < 1361129467683753853853498429727072845824 + 25 := by
              have : r = 1 ∨ r = 2 := by omega
              rcases this with rfl | rfl
              · exact d6 rfl
              · have := d7 (by omega); omega
            unfold pM at r1
            omega
          · have hv2 := d7 (by omega)
            have ho0 : o = 0 := by omega
            by_cases hj : 1 ≤ j
            · exact r7 j hj
            · obtain rfl : j = 0 := by omega
              omega
      · obtain rfl : r = 3 := by omega
        obtain ⟨q1, q2⟩ := d8 (by decide)
        have F := full_end L d1 q1 (d7 (by decide))
        clear d2 d3 d5 d6 d7 d8 hVlt
        have hset : ∀ x : Nat, setRange (cellsNM L) 0 (AV.int .i64 (x : Int) :: AV.int .i64 0 :: AV.int .i64 0 :: AV.int .i64 0 :: AV.int .i64 0 :: AV.int .i64 0 :: AV.int .i64 0 :: AV.int .i64 0 :: AV.int .i64 0 :: AV.int .i64 0 :: AV.int .i64 0 :: AV.int .i64 0 :: AV.int .i64 0 :: AV.int .i64 0 :: AV.int .i64 0 :: AV.int .i64 0 :: AV.int .i64 0 :: AV.int .i64 0 :: []) = cellsNM (x :: List.replicate 17 0) := fun x => by
          rw [setRange_full _ _ (by rw [cellsN_len, d1]; exact Nat.le_refl _)]
          rfl
        have f1 : fullM L 1 = decide (L.getD 16 0 = 3 ∧ 251 ≤ L.getD 0 0) := full_one L
        rw [cellsN_len, d1]
        refine ckI rfl (ckI rfl (ldN (by omega) rfl (splitE (fun h16 => ckI rfl (ckI rfl (ldN (by omega) rfl (splitD (fun h0 => ?_) (fun h0 => ?_))))) (fun h16 => ?_))))
        · have hfb : fullM L 1 = true := by rw [f1]; exact decide_eq_true ⟨by omega, by omega⟩
          refine ⟨⟨1, ⟨by omega, by omega⟩, rfl, rfl, rfl, by rw [hfb], rfl, trivial⟩, ?_⟩
          rintro i ⟨i1, i2⟩
          refine splitD (fun hi => ?_) (fun hi => ?_)
          · have hi' : i < 16 := by omega
            have fs := full_step L i i1
            cases hf : fullM L i
            · rw [hf] at fs
              exact wrapI (by omega) (by omega) ⟨⟨trivial, rfl⟩, i + 1, ⟨by omega, by omega⟩, by omega, rfl, rfl, rfl, by rw [fs]; rfl, rfl, trivial⟩
            · rw [hf] at fs
              rw [Int.toNat_natCast, Nat.zero_add, Nat.mul_one]
              refine ckI (by simp; omega) (ckI (by simp; omega) (ldN (by omega) rfl (splitE (fun h => ?_) (fun h => ?_))))
              · exact wrapI (by omega) (by omega) ⟨⟨trivial, rfl⟩, i + 1, ⟨by omega, by omega⟩, by omega, rfl, rfl, rfl, by rw [fs, decide_eq_true (by omega)]; rfl, rfl, trivial⟩
              · exact wrapI (by omega) (by omega) ⟨⟨trivial, rfl⟩, i + 1, ⟨by omega, by omega⟩, by omega, rfl, rfl, rfl, by rw [fs, decide_eq_false (by omega)]; rfl, rfl, trivial⟩
          · obtain rfl : i = 16 := by omega
            cases hf : fullM L 16
            · have hd := F.2 hf
              have hT : ∀ k, k < 16 → t.getD k 0 = UInt8.ofNat (L.getD k 0) := fun k hk => by
                rw [hV, ← d4, hd, leB_val 16 L (by omega) q1]
                exact get_map L hk (by omega)
              refine ⟨⟨0, ⟨by omega⟩, rfl, rfl, rfl, rfl, trivial⟩, ?_⟩
              rintro k ⟨hk⟩
              refine splitD (fun hk1 => ?_) (fun _ => hq)
              have hk' : k < 16 := by omega
              rw [Int.toNat_natCast, Nat.zero_add, Nat.mul_one]
              refine ckI (by simp; omega) (ckI (by simp; omega) (ldN (by omega) rfl ⟨_, rfl, ckI (by simp; omega) ⟨_, rfl, ?_⟩⟩))
              rw [show UInt8.ofNat 0 = 0 from rfl, hT k hk', UInt8.toNat_ofNat', u8_wrap]
              exact splitNE (fun h => absurd rfl h) (fun _ => wrapI (by omega) (by omega) ⟨⟨trivial, rfl⟩, k + 1, ⟨by omega⟩, by omega, rfl, rfl, rfl, rfl, trivial⟩)
            · obtain ⟨hd, h251⟩ := F.1 hf
              have hL0 := q1 0
              refine ckI rfl (ckI rfl (ldN (by omega) rfl ⟨_, rfl, ckI rfl ?_⟩))
              rw [w64 (((L.getD 0 0 : Nat) : Int) - 251) (by omega) (by omega), show ((L.getD 0 0 : Nat) : Int) - 251 = ((L.getD 0 0 - 251 : Nat) : Int) by omega, hset]
              have hG : valNM ((L.getD 0 0 - 251) :: List.replicate 17 0) = L.getD 0 0 - 251 := by
                have e0 : valNM (List.replicate 17 0) = 0 := by decide +kernel
                rw [valNM, e0]; omega
              have qG : ∀ j, ((L.getD 0 0 - 251) :: List.replicate 17 0).getD j 0 ≤ 255 := fun j => by
                cases j with
                | zero => rw [List.getD_cons_zero]; omega
                | succ j =>
                  rw [List.getD_cons_succ, List.getD_eq_getElem?_getD, List.getElem?_replicate]
                  split <;> exact Nat.zero_le _
              have hT : ∀ k, k < 16 → t.getD k 0 = UInt8.ofNat (((L.getD 0 0 - 251) :: List.replicate 17 0).getD k 0) := fun k hk => by
                rw [hV, ← d4, hd]
                rw [← hG, leB_val 16 _ (by simp) qG, hG]
                exact get_map _ hk (by simp)
              have lG : ((L.getD 0 0 - 251) :: List.replicate 17 0).length = 18 := rfl
              generalize ((L.getD 0 0 - 251) :: List.replicate 17 0) = G at *
              refine ⟨⟨0, ⟨by omega⟩, rfl, rfl, rfl, rfl, trivial⟩, ?_⟩
              rintro k ⟨hk⟩
              refine splitD (fun hk1 => ?_) (fun _ => hq)
              have hk' : k < 16 := by omega
              rw [Int.toNat_natCast, Nat.zero_add, Nat.mul_one, cellsN_len, lG]
              refine ckI (by simp; omega) (ckI (by simp; omega) (ldN (by omega) rfl ⟨_, rfl, ckI (by simp; omega) ⟨_, rfl, ?_⟩⟩))
              rw [show UInt8.ofNat 0 = 0 from rfl, hT k hk', UInt8.toNat_ofNat', u8_wrap]
              exact splitNE (fun h => absurd rfl h) (fun _ => wrapI (by omega) (by omega) ⟨⟨trivial, rfl⟩, k + 1, ⟨by omega⟩, by omega, rfl, rfl, rfl, rfl, trivial⟩)
        · have hfb : fullM L 1 = false := by rw [f1]; exact decide_eq_false (fun h => by omega)
          refine ⟨⟨1, ⟨by omega, by omega⟩, rfl, rfl, rfl, by rw [hfb], rfl, trivial⟩, ?_⟩
          rintro i ⟨i1, i2⟩
          refine splitD (fun hi => ?_) (fun hi => ?_)
          · have hi' : i < 16 := by omega
            have fs := full_step L i i1
            cases hf : fullM L i
            · rw [hf] at fs
              exact wrapI (by omega) (by omega) ⟨⟨trivial, rfl⟩, i + 1, ⟨by omega, by omega⟩, by omega, rfl, rfl, rfl, by rw [fs]; rfl, rfl, trivial⟩
            · rw [hf] at fs
              rw [Int.toNat_natCast, Nat.zero_add, Nat.mul_one]
              refine ckI (by simp; omega) (ckI (by simp; omega) (ldN (by omega) rfl (splitE (fun h => ?_) (fun h => ?_))))
              · exact wrapI (by omega) (by omega) ⟨⟨trivial, rfl⟩, i + 1, ⟨by omega, by omega⟩, by omega, rfl, rfl, rfl, by rw [fs, decide_eq_true (by omega)]; rfl, rfl, trivial⟩
              · exact wrapI (by omega) (by omega) ⟨⟨trivial, rfl⟩, i + 1, ⟨by omega, by omega⟩, by omega, rfl, rfl, rfl, by rw [fs, decide_eq_false (by omega)]; rfl, rfl, trivial⟩
          · obtain rfl : i = 16 := by omega
            cases hf : fullM L 16
            · have hd := F.2 hf
              have hT : ∀ k, k < 16 → t.getD k 0 = UInt8.ofNat (L.getD k 0) := fun k hk => by
                rw [hV, ← d4, hd, leB_val 16 L (by omega) q1]
                exact get_map L hk (by omega)
              refine ⟨⟨0, ⟨by omega⟩, rfl, rfl, rfl, rfl, trivial⟩, ?_⟩
              rintro k ⟨hk⟩
              refine splitD (fun hk1 => ?_) (fun _ => hq)
              have hk' : k < 16 := by omega
              rw [Int.toNat_natCast, Nat.zero_add, Nat.mul_one]
              refine ckI (by simp; omega) (ckI (by simp; omega) (ldN (by omega) rfl ⟨_, rfl, ckI (by simp; omega) ⟨_, rfl, ?_⟩⟩))
              rw [show UInt8.ofNat 0 = 0 from rfl, hT k hk', UInt8.toNat_ofNat', u8_wrap]
              exact splitNE (fun h => absurd rfl h) (fun _ => wrapI (by omega) (by omega) ⟨⟨trivial, rfl⟩, k + 1, ⟨by omega⟩, by omega, rfl, rfl, rfl, rfl, trivial⟩)
            · obtain ⟨hd, h251⟩ := F.1 hf
              have hL0 := q1 0
              refine ckI rfl (ckI rfl (ldN (by omega) rfl ⟨_, rfl, ckI rfl ?_⟩))
              rw [w64 (((L.getD 0 0 : Nat) : Int) - 251) (by omega) (by omega), show ((L.getD 0 0 : Nat) : Int) - 251 = ((L.getD 0 0 - 251 : Nat) : Int) by omega, hset]
              have hG : valNM ((L.getD 0 0 - 251) :: List.replicate 17 0) = L.getD 0 0 - 251 := by
                have e0 : valNM (List.replicate 17 0) = 0 := by decide +kernel
                rw [valNM, e0]; omega
              have qG : ∀ j, ((L.getD 0 0 - 251) :: List.replicate 17 0).getD j 0 ≤ 255 := fun j => by
                cases j with
                | zero => rw [List.getD_cons_zero]; omega
                | succ j =>
                  rw [List.getD_cons_succ, List.getD_eq_getElem?_getD, List.getElem?_replicate]
                  split <;> exact Nat.zero_le _
              have hT : ∀ k, k < 16 → t.getD k 0 = UInt8.ofNat (((L.getD 0 0 - 251) :: List.replicate 17 0).getD k 0) := fun k hk => by
                rw [hV, ← d4, hd]
                rw [← hG, leB_val 16 _ (by simp) qG, hG]
                exact get_map _ hk (by simp)
              have lG : ((L.getD 0 0 - 251) :: List.replicate 17 0).length = 18 := rfl
              generalize ((L.getD 0 0 - 251) :: List.replicate 17 0) = G at *
              refine ⟨⟨0, ⟨by omega⟩, rfl, rfl, rfl, rfl, trivial⟩, ?_⟩
              rintro k ⟨hk⟩
              refine splitD (fun hk1 => ?_) (fun _ => hq)
              have hk' : k < 16 := by omega
              rw [Int.toNat_natCast, Nat.zero_add, Nat.mul_one, cellsN_len, lG]
              refine ckI (by simp; omega) (ckI (by simp; omega) (ldN (by omega) rfl ⟨_, rfl, ckI (by simp; omega) ⟨_, rfl, ?_⟩⟩))
              rw [show UInt8.ofNat 0 = 0 from rfl, hT k hk', UInt8.toNat_ofNat', u8_wrap]
              exact splitNE (fun h => absurd rfl h) (fun _ => wrapI (by omega) (by omega) ⟨⟨trivial, rfl⟩, k + 1, ⟨by omega⟩, by omega, rfl, rfl, rfl, rfl, trivial⟩)
        · have hfb : fullM L 1 = false := by rw [f1]; exact decide_eq_false (fun h => by omega)
          refine ⟨⟨1, ⟨by omega, by omega⟩, rfl, rfl, rfl, by rw [hfb], rfl, trivial⟩, ?_⟩
          rintro i ⟨i1, i2⟩
          refine splitD (fun hi => ?_) (fun hi => ?_)
          · have hi' : i < 16 := by omega
            have fs := full_step L i i1
            cases hf : fullM L i
            · rw [hf] at fs
              exact wrapI (by omega) (by omega) ⟨⟨trivial, rfl⟩, i + 1, ⟨by omega, by omega⟩, by omega, rfl, rfl, rfl, by rw [fs]; rfl, rfl, trivial⟩
            · rw [hf] at fs
              rw [Int.toNat_natCast, Nat.zero_add, Nat.mul_one]
              refine ckI (by simp; omega) (ckI (by simp; omega) (ldN (by omega) rfl (splitE (fun h => ?_) (fun h => ?_))))
              · exact wrapI (by omega) (by omega) ⟨⟨trivial, rfl⟩, i + 1, ⟨by omega, by omega⟩, by omega, rfl, rfl, rfl, by rw [fs, decide_eq_true (by omega)]; rfl, rfl, trivial⟩
              · exact wrapI (by omega) (by omega) ⟨⟨trivial, rfl⟩, i + 1, ⟨by omega, by omega⟩, by omega, rfl, rfl, rfl, by rw [fs, decide_eq_false (by omega)]; rfl, rfl, trivial⟩
          · obtain rfl : i = 16 := by omega
            cases hf : fullM L 16
            · have hd := F.2 hf
              have hT : ∀ k, k < 16 → t.getD k 0 = UInt8.ofNat (L.getD k 0) := fun k hk => by
                rw [hV, ← d4, hd, leB_val 16 L (by omega) q1]
                exact get_map L hk (by omega)
              refine ⟨⟨0, ⟨by omega⟩, rfl, rfl, rfl, rfl, trivial⟩, ?_⟩
              rintro k ⟨hk⟩
              refine splitD (fun hk1 => ?_) (fun _ => hq)
              have hk' : k < 16 := by omega
              rw [Int.toNat_natCast, Nat.zero_add, Nat.mul_one]
              refine ckI (by simp; omega) (ckI (by simp; omega) (ldN (by omega) rfl ⟨_, rfl, ckI (by simp; omega) ⟨_, rfl, ?_⟩⟩))
              rw [show UInt8.ofNat 0 = 0 from rfl, hT k hk', UInt8.toNat_ofNat', u8_wrap]
              exact splitNE (fun h => absurd rfl h) (fun _ => wrapI (by omega) (by omega) ⟨⟨trivial, rfl⟩, k + 1, ⟨by omega⟩, by omega, rfl, rfl, rfl, rfl, trivial⟩)
            · obtain ⟨hd, h251⟩ := F.1 hf
              have hL0 := q1 0
              refine ckI rfl (ckI rfl (ldN (by omega) rfl ⟨_, rfl, ckI rfl ?_⟩))
              rw [w64 (((L.getD 0 0 : Nat) : Int) - 251) (by omega) (by omega), show ((L.getD 0 0 : Nat) : Int) - 251 = ((L.getD 0 0 - 251 : Nat) : Int) by omega, hset]
              have hG : valNM ((L.getD 0 0 - 251) :: List.replicate 17 0) = L.getD 0 0 - 251 := by
                have e0 : valNM (List.replicate 17 0) = 0 := by decide +kernel
                rw [valNM, e0]; omega
              have qG : ∀ j, ((L.getD 0 0 - 251) :: List.replicate 17 0).getD j 0 ≤ 255 := fun j => by
                cases j with
                | zero => rw [List.getD_cons_zero]; omega
                | succ j =>
                  rw [List.getD_cons_succ, List.getD_eq_getElem?_getD, List.getElem?_replicate]
                  split <;> exact Nat.zero_le _
              have hT : ∀ k, k < 16 → t.getD k 0 = UInt8.ofNat (((L.getD 0 0 - 251) :: List.replicate 17 0).getD k 0) := fun k hk => by
                rw [hV, ← d4, hd]
                rw [← hG, leB_val 16 _ (by simp) qG, hG]
                exact get_map _ hk (by simp)
              have lG : ((L.getD 0 0 - 251) :: List.replicate 17 0).length = 18 := rfl
              generalize ((L.getD 0 0 - 251) :: List.replicate 17 0) = G at *
              refine ⟨⟨0, ⟨by omega⟩, rfl, rfl, rfl, rfl, trivial⟩, ?_⟩
              rintro k ⟨hk⟩
              refine splitD (fun hk1 => ?_) (fun _ => hq)
              have hk' : k < 16 := by omega
              rw [Int.toNat_natCast, Nat.zero_add, Nat.mul_one, cellsN_len, lG]
              refine ckI (by simp; omega) (ckI (by simp; omega) (ldN (by omega) rfl ⟨_, rfl, ckI (by simp; omega) ⟨_, rfl, ?_⟩⟩))
              rw [show UInt8.ofNat 0 = 0 from rfl, hT k hk', UInt8.toNat_ofNat', u8_wrap]
              exact splitNE (fun h => absurd rfl h) (fun _ => wrapI (by omega) (by omega) ⟨⟨trivial, rfl⟩, k + 1, ⟨by omega⟩, by omega, rfl, rfl, rfl, rfl, trivial⟩)
end Go.Proofs.Ytlfbaakndklncaa
