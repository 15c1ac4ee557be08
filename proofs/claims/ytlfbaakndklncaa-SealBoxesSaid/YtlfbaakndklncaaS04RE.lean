/-
  Chapter 4: the reference's product.
-/
import Derived.Test.YtlfbaakndklncaaS04RD
set_option linter.unusedSimpArgs false
set_option linter.unusedVariables false
namespace Go.Proofs.Ytlfbaakndklncaa
open Go.RowKit
set_option maxRecDepth 1000000

abbrev X32 := Nat × List Nat
def pre32 (a b : List Nat) (p : X32) : Prop := p.1 ≤ a.length ∧ p.2.length = a.length + b.length + 1 ∧ valNM p.2 = valNM (a.take p.1) * valNM b ∧ (∀ j, p.2.getD j 0 ≤ 255) ∧ (∀ j, p.1 + b.length ≤ j → p.2.getD j 0 = 0)
def inv_32 (ta tb : Nat) (a b : List Nat) : LInv where
  α := X32
  pre p := Lf (pre32 a b p)
  st p := ⟨mkT [(0, .lst ta (cellsNM a) a.length 1), (1, .lst tb (cellsNM b) b.length 1), (5, .sl 0 (a.length + b.length + 1) 0 (a.length + b.length + 1) 1), (6, .int .i64 (p.1 : Nat))], [⟨.exact, true, cellsNM p.2⟩]⟩
  mu p := a.length - p.1
abbrev X32i := Nat × Nat × List Nat
def pre32i (a b : List Nat) (i : Nat) (L0 : List Nat) (p : X32i) : Prop := i < a.length ∧ p.2.2.length = a.length + b.length + 1 ∧ valNM p.2.2 + p.2.1 * 256 ^ (i + p.1) = valNM L0 + a.getD i 0 * 256 ^ i * valNM (b.take p.1) ∧ (∀ j, p.2.2.getD j 0 ≤ 255) ∧ p.2.1 ≤ 255 ∧ (p.1 ≤ b.length ∨ (p.1 = b.length + 1 ∧ p.2.1 = 0)) ∧ (∀ j, i + p.1 ≤ j → p.2.2.getD j 0 = L0.getD j 0)
def inv_32i (ta tb : Nat) (a b : List Nat) (s : S) : List (List LInv) := match s.tm.get 6, s.hp with
  | .int _ n, [bl] => [[{ α := X32i, pre := fun p => Lf (pre32i a b n.toNat (bl.cs.map unNM) p), st := fun p => ⟨mkT [(0, .lst ta (cellsNM a) a.length 1), (1, .lst tb (cellsNM b) b.length 1), (5, .sl 0 (a.length + b.length + 1) 0 (a.length + b.length + 1) 1), (6, .int .i64 n), (7, .int .i64 (p.2.1 : Nat)), (8, .int .i64 (p.1 : Nat))], [⟨.exact, true, cellsNM p.2.2⟩]⟩, mu := fun p => b.length + 1 - p.1 }]]
  | _, _ => []
noncomputable def env_32 (hv : Nat → Option Pa) (hb : Nat → Option Bool) (ta tb : Nat) (a b : List Nat) : Env := e04 sm0 (fun i => bif Nat.beq i 32000 then some (fun _ => [[inv_32 ta tb a b]]) else bif Nat.beq i 32002 then some (inv_32i ta tb a b) else none) hv hb
noncomputable def goal_32 (hv : Nat → Option Pa) (hb : Nat → Option Bool) (ta tb : Nat) (a b : List Nat) (Q : Out → List Blk → Gh → Prop) : Prop :=
  callx (env_32 hv hb ta tb a b) (wpx (env_32 hv hb ta tb a b) 1000) 32 [.lst ta (cellsNM a) a.length 1, .lst tb (cellsNM b) b.length 1] [] {} Q
theorem vc_32 (ta : Nat) (tb : Nat) (a : List Nat) (b : List Nat) (Q : Out → List Blk → Gh → Prop) : goal_32 (lookV [(131082, .int .i64), (131084, .int .i64), (131085, .int .i64), (131086, .int .i64), (131090, .int .i64), (131096, .int .i64), (131108, .int .i64), (131110, .int .i64), (131111, .int .i64), (131114, .int .i64), (131120, .int .i64), (131124, .int .i64), (131125, .int .i64), (131126, .int .i64), (131130, .int .i64), (131132, .int .i64), (131135, .int .i64), (131103, .int .i64), (131093, .int .i64)]) (lookB []) ta tb a b Q = (
(∃ n_0 : Int, (((AV.int .i64 (Nat.cast (List.length a) : Int)) = (AV.int .i64 n_0)) ∧
 (∃ n_1 : Int, (((AV.int .i64 (Nat.cast (List.length b) : Int)) = (AV.int .i64 n_1)) ∧
 (∃ n_2 : Int, (((AV.int .i64 (IntKind.wrap .i64 (n_0 + n_1))) = (AV.int .i64 n_2)) ∧
 (∃ n_3 : Int, (((AV.int .i64 (IntKind.wrap .i64 (n_2 + (1 : Int)))) = (AV.int .i64 n_3)) ∧
 (bif ((((decide ((0 : Int) ≤ n_3)) && (decide (n_3 ≤ n_3))) && (decide (n_3 ≤ (1099511627776 : Int)))) && (decide ((n_3 * (8 : Int)) ≤ (1099511627776 : Int)))) then ((∃ x_4 : (Prod Nat (List Nat)), ((Lf (pre32 a b x_4)) ∧
 (bif ((oldL (0 : Nat) (List.flatten (List.replicate (Int.toNat n_3) ((AV.int .i64 (0 : Int)) :: [])))) == true) then (((List.flatten (List.replicate (Int.toNat n_3) ((AV.int .i64 (0 : Int)) :: []))) = (cellsNM (Prod.snd x_4))) ∧
 (((AV.lst ta (cellsNM a) (List.length a) (1 : Nat)) = (AV.lst ta (cellsNM a) (List.length a) (1 : Nat))) ∧
 (((AV.lst tb (cellsNM b) (List.length b) (1 : Nat)) = (AV.lst tb (cellsNM b) (List.length b) (1 : Nat))) ∧
 (((AV.sl (0 : Nat) ((Int.toNat n_3) * (1 : Nat)) (0 : Nat) (Int.toNat n_3) (1 : Nat)) = (AV.sl (0 : Nat) (((List.length a) + (List.length b)) + (1 : Nat)) (0 : Nat) (((List.length a) + (List.length b)) + (1 : Nat)) (1 : Nat))) ∧
 (((AV.int .i64 (0 : Int)) = (AV.int .i64 (Nat.cast (Prod.fst x_4) : Int))) ∧
 True)))))
else False))) ∧
 (∀ x_4 : (Prod Nat (List Nat)), ((Lf (pre32 a b x_4)) →
(∃ n_5 : Int, (((AV.int .i64 (Nat.cast (List.length a) : Int)) = (AV.int .i64 n_5)) ∧
 (bif (decide ((Nat.cast (Prod.fst x_4) : Int) < n_5)) then ((∃ x_6 : (Prod Nat (Prod Nat (List Nat))), ((Lf (pre32i a b (Int.toNat (Nat.cast (Prod.fst x_4) : Int)) (List.map unNM (cellsNM (Prod.snd x_4))) x_6)) ∧
 (((cellsNM (Prod.snd x_4)) = (cellsNM (Prod.snd (Prod.snd x_6)))) ∧
 (((AV.lst ta (cellsNM a) (List.length a) (1 : Nat)) = (AV.lst ta (cellsNM a) (List.length a) (1 : Nat))) ∧
 (((AV.lst tb (cellsNM b) (List.length b) (1 : Nat)) = (AV.lst tb (cellsNM b) (List.length b) (1 : Nat))) ∧
 (((AV.int .i64 (0 : Int)) = (AV.int .i64 (Nat.cast (Prod.fst (Prod.snd x_6)) : Int))) ∧
 (((AV.sl (0 : Nat) (((List.length a) + (List.length b)) + (1 : Nat)) (0 : Nat) (((List.length a) + (List.length b)) + (1 : Nat)) (1 : Nat)) = (AV.sl (0 : Nat) (((List.length a) + (List.length b)) + (1 : Nat)) (0 : Nat) (((List.length a) + (List.length b)) + (1 : Nat)) (1 : Nat))) ∧
 (((AV.int .i64 (0 : Int)) = (AV.int .i64 (Nat.cast (Prod.fst x_6) : Int))) ∧
 (((AV.int .i64 (Nat.cast (Prod.fst x_4) : Int)) = (AV.int .i64 (Nat.cast (Prod.fst x_4) : Int))) ∧
 True))))))))) ∧
 (∀ x_6 : (Prod Nat (Prod Nat (List Nat))), ((Lf (pre32i a b (Int.toNat (Nat.cast (Prod.fst x_4) : Int)) (List.map unNM (cellsNM (Prod.snd x_4))) x_6)) →
(∃ n_7 : Int, (((AV.int .i64 (Nat.cast (List.length b) : Int)) = (AV.int .i64 n_7)) ∧
 (bif (decide ((Nat.cast (Prod.fst x_6) : Int) < n_7)) then (∃ n_8 : Int, (((AV.int .i64 (IntKind.wrap .i64 ((Nat.cast (Prod.fst x_4) : Int) + (Nat.cast (Prod.fst x_6) : Int)))) = (AV.int .i64 n_8)) ∧
 (bif ((((decide ((0 : Int) ≤ n_8)) && (Nat.blt (Int.toNat n_8) (((List.length a) + (List.length b)) + (1 : Nat)))) && (Nat.beq (List.length (cellsNM (Prod.snd (Prod.snd x_6)))) (((List.length a) + (List.length b)) + (1 : Nat)))) && true) then (bif ((Nat.beq (List.length (cellsNM (Prod.snd (Prod.snd x_6)))) (((List.length a) + (List.length b)) + (1 : Nat))) && (Nat.blt ((0 : Nat) + ((Int.toNat n_8) * (1 : Nat))) (((List.length a) + (List.length b)) + (1 : Nat)))) then (∃ n_9 : Int, (((List.getD (List.take (1 : Nat) (List.drop ((0 : Nat) + ((Int.toNat n_8) * (1 : Nat))) (cellsNM (Prod.snd (Prod.snd x_6))))) (0 : Nat) AV.undef) = (AV.int .i64 n_9)) ∧
 (∃ n_10 : Int, (((AV.int .i64 (IntKind.wrap .i64 ((Nat.cast (Prod.fst (Prod.snd x_6)) : Int) + n_9))) = (AV.int .i64 n_10)) ∧
 (∃ n_11 : Int, (((AV.int .i64 (Nat.cast (List.length b) : Int)) = (AV.int .i64 n_11)) ∧
 (bif (decide ((Nat.cast (Prod.fst x_6) : Int) < n_11)) then (bif ((Nat.blt (Int.toNat (Nat.cast (Prod.fst x_4) : Int)) (List.length a)) && true) then (bif (Nat.blt ((Int.toNat (Nat.cast (Prod.fst x_4) : Int)) * (1 : Nat)) (List.length (cellsNM a))) then (∃ n_12 : Int, (((List.getD (cellsNM a) ((Int.toNat (Nat.cast (Prod.fst x_4) : Int)) * (1 : Nat)) AV.undef) = (AV.int .i64 n_12)) ∧
 (bif ((Nat.blt (Int.toNat (Nat.cast (Prod.fst x_6) : Int)) (List.length b)) && true) then (bif (Nat.blt ((Int.toNat (Nat.cast (Prod.fst x_6) : Int)) * (1 : Nat)) (List.length (cellsNM b))) then (∃ n_13 : Int, (((List.getD (cellsNM b) ((Int.toNat (Nat.cast (Prod.fst x_6) : Int)) * (1 : Nat)) AV.undef) = (AV.int .i64 n_13)) ∧
 (∃ n_14 : Int, (((AV.int .i64 (IntKind.wrap .i64 (n_12 * n_13))) = (AV.int .i64 n_14)) ∧
 (∃ n_15 : Int, (((AV.int .i64 (IntKind.wrap .i64 (n_10 + n_14))) = (AV.int .i64 n_15)) ∧
 (∃ n_16 : Int, (((AV.int .i64 (IntKind.wrap .i64 ((Nat.cast (Prod.fst x_4) : Int) + (Nat.cast (Prod.fst x_6) : Int)))) = (AV.int .i64 n_16)) ∧
 (∃ n_17 : Int, (((AV.int .i64 (Int.tmod n_15 (256 : Int))) = (AV.int .i64 n_17)) ∧
 (bif ((((decide ((0 : Int) ≤ n_16)) && (Nat.blt (Int.toNat n_16) (((List.length a) + (List.length b)) + (1 : Nat)))) && (Nat.beq (List.length (cellsNM (Prod.snd (Prod.snd x_6)))) (((List.length a) + (List.length b)) + (1 : Nat)))) && true) then (bif (((((Nat.beq (List.length (cellsNM (Prod.snd (Prod.snd x_6)))) (((List.length a) + (List.length b)) + (1 : Nat))) && (Nat.ble (((0 : Nat) + ((Int.toNat n_16) * (1 : Nat))) + (1 : Nat)) (((List.length a) + (List.length b)) + (1 : Nat)))) && true) && true) && true) then (∃ n_18 : Int, (((AV.int .i64 (IntKind.wrap .i64 (Int.tdiv n_15 (256 : Int)))) = (AV.int .i64 n_18)) ∧
 (∃ n_19 : Int, (((AV.int .i64 (IntKind.wrap .i64 ((Nat.cast (Prod.fst x_6) : Int) + (1 : Int)))) = (AV.int .i64 n_19)) ∧
 ((True ∧
 ((0 : Nat) = (0 : Nat))) ∧
 (∃ y_20 : (Prod Nat (Prod Nat (List Nat))), ((Lf (pre32i a b (Int.toNat (Nat.cast (Prod.fst x_4) : Int)) (List.map unNM (cellsNM (Prod.snd x_4))) y_20)) ∧
 (((((List.length b) + (1 : Nat)) - (Prod.fst y_20)) < (((List.length b) + (1 : Nat)) - (Prod.fst x_6))) ∧
 (((setRange (cellsNM (Prod.snd (Prod.snd x_6))) ((0 : Nat) + ((Int.toNat n_16) * (1 : Nat))) ((AV.int .i64 n_17) :: [])) = (cellsNM (Prod.snd (Prod.snd y_20)))) ∧
 (((AV.lst ta (cellsNM a) (List.length a) (1 : Nat)) = (AV.lst ta (cellsNM a) (List.length a) (1 : Nat))) ∧
 (((AV.lst tb (cellsNM b) (List.length b) (1 : Nat)) = (AV.lst tb (cellsNM b) (List.length b) (1 : Nat))) ∧
 (((AV.int .i64 n_18) = (AV.int .i64 (Nat.cast (Prod.fst (Prod.snd y_20)) : Int))) ∧
 (((AV.sl (0 : Nat) (((List.length a) + (List.length b)) + (1 : Nat)) (0 : Nat) (((List.length a) + (List.length b)) + (1 : Nat)) (1 : Nat)) = (AV.sl (0 : Nat) (((List.length a) + (List.length b)) + (1 : Nat)) (0 : Nat) (((List.length a) + (List.length b)) + (1 : Nat)) (1 : Nat))) ∧
 (((AV.int .i64 n_19) = (AV.int .i64 (Nat.cast (Prod.fst y_20) : Int))) ∧
 (((AV.int .i64 (Nat.cast (Prod.fst x_4) : Int)) = (AV.int .i64 (Nat.cast (Prod.fst x_4) : Int))) ∧
 True)))))))))))))))
else False)
else False)))))))))))
else False)
else False)))
else False)
else False)
else (∃ n_12 : Int, (((AV.int .i64 (IntKind.wrap .i64 ((Nat.cast (Prod.fst x_4) : Int) + (Nat.cast (Prod.fst x_6) : Int)))) = (AV.int .i64 n_12)) ∧
 (∃ n_13 : Int, (((AV.int .i64 (Int.tmod n_10 (256 : Int))) = (AV.int .i64 n_13)) ∧
 (bif ((((decide ((0 : Int) ≤ n_12)) && (Nat.blt (Int.toNat n_12) (((List.length a) + (List.length b)) + (1 : Nat)))) && (Nat.beq (List.length (cellsNM (Prod.snd (Prod.snd x_6)))) (((List.length a) + (List.length b)) + (1 : Nat)))) && true) then (bif (((((Nat.beq (List.length (cellsNM (Prod.snd (Prod.snd x_6)))) (((List.length a) + (List.length b)) + (1 : Nat))) && (Nat.ble (((0 : Nat) + ((Int.toNat n_12) * (1 : Nat))) + (1 : Nat)) (((List.length a) + (List.length b)) + (1 : Nat)))) && true) && true) && true) then (∃ n_14 : Int, (((AV.int .i64 (IntKind.wrap .i64 (Int.tdiv n_10 (256 : Int)))) = (AV.int .i64 n_14)) ∧
 (∃ n_15 : Int, (((AV.int .i64 (IntKind.wrap .i64 ((Nat.cast (Prod.fst x_6) : Int) + (1 : Int)))) = (AV.int .i64 n_15)) ∧
 ((True ∧
 ((0 : Nat) = (0 : Nat))) ∧
 (∃ y_16 : (Prod Nat (Prod Nat (List Nat))), ((Lf (pre32i a b (Int.toNat (Nat.cast (Prod.fst x_4) : Int)) (List.map unNM (cellsNM (Prod.snd x_4))) y_16)) ∧
 (((((List.length b) + (1 : Nat)) - (Prod.fst y_16)) < (((List.length b) + (1 : Nat)) - (Prod.fst x_6))) ∧
 (((setRange (cellsNM (Prod.snd (Prod.snd x_6))) ((0 : Nat) + ((Int.toNat n_12) * (1 : Nat))) ((AV.int .i64 n_13) :: [])) = (cellsNM (Prod.snd (Prod.snd y_16)))) ∧
 (((AV.lst ta (cellsNM a) (List.length a) (1 : Nat)) = (AV.lst ta (cellsNM a) (List.length a) (1 : Nat))) ∧
 (((AV.lst tb (cellsNM b) (List.length b) (1 : Nat)) = (AV.lst tb (cellsNM b) (List.length b) (1 : Nat))) ∧
 (((AV.int .i64 n_14) = (AV.int .i64 (Nat.cast (Prod.fst (Prod.snd y_16)) : Int))) ∧
 (((AV.sl (0 : Nat) (((List.length a) + (List.length b)) + (1 : Nat)) (0 : Nat) (((List.length a) + (List.length b)) + (1 : Nat)) (1 : Nat)) = (AV.sl (0 : Nat) (((List.length a) + (List.length b)) + (1 : Nat)) (0 : Nat) (((List.length a) + (List.length b)) + (1 : Nat)) (1 : Nat))) ∧
 (((AV.int .i64 n_15) = (AV.int .i64 (Nat.cast (Prod.fst y_16) : Int))) ∧
 (((AV.int .i64 (Nat.cast (Prod.fst x_4) : Int)) = (AV.int .i64 (Nat.cast (Prod.fst x_4) : Int))) ∧
 True)))))))))))))))
else False)
else False))))))))))))
else False)
else False)))
else (bif (decide ((Nat.cast (Prod.fst (Prod.snd x_6)) : Int) > (0 : Int))) then (∃ n_8 : Int, (((AV.int .i64 (IntKind.wrap .i64 ((Nat.cast (Prod.fst x_4) : Int) + (Nat.cast (Prod.fst x_6) : Int)))) = (AV.int .i64 n_8)) ∧
 (bif ((((decide ((0 : Int) ≤ n_8)) && (Nat.blt (Int.toNat n_8) (((List.length a) + (List.length b)) + (1 : Nat)))) && (Nat.beq (List.length (cellsNM (Prod.snd (Prod.snd x_6)))) (((List.length a) + (List.length b)) + (1 : Nat)))) && true) then (bif ((Nat.beq (List.length (cellsNM (Prod.snd (Prod.snd x_6)))) (((List.length a) + (List.length b)) + (1 : Nat))) && (Nat.blt ((0 : Nat) + ((Int.toNat n_8) * (1 : Nat))) (((List.length a) + (List.length b)) + (1 : Nat)))) then (∃ n_9 : Int, (((List.getD (List.take (1 : Nat) (List.drop ((0 : Nat) + ((Int.toNat n_8) * (1 : Nat))) (cellsNM (Prod.snd (Prod.snd x_6))))) (0 : Nat) AV.undef) = (AV.int .i64 n_9)) ∧
 (∃ n_10 : Int, (((AV.int .i64 (IntKind.wrap .i64 ((Nat.cast (Prod.fst (Prod.snd x_6)) : Int) + n_9))) = (AV.int .i64 n_10)) ∧
 (∃ n_11 : Int, (((AV.int .i64 (Nat.cast (List.length b) : Int)) = (AV.int .i64 n_11)) ∧
 (bif (decide ((Nat.cast (Prod.fst x_6) : Int) < n_11)) then (bif ((Nat.blt (Int.toNat (Nat.cast (Prod.fst x_4) : Int)) (List.length a)) && true) then (bif (Nat.blt ((Int.toNat (Nat.cast (Prod.fst x_4) : Int)) * (1 : Nat)) (List.length (cellsNM a))) then (∃ n_12 : Int, (((List.getD (cellsNM a) ((Int.toNat (Nat.cast (Prod.fst x_4) : Int)) * (1 : Nat)) AV.undef) = (AV.int .i64 n_12)) ∧
 (bif ((Nat.blt (Int.toNat (Nat.cast (Prod.fst x_6) : Int)) (List.length b)) && true) then (bif (Nat.blt ((Int.toNat (Nat.cast (Prod.fst x_6) : Int)) * (1 : Nat)) (List.length (cellsNM b))) then (∃ n_13 : Int, (((List.getD (cellsNM b) ((Int.toNat (Nat.cast (Prod.fst x_6) : Int)) * (1 : Nat)) AV.undef) = (AV.int .i64 n_13)) ∧
 (∃ n_14 : Int, (((AV.int .i64 (IntKind.wrap .i64 (n_12 * n_13))) = (AV.int .i64 n_14)) ∧
 (∃ n_15 : Int, (((AV.int .i64 (IntKind.wrap .i64 (n_10 + n_14))) = (AV.int .i64 n_15)) ∧
 (∃ n_16 : Int, (((AV.int .i64 (IntKind.wrap .i64 ((Nat.cast (Prod.fst x_4) : Int) + (Nat.cast (Prod.fst x_6) : Int)))) = (AV.int .i64 n_16)) ∧
 (∃ n_17 : Int, (((AV.int .i64 (Int.tmod n_15 (256 : Int))) = (AV.int .i64 n_17)) ∧
 (bif ((((decide ((0 : Int) ≤ n_16)) && (Nat.blt (Int.toNat n_16) (((List.length a) + (List.length b)) + (1 : Nat)))) && (Nat.beq (List.length (cellsNM (Prod.snd (Prod.snd x_6)))) (((List.length a) + (List.length b)) + (1 : Nat)))) && true) then (bif (((((Nat.beq (List.length (cellsNM (Prod.snd (Prod.snd x_6)))) (((List.length a) + (List.length b)) + (1 : Nat))) && (Nat.ble (((0 : Nat) + ((Int.toNat n_16) * (1 : Nat))) + (1 : Nat)) (((List.length a) + (List.length b)) + (1 : Nat)))) && true) && true) && true) then (∃ n_18 : Int, (((AV.int .i64 (IntKind.wrap .i64 (Int.tdiv n_15 (256 : Int)))) = (AV.int .i64 n_18)) ∧
 (∃ n_19 : Int, (((AV.int .i64 (IntKind.wrap .i64 ((Nat.cast (Prod.fst x_6) : Int) + (1 : Int)))) = (AV.int .i64 n_19)) ∧
 ((True ∧
 ((0 : Nat) = (0 : Nat))) ∧
 (∃ y_20 : (Prod Nat (Prod Nat (List Nat))), ((Lf (pre32i a b (Int.toNat (Nat.cast (Prod.fst x_4) : Int)) (List.map unNM (cellsNM (Prod.snd x_4))) y_20)) ∧
 (((((List.length b) + (1 : Nat)) - (Prod.fst y_20)) < (((List.length b) + (1 : Nat)) - (Prod.fst x_6))) ∧
 (((setRange (cellsNM (Prod.snd (Prod.snd x_6))) ((0 : Nat) + ((Int.toNat n_16) * (1 : Nat))) ((AV.int .i64 n_17) :: [])) = (cellsNM (Prod.snd (Prod.snd y_20)))) ∧
 (((AV.lst ta (cellsNM a) (List.length a) (1 : Nat)) = (AV.lst ta (cellsNM a) (List.length a) (1 : Nat))) ∧
 (((AV.lst tb (cellsNM b) (List.length b) (1 : Nat)) = (AV.lst tb (cellsNM b) (List.length b) (1 : Nat))) ∧
 (((AV.int .i64 n_18) = (AV.int .i64 (Nat.cast (Prod.fst (Prod.snd y_20)) : Int))) ∧
 (((AV.sl (0 : Nat) (((List.length a) + (List.length b)) + (1 : Nat)) (0 : Nat) (((List.length a) + (List.length b)) + (1 : Nat)) (1 : Nat)) = (AV.sl (0 : Nat) (((List.length a) + (List.length b)) + (1 : Nat)) (0 : Nat) (((List.length a) + (List.length b)) + (1 : Nat)) (1 : Nat))) ∧
 (((AV.int .i64 n_19) = (AV.int .i64 (Nat.cast (Prod.fst y_20) : Int))) ∧
 (((AV.int .i64 (Nat.cast (Prod.fst x_4) : Int)) = (AV.int .i64 (Nat.cast (Prod.fst x_4) : Int))) ∧
 True)))))))))))))))
else False)
else False)))))))))))
else False)
else False)))
else False)
else False)
else (∃ n_12 : Int, (((AV.int .i64 (IntKind.wrap .i64 ((Nat.cast (Prod.fst x_4) : Int) + (Nat.cast (Prod.fst x_6) : Int)))) = (AV.int .i64 n_12)) ∧
 (∃ n_13 : Int, (((AV.int .i64 (Int.tmod n_10 (256 : Int))) = (AV.int .i64 n_13)) ∧
 (bif ((((decide ((0 : Int) ≤ n_12)) && (Nat.blt (Int.toNat n_12) (((List.length a) + (List.length b)) + (1 : Nat)))) && (Nat.beq (List.length (cellsNM (Prod.snd (Prod.snd x_6)))) (((List.length a) + (List.length b)) + (1 : Nat)))) && true) then (bif (((((Nat.beq (List.length (cellsNM (Prod.snd (Prod.snd x_6)))) (((List.length a) + (List.length b)) + (1 : Nat))) && (Nat.ble (((0 : Nat) + ((Int.toNat n_12) * (1 : Nat))) + (1 : Nat)) (((List.length a) + (List.length b)) + (1 : Nat)))) && true) && true) && true) then (∃ n_14 : Int, (((AV.int .i64 (IntKind.wrap .i64 (Int.tdiv n_10 (256 : Int)))) = (AV.int .i64 n_14)) ∧
 (∃ n_15 : Int, (((AV.int .i64 (IntKind.wrap .i64 ((Nat.cast (Prod.fst x_6) : Int) + (1 : Int)))) = (AV.int .i64 n_15)) ∧
 ((True ∧
 ((0 : Nat) = (0 : Nat))) ∧
 (∃ y_16 : (Prod Nat (Prod Nat (List Nat))), ((Lf (pre32i a b (Int.toNat (Nat.cast (Prod.fst x_4) : Int)) (List.map unNM (cellsNM (Prod.snd x_4))) y_16)) ∧
 (((((List.length b) + (1 : Nat)) - (Prod.fst y_16)) < (((List.length b) + (1 : Nat)) - (Prod.fst x_6))) ∧
 (((setRange (cellsNM (Prod.snd (Prod.snd x_6))) ((0 : Nat) + ((Int.toNat n_12) * (1 : Nat))) ((AV.int .i64 n_13) :: [])) = (cellsNM (Prod.snd (Prod.snd y_16)))) ∧
 (((AV.lst ta (cellsNM a) (List.length a) (1 : Nat)) = (AV.lst ta (cellsNM a) (List.length a) (1 : Nat))) ∧
 (((AV.lst tb (cellsNM b) (List.length b) (1 : Nat)) = (AV.lst tb (cellsNM b) (List.length b) (1 : Nat))) ∧
 (((AV.int .i64 n_14) = (AV.int .i64 (Nat.cast (Prod.fst (Prod.snd y_16)) : Int))) ∧
 (((AV.sl (0 : Nat) (((List.length a) + (List.length b)) + (1 : Nat)) (0 : Nat) (((List.length a) + (List.length b)) + (1 : Nat)) (1 : Nat)) = (AV.sl (0 : Nat) (((List.length a) + (List.length b)) + (1 : Nat)) (0 : Nat) (((List.length a) + (List.length b)) + (1 : Nat)) (1 : Nat))) ∧
 (((AV.int .i64 n_15) = (AV.int .i64 (Nat.cast (Prod.fst y_16) : Int))) ∧
 (((AV.int .i64 (Nat.cast (Prod.fst x_4) : Int)) = (AV.int .i64 (Nat.cast (Prod.fst x_4) : Int))) ∧
 True)))))))))))))))
else False)
else False))))))))))))
else False)
else False)))
else (∃ n_8 : Int, (((AV.int .i64 (IntKind.wrap .i64 ((Nat.cast (Prod.fst x_4) : Int) + (1 : Int)))) = (AV.int .i64 n_8)) ∧
 ((True ∧
 ((0 : Nat) = (0 : Nat))) ∧
 (∃ y_9 : (Prod Nat (List Nat)), ((Lf (pre32 a b y_9)) ∧
 ((((List.length a) - (Prod.fst y_9)) < ((List.length a) - (Prod.fst x_4))) ∧
 (((cellsNM (Prod.snd (Prod.snd x_6))) = (cellsNM (Prod.snd y_9))) ∧
 (((AV.lst ta (cellsNM a) (List.length a) (1 : Nat)) = (AV.lst ta (cellsNM a) (List.length a) (1 : Nat))) ∧
 (((AV.lst tb (cellsNM b) (List.length b) (1 : Nat)) = (AV.lst tb (cellsNM b) (List.length b) (1 : Nat))) ∧
 (((AV.sl (0 : Nat) (((List.length a) + (List.length b)) + (1 : Nat)) (0 : Nat) (((List.length a) + (List.length b)) + (1 : Nat)) (1 : Nat)) = (AV.sl (0 : Nat) (((List.length a) + (List.length b)) + (1 : Nat)) (0 : Nat) (((List.length a) + (List.length b)) + (1 : Nat)) (1 : Nat))) ∧
 (((AV.int .i64 n_8) = (AV.int .i64 (Nat.cast (Prod.fst y_9) : Int))) ∧
 True))))))))))))))))))
else (Q (Out.ret (AV.sl (0 : Nat) (((List.length a) + (List.length b)) + (1 : Nat)) (0 : Nat) (((List.length a) + (List.length b)) + (1 : Nat)) (1 : Nat))) ((Blk.mk BK.exact true (cellsNM (Prod.snd x_4))) :: []) (Gh.mk (0 : Nat) (0 : Nat) []))))))))
else False)))))))))) := by kernel_rfl

theorem get_over {l : List Nat} {j : Nat} (h : ¬ j < l.length) : l.getD j 0 = 0 := by
  rw [List.getD_eq_getElem?_getD, List.getElem?_eq_none (by omega)]; rfl
theorem step32 {a b L0 L : List Nat} {i k c : Nat} (ha : ∀ j, a.getD j 0 ≤ 255) (hb : ∀ j, b.getD j 0 ≤ 255) (h : pre32i a b i L0 (k, c, L)) (hk : k < b.length ∨ 0 < c) (h0 : ∀ j, i + b.length ≤ j → L0.getD j 0 = 0) (t : Nat) (ht : t = c + L.getD (i + k) 0 + a.getD i 0 * b.getD k 0) :
    i + k < L.length ∧ t ≤ 65535 ∧ pre32i a b i L0 (k + 1, t / 256, L.set (i + k) (t % 256)) ∧ b.length + 1 - (k + 1) < b.length + 1 - k := by
  obtain ⟨h1, h2, h3, h4, h5, h6, h7⟩ := h
  dsimp only at h1 h2 h3 h4 h5 h6 h7
  have hai := ha i
  have hbk := hb k
  have hL := h4 (i + k)
  have hm : a.getD i 0 * b.getD k 0 ≤ 255 * 255 := Nat.mul_le_mul hai hbk
  have hlt : i + k < L.length := by omega
  have ht2 : t ≤ 65535 := by omega
  have vs := val_set L (i + k) (t % 256) hlt
  have vt := val_take b k
  have hp : 256 ^ (i + (k + 1)) = 256 ^ (i + k) * 256 := by rw [← Nat.add_assoc, Nat.pow_succ]
  have q1 : t % 256 * 256 ^ (i + k) + t / 256 * (256 ^ (i + k) * 256) = t * 256 ^ (i + k) := by
    rw [Nat.mul_comm (256 ^ (i + k)) 256, ← Nat.mul_assoc, ← Nat.add_mul]
    congr 1
    omega
  have q2 : t * 256 ^ (i + k) = c * 256 ^ (i + k) + L.getD (i + k) 0 * 256 ^ (i + k) + a.getD i 0 * b.getD k 0 * 256 ^ (i + k) := by rw [ht, Nat.add_mul, Nat.add_mul]
  have q3 : a.getD i 0 * 256 ^ i * (valNM (b.take k) + 256 ^ k * b.getD k 0) = a.getD i 0 * 256 ^ i * valNM (b.take k) + a.getD i 0 * b.getD k 0 * 256 ^ (i + k) := by
    rw [Nat.mul_add, Nat.pow_add]
    congr 1
    simp only [Nat.mul_assoc, Nat.mul_comm, Nat.mul_left_comm]
  refine ⟨hlt, ht2, ⟨h1, by dsimp only; rw [List.length_set]; exact h2, ?_, fun j => ?_, by dsimp only; omega, ?_, fun j hj => ?_⟩, by omega⟩
  · dsimp only
    rw [hp, vt, q3]
    omega
  · dsimp only
    rw [set_get _ _ _ _ hlt]
    split
    · omega
    · exact h4 j
  · dsimp only
    by_cases h8 : k < b.length
    · exact .inl h8
    · refine .inr ⟨by omega, ?_⟩
      have e1 : k = b.length := by omega
      have e2 := h7 (i + k) (Nat.le_refl _)
      rw [h0 (i + k) (by omega)] at e2
      rw [get_over h8, Nat.mul_zero, e2] at ht
      omega
  · dsimp only at hj ⊢
    rw [set_get _ _ _ _ hlt, if_neg (by omega)]
    exact h7 j (by omega)
/-- a row is done -/
theorem row32 {a b L0 L : List Nat} {i k c : Nat} (h0 : pre32 a b (i, L0)) (h : pre32i a b i L0 (k, c, L)) (hk : ¬ k < b.length) (hc : ¬ 0 < c) : pre32 a b (i + 1, L) := by
  obtain ⟨g1, g2, g3, g4, g5⟩ := h0
  obtain ⟨h1, h2, h3, h4, h5, h6, h7⟩ := h
  dsimp only at g1 g2 g3 g4 g5 h1 h2 h3 h4 h5 h6 h7
  obtain rfl : c = 0 := by omega
  refine ⟨h1, h2, ?_, h4, fun j hj => ?_⟩
  · dsimp only
    rw [List.take_of_length_le (by omega), Nat.zero_mul, Nat.add_zero] at h3
    rw [h3, g3, val_take, Nat.add_mul, Nat.mul_comm (256 ^ i)]
  · dsimp only at hj ⊢
    rw [h7 j (by omega), g5 j (by omega)]
theorem prod_run (ta tb : Nat) (a b : List Nat) (ha : ∀ j, a.getD j 0 ≤ 255) (hb : ∀ j, b.getD j 0 ≤ 255) (hla : a.length ≤ 1000) (hlb : b.length ≤ 1000) (Q : Out → List Blk → Gh → Prop)
    (hq : ∀ l, valNM l = valNM a * valNM b → (∀ j, l.getD j 0 ≤ 255) → l.length = a.length + b.length + 1 → Q (.ret (.sl 0 l.length 0 l.length 1)) [⟨.exact, true, cellsNM l⟩] {}) : ∃ hv hb, goal_32 hv hb ta tb a b Q := by
  obtain ⟨hv, hb', e⟩ : ∃ hv hb, goal_32 hv hb ta tb a b Q = _ := ⟨_, _, vc_32 ta tb a b Q⟩
  refine ⟨hv, hb', e.mpr ?_⟩
  clear e
  have z : ∀ n, List.flatten (List.replicate n [AV.int .i64 0]) = cellsNM (List.replicate n 0) := fun n => by
    induction n with
    | zero => rfl
    | succ k ih => rw [List.replicate_succ, List.flatten_cons, ih]; rfl
  have zv : ∀ n, valNM (List.replicate n 0) = 0 := fun n => by
    induction n with
    | zero => rfl
    | succ k ih => rw [List.replicate_succ, valNM, ih]
  have zg : ∀ n j, (List.replicate n 0).getD j 0 = 0 := fun n j => by
    rw [List.getD_eq_getElem?_getD, List.getElem?_replicate]
    split <;> rfl
  have en : ((a.length : Int) + (b.length : Int) + 1).toNat = a.length + b.length + 1 := by omega
  refine ⟨_, rfl, _, rfl, wrapI (by omega) (by omega) (wrapI (by omega) (by omega) (ckI (by simp; omega) ?_))⟩
  rw [en, z, Nat.mul_one]
  refine ⟨⟨(0, List.replicate (a.length + b.length + 1) 0), ⟨Nat.zero_le _, by simp, by simp [zv, valNM], fun j => by dsimp only; rw [zg]; omega, fun j _ => by dsimp only; rw [zg]⟩, ckI (by rw [oldL_N]; rfl) ⟨rfl, rfl, rfl, rfl, rfl, trivial⟩⟩, ?_⟩
  rintro ⟨i, L0⟩ ⟨g⟩
  have g' := g
  obtain ⟨g1, g2, g3, g4, g5⟩ := g'
  dsimp only at *
  refine ⟨_, rfl, splitD (fun hi => ?_) (fun hi => ?_)⟩
  · have hi' : i < a.length := by omega
    rw [unN_map, Int.toNat_natCast]
    refine ⟨⟨(0, 0, L0), ⟨hi', g2, by simp [valNM], g4, by dsimp only; omega, .inl (Nat.zero_le _), fun j _ => rfl⟩, rfl, rfl, rfl, rfl, rfl, rfl, rfl, trivial⟩, ?_⟩
    rintro ⟨k, c, L⟩ ⟨h⟩
    have h' := h
    obtain ⟨h1, h2, h3, h4, h5, h6, h7⟩ := h'
    dsimp only at *
    have hLi := h4 (i + k)
    have hai := ha i
    have hbk := hb k
    have eik : ((i : Int) + (k : Int)).toNat = i + k := by omega
    have hmn : a.getD i 0 * b.getD k 0 ≤ 255 * 255 := Nat.mul_le_mul hai hbk
    have hmi : ((a.getD i 0 : Nat) : Int) * ((b.getD k 0 : Nat) : Int) = ((a.getD i 0 * b.getD k 0 : Nat) : Int) := (Int.natCast_mul _ _).symm
    have w64 : ∀ x : Int, 0 ≤ x → x ≤ 1000000000 → IntKind.wrap .i64 x = x := fun x h1 h2 => by rw [IntKind.wrap_i64]; omega
    have tq : ∀ x : Nat, Int.tdiv (x : Int) 256 = ((x / 256 : Nat) : Int) := fun x => by rw [Int.tdiv_eq_ediv_of_nonneg (by omega)]; omega
    have tm : ∀ x : Nat, Int.tmod (x : Int) 256 = ((x % 256 : Nat) : Int) := fun x => by rw [Int.tmod_eq_emod_of_nonneg (by omega)]; omega
    refine ⟨_, rfl, splitD (fun hk => ?_) (fun hk => ?_)⟩
    · obtain ⟨s1, s2, s3, s4⟩ := step32 ha hb h (.inl (by omega)) g5 _ rfl
      refine wrapI (by omega) (by omega) ?_
      rw [eik, Nat.zero_add, Nat.mul_one, cellsN_len, h2]
      refine ckI (by simp; omega) (ckI (by simp; omega) (ldN s1 rfl (wrapI (by omega) (by omega) ⟨_, rfl, splitD (fun _ => ?_) (fun hx => absurd hk hx)⟩)))
      rw [Int.toNat_natCast, Nat.mul_one, Nat.mul_one]
      refine ckI (by simp; omega) (ckI (by simp [cellsN_len]; omega) (getN (j := i) (by omega) rfl (ckI (by simp; omega) (ckI (by simp [cellsN_len]; omega) (getN (j := k) (by omega) rfl ?_)))))
      rw [hmi]
      refine wrapI (by omega) (by omega) (wrapI (by omega) (by omega) (wrapI (by omega) (by omega) ⟨_, rfl, ?_⟩))
      rw [show (c : Int) + ((L.getD (i + k) 0 : Nat) : Int) + ((a.getD i 0 * b.getD k 0 : Nat) : Int) = ((c + L.getD (i + k) 0 + a.getD i 0 * b.getD k 0 : Nat) : Int) by omega, tm, tq, eik, Nat.zero_add, Nat.mul_one, stN s1 rfl]
      refine ckI (by simp; omega) (ckI (by simp; omega) (wrapI (by omega) (by omega) (wrapI (by omega) (by omega) ⟨⟨trivial, rfl⟩, (k + 1, (c + L.getD (i + k) 0 + a.getD i 0 * b.getD k 0) / 256, L.set (i + k) ((c + L.getD (i + k) 0 + a.getD i 0 * b.getD k 0) % 256)), ⟨s3⟩, s4, rfl, rfl, rfl, rfl, rfl, rfl, rfl, trivial⟩)))
    · have hkb : ¬ k < b.length := by omega
      refine splitD (fun hc => ?_) (fun hc => ?_)
      · obtain ⟨s1, s2, s3, s4⟩ := step32 ha hb h (.inr (by omega)) g5 (c + L.getD (i + k) 0) (by rw [get_over hkb, Nat.mul_zero, Nat.add_zero])
        refine wrapI (by omega) (by omega) ?_
        rw [eik, Nat.zero_add, Nat.mul_one, cellsN_len, h2]
        refine ckI (by simp; omega) (ckI (by simp; omega) (ldN s1 rfl (wrapI (by omega) (by omega) ⟨_, rfl, splitD (fun hx => absurd hx hk) (fun _ => wrapI (by omega) (by omega) ⟨_, rfl, ?_⟩)⟩)))
        rw [← Int.natCast_add c, tm, tq, eik, Nat.zero_add, Nat.mul_one, stN s1 rfl]
        refine ckI (by simp; omega) (ckI (by simp; omega) (wrapI (by omega) (by omega) (wrapI (by omega) (by omega) ⟨⟨trivial, rfl⟩, (k + 1, (c + L.getD (i + k) 0) / 256, L.set (i + k) ((c + L.getD (i + k) 0) % 256)), ⟨s3⟩, s4, rfl, rfl, rfl, rfl, rfl, rfl, rfl, trivial⟩)))
      · exact wrapI (by omega) (by omega) ⟨⟨trivial, rfl⟩, (i + 1, L), ⟨row32 g h hkb (by omega)⟩, by dsimp only; omega, rfl, rfl, rfl, rfl, rfl, trivial⟩
  · have e2 : i = a.length := by omega
    rw [List.take_of_length_le (by omega)] at g3
    have hh := hq L0 g3 g4 g2
    rw [g2] at hh
    exact hh
def cProd : Con
  | [.lst ta ca na 1, .lst tb cb nb 1], H, K => ∃ a b : List Nat, Lf (numK ta ca na a ∧ numK tb cb nb b ∧ a.length ≤ 1000 ∧ b.length ≤ 1000) ∧ ∀ l : List Nat, Lf (valNM l = valNM a * valNM b ∧ (∀ j, l.getD j 0 ≤ 255) ∧ l.length = a.length + b.length + 1) → K (.ret (.lst 0 (cellsNM l) l.length 1)) H
  | _, _, _ => False
theorem prod_raw : ValidF Try.prog gl0 32 cProd := by
  refine valid_frz (enters_of (by kernel_rfl)) gl0_noY 9 (nlR [1]) (wk_nlR _) fun args H Q hc => ?_
  unfold cProd at hc
  split at hc
  · rename_i ta ca na tb cb nb
    obtain ⟨a, b, ⟨⟨rfl, rfl, ha, _⟩, ⟨rfl, rfl, hb, _⟩, hla, hlb⟩, hq⟩ := hc
    obtain ⟨hv, hb', h⟩ := prod_run ta tb a b ha hb hla hlb (fun o H' _ => ∃ v, o = .ret v ∧ Q (.ret (nlR [1] (frzV 0 H' 9 v))) H)
      (fun l h1 h2 h3 => ⟨_, rfl, by
        rw [frz_sl (τ := 0) (d := 7) (id := 0) (tot := l.length) (off := 0) (len := l.length) (sz := 1) (b := ⟨.exact, true, cellsNM l⟩) (cs := cellsNM l) rfl (cellsN_len l) (by omega) (by simp) (by rw [List.drop_zero]; exact List.take_of_length_le (by rw [cellsN_len]; omega)) (plain_cellsN l)]
        exact hq l ⟨h1, h2, h3⟩⟩)
    exact ⟨by simp [oldL, old, oldL_N], by simp [noYL, noY, noY_N], _, 1000, envFor04 sm0_ok _ _ _, rfl, h⟩
  · exact hc.elim
def cProdV : Con := fun args H Q => lendL [1, 1] H args fun a => cProd a H Q
theorem prod_ok : ValidF Try.prog gl0 32 cProdV := valid_view prod_raw gl0_noY [1, 1] fun args H Q hc => by
  unfold cProd at hc
  split at hc
  · obtain ⟨a, b, h, hq⟩ := hc
    exact ⟨a, b, h, fun l hl => ⟨rfl, ⟨_, rfl, by simp [noT, noT_cellsN]⟩, hq l hl⟩⟩
  · exact hc.elim
end Go.Proofs.Ytlfbaakndklncaa
