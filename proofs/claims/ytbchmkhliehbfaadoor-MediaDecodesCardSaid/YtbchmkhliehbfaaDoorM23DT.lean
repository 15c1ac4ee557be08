/-
  Chapter 23: Decode of the reference.
-/
import Derived.Test.YtbchmkhliehbfaaDoorM23DR
import Derived.Test.YtbchmkhliehbfaaDoorM23S
set_option linter.unusedSimpArgs false
set_option linter.unusedVariables false
set_option linter.unusedSectionVars false
namespace Go.Proofs.YtbchmkhliehbfaaDoor
open Go.RowKit
set_option maxRecDepth 1000000

/-! ## slices in a struct are lent -/
def lendE (H : List Blk) (z : Nat) (v : AV) (K : AV → Prop) : Prop := match v with
  | .sl id tot off len sz => match H[id]? with
    | some b => bif Nat.beq b.cs.length tot && Nat.ble (off + len * sz) tot && b.k != .ro then K (.lst 1 (((b.cs.drop off).take (len * sz)).map fun x => frzV 1 H 7 x) len sz) else False
    | none => False
  | v => K (nlV z (frzV 1 H 8 v))
def lendG : List Nat → List Blk → List AV → (List AV → Prop) → Prop
  | _, _, [], K => K []
  | [], H, v :: l, K => lendE H 0 v fun v' => lendG [] H l fun l' => K (v' :: l')
  | z :: zs, H, v :: l, K => lendE H z v fun v' => lendG zs H l fun l' => K (v' :: l')
theorem lendE_ok {H : List Blk} {z : Nat} {v : AV} {K : AV → Prop} (h : lendE H z v K) : K (nlV z (frzV 1 H 8 v)) := by
  unfold lendE at h
  split at h
  · rename_i id tot off len sz
    split at h
    · rename_i b hb
      cases hc : (Nat.beq b.cs.length tot && Nat.ble (off + len * sz) tot && b.k != .ro)
      · rw [hc] at h; exact h.elim
      · rw [hc] at h
        have e : nlV z (frzV 1 H 8 (.sl id tot off len sz)) = .lst 1 (((b.cs.drop off).take (len * sz)).map fun x => frzV 1 H 7 x) len sz := by
          rw [frzV]
          simp only [hb, hc, cond_true]
          cases z <;> rfl
        rw [e]
        exact h
    · exact h.elim
  · exact h
theorem lendG_ok : ∀ {zs : List Nat} {H : List Blk} {l : List AV} {K : List AV → Prop}, lendG zs H l K → K (nlL zs (frzL 1 H 8 l))
  | [], H, [], K, h => h
  | _ :: _, H, [], K, h => h
  | [], H, v :: l, K, h => by
    have h1 := lendE_ok h
    have h2 := lendG_ok h1
    simpa [nlL, frzL, nlV_zero] using h2
  | z :: zs, H, v :: l, K, h => by
    have h1 := lendE_ok h
    have h2 := lendG_ok h1
    simpa [nlL, frzL] using h2
def lendM (c : Con) : Con := fun args H Q => match args with
  | [.agg l] => lendG [0, 0, 0, 0, 0, 1, 2] H l fun l' => c [.agg l'] H Q
  | _ => False
theorem valid_viewM {f : FuncId} {c : Con} (hc : ValidF Tryd.prog gl0 f c) (hp : ∀ args H Q, c args H Q → c args [] fun o H' => H' = [] ∧ (∃ v, o = .ret v ∧ noT v = true) ∧ Q o H) : ValidF Tryd.prog gl0 f (lendM c) :=
  valid_wkA (c := fun args H Q => c ((frzL 1 H 9 args).map aggK) H Q) (valid_lend (valid_wkA (c' := fun args H Q => c (args.map aggK) H Q) hc fun args H Q h => ⟨_, by
    have : ∀ l : List AV, wkL l (l.map aggK) := fun l => by
      induction l with
      | nil => exact wkL_nil
      | cons a l ih => exact wkL_cons (wk_aggK a) ih
    exact this args, h⟩) gl0_noY 9 fun args H Q h => hp _ _ _ h)
    fun args H Q h => ⟨args, wkL_refl _, by
      unfold lendM at h
      split at h
      · have := lendG_ok h
        simpa [frzL, frzV, aggK] using this
      · exact h.elim⟩
def smDT : SM := lookS [(16, lendM cRight), (17, lendM cREnc), (43, cNeeds), (44, cNum), (45, cRexts)]
def rcsM (s : List UInt8) : Nat → List Int
  | 0 => []
  | i + 1 => rcsM s i ++ [numM ((s.drop (12 + 4 * i)).take 4)]
def inv_22 (s : S) : List (List LInv) := match s.tm.get 0, s.hp with
  | .str l, [b0, ⟨_, _, [a0, a1, a2, a3, a4, _, a6, a7, a8]⟩] => [[
    { α := Nat, pre := fun i => Lf (i = 0), st := fun i => ⟨mkT [(0, .str l), (2, .ptr 0 9 0), (4, .ptr 1 9 0), (5, .int .i64 12), (6, .int .i64 0)], s.hp⟩, mu := fun i => 100 },
    { α := Nat, pre := fun i => Lf (1 ≤ i ∧ i ≤ fst0M l % 16), st := fun i => ⟨mkT [(0, .str l), (2, .ptr 0 9 0), (4, .ptr 1 9 0), (5, .int .i64 ((12 + 4 * i : Nat) : Int)), (6, .int .i64 (i : Nat))], [b0, ⟨.exact, false, [a0, a1, a2, a3, a4, .sl 3 i 0 i 1, a6, a7, a8]⟩, ⟨.exact, true, cellsI (rcsM l 1)⟩, ⟨.grow, true, cellsI (rcsM l i)⟩]⟩, mu := fun i => 15 - i }]]
  | _, _ => []
noncomputable def env_22 (hv : Nat → Option Pa) (hb : Nat → Option Bool) : Env := e23 smDT (fun i => bif Nat.beq i 22000 then some inv_22 else none) hv hb
noncomputable def goal_22 (hv : Nat → Option Pa) (hb : Nat → Option Bool) (s : List UInt8) (Q : Out → List Blk → Gh → Prop) : Prop :=
  callx (env_22 hv hb) (wpx (env_22 hv hb) 1000) 22 [.str s] [] {} Q
def vc_22_1 : Prop := (
((zeroMedM = zeroMedM) ∧
 False))
def vc_22_2 (s : List UInt8) : Prop := (
(∃ x_0 : Nat, ((Lf (((1 : Nat) ≤ x_0) ∧
 (x_0 ≤ ((fst0M s) % (16 : Nat))))) ∧
 vc_22_1)))
def vc_22_3 : Prop := (
(∃ y_0 : Nat, ((Lf (y_0 = (0 : Nat))) ∧
 (((100 : Nat) < (100 : Nat)) ∧
 vc_22_1))))
def tailR (s : List UInt8) (LF : Int → List UInt8 → Prop) : Prop := (bif ((Nat.blt (0 : Nat) (List.length s)) && (Nat.ble (List.length s) (1000000 : Nat))) then (∃ n_22 : Int, (((AV.int .i64 (needM s)) = (AV.int .i64 n_22)) ∧
 (bif ((((decide ((0 : Int) ≤ n_22)) && true) && (Nat.ble (Int.toNat n_22) (List.length s))) && (Nat.ble (List.length s) (List.length s))) then (∃ s_23 : (List UInt8), (((AV.str (List.take ((List.length s) - (Int.toNat n_22)) (List.drop (Int.toNat n_22) s))) = (AV.str s_23)) ∧
 (bif (Nat.blt (0 : Nat) (List.length s)) then (∃ n_24 : Int, (((AV.int .u8 (Nat.cast (UInt8.toNat (List.getD s (0 : Nat) (UInt8.ofNat (0 : Nat)))) : Int)) = (AV.int .u8 n_24)) ∧
 (∃ n_25 : Int, (((AV.int .u8 (IntKind.wrap .u8 (Int.tdiv n_24 (32 : Int)))) = (AV.int .u8 n_25)) ∧
 (∃ n_26 : Int, (((AV.int .u8 (Int.tmod n_25 (2 : Int))) = (AV.int .u8 n_26)) ∧
 (bif (n_26 == (1 : Int)) then (∃ n_27 : Int, (((AV.int .i64 (Nat.cast (List.length s_23) : Int)) = (AV.int .i64 n_27)) ∧
 (bif (decide (n_27 > (0 : Int))) then (∃ n_28 : Int, (((AV.int .i64 (Nat.cast (List.length s) : Int)) = (AV.int .i64 n_28)) ∧
 (∃ n_29 : Int, (((AV.int .i64 (IntKind.wrap .i64 (n_28 - (1 : Int)))) = (AV.int .i64 n_29)) ∧
 (bif ((decide ((0 : Int) ≤ n_29)) && (Nat.blt (Int.toNat n_29) (List.length s))) then (∃ n_30 : Int, (((AV.int .u8 (Nat.cast (UInt8.toNat (List.getD s (Int.toNat n_29) (UInt8.ofNat (0 : Nat)))) : Int)) = (AV.int .u8 n_30)) ∧
 (∃ n_31 : Int, (((AV.int .i64 (IntKind.wrap .i64 n_30)) = (AV.int .i64 n_31)) ∧
 (∃ n_32 : Int, (((AV.int .i64 (Nat.cast (List.length s_23) : Int)) = (AV.int .i64 n_32)) ∧
 (∃ n_33 : Int, (((AV.int .i64 (imin n_31 n_32)) = (AV.int .i64 n_33)) ∧
 (∃ n_34 : Int, (((AV.int .i64 (Nat.cast (List.length s_23) : Int)) = (AV.int .i64 n_34)) ∧
 (∃ n_35 : Int, (((AV.int .i64 (IntKind.wrap .i64 (n_34 - n_33))) = (AV.int .i64 n_35)) ∧
 (bif (((decide ((0 : Int) ≤ n_35)) && true) && (Nat.ble (Int.toNat n_35) (List.length s_23))) then (∃ s_36 : (List UInt8), (((AV.str (List.take ((Int.toNat n_35) - (0 : Nat)) (List.drop (0 : Nat) s_23))) = (AV.str s_36)) ∧
 (LF n_33 s_36)))
else False)))))))))))))
else False)))))
else (LF (0 : Int) s_23))))
else (LF (0 : Int) s_23))))))))
else False)))
else False)))
else False)
def extR (s : List UInt8) (at' : Int) (F1 : List Xt → Int → List UInt8 → Prop) (F0 : Int → List UInt8 → Prop) : Prop := (bif (Nat.blt (0 : Nat) (List.length s)) then (∃ n_19 : Int, (((AV.int .u8 (Nat.cast (UInt8.toNat (List.getD s (0 : Nat) (UInt8.ofNat (0 : Nat)))) : Int)) = (AV.int .u8 n_19)) ∧
 (∃ n_20 : Int, (((AV.int .u8 (IntKind.wrap .u8 (Int.tdiv n_19 (16 : Int)))) = (AV.int .u8 n_20)) ∧
 (∃ n_21 : Int, (((AV.int .u8 (Int.tmod n_20 (2 : Int))) = (AV.int .u8 n_21)) ∧
 (bif (n_21 == (1 : Int)) then (∃ n_22 : Int, (((AV.int .i64 at') = (AV.int .i64 n_22)) ∧
 (∃ n_23 : Int, (((AV.int .i64 (IntKind.wrap .i64 (n_22 + (4 : Int)))) = (AV.int .i64 n_23)) ∧
 (∃ n_24 : Int, (((AV.int .i64 at') = (AV.int .i64 n_24)) ∧
 (∃ n_25 : Int, (((AV.int .i64 at') = (AV.int .i64 n_25)) ∧
 (∃ n_26 : Int, (((AV.int .i64 (IntKind.wrap .i64 (n_25 + (2 : Int)))) = (AV.int .i64 n_26)) ∧
 (bif ((((decide ((0 : Int) ≤ n_24)) && (decide ((0 : Int) ≤ n_26))) && (Nat.ble (Int.toNat n_24) (Int.toNat n_26))) && (Nat.ble (Int.toNat n_26) (List.length s))) then (∃ s_27 : (List UInt8), (((AV.str (List.take ((Int.toNat n_26) - (Int.toNat n_24)) (List.drop (Int.toNat n_24) s))) = (AV.str s_27)) ∧
 (bif ((Nat.blt (0 : Nat) (List.length s)) && (Nat.ble (List.length s) (1000000 : Nat))) then (∃ n_28 : Int, (((AV.int .i64 (needM s)) = (AV.int .i64 n_28)) ∧
 (bif ((((decide ((0 : Int) ≤ n_23)) && (decide ((0 : Int) ≤ n_28))) && (Nat.ble (Int.toNat n_23) (Int.toNat n_28))) && (Nat.ble (Int.toNat n_28) (List.length s))) then (∃ s_29 : (List UInt8), (((AV.str (List.take ((Int.toNat n_28) - (Int.toNat n_23)) (List.drop (Int.toNat n_23) s))) = (AV.str s_29)) ∧
 (bif (Nat.ble (List.length s_27) (4 : Nat)) then (∃ n_30 : Int, (((AV.int .i64 (numM s_27)) = (AV.int .i64 n_30)) ∧
 (bif (n_30 == (48862 : Int)) then (bif (Nat.ble (List.length s_29) (1000000 : Nat)) then (∀ l_31 : (List Xt), ((Lf (l_31 = (rexM true (List.length s_29) s_29))) →
(tailR s (F1 l_31))))
else False)
else (bif (Nat.ble (List.length s_29) (1000000 : Nat)) then (∀ l_31 : (List Xt), ((Lf (l_31 = (rexM false (List.length s_29) s_29))) →
(tailR s (F1 l_31))))
else False))))
else False)))
else False)))
else False)))
else False)))))))))))
else (tailR s F0))))))))
else False)
theorem vc_22 (s : List UInt8) (Q : Out → List Blk → Gh → Prop) : goal_22 (lookV [(90121, .int .i64), (90125, .int .i64), (90129, .int .i64), (90131, .int .i64), (90136, .int .u8), (90139, .int .u8), (90140, .int .u8), (90141, .int .i64), (90143, .str), (90146, .str), (90149, .str), (90144, .int .i64), (90147, .int .i64), (90150, .int .i64), (90154, .int .u8), (90155, .int .u8), (90156, .int .i64), (90166, .str), (90167, .int .i64), (90174, .int .u8), (90175, .int .u8), (90176, .int .u8), (90188, .str), (90182, .int .i64), (90183, .str), (90189, .int .i64), (90195, .int .i64), (90196, .str), (90198, .int .u8), (90199, .int .u8), (90200, .int .u8), (90204, .int .i64), (90209, .int .i64), (90210, .int .i64), (90211, .int .u8), (90212, .int .i64), (90214, .int .i64), (90215, .int .i64), (90219, .int .i64), (90222, .int .i64), (90223, .str), (90152, .int .i64), (90163, .int .i64), (90164, .int .i64), (90165, .int .i64), (90171, .int .i64), (90172, .int .i64), (90158, .int .i64), (90159, .int .i64), (90179, .int .i64), (90180, .int .i64), (90185, .int .i64), (90186, .int .i64), (90187, .int .i64)]) (lookB []) s Q = (
(∃ n_0 : Int, (((AV.int .i64 (Nat.cast (List.length s) : Int)) = (AV.int .i64 n_0)) ∧
 (bif (decide (n_0 > (1200 : Int))) then (Q (Out.ret (AV.tup ((AV.agg zeroMedM) :: ((AV.int .i64 (3 : Int)) :: [])))) [] (Gh.mk (0 : Nat) (0 : Nat) []))
else (∃ n_1 : Int, (((AV.int .i64 (Nat.cast (List.length s) : Int)) = (AV.int .i64 n_1)) ∧
 (bif (decide (n_1 < (12 : Int))) then (Q (Out.ret (AV.tup ((AV.agg zeroMedM) :: ((AV.int .i64 (7 : Int)) :: [])))) [] (Gh.mk (0 : Nat) (0 : Nat) []))
else (∃ n_2 : Int, (((AV.int .i64 (Nat.cast (List.length s) : Int)) = (AV.int .i64 n_2)) ∧
 (bif ((Nat.blt (0 : Nat) (List.length s)) && (Nat.ble (List.length s) (1000000 : Nat))) then (∃ n_3 : Int, (((AV.int .i64 (needM s)) = (AV.int .i64 n_3)) ∧
 (bif (decide (n_2 < n_3)) then (Q (Out.ret (AV.tup ((AV.agg zeroMedM) :: ((AV.int .i64 (7 : Int)) :: [])))) [] (Gh.mk (0 : Nat) (0 : Nat) []))
else (bif (Nat.blt (1 : Nat) (List.length s)) then (∃ n_4 : Int, (((AV.int .u8 (Nat.cast (UInt8.toNat (List.getD s (1 : Nat) (UInt8.ofNat (0 : Nat)))) : Int)) = (AV.int .u8 n_4)) ∧
 (bif (decide (n_4 ≥ (128 : Int))) then (bif (Nat.blt (1 : Nat) (List.length s)) then (∃ n_5 : Int, (((AV.int .u8 (Nat.cast (UInt8.toNat (List.getD s (1 : Nat) (UInt8.ofNat (0 : Nat)))) : Int)) = (AV.int .u8 n_5)) ∧
 (∃ n_6 : Int, (((AV.int .u8 (Int.tmod n_5 (128 : Int))) = (AV.int .u8 n_6)) ∧
 (∃ n_7 : Int, (((AV.int .i64 (IntKind.wrap .i64 n_6)) = (AV.int .i64 n_7)) ∧
 (bif (Nat.ble (4 : Nat) (List.length s)) then (∃ s_8 : (List UInt8), (((AV.str (List.take (2 : Nat) (List.drop (2 : Nat) s))) = (AV.str s_8)) ∧
 (bif (Nat.ble (8 : Nat) (List.length s)) then (∃ s_9 : (List UInt8), (((AV.str (List.take (4 : Nat) (List.drop (4 : Nat) s))) = (AV.str s_9)) ∧
 (bif (Nat.ble (12 : Nat) (List.length s)) then (∃ s_10 : (List UInt8), (((AV.str (List.take (4 : Nat) (List.drop (8 : Nat) s))) = (AV.str s_10)) ∧
 (bif (Nat.ble (List.length s_8) (4 : Nat)) then (∃ n_11 : Int, (((AV.int .i64 (numM s_8)) = (AV.int .i64 n_11)) ∧
 (bif (Nat.ble (List.length s_9) (4 : Nat)) then (∃ n_12 : Int, (((AV.int .i64 (numM s_9)) = (AV.int .i64 n_12)) ∧
 (bif (Nat.ble (List.length s_10) (4 : Nat)) then (∃ n_13 : Int, (((AV.int .i64 (numM s_10)) = (AV.int .i64 n_13)) ∧
 (((∃ x_14 : Nat, ((Lf (x_14 = (0 : Nat))) ∧
 ((zeroMedM = zeroMedM) ∧
 ((((AV.bool true) :: ((AV.int .i64 n_7) :: ((AV.int .i64 n_11) :: ((AV.int .i64 n_12) :: ((AV.int .i64 n_13) :: (AV.nils :: (AV.nils :: ((AV.int .i64 (0 : Int)) :: ((AV.str []) :: []))))))))) = ((AV.bool true) :: ((AV.int .i64 n_7) :: ((AV.int .i64 n_11) :: ((AV.int .i64 n_12) :: ((AV.int .i64 n_13) :: (AV.nils :: (AV.nils :: ((AV.int .i64 (0 : Int)) :: ((AV.str []) :: [])))))))))) ∧
 (((AV.str s) = (AV.str s)) ∧
 (((AV.int .i64 (12 : Int)) = (AV.int .i64 (12 : Int))) ∧
 (((AV.ptr (0 : Nat) (9 : Nat) (0 : Nat)) = (AV.ptr (0 : Nat) (9 : Nat) (0 : Nat))) ∧
 (((AV.ptr (1 : Nat) (9 : Nat) (0 : Nat)) = (AV.ptr (1 : Nat) (9 : Nat) (0 : Nat))) ∧
 (((AV.int .i64 (0 : Int)) = (AV.int .i64 (0 : Int))) ∧
 True))))))))) ∨
 (vc_22_2 s)) ∧
 ((∀ x_14 : Nat, ((Lf (x_14 = (0 : Nat))) →
(∃ n_15 : Int, (((AV.int .i64 (0 : Int)) = (AV.int .i64 n_15)) ∧
 (bif (Nat.blt (0 : Nat) (List.length s)) then (∃ n_16 : Int, (((AV.int .u8 (Nat.cast (UInt8.toNat (List.getD s (0 : Nat) (UInt8.ofNat (0 : Nat)))) : Int)) = (AV.int .u8 n_16)) ∧
 (∃ n_17 : Int, (((AV.int .u8 (Int.tmod n_16 (16 : Int))) = (AV.int .u8 n_17)) ∧
 (∃ n_18 : Int, (((AV.int .i64 (IntKind.wrap .i64 n_17)) = (AV.int .i64 n_18)) ∧
 (bif (decide (n_15 < n_18)) then (∃ n_19 : Int, (((AV.int .i64 (12 : Int)) = (AV.int .i64 n_19)) ∧
 (∃ n_20 : Int, (((AV.int .i64 (12 : Int)) = (AV.int .i64 n_20)) ∧
 (∃ n_21 : Int, (((AV.int .i64 (IntKind.wrap .i64 (n_20 + (4 : Int)))) = (AV.int .i64 n_21)) ∧
 (bif ((((decide ((0 : Int) ≤ n_19)) && (decide ((0 : Int) ≤ n_21))) && (Nat.ble (Int.toNat n_19) (Int.toNat n_21))) && (Nat.ble (Int.toNat n_21) (List.length s))) then (∃ s_22 : (List UInt8), (((AV.str (List.take ((Int.toNat n_21) - (Int.toNat n_19)) (List.drop (Int.toNat n_19) s))) = (AV.str s_22)) ∧
 (bif (Nat.ble (List.length s_22) (4 : Nat)) then (∃ n_23 : Int, (((AV.int .i64 (numM s_22)) = (AV.int .i64 n_23)) ∧
 (∃ n_24 : Int, (((AV.int .i64 (12 : Int)) = (AV.int .i64 n_24)) ∧
 (∃ n_25 : Int, (((AV.int .i64 (IntKind.wrap .i64 (n_24 + (4 : Int)))) = (AV.int .i64 n_25)) ∧
 (∃ n_26 : Int, (((AV.int .i64 (0 : Int)) = (AV.int .i64 n_26)) ∧
 (∃ n_27 : Int, (((AV.int .i64 (IntKind.wrap .i64 (n_26 + (1 : Int)))) = (AV.int .i64 n_27)) ∧
 ((True ∧
 ((0 : Nat) = (0 : Nat))) ∧
 (vc_22_3 ∨
 (∃ y_28 : Nat, ((Lf (((1 : Nat) ≤ y_28) ∧
 (y_28 ≤ ((fst0M s) % (16 : Nat))))) ∧
 ((((15 : Nat) - y_28) < (100 : Nat)) ∧
 ((zeroMedM = zeroMedM) ∧
 ((((AV.bool true) :: ((AV.int .i64 n_7) :: ((AV.int .i64 n_11) :: ((AV.int .i64 n_12) :: ((AV.int .i64 n_13) :: ((AV.sl (3 : Nat) (1 : Nat) (0 : Nat) (1 : Nat) (1 : Nat)) :: (AV.nils :: ((AV.int .i64 (0 : Int)) :: ((AV.str []) :: []))))))))) = ((AV.bool true) :: ((AV.int .i64 n_7) :: ((AV.int .i64 n_11) :: ((AV.int .i64 n_12) :: ((AV.int .i64 n_13) :: ((AV.sl (3 : Nat) y_28 (0 : Nat) y_28 (1 : Nat)) :: (AV.nils :: ((AV.int .i64 (0 : Int)) :: ((AV.str []) :: [])))))))))) ∧
 ((((AV.int .i64 n_23) :: []) = ((AV.int .i64 (numM (List.take (4 : Nat) (List.drop (12 : Nat) s)))) :: [])) ∧
 ((((AV.int .i64 n_23) :: []) = (cellsI (rcsM s y_28))) ∧
 (((AV.str s) = (AV.str s)) ∧
 (((AV.int .i64 n_25) = (AV.int .i64 (Nat.cast ((12 : Nat) + ((4 : Nat) * y_28)) : Int))) ∧
 (((AV.ptr (0 : Nat) (9 : Nat) (0 : Nat)) = (AV.ptr (0 : Nat) (9 : Nat) (0 : Nat))) ∧
 (((AV.ptr (1 : Nat) (9 : Nat) (0 : Nat)) = (AV.ptr (1 : Nat) (9 : Nat) (0 : Nat))) ∧
 (((AV.int .i64 n_27) = (AV.int .i64 (Nat.cast y_28 : Int))) ∧
 True))))))))))))))))))))))))
else False)))
else False)))))))
else (extR s (12 : Int) (fun (l_ : List Xt) => (fun (pad_ : Int) (y_ : List UInt8) => (∃ cs_47 : (List Int), (∃ ex_48 : (List Xt), ((Lf (medK [] (0 : Nat) (cellsXM l_) (List.length l_) cs_47 ex_48)) ∧
 (∀ b_49 : Bool, ((Lf (b_49 = (rightM n_7 n_11 n_12 n_13 cs_47 ex_48 pad_))) →
(bif b_49 then (∃ cs_50 : (List Int), (∃ ex_51 : (List Xt), ((Lf (((medK [] (0 : Nat) (cellsXM l_) (List.length l_) cs_50 ex_51) ∧
 ((rightM n_7 n_11 n_12 n_13 cs_50 ex_51 pad_) = true)) ∧
 ((List.length y_) ≤ (1000000000 : Nat)))) ∧
 (∀ s_52 : (List UInt8), ((Lf (s_52 = (encM true n_7 n_11 n_12 n_13 cs_50 ex_51 pad_ y_))) →
(bif (!(eqB s_52 s)) then (Q (Out.ret (AV.tup ((AV.agg zeroMedM) :: ((AV.int .i64 (5 : Int)) :: [])))) [] (Gh.mk (0 : Nat) (0 : Nat) []))
else (Q (Out.ret (AV.tup ((AV.agg ((AV.bool true) :: ((AV.int .i64 n_7) :: ((AV.int .i64 n_11) :: ((AV.int .i64 n_12) :: ((AV.int .i64 n_13) :: (AV.nils :: ((AV.lst (0 : Nat) (cellsXM l_) (List.length l_) (2 : Nat)) :: ((AV.int .i64 pad_) :: ((AV.str y_) :: [])))))))))) :: ((AV.int .i64 (0 : Int)) :: [])))) [] (Gh.mk (0 : Nat) (0 : Nat) []))))))))
else (Q (Out.ret (AV.tup ((AV.agg zeroMedM) :: ((AV.int .i64 (5 : Int)) :: [])))) [] (Gh.mk (0 : Nat) (0 : Nat) [])))))))))) (fun (pad_ : Int) (y_ : List UInt8) => (∃ cs_37 : (List Int), (∃ ex_38 : (List Xt), ((Lf (medK [] (0 : Nat) [] (0 : Nat) cs_37 ex_38)) ∧
 (∀ b_39 : Bool, ((Lf (b_39 = (rightM n_7 n_11 n_12 n_13 cs_37 ex_38 pad_))) →
(bif b_39 then (∃ cs_40 : (List Int), (∃ ex_41 : (List Xt), ((Lf (((medK [] (0 : Nat) [] (0 : Nat) cs_40 ex_41) ∧
 ((rightM n_7 n_11 n_12 n_13 cs_40 ex_41 pad_) = true)) ∧
 ((List.length y_) ≤ (1000000000 : Nat)))) ∧
 (∀ s_42 : (List UInt8), ((Lf (s_42 = (encM true n_7 n_11 n_12 n_13 cs_40 ex_41 pad_ y_))) →
(bif (!(eqB s_42 s)) then (Q (Out.ret (AV.tup ((AV.agg zeroMedM) :: ((AV.int .i64 (5 : Int)) :: [])))) [] (Gh.mk (0 : Nat) (0 : Nat) []))
else (Q (Out.ret (AV.tup ((AV.agg ((AV.bool true) :: ((AV.int .i64 n_7) :: ((AV.int .i64 n_11) :: ((AV.int .i64 n_12) :: ((AV.int .i64 n_13) :: (AV.nils :: (AV.nils :: ((AV.int .i64 pad_) :: ((AV.str y_) :: [])))))))))) :: ((AV.int .i64 (0 : Int)) :: [])))) [] (Gh.mk (0 : Nat) (0 : Nat) []))))))))
else (Q (Out.ret (AV.tup ((AV.agg zeroMedM) :: ((AV.int .i64 (5 : Int)) :: [])))) [] (Gh.mk (0 : Nat) (0 : Nat) [])))))))))))))))))
else False))))) ∧
 (∀ x_14 : Nat, ((Lf (((1 : Nat) ≤ x_14) ∧
 (x_14 ≤ ((fst0M s) % (16 : Nat))))) →
(∃ n_15 : Int, (((AV.int .i64 (Nat.cast x_14 : Int)) = (AV.int .i64 n_15)) ∧
 (bif (Nat.blt (0 : Nat) (List.length s)) then (∃ n_16 : Int, (((AV.int .u8 (Nat.cast (UInt8.toNat (List.getD s (0 : Nat) (UInt8.ofNat (0 : Nat)))) : Int)) = (AV.int .u8 n_16)) ∧
 (∃ n_17 : Int, (((AV.int .u8 (Int.tmod n_16 (16 : Int))) = (AV.int .u8 n_17)) ∧
 (∃ n_18 : Int, (((AV.int .i64 (IntKind.wrap .i64 n_17)) = (AV.int .i64 n_18)) ∧
 (bif (decide (n_15 < n_18)) then (∃ n_19 : Int, (((AV.int .i64 (Nat.cast ((12 : Nat) + ((4 : Nat) * x_14)) : Int)) = (AV.int .i64 n_19)) ∧
 (∃ n_20 : Int, (((AV.int .i64 (Nat.cast ((12 : Nat) + ((4 : Nat) * x_14)) : Int)) = (AV.int .i64 n_20)) ∧
 (∃ n_21 : Int, (((AV.int .i64 (IntKind.wrap .i64 (n_20 + (4 : Int)))) = (AV.int .i64 n_21)) ∧
 (bif ((((decide ((0 : Int) ≤ n_19)) && (decide ((0 : Int) ≤ n_21))) && (Nat.ble (Int.toNat n_19) (Int.toNat n_21))) && (Nat.ble (Int.toNat n_21) (List.length s))) then (∃ s_22 : (List UInt8), (((AV.str (List.take ((Int.toNat n_21) - (Int.toNat n_19)) (List.drop (Int.toNat n_19) s))) = (AV.str s_22)) ∧
 (bif (Nat.ble (List.length s_22) (4 : Nat)) then (bif ((eqAVL ((AV.sl (3 : Nat) x_14 (0 : Nat) x_14 (1 : Nat)) :: []) ((AV.sl (3 : Nat) x_14 (0 : Nat) x_14 (1 : Nat)) :: [])) && true) then (∃ n_23 : Int, (((AV.int .i64 (numM s_22)) = (AV.int .i64 n_23)) ∧
 (bif (((((Nat.beq (List.length (cellsI (rcsM s x_14))) x_14) && true) && (Nat.beq ((0 : Nat) + (x_14 * (1 : Nat))) x_14)) && (Nat.ble (x_14 + (1 : Nat)) (1099511627776 : Nat))) && (Nat.ble ((x_14 + (1 : Nat)) * (8 : Nat)) (1099511627776 : Nat))) then (∃ n_24 : Int, (((AV.int .i64 (Nat.cast ((12 : Nat) + ((4 : Nat) * x_14)) : Int)) = (AV.int .i64 n_24)) ∧
 (∃ n_25 : Int, (((AV.int .i64 (IntKind.wrap .i64 (n_24 + (4 : Int)))) = (AV.int .i64 n_25)) ∧
 (∃ n_26 : Int, (((AV.int .i64 (Nat.cast x_14 : Int)) = (AV.int .i64 n_26)) ∧
 (∃ n_27 : Int, (((AV.int .i64 (IntKind.wrap .i64 (n_26 + (1 : Int)))) = (AV.int .i64 n_27)) ∧
 ((True ∧
 ((0 : Nat) = (0 : Nat))) ∧
 ((∃ y_28 : Nat, ((Lf (y_28 = (0 : Nat))) ∧
 (((100 : Nat) < ((15 : Nat) - x_14)) ∧
 vc_22_1))) ∨
 (∃ y_28 : Nat, ((Lf (((1 : Nat) ≤ y_28) ∧
 (y_28 ≤ ((fst0M s) % (16 : Nat))))) ∧
 ((((15 : Nat) - y_28) < ((15 : Nat) - x_14)) ∧
 ((zeroMedM = zeroMedM) ∧
 ((((AV.bool true) :: ((AV.int .i64 n_7) :: ((AV.int .i64 n_11) :: ((AV.int .i64 n_12) :: ((AV.int .i64 n_13) :: ((AV.sl (3 : Nat) (x_14 + (1 : Nat)) (0 : Nat) (x_14 + (1 : Nat)) (1 : Nat)) :: (AV.nils :: ((AV.int .i64 (0 : Int)) :: ((AV.str []) :: []))))))))) = ((AV.bool true) :: ((AV.int .i64 n_7) :: ((AV.int .i64 n_11) :: ((AV.int .i64 n_12) :: ((AV.int .i64 n_13) :: ((AV.sl (3 : Nat) y_28 (0 : Nat) y_28 (1 : Nat)) :: (AV.nils :: ((AV.int .i64 (0 : Int)) :: ((AV.str []) :: [])))))))))) ∧
 ((((AV.int .i64 (numM (List.take (4 : Nat) (List.drop (12 : Nat) s)))) :: []) = ((AV.int .i64 (numM (List.take (4 : Nat) (List.drop (12 : Nat) s)))) :: [])) ∧
 ((((cellsI (rcsM s x_14)) ++ ((AV.int .i64 n_23) :: [])) = (cellsI (rcsM s y_28))) ∧
 (((AV.str s) = (AV.str s)) ∧
 (((AV.int .i64 n_25) = (AV.int .i64 (Nat.cast ((12 : Nat) + ((4 : Nat) * y_28)) : Int))) ∧
 (((AV.ptr (0 : Nat) (9 : Nat) (0 : Nat)) = (AV.ptr (0 : Nat) (9 : Nat) (0 : Nat))) ∧
 (((AV.ptr (1 : Nat) (9 : Nat) (0 : Nat)) = (AV.ptr (1 : Nat) (9 : Nat) (0 : Nat))) ∧
 (((AV.int .i64 n_27) = (AV.int .i64 (Nat.cast y_28 : Int))) ∧
 True))))))))))))))))))))))
else False)))
else False)
else False)))
else False)))))))
else (extR s (Nat.cast ((12 : Nat) + ((4 : Nat) * x_14)) : Int) (fun (l_ : List Xt) => (fun (pad_ : Int) (y_ : List UInt8) => (bif (((Nat.beq (List.length (cellsI (rcsM s x_14))) x_14) && (Nat.ble ((0 : Nat) + (x_14 * (1 : Nat))) x_14)) && true) then (∃ cs_47 : (List Int), (∃ ex_48 : (List Xt), ((Lf (medK (List.map (fun x_49 : AV => (frzV (1 : Nat) ((Blk.mk BK.exact true zeroMedM) :: ((Blk.mk BK.exact false ((AV.bool true) :: ((AV.int .i64 n_7) :: ((AV.int .i64 n_11) :: ((AV.int .i64 n_12) :: ((AV.int .i64 n_13) :: ((AV.sl (3 : Nat) x_14 (0 : Nat) x_14 (1 : Nat)) :: ((AV.lst (0 : Nat) (cellsXM l_) (List.length l_) (2 : Nat)) :: ((AV.int .i64 pad_) :: ((AV.str y_) :: [])))))))))) :: ((Blk.mk BK.exact true ((AV.int .i64 (numM (List.take (4 : Nat) (List.drop (12 : Nat) s)))) :: [])) :: ((Blk.mk BK.grow true (cellsI (rcsM s x_14))) :: [])))) (7 : Nat) x_49)) (List.take (x_14 * (1 : Nat)) (List.drop (0 : Nat) (cellsI (rcsM s x_14))))) x_14 (cellsXM l_) (List.length l_) cs_47 ex_48)) ∧
 (∀ b_49 : Bool, ((Lf (b_49 = (rightM n_7 n_11 n_12 n_13 cs_47 ex_48 pad_))) →
(bif b_49 then (bif (((Nat.beq (List.length (cellsI (rcsM s x_14))) x_14) && (Nat.ble ((0 : Nat) + (x_14 * (1 : Nat))) x_14)) && true) then (∃ cs_50 : (List Int), (∃ ex_51 : (List Xt), ((Lf (((medK (List.map (fun x_52 : AV => (frzV (1 : Nat) ((Blk.mk BK.exact true zeroMedM) :: ((Blk.mk BK.exact false ((AV.bool true) :: ((AV.int .i64 n_7) :: ((AV.int .i64 n_11) :: ((AV.int .i64 n_12) :: ((AV.int .i64 n_13) :: ((AV.sl (3 : Nat) x_14 (0 : Nat) x_14 (1 : Nat)) :: ((AV.lst (0 : Nat) (cellsXM l_) (List.length l_) (2 : Nat)) :: ((AV.int .i64 pad_) :: ((AV.str y_) :: [])))))))))) :: ((Blk.mk BK.exact true ((AV.int .i64 (numM (List.take (4 : Nat) (List.drop (12 : Nat) s)))) :: [])) :: ((Blk.mk BK.grow true (cellsI (rcsM s x_14))) :: [])))) (7 : Nat) x_52)) (List.take (x_14 * (1 : Nat)) (List.drop (0 : Nat) (cellsI (rcsM s x_14))))) x_14 (cellsXM l_) (List.length l_) cs_50 ex_51) ∧
 ((rightM n_7 n_11 n_12 n_13 cs_50 ex_51 pad_) = true)) ∧
 ((List.length y_) ≤ (1000000000 : Nat)))) ∧
 (∀ s_52 : (List UInt8), ((Lf (s_52 = (encM true n_7 n_11 n_12 n_13 cs_50 ex_51 pad_ y_))) →
(bif (!(eqB s_52 s)) then (Q (Out.ret (AV.tup ((AV.agg zeroMedM) :: ((AV.int .i64 (5 : Int)) :: [])))) [] (Gh.mk (0 : Nat) (0 : Nat) []))
else (Q (Out.ret (AV.tup ((AV.agg ((AV.bool true) :: ((AV.int .i64 n_7) :: ((AV.int .i64 n_11) :: ((AV.int .i64 n_12) :: ((AV.int .i64 n_13) :: ((AV.sl (3 : Nat) x_14 (0 : Nat) x_14 (1 : Nat)) :: ((AV.lst (0 : Nat) (cellsXM l_) (List.length l_) (2 : Nat)) :: ((AV.int .i64 pad_) :: ((AV.str y_) :: [])))))))))) :: ((AV.int .i64 (0 : Int)) :: [])))) ((Blk.mk BK.exact false ((AV.bool true) :: ((AV.int .i64 n_7) :: ((AV.int .i64 n_11) :: ((AV.int .i64 n_12) :: ((AV.int .i64 n_13) :: ((AV.sl (3 : Nat) x_14 (0 : Nat) x_14 (1 : Nat)) :: ((AV.lst (0 : Nat) (cellsXM l_) (List.length l_) (2 : Nat)) :: ((AV.int .i64 pad_) :: ((AV.str y_) :: [])))))))))) :: ((Blk.mk BK.exact false ((AV.bool true) :: ((AV.int .i64 n_7) :: ((AV.int .i64 n_11) :: ((AV.int .i64 n_12) :: ((AV.int .i64 n_13) :: ((AV.sl (3 : Nat) x_14 (0 : Nat) x_14 (1 : Nat)) :: ((AV.lst (0 : Nat) (cellsXM l_) (List.length l_) (2 : Nat)) :: ((AV.int .i64 pad_) :: ((AV.str y_) :: [])))))))))) :: ((Blk.mk BK.exact true ((AV.int .i64 (numM (List.take (4 : Nat) (List.drop (12 : Nat) s)))) :: [])) :: ((Blk.mk BK.grow true (cellsI (rcsM s x_14))) :: [])))) (Gh.mk (0 : Nat) (0 : Nat) []))))))))
else False)
else (Q (Out.ret (AV.tup ((AV.agg zeroMedM) :: ((AV.int .i64 (5 : Int)) :: [])))) [] (Gh.mk (0 : Nat) (0 : Nat) []))))))))
else False))) (fun (pad_ : Int) (y_ : List UInt8) => (bif (((Nat.beq (List.length (cellsI (rcsM s x_14))) x_14) && (Nat.ble ((0 : Nat) + (x_14 * (1 : Nat))) x_14)) && true) then (∃ cs_37 : (List Int), (∃ ex_38 : (List Xt), ((Lf (medK (List.map (fun x_39 : AV => (frzV (1 : Nat) ((Blk.mk BK.exact true zeroMedM) :: ((Blk.mk BK.exact false ((AV.bool true) :: ((AV.int .i64 n_7) :: ((AV.int .i64 n_11) :: ((AV.int .i64 n_12) :: ((AV.int .i64 n_13) :: ((AV.sl (3 : Nat) x_14 (0 : Nat) x_14 (1 : Nat)) :: (AV.nils :: ((AV.int .i64 pad_) :: ((AV.str y_) :: [])))))))))) :: ((Blk.mk BK.exact true ((AV.int .i64 (numM (List.take (4 : Nat) (List.drop (12 : Nat) s)))) :: [])) :: ((Blk.mk BK.grow true (cellsI (rcsM s x_14))) :: [])))) (7 : Nat) x_39)) (List.take (x_14 * (1 : Nat)) (List.drop (0 : Nat) (cellsI (rcsM s x_14))))) x_14 [] (0 : Nat) cs_37 ex_38)) ∧
 (∀ b_39 : Bool, ((Lf (b_39 = (rightM n_7 n_11 n_12 n_13 cs_37 ex_38 pad_))) →
(bif b_39 then (bif (((Nat.beq (List.length (cellsI (rcsM s x_14))) x_14) && (Nat.ble ((0 : Nat) + (x_14 * (1 : Nat))) x_14)) && true) then (∃ cs_40 : (List Int), (∃ ex_41 : (List Xt), ((Lf (((medK (List.map (fun x_42 : AV => (frzV (1 : Nat) ((Blk.mk BK.exact true zeroMedM) :: ((Blk.mk BK.exact false ((AV.bool true) :: ((AV.int .i64 n_7) :: ((AV.int .i64 n_11) :: ((AV.int .i64 n_12) :: ((AV.int .i64 n_13) :: ((AV.sl (3 : Nat) x_14 (0 : Nat) x_14 (1 : Nat)) :: (AV.nils :: ((AV.int .i64 pad_) :: ((AV.str y_) :: [])))))))))) :: ((Blk.mk BK.exact true ((AV.int .i64 (numM (List.take (4 : Nat) (List.drop (12 : Nat) s)))) :: [])) :: ((Blk.mk BK.grow true (cellsI (rcsM s x_14))) :: [])))) (7 : Nat) x_42)) (List.take (x_14 * (1 : Nat)) (List.drop (0 : Nat) (cellsI (rcsM s x_14))))) x_14 [] (0 : Nat) cs_40 ex_41) ∧
 ((rightM n_7 n_11 n_12 n_13 cs_40 ex_41 pad_) = true)) ∧
 ((List.length y_) ≤ (1000000000 : Nat)))) ∧
 (∀ s_42 : (List UInt8), ((Lf (s_42 = (encM true n_7 n_11 n_12 n_13 cs_40 ex_41 pad_ y_))) →
(bif (!(eqB s_42 s)) then (Q (Out.ret (AV.tup ((AV.agg zeroMedM) :: ((AV.int .i64 (5 : Int)) :: [])))) [] (Gh.mk (0 : Nat) (0 : Nat) []))
else (Q (Out.ret (AV.tup ((AV.agg ((AV.bool true) :: ((AV.int .i64 n_7) :: ((AV.int .i64 n_11) :: ((AV.int .i64 n_12) :: ((AV.int .i64 n_13) :: ((AV.sl (3 : Nat) x_14 (0 : Nat) x_14 (1 : Nat)) :: (AV.nils :: ((AV.int .i64 pad_) :: ((AV.str y_) :: [])))))))))) :: ((AV.int .i64 (0 : Int)) :: [])))) ((Blk.mk BK.exact false ((AV.bool true) :: ((AV.int .i64 n_7) :: ((AV.int .i64 n_11) :: ((AV.int .i64 n_12) :: ((AV.int .i64 n_13) :: ((AV.sl (3 : Nat) x_14 (0 : Nat) x_14 (1 : Nat)) :: (AV.nils :: ((AV.int .i64 pad_) :: ((AV.str y_) :: [])))))))))) :: ((Blk.mk BK.exact false ((AV.bool true) :: ((AV.int .i64 n_7) :: ((AV.int .i64 n_11) :: ((AV.int .i64 n_12) :: ((AV.int .i64 n_13) :: ((AV.sl (3 : Nat) x_14 (0 : Nat) x_14 (1 : Nat)) :: (AV.nils :: ((AV.int .i64 pad_) :: ((AV.str y_) :: [])))))))))) :: ((Blk.mk BK.exact true ((AV.int .i64 (numM (List.take (4 : Nat) (List.drop (12 : Nat) s)))) :: [])) :: ((Blk.mk BK.grow true (cellsI (rcsM s x_14))) :: [])))) (Gh.mk (0 : Nat) (0 : Nat) []))))))))
else False)
else (Q (Out.ret (AV.tup ((AV.agg zeroMedM) :: ((AV.int .i64 (5 : Int)) :: [])))) [] (Gh.mk (0 : Nat) (0 : Nat) []))))))))
else False))))))))))
else False)))))))))
else False)))
else False)))
else False)))
else False)))
else False)))
else False)))))))
else False)
else (bif (Nat.blt (1 : Nat) (List.length s)) then (∃ n_5 : Int, (((AV.int .u8 (Nat.cast (UInt8.toNat (List.getD s (1 : Nat) (UInt8.ofNat (0 : Nat)))) : Int)) = (AV.int .u8 n_5)) ∧
 (∃ n_6 : Int, (((AV.int .u8 (Int.tmod n_5 (128 : Int))) = (AV.int .u8 n_6)) ∧
 (∃ n_7 : Int, (((AV.int .i64 (IntKind.wrap .i64 n_6)) = (AV.int .i64 n_7)) ∧
 (bif (Nat.ble (4 : Nat) (List.length s)) then (∃ s_8 : (List UInt8), (((AV.str (List.take (2 : Nat) (List.drop (2 : Nat) s))) = (AV.str s_8)) ∧
 (bif (Nat.ble (8 : Nat) (List.length s)) then (∃ s_9 : (List UInt8), (((AV.str (List.take (4 : Nat) (List.drop (4 : Nat) s))) = (AV.str s_9)) ∧
 (bif (Nat.ble (12 : Nat) (List.length s)) then (∃ s_10 : (List UInt8), (((AV.str (List.take (4 : Nat) (List.drop (8 : Nat) s))) = (AV.str s_10)) ∧
 (bif (Nat.ble (List.length s_8) (4 : Nat)) then (∃ n_11 : Int, (((AV.int .i64 (numM s_8)) = (AV.int .i64 n_11)) ∧
 (bif (Nat.ble (List.length s_9) (4 : Nat)) then (∃ n_12 : Int, (((AV.int .i64 (numM s_9)) = (AV.int .i64 n_12)) ∧
 (bif (Nat.ble (List.length s_10) (4 : Nat)) then (∃ n_13 : Int, (((AV.int .i64 (numM s_10)) = (AV.int .i64 n_13)) ∧
 (((∃ x_14 : Nat, ((Lf (x_14 = (0 : Nat))) ∧
 ((zeroMedM = zeroMedM) ∧
 ((((AV.bool false) :: ((AV.int .i64 n_7) :: ((AV.int .i64 n_11) :: ((AV.int .i64 n_12) :: ((AV.int .i64 n_13) :: (AV.nils :: (AV.nils :: ((AV.int .i64 (0 : Int)) :: ((AV.str []) :: []))))))))) = ((AV.bool false) :: ((AV.int .i64 n_7) :: ((AV.int .i64 n_11) :: ((AV.int .i64 n_12) :: ((AV.int .i64 n_13) :: (AV.nils :: (AV.nils :: ((AV.int .i64 (0 : Int)) :: ((AV.str []) :: [])))))))))) ∧
 (((AV.str s) = (AV.str s)) ∧
 (((AV.int .i64 (12 : Int)) = (AV.int .i64 (12 : Int))) ∧
 (((AV.ptr (0 : Nat) (9 : Nat) (0 : Nat)) = (AV.ptr (0 : Nat) (9 : Nat) (0 : Nat))) ∧
 (((AV.ptr (1 : Nat) (9 : Nat) (0 : Nat)) = (AV.ptr (1 : Nat) (9 : Nat) (0 : Nat))) ∧
 (((AV.int .i64 (0 : Int)) = (AV.int .i64 (0 : Int))) ∧
 True))))))))) ∨
 (vc_22_2 s)) ∧
 ((∀ x_14 : Nat, ((Lf (x_14 = (0 : Nat))) →
(∃ n_15 : Int, (((AV.int .i64 (0 : Int)) = (AV.int .i64 n_15)) ∧
 (bif (Nat.blt (0 : Nat) (List.length s)) then (∃ n_16 : Int, (((AV.int .u8 (Nat.cast (UInt8.toNat (List.getD s (0 : Nat) (UInt8.ofNat (0 : Nat)))) : Int)) = (AV.int .u8 n_16)) ∧
 (∃ n_17 : Int, (((AV.int .u8 (Int.tmod n_16 (16 : Int))) = (AV.int .u8 n_17)) ∧
 (∃ n_18 : Int, (((AV.int .i64 (IntKind.wrap .i64 n_17)) = (AV.int .i64 n_18)) ∧
 (bif (decide (n_15 < n_18)) then (∃ n_19 : Int, (((AV.int .i64 (12 : Int)) = (AV.int .i64 n_19)) ∧
 (∃ n_20 : Int, (((AV.int .i64 (12 : Int)) = (AV.int .i64 n_20)) ∧
 (∃ n_21 : Int, (((AV.int .i64 (IntKind.wrap .i64 (n_20 + (4 : Int)))) = (AV.int .i64 n_21)) ∧
 (bif ((((decide ((0 : Int) ≤ n_19)) && (decide ((0 : Int) ≤ n_21))) && (Nat.ble (Int.toNat n_19) (Int.toNat n_21))) && (Nat.ble (Int.toNat n_21) (List.length s))) then (∃ s_22 : (List UInt8), (((AV.str (List.take ((Int.toNat n_21) - (Int.toNat n_19)) (List.drop (Int.toNat n_19) s))) = (AV.str s_22)) ∧
 (bif (Nat.ble (List.length s_22) (4 : Nat)) then (∃ n_23 : Int, (((AV.int .i64 (numM s_22)) = (AV.int .i64 n_23)) ∧
 (∃ n_24 : Int, (((AV.int .i64 (12 : Int)) = (AV.int .i64 n_24)) ∧
 (∃ n_25 : Int, (((AV.int .i64 (IntKind.wrap .i64 (n_24 + (4 : Int)))) = (AV.int .i64 n_25)) ∧
 (∃ n_26 : Int, (((AV.int .i64 (0 : Int)) = (AV.int .i64 n_26)) ∧
 (∃ n_27 : Int, (((AV.int .i64 (IntKind.wrap .i64 (n_26 + (1 : Int)))) = (AV.int .i64 n_27)) ∧
 ((True ∧
 ((0 : Nat) = (0 : Nat))) ∧
 (vc_22_3 ∨
 (∃ y_28 : Nat, ((Lf (((1 : Nat) ≤ y_28) ∧
 (y_28 ≤ ((fst0M s) % (16 : Nat))))) ∧
 ((((15 : Nat) - y_28) < (100 : Nat)) ∧
 ((zeroMedM = zeroMedM) ∧
 ((((AV.bool false) :: ((AV.int .i64 n_7) :: ((AV.int .i64 n_11) :: ((AV.int .i64 n_12) :: ((AV.int .i64 n_13) :: ((AV.sl (3 : Nat) (1 : Nat) (0 : Nat) (1 : Nat) (1 : Nat)) :: (AV.nils :: ((AV.int .i64 (0 : Int)) :: ((AV.str []) :: []))))))))) = ((AV.bool false) :: ((AV.int .i64 n_7) :: ((AV.int .i64 n_11) :: ((AV.int .i64 n_12) :: ((AV.int .i64 n_13) :: ((AV.sl (3 : Nat) y_28 (0 : Nat) y_28 (1 : Nat)) :: (AV.nils :: ((AV.int .i64 (0 : Int)) :: ((AV.str []) :: [])))))))))) ∧
 ((((AV.int .i64 n_23) :: []) = ((AV.int .i64 (numM (List.take (4 : Nat) (List.drop (12 : Nat) s)))) :: [])) ∧
 ((((AV.int .i64 n_23) :: []) = (cellsI (rcsM s y_28))) ∧
 (((AV.str s) = (AV.str s)) ∧
 (((AV.int .i64 n_25) = (AV.int .i64 (Nat.cast ((12 : Nat) + ((4 : Nat) * y_28)) : Int))) ∧
 (((AV.ptr (0 : Nat) (9 : Nat) (0 : Nat)) = (AV.ptr (0 : Nat) (9 : Nat) (0 : Nat))) ∧
 (((AV.ptr (1 : Nat) (9 : Nat) (0 : Nat)) = (AV.ptr (1 : Nat) (9 : Nat) (0 : Nat))) ∧
 (((AV.int .i64 n_27) = (AV.int .i64 (Nat.cast y_28 : Int))) ∧
 True))))))))))))))))))))))))
else False)))
else False)))))))
else (extR s (12 : Int) (fun (l_ : List Xt) => (fun (pad_ : Int) (y_ : List UInt8) => (∃ cs_47 : (List Int), (∃ ex_48 : (List Xt), ((Lf (medK [] (0 : Nat) (cellsXM l_) (List.length l_) cs_47 ex_48)) ∧
 (∀ b_49 : Bool, ((Lf (b_49 = (rightM n_7 n_11 n_12 n_13 cs_47 ex_48 pad_))) →
(bif b_49 then (∃ cs_50 : (List Int), (∃ ex_51 : (List Xt), ((Lf (((medK [] (0 : Nat) (cellsXM l_) (List.length l_) cs_50 ex_51) ∧
 ((rightM n_7 n_11 n_12 n_13 cs_50 ex_51 pad_) = true)) ∧
 ((List.length y_) ≤ (1000000000 : Nat)))) ∧
 (∀ s_52 : (List UInt8), ((Lf (s_52 = (encM false n_7 n_11 n_12 n_13 cs_50 ex_51 pad_ y_))) →
(bif (!(eqB s_52 s)) then (Q (Out.ret (AV.tup ((AV.agg zeroMedM) :: ((AV.int .i64 (5 : Int)) :: [])))) [] (Gh.mk (0 : Nat) (0 : Nat) []))
else (Q (Out.ret (AV.tup ((AV.agg ((AV.bool false) :: ((AV.int .i64 n_7) :: ((AV.int .i64 n_11) :: ((AV.int .i64 n_12) :: ((AV.int .i64 n_13) :: (AV.nils :: ((AV.lst (0 : Nat) (cellsXM l_) (List.length l_) (2 : Nat)) :: ((AV.int .i64 pad_) :: ((AV.str y_) :: [])))))))))) :: ((AV.int .i64 (0 : Int)) :: [])))) [] (Gh.mk (0 : Nat) (0 : Nat) []))))))))
else (Q (Out.ret (AV.tup ((AV.agg zeroMedM) :: ((AV.int .i64 (5 : Int)) :: [])))) [] (Gh.mk (0 : Nat) (0 : Nat) [])))))))))) (fun (pad_ : Int) (y_ : List UInt8) => (∃ cs_37 : (List Int), (∃ ex_38 : (List Xt), ((Lf (medK [] (0 : Nat) [] (0 : Nat) cs_37 ex_38)) ∧
 (∀ b_39 : Bool, ((Lf (b_39 = (rightM n_7 n_11 n_12 n_13 cs_37 ex_38 pad_))) →
(bif b_39 then (∃ cs_40 : (List Int), (∃ ex_41 : (List Xt), ((Lf (((medK [] (0 : Nat) [] (0 : Nat) cs_40 ex_41) ∧
 ((rightM n_7 n_11 n_12 n_13 cs_40 ex_41 pad_) = true)) ∧
 ((List.length y_) ≤ (1000000000 : Nat)))) ∧
 (∀ s_42 : (List UInt8), ((Lf (s_42 = (encM false n_7 n_11 n_12 n_13 cs_40 ex_41 pad_ y_))) →
(bif (!(eqB s_42 s)) then (Q (Out.ret (AV.tup ((AV.agg zeroMedM) :: ((AV.int .i64 (5 : Int)) :: [])))) [] (Gh.mk (0 : Nat) (0 : Nat) []))
else (Q (Out.ret (AV.tup ((AV.agg ((AV.bool false) :: ((AV.int .i64 n_7) :: ((AV.int .i64 n_11) :: ((AV.int .i64 n_12) :: ((AV.int .i64 n_13) :: (AV.nils :: (AV.nils :: ((AV.int .i64 pad_) :: ((AV.str y_) :: [])))))))))) :: ((AV.int .i64 (0 : Int)) :: [])))) [] (Gh.mk (0 : Nat) (0 : Nat) []))))))))
else (Q (Out.ret (AV.tup ((AV.agg zeroMedM) :: ((AV.int .i64 (5 : Int)) :: [])))) [] (Gh.mk (0 : Nat) (0 : Nat) [])))))))))))))))))
else False))))) ∧
 (∀ x_14 : Nat, ((Lf (((1 : Nat) ≤ x_14) ∧
 (x_14 ≤ ((fst0M s) % (16 : Nat))))) →
(∃ n_15 : Int, (((AV.int .i64 (Nat.cast x_14 : Int)) = (AV.int .i64 n_15)) ∧
 (bif (Nat.blt (0 : Nat) (List.length s)) then (∃ n_16 : Int, (((AV.int .u8 (Nat.cast (UInt8.toNat (List.getD s (0 : Nat) (UInt8.ofNat (0 : Nat)))) : Int)) = (AV.int .u8 n_16)) ∧
 (∃ n_17 : Int, (((AV.int .u8 (Int.tmod n_16 (16 : Int))) = (AV.int .u8 n_17)) ∧
 (∃ n_18 : Int, (((AV.int .i64 (IntKind.wrap .i64 n_17)) = (AV.int .i64 n_18)) ∧
 (bif (decide (n_15 < n_18)) then (∃ n_19 : Int, (((AV.int .i64 (Nat.cast ((12 : Nat) + ((4 : Nat) * x_14)) : Int)) = (AV.int .i64 n_19)) ∧
 (∃ n_20 : Int, (((AV.int .i64 (Nat.cast ((12 : Nat) + ((4 : Nat) * x_14)) : Int)) = (AV.int .i64 n_20)) ∧
 (∃ n_21 : Int, (((AV.int .i64 (IntKind.wrap .i64 (n_20 + (4 : Int)))) = (AV.int .i64 n_21)) ∧
 (bif ((((decide ((0 : Int) ≤ n_19)) && (decide ((0 : Int) ≤ n_21))) && (Nat.ble (Int.toNat n_19) (Int.toNat n_21))) && (Nat.ble (Int.toNat n_21) (List.length s))) then (∃ s_22 : (List UInt8), (((AV.str (List.take ((Int.toNat n_21) - (Int.toNat n_19)) (List.drop (Int.toNat n_19) s))) = (AV.str s_22)) ∧
 (bif (Nat.ble (List.length s_22) (4 : Nat)) then (bif ((eqAVL ((AV.sl (3 : Nat) x_14 (0 : Nat) x_14 (1 : Nat)) :: []) ((AV.sl (3 : Nat) x_14 (0 : Nat) x_14 (1 : Nat)) :: [])) && true) then (∃ n_23 : Int, (((AV.int .i64 (numM s_22)) = (AV.int .i64 n_23)) ∧
 (bif (((((Nat.beq (List.length (cellsI (rcsM s x_14))) x_14) && true) && (Nat.beq ((0 : Nat) + (x_14 * (1 : Nat))) x_14)) && (Nat.ble (x_14 + (1 : Nat)) (1099511627776 : Nat))) && (Nat.ble ((x_14 + (1 : Nat)) * (8 : Nat)) (1099511627776 : Nat))) then (∃ n_24 : Int, (((AV.int .i64 (Nat.cast ((12 : Nat) + ((4 : Nat) * x_14)) : Int)) = (AV.int .i64 n_24)) ∧
 (∃ n_25 : Int, (((AV.int .i64 (IntKind.wrap .i64 (n_24 + (4 : Int)))) = (AV.int .i64 n_25)) ∧
 (∃ n_26 : Int, (((AV.int .i64 (Nat.cast x_14 : Int)) = (AV.int .i64 n_26)) ∧
 (∃ n_27 : Int, (((AV.int .i64 (IntKind.wrap .i64 (n_26 + (1 : Int)))) = (AV.int .i64 n_27)) ∧
 ((True ∧
 ((0 : Nat) = (0 : Nat))) ∧
 ((∃ y_28 : Nat, ((Lf (y_28 = (0 : Nat))) ∧
 (((100 : Nat) < ((15 : Nat) - x_14)) ∧
 vc_22_1))) ∨
 (∃ y_28 : Nat, ((Lf (((1 : Nat) ≤ y_28) ∧
 (y_28 ≤ ((fst0M s) % (16 : Nat))))) ∧
 ((((15 : Nat) - y_28) < ((15 : Nat) - x_14)) ∧
 ((zeroMedM = zeroMedM) ∧
 ((((AV.bool false) :: ((AV.int .i64 n_7) :: ((AV.int .i64 n_11) :: ((AV.int .i64 n_12) :: ((AV.int .i64 n_13) :: ((AV.sl (3 : Nat) (x_14 + (1 : Nat)) (0 : Nat) (x_14 + (1 : Nat)) (1 : Nat)) :: (AV.nils :: ((AV.int .i64 (0 : Int)) :: ((AV.str []) :: []))))))))) = ((AV.bool false) :: ((AV.int .i64 n_7) :: ((AV.int .i64 n_11) :: ((AV.int .i64 n_12) :: ((AV.int .i64 n_13) :: ((AV.sl (3 : Nat) y_28 (0 : Nat) y_28 (1 : Nat)) :: (AV.nils :: ((AV.int .i64 (0 : Int)) :: ((AV.str []) :: [])))))))))) ∧
 ((((AV.int .i64 (numM (List.take (4 : Nat) (List.drop (12 : Nat) s)))) :: []) = ((AV.int .i64 (numM (List.take (4 : Nat) (List.drop (12 : Nat) s)))) :: [])) ∧
 ((((cellsI (rcsM s x_14)) ++ ((AV.int .i64 n_23) :: [])) = (cellsI (rcsM s y_28))) ∧
 (((AV.str s) = (AV.str s)) ∧
 (((AV.int .i64 n_25) = (AV.int .i64 (Nat.cast ((12 : Nat) + ((4 : Nat) * y_28)) : Int))) ∧
 (((AV.ptr (0 : Nat) (9 : Nat) (0 : Nat)) = (AV.ptr (0 : Nat) (9 : Nat) (0 : Nat))) ∧
 (((AV.ptr (1 : Nat) (9 : Nat) (0 : Nat)) = (AV.ptr (1 : Nat) (9 : Nat) (0 : Nat))) ∧
 (((AV.int .i64 n_27) = (AV.int .i64 (Nat.cast y_28 : Int))) ∧
 True))))))))))))))))))))))
else False)))
else False)
else False)))
else False)))))))
else (extR s (Nat.cast ((12 : Nat) + ((4 : Nat) * x_14)) : Int) (fun (l_ : List Xt) => (fun (pad_ : Int) (y_ : List UInt8) => (bif (((Nat.beq (List.length (cellsI (rcsM s x_14))) x_14) && (Nat.ble ((0 : Nat) + (x_14 * (1 : Nat))) x_14)) && true) then (∃ cs_47 : (List Int), (∃ ex_48 : (List Xt), ((Lf (medK (List.map (fun x_49 : AV => (frzV (1 : Nat) ((Blk.mk BK.exact true zeroMedM) :: ((Blk.mk BK.exact false ((AV.bool false) :: ((AV.int .i64 n_7) :: ((AV.int .i64 n_11) :: ((AV.int .i64 n_12) :: ((AV.int .i64 n_13) :: ((AV.sl (3 : Nat) x_14 (0 : Nat) x_14 (1 : Nat)) :: ((AV.lst (0 : Nat) (cellsXM l_) (List.length l_) (2 : Nat)) :: ((AV.int .i64 pad_) :: ((AV.str y_) :: [])))))))))) :: ((Blk.mk BK.exact true ((AV.int .i64 (numM (List.take (4 : Nat) (List.drop (12 : Nat) s)))) :: [])) :: ((Blk.mk BK.grow true (cellsI (rcsM s x_14))) :: [])))) (7 : Nat) x_49)) (List.take (x_14 * (1 : Nat)) (List.drop (0 : Nat) (cellsI (rcsM s x_14))))) x_14 (cellsXM l_) (List.length l_) cs_47 ex_48)) ∧
 (∀ b_49 : Bool, ((Lf (b_49 = (rightM n_7 n_11 n_12 n_13 cs_47 ex_48 pad_))) →
(bif b_49 then (bif (((Nat.beq (List.length (cellsI (rcsM s x_14))) x_14) && (Nat.ble ((0 : Nat) + (x_14 * (1 : Nat))) x_14)) && true) then (∃ cs_50 : (List Int), (∃ ex_51 : (List Xt), ((Lf (((medK (List.map (fun x_52 : AV => (frzV (1 : Nat) ((Blk.mk BK.exact true zeroMedM) :: ((Blk.mk BK.exact false ((AV.bool false) :: ((AV.int .i64 n_7) :: ((AV.int .i64 n_11) :: ((AV.int .i64 n_12) :: ((AV.int .i64 n_13) :: ((AV.sl (3 : Nat) x_14 (0 : Nat) x_14 (1 : Nat)) :: ((AV.lst (0 : Nat) (cellsXM l_) (List.length l_) (2 : Nat)) :: ((AV.int .i64 pad_) :: ((AV.str y_) :: [])))))))))) :: ((Blk.mk BK.exact true ((AV.int .i64 (numM (List.take (4 : Nat) (List.drop (12 : Nat) s)))) :: [])) :: ((Blk.mk BK.grow true (cellsI (rcsM s x_14))) :: [])))) (7 : Nat) x_52)) (List.take (x_14 * (1 : Nat)) (List.drop (0 : Nat) (cellsI (rcsM s x_14))))) x_14 (cellsXM l_) (List.length l_) cs_50 ex_51) ∧
 ((rightM n_7 n_11 n_12 n_13 cs_50 ex_51 pad_) = true)) ∧
 ((List.length y_) ≤ (1000000000 : Nat)))) ∧
 (∀ s_52 : (List UInt8), ((Lf (s_52 = (encM false n_7 n_11 n_12 n_13 cs_50 ex_51 pad_ y_))) →
(bif (!(eqB s_52 s)) then (Q (Out.ret (AV.tup ((AV.agg zeroMedM) :: ((AV.int .i64 (5 : Int)) :: [])))) [] (Gh.mk (0 : Nat) (0 : Nat) []))
else (Q (Out.ret (AV.tup ((AV.agg ((AV.bool false) :: ((AV.int .i64 n_7) :: ((AV.int .i64 n_11) :: ((AV.int .i64 n_12) :: ((AV.int .i64 n_13) :: ((AV.sl (3 : Nat) x_14 (0 : Nat) x_14 (1 : Nat)) :: ((AV.lst (0 : Nat) (cellsXM l_) (List.length l_) (2 : Nat)) :: ((AV.int .i64 pad_) :: ((AV.str y_) :: [])))))))))) :: ((AV.int .i64 (0 : Int)) :: [])))) ((Blk.mk BK.exact false ((AV.bool false) :: ((AV.int .i64 n_7) :: ((AV.int .i64 n_11) :: ((AV.int .i64 n_12) :: ((AV.int .i64 n_13) :: ((AV.sl (3 : Nat) x_14 (0 : Nat) x_14 (1 : Nat)) :: ((AV.lst (0 : Nat) (cellsXM l_) (List.length l_) (2 : Nat)) :: ((AV.int .i64 pad_) :: ((AV.str y_) :: [])))))))))) :: ((Blk.mk BK.exact false ((AV.bool false) :: ((AV.int .i64 n_7) :: ((AV.int .i64 n_11) :: ((AV.int .i64 n_12) :: ((AV.int .i64 n_13) :: ((AV.sl (3 : Nat) x_14 (0 : Nat) x_14 (1 : Nat)) :: ((AV.lst (0 : Nat) (cellsXM l_) (List.length l_) (2 : Nat)) :: ((AV.int .i64 pad_) :: ((AV.str y_) :: [])))))))))) :: ((Blk.mk BK.exact true ((AV.int .i64 (numM (List.take (4 : Nat) (List.drop (12 : Nat) s)))) :: [])) :: ((Blk.mk BK.grow true (cellsI (rcsM s x_14))) :: [])))) (Gh.mk (0 : Nat) (0 : Nat) []))))))))
else False)
else (Q (Out.ret (AV.tup ((AV.agg zeroMedM) :: ((AV.int .i64 (5 : Int)) :: [])))) [] (Gh.mk (0 : Nat) (0 : Nat) []))))))))
else False))) (fun (pad_ : Int) (y_ : List UInt8) => (bif (((Nat.beq (List.length (cellsI (rcsM s x_14))) x_14) && (Nat.ble ((0 : Nat) + (x_14 * (1 : Nat))) x_14)) && true) then (∃ cs_37 : (List Int), (∃ ex_38 : (List Xt), ((Lf (medK (List.map (fun x_39 : AV => (frzV (1 : Nat) ((Blk.mk BK.exact true zeroMedM) :: ((Blk.mk BK.exact false ((AV.bool false) :: ((AV.int .i64 n_7) :: ((AV.int .i64 n_11) :: ((AV.int .i64 n_12) :: ((AV.int .i64 n_13) :: ((AV.sl (3 : Nat) x_14 (0 : Nat) x_14 (1 : Nat)) :: (AV.nils :: ((AV.int .i64 pad_) :: ((AV.str y_) :: [])))))))))) :: ((Blk.mk BK.exact true ((AV.int .i64 (numM (List.take (4 : Nat) (List.drop (12 : Nat) s)))) :: [])) :: ((Blk.mk BK.grow true (cellsI (rcsM s x_14))) :: [])))) (7 : Nat) x_39)) (List.take (x_14 * (1 : Nat)) (List.drop (0 : Nat) (cellsI (rcsM s x_14))))) x_14 [] (0 : Nat) cs_37 ex_38)) ∧
 (∀ b_39 : Bool, ((Lf (b_39 = (rightM n_7 n_11 n_12 n_13 cs_37 ex_38 pad_))) →
(bif b_39 then (bif (((Nat.beq (List.length (cellsI (rcsM s x_14))) x_14) && (Nat.ble ((0 : Nat) + (x_14 * (1 : Nat))) x_14)) && true) then (∃ cs_40 : (List Int), (∃ ex_41 : (List Xt), ((Lf (((medK (List.map (fun x_42 : AV => (frzV (1 : Nat) ((Blk.mk BK.exact true zeroMedM) :: ((Blk.mk BK.exact false ((AV.bool false) :: ((AV.int .i64 n_7) :: ((AV.int .i64 n_11) :: ((AV.int .i64 n_12) :: ((AV.int .i64 n_13) :: ((AV.sl (3 : Nat) x_14 (0 : Nat) x_14 (1 : Nat)) :: (AV.nils :: ((AV.int .i64 pad_) :: ((AV.str y_) :: [])))))))))) :: ((Blk.mk BK.exact true ((AV.int .i64 (numM (List.take (4 : Nat) (List.drop (12 : Nat) s)))) :: [])) :: ((Blk.mk BK.grow true (cellsI (rcsM s x_14))) :: [])))) (7 : Nat) x_42)) (List.take (x_14 * (1 : Nat)) (List.drop (0 : Nat) (cellsI (rcsM s x_14))))) x_14 [] (0 : Nat) cs_40 ex_41) ∧
 ((rightM n_7 n_11 n_12 n_13 cs_40 ex_41 pad_) = true)) ∧
 ((List.length y_) ≤ (1000000000 : Nat)))) ∧
 (∀ s_42 : (List UInt8), ((Lf (s_42 = (encM false n_7 n_11 n_12 n_13 cs_40 ex_41 pad_ y_))) →
(bif (!(eqB s_42 s)) then (Q (Out.ret (AV.tup ((AV.agg zeroMedM) :: ((AV.int .i64 (5 : Int)) :: [])))) [] (Gh.mk (0 : Nat) (0 : Nat) []))
else (Q (Out.ret (AV.tup ((AV.agg ((AV.bool false) :: ((AV.int .i64 n_7) :: ((AV.int .i64 n_11) :: ((AV.int .i64 n_12) :: ((AV.int .i64 n_13) :: ((AV.sl (3 : Nat) x_14 (0 : Nat) x_14 (1 : Nat)) :: (AV.nils :: ((AV.int .i64 pad_) :: ((AV.str y_) :: [])))))))))) :: ((AV.int .i64 (0 : Int)) :: [])))) ((Blk.mk BK.exact false ((AV.bool false) :: ((AV.int .i64 n_7) :: ((AV.int .i64 n_11) :: ((AV.int .i64 n_12) :: ((AV.int .i64 n_13) :: ((AV.sl (3 : Nat) x_14 (0 : Nat) x_14 (1 : Nat)) :: (AV.nils :: ((AV.int .i64 pad_) :: ((AV.str y_) :: [])))))))))) :: ((Blk.mk BK.exact false ((AV.bool false) :: ((AV.int .i64 n_7) :: ((AV.int .i64 n_11) :: ((AV.int .i64 n_12) :: ((AV.int .i64 n_13) :: ((AV.sl (3 : Nat) x_14 (0 : Nat) x_14 (1 : Nat)) :: (AV.nils :: ((AV.int .i64 pad_) :: ((AV.str y_) :: [])))))))))) :: ((Blk.mk BK.exact true ((AV.int .i64 (numM (List.take (4 : Nat) (List.drop (12 : Nat) s)))) :: [])) :: ((Blk.mk BK.grow true (cellsI (rcsM s x_14))) :: [])))) (Gh.mk (0 : Nat) (0 : Nat) []))))))))
else False)
else (Q (Out.ret (AV.tup ((AV.agg zeroMedM) :: ((AV.int .i64 (5 : Int)) :: [])))) [] (Gh.mk (0 : Nat) (0 : Nat) []))))))))
else False))))))))))
else False)))))))))
else False)))
else False)))
else False)))
else False)))
else False)))
else False)))))))
else False))))
else False))))
else False)))))))))) := by kernel_rfl

/-! ## what the reference reads -/
def rbM (s : List UInt8) : Nat := (s.getD 1 (UInt8.ofNat 0)).toNat
def restM (s : List UInt8) : List UInt8 := s.drop (needM s).toNat
def rpadM (s : List UInt8) : Nat := if fst0M s / 32 % 2 = 1 ∧ 0 < (restM s).length then min (s.getD (s.length - 1) (UInt8.ofNat 0)).toNat (restM s).length else 0
def rplM (s : List UInt8) : List UInt8 := (restM s).take ((restM s).length - rpadM s)
def rslM (s : List UInt8) : List UInt8 := (s.drop (16 + 4 * (fst0M s % 16))).take ((needM s).toNat - (16 + 4 * (fst0M s % 16)))
def rextM (s : List UInt8) : List Xt := if fst0M s / 16 % 2 = 1 then rexM (decide (numM ((s.drop (12 + 4 * (fst0M s % 16))).take 2) = 48862)) (rslM s).length (rslM s) else []
theorem need_nn (s : List UInt8) : 0 ≤ needM s := by
  rw [needM]
  have := num_lt ((s.drop (14 + 4 * (fst0M s % 16))).take 2)
  split
  · split <;> omega
  · omega
theorem tailR_ok {s : List UInt8} {LF : Int → List UInt8 → Prop} (h0 : 0 < s.length) (hs : s.length ≤ 1200) (hn : needM s ≤ s.length) (hq : LF (rpadM s) (rplM s)) : tailR s LF := by
  unfold tailR
  have hnn := need_nn s
  have hf : fst0M s < 256 := (s.getD 0 (UInt8.ofNat 0)).toNat_lt
  have hd : Int.tdiv (((s.getD 0 (UInt8.ofNat 0)).toNat : Nat) : Int) 32 = ((fst0M s / 32 : Nat) : Int) := rfl
  have hm2 : Int.tmod ((fst0M s / 32 : Nat) : Int) 2 = ((fst0M s / 32 % 2 : Nat) : Int) := rfl
  have hR : (restM s).length = s.length - (needM s).toNat := by rw [restM, List.length_drop]
  refine ckI (by simp; omega) ⟨_, rfl, ckI (by simp; omega) ⟨restM s, by rw [restM, List.take_of_length_le (by simp)], ckI (by simp; omega) ⟨_, rfl, ?_⟩⟩⟩
  rw [hd]
  refine wrapU8 (by omega) (by omega) ⟨_, rfl, ?_⟩
  rw [hm2]
  have z : ¬ (fst0M s / 32 % 2 = 1 ∧ 0 < (restM s).length) → LF 0 (restM s) := fun h => by
    have e : rpadM s = 0 := by rw [rpadM, if_neg h]
    rw [rplM, e, Nat.sub_zero, List.take_length] at hq
    exact hq
  refine splitE (fun hb => ⟨_, rfl, splitD (fun hl => ?_) (fun hl => z (by omega))⟩) (fun hb => z (by omega))
  have hc := (s.getD (s.length - 1) (UInt8.ofNat 0)).toNat_lt
  have e : rpadM s = min (s.getD (s.length - 1) (UInt8.ofNat 0)).toNat (restM s).length := by rw [rpadM, if_pos (by omega)]
  refine ⟨_, rfl, wrapI (by omega) (by omega) (ckI (by simp; omega) ⟨_, rfl, ?_⟩)⟩
  rw [show Int.toNat ((s.length : Int) - 1) = s.length - 1 by omega]
  refine wrapI (by omega) (by omega) ⟨_, rfl, iminI rfl ⟨_, rfl, ?_⟩⟩
  rw [← e]
  have hp : rpadM s ≤ (restM s).length := by rw [e]; exact Nat.min_le_right _ _
  refine wrapI (by omega) (by omega) (ckI (by simp; omega) ⟨rplM s, ?_, hq⟩)
  rw [rplM, List.drop_zero, Nat.sub_zero, show Int.toNat (((restM s).length : Int) - (rpadM s : Int)) = (restM s).length - rpadM s by omega]
theorem need_ext {s : List UInt8} (hb : fst0M s / 16 % 2 = 1) (hn : needM s ≤ s.length) : 16 + 4 * (fst0M s % 16) ≤ s.length ∧ needM s = ((16 + 4 * (fst0M s % 16) : Nat) : Int) + 4 * numM ((s.drop (14 + 4 * (fst0M s % 16))).take 2) := by
  rw [needM, if_pos hb] at hn ⊢
  by_cases h : 16 + 4 * (fst0M s % 16) ≤ s.length
  · rw [if_pos h] at hn ⊢
    exact ⟨h, rfl⟩
  · rw [if_neg h] at hn
    omega
theorem extR_ok {s : List UInt8} {at' : Int} {F1 : List Xt → Int → List UInt8 → Prop} {F0 : Int → List UInt8 → Prop} (h12 : 12 ≤ s.length) (hs : s.length ≤ 1200) (hn : needM s ≤ s.length) (hat : at' = ((12 + 4 * (fst0M s % 16) : Nat) : Int))
    (h1 : fst0M s / 16 % 2 = 1 → F1 (rextM s) (rpadM s) (rplM s)) (h0 : rextM s = [] → F0 (rpadM s) (rplM s)) : extR s at' F1 F0 := by
  unfold extR
  have hnn := need_nn s
  have hf : fst0M s < 256 := (s.getD 0 (UInt8.ofNat 0)).toNat_lt
  have hd : Int.tdiv (((s.getD 0 (UInt8.ofNat 0)).toNat : Nat) : Int) 16 = ((fst0M s / 16 : Nat) : Int) := rfl
  have hm2 : Int.tmod ((fst0M s / 16 : Nat) : Int) 2 = ((fst0M s / 16 % 2 : Nat) : Int) := rfl
  refine ckI (by simp; omega) ⟨_, rfl, ?_⟩
  rw [hd]
  refine wrapU8 (by omega) (by omega) ⟨_, rfl, ?_⟩
  rw [hm2]
  refine splitE (fun hb => ?_) (fun hb => ?_)
  · obtain ⟨k1, k2⟩ := need_ext (by omega) hn
    have hw := num_lt ((s.drop (14 + 4 * (fst0M s % 16))).take 2)
    have h1' := h1 (by omega)
    have hb' : fst0M s / 16 % 2 = 1 := by omega
    subst hat
    have hsl : (rslM s).length ≤ 1200 := by rw [rslM, List.length_take, List.length_drop]; omega
    refine ⟨_, rfl, wrapI (by omega) (by omega) ⟨_, rfl, _, rfl, wrapI (by omega) (by omega) (ckI (by simp; omega) ⟨(s.drop (12 + 4 * (fst0M s % 16))).take 2, ?_, ckI (by simp; omega) ⟨_, rfl, ckI (by simp; omega) ⟨rslM s, ?_, ckI (by rw [Nat.ble_eq, List.length_take]; omega) ⟨_, rfl, ?_⟩⟩⟩⟩)⟩⟩
    · rw [Int.toNat_natCast, show Int.toNat (((12 + 4 * (fst0M s % 16) : Nat) : Int) + 2) - (12 + 4 * (fst0M s % 16)) = 2 by omega]
    · rw [rslM, show Int.toNat (((12 + 4 * (fst0M s % 16) : Nat) : Int) + 4) = 16 + 4 * (fst0M s % 16) by omega]
    · refine splitE (fun hp => ckI (by rw [Nat.ble_eq]; omega) ?_) (fun hp => ckI (by rw [Nat.ble_eq]; omega) ?_)
      · rintro l ⟨hl⟩
        have : l = rextM s := by rw [hl, rextM, if_pos hb', decide_eq_true hp]
        subst this
        exact tailR_ok (by omega) hs hn h1'
      · rintro l ⟨hl⟩
        have : l = rextM s := by rw [hl, rextM, if_pos hb', decide_eq_false hp]
        subst this
        exact tailR_ok (by omega) hs hn h1'
  · exact tailR_ok (by omega) hs hn (h0 (by rw [rextM, if_neg (by omega)]))
/-! ## it is what Decode reads -/
theorem take_at {l : List UInt8} {k : Int} {j : Nat} (hj : k.toNat = j) (h : j ≤ l.length) (b : Bool) : takeNM l k = numM (l.take j) ∧ takeLM l k = l.drop j ∧ takeSM b l k = b := by
  have h1 : ¬ (l.length < k.toNat) := by omega
  refine ⟨by rw [takeNM, if_neg h1, hj], by rw [takeLM, if_neg h1, hj], by rw [takeSM, decide_eq_false h1, Bool.or_false]⟩
theorem num_one {l : List UInt8} {i : Nat} (h : i < l.length) : numM ((l.drop i).take 1) = ((l.getD i (UInt8.ofNat 0)).toNat : Int) := by
  rw [List.drop_eq_getElem_cons h, List.take_succ_cons, List.take_zero]
  simp [numM, List.getD, h]
theorem cs_at {s : List UInt8} : ∀ i, 12 + 4 * i ≤ s.length → leftM (s.drop 12) i = s.drop (12 + 4 * i) ∧ csM (s.drop 12) i = rcsM s i
  | 0, _ => ⟨rfl, rfl⟩
  | i + 1, h => by
    obtain ⟨h1, h2⟩ := cs_at (s := s) i (by omega)
    obtain ⟨a1, a2, _⟩ := take_at (l := s.drop (12 + 4 * i)) (k := 4) (j := 4) rfl (by rw [List.length_drop]; omega) false
    rw [leftM, csM, rcsM, h1, h2, a1, a2, List.drop_drop]
    exact ⟨by rw [show 12 + 4 * i + 4 = 12 + 4 * (i + 1) by omega], rfl⟩
theorem rex_of (p : Int) : ∀ (f : Nat) (last : Int) (n : Nat) (t : List UInt8) (l : List Xt), extGoM p f last n t = (l, false) → rexM (decide (p = 48862)) f t = l
  | f, last, n, [], l, h => by
    rw [extGo_nil] at h
    simp only [Prod.mk.injEq, and_true] at h
    rw [rex_nil, h]
  | 0, last, n, c :: s, l, h => by
    rw [extGoM] at h
    simp only [Prod.mk.injEq, and_true] at h
    rw [rexM, h]
  | f + 1, last, n, c :: s, l, h => by
    by_cases z : c.toNat = 0
    · rw [extGoM, if_pos (by omega)] at h
      simp only [Prod.mk.injEq] at h
      rw [rex_zero z, h.1]
    by_cases hp : p = 48862
    · subst hp
      rw [extGo_short z] at h
      split at h
      · simp at h
      rename_i hg
      generalize hX : extGoM 48862 f ((c.toNat / 16 : Nat) : Int) (n + 1) (s.drop (c.toNat % 16 + 1)) = X at h
      obtain ⟨l', b'⟩ := X
      simp only [Prod.mk.injEq] at h
      obtain ⟨rfl, rfl⟩ := h
      have ih := rex_of 48862 f _ _ _ _ hX
      rw [decide_eq_true rfl] at ih ⊢
      rw [rex_short z, show min (1 + c.toNat % 16) s.length = c.toNat % 16 + 1 by omega, ih]
    · cases s with
      | nil =>
        rw [extGoM, if_neg (by omega), if_pos ⟨hp, rfl⟩] at h
        simp at h
      | cons d u =>
        rw [extGo_long hp z] at h
        split at h
        · simp at h
        rename_i hg
        generalize hX : extGoM p f (c.toNat : Int) (n + 1) (u.drop d.toNat) = X at h
        obtain ⟨l', b'⟩ := X
        simp only [Prod.mk.injEq] at h
        obtain ⟨rfl, rfl⟩ := h
        have ih := rex_of p f _ _ _ _ hX
        rw [decide_eq_false hp] at ih ⊢
        rw [rex_long z, show min d.toNat u.length = d.toNat by omega, ih]
theorem exts_rex {p : Int} {t : List UInt8} {ex : List Xt} (h : extsM p t = (ex, false)) : rexM (decide (p = 48862)) t.length t = ex := by
  rw [extsM] at h
  generalize hX : extGoM p t.length 0 0 t = X at h
  obtain ⟨l, b⟩ := X
  simp only [Prod.mk.injEq, Bool.or_eq_false_iff] at h
  obtain ⟨rfl, ⟨⟨rfl, _⟩, _⟩, _⟩ := h
  exact rex_of p _ _ _ _ _ hX
theorem decT_two (bad : Bool) (fl : Int) (l : List UInt8) : (decTM false bad fl l).1 = 5 ∨ (decTM false bad fl l).1 = 0 := by
  unfold decTM
  rw [if_neg (by simp)]
  repeat' split
  all_goals simp
/-- the padding and the payload -/
theorem decT_rest {s : List UInt8} (h : 0 < s.length) (hn : needM s ≤ s.length) {bad : Bool} {p : Int} {y : List UInt8} (hd : decTM false bad (fst0M s : Int) (restM s) = (0, p, y)) : p = rpadM s ∧ y = rplM s := by
  have hnn := need_nn s
  have hR : (restM s).length = s.length - (needM s).toNat := by rw [restM, List.length_drop]
  have hlast : 0 < (restM s).length → (restM s).getD ((restM s).length - 1) (UInt8.ofNat 0) = s.getD (s.length - 1) (UInt8.ofNat 0) := fun q => by
    simp only [restM, List.getD, List.getElem?_drop, List.length_drop]
    rw [show (needM s).toNat + (s.length - (needM s).toNat - 1) = s.length - 1 by omega]
  rw [rplM, rpadM]
  unfold decTM at hd
  rw [if_neg (by simp)] at hd
  split at hd
  · rename_i h32
    split at hd
    · simp at hd
    rename_i hc
    split at hd
    · simp at hd
    simp only [Prod.mk.injEq, true_and] at hd
    simp only [not_or] at hc
    obtain ⟨c1, c2, _⟩ := hc
    have h0 : 0 < (restM s).length := by
      apply Nat.pos_of_ne_zero
      intro q
      rw [padNM, if_pos q] at c1
      exact c1 rfl
    have e : padNM (restM s) = (s.getD (s.length - 1) (UInt8.ofNat 0)).toNat := by rw [padNM, if_neg (by omega), hlast h0]
    rw [if_pos ⟨by omega, h0⟩, ← e, Nat.min_eq_left (by omega)]
    exact ⟨hd.1.symm, hd.2.symm⟩
  · rename_i h32
    split at hd
    · simp at hd
    simp only [Prod.mk.injEq, true_and] at hd
    rw [if_neg (by omega), Nat.sub_zero, List.take_length]
    exact ⟨hd.1.symm, hd.2.symm⟩
theorem dec_view {s : List UInt8} (h12 : 12 ≤ s.length) (hs : s.length ≤ 1200) (hn : needM s ≤ s.length) :
    decM s = zerM 5 ∨ decM s = (decide (128 ≤ rbM s), ((rbM s % 128 : Nat) : Int), numM ((s.drop 2).take 2), numM ((s.drop 4).take 4), numM ((s.drop 8).take 4), rcsM s (fst0M s % 16), rextM s, (rpadM s : Int), rplM s, 0) := by
  have hnn := need_nn s
  obtain ⟨a1, a2, a3⟩ := take_at (l := s) (k := 1) (j := 1) rfl (by omega) false
  obtain ⟨b1, b2, b3⟩ := take_at (l := s.drop 1) (k := 1) (j := 1) rfl (by rw [List.length_drop]; omega) false
  rw [List.drop_drop] at b2
  obtain ⟨c1, c2, c3⟩ := take_at (l := s.drop 2) (k := 2) (j := 2) rfl (by rw [List.length_drop]; omega) false
  rw [List.drop_drop] at c2
  obtain ⟨d1, d2, d3⟩ := take_at (l := s.drop 4) (k := 4) (j := 4) rfl (by rw [List.length_drop]; omega) false
  rw [List.drop_drop] at d2
  obtain ⟨e1, e2, e3⟩ := take_at (l := s.drop 8) (k := 4) (j := 4) rfl (by rw [List.length_drop]; omega) false
  rw [List.drop_drop] at e2
  have hL : l5M s = s.drop 12 := by rw [l5M, a2, b2, c2, d2, e2]
  have hS : s5M s = false := by rw [s5M, a2, b2, c2, d2, a3, b3, c3, d3, e3]
  have hf : takeNM s 1 = (fst0M s : Int) := by rw [a1]; exact num_one (l := s) (i := 0) (by omega)
  have hk : takeNM (takeLM s 1) 1 = (rbM s : Int) := by rw [a2, b1, num_one (by omega)]; rfl
  have hF : fst0M s < 256 := (s.getD 0 (UInt8.ofNat 0)).toNat_lt
  have hnc : 12 + 4 * (fst0M s % 16) ≤ s.length := by
    by_cases hb : fst0M s / 16 % 2 = 1
    · have := (need_ext hb hn).1
      omega
    · rw [needM, if_neg hb] at hn
      omega
  obtain ⟨g1, g2⟩ := cs_at (s := s) (fst0M s % 16) hnc
  have hlk : lackM (s5M s) (l5M s) (fst0M s % 16) = false := by rw [hS, hL]; exact (cs_put (fst0M s % 16) (by rw [List.length_drop]; omega)).1
  have hX : decXM false (fst0M s : Int) (s.drop (12 + 4 * (fst0M s % 16))) = (((decXM false (fst0M s : Int) (s.drop (12 + 4 * (fst0M s % 16)))).1), (decXM false (fst0M s : Int) (s.drop (12 + 4 * (fst0M s % 16)))).2) := rfl
  have key : (decXM false (fst0M s : Int) (s.drop (12 + 4 * (fst0M s % 16)))).2.1 = 5 ∨ decXM false (fst0M s : Int) (s.drop (12 + 4 * (fst0M s % 16))) = (rextM s, 0, (rpadM s : Int), rplM s) := by
    by_cases hb : fst0M s / 16 % 2 = 1
    · obtain ⟨k1, k2⟩ := need_ext hb hn
      have hw := num_lt ((s.drop (14 + 4 * (fst0M s % 16))).take 2)
      obtain ⟨p1, p2, p3⟩ := take_at (l := s.drop (12 + 4 * (fst0M s % 16))) (k := 2) (j := 2) rfl (by rw [List.length_drop]; omega) false
      rw [List.drop_drop, show 12 + 4 * (fst0M s % 16) + 2 = 14 + 4 * (fst0M s % 16) by omega] at p2
      obtain ⟨q1, q2, q3⟩ := take_at (l := s.drop (14 + 4 * (fst0M s % 16))) (k := 2) (j := 2) rfl (by rw [List.length_drop]; omega) false
      rw [List.drop_drop, show 14 + 4 * (fst0M s % 16) + 2 = 16 + 4 * (fst0M s % 16) by omega] at q2
      have hsl : (s.drop (16 + 4 * (fst0M s % 16))).take (4 * numM ((s.drop (14 + 4 * (fst0M s % 16))).take 2)).toNat = rslM s := by
        rw [rslM, k2]
        congr 1
        omega
      have hre : (s.drop (16 + 4 * (fst0M s % 16))).drop (4 * numM ((s.drop (14 + 4 * (fst0M s % 16))).take 2)).toNat = restM s := by
        rw [List.drop_drop, restM, k2]
        congr 1
        omega
      rw [decXM, if_pos (by omega), p2, q2, q1, p1, p3, q3, hsl, hre, if_neg (by rw [List.length_drop]; omega)]
      generalize hE : extsM (numM ((s.drop (12 + 4 * (fst0M s % 16))).take 2)) (rslM s) = E
      obtain ⟨ex, bad⟩ := E
      dsimp only
      rcases decT_two bad (fst0M s : Int) (restM s) with h | h
      · exact .inl h
      · right
        generalize hT : decTM false bad (fst0M s : Int) (restM s) = T at h
        obtain ⟨t1, t2, t3⟩ := T
        dsimp only at h
        subst h
        obtain ⟨_, rfl, _⟩ := decT_dec hT
        obtain ⟨rfl, rfl⟩ := decT_rest (by omega) hn hT
        rw [rextM, if_pos hb, exts_rex hE]
    · have hre : s.drop (12 + 4 * (fst0M s % 16)) = restM s := by
        rw [restM, needM, if_neg hb]
        rfl
      rw [decXM, if_neg (by omega), hre, rextM, if_neg hb]
      dsimp only
      rcases decT_two false (fst0M s : Int) (restM s) with h | h
      · exact .inl h
      · right
        generalize hT : decTM false false (fst0M s : Int) (restM s) = T at h ⊢
        obtain ⟨t1, t2, t3⟩ := T
        dsimp only at h
        subst h
        obtain ⟨rfl, rfl⟩ := decT_rest (by omega) hn hT
        rfl
  rw [decM, if_neg (by omega), hf, show (((fst0M s : Nat) : Int) % 16).toNat = fst0M s % 16 by omega, hlk, hL, g1, decPM, hk, a2, b2, c2, d2, c1, d1, e1, hL, g2]
  rcases key with h | h
  · left
    rw [if_neg (by rw [h]; omega), h]
  · right
    rw [h, if_pos rfl]
    simp only [Prod.mk.injEq, and_true, true_and, decide_eq_decide]
    omega
theorem dec_seven {s : List UInt8} (hs : s.length ≤ 1200) (h : s.length < 12 ∨ (s.length : Int) < needM s) : decM s = zerM 7 := by
  have key : (decXM (lackM (s5M s) (l5M s) (takeNM s 1 % 16).toNat) (takeNM s 1) (leftM (l5M s) (takeNM s 1 % 16).toNat)).2.1 = 7 → decM s = zerM 7 := fun q => by
    rw [decM, if_neg (by omega), decPM, if_neg (by rw [q]; omega), q]
  apply key
  by_cases h12 : s.length < 12
  · have : s5M s = true := by
      cases hs5 : s5M s with
      | true => rfl
      | false =>
        have := congrArg List.length (s5_put hs5)
        simp only [List.length_append, be_len] at this
        omega
    rw [this, lack_true]
    unfold decXM
    split
    · split
      · rfl
      · rw [take_true, take_true, decTM, if_pos rfl]
    · rw [decTM, if_pos rfl]
  have hn : (s.length : Int) < needM s := by omega
  have hX : ∀ (fl : Int) (l : List UInt8), (decXM true fl l).2.1 = 7 := fun fl l => by
    unfold decXM
    split
    · split
      · rfl
      · rw [take_true, take_true, decTM, if_pos rfl]
    · rw [decTM, if_pos rfl]
  obtain ⟨a1, a2, a3⟩ := take_at (l := s) (k := 1) (j := 1) rfl (by omega) false
  obtain ⟨b1, b2, b3⟩ := take_at (l := s.drop 1) (k := 1) (j := 1) rfl (by rw [List.length_drop]; omega) false
  rw [List.drop_drop] at b2
  obtain ⟨c1, c2, c3⟩ := take_at (l := s.drop 2) (k := 2) (j := 2) rfl (by rw [List.length_drop]; omega) false
  rw [List.drop_drop] at c2
  obtain ⟨d1, d2, d3⟩ := take_at (l := s.drop 4) (k := 4) (j := 4) rfl (by rw [List.length_drop]; omega) false
  rw [List.drop_drop] at d2
  obtain ⟨e1, e2, e3⟩ := take_at (l := s.drop 8) (k := 4) (j := 4) rfl (by rw [List.length_drop]; omega) false
  rw [List.drop_drop] at e2
  have hL : l5M s = s.drop 12 := by rw [l5M, a2, b2, c2, d2, e2]
  have hf : takeNM s 1 = (fst0M s : Int) := by rw [a1]; exact num_one (l := s) (i := 0) (by omega)
  have hF : fst0M s < 256 := (s.getD 0 (UInt8.ofNat 0)).toNat_lt
  rw [hf, show (((fst0M s : Nat) : Int) % 16).toNat = fst0M s % 16 by omega]
  by_cases hc : s.length < 12 + 4 * (fst0M s % 16)
  · rw [cs_lack _ (by rw [hL, List.length_drop]; omega)]
    exact hX _ _
  have hb : fst0M s / 16 % 2 = 1 := by
    by_cases hb : fst0M s / 16 % 2 = 1
    · exact hb
    · rw [needM, if_neg hb] at hn
      omega
  rw [hL, (cs_at (fst0M s % 16) (by omega)).1]
  cases hlk : lackM (s5M s) (s.drop 12) (fst0M s % 16) with
  | true => exact hX _ _
  | false =>
    rw [decXM, if_pos (by omega)]
    split
    · rfl
    rename_i hw
    cases hT : takeSM (takeSM false (s.drop (12 + 4 * (fst0M s % 16))) 2) (takeLM (s.drop (12 + 4 * (fst0M s % 16))) 2) 2 with
    | true =>
      dsimp only
      rw [decTM, if_pos rfl]
    | false =>
      exfalso
      obtain ⟨t1, t2⟩ := takeS_false hT
      obtain ⟨_, t3⟩ := takeS_false t1
      have t3' : 2 ≤ (s.drop (12 + 4 * (fst0M s % 16))).length := t3
      obtain ⟨_, p2, _⟩ := take_at (l := s.drop (12 + 4 * (fst0M s % 16))) (k := 2) (j := 2) rfl t3' false
      rw [List.drop_drop, show 12 + 4 * (fst0M s % 16) + 2 = 14 + 4 * (fst0M s % 16) by omega] at p2
      rw [p2] at hw t2
      have t2' : 2 ≤ (s.drop (14 + 4 * (fst0M s % 16))).length := t2
      obtain ⟨q1, q2, _⟩ := take_at (l := s.drop (14 + 4 * (fst0M s % 16))) (k := 2) (j := 2) rfl t2' false
      rw [List.drop_drop, show 14 + 4 * (fst0M s % 16) + 2 = 16 + 4 * (fst0M s % 16) by omega] at q2
      rw [q1, q2, List.length_drop] at hw
      rw [List.length_drop] at t2' t3'
      rw [needM, if_pos hb, if_pos (by omega)] at hn
      omega
theorem eqB_true (a b : List UInt8) (h : eqB a b = true) : a = b := by
  rw [eqB_iff] at h
  exact eq_of_beq h
theorem eqB_false {a b : List UInt8} (h : eqB a b = false) : a ≠ b := by
  rw [eqB_iff] at h
  exact ne_of_beq_false h
theorem rex_data (sh : Bool) : ∀ (f : Nat) (t : List UInt8), (rexM sh f t).length ≤ t.length ∧ ∀ x ∈ rexM sh f t, x.2.length ≤ t.length
  | 0, _ => by simp [rexM]
  | f + 1, [] => by simp [rexM]
  | f + 1, c :: s => by
    by_cases z : c.toNat = 0
    · rw [rex_zero z]; simp
    cases sh with
    | true =>
      rw [rex_short z]
      obtain ⟨h1, h2⟩ := rex_data true f (s.drop (min (1 + c.toNat % 16) s.length))
      rw [List.length_drop] at h1 h2
      refine ⟨by simp only [List.length_cons]; omega, fun x hx => ?_⟩
      rcases List.mem_cons.1 hx with rfl | hx
      · simp only [List.length_take, List.length_cons]; omega
      · have := h2 x hx
        simp only [List.length_cons]; omega
    | false =>
      cases s with
      | nil => rw [rex_one z]; simp
      | cons d u =>
        rw [rex_long z]
        obtain ⟨h1, h2⟩ := rex_data false f (u.drop (min d.toNat u.length))
        rw [List.length_drop] at h1 h2
        refine ⟨by simp only [List.length_cons]; omega, fun x hx => ?_⟩
        rcases List.mem_cons.1 hx with rfl | hx
        · simp only [List.length_take, List.length_cons]; omega
        · have := h2 x hx
          simp only [List.length_cons]; omega
theorem rext_data {s : List UInt8} (hs : s.length ≤ 1200) : (rextM s).length ≤ 1200 ∧ dataM (rextM s) := by
  have hl : (rslM s).length ≤ 1200 := by rw [rslM, List.length_take, List.length_drop]; omega
  rw [rextM]
  split
  · obtain ⟨h1, h2⟩ := rex_data (decide (numM ((s.drop (12 + 4 * (fst0M s % 16))).take 2) = 48862)) (rslM s).length (rslM s)
    exact ⟨by omega, fun x hx => by have := h2 x hx; omega⟩
  · exact ⟨by simp, fun x hx => by simp at hx⟩
theorem rcs_len (s : List UInt8) : ∀ i, (rcsM s i).length = i
  | 0 => rfl
  | i + 1 => by simp [rcsM, rcs_len s i]
theorem rdecode_run (s : List UInt8) (Q : Out → List Blk → Gh → Prop) (hq : end21 s Q) : ∃ hv hb, goal_22 hv hb s Q := by
  obtain ⟨hv, hb', e⟩ : ∃ hv hb, goal_22 hv hb s Q = _ := ⟨_, _, vc_22 s Q⟩
  refine ⟨hv, hb', e.mpr ?_⟩
  clear e
  have zc : okC [] .nils [] := rfl
  have ze : okE [] .nils [] := rfl
  have zE : ∀ H, okE H .nils [] := fun _ => rfl
  have zL : ∀ H, okE H (.lst 0 (cellsXM (rextM s)) (rextM s).length 2) (rextM s) := fun _ => rfl
  have hE : ∀ e, decM s = zerM e → Q (errV e) [] {} := fun e he => hq _ _ _ _ _ _ _ _ _ _ _ _ _ zc ze he
  refine ⟨_, rfl, splitD (fun h => hE 3 (by rw [decM, if_pos (by omega)])) (fun h => ?_)⟩
  have hs : s.length ≤ 1200 := by omega
  refine ⟨_, rfl, splitD (fun h12 => hE 7 (dec_seven hs (.inl (by omega)))) (fun h12 => ?_)⟩
  refine ⟨_, rfl, ckI (by simp; omega) ⟨_, rfl, splitD (fun hn => hE 7 (dec_seven hs (.inr hn))) (fun hn => ?_)⟩⟩
  have hl12 : 12 ≤ s.length := by omega
  have hn' : needM s ≤ s.length := by omega
  have hF : fst0M s < 256 := (s.getD 0 (UInt8.ofNat 0)).toNat_lt
  have hB : rbM s < 256 := (s.getD 1 (UInt8.ofNat 0)).toNat_lt
  obtain ⟨hx1, hx2⟩ := rext_data hs
  have hcl := rcs_len s (fst0M s % 16)
  have hpl : (rplM s).length ≤ 1200 := by rw [rplM, List.length_take, restM, List.length_drop]; omega
  have hv := dec_view hl12 hs hn'
  have hgood : ∀ {a b : AV} {H : List Blk} {ex : List Xt} {cs : List Int} {mk : Bool}, mk = decide (128 ≤ rbM s) → ex = rextM s → cs = rcsM s (fst0M s % 16) → okC H a cs → okE H b ex → rightM ((rbM s % 128 : Nat) : Int) (numM ((s.drop 2).take 2)) (numM ((s.drop 4).take 4)) (numM ((s.drop 8).take 4)) cs ex (rpadM s : Int) = true →
      encM mk ((rbM s % 128 : Nat) : Int) (numM ((s.drop 2).take 2)) (numM ((s.drop 4).take 4)) (numM ((s.drop 8).take 4)) cs ex (rpadM s : Int) (rplM s) = s → Q (.ret (.tup [.agg [.bool mk, .int .i64 ((rbM s % 128 : Nat) : Int), .int .i64 (numM ((s.drop 2).take 2)), .int .i64 (numM ((s.drop 4).take 4)), .int .i64 (numM ((s.drop 8).take 4)), a, b, .int .i64 (rpadM s : Int), .str (rplM s)], .int .i64 0])) H {} := fun {a b H ex cs mk} m1 m2 m3 m4 m5 m6 m7 => by
    subst m1 m2 m3
    refine hq _ _ _ _ _ _ _ _ _ _ _ _ _ m4 m5 ?_
    have := dec_enc m6 (pl := rplM s) (mk := decide (128 ≤ rbM s)) (by rw [m7]; exact hs)
    rwa [m7] at this
  have hbad : ∀ {ex : List Xt} {cs : List Int} {mk : Bool}, mk = decide (128 ≤ rbM s) → ex = rextM s → cs = rcsM s (fst0M s % 16) → (rightM ((rbM s % 128 : Nat) : Int) (numM ((s.drop 2).take 2)) (numM ((s.drop 4).take 4)) (numM ((s.drop 8).take 4)) cs ex (rpadM s : Int) = true →
      encM mk ((rbM s % 128 : Nat) : Int) (numM ((s.drop 2).take 2)) (numM ((s.drop 4).take 4)) (numM ((s.drop 8).take 4)) cs ex (rpadM s : Int) (rplM s) = s → False) → Q (errV 5) [] {} := fun {ex cs mk} m1 m2 m3 m4 => by
    subst m1 m2 m3
    rcases hv with h5 | h0
    · exact hE 5 h5
    · obtain ⟨r1, r2, _⟩ := dec_ok h0
      exact absurd r2 (m4 r1)
  have hm : Int.tmod (((s.getD 1 (UInt8.ofNat 0)).toNat : Nat) : Int) 128 = ((rbM s % 128 : Nat) : Int) := rfl
  have hm0 : Int.tmod (((s.getD 0 (UInt8.ofNat 0)).toNat : Nat) : Int) 16 = ((fst0M s % 16 : Nat) : Int) := rfl
  have hb1 : (s.getD 1 (UInt8.ofNat 0)).toNat = rbM s := rfl
  refine ckI (by simp; omega) ⟨_, rfl, splitD (fun hk => ?_) (fun hk => ?_)⟩
  all_goals
    first
      | (have hmk : true = decide (128 ≤ rbM s) := (decide_eq_true (by omega)).symm)
      | (have hmk : false = decide (128 ≤ rbM s) := (decide_eq_false (by omega)).symm)
    refine ckI (by simp; omega) ⟨_, rfl, _, rfl, ?_⟩
    rw [hm]
    refine wrapI (by omega) (by omega) (ckI (by simp; omega) ⟨_, rfl, ckI (by simp; omega) ⟨_, rfl, ckI (by simp; omega) ⟨_, rfl, ckI (by simp; omega) ⟨_, rfl, ckI (by simp; omega) ⟨_, rfl, ckI (by simp; omega) ⟨_, rfl, ⟨.inl ⟨0, ⟨rfl⟩, rfl, rfl, rfl, rfl, rfl, rfl, rfl, trivial⟩, ?_, ?_⟩⟩⟩⟩⟩⟩⟩)
    · rintro _ ⟨rfl⟩
      refine ⟨_, rfl, ckI (by simp; omega) ⟨_, rfl, _, rfl, ?_⟩⟩
      rw [hm0]
      refine wrapI (by omega) (by omega) (splitD (fun hlt => ?_) (fun hge => ?_))
      · have hlen : 16 ≤ s.length := by
          have h1 := hn'
          rw [needM] at h1
          have := num_lt ((s.drop (14 + 4 * (fst0M s % 16))).take 2)
          split at h1
          · split at h1 <;> omega
          · omega
        exact ⟨_, rfl, _, rfl, wrapI (by omega) (by omega) (ckI (by simp; omega) ⟨(s.drop 12).take 4, rfl, ckI (by simp; omega) ⟨_, rfl, _, rfl, wrapI (by omega) (by omega) ⟨_, rfl, wrapI (by omega) (by omega) ⟨⟨trivial, rfl⟩, .inr ⟨1, ⟨by omega, by omega⟩, by omega, rfl, rfl, rfl, rfl, rfl, rfl, rfl, rfl, rfl, trivial⟩⟩⟩⟩⟩)⟩
      · have hn0 : fst0M s % 16 = 0 := by omega
        have hc0 : [] = rcsM s (fst0M s % 16) := by rw [hn0]; rfl
        refine extR_ok hl12 hs hn' (by rw [hn0]; rfl) (fun _ => ?_) (fun hre => ?_)
        · refine ⟨[], rextM s, ⟨rfl, rfl, rfl, rfl, by simp, by omega, hx2⟩, ?_⟩
          rintro b ⟨hb⟩
          subst hb
          refine splitI (fun r => ⟨[], rextM s, ⟨⟨⟨rfl, rfl, rfl, rfl, by simp, by omega, hx2⟩, r⟩, by omega⟩, ?_⟩) (fun r => hbad hmk rfl hc0 (fun r' _ => by rw [r] at r'; cases r'))
          rintro e ⟨he⟩
          subst he
          exact splitNot (splitI (fun q => hgood hmk rfl hc0 zc (zL _) r (eqB_true _ _ q)) (fun q => hbad hmk rfl hc0 (fun _ => eqB_false q)))
        · refine ⟨[], [], ⟨rfl, rfl, rfl, rfl, by simp, by simp, fun x hx => by simp at hx⟩, ?_⟩
          rintro b ⟨hb⟩
          subst hb
          refine splitI (fun r => ⟨[], [], ⟨⟨⟨rfl, rfl, rfl, rfl, by simp, by simp, fun x hx => by simp at hx⟩, r⟩, by omega⟩, ?_⟩) (fun r => hbad hmk hre.symm hc0 (fun r' _ => by rw [r] at r'; cases r'))
          rintro e ⟨he⟩
          subst he
          exact splitNot (splitI (fun q => hgood hmk hre.symm hc0 zc (zE _) r (eqB_true _ _ q)) (fun q => hbad hmk hre.symm hc0 (fun _ => eqB_false q)))
    · rintro i ⟨h1, h2⟩
      refine ⟨_, rfl, ckI (by simp; omega) ⟨_, rfl, _, rfl, ?_⟩⟩
      rw [hm0]
      refine wrapI (by omega) (by omega) (splitD (fun hlt => ?_) (fun hge => ?_))
      · have hlen : 12 + 4 * (fst0M s % 16) ≤ s.length := by
          have h1 := hn'
          rw [needM] at h1
          have := num_lt ((s.drop (14 + 4 * (fst0M s % 16))).take 2)
          split at h1
          · split at h1 <;> omega
          · omega
        refine ⟨_, rfl, _, rfl, wrapI (by omega) (by omega) (ckI (by simp; omega) ⟨(s.drop (12 + 4 * i)).take 4, ?_, ckI (by simp; omega) (ckI (by simp [eqAVL, eqAV]) ⟨_, rfl, ckI (by simp [cellsI_length, rcs_len]; omega) ⟨_, rfl, wrapI (by omega) (by omega) ⟨_, rfl, wrapI (by omega) (by omega) ⟨⟨trivial, rfl⟩, .inr ⟨i + 1, ⟨by omega, by omega⟩, by omega, rfl, rfl, rfl, by simp [cellsI, rcsM], rfl, by congr 1, rfl, rfl, rfl, trivial⟩⟩⟩⟩⟩)⟩)⟩
        rw [Int.toNat_natCast, show Int.toNat (((12 + 4 * i : Nat) : Int) + 4) - (12 + 4 * i) = 4 by omega]
      · have hn0 : fst0M s % 16 = i := by omega
        have hc0 : rcsM s i = rcsM s (fst0M s % 16) := by rw [hn0]
        have hfz : ∀ (H : List Blk), List.map (fun y => frzV 1 H 7 y) (List.take (i * 1) (List.drop 0 (cellsI (rcsM s i)))) = cellsI (rcsM s i) := fun H => by
          rw [List.drop_zero, List.take_of_length_le (by rw [cellsI_length, rcs_len]; omega)]
          exact map_plain 1 H 6 _ (plain_cI _)
        have hli := rcs_len s i
        have hck : (((Nat.beq (List.length (cellsI (rcsM s i))) i) && (Nat.ble (0 + i * 1) i)) && true) = true := by rw [cellsI_length, hli]; simp
        have hok : ∀ {H : List Blk} {lf : Bool}, H[3]? = some ⟨.grow, lf, cellsI (rcsM s i)⟩ → okC H (.sl 3 i 0 i 1) (rcsM s i) := fun h => okC_sl h rfl hli.symm hli.symm (by simp)
        refine extR_ok hl12 hs hn' (by rw [hn0]) (fun _ => ?_) (fun hre => ?_)
        · refine ckI hck ⟨rcsM s i, rextM s, ⟨hfz _, hli.symm, rfl, rfl, by omega, by omega, hx2⟩, ?_⟩
          rintro b ⟨hb⟩
          subst hb
          refine splitI (fun r => ckI hck ⟨rcsM s i, rextM s, ⟨⟨⟨hfz _, hli.symm, rfl, rfl, by omega, by omega, hx2⟩, r⟩, by omega⟩, ?_⟩) (fun r => hbad hmk rfl hc0 (fun r' _ => by rw [r] at r'; cases r'))
          rintro e ⟨he⟩
          subst he
          exact splitNot (splitI (fun q => hgood hmk rfl hc0 (hok rfl) (zL _) r (eqB_true _ _ q)) (fun q => hbad hmk rfl hc0 (fun _ => eqB_false q)))
        · refine ckI hck ⟨rcsM s i, [], ⟨hfz _, hli.symm, rfl, rfl, by omega, by simp, fun x hx => by simp at hx⟩, ?_⟩
          rintro b ⟨hb⟩
          subst hb
          refine splitI (fun r => ckI hck ⟨rcsM s i, [], ⟨⟨⟨hfz _, hli.symm, rfl, rfl, by omega, by simp, fun x hx => by simp at hx⟩, r⟩, by omega⟩, ?_⟩) (fun r => hbad hmk hre.symm hc0 (fun r' _ => by rw [r] at r'; cases r'))
          rintro e ⟨he⟩
          subst he
          exact splitNot (splitI (fun q => hgood hmk hre.symm hc0 (hok rfl) (zE _) r (eqB_true _ _ q)) (fun q => hbad hmk hre.symm hc0 (fun _ => eqB_false q)))
theorem smDT_ok : ∀ f g, smDT f = some g → ValidF Tryd.prog gl0 f g := lookS_ok _ (by
  simp only [List.mem_cons, List.not_mem_nil, or_false, forall_eq_or_imp, forall_eq]
  refine ⟨valid_viewM rright_ok fun args H Q hc => ?_, valid_viewM renc_ok fun args H Q hc => ?_, needs_ok, num_ok, rexts_ok⟩
  · unfold cRight at hc
    split at hc
    · obtain ⟨cs, ex, h, hq⟩ := hc
      exact ⟨cs, ex, h, fun b hb => ⟨rfl, ⟨_, rfl, rfl⟩, hq b hb⟩⟩
    · exact hc.elim
  · unfold cREnc at hc
    split at hc
    · obtain ⟨cs, ex, h, hq⟩ := hc
      exact ⟨cs, ex, h, fun b hb => ⟨rfl, ⟨_, rfl, rfl⟩, hq b hb⟩⟩
    · exact hc.elim)
theorem rdecode_ok : ValidF Tryd.prog gl0 22 cDecode := by
  refine valid_frz (enters_of (by kernel_rfl)) gl0_noY 10 decK wk_decK fun args H Q hc => ?_
  unfold cDecode at hc
  split at hc
  · rename_i s
    cases hb : Nat.ble s.length 9223372036854775807
    · rw [hb] at hc; exact hc.elim
    · rw [hb] at hc
      obtain ⟨hv, hb', h⟩ := rdecode_run s (fun o H' _ => ∃ v, o = .ret v ∧ Q (.ret (decK (frzV 0 H' 10 v))) H) (fun mk ty sq ti ss a b cs ex p y e H' e1 e2 he => ⟨_, rfl, by
        have := hc mk ty sq ti ss cs ex p y e ⟨he⟩
        unfold okC at e1
        unfold okE at e2
        rw [← e1, ← e2] at this
        exact this⟩)
      exact ⟨rfl, rfl, _, 1000, ⟨mixed23, names23, tabA_ok, smDT_ok⟩, rfl, h⟩
  · exact hc.elim
end Go.Proofs.YtbchmkhliehbfaaDoor
