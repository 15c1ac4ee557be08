/-
  Chapter 23: Encode, Header.
-/
import Derived.Test.YtbchmkhliehbfaaDoorM23H
set_option linter.unusedSimpArgs false
set_option linter.unusedVariables false
namespace Go.Proofs.YtbchmkhliehbfaaDoor
open Go.RowKit
set_option maxRecDepth 1000000

/-! ## put of one octet, out of a slice of the caller's own -/
noncomputable def goal_34p (hv : Nat → Option Pa) (hb : Nat → Option Bool) (bs : List UInt8) (n : Int) (Q : Out → List Blk → Gh → Prop) : Prop :=
  callx (e23 sm0 (fun _ => none) hv hb) (wpx (e23 sm0 (fun _ => none) hv hb) 1000) 34 [.sl 0 bs.length 0 bs.length 1, .int .i64 1, .sl 1 1 0 1 1] [⟨.grow, true, ofBytes bs⟩, ⟨.ro, true, [.int .i64 n]⟩] {} Q
theorem vc_34p (bs : List UInt8) (n : Int) (Q : Out → List Blk → Gh → Prop) : goal_34p (lookV [(139290, .int .i64), (139291, .int .u8)]) (lookB []) bs n Q = (
(∃ n_0 : Int, (((AV.int .i64 (Int.fdiv n (1 : Int))) = (AV.int .i64 n_0)) ∧
 (∃ n_1 : Int, (((AV.int .u8 (IntKind.wrap .u8 n_0)) = (AV.int .u8 n_1)) ∧
 (bif (((((Nat.beq (List.length (ofBytes bs)) (List.length bs)) && true) && (Nat.beq ((0 : Nat) + ((List.length bs) * (1 : Nat))) (List.length bs))) && (Nat.ble ((List.length bs) + (1 : Nat)) (1099511627776 : Nat))) && (Nat.ble (((List.length bs) + (1 : Nat)) * (1 : Nat)) (1099511627776 : Nat))) then (Q (Out.ret (AV.sl (0 : Nat) ((List.length bs) + (1 : Nat)) (0 : Nat) ((List.length bs) + (1 : Nat)) (1 : Nat))) ((Blk.mk BK.grow true ((ofBytes bs) ++ ((AV.int .u8 n_1) :: []))) :: ((Blk.mk BK.ro true ((AV.int .i64 n) :: [])) :: [])) (Gh.mk (0 : Nat) (0 : Nat) []))
else False)))))) := by kernel_rfl

theorem put1_run (bs : List UInt8) (n : Int) (hbs : bs.length ≤ 1000000) (Q : Out → List Blk → Gh → Prop) (hq : Q (.ret (.sl 0 (bs.length + 1) 0 (bs.length + 1) 1)) [⟨.grow, true, ofBytes (bs ++ putM 1 [n])⟩, ⟨.ro, true, [.int .i64 n]⟩] {}) : ∃ hv hb, goal_34p hv hb bs n Q := by
  obtain ⟨hv, hb', e⟩ : ∃ hv hb, goal_34p hv hb bs n Q = _ := ⟨_, _, vc_34p bs n Q⟩
  refine ⟨hv, hb', e.mpr ?_⟩
  clear e
  have h1 : Int.fdiv n 1 = n := by rw [Int.fdiv_eq_ediv_of_nonneg _ (by decide), Int.ediv_one]
  have h2 : IntKind.wrap .u8 n = ((octM n 0).toNat : Int) := by
    have := octI n 0 (by omega) 0 (by omega)
    rw [show min (Int.toNat 0) 64 = 0 from rfl, Int.pow_zero, h1] at this
    exact this
  refine ⟨_, rfl, _, by rw [h1, h2], ckI (by simp [ofB_len]; omega) ?_⟩
  rw [ofB_snoc]
  exact hq
def cPut1 : Con
  | [.sl id tot 0 len 1, .int .i64 1, .sl id2 1 0 1 1], H, K => ∃ (bs : List UInt8) (n : Int), Lf (H[id]? = some ⟨.grow, true, ofBytes bs⟩ ∧ tot = bs.length ∧ len = bs.length ∧ bs.length ≤ 1000000 ∧ H[id2]? = some ⟨.exact, true, [.int .i64 n]⟩) ∧ K (.ret (.sl id (bs.length + 1) 0 (bs.length + 1) 1)) (H.set id ⟨.grow, true, ofBytes (bs ++ putM 1 [n])⟩)
  | _, _, _ => False
theorem put1_ok : ValidF Tryd.prog gl0 34 cPut1 := by
  refine valid_of (enters_of (by kernel_rfl)) gl0_noY fun args H Q hc => ?_
  unfold cPut1 at hc
  split at hc
  · rename_i id tot len id2
    obtain ⟨bs, n, ⟨h1, rfl, rfl, h3, h4⟩, hq⟩ := hc
    have hne : id ≠ id2 := fun e => by subst e; rw [h1] at h4; cases h4
    have hl : id < H.length := (List.getElem?_eq_some_iff.1 h1).1
    have hl2 : id2 < H.length := (List.getElem?_eq_some_iff.1 h4).1
    obtain ⟨hv, hb', h⟩ := put1_run bs n h3 (fun o H' _ => o = .ret (.sl 0 (bs.length + 1) 0 (bs.length + 1) 1) ∧ H' = [⟨.grow, true, ofBytes (bs ++ putM 1 [n])⟩, ⟨.ro, true, [.int .i64 n]⟩]) ⟨rfl, rfl⟩
    refine ⟨_, 1000, fun j => if j = 0 then id else id2, [.sl 0 bs.length 0 bs.length 1, .int .i64 1, .sl 1 1 0 1 1], [⟨.grow, true, ofBytes bs⟩, ⟨.ro, true, [.int .i64 n]⟩], _, ?_, rfl, rfl, rfl, rfl, ⟨fun j b0 hb => ?_, fun j j' b0 hb hk hj' he => ?_⟩, h, ?_⟩
    · exact ⟨mixed23, names23, tabA_ok, sm0_ok⟩
    · cases j with
      | zero =>
        simp only [List.getElem?_cons_zero, Option.some.injEq] at hb
        subst hb
        exact ⟨hl, oldL_ofB _ _, noY_ofB _, fun _ => oldL_ofB 0 _, _, h1, (renL_flat _ _ (oldL_ofB 0 _) (noY_ofB _)).symm, .inr rfl⟩
      | succ j => cases j with
        | zero =>
          simp only [List.getElem?_cons_succ, List.getElem?_cons_zero, Option.some.injEq] at hb
          subst hb
          exact ⟨hl2, rfl, rfl, fun _ => rfl, _, h4, rfl, .inl rfl⟩
        | succ j => simp at hb
    · cases j with
      | zero =>
        simp at hj'
        have : j' = 0 ∨ j' = 1 := by omega
        rcases this with rfl | rfl
        · rfl
        · exact absurd he hne
      | succ j => cases j with
        | zero => simp at hb; subst hb; exact absurd rfl hk
        | succ j => simp at hb
    · rintro o H0' g' ⟨rfl, rfl⟩
      refine ⟨_, ⟨by simp, fun j b0 hb hk => ?_, fun j b0 hb hk => ?_, fun j b0 hj hb => ?_, by simp, fun k hk hn => ?_, fun j b hb hk => ?_⟩, hq⟩
      · cases j with
        | zero => simp at hb; subst hb; cases hk
        | succ j => cases j with
          | zero => simp at hb; subst hb; exact ⟨_, rfl, rfl, rfl⟩
          | succ j => simp at hb
      · cases j with
        | zero => simp at hb; subst hb; exact ⟨_, rfl, rfl⟩
        | succ j => cases j with
          | zero => simp at hb; subst hb; exact absurd rfl hk
          | succ j => simp at hb
      · simp at hj
        match j, hb with
        | 0, _ => omega
        | 1, _ => omega
        | j + 2, hb => simp at hb
      · have := hn 0 _ rfl (by simp)
        rw [List.getElem?_set_ne (by simpa using this)]
      · cases j with
        | zero =>
          simp only [List.getElem?_cons_zero, Option.some.injEq] at hb
          subst hb
          show (H.set id _)[id]? = some (renB _ _)
          rw [List.getElem?_set_self hl]
          simp only [renB, renL_flat _ _ (oldL_ofB 0 _) (noY_ofB _)]
        | succ j => cases j with
          | zero => simp at hb; subst hb; exact absurd rfl hk
          | succ j => simp at hb
  · exact hc.elim
def cPut2 : Con := fun args H K => match args with
  | [.sl _ _ _ _ _, .int _ _, .sl _ _ _ _ _] => cPut1 args H K
  | _ => cPut args H K
theorem put2_ok : ValidF Tryd.prog gl0 34 cPut2 := ⟨put1_ok.1, fun args H Q h => by
  unfold cPut2 at h
  split at h
  · exact put1_ok.2 _ H Q h
  · exact put_raw.2 _ H Q h⟩
def smI : SM := lookS [(33, cMade), (34, cPut2)]
theorem smI_ok : ∀ f g, smI f = some g → ValidF Tryd.prog gl0 f g := lookS_ok _ (by simp only [List.mem_cons, List.not_mem_nil, or_false, forall_eq_or_imp, forall_eq]; exact ⟨made_ok, put2_ok⟩)
noncomputable def goal_14 (hv : Nat → Option Pa) (hb : Nat → Option Bool) (mk : Bool) (ty seq ti ss : Int) (tc : Nat) (cs : List Int) (tx : Nat) (ex : List Xt) (pad : Int) (pl : List UInt8) (Q : Out → List Blk → Gh → Prop) : Prop :=
  callx (e23 smI (fun _ => none) hv hb) (wpx (e23 smI (fun _ => none) hv hb) 1000) 14 [.agg (medM mk ty seq ti ss tc cs tx ex pad pl)] [] {} Q
theorem vc_14 (mk : Bool) (ty : Int) (seq : Int) (ti : Int) (ss : Int) (tc : Nat) (cs : List Int) (tx : Nat) (ex : List Xt) (pad : Int) (pl : List UInt8) (Q : Out → List Blk → Gh → Prop) : goal_14 (lookV [(57356, .str)]) (lookB []) mk ty seq ti ss tc cs tx ex pad pl Q = (
(∃ cs_0 : (List Int), (∃ ex_1 : (List Xt), ((Lf ((medK (cellsI cs) (List.length cs) (cellsXM ex) (List.length ex) cs_0 ex_1) ∧
 ((List.length pl) ≤ (1000000000 : Nat)))) ∧
 (((Lf ((rightM ty seq ti ss cs_0 ex_1 pad) = false)) →
(∃ s_2 : (List UInt8), (((AV.str []) = (AV.str s_2)) ∧
 (Q (Out.ret (AV.tup ((AV.str s_2) :: ((AV.int .i64 (230 : Int)) :: [])))) [] (Gh.mk (0 : Nat) (0 : Nat) []))))) ∧
 (((Lf (((rightM ty seq ti ss cs_0 ex_1 pad) = true) ∧
 ((1200 : Int) < (totalM mk ty seq ti ss cs_0 ex_1 pad pl)))) →
(∃ s_2 : (List UInt8), (((AV.str []) = (AV.str s_2)) ∧
 (Q (Out.ret (AV.tup ((AV.str s_2) :: ((AV.int .i64 (3 : Int)) :: [])))) [] (Gh.mk (0 : Nat) (0 : Nat) []))))) ∧
 (∀ b_2 : (List UInt8), ((Lf (((rightM ty seq ti ss cs_0 ex_1 pad) = true) ∧
 (((totalM mk ty seq ti ss cs_0 ex_1 pad pl) ≤ (1200 : Int)) ∧
 (b_2 = (headM mk ty seq ti ss cs_0 ex_1 pad))))) →
(bif ((((Nat.beq (List.length (ofBytes b_2)) (List.length b_2)) && (Nat.ble ((0 : Nat) + (List.length b_2)) (List.length b_2))) && true) && (allU8 (List.take (List.length b_2) (List.drop (0 : Nat) (ofBytes b_2))))) then (∃ s_3 : (List UInt8), (((AV.str (List.map toB (List.take (List.length b_2) (List.drop (0 : Nat) (ofBytes b_2))))) = (AV.str s_3)) ∧
 (Q (Out.ret (AV.tup ((AV.str s_3) :: ((AV.int .i64 (0 : Int)) :: [])))) [] (Gh.mk (0 : Nat) (0 : Nat) []))))
else False))))))))) := by kernel_rfl

noncomputable def goal_15 (hv : Nat → Option Pa) (hb : Nat → Option Bool) (mk : Bool) (ty seq ti ss : Int) (tc : Nat) (cs : List Int) (tx : Nat) (ex : List Xt) (pad : Int) (pl : List UInt8) (Q : Out → List Blk → Gh → Prop) : Prop :=
  callx (e23 smI (fun _ => none) hv hb) (wpx (e23 smI (fun _ => none) hv hb) 1000) 15 [.agg (medM mk ty seq ti ss tc cs tx ex pad pl)] [] {} Q
theorem vc_15 (mk : Bool) (ty : Int) (seq : Int) (ti : Int) (ss : Int) (tc : Nat) (cs : List Int) (tx : Nat) (ex : List Xt) (pad : Int) (pl : List UInt8) (Q : Out → List Blk → Gh → Prop) : goal_15 (lookV [(61464, .int .i64), (61471, .str)]) (lookB []) mk ty seq ti ss tc cs tx ex pad pl Q = (
(∃ cs_0 : (List Int), (∃ ex_1 : (List Xt), ((Lf ((medK (cellsI cs) (List.length cs) (cellsXM ex) (List.length ex) cs_0 ex_1) ∧
 ((List.length pl) ≤ (1000000000 : Nat)))) ∧
 (((Lf ((rightM ty seq ti ss cs_0 ex_1 pad) = false)) →
(Q (Out.ret (AV.tup ((AV.str []) :: ((AV.int .i64 (230 : Int)) :: [])))) [] (Gh.mk (0 : Nat) (0 : Nat) []))) ∧
 (((Lf (((rightM ty seq ti ss cs_0 ex_1 pad) = true) ∧
 ((1200 : Int) < (totalM mk ty seq ti ss cs_0 ex_1 pad pl)))) →
(Q (Out.ret (AV.tup ((AV.str []) :: ((AV.int .i64 (3 : Int)) :: [])))) [] (Gh.mk (0 : Nat) (0 : Nat) []))) ∧
 (∀ b_2 : (List UInt8), ((Lf (((rightM ty seq ti ss cs_0 ex_1 pad) = true) ∧
 (((totalM mk ty seq ti ss cs_0 ex_1 pad pl) ≤ (1200 : Int)) ∧
 (b_2 = (headM mk ty seq ti ss cs_0 ex_1 pad))))) →
(bif (((oneL (ofBytes pl)) && true) && (Nat.ble ((List.length pl) * (1 : Nat)) (1099511627776 : Nat))) then (bif (Nat.beq (List.length pl) (0 : Nat)) then (bif (Nat.beq (List.length pl) (0 : Nat)) then (bif ((Nat.beq (List.length (ofBytes b_2)) (List.length b_2)) && true) then (bif (decide (pad > (0 : Int))) then (∃ n_3 : Int, (((AV.int .i64 (IntKind.wrap .i64 (pad - (1 : Int)))) = (AV.int .i64 n_3)) ∧
 (bif (((((decide ((0 : Int) ≤ n_3)) && (decide (n_3 ≤ (1099511627776 : Int)))) && (oneL (List.flatten (List.replicate (Int.toNat n_3) ((AV.int .u8 (0 : Int)) :: []))))) && true) && (Nat.ble ((Int.toNat n_3) * (1 : Nat)) (1099511627776 : Nat))) then (bif (decide (n_3 = (0 : Int))) then (bif (Nat.beq (Int.toNat n_3) (0 : Nat)) then (bif ((Nat.beq (List.length (ofBytes b_2)) (List.length b_2)) && true) then (bif (eqAVL ((AV.int .i64 pad) :: []) ((AV.int .i64 pad) :: [])) then (bif ((eqAVL ((AV.int .i64 pad) :: []) ((AV.int .i64 pad) :: [])) && true) then (∃ bs_4 : (List UInt8), (∃ n_5 : Int, ((Lf (((GetElem?.getElem? ((Blk.mk BK.exact true (medM mk ty seq ti ss tc cs tx ex pad pl)) :: ((Blk.mk BK.grow true (ofBytes b_2)) :: ((Blk.mk BK.exact true ((AV.int .i64 pad) :: [])) :: []))) (1 : Nat)) = (Option.some (Blk.mk BK.grow true (ofBytes bs_4)))) ∧
 (((List.length b_2) = (List.length bs_4)) ∧
 (((List.length b_2) = (List.length bs_4)) ∧
 (((List.length bs_4) ≤ (1000000 : Nat)) ∧
 ((GetElem?.getElem? ((Blk.mk BK.exact true (medM mk ty seq ti ss tc cs tx ex pad pl)) :: ((Blk.mk BK.grow true (ofBytes b_2)) :: ((Blk.mk BK.exact true ((AV.int .i64 pad) :: [])) :: []))) (2 : Nat)) = (Option.some (Blk.mk BK.exact true ((AV.int .i64 n_5) :: []))))))))) ∧
 (bif ((((Nat.beq (List.length (ofBytes (bs_4 ++ (putM (1 : Nat) (n_5 :: []))))) ((List.length bs_4) + (1 : Nat))) && (Nat.ble ((0 : Nat) + ((List.length bs_4) + (1 : Nat))) ((List.length bs_4) + (1 : Nat)))) && true) && (allU8 (List.take ((List.length bs_4) + (1 : Nat)) (List.drop (0 : Nat) (ofBytes (bs_4 ++ (putM (1 : Nat) (n_5 :: [])))))))) then (∃ s_6 : (List UInt8), (((AV.str (List.map toB (List.take ((List.length bs_4) + (1 : Nat)) (List.drop (0 : Nat) (ofBytes (bs_4 ++ (putM (1 : Nat) (n_5 :: [])))))))) = (AV.str s_6)) ∧
 (Q (Out.ret (AV.tup ((AV.str s_6) :: ((AV.int .i64 (0 : Int)) :: [])))) [] (Gh.mk (0 : Nat) (0 : Nat) []))))
else False))))
else False)
else False)
else False)
else False)
else (bif (Nat.blt (0 : Nat) (Int.toNat n_3)) then (bif (((((Nat.beq (List.length (ofBytes b_2)) (List.length b_2)) && true) && (Nat.beq ((0 : Nat) + ((List.length b_2) * (1 : Nat))) (List.length b_2))) && (Nat.ble ((List.length b_2) + (Int.toNat n_3)) (1099511627776 : Nat))) && (Nat.ble (((List.length b_2) + (Int.toNat n_3)) * (1 : Nat)) (1099511627776 : Nat))) then (bif (eqAVL ((AV.int .i64 pad) :: []) ((AV.int .i64 pad) :: [])) then (bif ((eqAVL ((AV.int .i64 pad) :: []) ((AV.int .i64 pad) :: [])) && true) then (∃ bs_4 : (List UInt8), (∃ n_5 : Int, ((Lf (((GetElem?.getElem? ((Blk.mk BK.exact true (medM mk ty seq ti ss tc cs tx ex pad pl)) :: ((Blk.mk BK.grow (oldL (0 : Nat) (List.flatten (List.replicate (Int.toNat n_3) ((AV.int .u8 (0 : Int)) :: [])))) ((ofBytes b_2) ++ (List.flatten (List.replicate (Int.toNat n_3) ((AV.int .u8 (0 : Int)) :: []))))) :: ((Blk.mk BK.exact true ((AV.int .i64 pad) :: [])) :: []))) (1 : Nat)) = (Option.some (Blk.mk BK.grow true (ofBytes bs_4)))) ∧
 ((((List.length b_2) + (List.length (List.flatten (List.replicate (Int.toNat n_3) ((AV.int .u8 (0 : Int)) :: []))))) = (List.length bs_4)) ∧
 ((((List.length b_2) + (Int.toNat n_3)) = (List.length bs_4)) ∧
 (((List.length bs_4) ≤ (1000000 : Nat)) ∧
 ((GetElem?.getElem? ((Blk.mk BK.exact true (medM mk ty seq ti ss tc cs tx ex pad pl)) :: ((Blk.mk BK.grow (oldL (0 : Nat) (List.flatten (List.replicate (Int.toNat n_3) ((AV.int .u8 (0 : Int)) :: [])))) ((ofBytes b_2) ++ (List.flatten (List.replicate (Int.toNat n_3) ((AV.int .u8 (0 : Int)) :: []))))) :: ((Blk.mk BK.exact true ((AV.int .i64 pad) :: [])) :: []))) (2 : Nat)) = (Option.some (Blk.mk BK.exact true ((AV.int .i64 n_5) :: []))))))))) ∧
 (bif ((((Nat.beq (List.length (ofBytes (bs_4 ++ (putM (1 : Nat) (n_5 :: []))))) ((List.length bs_4) + (1 : Nat))) && (Nat.ble ((0 : Nat) + ((List.length bs_4) + (1 : Nat))) ((List.length bs_4) + (1 : Nat)))) && true) && (allU8 (List.take ((List.length bs_4) + (1 : Nat)) (List.drop (0 : Nat) (ofBytes (bs_4 ++ (putM (1 : Nat) (n_5 :: [])))))))) then (∃ s_6 : (List UInt8), (((AV.str (List.map toB (List.take ((List.length bs_4) + (1 : Nat)) (List.drop (0 : Nat) (ofBytes (bs_4 ++ (putM (1 : Nat) (n_5 :: [])))))))) = (AV.str s_6)) ∧
 (Q (Out.ret (AV.tup ((AV.str s_6) :: ((AV.int .i64 (0 : Int)) :: [])))) [] (Gh.mk (0 : Nat) (0 : Nat) []))))
else False))))
else False)
else False)
else False)
else False))
else False)))
else (bif ((((Nat.beq (List.length (ofBytes b_2)) (List.length b_2)) && (Nat.ble ((0 : Nat) + (List.length b_2)) (List.length b_2))) && true) && (allU8 (List.take (List.length b_2) (List.drop (0 : Nat) (ofBytes b_2))))) then (∃ s_3 : (List UInt8), (((AV.str (List.map toB (List.take (List.length b_2) (List.drop (0 : Nat) (ofBytes b_2))))) = (AV.str s_3)) ∧
 (Q (Out.ret (AV.tup ((AV.str s_3) :: ((AV.int .i64 (0 : Int)) :: [])))) [] (Gh.mk (0 : Nat) (0 : Nat) []))))
else False))
else False)
else False)
else (bif (Nat.blt (0 : Nat) (List.length pl)) then (bif (((((Nat.beq (List.length (ofBytes b_2)) (List.length b_2)) && true) && (Nat.beq ((0 : Nat) + ((List.length b_2) * (1 : Nat))) (List.length b_2))) && (Nat.ble ((List.length b_2) + (List.length pl)) (1099511627776 : Nat))) && (Nat.ble (((List.length b_2) + (List.length pl)) * (1 : Nat)) (1099511627776 : Nat))) then (bif (decide (pad > (0 : Int))) then (∃ n_3 : Int, (((AV.int .i64 (IntKind.wrap .i64 (pad - (1 : Int)))) = (AV.int .i64 n_3)) ∧
 (bif (((((decide ((0 : Int) ≤ n_3)) && (decide (n_3 ≤ (1099511627776 : Int)))) && (oneL (List.flatten (List.replicate (Int.toNat n_3) ((AV.int .u8 (0 : Int)) :: []))))) && true) && (Nat.ble ((Int.toNat n_3) * (1 : Nat)) (1099511627776 : Nat))) then (bif (decide (n_3 = (0 : Int))) then (bif (Nat.beq (Int.toNat n_3) (0 : Nat)) then (bif ((Nat.beq (List.length ((ofBytes b_2) ++ (ofBytes pl))) ((List.length b_2) + (List.length (ofBytes pl)))) && true) then (bif (eqAVL ((AV.int .i64 pad) :: []) ((AV.int .i64 pad) :: [])) then (bif ((eqAVL ((AV.int .i64 pad) :: []) ((AV.int .i64 pad) :: [])) && true) then (∃ bs_4 : (List UInt8), (∃ n_5 : Int, ((Lf (((GetElem?.getElem? ((Blk.mk BK.exact true (medM mk ty seq ti ss tc cs tx ex pad pl)) :: ((Blk.mk BK.grow (oldL (0 : Nat) (ofBytes pl)) ((ofBytes b_2) ++ (ofBytes pl))) :: ((Blk.mk BK.exact true ((AV.int .i64 pad) :: [])) :: []))) (1 : Nat)) = (Option.some (Blk.mk BK.grow true (ofBytes bs_4)))) ∧
 ((((List.length b_2) + (List.length (ofBytes pl))) = (List.length bs_4)) ∧
 ((((List.length b_2) + (List.length pl)) = (List.length bs_4)) ∧
 (((List.length bs_4) ≤ (1000000 : Nat)) ∧
 ((GetElem?.getElem? ((Blk.mk BK.exact true (medM mk ty seq ti ss tc cs tx ex pad pl)) :: ((Blk.mk BK.grow (oldL (0 : Nat) (ofBytes pl)) ((ofBytes b_2) ++ (ofBytes pl))) :: ((Blk.mk BK.exact true ((AV.int .i64 pad) :: [])) :: []))) (2 : Nat)) = (Option.some (Blk.mk BK.exact true ((AV.int .i64 n_5) :: []))))))))) ∧
 (bif ((((Nat.beq (List.length (ofBytes (bs_4 ++ (putM (1 : Nat) (n_5 :: []))))) ((List.length bs_4) + (1 : Nat))) && (Nat.ble ((0 : Nat) + ((List.length bs_4) + (1 : Nat))) ((List.length bs_4) + (1 : Nat)))) && true) && (allU8 (List.take ((List.length bs_4) + (1 : Nat)) (List.drop (0 : Nat) (ofBytes (bs_4 ++ (putM (1 : Nat) (n_5 :: [])))))))) then (∃ s_6 : (List UInt8), (((AV.str (List.map toB (List.take ((List.length bs_4) + (1 : Nat)) (List.drop (0 : Nat) (ofBytes (bs_4 ++ (putM (1 : Nat) (n_5 :: [])))))))) = (AV.str s_6)) ∧
 (Q (Out.ret (AV.tup ((AV.str s_6) :: ((AV.int .i64 (0 : Int)) :: [])))) [] (Gh.mk (0 : Nat) (0 : Nat) []))))
else False))))
else False)
else False)
else False)
else False)
else (bif (Nat.blt (0 : Nat) (Int.toNat n_3)) then (bif (((((Nat.beq (List.length ((ofBytes b_2) ++ (ofBytes pl))) ((List.length b_2) + (List.length (ofBytes pl)))) && true) && (Nat.beq ((0 : Nat) + (((List.length b_2) + (List.length pl)) * (1 : Nat))) ((List.length b_2) + (List.length (ofBytes pl))))) && (Nat.ble (((List.length b_2) + (List.length pl)) + (Int.toNat n_3)) (1099511627776 : Nat))) && (Nat.ble ((((List.length b_2) + (List.length pl)) + (Int.toNat n_3)) * (1 : Nat)) (1099511627776 : Nat))) then (bif (eqAVL ((AV.int .i64 pad) :: []) ((AV.int .i64 pad) :: [])) then (bif ((eqAVL ((AV.int .i64 pad) :: []) ((AV.int .i64 pad) :: [])) && true) then (∃ bs_4 : (List UInt8), (∃ n_5 : Int, ((Lf (((GetElem?.getElem? ((Blk.mk BK.exact true (medM mk ty seq ti ss tc cs tx ex pad pl)) :: ((Blk.mk BK.grow ((oldL (0 : Nat) (ofBytes pl)) && (oldL (0 : Nat) (List.flatten (List.replicate (Int.toNat n_3) ((AV.int .u8 (0 : Int)) :: []))))) (((ofBytes b_2) ++ (ofBytes pl)) ++ (List.flatten (List.replicate (Int.toNat n_3) ((AV.int .u8 (0 : Int)) :: []))))) :: ((Blk.mk BK.exact true ((AV.int .i64 pad) :: [])) :: []))) (1 : Nat)) = (Option.some (Blk.mk BK.grow true (ofBytes bs_4)))) ∧
 (((((List.length b_2) + (List.length (ofBytes pl))) + (List.length (List.flatten (List.replicate (Int.toNat n_3) ((AV.int .u8 (0 : Int)) :: []))))) = (List.length bs_4)) ∧
 (((((List.length b_2) + (List.length pl)) + (Int.toNat n_3)) = (List.length bs_4)) ∧
 (((List.length bs_4) ≤ (1000000 : Nat)) ∧
 ((GetElem?.getElem? ((Blk.mk BK.exact true (medM mk ty seq ti ss tc cs tx ex pad pl)) :: ((Blk.mk BK.grow ((oldL (0 : Nat) (ofBytes pl)) && (oldL (0 : Nat) (List.flatten (List.replicate (Int.toNat n_3) ((AV.int .u8 (0 : Int)) :: []))))) (((ofBytes b_2) ++ (ofBytes pl)) ++ (List.flatten (List.replicate (Int.toNat n_3) ((AV.int .u8 (0 : Int)) :: []))))) :: ((Blk.mk BK.exact true ((AV.int .i64 pad) :: [])) :: []))) (2 : Nat)) = (Option.some (Blk.mk BK.exact true ((AV.int .i64 n_5) :: []))))))))) ∧
 (bif ((((Nat.beq (List.length (ofBytes (bs_4 ++ (putM (1 : Nat) (n_5 :: []))))) ((List.length bs_4) + (1 : Nat))) && (Nat.ble ((0 : Nat) + ((List.length bs_4) + (1 : Nat))) ((List.length bs_4) + (1 : Nat)))) && true) && (allU8 (List.take ((List.length bs_4) + (1 : Nat)) (List.drop (0 : Nat) (ofBytes (bs_4 ++ (putM (1 : Nat) (n_5 :: [])))))))) then (∃ s_6 : (List UInt8), (((AV.str (List.map toB (List.take ((List.length bs_4) + (1 : Nat)) (List.drop (0 : Nat) (ofBytes (bs_4 ++ (putM (1 : Nat) (n_5 :: [])))))))) = (AV.str s_6)) ∧
 (Q (Out.ret (AV.tup ((AV.str s_6) :: ((AV.int .i64 (0 : Int)) :: [])))) [] (Gh.mk (0 : Nat) (0 : Nat) []))))
else False))))
else False)
else False)
else False)
else False))
else False)))
else (bif ((((Nat.beq (List.length ((ofBytes b_2) ++ (ofBytes pl))) ((List.length b_2) + (List.length (ofBytes pl)))) && (Nat.ble ((0 : Nat) + ((List.length b_2) + (List.length pl))) ((List.length b_2) + (List.length (ofBytes pl))))) && true) && (allU8 (List.take ((List.length b_2) + (List.length pl)) (List.drop (0 : Nat) ((ofBytes b_2) ++ (ofBytes pl)))))) then (∃ s_3 : (List UInt8), (((AV.str (List.map toB (List.take ((List.length b_2) + (List.length pl)) (List.drop (0 : Nat) ((ofBytes b_2) ++ (ofBytes pl)))))) = (AV.str s_3)) ∧
 (Q (Out.ret (AV.tup ((AV.str s_3) :: ((AV.int .i64 (0 : Int)) :: [])))) [] (Gh.mk (0 : Nat) (0 : Nat) []))))
else False))
else False)
else False))
else False))))))))) := by kernel_rfl

theorem allU8_ofB (l : List UInt8) : allU8 (ofBytes l) = true := by
  induction l with
  | nil => rfl
  | cons x l ih => simpa [ofBytes, allU8] using ih
theorem strE {X : List UInt8} {c : List AV} {n1 n2 : Nat} (hc : c = ofBytes X) (h1 : n1 = X.length) (h2 : n2 = X.length) {K : List UInt8 → Prop} (h : K X) : bif ((((Nat.beq c.length n1) && (Nat.ble (0 + n2) n1)) && true) && allU8 (List.take n2 (List.drop 0 c))) then (∃ s : List UInt8, AV.str (List.map toB (List.take n2 (List.drop 0 c))) = AV.str s ∧ K s) else False := by
  subst hc h1 h2
  have e : List.take X.length (List.drop 0 (ofBytes X)) = ofBytes X := by rw [List.drop_zero, List.take_of_length_le (by rw [ofB_len]; omega)]
  rw [e, allU8_ofB, toB_ofB, ofB_len]
  refine ckI ?_ ⟨_, rfl, h⟩
  simp
def padM (pad : Int) : List UInt8 := if 0 < pad then List.replicate (pad - 1).toNat 0 ++ putM 1 [pad] else []
def encM (mk : Bool) (ty seq ti ss : Int) (cs : List Int) (ex : List Xt) (pad : Int) (pl : List UInt8) : List UInt8 := headM mk ty seq ti ss cs ex pad ++ pl ++ padM pad
theorem header2_run (mk : Bool) (ty seq ti ss : Int) (tc : Nat) (cs : List Int) (tx : Nat) (ex : List Xt) (pad : Int) (pl : List UInt8) (hk : medK (cellsI cs) cs.length (cellsXM ex) ex.length cs ex) (hpl : pl.length ≤ 1000000000) (Q : Out → List Blk → Gh → Prop)
    (h1 : rightM ty seq ti ss cs ex pad = false → Q (.ret (.tup [.str [], .int .i64 230])) [] {})
    (h2 : rightM ty seq ti ss cs ex pad = true → 1200 < totalM mk ty seq ti ss cs ex pad pl → Q (.ret (.tup [.str [], .int .i64 3])) [] {})
    (h3 : rightM ty seq ti ss cs ex pad = true → totalM mk ty seq ti ss cs ex pad pl ≤ 1200 → Q (.ret (.tup [.str (headM mk ty seq ti ss cs ex pad), .int .i64 0])) [] {}) : ∃ hv hb, goal_14 hv hb mk ty seq ti ss tc cs tx ex pad pl Q := by
  obtain ⟨hv, hb', e⟩ : ∃ hv hb, goal_14 hv hb mk ty seq ti ss tc cs tx ex pad pl Q = _ := ⟨_, _, vc_14 mk ty seq ti ss tc cs tx ex pad pl Q⟩
  refine ⟨hv, hb', e.mpr ?_⟩
  clear e
  refine ⟨cs, ex, ⟨hk, hpl⟩, fun ⟨hr⟩ => ⟨_, rfl, h1 hr⟩, fun ⟨hr, ht⟩ => ⟨_, rfl, h2 hr ht⟩, fun b ⟨hr, ht, hb⟩ => strE rfl rfl rfl (by rw [hb]; exact h3 hr ht)⟩
theorem encode_run (mk : Bool) (ty seq ti ss : Int) (tc : Nat) (cs : List Int) (tx : Nat) (ex : List Xt) (pad : Int) (pl : List UInt8) (hk : medK (cellsI cs) cs.length (cellsXM ex) ex.length cs ex) (hpl : pl.length ≤ 1000000000) (Q : Out → List Blk → Gh → Prop)
    (h1 : rightM ty seq ti ss cs ex pad = false → Q (.ret (.tup [.str [], .int .i64 230])) [] {})
    (h2 : rightM ty seq ti ss cs ex pad = true → 1200 < totalM mk ty seq ti ss cs ex pad pl → Q (.ret (.tup [.str [], .int .i64 3])) [] {})
    (h3 : rightM ty seq ti ss cs ex pad = true → totalM mk ty seq ti ss cs ex pad pl ≤ 1200 → Q (.ret (.tup [.str (encM mk ty seq ti ss cs ex pad pl), .int .i64 0])) [] {}) : ∃ hv hb, goal_15 hv hb mk ty seq ti ss tc cs tx ex pad pl Q := by
  obtain ⟨hv, hb', e⟩ : ∃ hv hb, goal_15 hv hb mk ty seq ti ss tc cs tx ex pad pl Q = _ := ⟨_, _, vc_15 mk ty seq ti ss tc cs tx ex pad pl Q⟩
  refine ⟨hv, hb', e.mpr ?_⟩
  clear e
  refine ⟨cs, ex, ⟨hk, hpl⟩, fun ⟨hr⟩ => h1 hr, fun ⟨hr, ht⟩ => h2 hr ht, fun b ⟨hr, ht, hb⟩ => ?_⟩
  obtain ⟨_, r2, r3, r4, r5⟩ := right_of hr
  have hbl := head_bound mk ty seq ti ss cs ex pad r2 r3 r4
  rw [← hb] at hbl
  have h3 := h3 hr ht
  unfold encM at h3
  rw [← hb] at h3
  clear hb
  have ht2 : pl.length ≤ 1200 := by unfold totalM at ht; omega
  have pe : eqAVL [.int .i64 pad] [.int .i64 pad] = true := by simp [eqAVL, eqAV]
  refine ckI (by rw [oneL_ofB]; simp; omega) (splitQ (fun h0 => ckI (by rw [h0]; rfl) (ckI (by simp [ofB_len]) (splitD (fun hp => ?_) (fun hp => ?_)))) (fun h0 => ckI (bltQ_iff.2 (by omega)) (ckI (by simp [ofB_len]; omega) (splitD (fun hp => ?_) (fun hp => ?_)))))
  · have hnil : pl = [] := List.length_eq_zero_iff.1 h0
    subst hnil
    obtain ⟨p, rfl⟩ : ∃ p : Nat, pad = (p : Int) + 1 := ⟨(pad - 1).toNat, by omega⟩
    have hP : padM ((p : Int) + 1) = List.replicate p 0 ++ putM 1 [(p : Int) + 1] := by rw [padM, if_pos (by omega), show ((p : Int) + 1 - 1).toNat = p by omega]
    rw [hP, List.append_nil] at h3
    refine wrapI (by omega) (by omega) ?_
    rw [show ((p : Int) + 1 - 1) = (p : Int) by omega]
    simp only [zer_of, Int.toNat_natCast, ofB_app]
    refine ckI (by rw [oneL_ofB]; simp; omega) (splitD (fun hz => ?_) (fun hz => ?_))
    · obtain rfl : p = 0 := by omega
      refine ckI rfl (ckI (by simp [ofB_len]) (ckI pe (ckI (by rw [pe]; rfl) ⟨b, _, ⟨rfl, rfl, rfl, by omega, rfl⟩, strE rfl (by simp only [List.length_append, put_len, List.length_cons, List.length_nil, List.length_replicate]; try omega) (by simp only [List.length_append, put_len, List.length_cons, List.length_nil, List.length_replicate]; try omega) (by simpa using h3)⟩)))
    · have hlr : (List.replicate p (0 : UInt8)).length = p := List.length_replicate
      refine ckI (bltQ_iff.2 (by omega)) (ckI (by simp [ofB_len]; omega) (ckI pe (ckI (by rw [pe]; rfl) ⟨b ++ List.replicate p 0, _, ⟨by rw [oldL_ofB]; rfl, by simp [ofB_len], by simp, by simp; omega, rfl⟩, strE rfl (by simp only [List.length_append, put_len, List.length_cons, List.length_nil, List.length_replicate]; try omega) (by simp only [List.length_append, put_len, List.length_cons, List.length_nil, List.length_replicate]; try omega) (by simpa using h3)⟩)))
  · have hnil : pl = [] := List.length_eq_zero_iff.1 h0
    subst hnil
    have hP : padM pad = [] := by rw [padM, if_neg (by omega)]
    rw [hP] at h3
    exact strE rfl rfl rfl (by simpa using h3)
  · obtain ⟨p, rfl⟩ : ∃ p : Nat, pad = (p : Int) + 1 := ⟨(pad - 1).toNat, by omega⟩
    have hP : padM ((p : Int) + 1) = List.replicate p 0 ++ putM 1 [(p : Int) + 1] := by rw [padM, if_pos (by omega), show ((p : Int) + 1 - 1).toNat = p by omega]
    rw [hP] at h3
    refine wrapI (by omega) (by omega) ?_
    rw [show ((p : Int) + 1 - 1) = (p : Int) by omega]
    simp only [zer_of, Int.toNat_natCast, ofB_app]
    refine ckI (by rw [oneL_ofB]; simp; omega) (splitD (fun hz => ?_) (fun hz => ?_))
    · obtain rfl : p = 0 := by omega
      refine ckI rfl (ckI (by simp [ofB_len]) (ckI pe (ckI (by rw [pe]; rfl) ⟨b ++ pl, _, ⟨by rw [oldL_ofB]; rfl, by simp [ofB_len], by simp, by simp; omega, rfl⟩, strE rfl (by simp only [List.length_append, put_len, List.length_cons, List.length_nil, List.length_replicate]; try omega) (by simp only [List.length_append, put_len, List.length_cons, List.length_nil, List.length_replicate]; try omega) (by simpa using h3)⟩)))
    · refine ckI (bltQ_iff.2 (by omega)) (ckI (by simp [ofB_len]; omega) (ckI pe (ckI (by rw [pe]; rfl) ⟨b ++ pl ++ List.replicate p 0, _, ⟨by rw [oldL_ofB, oldL_ofB]; rfl, by simp [ofB_len, Nat.add_assoc], by simp [Nat.add_assoc], by simp; omega, rfl⟩, strE rfl (by simp only [List.length_append, put_len, List.length_cons, List.length_nil, List.length_replicate]; try omega) (by simp only [List.length_append, put_len, List.length_cons, List.length_nil, List.length_replicate]; try omega) (by simpa using h3)⟩)))
  · have hP : padM pad = [] := by rw [padM, if_neg (by omega)]
    rw [hP, List.append_nil] at h3
    exact strE (X := b ++ pl) (ofB_app b pl) (by simp [ofB_len]) (by simp) h3
def encRM (mk : Bool) (ty seq ti ss : Int) (cs : List Int) (ex : List Xt) (pad : Int) (pl : List UInt8) : List UInt8 × Int := if rightM ty seq ti ss cs ex pad = false then ([], 230) else if 1200 < totalM mk ty seq ti ss cs ex pad pl then ([], 3) else (encM mk ty seq ti ss cs ex pad pl, 0)
def headRM (mk : Bool) (ty seq ti ss : Int) (cs : List Int) (ex : List Xt) (pad : Int) (pl : List UInt8) : List UInt8 × Int := if rightM ty seq ti ss cs ex pad = false then ([], 230) else if 1200 < totalM mk ty seq ti ss cs ex pad pl then ([], 3) else (headM mk ty seq ti ss cs ex pad, 0)
def cEncode : Con
  | [.agg [.bool mk, .int .i64 ty, .int .i64 seq, .int .i64 ti, .int .i64 ss, .lst _ c5 n5 1, .lst _ c6 n6 2, .int .i64 pad, .str pl]], H, K => ∃ (cs : List Int) (ex : List Xt), Lf (medK c5 n5 c6 n6 cs ex ∧ pl.length ≤ 1000000000) ∧ ∀ (s : List UInt8) (e : Int), Lf ((s, e) = encRM mk ty seq ti ss cs ex pad pl) → K (.ret (.tup [.str s, .int .i64 e])) H
  | _, _, _ => False
def cHead : Con
  | [.agg [.bool mk, .int .i64 ty, .int .i64 seq, .int .i64 ti, .int .i64 ss, .lst _ c5 n5 1, .lst _ c6 n6 2, .int .i64 pad, .str pl]], H, K => ∃ (cs : List Int) (ex : List Xt), Lf (medK c5 n5 c6 n6 cs ex ∧ pl.length ≤ 1000000000) ∧ ∀ (s : List UInt8) (e : Int), Lf ((s, e) = headRM mk ty seq ti ss cs ex pad pl) → K (.ret (.tup [.str s, .int .i64 e])) H
  | _, _, _ => False
theorem encode_ok : ValidF Tryd.prog gl0 15 cEncode := by
  refine valid_flat (enters_of (by kernel_rfl)) gl0_noY fun args H Q hc => ?_
  unfold cEncode at hc
  split at hc
  · rename_i mk ty seq ti ss tc c5 n5 tx c6 n6 pad pl
    obtain ⟨cs, ex, ⟨⟨rfl, rfl, rfl, rfl, k1, k2, hd⟩, hpl⟩, hq⟩ := hc
    obtain ⟨hv, hb', h⟩ := encode_run mk ty seq ti ss tc cs tx ex pad pl ⟨rfl, rfl, rfl, rfl, k1, k2, hd⟩ hpl (fun o H' _ => H' = [] ∧ (∃ v, o = .ret v ∧ old 0 v = true ∧ noY v = true) ∧ Q o H)
      (fun hr => ⟨rfl, ⟨_, rfl, rfl, rfl⟩, hq _ _ ⟨by rw [encRM, if_pos hr]⟩⟩)
      (fun hr ht => ⟨rfl, ⟨_, rfl, rfl, rfl⟩, hq _ _ ⟨by rw [encRM, if_neg (by rw [hr]; simp), if_pos ht]⟩⟩)
      (fun hr ht => ⟨rfl, ⟨_, rfl, rfl, rfl⟩, hq _ _ ⟨by rw [encRM, if_neg (by rw [hr]; simp), if_neg (by omega)]⟩⟩)
    refine ⟨rfl, rfl, _, 1000, ?_, rfl, h⟩
    exact ⟨mixed23, names23, tabA_ok, smI_ok⟩
  · exact hc.elim
theorem head_ok : ValidF Tryd.prog gl0 14 cHead := by
  refine valid_flat (enters_of (by kernel_rfl)) gl0_noY fun args H Q hc => ?_
  unfold cHead at hc
  split at hc
  · rename_i mk ty seq ti ss tc c5 n5 tx c6 n6 pad pl
    obtain ⟨cs, ex, ⟨⟨rfl, rfl, rfl, rfl, k1, k2, hd⟩, hpl⟩, hq⟩ := hc
    obtain ⟨hv, hb', h⟩ := header2_run mk ty seq ti ss tc cs tx ex pad pl ⟨rfl, rfl, rfl, rfl, k1, k2, hd⟩ hpl (fun o H' _ => H' = [] ∧ (∃ v, o = .ret v ∧ old 0 v = true ∧ noY v = true) ∧ Q o H)
      (fun hr => ⟨rfl, ⟨_, rfl, rfl, rfl⟩, hq _ _ ⟨by rw [headRM, if_pos hr]⟩⟩)
      (fun hr ht => ⟨rfl, ⟨_, rfl, rfl, rfl⟩, hq _ _ ⟨by rw [headRM, if_neg (by rw [hr]; simp), if_pos ht]⟩⟩)
      (fun hr ht => ⟨rfl, ⟨_, rfl, rfl, rfl⟩, hq _ _ ⟨by rw [headRM, if_neg (by rw [hr]; simp), if_neg (by omega)]⟩⟩)
    refine ⟨rfl, rfl, _, 1000, ?_, rfl, h⟩
    exact ⟨mixed23, names23, tabA_ok, smI_ok⟩
  · exact hc.elim
end Go.Proofs.YtbchmkhliehbfaaDoor
