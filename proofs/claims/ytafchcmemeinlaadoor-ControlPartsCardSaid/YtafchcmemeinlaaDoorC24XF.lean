/-
  Chapter 24: put, of numbers in a block of the caller's.
-/
import Derived.Test.YtafchcmemeinlaaDoorC24XE
set_option linter.unusedSimpArgs false
set_option linter.unusedVariables false
set_option linter.unusedSectionVars false
namespace Go.Proofs.YtafchcmemeinlaaDoor
open Go.RowKit
set_option maxRecDepth 1000000

noncomputable def env_67v (hv : Nat → Option Pa) (hb : Nat → Option Bool) : Env := { e24 sm0 (fun i => none) hv hb with hz := fun k => Nat.beq k 274460 }
noncomputable def goal_67a (hv : Nat → Option Pa) (hb : Nat → Option Bool) (bs : List UInt8) (x : Int) (Q : Out → List Blk → Gh → Prop) : Prop :=
 callx (env_67v hv hb) (wpx (env_67v hv hb) 1000) 67 [.sl 0 bs.length 0 bs.length 1, .int .i64 2, .sl 1 1 0 1 1] [⟨.grow, true, ofBytes bs⟩, ⟨.ro, true, [.int .i64 x]⟩] {} Q
theorem vc_67a (bs : List UInt8) (x : Int) (Q : Out → List Blk → Gh → Prop) : goal_67a (lookV [(274458, .int .i64), (274459, .int .u8)]) (lookB []) bs x Q = (exI .i64 (Int.fdiv x 256) fun n_0 => exW .u8 n_0 fun n_1 => ckQ (Nat.beq (ofBytes
 bs).length bs.length && true && Nat.beq (0 + bs.length * 1) bs.length && Nat.ble (bs.length + 1) 1099511627776 && Nat.ble ((bs.length + 1) * 1) 1099511627776) (exI .i64 (Int.fdiv x 1) fun n_2 => exW .u8 n_2 fun n_3 => ckQ (Nat.beq (ofBytes
 bs ++ [AV.int .u8 n_1]).length (bs.length + 1) && true && Nat.beq (0 + (bs.length + 1) * 1) (bs.length + 1) && Nat.ble (bs.length + 1 + 1) 1099511627776 && Nat.ble ((bs.length + 1 + 1) * 1) 1099511627776) (Q (.ret (.sl 0 (bs.length + 1 +
 1) 0 (bs.length + 1 + 1) 1)) [Blk.mk BK.grow true (ofBytes bs ++ [AV.int .u8 n_1] ++ [AV.int .u8 n_3]), Blk.mk BK.ro true [.int .i64 x]] {}))) := by kernel_rfl

noncomputable def goal_67b (hv : Nat → Option Pa) (hb : Nat → Option Bool) (bs : List UInt8) (x y : Int) (Q : Out → List Blk → Gh → Prop) : Prop :=
 callx (env_67v hv hb) (wpx (env_67v hv hb) 1000) 67 [.sl 0 bs.length 0 bs.length 1, .int .i64 2, .sl 1 2 0 2 1] [⟨.grow, true, ofBytes bs⟩, ⟨.ro, true, [.int .i64 x, .int .i64 y]⟩] {} Q
theorem vc_67b (bs : List UInt8) (x : Int) (y : Int) (Q : Out → List Blk → Gh → Prop) : goal_67b (lookV [(274458, .int .i64), (274459, .int .u8)]) (lookB []) bs x y Q = (exI .i64 (Int.fdiv x 256) fun n_0 => exW .u8 n_0 fun n_1 => ckQ
 (Nat.beq (ofBytes bs).length bs.length && true && Nat.beq (0 + bs.length * 1) bs.length && Nat.ble (bs.length + 1) 1099511627776 && Nat.ble ((bs.length + 1) * 1) 1099511627776) (exI .i64 (Int.fdiv x 1) fun n_2 => exW .u8 n_2 fun n_3 => ckQ
 (Nat.beq (ofBytes bs ++ [AV.int .u8 n_1]).length (bs.length + 1) && true && Nat.beq (0 + (bs.length + 1) * 1) (bs.length + 1) && Nat.ble (bs.length + 1 + 1) 1099511627776 && Nat.ble ((bs.length + 1 + 1) * 1) 1099511627776) (exI .i64
 (Int.fdiv y 256) fun n_4 => exW .u8 n_4 fun n_5 => ckQ (Nat.beq (ofBytes bs ++ [AV.int .u8 n_1] ++ [AV.int .u8 n_3]).length (bs.length + 1 + 1) && true && Nat.beq (0 + (bs.length + 1 + 1) * 1) (bs.length + 1 + 1) && Nat.ble (bs.length + 1
 + 1 + 1) 1099511627776 && Nat.ble ((bs.length + 1 + 1 + 1) * 1) 1099511627776) (exI .i64 (Int.fdiv y 1) fun n_6 => exW .u8 n_6 fun n_7 => ckQ (Nat.beq (ofBytes bs ++ [AV.int .u8 n_1] ++ [AV.int .u8 n_3] ++ [AV.int .u8 n_5]).length
 (bs.length + 1 + 1 + 1) && true && Nat.beq (0 + (bs.length + 1 + 1 + 1) * 1) (bs.length + 1 + 1 + 1) && Nat.ble (bs.length + 1 + 1 + 1 + 1) 1099511627776 && Nat.ble ((bs.length + 1 + 1 + 1 + 1) * 1) 1099511627776) (Q (.ret (.sl 0
 (bs.length + 1 + 1 + 1 + 1) 0 (bs.length + 1 + 1 + 1 + 1) 1)) [Blk.mk BK.grow true (ofBytes bs ++ [AV.int .u8 n_1] ++ [AV.int .u8 n_3] ++ [AV.int .u8 n_5] ++ [AV.int .u8 n_7]), Blk.mk BK.ro true [.int .i64 x, .int .i64 y]] {}))))) := by
 kernel_rfl

theorem octW1 (x : Int) : IntKind.wrap .u8 (x.fdiv 256) = ((octM x 1).toNat : Int) := octI x 1 (by omega) 8 rfl
theorem octW0 (x : Int) : IntKind.wrap .u8 (x.fdiv 1) = ((octM x 0).toNat : Int) := octI x 0 (by omega) 0 rfl
theorem octU {x : Int} {j : Nat} {q : Int} (h : IntKind.wrap .u8 (x.fdiv q) = ((octM x j).toNat : Int)) {K : Int → Prop} (hk : K ((octM x j).toNat : Int)) : ∃ n, AV.int .i64 (x.fdiv q) = AV.int .i64 n ∧ ∃ n1, AV.int .u8 (IntKind.wrap .u8 n) = AV.int .u8 n1 ∧ K n1 := ⟨_, rfl, _, by rw [h], hk⟩
theorem pa_run (bs : List UInt8) (x : Int) (hbs : bs.length ≤ 1000000) (Q : Out → List Blk → Gh → Prop) (hq : Q (.ret (.sl 0 (bs ++ putM 2 [x]).length 0 (bs ++ putM 2 [x]).length 1)) [⟨.grow, true, ofBytes (bs ++ putM 2 [x])⟩, ⟨.ro, true, [.int .i64 x]⟩] {}) : ∃ hv hb, goal_67a hv hb bs x Q := by
 obtain ⟨hv, hb', e⟩ : ∃ hv hb, goal_67a hv hb bs x Q = _ := ⟨_, _, vc_67a bs x Q⟩
 refine ⟨hv, hb', e.mpr ?_⟩
 clear e
 refine octU (octW1 x) (ckI (by simp [ofB_len]; omega) (octU (octW0 x) (ckI (by simp [ofB_len]; omega) ?_)))
 have e1 : ofBytes bs ++ [AV.int .u8 (((octM x 1).toNat : Nat) : Int)] ++ [AV.int .u8 (((octM x 0).toNat : Nat) : Int)] = ofBytes (bs ++ putM 2 [x]) := by simp [putM, beM, ofBytes]
 rw [e1]
 have e2 : (bs ++ putM 2 [x]).length = bs.length + 1 + 1 := by simp [putM, beM]
 rw [e2] at hq
 exact hq
theorem pb_run (bs : List UInt8) (x y : Int) (hbs : bs.length ≤ 1000000) (Q : Out → List Blk → Gh → Prop) (hq : Q (.ret (.sl 0 (bs ++ putM 2 [x, y]).length 0 (bs ++ putM 2 [x, y]).length 1)) [⟨.grow, true, ofBytes (bs ++ putM 2 [x, y])⟩, ⟨.ro, true, [.int .i64 x, .int .i64 y]⟩] {}) : ∃ hv hb, goal_67b hv hb bs x y Q := by
 obtain ⟨hv, hb', e⟩ : ∃ hv hb, goal_67b hv hb bs x y Q = _ := ⟨_, _, vc_67b bs x y Q⟩
 refine ⟨hv, hb', e.mpr ?_⟩
 clear e
 refine octU (octW1 x) (ckI (by simp [ofB_len]; omega) (octU (octW0 x) (ckI (by simp [ofB_len]; omega) (octU (octW1 y) (ckI (by simp [ofB_len]; omega) (octU (octW0 y) (ckI (by simp [ofB_len]; omega) ?_)))))))
 have e1 : ofBytes bs ++ [AV.int .u8 (((octM x 1).toNat : Nat) : Int)] ++ [AV.int .u8 (((octM x 0).toNat : Nat) : Int)] ++ [AV.int .u8 (((octM y 1).toNat : Nat) : Int)] ++ [AV.int .u8 (((octM y 0).toNat : Nat) : Int)] = ofBytes (bs ++ putM 2 [x, y]) := by simp [putM, beM, ofBytes]
 rw [e1]
 have e2 : (bs ++ putM 2 [x, y]).length = bs.length + 1 + 1 + 1 + 1 := by simp [putM, beM]
 rw [e2] at hq
 exact hq
theorem fr_ro {id id2 : Nat} {k : BK} {lf : Bool} {H : List Blk} {bs : List UInt8} {xs : List Int} (h : H[id]? = some ⟨.grow, true, ofBytes bs⟩) (h2 : H[id2]? = some ⟨k, lf, cellsI xs⟩) (hne : id ≠ id2) : Fr (fun j => if j = 0 then id else id2) [⟨.grow, true, ofBytes bs⟩, ⟨.ro, true, cellsI xs⟩] H := by
 refine ⟨fun j b0 hb => ?_, fun j j' b0 hb hk hj' he => ?_⟩
 ·match j with
  | 0 =>
   simp only [List.getElem?_cons_zero, Option.some.injEq] at hb
   subst hb
   exact ⟨(List.getElem?_eq_some_iff.1 h).1, oldL_ofB _ _, noY_ofB _, fun _ => oldL_ofB _ _, _, h, (renL_flat _ _ (oldL_ofB _ _) (noY_ofB _)).symm, .inr rfl⟩
  | 1 =>
   simp only [List.getElem?_cons_succ, List.getElem?_cons_zero, Option.some.injEq] at hb
   subst hb
   exact ⟨(List.getElem?_eq_some_iff.1 h2).1, oldL_cI _ _, (noY_cellsI _).1, fun _ => oldL_cI _ _, _, h2, (renL_flat _ _ (oldL_cI _ _) (noY_cellsI _).1).symm, .inl rfl⟩
  | j + 2 => simp at hb
 ·match j, j' with
  | 0, 0 => rfl
  | 1, _ => simp at hb; subst hb; simp at hk
  | 0, 1 => exact absurd (by simpa using he) hne
  | j + 2, _ => simp at hb
  | 0, j' + 2 => simp at hj'; omega
theorem end_ro {id id2 : Nat} {H : List Blk} {bs bs' : List UInt8} {xs : List Int} (h : H[id]? = some ⟨.grow, true, ofBytes bs⟩) : FrEnd (fun j => if j = 0 then id else id2) [⟨.grow, true, ofBytes bs⟩, ⟨.ro, true, cellsI xs⟩] [⟨.grow, true, ofBytes bs'⟩, ⟨.ro, true, cellsI xs⟩] H (H.set id ⟨.grow, true, ofBytes bs'⟩) := by
 have hl : id < H.length := (List.getElem?_eq_some_iff.1 h).1
 refine ⟨by simp, fun j b0 hb hk => ?_, fun j b0 hb hk => ?_, fun j b0 hj hb => ?_, by simp, fun k hk hn => ?_, fun j b hb hk => ?_⟩
 ·match j with
  | 0 => simp at hb; subst hb; cases hk
  | 1 => simp at hb; subst hb; exact ⟨_, rfl, rfl, rfl⟩
  | j + 2 => simp at hb
 ·match j with
  | 0 => simp at hb; subst hb; exact ⟨_, rfl, rfl⟩
  | 1 => simp at hb; subst hb; simp at hk
  | j + 2 => simp at hb
 ·match j with
  | 0 => simp at hj
  | 1 => simp at hj
  | j + 2 => simp at hb
 ·have := hn 0 _ rfl (by simp)
  simp only [if_true] at this
  rw [List.getElem?_set_ne this]
 ·match j with
  | 0 =>
   simp only [List.getElem?_cons_zero, Option.some.injEq] at hb
   subst hb
   show (H.set id _)[id]? = some (renB _ _)
   rw [List.getElem?_set_self hl]
   simp only [renB, renL_flat _ _ (oldL_ofB 0 _) (noY_ofB _)]
  | 1 => simp at hb; subst hb; simp at hk
  | j + 2 => simp at hb
def cPutR : Con
 | [.sl id tot 0 len 1, .int .i64 2, .sl id2 tot2 0 n 1], H, K => ∃ (bs : List UInt8) (xs : List Int) (k2 : BK) (lf : Bool), Lf (H[id]? = some ⟨.grow, true, ofBytes bs⟩ ∧ tot = bs.length ∧ len = bs.length ∧ bs.length ≤ 1000000 ∧ H[id2]? = some ⟨k2, lf, cellsI xs⟩ ∧ id ≠ id2 ∧ tot2 = xs.length ∧ n = xs.length ∧ (n = 1 ∨ n = 2)) ∧ K (.ret (.sl id (bs ++ putM 2 xs).length 0 (bs ++ putM 2 xs).length 1)) (H.set id ⟨.grow, true, ofBytes (bs ++ putM 2 xs)⟩)
 | _, _, _ => False
theorem putR_ok : ValidF Tryd.prog glC 67 cPutR := by
 refine valid_of (enters_of (by kernel_rfl)) glC_noY fun args H Q hc => ?_
 unfold cPutR at hc
 split at hc
 ·rename_i id tot len id2 tot2 n
  obtain ⟨bs, xs, k2, lf, ⟨h1, rfl, rfl, h3, h4, hne, rfl, rfl, hn⟩, hq⟩ := hc
  match xs, hn with
  | [x], _ =>
   obtain ⟨hv, hb', h⟩ := pa_run bs x h3 (fun o H' _ => o = .ret (.sl 0 (bs ++ putM 2 [x]).length 0 (bs ++ putM 2 [x]).length 1) ∧ H' = [⟨.grow, true, ofBytes (bs ++ putM 2 [x])⟩, ⟨.ro, true, cellsI [x]⟩]) ⟨rfl, rfl⟩
   refine ⟨_, 1000, fun j => if j = 0 then id else id2, [.sl 0 bs.length 0 bs.length 1, .int .i64 2, .sl 1 1 0 1 1], [⟨.grow, true, ofBytes bs⟩, ⟨.ro, true, cellsI [x]⟩], _, (⟨mixed24, names24, tabA_ok, sm0_ok⟩ : EnvFor Tryd.prog (env_67v hv hb')), rfl, rfl, rfl, rfl, fr_ro h1 h4 hne, h, ?_⟩
   rintro o H0' g' ⟨rfl, rfl⟩
   exact ⟨_, end_ro h1, hq⟩
  | [x, y], _ =>
   obtain ⟨hv, hb', h⟩ := pb_run bs x y h3 (fun o H' _ => o = .ret (.sl 0 (bs ++ putM 2 [x, y]).length 0 (bs ++ putM 2 [x, y]).length 1) ∧ H' = [⟨.grow, true, ofBytes (bs ++ putM 2 [x, y])⟩, ⟨.ro, true, cellsI [x, y]⟩]) ⟨rfl, rfl⟩
   refine ⟨_, 1000, fun j => if j = 0 then id else id2, [.sl 0 bs.length 0 bs.length 1, .int .i64 2, .sl 1 2 0 2 1], [⟨.grow, true, ofBytes bs⟩, ⟨.ro, true, cellsI [x, y]⟩], _, (⟨mixed24, names24, tabA_ok, sm0_ok⟩ : EnvFor Tryd.prog (env_67v hv hb')), rfl, rfl, rfl, rfl, fr_ro h1 h4 hne, h, ?_⟩
   rintro o H0' g' ⟨rfl, rfl⟩
   exact ⟨_, end_ro h1, hq⟩
  | [], hn => simp at hn
  | _ :: _ :: _ :: _, hn => simp at hn
 ·exact hc.elim
def cPutB : Con
 | [a, b, .lst t l n z], H, K => cPut [a, b, .lst t l n z] H K
 | [a, b, .sl i t o n z], H, K => cPutR [a, b, .sl i t o n z] H K
 | _, _, _ => False
theorem put_ok : ValidF Tryd.prog glC 67 cPutB := by
 refine ⟨put_raw.1, fun args H Q hc => ?_⟩
 unfold cPutB at hc
 split at hc
 ·exact put_raw.2 _ _ _ hc
 ·exact putR_ok.2 _ _ _ hc
 ·exact hc.elim
end Go.Proofs.YtafchcmemeinlaaDoor
