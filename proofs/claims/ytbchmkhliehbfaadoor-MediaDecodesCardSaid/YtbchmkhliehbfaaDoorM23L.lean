/-
  Chapter 23, the reference: Octets, Demux, short.
-/
import Derived.Test.YtbchmkhliehbfaaDoorM23J
set_option linter.unusedSimpArgs false
set_option linter.unusedVariables false
namespace Go.Proofs.YtbchmkhliehbfaaDoor
open Go.RowKit
set_option maxRecDepth 1000000

def inv_31 (k : Nat) (v : Int) : LInv where
  α := Nat
  pre i := Lf (i ≤ k)
  st i := ⟨mkT [(0, .int .i64 (k : Nat)), (1, .int .i64 (v / 256 ^ i)), (5, .str (beM v i)), (6, .int .i64 (i : Nat))], []⟩
  mu i := k - i
noncomputable def goal_31 (hv : Nat → Option Pa) (hb : Nat → Option Bool) (k : Nat) (v : Int) (Q : Out → List Blk → Gh → Prop) : Prop :=
  callx (e23 sm0 (fun i => bif Nat.beq i 31000 then some (fun _ => [[inv_31 k v]]) else none) hv hb) (wpx (e23 sm0 (fun i => bif Nat.beq i 31000 then some (fun _ => [[inv_31 k v]]) else none) hv hb) 1000) 31 [.int .i64 (k : Nat), .int .i64 v] [] {} Q
theorem vc_31 (k : Nat) (v : Int) (Q : Out → List Blk → Gh → Prop) : goal_31 (lookV [(126983, .int .i64), (126984, .int .i64), (126988, .int .i64), (126989, .int .i64), (126990, .int .u8), (126992, .str), (126993, .str), (126994, .str), (126995, .int .i64), (126996, .int .i64), (126986, .int .i64), (126987, .int .i64), (126997, .str)]) (lookB []) k v Q = (
((∃ x_0 : Nat, ((Lf (x_0 ≤ k)) ∧
 (((AV.int .i64 (Nat.cast k : Int)) = (AV.int .i64 (Nat.cast k : Int))) ∧
 (((AV.int .i64 v) = (AV.int .i64 (v / ((256 : Int) ^ x_0)))) ∧
 (((AV.str []) = (AV.str (beM v x_0))) ∧
 (((AV.int .i64 (0 : Int)) = (AV.int .i64 (Nat.cast x_0 : Int))) ∧
 True)))))) ∧
 (∀ x_0 : Nat, ((Lf (x_0 ≤ k)) →
(∃ n_1 : Int, (((AV.int .i64 (Nat.cast x_0 : Int)) = (AV.int .i64 n_1)) ∧
 (∃ n_2 : Int, (((AV.int .i64 (Nat.cast k : Int)) = (AV.int .i64 n_2)) ∧
 (bif (decide (n_1 < n_2)) then (∃ n_3 : Int, (((AV.int .i64 (v / ((256 : Int) ^ x_0))) = (AV.int .i64 n_3)) ∧
 (∃ n_4 : Int, (((AV.int .i64 (Int.tmod n_3 (256 : Int))) = (AV.int .i64 n_4)) ∧
 (∃ n_5 : Int, (((AV.int .u8 (IntKind.wrap .u8 n_4)) = (AV.int .u8 n_5)) ∧
 (∃ s_6 : (List UInt8), (((AV.str ((toB (AV.int .u8 n_5)) :: [])) = (AV.str s_6)) ∧
 (∃ s_7 : (List UInt8), (((AV.str (beM v x_0)) = (AV.str s_7)) ∧
 (bif ((decide (((List.length s_6) + (List.length s_7)) ≤ (9223372036854775807 : Nat))) && true) then (∃ s_8 : (List UInt8), (((AV.str (s_6 ++ s_7)) = (AV.str s_8)) ∧
 (∃ n_9 : Int, (((AV.int .i64 (v / ((256 : Int) ^ x_0))) = (AV.int .i64 n_9)) ∧
 (∃ n_10 : Int, (((AV.int .i64 (IntKind.wrap .i64 (Int.tdiv n_9 (256 : Int)))) = (AV.int .i64 n_10)) ∧
 (∃ n_11 : Int, (((AV.int .i64 (Nat.cast x_0 : Int)) = (AV.int .i64 n_11)) ∧
 (∃ n_12 : Int, (((AV.int .i64 (IntKind.wrap .i64 (n_11 + (1 : Int)))) = (AV.int .i64 n_12)) ∧
 ((True ∧
 ((0 : Nat) = (0 : Nat))) ∧
 (∃ y_13 : Nat, ((Lf (y_13 ≤ k)) ∧
 (((k - y_13) < (k - x_0)) ∧
 (((AV.int .i64 (Nat.cast k : Int)) = (AV.int .i64 (Nat.cast k : Int))) ∧
 (((AV.int .i64 n_10) = (AV.int .i64 (v / ((256 : Int) ^ y_13)))) ∧
 (((AV.str s_8) = (AV.str (beM v y_13))) ∧
 (((AV.int .i64 n_12) = (AV.int .i64 (Nat.cast y_13 : Int))) ∧
 True))))))))))))))))))
else False)))))))))))
else (∃ s_3 : (List UInt8), (((AV.str (beM v x_0)) = (AV.str s_3)) ∧
 (Q (Out.ret (AV.str s_3)) [] (Gh.mk (0 : Nat) (0 : Nat) []))))))))))))) := by kernel_rfl

def inv_36 (t : Nat) (ex : List Xt) : LInv where
  α := Nat
  pre i := Lf (i ≤ ex.length ∧ (ex.take i).any isLongM = false)
  st i := ⟨mkT [(0, .lst t (cellsXM ex) ex.length 2), (3, .int .i64 (i : Nat))], []⟩
  mu i := ex.length - i
noncomputable def goal_36 (hv : Nat → Option Pa) (hb : Nat → Option Bool) (t : Nat) (ex : List Xt) (Q : Out → List Blk → Gh → Prop) : Prop :=
  callx (e23 sm0 (fun i => bif Nat.beq i 36000 then some (fun _ => [[inv_36 t ex]]) else none) hv hb) (wpx (e23 sm0 (fun i => bif Nat.beq i 36000 then some (fun _ => [[inv_36 t ex]]) else none) hv hb) 1000) 36 [.lst t (cellsXM ex) ex.length 2] [] {} Q
theorem vc_36 (t : Nat) (ex : List Xt) (Q : Out → List Blk → Gh → Prop) : goal_36 (lookV [(147460, .int .i64), (147462, .int .i64), (147467, .int .i64), (147470, .int .i64), (147474, .int .i64), (147477, .str), (147478, .int .i64), (147483, .int .i64), (147486, .str), (147487, .int .i64), (147464, .int .i64), (147465, .int .i64)]) (lookB []) t ex Q = (
((∃ x_0 : Nat, ((Lf ((x_0 ≤ (List.length ex)) ∧
 ((List.any (List.take x_0 ex) isLongM) = false))) ∧
 (((AV.lst t (cellsXM ex) (List.length ex) (2 : Nat)) = (AV.lst t (cellsXM ex) (List.length ex) (2 : Nat))) ∧
 (((AV.int .i64 (0 : Int)) = (AV.int .i64 (Nat.cast x_0 : Int))) ∧
 True)))) ∧
 (∀ x_0 : Nat, ((Lf ((x_0 ≤ (List.length ex)) ∧
 ((List.any (List.take x_0 ex) isLongM) = false))) →
(∃ n_1 : Int, (((AV.int .i64 (Nat.cast x_0 : Int)) = (AV.int .i64 n_1)) ∧
 (∃ n_2 : Int, (((AV.int .i64 (Nat.cast (List.length ex) : Int)) = (AV.int .i64 n_2)) ∧
 (bif (decide (n_1 < n_2)) then (∃ n_3 : Int, (((AV.int .i64 (Nat.cast x_0 : Int)) = (AV.int .i64 n_3)) ∧
 (bif (((decide ((0 : Int) ≤ n_3)) && (Nat.blt (Int.toNat n_3) (List.length ex))) && true) then (bif (Nat.blt (((Int.toNat n_3) * (2 : Nat)) + (0 : Nat)) (List.length (cellsXM ex))) then (∃ n_4 : Int, (((List.getD (cellsXM ex) (((Int.toNat n_3) * (2 : Nat)) + (0 : Nat)) AV.undef) = (AV.int .i64 n_4)) ∧
 (bif (decide (n_4 > (14 : Int))) then (Q (Out.ret (AV.bool false)) [] (Gh.mk (0 : Nat) (0 : Nat) []))
else (∃ n_5 : Int, (((AV.int .i64 (Nat.cast x_0 : Int)) = (AV.int .i64 n_5)) ∧
 (bif (((decide ((0 : Int) ≤ n_5)) && (Nat.blt (Int.toNat n_5) (List.length ex))) && true) then (bif (Nat.blt (((Int.toNat n_5) * (2 : Nat)) + (1 : Nat)) (List.length (cellsXM ex))) then (∃ s_6 : (List UInt8), (((List.getD (cellsXM ex) (((Int.toNat n_5) * (2 : Nat)) + (1 : Nat)) AV.undef) = (AV.str s_6)) ∧
 (∃ n_7 : Int, (((AV.int .i64 (Nat.cast (List.length s_6) : Int)) = (AV.int .i64 n_7)) ∧
 (bif (decide (n_7 < (1 : Int))) then (Q (Out.ret (AV.bool false)) [] (Gh.mk (0 : Nat) (0 : Nat) []))
else (∃ n_8 : Int, (((AV.int .i64 (Nat.cast x_0 : Int)) = (AV.int .i64 n_8)) ∧
 (bif (((decide ((0 : Int) ≤ n_8)) && (Nat.blt (Int.toNat n_8) (List.length ex))) && true) then (bif (Nat.blt (((Int.toNat n_8) * (2 : Nat)) + (1 : Nat)) (List.length (cellsXM ex))) then (∃ s_9 : (List UInt8), (((List.getD (cellsXM ex) (((Int.toNat n_8) * (2 : Nat)) + (1 : Nat)) AV.undef) = (AV.str s_9)) ∧
 (∃ n_10 : Int, (((AV.int .i64 (Nat.cast (List.length s_9) : Int)) = (AV.int .i64 n_10)) ∧
 (bif (decide (n_10 > (16 : Int))) then (Q (Out.ret (AV.bool false)) [] (Gh.mk (0 : Nat) (0 : Nat) []))
else (∃ n_11 : Int, (((AV.int .i64 (Nat.cast x_0 : Int)) = (AV.int .i64 n_11)) ∧
 (∃ n_12 : Int, (((AV.int .i64 (IntKind.wrap .i64 (n_11 + (1 : Int)))) = (AV.int .i64 n_12)) ∧
 ((True ∧
 ((0 : Nat) = (0 : Nat))) ∧
 (∃ y_13 : Nat, ((Lf ((y_13 ≤ (List.length ex)) ∧
 ((List.any (List.take y_13 ex) isLongM) = false))) ∧
 ((((List.length ex) - y_13) < ((List.length ex) - x_0)) ∧
 (((AV.lst t (cellsXM ex) (List.length ex) (2 : Nat)) = (AV.lst t (cellsXM ex) (List.length ex) (2 : Nat))) ∧
 (((AV.int .i64 n_12) = (AV.int .i64 (Nat.cast y_13 : Int))) ∧
 True)))))))))))))))
else False)
else False))))))))
else False)
else False))))))
else False)
else False)))
else (Q (Out.ret (AV.bool true)) [] (Gh.mk (0 : Nat) (0 : Nat) []))))))))))) := by kernel_rfl


theorem octP {x : Int} {n : Int} {i : Nat} (hx : x = n / 256 ^ i) (h0 : 0 ≤ x) : toB (AV.int .u8 (IntKind.wrap .u8 (Int.tmod x 256))) = octM n i := by
  rw [Int.tmod_eq_emod_of_nonneg h0, IntKind.wrap_u8, octM, ← hx, toB]
  congr 2
  omega
theorem oct_run (k : Nat) (v : Int) (hk : k ≤ 8) (hv0 : 0 ≤ v) (hv1 : v ≤ 9223372036854775807) (Q : Out → List Blk → Gh → Prop) (hq : Q (.ret (.str (beM v k))) [] {}) : ∃ hv hb, goal_31 hv hb k v Q := by
  obtain ⟨hv, hb', e⟩ : ∃ hv hb, goal_31 hv hb k v Q = _ := ⟨_, _, vc_31 k v Q⟩
  refine ⟨hv, hb', e.mpr ?_⟩
  clear e
  refine ⟨⟨0, ⟨by omega⟩, rfl, by rw [Int.pow_zero, Int.ediv_one], rfl, rfl, trivial⟩, ?_⟩
  rintro i ⟨hi⟩
  have hp : (0 : Int) < 256 ^ i := Int.pow_pos (by decide)
  have hd0 : 0 ≤ v / 256 ^ i := Int.ediv_nonneg hv0 (Int.le_of_lt hp)
  have hd1 : v / 256 ^ i ≤ v := Int.ediv_le_self _ hv0
  refine ⟨_, rfl, _, rfl, splitD (fun hlt => ?_) (fun hge => ?_)⟩
  · have htd : Int.tdiv (v / 256 ^ i) 256 = v / 256 ^ (i + 1) := by rw [Int.tdiv_eq_ediv_of_nonneg hd0, Int.ediv_ediv_of_nonneg (Int.le_of_lt hp), Int.pow_succ]
    have hp2 : (0 : Int) < 256 ^ (i + 1) := Int.pow_pos (by decide)
    have hd2 : 0 ≤ v / 256 ^ (i + 1) := Int.ediv_nonneg hv0 (Int.le_of_lt hp2)
    have hd3 : v / 256 ^ (i + 1) ≤ v := Int.ediv_le_self _ hv0
    refine ⟨_, rfl, _, rfl, _, rfl, _, rfl, _, rfl, ckI (by simp [be_len]; omega) ⟨_, rfl, _, rfl, wrapI (by rw [htd]; omega) (by rw [htd]; omega) ⟨_, rfl, wrapI (by omega) (by omega) ⟨⟨trivial, rfl⟩, i + 1, ⟨by omega⟩, by omega, rfl, by rw [htd], ?_, rfl, trivial⟩⟩⟩⟩
    rw [octP rfl hd0]
    rfl
  · have : i = k := by omega
    subst this
    exact ⟨_, rfl, hq⟩
def cOct : Con
  | [.int .i64 k, .int .i64 v], H, K => Lf ((0 ≤ k ∧ k ≤ 8) ∧ 0 ≤ v ∧ v ≤ 9223372036854775807) ∧ K (.ret (.str (beM v k.toNat))) H
  | _, _, _ => False
theorem oct_ok : ValidF Tryd.prog gl0 31 cOct := by
  refine valid_flat (enters_of (by kernel_rfl)) gl0_noY fun args H Q hc => ?_
  unfold cOct at hc
  split at hc
  · rename_i k v
    obtain ⟨⟨⟨h0, h1⟩, h2, h3⟩, hq⟩ := hc
    obtain ⟨k, rfl⟩ : ∃ m : Nat, k = m := ⟨k.toNat, by omega⟩
    rw [Int.toNat_natCast] at hq
    obtain ⟨hv, hb', h⟩ := oct_run k v (by omega) h2 h3 (fun o H' _ => H' = [] ∧ (∃ v, o = .ret v ∧ old 0 v = true ∧ noY v = true) ∧ Q o H) ⟨rfl, ⟨_, rfl, rfl, rfl⟩, hq⟩
    refine ⟨rfl, rfl, _, 1000, ?_, rfl, h⟩
    exact ⟨mixed23, names23, tabA_ok, sm0_ok⟩
  · exact hc.elim
theorem getXs {l : List Xt} {i m : Nat} (hi : i < l.length) (hm : m = i * 2 + 1) {K : List UInt8 → Prop} (hk : K l[i].2) : ∃ s : List UInt8, (cellsXM l).getD m AV.undef = AV.str s ∧ K s := by
  refine ⟨_, ?_, hk⟩
  subst hm
  have e := cellsX_at hi (m := i * 2) (by omega)
  have : ((cellsXM l).drop (i * 2))[1]? = some (AV.str l[i].2) := by
    have h2 : (List.take 2 (List.drop (i * 2) (cellsXM l)))[1]? = some (AV.str l[i].2) := by rw [e]; rfl
    rwa [List.getElem?_take, if_pos (by omega)] at h2
  rw [List.getElem?_drop] at this
  rw [List.getD_eq_getElem?_getD, this]
  rfl
theorem rshort_run (t : Nat) (ex : List Xt) (hx : ex.length ≤ 1000000) (Q : Out → List Blk → Gh → Prop) (hq : Q (.ret (.bool (shortM ex))) [] {}) : ∃ hv hb, goal_36 hv hb t ex Q := by
  obtain ⟨hv, hb', e⟩ : ∃ hv hb, goal_36 hv hb t ex Q = _ := ⟨_, _, vc_36 t ex Q⟩
  refine ⟨hv, hb', e.mpr ?_⟩
  clear e
  refine ⟨⟨0, ⟨by omega, by simp⟩, rfl, rfl, trivial⟩, ?_⟩
  rintro i ⟨hi, hany⟩
  refine ⟨_, rfl, _, rfl, splitD (fun hlt => ?_) (fun hge => ?_)⟩
  · have hlt' : i < ex.length := by omega
    have hstep : (ex.take (i + 1)).any isLongM = isLongM ex[i] := by
      rw [List.take_add_one, List.any_append, hany]; simp [hlt']
    have hbad : isLongM ex[i] = true → shortM ex = false := fun h => by
      have : ex.any isLongM = true := List.any_eq_true.2 ⟨ex[i], List.getElem_mem _, h⟩
      rw [shortM, this]; rfl
    have c1 : ∀ {A : Prop}, A → bif (((decide ((0 : Int) ≤ (i : Int))) && (Nat.blt (Int.toNat (i : Int)) (List.length ex))) && true) then A else False := fun h => ckI (by simp; omega) h
    refine ⟨_, rfl, c1 (ckI (by rw [cellsX_len]; simp; omega) (getXi hlt' (by simp) (splitD (fun h1 => ?_) (fun h1 => ⟨_, rfl, c1 (ckI (by rw [cellsX_len]; simp; omega) (getXs hlt' (by simp) ⟨_, rfl, splitD (fun h2 => ?_) (fun h2 => ⟨_, rfl, c1 (ckI (by rw [cellsX_len]; simp; omega) (getXs hlt' (by simp) ⟨_, rfl, splitD (fun h3 => ?_) (fun h3 => ⟨_, rfl, wrapI (by omega) (by omega) ?_⟩)⟩))⟩)⟩))⟩))))⟩
    · rw [← hbad (by simp [isLongM, h1])]; exact hq
    · rw [← hbad (by simp only [isLongM, decide_eq_true (show (ex[i].2.length : Int) = 0 by omega), Bool.or_true, Bool.true_or])]; exact hq
    · rw [← hbad (by simp only [isLongM, decide_eq_true h3, Bool.or_true])]; exact hq
    · refine ⟨⟨trivial, rfl⟩, i + 1, ⟨hlt', ?_⟩, by omega, rfl, rfl, trivial⟩
      rw [hstep]
      simp only [isLongM, decide_eq_false h1, decide_eq_false (show ¬ (ex[i].2.length : Int) = 0 by omega), decide_eq_false h3, Bool.or_false]
  · have hle : i = ex.length := by omega
    subst hle
    rw [List.take_length] at hany
    have : shortM ex = true := by rw [shortM, hany]; rfl
    rw [← this]; exact hq
theorem rshort_ok : ValidF Tryd.prog gl0 36 cShort := by
  refine valid_flat (enters_of (by kernel_rfl)) gl0_noY fun args H Q hc => ?_
  unfold cShort at hc
  split at hc
  · rename_i t l n
    obtain ⟨ex, ⟨rfl, rfl, hl, hd⟩, hq⟩ := hc
    obtain ⟨hv, hb', h⟩ := rshort_run t ex hl (fun o H' _ => H' = [] ∧ (∃ v, o = .ret v ∧ old 0 v = true ∧ noY v = true) ∧ Q o H) ⟨rfl, ⟨_, rfl, rfl, rfl⟩, hq⟩
    exact ⟨rfl, rfl, _, 1000, envFor23 sm0_ok _ _ _, rfl, h⟩
  · exact hc.elim
end Go.Proofs.YtbchmkhliehbfaaDoor
