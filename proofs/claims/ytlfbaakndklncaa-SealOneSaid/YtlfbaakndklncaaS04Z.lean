/-
  Chapter 4: SealSums' run.
-/
import Derived.Test.YtlfbaakndklncaaS04Y
import Derived.Test.YtlfbaakndklncaaS04W
set_option linter.unusedSimpArgs false
set_option linter.unusedVariables false
namespace Go.Proofs.Ytlfbaakndklncaa
open Go.RowKit
set_option maxRecDepth 1000000

theorem repeatS_ok : ValidF Try.prog gl0 28 cRepeatS := valid_imp repeat_ok fun args H K h => by
  unfold cRepeatS at h
  split at h
  · rename_i s c
    obtain ⟨⟨h0, h1, h2⟩, hk⟩ := h
    have h3 : s.length * c.toNat ≤ 100000 * 100000 := Nat.mul_le_mul h2 (by omega)
    have h4 : (decide (0 ≤ c) && Nat.ble c.toNat 9223372036854775807 && Nat.ble (s.length * c.toNat) 140737488355328) = true := by simp; omega
    simp only [cRepeat, h4]
    exact hk _ ⟨rfl⟩
  · exact h.elim
def smZ : SM := lookS [(10, cTrue), (12, cSized), (14, cTagS), (18, cSeal), (20, cOpen), (21, cApply), (24, cBlock), (28, cRepeatS)]
theorem smZ_ok : ∀ f g, smZ f = some g → ValidF Try.prog gl0 f g := lookS_ok _ (by simp only [List.mem_cons, List.not_mem_nil, or_false, forall_eq_or_imp, forall_eq]; exact ⟨works_ok, sized_ok, tagS_ok, seal_ok, open_ok, apply_ok, block_ok, repeatS_ok⟩)
/-! ## plain lemmas -/
theorem leN_leB : ∀ n x, leNM (leBM n x) = x % 2 ^ (8 * n)
  | 0, x => by simp [leBM, leNM, Nat.mod_one]
  | n + 1, x => by
    rw [leBM, leNM, leN_leB n, UInt8.toNat_ofNat', show 8 * (n + 1) = 8 + 8 * n by omega, Nat.pow_add, show (2 : Nat) ^ 8 = 256 from rfl, Nat.mod_mul]
    omega
theorem leB_leN : ∀ l : List UInt8, leBM l.length (leNM l) = l
  | [] => rfl
  | x :: l => by
    have h := x.toNat_lt
    rw [List.length_cons, leNM, leBM, show (x.toNat + 256 * leNM l) % 256 = x.toNat by omega, show (x.toNat + 256 * leNM l) / 256 = leNM l by omega, leB_leN l, UInt8.ofNat_toNat]
theorem leB_mod (n : Nat) : ∀ x, leBM n (x % 2 ^ (8 * n)) = leBM n x := by
  induction n with
  | zero => intro x; rfl
  | succ n ih =>
    intro x
    have e : x % 2 ^ (8 * (n + 1)) = x % 256 + 256 * (x / 256 % 2 ^ (8 * n)) := by rw [show 8 * (n + 1) = 8 + 8 * n by omega, Nat.pow_add, show (2 : Nat) ^ 8 = 256 from rfl, Nat.mod_mul]
    rw [leBM, leBM, e, show (x % 256 + 256 * (x / 256 % 2 ^ (8 * n))) % 256 = x % 256 by omega, show (x % 256 + 256 * (x / 256 % 2 ^ (8 * n))) / 256 = x / 256 % 2 ^ (8 * n) by omega, ih]
theorem leB_get : ∀ (n i x : Nat), i < n → (leBM n x).getD i 0 = UInt8.ofNat (x / 2 ^ (8 * i) % 256)
  | n + 1, 0, x, _ => by simp [leBM]
  | n + 1, i + 1, x, h => by
    rw [leBM, List.getD_cons_succ, leB_get n i _ (by omega), Nat.div_div_eq_div_mul, show 8 * (i + 1) = 8 + 8 * i by omega, Nat.pow_add]
theorem poly_zero : ∀ (f : Nat) (q : List UInt8), polyM 0 f 0 q = 0
  | 0, _ => rfl
  | f + 1, q => by
    rw [polyM]
    split
    · rfl
    · rw [Nat.mul_zero, Nat.zero_mod]; exact poly_zero f _
/-- the sum before the tag is cut to 16 octets -/
def sumTM (key s : List UInt8) : Nat := polyM (leNM (clampM (key.take 16))) s.length 0 s + leNM (key.drop 16)
theorem tag_sum (key s : List UInt8) : tagM key s = leBM 16 (sumTM key s) := leB_mod 16 _
theorem tagS32 {key s : List UInt8} (h : key.length = 32) (h2 : s.length ≤ 4096) : tagSM key s = (tagM key s, 0) := by
  rw [tagSM, if_neg (by omega), if_neg (by omega)]
theorem tag_empty {key : List UInt8} (h : key.length = 32) : tagM key [] = key.drop 16 := by
  have hl : (key.drop 16).length = 16 := by rw [List.length_drop]; omega
  have e := leB_leN (key.drop 16)
  rw [hl] at e
  rw [tag_sum, sumTM, poly_nil, Nat.zero_add, e]
theorem tag_zero {k2 s : List UInt8} (h : k2.length = 16) : tagM (List.replicate 16 0 ++ k2) s = k2 := by
  have e1 : (List.replicate 16 (0 : UInt8) ++ k2).take 16 = List.replicate 16 0 := List.take_left' (by rw [List.length_replicate])
  have e2 : (List.replicate 16 (0 : UInt8) ++ k2).drop 16 = k2 := List.drop_left' (by rw [List.length_replicate])
  have e3 : leNM (clampM (List.replicate 16 0)) = 0 := by decide +kernel
  have e := leB_leN k2
  rw [h] at e
  rw [tag_sum, sumTM, e1, e2, e3, poly_zero, Nat.zero_add, e]
theorem leN_zeros : leNM (List.replicate 16 0) = 0 := by decide +kernel
/-- a tag is the sum of the tag with zeros and of the key's second half -/
theorem tag_split {key s : List UInt8} (h : key.length = 32) : tagM key s = leBM 16 (leNM (tagM (key.take 16 ++ List.replicate 16 0) s) + leNM (key.drop 16)) := by
  have hl : (key.take 16).length = 16 := by rw [List.length_take]; omega
  have e1 : (key.take 16 ++ List.replicate 16 (0 : UInt8)).take 16 = key.take 16 := List.take_left' hl
  have e2 : (key.take 16 ++ List.replicate 16 (0 : UInt8)).drop 16 = List.replicate 16 0 := List.drop_left' hl
  rw [tag_sum (key.take 16 ++ List.replicate 16 0), leN_leB, sumTM, e1, e2, leN_zeros, Nat.add_zero, tag_sum, sumTM, ← leB_mod 16 (_ % _ + _), Nat.mod_add_mod, leB_mod]
/-- one octet of a sum -/
theorem sum_step {a b : List UInt8} {i : Nat} (ha : i < a.length) (hb : i < b.length) :
    ((leNM (a.take i) + leNM (b.take i)) / 2 ^ (8 * i) + ((a.getD i 0).toNat + (b.getD i 0).toNat)) % 256 = (leNM a + leNM b) / 2 ^ (8 * i) % 256 ∧
    (leNM (a.take (i + 1)) + leNM (b.take (i + 1))) / 2 ^ (8 * (i + 1)) = ((leNM (a.take i) + leNM (b.take i)) / 2 ^ (8 * i) + ((a.getD i 0).toNat + (b.getD i 0).toNat)) / 256 := by
  have ea := leN_take ha
  have eb := leN_take hb
  have da := leN_app (a.take (i + 1)) (a.drop (i + 1))
  have db := leN_app (b.take (i + 1)) (b.drop (i + 1))
  rw [List.take_append_drop, List.length_take, Nat.min_eq_left ha, ea] at da
  rw [List.take_append_drop, List.length_take, Nat.min_eq_left hb, eb] at db
  have hp : 2 ^ (8 * (i + 1)) = 2 ^ (8 * i) * 256 := by rw [show 8 * (i + 1) = 8 * i + 8 by omega, Nat.pow_add]
  have hpos : 0 < 2 ^ (8 * i) := Nat.two_pow_pos _
  rw [hp, Nat.mul_comm (leNM (List.drop _ _))] at da db
  rw [ea, eb, hp, da, db]
  generalize 2 ^ (8 * i) = M at *
  generalize leNM (a.take i) = A
  generalize leNM (b.take i) = B
  generalize leNM (a.drop (i + 1)) = C
  generalize leNM (b.drop (i + 1)) = D
  generalize (a.getD i 0).toNat = x
  generalize (b.getD i 0).toNat = y
  have r1 : A + x * M + M * 256 * C + (B + y * M + M * 256 * D) = (A + B) + M * ((x + y) + 256 * (C + D)) := by
    rw [Nat.mul_assoc, Nat.mul_assoc, Nat.mul_comm x, Nat.mul_comm y, Nat.mul_add, Nat.mul_add, Nat.mul_add 256, Nat.mul_add]
    omega
  have r2 : A + x * M + (B + y * M) = (A + B) + M * (x + y) := by
    rw [Nat.mul_comm x, Nat.mul_comm y, Nat.mul_add]
    omega
  rw [r1, r2, Nat.add_mul_div_left _ _ hpos, ← Nat.div_div_eq_div_mul, Nat.add_mul_div_left _ _ hpos]
  exact ⟨by omega, rfl⟩
theorem imin_nat (a b : Nat) : imin (a : Int) (b : Int) = ((min a b : Nat) : Int) := by
  unfold imin
  split <;> omega
def inv_7k (k t u : List UInt8) : LInv where
  α := Nat
  pre i := Lf (i ≤ 16)
  st i := ⟨mkT [(0, .str k), (5, .str t), (7, .str u), (9, .int .i64 (((leNM (u.take i) + leNM ((k.drop 16).take i)) / 2 ^ (8 * i) : Nat) : Int)), (81, .int .i64 (i : Nat))], []⟩
  mu i := 16 - i
def inv_7 (s : S) : List (List LInv) := match s.tm.get 0, s.tm.get 5, s.tm.get 7 with
  | .str k, .str t, .str u => [[{ inv_7k k t u with st := fun i => ⟨(inv_7k k t u).st i |>.tm, s.hp⟩ }]]
  | _, _, _ => []
noncomputable def env_7 (hv : Nat → Option Pa) (hb : Nat → Option Bool) : Env := e04 smZ (fun i => bif Nat.beq i 7000 then some inv_7 else none) hv hb
noncomputable def goal_7 (hv : Nat → Option Pa) (hb : Nat → Option Bool) (key s : List UInt8) (Q : Out → List Blk → Gh → Prop) : Prop :=
  callx (env_7 hv hb) (wpx (env_7 hv hb) 1000) 7 [.str key, .str s] [] {} Q
theorem vc_7 (key : List UInt8) (s : List UInt8) (Q : Out → List Blk → Gh → Prop) : goal_7 (lookV [(28687, .int .i64), (28688, .int .i64), (28689, .str), (28693, .int .i64), (28694, .int .i64), (28695, .str), (28704, .str), (28706, .str), (28719, .int .i64), (28724, .int .i64), (28729, .str), (28740, .str), (28744, .str), (28745, .str), (28756, .int .i64), (28759, .int .u8), (28760, .int .i64), (28763, .int .i64), (28764, .int .u8), (28765, .int .i64), (28766, .int .i64), (28767, .int .i64), (28769, .int .u8), (28772, .int .u8), (28775, .int .i64), (28776, .int .i64)]) (lookB []) key s Q = (
(∃ n_0 : Int, (((AV.int .i64 (Nat.cast (List.length key) : Int)) = (AV.int .i64 n_0)) ∧
 (∃ n_1 : Int, (((AV.int .i64 (imin n_0 (32 : Int))) = (AV.int .i64 n_1)) ∧
 (bif (((decide ((0 : Int) ≤ n_1)) && true) && (Nat.ble (Int.toNat n_1) (List.length key))) then (∃ s_2 : (List UInt8), (((AV.str (List.take ((Int.toNat n_1) - (0 : Nat)) (List.drop (0 : Nat) key))) = (AV.str s_2)) ∧
 (∃ n_3 : Int, (((AV.int .i64 (Nat.cast (List.length s) : Int)) = (AV.int .i64 n_3)) ∧
 (∃ n_4 : Int, (((AV.int .i64 (imin n_3 (200 : Int))) = (AV.int .i64 n_4)) ∧
 (bif (((decide ((0 : Int) ≤ n_4)) && true) && (Nat.ble (Int.toNat n_4) (List.length s))) then (∃ s_5 : (List UInt8), (((AV.str (List.take ((Int.toNat n_4) - (0 : Nat)) (List.drop (0 : Nat) s))) = (AV.str s_5)) ∧
 ((Lf (((0 : Int) ≤ (32 : Int)) ∧
 (((32 : Int) ≤ (100000 : Int)) ∧
 ((List.length s_2) ≤ (100000 : Nat))))) ∧
 (∀ t_6 : (List UInt8), ((Lf (t_6 = (sizedM s_2 (Int.toNat (32 : Int))))) →
(∀ t_7 : (List UInt8), (∀ e_8 : Int, ((Lf ((tagSM t_6 s_5) = (Prod.mk t_7 e_8))) →
(bif (Nat.ble (16 : Nat) (List.length t_6)) then (∃ s_9 : (List UInt8), (((AV.str (List.take (16 : Nat) (List.drop (0 : Nat) t_6))) = (AV.str s_9)) ∧
 ((Lf (((0 : Int) ≤ (16 : Int)) ∧
 (((16 : Int) ≤ (100000 : Int)) ∧
 ((List.length ((0 : UInt8) :: [])) ≤ (100000 : Nat))))) ∧
 (∀ t_10 : (List UInt8), ((Lf (t_10 = (repM ((0 : UInt8) :: []) (Int.toNat (16 : Int))))) →
(bif ((decide (((List.length s_9) + (List.length t_10)) ≤ (9223372036854775807 : Nat))) && true) then (∃ s_11 : (List UInt8), (((AV.str (s_9 ++ t_10)) = (AV.str s_11)) ∧
 (∀ t_12 : (List UInt8), (∀ e_13 : Int, ((Lf ((tagSM s_11 s_5) = (Prod.mk t_12 e_13))) →
(bif (e_8 != (0 : Int)) then (Q (Out.ret (AV.bool false)) [] (Gh.mk (0 : Nat) (0 : Nat) []))
else (bif (e_13 != (0 : Int)) then (Q (Out.ret (AV.bool false)) [] (Gh.mk (0 : Nat) (0 : Nat) []))
else (∃ n_14 : Int, (((AV.int .i64 (Nat.cast (List.length t_7) : Int)) = (AV.int .i64 n_14)) ∧
 (bif (n_14 != (16 : Int)) then (Q (Out.ret (AV.bool false)) [] (Gh.mk (0 : Nat) (0 : Nat) []))
else (∃ n_15 : Int, (((AV.int .i64 (Nat.cast (List.length t_12) : Int)) = (AV.int .i64 n_15)) ∧
 (bif (n_15 != (16 : Int)) then (Q (Out.ret (AV.bool false)) [] (Gh.mk (0 : Nat) (0 : Nat) []))
else (bif ((Nat.ble (16 : Nat) (List.length t_6)) && (Nat.ble (List.length t_6) (List.length t_6))) then (∃ s_16 : (List UInt8), (((AV.str (List.take ((List.length t_6) - (16 : Nat)) (List.drop (16 : Nat) t_6))) = (AV.str s_16)) ∧
 (∀ t_17 : (List UInt8), (∀ e_18 : Int, ((Lf ((tagSM t_6 []) = (Prod.mk t_17 e_18))) →
(bif (eqB t_17 s_16) then (bif (e_18 == (0 : Int)) then (bif ((Nat.ble (16 : Nat) (List.length t_6)) && (Nat.ble (List.length t_6) (List.length t_6))) then (∃ s_19 : (List UInt8), (((AV.str (List.take ((List.length t_6) - (16 : Nat)) (List.drop (16 : Nat) t_6))) = (AV.str s_19)) ∧
 (bif ((Nat.ble (16 : Nat) (List.length t_6)) && (Nat.ble (List.length t_6) (List.length t_6))) then (∃ s_20 : (List UInt8), (((AV.str (List.take ((List.length t_6) - (16 : Nat)) (List.drop (16 : Nat) t_6))) = (AV.str s_20)) ∧
 ((Lf (((0 : Int) ≤ (16 : Int)) ∧
 (((16 : Int) ≤ (100000 : Int)) ∧
 ((List.length ((0 : UInt8) :: [])) ≤ (100000 : Nat))))) ∧
 (∀ t_21 : (List UInt8), ((Lf (t_21 = (repM ((0 : UInt8) :: []) (Int.toNat (16 : Int))))) →
(bif ((decide (((List.length t_21) + (List.length s_20)) ≤ (9223372036854775807 : Nat))) && true) then (∃ s_22 : (List UInt8), (((AV.str (t_21 ++ s_20)) = (AV.str s_22)) ∧
 (∀ t_23 : (List UInt8), (∀ e_24 : Int, ((Lf ((tagSM s_22 s_5) = (Prod.mk t_23 e_24))) →
(bif (eqB t_23 s_19) then (bif (e_24 == (0 : Int)) then ((∃ x_25 : Nat, ((Lf (x_25 ≤ (16 : Nat))) ∧
 ((((AV.str s_16) :: []) = ((AV.str s_16) :: [])) ∧
 ((((AV.str s_19) :: []) = ((AV.str s_19) :: [])) ∧
 (((AV.str t_6) = (AV.str t_6)) ∧
 (((AV.str t_12) = (AV.str t_12)) ∧
 (((AV.str t_7) = (AV.str t_7)) ∧
 (((AV.int .i64 (0 : Int)) = (AV.int .i64 (Nat.cast (((leNM (List.take x_25 t_12)) + (leNM (List.take x_25 (List.drop (16 : Nat) t_6)))) / ((2 : Nat) ^ ((8 : Nat) * x_25))) : Int))) ∧
 (((AV.int .i64 (0 : Int)) = (AV.int .i64 (Nat.cast x_25 : Int))) ∧
 True))))))))) ∧
 (∀ x_25 : Nat, ((Lf (x_25 ≤ (16 : Nat))) →
(bif (decide ((Nat.cast x_25 : Int) < (16 : Int))) then (∃ n_26 : Int, (((AV.int .i64 (Nat.cast (((leNM (List.take x_25 t_12)) + (leNM (List.take x_25 (List.drop (16 : Nat) t_6)))) / ((2 : Nat) ^ ((8 : Nat) * x_25))) : Int)) = (AV.int .i64 n_26)) ∧
 (bif (Nat.blt (Int.toNat (Nat.cast x_25 : Int)) (List.length t_12)) then (∃ n_27 : Int, (((AV.int .u8 (Nat.cast (UInt8.toNat (List.getD t_12 (Int.toNat (Nat.cast x_25 : Int)) (UInt8.ofNat (0 : Nat)))) : Int)) = (AV.int .u8 n_27)) ∧
 (∃ n_28 : Int, (((AV.int .i64 (IntKind.wrap .i64 n_27)) = (AV.int .i64 n_28)) ∧
 (∃ n_29 : Int, (((AV.int .i64 (IntKind.wrap .i64 ((16 : Int) + (Nat.cast x_25 : Int)))) = (AV.int .i64 n_29)) ∧
 (bif ((decide ((0 : Int) ≤ n_29)) && (Nat.blt (Int.toNat n_29) (List.length t_6))) then (∃ n_30 : Int, (((AV.int .u8 (Nat.cast (UInt8.toNat (List.getD t_6 (Int.toNat n_29) (UInt8.ofNat (0 : Nat)))) : Int)) = (AV.int .u8 n_30)) ∧
 (∃ n_31 : Int, (((AV.int .i64 (IntKind.wrap .i64 n_30)) = (AV.int .i64 n_31)) ∧
 (∃ n_32 : Int, (((AV.int .i64 (IntKind.wrap .i64 (n_28 + n_31))) = (AV.int .i64 n_32)) ∧
 (∃ n_33 : Int, (((AV.int .i64 (IntKind.wrap .i64 (n_26 + n_32))) = (AV.int .i64 n_33)) ∧
 (∃ n_34 : Int, (((AV.int .u8 (IntKind.wrap .u8 n_33)) = (AV.int .u8 n_34)) ∧
 (bif (Nat.blt (Int.toNat (Nat.cast x_25 : Int)) (List.length t_7)) then (∃ n_35 : Int, (((AV.int .u8 (Nat.cast (UInt8.toNat (List.getD t_7 (Int.toNat (Nat.cast x_25 : Int)) (UInt8.ofNat (0 : Nat)))) : Int)) = (AV.int .u8 n_35)) ∧
 (bif (n_34 != n_35) then (Q (Out.ret (AV.bool false)) [] (Gh.mk (0 : Nat) (0 : Nat) []))
else (∃ n_36 : Int, (((AV.int .i64 (Int.fdiv n_33 (256 : Int))) = (AV.int .i64 n_36)) ∧
 (∃ n_37 : Int, (((AV.int .i64 (IntKind.wrap .i64 ((Nat.cast x_25 : Int) + (1 : Int)))) = (AV.int .i64 n_37)) ∧
 ((True ∧
 ((0 : Nat) = (0 : Nat))) ∧
 (∃ y_38 : Nat, ((Lf (y_38 ≤ (16 : Nat))) ∧
 ((((16 : Nat) - y_38) < ((16 : Nat) - x_25)) ∧
 ((((AV.str s_16) :: []) = ((AV.str s_16) :: [])) ∧
 ((((AV.str s_19) :: []) = ((AV.str s_19) :: [])) ∧
 (((AV.str t_6) = (AV.str t_6)) ∧
 (((AV.str t_12) = (AV.str t_12)) ∧
 (((AV.str t_7) = (AV.str t_7)) ∧
 (((AV.int .i64 n_36) = (AV.int .i64 (Nat.cast (((leNM (List.take y_38 t_12)) + (leNM (List.take y_38 (List.drop (16 : Nat) t_6)))) / ((2 : Nat) ^ ((8 : Nat) * y_38))) : Int))) ∧
 (((AV.int .i64 n_37) = (AV.int .i64 (Nat.cast y_38 : Int))) ∧
 True))))))))))))))))))
else False)))))))))))
else False)))))))
else False)))
else (Q (Out.ret (AV.bool true)) [] (Gh.mk (0 : Nat) (0 : Nat) []))))))
else (Q (Out.ret (AV.bool false)) [] (Gh.mk (0 : Nat) (0 : Nat) [])))
else (Q (Out.ret (AV.bool false)) [] (Gh.mk (0 : Nat) (0 : Nat) []))))))))
else False))))))
else False)))
else False)
else (Q (Out.ret (AV.bool false)) [] (Gh.mk (0 : Nat) (0 : Nat) [])))
else (Q (Out.ret (AV.bool false)) [] (Gh.mk (0 : Nat) (0 : Nat) []))))))))
else False))))))))))))))
else False))))))
else False)))))))))
else False)))))))
else False)))))) := by kernel_rfl

theorem sums_run (key s : List UInt8) (Q : Out → List Blk → Gh → Prop) (hq : Q (.ret (.bool true)) [] {}) : ∃ hv hb, goal_7 hv hb key s Q := by
  obtain ⟨hv, hb', e⟩ : ∃ hv hb, goal_7 hv hb key s Q = _ := ⟨_, _, vc_7 key s Q⟩
  refine ⟨hv, hb', e.mpr ?_⟩
  clear e
  have i1 : imin (key.length : Int) 32 = ((min key.length 32 : Nat) : Int) := imin_nat _ 32
  have i2 : imin (s.length : Int) 200 = ((min s.length 200 : Nat) : Int) := imin_nat _ 200
  refine ⟨_, rfl, _, rfl, ckI ?_ ⟨_, rfl, _, rfl, _, rfl, ckI ?_ ⟨_, rfl, ⟨by decide, by decide, ?_⟩, ?_⟩⟩⟩
  · rw [i1]; simp; omega
  · rw [i2]; simp; omega
  · rw [i1]; simp; omega
  rw [i2]
  generalize hs2 : List.take _ (List.drop 0 s) = s2
  have l2 : s2.length ≤ 200 := by rw [← hs2, List.length_take]; omega
  rintro k ⟨hk⟩
  have lk : k.length = 32 := by rw [hk, sized_len]; rfl
  clear hk hs2 i1 i2
  rintro t e ⟨h7⟩
  rw [tagS32 lk (by omega)] at h7
  obtain ⟨rfl, rfl⟩ := Prod.mk.inj h7
  refine ckI (by rw [lk]; rfl) ⟨_, rfl, ⟨by decide, by decide, by decide⟩, ?_⟩
  rintro z ⟨hz⟩
  have hz' : z = List.replicate 16 0 := hz
  subst hz'
  have l9 : (List.take 16 (List.drop 0 k)).length = 16 := by simp; omega
  refine ckI (by rw [l9]; rfl) ⟨_, rfl, ?_⟩
  rintro u e ⟨h12⟩
  rw [tagS32 (by rw [List.length_append, l9]; rfl) (by omega)] at h12
  obtain ⟨rfl, rfl⟩ := Prod.mk.inj h12
  rw [List.drop_zero] at *
  have lt1 := tag_len k s2
  have lt2 := tag_len (List.take 16 k ++ List.replicate 16 0) s2
  have hsp := tag_split (s := s2) lk
  generalize tagM (List.take 16 k ++ List.replicate 16 0) s2 = u at *
  have e16 : List.take (k.length - 16) (List.drop 16 k) = List.drop 16 k := List.take_of_length_le (by simp)
  have l16 : (List.drop 16 k).length = 16 := by rw [List.length_drop, lk]
  have cb : (Nat.ble 16 k.length && Nat.ble k.length k.length) = true := by rw [lk]; rfl
  refine splitNE (fun h => absurd rfl h) (fun _ => splitNE (fun h => absurd rfl h) (fun _ => ⟨_, rfl, splitNE (fun h => absurd (by rw [lt1]; rfl) h) (fun _ => ⟨_, rfl, splitNE (fun h => absurd (by rw [lt2]; rfl) h) (fun _ => ckI cb ⟨_, rfl, ?_⟩)⟩)⟩))
  rintro v e ⟨h17⟩
  rw [tagS32 lk (by decide), tag_empty lk] at h17
  obtain ⟨rfl, rfl⟩ := Prod.mk.inj h17
  rw [e16]
  have eqs : ∀ l : List UInt8, eqB l l = true := fun l => by rw [eqB_iff]; simp
  rw [eqs, cond_true]
  refine splitE (fun _ => ckI cb ⟨_, rfl, ckI cb ⟨_, rfl, ⟨by decide, by decide, by decide⟩, ?_⟩⟩) (fun h => absurd rfl h)
  rintro z ⟨hz⟩
  have hz' : z = List.replicate 16 0 := hz
  subst hz'
  refine ckI (by rw [l16]; rfl) ⟨_, rfl, ?_⟩
  rintro v e ⟨h23⟩
  rw [tagS32 (by rw [List.length_append, l16]; rfl) (by omega), tag_zero l16] at h23
  obtain ⟨rfl, rfl⟩ := Prod.mk.inj h23
  rw [eqs, cond_true]
  refine splitE (fun _ => ⟨⟨0, ⟨by omega⟩, rfl, rfl, rfl, rfl, rfl, by simp [leNM], rfl, trivial⟩, ?_⟩) (fun h => absurd rfl h)
  rintro i ⟨hi⟩
  refine splitD (fun hlt => ?_) (fun _ => hq)
  have hi' : i < 16 := by omega
  obtain ⟨p1, p2⟩ := sum_step (a := u) (b := List.drop 16 k) (i := i) (by omega) (by omega)
  have hu := (u.getD i 0).toNat_lt
  have hk := ((List.drop 16 k).getD i 0).toNat_lt
  have hkd : (List.drop 16 k).getD i 0 = k.getD (16 + i) 0 := by simp [List.getD_eq_getElem?_getD]
  have hti : ((tagM k s2).getD i 0).toNat = (leNM u + leNM (List.drop 16 k)) / 2 ^ (8 * i) % 256 := by
    rw [hsp, leB_get _ _ _ hi', UInt8.toNat_ofNat']
    omega
  have hc : (leNM (List.take i u) + leNM (List.take i (List.drop 16 k))) / 2 ^ (8 * i) ≤ 1 := by
    have b1 := leN_lt (List.take i u)
    have b2 := leN_lt (List.take i (List.drop 16 k))
    rw [List.length_take, Nat.min_eq_left (by omega)] at b1 b2
    have : (leNM (List.take i u) + leNM (List.take i (List.drop 16 k))) / 2 ^ (8 * i) < 2 := (Nat.div_lt_iff_lt_mul (Nat.two_pow_pos _)).2 (by omega)
    omega
  have w64 : ∀ x : Int, 0 ≤ x → x ≤ 100000 → IntKind.wrap .i64 x = x := fun x h1 h2 => by rw [IntKind.wrap_i64]; omega
  rw [hkd] at hk p1 p2
  generalize hcv : (leNM (List.take i u) + leNM (List.take i (List.drop 16 k))) / 2 ^ (8 * i) = c at *
  refine ⟨_, rfl, ckI (by rw [Int.toNat_natCast]; simp; omega) ⟨_, rfl, _, rfl, _, rfl, ?_⟩⟩
  rw [w64 (16 + (i : Int)) (by omega) (by omega), show ((16 : Int) + (i : Int)).toNat = 16 + i by omega, show UInt8.ofNat 0 = 0 from rfl, Int.toNat_natCast]
  refine ckI (by simp; omega) ⟨_, rfl, _, rfl, _, rfl, _, rfl, _, rfl, ckI (by simp; omega) ⟨_, rfl, ?_⟩⟩
  rw [hti]
  generalize (u.getD i 0).toNat = x at *
  generalize (k.getD (16 + i) 0).toNat = y at *
  rw [w64 (x : Int) (by omega) (by omega), w64 (y : Int) (by omega) (by omega), w64 ((x : Int) + (y : Int)) (by omega) (by omega), w64 ((c : Int) + ((x : Int) + (y : Int))) (by omega) (by omega), show (c : Int) + ((x : Int) + (y : Int)) = ((c + (x + y) : Nat) : Int) by omega, u8_wrap, p1]
  refine splitNE (fun h => absurd rfl h) (fun _ => ⟨_, rfl, wrapI (by omega) (by omega) ⟨⟨trivial, rfl⟩, i + 1, ⟨by omega⟩, by omega, rfl, rfl, rfl, rfl, rfl, ?_, rfl, trivial⟩⟩)
  rw [fdivN _ 256 256 rfl, p2]
end Go.Proofs.Ytlfbaakndklncaa
