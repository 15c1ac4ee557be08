/-
  Chapter 3: Block.
-/
import Derived.Test.YtiholnebhmjbjaaM17SB
set_option linter.unusedSimpArgs false
set_option linter.unusedVariables false
namespace Go.Proofs.Ytiholnebhmjbjaa
open Go.RowKit
set_option maxRecDepth 1000000

def cBlk : Con
  | [.agg cs, .int .i64 c], H, K => ∃ w : W16, Lf (cs = w.cells) ∧ ∀ l : List Nat, Lf (l = blkM w c) → K (.ret (.agg (cells8NM l))) H
  | _, _, _ => False
theorem flat_8N (l : List Nat) : oldL 0 (cells8NM l) = true ∧ noYL (cells8NM l) = true := by
  induction l with
  | nil => exact ⟨rfl, rfl⟩
  | cons x l ih => exact ⟨by simpa [cells8NM, oldL, old] using ih.1, by simpa [cells8NM, noYL, noY] using ih.2⟩
theorem blk_ok : ValidF Try.prog gl0 91 cBlk := by
  refine valid_flat (enters_of (by kernel_rfl)) gl0_noY fun args H Q hc => ?_
  unfold cBlk at hc
  split at hc
  · rename_i cs c
    obtain ⟨w, ⟨rfl⟩, hq⟩ := hc
    obtain ⟨hv, hb', h⟩ := blk_run w c (Q := fun o H' _ => H' = [] ∧ (∃ v, o = .ret v ∧ old 0 v = true ∧ noY v = true) ∧ Q o H) ⟨rfl, ⟨_, rfl, by simpa [old] using (flat_8N _).1, by simpa [noY] using (flat_8N _).2⟩, hq _ ⟨rfl⟩⟩
    exact ⟨rfl, rfl, _, 1000, envFor04 sm0_ok _ _ _, rfl, h⟩
  · exact hc.elim
def smC : SM := lookS [(91, cBlk)]
theorem smC_ok : ∀ f g, smC f = some g → ValidF Try.prog gl0 f g := lookS_ok _ (by simp only [List.mem_cons, List.not_mem_nil, or_false, forall_eq]; exact blk_ok)
/-- the word of four octets -/
def bytM (s : List UInt8) (i : Nat) : Nat := (s.getD i 0).toNat
def numM (s : List UInt8) (m : Nat) : Nat := ((bytM s m ||| bytM s (m + 1) * 256) ||| bytM s (m + 2) * 65536) ||| bytM s (m + 3) * 16777216
theorem bytM_lt (s : List UInt8) (i : Nat) : bytM s i < 256 := (s.getD i 0).toNat_lt
theorem byt_take {s : List UInt8} {m i k : Nat} (h : k = s.length - m) : (UInt8.toNat (List.getD (List.take k (List.drop m s)) i (UInt8.ofNat 0))) = bytM s (m + i) := by
  subst h
  have e : List.take (s.length - m) (List.drop m s) = List.drop m s := List.take_of_length_le (by simp)
  rw [e, bytM, List.getD_eq_getElem?_getD, List.getElem?_drop, ← List.getD_eq_getElem?_getD]
  rfl
theorem mod32u {x : Nat} (h : x < 4294967296) : IntKind.wrap .u32 (x : Int) = (x : Int) := by
  rw [u32_wrap, Nat.mod_eq_of_lt h]
theorem mulw (x : Nat) (M : Int) (n : Nat) (hM : M = (n : Int)) (h : x * n < 4294967296) : IntKind.wrap .u32 ((x : Int) * M) = ((x * n : Nat) : Int) := by
  subst hM
  rw [← Int.natCast_mul, mod32u h]
theorem orw (x y : Nat) (hx : x < 4294967296) (hy : y < 4294967296) : IntKind.wrap .u32 (((((x : Int) % 4294967296).toNat ||| ((y : Int) % 4294967296).toNat : Nat)) : Int) = ((x ||| y : Nat) : Int) := by
  rw [mod32, mod32, bits32 hx, bits32 hy, mod32u (Nat.or_lt_two_pow (n := 32) hx hy)]
theorem numI {cd : Bool} {s : List UInt8} {m : Nat} (hcd : cd = true) (hm : m + 4 ≤ s.length) {K : Int → Prop} (hk : K ((numM s m : Nat) : Int)) :
 (bif cd then (∃ s_5 : (List UInt8), (((AV.str (List.take ((List.length s) - m) (List.drop m s))) = (AV.str s_5)) ∧
 (bif (Nat.blt (0 : Nat) (List.length s_5)) then (∃ n_6 : Int, (((AV.int .u8 (Nat.cast (UInt8.toNat (List.getD s_5 (0 : Nat) (UInt8.ofNat (0 : Nat)))) : Int)) = (AV.int .u8 n_6)) ∧
 (∃ n_7 : Int, (((AV.int .u32 (IntKind.wrap .u32 n_6)) = (AV.int .u32 n_7)) ∧
 (bif (Nat.blt (1 : Nat) (List.length s_5)) then (∃ n_8 : Int, (((AV.int .u8 (Nat.cast (UInt8.toNat (List.getD s_5 (1 : Nat) (UInt8.ofNat (0 : Nat)))) : Int)) = (AV.int .u8 n_8)) ∧
 (∃ n_9 : Int, (((AV.int .u32 (IntKind.wrap .u32 n_8)) = (AV.int .u32 n_9)) ∧
 (∃ n_10 : Int, (((AV.int .u32 (IntKind.wrap .u32 (n_9 * (256 : Int)))) = (AV.int .u32 n_10)) ∧
 (∃ n_11 : Int, (((AV.int .u32 (IntKind.wrap .u32 (Nat.cast ((Int.toNat (n_7 % (4294967296 : Int))) ||| (Int.toNat (n_10 % (4294967296 : Int)))) : Int))) = (AV.int .u32 n_11)) ∧
 (bif (Nat.blt (2 : Nat) (List.length s_5)) then (∃ n_12 : Int, (((AV.int .u8 (Nat.cast (UInt8.toNat (List.getD s_5 (2 : Nat) (UInt8.ofNat (0 : Nat)))) : Int)) = (AV.int .u8 n_12)) ∧
 (∃ n_13 : Int, (((AV.int .u32 (IntKind.wrap .u32 n_12)) = (AV.int .u32 n_13)) ∧
 (∃ n_14 : Int, (((AV.int .u32 (IntKind.wrap .u32 (n_13 * (65536 : Int)))) = (AV.int .u32 n_14)) ∧
 (∃ n_15 : Int, (((AV.int .u32 (IntKind.wrap .u32 (Nat.cast ((Int.toNat (n_11 % (4294967296 : Int))) ||| (Int.toNat (n_14 % (4294967296 : Int)))) : Int))) = (AV.int .u32 n_15)) ∧
 (bif (Nat.blt (3 : Nat) (List.length s_5)) then (∃ n_16 : Int, (((AV.int .u8 (Nat.cast (UInt8.toNat (List.getD s_5 (3 : Nat) (UInt8.ofNat (0 : Nat)))) : Int)) = (AV.int .u8 n_16)) ∧
 (∃ n_17 : Int, (((AV.int .u32 (IntKind.wrap .u32 n_16)) = (AV.int .u32 n_17)) ∧
 (∃ n_18 : Int, (((AV.int .u32 (IntKind.wrap .u32 (n_17 * (16777216 : Int)))) = (AV.int .u32 n_18)) ∧
 (∃ n_19 : Int, (((AV.int .u32 (IntKind.wrap .u32 (Nat.cast ((Int.toNat (n_15 % (4294967296 : Int))) ||| (Int.toNat (n_18 % (4294967296 : Int)))) : Int))) = (AV.int .u32 n_19)) ∧ K n_19)))))))) else False))))))))) else False))))))))) else False))))) else False))) else False) := by
  subst hcd
  have b0 := bytM_lt s (m + 0)
  have b1 := bytM_lt s (m + 1)
  have b2 := bytM_lt s (m + 2)
  have b3 := bytM_lt s (m + 3)
  have o1 : (bytM s (m + 0) ||| bytM s (m + 1) * 256) < 4294967296 := Nat.or_lt_two_pow (n := 32) (by omega) (by omega)
  have o2 : ((bytM s (m + 0) ||| bytM s (m + 1) * 256) ||| bytM s (m + 2) * 65536) < 4294967296 := Nat.or_lt_two_pow (n := 32) o1 (by omega)
  have hl : ∀ i, i < 4 → Nat.blt i (List.length (List.take (s.length - m) (List.drop m s))) = true := fun i hi => blt_t (by simp; omega)
  refine ⟨_, rfl, ckI (hl 0 (by omega)) ⟨_, rfl, _, by rw [byt_take rfl, mod32u (by omega)], ckI (hl 1 (by omega)) ⟨_, rfl, _, by rw [byt_take rfl, mod32u (by omega)], _, by rw [mulw _ 256 256 rfl (by omega)], _, by rw [orw _ _ (by omega) (by omega)], ckI (hl 2 (by omega)) ⟨_, rfl, _, by rw [byt_take rfl, mod32u (by omega)], _, by rw [mulw _ 65536 65536 rfl (by omega)], _, by rw [orw _ _ o1 (by omega)], ckI (hl 3 (by omega)) ⟨_, rfl, _, by rw [byt_take rfl, mod32u (by omega)], _, by rw [mulw _ 16777216 16777216 rfl (by omega)], _, by rw [orw _ _ o2 (by omega)]; rfl, hk⟩⟩⟩⟩⟩
noncomputable def goal_24 (hv : Nat → Option Pa) (hb : Nat → Option Bool) (key nonce : List UInt8) (c : Int) (Q : Out → List Blk → Gh → Prop) : Prop :=
  callx (e04 smC (fun _ => none) hv hb) (wpx (e04 smC (fun _ => none) hv hb) 1000) 80 [.str key, .str nonce, .int .i64 c] [] {} Q
theorem vc_24 (key : List UInt8) (nonce : List UInt8) (c : Int) (Q : Out → List Blk → Gh → Prop) : goal_24 (lookV [(331784, .int .i64), (331788, .int .i64), (335881, .str), (335882, .str), (335884, .str), (335892, .str), (376836, .int .u8), (376837, .int .u32), (376839, .int .u8), (376840, .int .u32), (376841, .int .u32), (376842, .int .u32), (376844, .int .u8), (376845, .int .u32), (376846, .int .u32), (376847, .int .u32), (376849, .int .u8), (376850, .int .u32), (376851, .int .u32), (376852, .int .u32), (327700, .str)]) (lookB []) key nonce c Q = (
(∃ n_0 : Int, (((AV.int .i64 (Nat.cast (List.length key) : Int)) = (AV.int .i64 n_0)) ∧
 (bif (n_0 == (32 : Int)) then (∃ n_1 : Int, (((AV.int .i64 (Nat.cast (List.length nonce) : Int)) = (AV.int .i64 n_1)) ∧
 (bif (n_1 == (12 : Int)) then (bif (decide (c ≥ (0 : Int))) then (bif (decide (c < (4294967296 : Int))) then (bif ((decide (((16 : Nat) + (List.length key)) ≤ (9223372036854775807 : Nat))) && true) then (∃ s_2 : (List UInt8), (((AV.str (((UInt8.ofNat (101 : Nat)) :: ((UInt8.ofNat (120 : Nat)) :: ((UInt8.ofNat (112 : Nat)) :: ((UInt8.ofNat (97 : Nat)) :: ((UInt8.ofNat (110 : Nat)) :: ((UInt8.ofNat (100 : Nat)) :: ((UInt8.ofNat (32 : Nat)) :: ((UInt8.ofNat (51 : Nat)) :: ((UInt8.ofNat (50 : Nat)) :: ((UInt8.ofNat (45 : Nat)) :: ((UInt8.ofNat (98 : Nat)) :: ((UInt8.ofNat (121 : Nat)) :: ((UInt8.ofNat (116 : Nat)) :: ((UInt8.ofNat (101 : Nat)) :: ((UInt8.ofNat (32 : Nat)) :: ((UInt8.ofNat (107 : Nat)) :: [])))))))))))))))) ++ key)) = (AV.str s_2)) ∧
 (bif ((decide (((List.length s_2) + (4 : Nat)) ≤ (9223372036854775807 : Nat))) && true) then (∃ s_3 : (List UInt8), (((AV.str (s_2 ++ ((UInt8.ofNat (0 : Nat)) :: ((UInt8.ofNat (0 : Nat)) :: ((UInt8.ofNat (0 : Nat)) :: ((UInt8.ofNat (0 : Nat)) :: [])))))) = (AV.str s_3)) ∧
 (bif ((decide (((List.length s_3) + (List.length nonce)) ≤ (9223372036854775807 : Nat))) && true) then (∃ s_4 : (List UInt8), (((AV.str (s_3 ++ nonce)) = (AV.str s_4)) ∧
 (bif (Nat.ble (List.length s_4) (List.length s_4)) then (∃ s_5 : (List UInt8), (((AV.str (List.take ((List.length s_4) - (0 : Nat)) (List.drop (0 : Nat) s_4))) = (AV.str s_5)) ∧
 (bif (Nat.blt (0 : Nat) (List.length s_5)) then (∃ n_6 : Int, (((AV.int .u8 (Nat.cast (UInt8.toNat (List.getD s_5 (0 : Nat) (UInt8.ofNat (0 : Nat)))) : Int)) = (AV.int .u8 n_6)) ∧
 (∃ n_7 : Int, (((AV.int .u32 (IntKind.wrap .u32 n_6)) = (AV.int .u32 n_7)) ∧
 (bif (Nat.blt (1 : Nat) (List.length s_5)) then (∃ n_8 : Int, (((AV.int .u8 (Nat.cast (UInt8.toNat (List.getD s_5 (1 : Nat) (UInt8.ofNat (0 : Nat)))) : Int)) = (AV.int .u8 n_8)) ∧
 (∃ n_9 : Int, (((AV.int .u32 (IntKind.wrap .u32 n_8)) = (AV.int .u32 n_9)) ∧
 (∃ n_10 : Int, (((AV.int .u32 (IntKind.wrap .u32 (n_9 * (256 : Int)))) = (AV.int .u32 n_10)) ∧
 (∃ n_11 : Int, (((AV.int .u32 (IntKind.wrap .u32 (Nat.cast ((Int.toNat (n_7 % (4294967296 : Int))) ||| (Int.toNat (n_10 % (4294967296 : Int)))) : Int))) = (AV.int .u32 n_11)) ∧
 (bif (Nat.blt (2 : Nat) (List.length s_5)) then (∃ n_12 : Int, (((AV.int .u8 (Nat.cast (UInt8.toNat (List.getD s_5 (2 : Nat) (UInt8.ofNat (0 : Nat)))) : Int)) = (AV.int .u8 n_12)) ∧
 (∃ n_13 : Int, (((AV.int .u32 (IntKind.wrap .u32 n_12)) = (AV.int .u32 n_13)) ∧
 (∃ n_14 : Int, (((AV.int .u32 (IntKind.wrap .u32 (n_13 * (65536 : Int)))) = (AV.int .u32 n_14)) ∧
 (∃ n_15 : Int, (((AV.int .u32 (IntKind.wrap .u32 (Nat.cast ((Int.toNat (n_11 % (4294967296 : Int))) ||| (Int.toNat (n_14 % (4294967296 : Int)))) : Int))) = (AV.int .u32 n_15)) ∧
 (bif (Nat.blt (3 : Nat) (List.length s_5)) then (∃ n_16 : Int, (((AV.int .u8 (Nat.cast (UInt8.toNat (List.getD s_5 (3 : Nat) (UInt8.ofNat (0 : Nat)))) : Int)) = (AV.int .u8 n_16)) ∧
 (∃ n_17 : Int, (((AV.int .u32 (IntKind.wrap .u32 n_16)) = (AV.int .u32 n_17)) ∧
 (∃ n_18 : Int, (((AV.int .u32 (IntKind.wrap .u32 (n_17 * (16777216 : Int)))) = (AV.int .u32 n_18)) ∧
 (∃ n_19 : Int, (((AV.int .u32 (IntKind.wrap .u32 (Nat.cast ((Int.toNat (n_15 % (4294967296 : Int))) ||| (Int.toNat (n_18 % (4294967296 : Int)))) : Int))) = (AV.int .u32 n_19)) ∧
 (bif ((Nat.ble (4 : Nat) (List.length s_4)) && (Nat.ble (List.length s_4) (List.length s_4))) then (∃ s_20 : (List UInt8), (((AV.str (List.take ((List.length s_4) - (4 : Nat)) (List.drop (4 : Nat) s_4))) = (AV.str s_20)) ∧
 (bif (Nat.blt (0 : Nat) (List.length s_20)) then (∃ n_21 : Int, (((AV.int .u8 (Nat.cast (UInt8.toNat (List.getD s_20 (0 : Nat) (UInt8.ofNat (0 : Nat)))) : Int)) = (AV.int .u8 n_21)) ∧
 (∃ n_22 : Int, (((AV.int .u32 (IntKind.wrap .u32 n_21)) = (AV.int .u32 n_22)) ∧
 (bif (Nat.blt (1 : Nat) (List.length s_20)) then (∃ n_23 : Int, (((AV.int .u8 (Nat.cast (UInt8.toNat (List.getD s_20 (1 : Nat) (UInt8.ofNat (0 : Nat)))) : Int)) = (AV.int .u8 n_23)) ∧
 (∃ n_24 : Int, (((AV.int .u32 (IntKind.wrap .u32 n_23)) = (AV.int .u32 n_24)) ∧
 (∃ n_25 : Int, (((AV.int .u32 (IntKind.wrap .u32 (n_24 * (256 : Int)))) = (AV.int .u32 n_25)) ∧
 (∃ n_26 : Int, (((AV.int .u32 (IntKind.wrap .u32 (Nat.cast ((Int.toNat (n_22 % (4294967296 : Int))) ||| (Int.toNat (n_25 % (4294967296 : Int)))) : Int))) = (AV.int .u32 n_26)) ∧
 (bif (Nat.blt (2 : Nat) (List.length s_20)) then (∃ n_27 : Int, (((AV.int .u8 (Nat.cast (UInt8.toNat (List.getD s_20 (2 : Nat) (UInt8.ofNat (0 : Nat)))) : Int)) = (AV.int .u8 n_27)) ∧
 (∃ n_28 : Int, (((AV.int .u32 (IntKind.wrap .u32 n_27)) = (AV.int .u32 n_28)) ∧
 (∃ n_29 : Int, (((AV.int .u32 (IntKind.wrap .u32 (n_28 * (65536 : Int)))) = (AV.int .u32 n_29)) ∧
 (∃ n_30 : Int, (((AV.int .u32 (IntKind.wrap .u32 (Nat.cast ((Int.toNat (n_26 % (4294967296 : Int))) ||| (Int.toNat (n_29 % (4294967296 : Int)))) : Int))) = (AV.int .u32 n_30)) ∧
 (bif (Nat.blt (3 : Nat) (List.length s_20)) then (∃ n_31 : Int, (((AV.int .u8 (Nat.cast (UInt8.toNat (List.getD s_20 (3 : Nat) (UInt8.ofNat (0 : Nat)))) : Int)) = (AV.int .u8 n_31)) ∧
 (∃ n_32 : Int, (((AV.int .u32 (IntKind.wrap .u32 n_31)) = (AV.int .u32 n_32)) ∧
 (∃ n_33 : Int, (((AV.int .u32 (IntKind.wrap .u32 (n_32 * (16777216 : Int)))) = (AV.int .u32 n_33)) ∧
 (∃ n_34 : Int, (((AV.int .u32 (IntKind.wrap .u32 (Nat.cast ((Int.toNat (n_30 % (4294967296 : Int))) ||| (Int.toNat (n_33 % (4294967296 : Int)))) : Int))) = (AV.int .u32 n_34)) ∧
 (bif ((Nat.ble (8 : Nat) (List.length s_4)) && (Nat.ble (List.length s_4) (List.length s_4))) then (∃ s_35 : (List UInt8), (((AV.str (List.take ((List.length s_4) - (8 : Nat)) (List.drop (8 : Nat) s_4))) = (AV.str s_35)) ∧
 (bif (Nat.blt (0 : Nat) (List.length s_35)) then (∃ n_36 : Int, (((AV.int .u8 (Nat.cast (UInt8.toNat (List.getD s_35 (0 : Nat) (UInt8.ofNat (0 : Nat)))) : Int)) = (AV.int .u8 n_36)) ∧
 (∃ n_37 : Int, (((AV.int .u32 (IntKind.wrap .u32 n_36)) = (AV.int .u32 n_37)) ∧
 (bif (Nat.blt (1 : Nat) (List.length s_35)) then (∃ n_38 : Int, (((AV.int .u8 (Nat.cast (UInt8.toNat (List.getD s_35 (1 : Nat) (UInt8.ofNat (0 : Nat)))) : Int)) = (AV.int .u8 n_38)) ∧
 (∃ n_39 : Int, (((AV.int .u32 (IntKind.wrap .u32 n_38)) = (AV.int .u32 n_39)) ∧
 (∃ n_40 : Int, (((AV.int .u32 (IntKind.wrap .u32 (n_39 * (256 : Int)))) = (AV.int .u32 n_40)) ∧
 (∃ n_41 : Int, (((AV.int .u32 (IntKind.wrap .u32 (Nat.cast ((Int.toNat (n_37 % (4294967296 : Int))) ||| (Int.toNat (n_40 % (4294967296 : Int)))) : Int))) = (AV.int .u32 n_41)) ∧
 (bif (Nat.blt (2 : Nat) (List.length s_35)) then (∃ n_42 : Int, (((AV.int .u8 (Nat.cast (UInt8.toNat (List.getD s_35 (2 : Nat) (UInt8.ofNat (0 : Nat)))) : Int)) = (AV.int .u8 n_42)) ∧
 (∃ n_43 : Int, (((AV.int .u32 (IntKind.wrap .u32 n_42)) = (AV.int .u32 n_43)) ∧
 (∃ n_44 : Int, (((AV.int .u32 (IntKind.wrap .u32 (n_43 * (65536 : Int)))) = (AV.int .u32 n_44)) ∧
 (∃ n_45 : Int, (((AV.int .u32 (IntKind.wrap .u32 (Nat.cast ((Int.toNat (n_41 % (4294967296 : Int))) ||| (Int.toNat (n_44 % (4294967296 : Int)))) : Int))) = (AV.int .u32 n_45)) ∧
 (bif (Nat.blt (3 : Nat) (List.length s_35)) then (∃ n_46 : Int, (((AV.int .u8 (Nat.cast (UInt8.toNat (List.getD s_35 (3 : Nat) (UInt8.ofNat (0 : Nat)))) : Int)) = (AV.int .u8 n_46)) ∧
 (∃ n_47 : Int, (((AV.int .u32 (IntKind.wrap .u32 n_46)) = (AV.int .u32 n_47)) ∧
 (∃ n_48 : Int, (((AV.int .u32 (IntKind.wrap .u32 (n_47 * (16777216 : Int)))) = (AV.int .u32 n_48)) ∧
 (∃ n_49 : Int, (((AV.int .u32 (IntKind.wrap .u32 (Nat.cast ((Int.toNat (n_45 % (4294967296 : Int))) ||| (Int.toNat (n_48 % (4294967296 : Int)))) : Int))) = (AV.int .u32 n_49)) ∧
 (bif ((Nat.ble (12 : Nat) (List.length s_4)) && (Nat.ble (List.length s_4) (List.length s_4))) then (∃ s_50 : (List UInt8), (((AV.str (List.take ((List.length s_4) - (12 : Nat)) (List.drop (12 : Nat) s_4))) = (AV.str s_50)) ∧
 (bif (Nat.blt (0 : Nat) (List.length s_50)) then (∃ n_51 : Int, (((AV.int .u8 (Nat.cast (UInt8.toNat (List.getD s_50 (0 : Nat) (UInt8.ofNat (0 : Nat)))) : Int)) = (AV.int .u8 n_51)) ∧
 (∃ n_52 : Int, (((AV.int .u32 (IntKind.wrap .u32 n_51)) = (AV.int .u32 n_52)) ∧
 (bif (Nat.blt (1 : Nat) (List.length s_50)) then (∃ n_53 : Int, (((AV.int .u8 (Nat.cast (UInt8.toNat (List.getD s_50 (1 : Nat) (UInt8.ofNat (0 : Nat)))) : Int)) = (AV.int .u8 n_53)) ∧
 (∃ n_54 : Int, (((AV.int .u32 (IntKind.wrap .u32 n_53)) = (AV.int .u32 n_54)) ∧
 (∃ n_55 : Int, (((AV.int .u32 (IntKind.wrap .u32 (n_54 * (256 : Int)))) = (AV.int .u32 n_55)) ∧
 (∃ n_56 : Int, (((AV.int .u32 (IntKind.wrap .u32 (Nat.cast ((Int.toNat (n_52 % (4294967296 : Int))) ||| (Int.toNat (n_55 % (4294967296 : Int)))) : Int))) = (AV.int .u32 n_56)) ∧
 (bif (Nat.blt (2 : Nat) (List.length s_50)) then (∃ n_57 : Int, (((AV.int .u8 (Nat.cast (UInt8.toNat (List.getD s_50 (2 : Nat) (UInt8.ofNat (0 : Nat)))) : Int)) = (AV.int .u8 n_57)) ∧
 (∃ n_58 : Int, (((AV.int .u32 (IntKind.wrap .u32 n_57)) = (AV.int .u32 n_58)) ∧
 (∃ n_59 : Int, (((AV.int .u32 (IntKind.wrap .u32 (n_58 * (65536 : Int)))) = (AV.int .u32 n_59)) ∧
 (∃ n_60 : Int, (((AV.int .u32 (IntKind.wrap .u32 (Nat.cast ((Int.toNat (n_56 % (4294967296 : Int))) ||| (Int.toNat (n_59 % (4294967296 : Int)))) : Int))) = (AV.int .u32 n_60)) ∧
 (bif (Nat.blt (3 : Nat) (List.length s_50)) then (∃ n_61 : Int, (((AV.int .u8 (Nat.cast (UInt8.toNat (List.getD s_50 (3 : Nat) (UInt8.ofNat (0 : Nat)))) : Int)) = (AV.int .u8 n_61)) ∧
 (∃ n_62 : Int, (((AV.int .u32 (IntKind.wrap .u32 n_61)) = (AV.int .u32 n_62)) ∧
 (∃ n_63 : Int, (((AV.int .u32 (IntKind.wrap .u32 (n_62 * (16777216 : Int)))) = (AV.int .u32 n_63)) ∧
 (∃ n_64 : Int, (((AV.int .u32 (IntKind.wrap .u32 (Nat.cast ((Int.toNat (n_60 % (4294967296 : Int))) ||| (Int.toNat (n_63 % (4294967296 : Int)))) : Int))) = (AV.int .u32 n_64)) ∧
 (bif ((Nat.ble (16 : Nat) (List.length s_4)) && (Nat.ble (List.length s_4) (List.length s_4))) then (∃ s_65 : (List UInt8), (((AV.str (List.take ((List.length s_4) - (16 : Nat)) (List.drop (16 : Nat) s_4))) = (AV.str s_65)) ∧
 (bif (Nat.blt (0 : Nat) (List.length s_65)) then (∃ n_66 : Int, (((AV.int .u8 (Nat.cast (UInt8.toNat (List.getD s_65 (0 : Nat) (UInt8.ofNat (0 : Nat)))) : Int)) = (AV.int .u8 n_66)) ∧
 (∃ n_67 : Int, (((AV.int .u32 (IntKind.wrap .u32 n_66)) = (AV.int .u32 n_67)) ∧
 (bif (Nat.blt (1 : Nat) (List.length s_65)) then (∃ n_68 : Int, (((AV.int .u8 (Nat.cast (UInt8.toNat (List.getD s_65 (1 : Nat) (UInt8.ofNat (0 : Nat)))) : Int)) = (AV.int .u8 n_68)) ∧
 (∃ n_69 : Int, (((AV.int .u32 (IntKind.wrap .u32 n_68)) = (AV.int .u32 n_69)) ∧
 (∃ n_70 : Int, (((AV.int .u32 (IntKind.wrap .u32 (n_69 * (256 : Int)))) = (AV.int .u32 n_70)) ∧
 (∃ n_71 : Int, (((AV.int .u32 (IntKind.wrap .u32 (Nat.cast ((Int.toNat (n_67 % (4294967296 : Int))) ||| (Int.toNat (n_70 % (4294967296 : Int)))) : Int))) = (AV.int .u32 n_71)) ∧
 (bif (Nat.blt (2 : Nat) (List.length s_65)) then (∃ n_72 : Int, (((AV.int .u8 (Nat.cast (UInt8.toNat (List.getD s_65 (2 : Nat) (UInt8.ofNat (0 : Nat)))) : Int)) = (AV.int .u8 n_72)) ∧
 (∃ n_73 : Int, (((AV.int .u32 (IntKind.wrap .u32 n_72)) = (AV.int .u32 n_73)) ∧
 (∃ n_74 : Int, (((AV.int .u32 (IntKind.wrap .u32 (n_73 * (65536 : Int)))) = (AV.int .u32 n_74)) ∧
 (∃ n_75 : Int, (((AV.int .u32 (IntKind.wrap .u32 (Nat.cast ((Int.toNat (n_71 % (4294967296 : Int))) ||| (Int.toNat (n_74 % (4294967296 : Int)))) : Int))) = (AV.int .u32 n_75)) ∧
 (bif (Nat.blt (3 : Nat) (List.length s_65)) then (∃ n_76 : Int, (((AV.int .u8 (Nat.cast (UInt8.toNat (List.getD s_65 (3 : Nat) (UInt8.ofNat (0 : Nat)))) : Int)) = (AV.int .u8 n_76)) ∧
 (∃ n_77 : Int, (((AV.int .u32 (IntKind.wrap .u32 n_76)) = (AV.int .u32 n_77)) ∧
 (∃ n_78 : Int, (((AV.int .u32 (IntKind.wrap .u32 (n_77 * (16777216 : Int)))) = (AV.int .u32 n_78)) ∧
 (∃ n_79 : Int, (((AV.int .u32 (IntKind.wrap .u32 (Nat.cast ((Int.toNat (n_75 % (4294967296 : Int))) ||| (Int.toNat (n_78 % (4294967296 : Int)))) : Int))) = (AV.int .u32 n_79)) ∧
 (bif ((Nat.ble (20 : Nat) (List.length s_4)) && (Nat.ble (List.length s_4) (List.length s_4))) then (∃ s_80 : (List UInt8), (((AV.str (List.take ((List.length s_4) - (20 : Nat)) (List.drop (20 : Nat) s_4))) = (AV.str s_80)) ∧
 (bif (Nat.blt (0 : Nat) (List.length s_80)) then (∃ n_81 : Int, (((AV.int .u8 (Nat.cast (UInt8.toNat (List.getD s_80 (0 : Nat) (UInt8.ofNat (0 : Nat)))) : Int)) = (AV.int .u8 n_81)) ∧
 (∃ n_82 : Int, (((AV.int .u32 (IntKind.wrap .u32 n_81)) = (AV.int .u32 n_82)) ∧
 (bif (Nat.blt (1 : Nat) (List.length s_80)) then (∃ n_83 : Int, (((AV.int .u8 (Nat.cast (UInt8.toNat (List.getD s_80 (1 : Nat) (UInt8.ofNat (0 : Nat)))) : Int)) = (AV.int .u8 n_83)) ∧
 (∃ n_84 : Int, (((AV.int .u32 (IntKind.wrap .u32 n_83)) = (AV.int .u32 n_84)) ∧
 (∃ n_85 : Int, (((AV.int .u32 (IntKind.wrap .u32 (n_84 * (256 : Int)))) = (AV.int .u32 n_85)) ∧
 (∃ n_86 : Int, (((AV.int .u32 (IntKind.wrap .u32 (Nat.cast ((Int.toNat (n_82 % (4294967296 : Int))) ||| (Int.toNat (n_85 % (4294967296 : Int)))) : Int))) = (AV.int .u32 n_86)) ∧
 (bif (Nat.blt (2 : Nat) (List.length s_80)) then (∃ n_87 : Int, (((AV.int .u8 (Nat.cast (UInt8.toNat (List.getD s_80 (2 : Nat) (UInt8.ofNat (0 : Nat)))) : Int)) = (AV.int .u8 n_87)) ∧
 (∃ n_88 : Int, (((AV.int .u32 (IntKind.wrap .u32 n_87)) = (AV.int .u32 n_88)) ∧
 (∃ n_89 : Int, (((AV.int .u32 (IntKind.wrap .u32 (n_88 * (65536 : Int)))) = (AV.int .u32 n_89)) ∧
 (∃ n_90 : Int, (((AV.int .u32 (IntKind.wrap .u32 (Nat.cast ((Int.toNat (n_86 % (4294967296 : Int))) ||| (Int.toNat (n_89 % (4294967296 : Int)))) : Int))) = (AV.int .u32 n_90)) ∧
 (bif (Nat.blt (3 : Nat) (List.length s_80)) then (∃ n_91 : Int, (((AV.int .u8 (Nat.cast (UInt8.toNat (List.getD s_80 (3 : Nat) (UInt8.ofNat (0 : Nat)))) : Int)) = (AV.int .u8 n_91)) ∧
 (∃ n_92 : Int, (((AV.int .u32 (IntKind.wrap .u32 n_91)) = (AV.int .u32 n_92)) ∧
 (∃ n_93 : Int, (((AV.int .u32 (IntKind.wrap .u32 (n_92 * (16777216 : Int)))) = (AV.int .u32 n_93)) ∧
 (∃ n_94 : Int, (((AV.int .u32 (IntKind.wrap .u32 (Nat.cast ((Int.toNat (n_90 % (4294967296 : Int))) ||| (Int.toNat (n_93 % (4294967296 : Int)))) : Int))) = (AV.int .u32 n_94)) ∧
 (bif ((Nat.ble (24 : Nat) (List.length s_4)) && (Nat.ble (List.length s_4) (List.length s_4))) then (∃ s_95 : (List UInt8), (((AV.str (List.take ((List.length s_4) - (24 : Nat)) (List.drop (24 : Nat) s_4))) = (AV.str s_95)) ∧
 (bif (Nat.blt (0 : Nat) (List.length s_95)) then (∃ n_96 : Int, (((AV.int .u8 (Nat.cast (UInt8.toNat (List.getD s_95 (0 : Nat) (UInt8.ofNat (0 : Nat)))) : Int)) = (AV.int .u8 n_96)) ∧
 (∃ n_97 : Int, (((AV.int .u32 (IntKind.wrap .u32 n_96)) = (AV.int .u32 n_97)) ∧
 (bif (Nat.blt (1 : Nat) (List.length s_95)) then (∃ n_98 : Int, (((AV.int .u8 (Nat.cast (UInt8.toNat (List.getD s_95 (1 : Nat) (UInt8.ofNat (0 : Nat)))) : Int)) = (AV.int .u8 n_98)) ∧
 (∃ n_99 : Int, (((AV.int .u32 (IntKind.wrap .u32 n_98)) = (AV.int .u32 n_99)) ∧
 (∃ n_100 : Int, (((AV.int .u32 (IntKind.wrap .u32 (n_99 * (256 : Int)))) = (AV.int .u32 n_100)) ∧
 (∃ n_101 : Int, (((AV.int .u32 (IntKind.wrap .u32 (Nat.cast ((Int.toNat (n_97 % (4294967296 : Int))) ||| (Int.toNat (n_100 % (4294967296 : Int)))) : Int))) = (AV.int .u32 n_101)) ∧
 (bif (Nat.blt (2 : Nat) (List.length s_95)) then (∃ n_102 : Int, (((AV.int .u8 (Nat.cast (UInt8.toNat (List.getD s_95 (2 : Nat) (UInt8.ofNat (0 : Nat)))) : Int)) = (AV.int .u8 n_102)) ∧
 (∃ n_103 : Int, (((AV.int .u32 (IntKind.wrap .u32 n_102)) = (AV.int .u32 n_103)) ∧
 (∃ n_104 : Int, (((AV.int .u32 (IntKind.wrap .u32 (n_103 * (65536 : Int)))) = (AV.int .u32 n_104)) ∧
 (∃ n_105 : Int, (((AV.int .u32 (IntKind.wrap .u32 (Nat.cast ((Int.toNat (n_101 % (4294967296 : Int))) ||| (Int.toNat (n_104 % (4294967296 : Int)))) : Int))) = (AV.int .u32 n_105)) ∧
 (bif (Nat.blt (3 : Nat) (List.length s_95)) then (∃ n_106 : Int, (((AV.int .u8 (Nat.cast (UInt8.toNat (List.getD s_95 (3 : Nat) (UInt8.ofNat (0 : Nat)))) : Int)) = (AV.int .u8 n_106)) ∧
 (∃ n_107 : Int, (((AV.int .u32 (IntKind.wrap .u32 n_106)) = (AV.int .u32 n_107)) ∧
 (∃ n_108 : Int, (((AV.int .u32 (IntKind.wrap .u32 (n_107 * (16777216 : Int)))) = (AV.int .u32 n_108)) ∧
 (∃ n_109 : Int, (((AV.int .u32 (IntKind.wrap .u32 (Nat.cast ((Int.toNat (n_105 % (4294967296 : Int))) ||| (Int.toNat (n_108 % (4294967296 : Int)))) : Int))) = (AV.int .u32 n_109)) ∧
 (bif ((Nat.ble (28 : Nat) (List.length s_4)) && (Nat.ble (List.length s_4) (List.length s_4))) then (∃ s_110 : (List UInt8), (((AV.str (List.take ((List.length s_4) - (28 : Nat)) (List.drop (28 : Nat) s_4))) = (AV.str s_110)) ∧
 (bif (Nat.blt (0 : Nat) (List.length s_110)) then (∃ n_111 : Int, (((AV.int .u8 (Nat.cast (UInt8.toNat (List.getD s_110 (0 : Nat) (UInt8.ofNat (0 : Nat)))) : Int)) = (AV.int .u8 n_111)) ∧
 (∃ n_112 : Int, (((AV.int .u32 (IntKind.wrap .u32 n_111)) = (AV.int .u32 n_112)) ∧
 (bif (Nat.blt (1 : Nat) (List.length s_110)) then (∃ n_113 : Int, (((AV.int .u8 (Nat.cast (UInt8.toNat (List.getD s_110 (1 : Nat) (UInt8.ofNat (0 : Nat)))) : Int)) = (AV.int .u8 n_113)) ∧
 (∃ n_114 : Int, (((AV.int .u32 (IntKind.wrap .u32 n_113)) = (AV.int .u32 n_114)) ∧
 (∃ n_115 : Int, (((AV.int .u32 (IntKind.wrap .u32 (n_114 * (256 : Int)))) = (AV.int .u32 n_115)) ∧
 (∃ n_116 : Int, (((AV.int .u32 (IntKind.wrap .u32 (Nat.cast ((Int.toNat (n_112 % (4294967296 : Int))) ||| (Int.toNat (n_115 % (4294967296 : Int)))) : Int))) = (AV.int .u32 n_116)) ∧
 (bif (Nat.blt (2 : Nat) (List.length s_110)) then (∃ n_117 : Int, (((AV.int .u8 (Nat.cast (UInt8.toNat (List.getD s_110 (2 : Nat) (UInt8.ofNat (0 : Nat)))) : Int)) = (AV.int .u8 n_117)) ∧
 (∃ n_118 : Int, (((AV.int .u32 (IntKind.wrap .u32 n_117)) = (AV.int .u32 n_118)) ∧
 (∃ n_119 : Int, (((AV.int .u32 (IntKind.wrap .u32 (n_118 * (65536 : Int)))) = (AV.int .u32 n_119)) ∧
 (∃ n_120 : Int, (((AV.int .u32 (IntKind.wrap .u32 (Nat.cast ((Int.toNat (n_116 % (4294967296 : Int))) ||| (Int.toNat (n_119 % (4294967296 : Int)))) : Int))) = (AV.int .u32 n_120)) ∧
 (bif (Nat.blt (3 : Nat) (List.length s_110)) then (∃ n_121 : Int, (((AV.int .u8 (Nat.cast (UInt8.toNat (List.getD s_110 (3 : Nat) (UInt8.ofNat (0 : Nat)))) : Int)) = (AV.int .u8 n_121)) ∧
 (∃ n_122 : Int, (((AV.int .u32 (IntKind.wrap .u32 n_121)) = (AV.int .u32 n_122)) ∧
 (∃ n_123 : Int, (((AV.int .u32 (IntKind.wrap .u32 (n_122 * (16777216 : Int)))) = (AV.int .u32 n_123)) ∧
 (∃ n_124 : Int, (((AV.int .u32 (IntKind.wrap .u32 (Nat.cast ((Int.toNat (n_120 % (4294967296 : Int))) ||| (Int.toNat (n_123 % (4294967296 : Int)))) : Int))) = (AV.int .u32 n_124)) ∧
 (bif ((Nat.ble (32 : Nat) (List.length s_4)) && (Nat.ble (List.length s_4) (List.length s_4))) then (∃ s_125 : (List UInt8), (((AV.str (List.take ((List.length s_4) - (32 : Nat)) (List.drop (32 : Nat) s_4))) = (AV.str s_125)) ∧
 (bif (Nat.blt (0 : Nat) (List.length s_125)) then (∃ n_126 : Int, (((AV.int .u8 (Nat.cast (UInt8.toNat (List.getD s_125 (0 : Nat) (UInt8.ofNat (0 : Nat)))) : Int)) = (AV.int .u8 n_126)) ∧
 (∃ n_127 : Int, (((AV.int .u32 (IntKind.wrap .u32 n_126)) = (AV.int .u32 n_127)) ∧
 (bif (Nat.blt (1 : Nat) (List.length s_125)) then (∃ n_128 : Int, (((AV.int .u8 (Nat.cast (UInt8.toNat (List.getD s_125 (1 : Nat) (UInt8.ofNat (0 : Nat)))) : Int)) = (AV.int .u8 n_128)) ∧
 (∃ n_129 : Int, (((AV.int .u32 (IntKind.wrap .u32 n_128)) = (AV.int .u32 n_129)) ∧
 (∃ n_130 : Int, (((AV.int .u32 (IntKind.wrap .u32 (n_129 * (256 : Int)))) = (AV.int .u32 n_130)) ∧
 (∃ n_131 : Int, (((AV.int .u32 (IntKind.wrap .u32 (Nat.cast ((Int.toNat (n_127 % (4294967296 : Int))) ||| (Int.toNat (n_130 % (4294967296 : Int)))) : Int))) = (AV.int .u32 n_131)) ∧
 (bif (Nat.blt (2 : Nat) (List.length s_125)) then (∃ n_132 : Int, (((AV.int .u8 (Nat.cast (UInt8.toNat (List.getD s_125 (2 : Nat) (UInt8.ofNat (0 : Nat)))) : Int)) = (AV.int .u8 n_132)) ∧
 (∃ n_133 : Int, (((AV.int .u32 (IntKind.wrap .u32 n_132)) = (AV.int .u32 n_133)) ∧
 (∃ n_134 : Int, (((AV.int .u32 (IntKind.wrap .u32 (n_133 * (65536 : Int)))) = (AV.int .u32 n_134)) ∧
 (∃ n_135 : Int, (((AV.int .u32 (IntKind.wrap .u32 (Nat.cast ((Int.toNat (n_131 % (4294967296 : Int))) ||| (Int.toNat (n_134 % (4294967296 : Int)))) : Int))) = (AV.int .u32 n_135)) ∧
 (bif (Nat.blt (3 : Nat) (List.length s_125)) then (∃ n_136 : Int, (((AV.int .u8 (Nat.cast (UInt8.toNat (List.getD s_125 (3 : Nat) (UInt8.ofNat (0 : Nat)))) : Int)) = (AV.int .u8 n_136)) ∧
 (∃ n_137 : Int, (((AV.int .u32 (IntKind.wrap .u32 n_136)) = (AV.int .u32 n_137)) ∧
 (∃ n_138 : Int, (((AV.int .u32 (IntKind.wrap .u32 (n_137 * (16777216 : Int)))) = (AV.int .u32 n_138)) ∧
 (∃ n_139 : Int, (((AV.int .u32 (IntKind.wrap .u32 (Nat.cast ((Int.toNat (n_135 % (4294967296 : Int))) ||| (Int.toNat (n_138 % (4294967296 : Int)))) : Int))) = (AV.int .u32 n_139)) ∧
 (bif ((Nat.ble (36 : Nat) (List.length s_4)) && (Nat.ble (List.length s_4) (List.length s_4))) then (∃ s_140 : (List UInt8), (((AV.str (List.take ((List.length s_4) - (36 : Nat)) (List.drop (36 : Nat) s_4))) = (AV.str s_140)) ∧
 (bif (Nat.blt (0 : Nat) (List.length s_140)) then (∃ n_141 : Int, (((AV.int .u8 (Nat.cast (UInt8.toNat (List.getD s_140 (0 : Nat) (UInt8.ofNat (0 : Nat)))) : Int)) = (AV.int .u8 n_141)) ∧
 (∃ n_142 : Int, (((AV.int .u32 (IntKind.wrap .u32 n_141)) = (AV.int .u32 n_142)) ∧
 (bif (Nat.blt (1 : Nat) (List.length s_140)) then (∃ n_143 : Int, (((AV.int .u8 (Nat.cast (UInt8.toNat (List.getD s_140 (1 : Nat) (UInt8.ofNat (0 : Nat)))) : Int)) = (AV.int .u8 n_143)) ∧
 (∃ n_144 : Int, (((AV.int .u32 (IntKind.wrap .u32 n_143)) = (AV.int .u32 n_144)) ∧
 (∃ n_145 : Int, (((AV.int .u32 (IntKind.wrap .u32 (n_144 * (256 : Int)))) = (AV.int .u32 n_145)) ∧
 (∃ n_146 : Int, (((AV.int .u32 (IntKind.wrap .u32 (Nat.cast ((Int.toNat (n_142 % (4294967296 : Int))) ||| (Int.toNat (n_145 % (4294967296 : Int)))) : Int))) = (AV.int .u32 n_146)) ∧
 (bif (Nat.blt (2 : Nat) (List.length s_140)) then (∃ n_147 : Int, (((AV.int .u8 (Nat.cast (UInt8.toNat (List.getD s_140 (2 : Nat) (UInt8.ofNat (0 : Nat)))) : Int)) = (AV.int .u8 n_147)) ∧
 (∃ n_148 : Int, (((AV.int .u32 (IntKind.wrap .u32 n_147)) = (AV.int .u32 n_148)) ∧
 (∃ n_149 : Int, (((AV.int .u32 (IntKind.wrap .u32 (n_148 * (65536 : Int)))) = (AV.int .u32 n_149)) ∧
 (∃ n_150 : Int, (((AV.int .u32 (IntKind.wrap .u32 (Nat.cast ((Int.toNat (n_146 % (4294967296 : Int))) ||| (Int.toNat (n_149 % (4294967296 : Int)))) : Int))) = (AV.int .u32 n_150)) ∧
 (bif (Nat.blt (3 : Nat) (List.length s_140)) then (∃ n_151 : Int, (((AV.int .u8 (Nat.cast (UInt8.toNat (List.getD s_140 (3 : Nat) (UInt8.ofNat (0 : Nat)))) : Int)) = (AV.int .u8 n_151)) ∧
 (∃ n_152 : Int, (((AV.int .u32 (IntKind.wrap .u32 n_151)) = (AV.int .u32 n_152)) ∧
 (∃ n_153 : Int, (((AV.int .u32 (IntKind.wrap .u32 (n_152 * (16777216 : Int)))) = (AV.int .u32 n_153)) ∧
 (∃ n_154 : Int, (((AV.int .u32 (IntKind.wrap .u32 (Nat.cast ((Int.toNat (n_150 % (4294967296 : Int))) ||| (Int.toNat (n_153 % (4294967296 : Int)))) : Int))) = (AV.int .u32 n_154)) ∧
 (bif ((Nat.ble (40 : Nat) (List.length s_4)) && (Nat.ble (List.length s_4) (List.length s_4))) then (∃ s_155 : (List UInt8), (((AV.str (List.take ((List.length s_4) - (40 : Nat)) (List.drop (40 : Nat) s_4))) = (AV.str s_155)) ∧
 (bif (Nat.blt (0 : Nat) (List.length s_155)) then (∃ n_156 : Int, (((AV.int .u8 (Nat.cast (UInt8.toNat (List.getD s_155 (0 : Nat) (UInt8.ofNat (0 : Nat)))) : Int)) = (AV.int .u8 n_156)) ∧
 (∃ n_157 : Int, (((AV.int .u32 (IntKind.wrap .u32 n_156)) = (AV.int .u32 n_157)) ∧
 (bif (Nat.blt (1 : Nat) (List.length s_155)) then (∃ n_158 : Int, (((AV.int .u8 (Nat.cast (UInt8.toNat (List.getD s_155 (1 : Nat) (UInt8.ofNat (0 : Nat)))) : Int)) = (AV.int .u8 n_158)) ∧
 (∃ n_159 : Int, (((AV.int .u32 (IntKind.wrap .u32 n_158)) = (AV.int .u32 n_159)) ∧
 (∃ n_160 : Int, (((AV.int .u32 (IntKind.wrap .u32 (n_159 * (256 : Int)))) = (AV.int .u32 n_160)) ∧
 (∃ n_161 : Int, (((AV.int .u32 (IntKind.wrap .u32 (Nat.cast ((Int.toNat (n_157 % (4294967296 : Int))) ||| (Int.toNat (n_160 % (4294967296 : Int)))) : Int))) = (AV.int .u32 n_161)) ∧
 (bif (Nat.blt (2 : Nat) (List.length s_155)) then (∃ n_162 : Int, (((AV.int .u8 (Nat.cast (UInt8.toNat (List.getD s_155 (2 : Nat) (UInt8.ofNat (0 : Nat)))) : Int)) = (AV.int .u8 n_162)) ∧
 (∃ n_163 : Int, (((AV.int .u32 (IntKind.wrap .u32 n_162)) = (AV.int .u32 n_163)) ∧
 (∃ n_164 : Int, (((AV.int .u32 (IntKind.wrap .u32 (n_163 * (65536 : Int)))) = (AV.int .u32 n_164)) ∧
 (∃ n_165 : Int, (((AV.int .u32 (IntKind.wrap .u32 (Nat.cast ((Int.toNat (n_161 % (4294967296 : Int))) ||| (Int.toNat (n_164 % (4294967296 : Int)))) : Int))) = (AV.int .u32 n_165)) ∧
 (bif (Nat.blt (3 : Nat) (List.length s_155)) then (∃ n_166 : Int, (((AV.int .u8 (Nat.cast (UInt8.toNat (List.getD s_155 (3 : Nat) (UInt8.ofNat (0 : Nat)))) : Int)) = (AV.int .u8 n_166)) ∧
 (∃ n_167 : Int, (((AV.int .u32 (IntKind.wrap .u32 n_166)) = (AV.int .u32 n_167)) ∧
 (∃ n_168 : Int, (((AV.int .u32 (IntKind.wrap .u32 (n_167 * (16777216 : Int)))) = (AV.int .u32 n_168)) ∧
 (∃ n_169 : Int, (((AV.int .u32 (IntKind.wrap .u32 (Nat.cast ((Int.toNat (n_165 % (4294967296 : Int))) ||| (Int.toNat (n_168 % (4294967296 : Int)))) : Int))) = (AV.int .u32 n_169)) ∧
 (bif ((Nat.ble (44 : Nat) (List.length s_4)) && (Nat.ble (List.length s_4) (List.length s_4))) then (∃ s_170 : (List UInt8), (((AV.str (List.take ((List.length s_4) - (44 : Nat)) (List.drop (44 : Nat) s_4))) = (AV.str s_170)) ∧
 (bif (Nat.blt (0 : Nat) (List.length s_170)) then (∃ n_171 : Int, (((AV.int .u8 (Nat.cast (UInt8.toNat (List.getD s_170 (0 : Nat) (UInt8.ofNat (0 : Nat)))) : Int)) = (AV.int .u8 n_171)) ∧
 (∃ n_172 : Int, (((AV.int .u32 (IntKind.wrap .u32 n_171)) = (AV.int .u32 n_172)) ∧
 (bif (Nat.blt (1 : Nat) (List.length s_170)) then (∃ n_173 : Int, (((AV.int .u8 (Nat.cast (UInt8.toNat (List.getD s_170 (1 : Nat) (UInt8.ofNat (0 : Nat)))) : Int)) = (AV.int .u8 n_173)) ∧
 (∃ n_174 : Int, (((AV.int .u32 (IntKind.wrap .u32 n_173)) = (AV.int .u32 n_174)) ∧
 (∃ n_175 : Int, (((AV.int .u32 (IntKind.wrap .u32 (n_174 * (256 : Int)))) = (AV.int .u32 n_175)) ∧
 (∃ n_176 : Int, (((AV.int .u32 (IntKind.wrap .u32 (Nat.cast ((Int.toNat (n_172 % (4294967296 : Int))) ||| (Int.toNat (n_175 % (4294967296 : Int)))) : Int))) = (AV.int .u32 n_176)) ∧
 (bif (Nat.blt (2 : Nat) (List.length s_170)) then (∃ n_177 : Int, (((AV.int .u8 (Nat.cast (UInt8.toNat (List.getD s_170 (2 : Nat) (UInt8.ofNat (0 : Nat)))) : Int)) = (AV.int .u8 n_177)) ∧
 (∃ n_178 : Int, (((AV.int .u32 (IntKind.wrap .u32 n_177)) = (AV.int .u32 n_178)) ∧
 (∃ n_179 : Int, (((AV.int .u32 (IntKind.wrap .u32 (n_178 * (65536 : Int)))) = (AV.int .u32 n_179)) ∧
 (∃ n_180 : Int, (((AV.int .u32 (IntKind.wrap .u32 (Nat.cast ((Int.toNat (n_176 % (4294967296 : Int))) ||| (Int.toNat (n_179 % (4294967296 : Int)))) : Int))) = (AV.int .u32 n_180)) ∧
 (bif (Nat.blt (3 : Nat) (List.length s_170)) then (∃ n_181 : Int, (((AV.int .u8 (Nat.cast (UInt8.toNat (List.getD s_170 (3 : Nat) (UInt8.ofNat (0 : Nat)))) : Int)) = (AV.int .u8 n_181)) ∧
 (∃ n_182 : Int, (((AV.int .u32 (IntKind.wrap .u32 n_181)) = (AV.int .u32 n_182)) ∧
 (∃ n_183 : Int, (((AV.int .u32 (IntKind.wrap .u32 (n_182 * (16777216 : Int)))) = (AV.int .u32 n_183)) ∧
 (∃ n_184 : Int, (((AV.int .u32 (IntKind.wrap .u32 (Nat.cast ((Int.toNat (n_180 % (4294967296 : Int))) ||| (Int.toNat (n_183 % (4294967296 : Int)))) : Int))) = (AV.int .u32 n_184)) ∧
 (bif ((Nat.ble (48 : Nat) (List.length s_4)) && (Nat.ble (List.length s_4) (List.length s_4))) then (∃ s_185 : (List UInt8), (((AV.str (List.take ((List.length s_4) - (48 : Nat)) (List.drop (48 : Nat) s_4))) = (AV.str s_185)) ∧
 (bif (Nat.blt (0 : Nat) (List.length s_185)) then (∃ n_186 : Int, (((AV.int .u8 (Nat.cast (UInt8.toNat (List.getD s_185 (0 : Nat) (UInt8.ofNat (0 : Nat)))) : Int)) = (AV.int .u8 n_186)) ∧
 (∃ n_187 : Int, (((AV.int .u32 (IntKind.wrap .u32 n_186)) = (AV.int .u32 n_187)) ∧
 (bif (Nat.blt (1 : Nat) (List.length s_185)) then (∃ n_188 : Int, (((AV.int .u8 (Nat.cast (UInt8.toNat (List.getD s_185 (1 : Nat) (UInt8.ofNat (0 : Nat)))) : Int)) = (AV.int .u8 n_188)) ∧
 (∃ n_189 : Int, (((AV.int .u32 (IntKind.wrap .u32 n_188)) = (AV.int .u32 n_189)) ∧
 (∃ n_190 : Int, (((AV.int .u32 (IntKind.wrap .u32 (n_189 * (256 : Int)))) = (AV.int .u32 n_190)) ∧
 (∃ n_191 : Int, (((AV.int .u32 (IntKind.wrap .u32 (Nat.cast ((Int.toNat (n_187 % (4294967296 : Int))) ||| (Int.toNat (n_190 % (4294967296 : Int)))) : Int))) = (AV.int .u32 n_191)) ∧
 (bif (Nat.blt (2 : Nat) (List.length s_185)) then (∃ n_192 : Int, (((AV.int .u8 (Nat.cast (UInt8.toNat (List.getD s_185 (2 : Nat) (UInt8.ofNat (0 : Nat)))) : Int)) = (AV.int .u8 n_192)) ∧
 (∃ n_193 : Int, (((AV.int .u32 (IntKind.wrap .u32 n_192)) = (AV.int .u32 n_193)) ∧
 (∃ n_194 : Int, (((AV.int .u32 (IntKind.wrap .u32 (n_193 * (65536 : Int)))) = (AV.int .u32 n_194)) ∧
 (∃ n_195 : Int, (((AV.int .u32 (IntKind.wrap .u32 (Nat.cast ((Int.toNat (n_191 % (4294967296 : Int))) ||| (Int.toNat (n_194 % (4294967296 : Int)))) : Int))) = (AV.int .u32 n_195)) ∧
 (bif (Nat.blt (3 : Nat) (List.length s_185)) then (∃ n_196 : Int, (((AV.int .u8 (Nat.cast (UInt8.toNat (List.getD s_185 (3 : Nat) (UInt8.ofNat (0 : Nat)))) : Int)) = (AV.int .u8 n_196)) ∧
 (∃ n_197 : Int, (((AV.int .u32 (IntKind.wrap .u32 n_196)) = (AV.int .u32 n_197)) ∧
 (∃ n_198 : Int, (((AV.int .u32 (IntKind.wrap .u32 (n_197 * (16777216 : Int)))) = (AV.int .u32 n_198)) ∧
 (∃ n_199 : Int, (((AV.int .u32 (IntKind.wrap .u32 (Nat.cast ((Int.toNat (n_195 % (4294967296 : Int))) ||| (Int.toNat (n_198 % (4294967296 : Int)))) : Int))) = (AV.int .u32 n_199)) ∧
 (bif ((Nat.ble (52 : Nat) (List.length s_4)) && (Nat.ble (List.length s_4) (List.length s_4))) then (∃ s_200 : (List UInt8), (((AV.str (List.take ((List.length s_4) - (52 : Nat)) (List.drop (52 : Nat) s_4))) = (AV.str s_200)) ∧
 (bif (Nat.blt (0 : Nat) (List.length s_200)) then (∃ n_201 : Int, (((AV.int .u8 (Nat.cast (UInt8.toNat (List.getD s_200 (0 : Nat) (UInt8.ofNat (0 : Nat)))) : Int)) = (AV.int .u8 n_201)) ∧
 (∃ n_202 : Int, (((AV.int .u32 (IntKind.wrap .u32 n_201)) = (AV.int .u32 n_202)) ∧
 (bif (Nat.blt (1 : Nat) (List.length s_200)) then (∃ n_203 : Int, (((AV.int .u8 (Nat.cast (UInt8.toNat (List.getD s_200 (1 : Nat) (UInt8.ofNat (0 : Nat)))) : Int)) = (AV.int .u8 n_203)) ∧
 (∃ n_204 : Int, (((AV.int .u32 (IntKind.wrap .u32 n_203)) = (AV.int .u32 n_204)) ∧
 (∃ n_205 : Int, (((AV.int .u32 (IntKind.wrap .u32 (n_204 * (256 : Int)))) = (AV.int .u32 n_205)) ∧
 (∃ n_206 : Int, (((AV.int .u32 (IntKind.wrap .u32 (Nat.cast ((Int.toNat (n_202 % (4294967296 : Int))) ||| (Int.toNat (n_205 % (4294967296 : Int)))) : Int))) = (AV.int .u32 n_206)) ∧
 (bif (Nat.blt (2 : Nat) (List.length s_200)) then (∃ n_207 : Int, (((AV.int .u8 (Nat.cast (UInt8.toNat (List.getD s_200 (2 : Nat) (UInt8.ofNat (0 : Nat)))) : Int)) = (AV.int .u8 n_207)) ∧
 (∃ n_208 : Int, (((AV.int .u32 (IntKind.wrap .u32 n_207)) = (AV.int .u32 n_208)) ∧
 (∃ n_209 : Int, (((AV.int .u32 (IntKind.wrap .u32 (n_208 * (65536 : Int)))) = (AV.int .u32 n_209)) ∧
 (∃ n_210 : Int, (((AV.int .u32 (IntKind.wrap .u32 (Nat.cast ((Int.toNat (n_206 % (4294967296 : Int))) ||| (Int.toNat (n_209 % (4294967296 : Int)))) : Int))) = (AV.int .u32 n_210)) ∧
 (bif (Nat.blt (3 : Nat) (List.length s_200)) then (∃ n_211 : Int, (((AV.int .u8 (Nat.cast (UInt8.toNat (List.getD s_200 (3 : Nat) (UInt8.ofNat (0 : Nat)))) : Int)) = (AV.int .u8 n_211)) ∧
 (∃ n_212 : Int, (((AV.int .u32 (IntKind.wrap .u32 n_211)) = (AV.int .u32 n_212)) ∧
 (∃ n_213 : Int, (((AV.int .u32 (IntKind.wrap .u32 (n_212 * (16777216 : Int)))) = (AV.int .u32 n_213)) ∧
 (∃ n_214 : Int, (((AV.int .u32 (IntKind.wrap .u32 (Nat.cast ((Int.toNat (n_210 % (4294967296 : Int))) ||| (Int.toNat (n_213 % (4294967296 : Int)))) : Int))) = (AV.int .u32 n_214)) ∧
 (bif ((Nat.ble (56 : Nat) (List.length s_4)) && (Nat.ble (List.length s_4) (List.length s_4))) then (∃ s_215 : (List UInt8), (((AV.str (List.take ((List.length s_4) - (56 : Nat)) (List.drop (56 : Nat) s_4))) = (AV.str s_215)) ∧
 (bif (Nat.blt (0 : Nat) (List.length s_215)) then (∃ n_216 : Int, (((AV.int .u8 (Nat.cast (UInt8.toNat (List.getD s_215 (0 : Nat) (UInt8.ofNat (0 : Nat)))) : Int)) = (AV.int .u8 n_216)) ∧
 (∃ n_217 : Int, (((AV.int .u32 (IntKind.wrap .u32 n_216)) = (AV.int .u32 n_217)) ∧
 (bif (Nat.blt (1 : Nat) (List.length s_215)) then (∃ n_218 : Int, (((AV.int .u8 (Nat.cast (UInt8.toNat (List.getD s_215 (1 : Nat) (UInt8.ofNat (0 : Nat)))) : Int)) = (AV.int .u8 n_218)) ∧
 (∃ n_219 : Int, (((AV.int .u32 (IntKind.wrap .u32 n_218)) = (AV.int .u32 n_219)) ∧
 (∃ n_220 : Int, (((AV.int .u32 (IntKind.wrap .u32 (n_219 * (256 : Int)))) = (AV.int .u32 n_220)) ∧
 (∃ n_221 : Int, (((AV.int .u32 (IntKind.wrap .u32 (Nat.cast ((Int.toNat (n_217 % (4294967296 : Int))) ||| (Int.toNat (n_220 % (4294967296 : Int)))) : Int))) = (AV.int .u32 n_221)) ∧
 (bif (Nat.blt (2 : Nat) (List.length s_215)) then (∃ n_222 : Int, (((AV.int .u8 (Nat.cast (UInt8.toNat (List.getD s_215 (2 : Nat) (UInt8.ofNat (0 : Nat)))) : Int)) = (AV.int .u8 n_222)) ∧
 (∃ n_223 : Int, (((AV.int .u32 (IntKind.wrap .u32 n_222)) = (AV.int .u32 n_223)) ∧
 (∃ n_224 : Int, (((AV.int .u32 (IntKind.wrap .u32 (n_223 * (65536 : Int)))) = (AV.int .u32 n_224)) ∧
 (∃ n_225 : Int, (((AV.int .u32 (IntKind.wrap .u32 (Nat.cast ((Int.toNat (n_221 % (4294967296 : Int))) ||| (Int.toNat (n_224 % (4294967296 : Int)))) : Int))) = (AV.int .u32 n_225)) ∧
 (bif (Nat.blt (3 : Nat) (List.length s_215)) then (∃ n_226 : Int, (((AV.int .u8 (Nat.cast (UInt8.toNat (List.getD s_215 (3 : Nat) (UInt8.ofNat (0 : Nat)))) : Int)) = (AV.int .u8 n_226)) ∧
 (∃ n_227 : Int, (((AV.int .u32 (IntKind.wrap .u32 n_226)) = (AV.int .u32 n_227)) ∧
 (∃ n_228 : Int, (((AV.int .u32 (IntKind.wrap .u32 (n_227 * (16777216 : Int)))) = (AV.int .u32 n_228)) ∧
 (∃ n_229 : Int, (((AV.int .u32 (IntKind.wrap .u32 (Nat.cast ((Int.toNat (n_225 % (4294967296 : Int))) ||| (Int.toNat (n_228 % (4294967296 : Int)))) : Int))) = (AV.int .u32 n_229)) ∧
 (bif ((Nat.ble (60 : Nat) (List.length s_4)) && (Nat.ble (List.length s_4) (List.length s_4))) then (∃ s_230 : (List UInt8), (((AV.str (List.take ((List.length s_4) - (60 : Nat)) (List.drop (60 : Nat) s_4))) = (AV.str s_230)) ∧
 (bif (Nat.blt (0 : Nat) (List.length s_230)) then (∃ n_231 : Int, (((AV.int .u8 (Nat.cast (UInt8.toNat (List.getD s_230 (0 : Nat) (UInt8.ofNat (0 : Nat)))) : Int)) = (AV.int .u8 n_231)) ∧
 (∃ n_232 : Int, (((AV.int .u32 (IntKind.wrap .u32 n_231)) = (AV.int .u32 n_232)) ∧
 (bif (Nat.blt (1 : Nat) (List.length s_230)) then (∃ n_233 : Int, (((AV.int .u8 (Nat.cast (UInt8.toNat (List.getD s_230 (1 : Nat) (UInt8.ofNat (0 : Nat)))) : Int)) = (AV.int .u8 n_233)) ∧
 (∃ n_234 : Int, (((AV.int .u32 (IntKind.wrap .u32 n_233)) = (AV.int .u32 n_234)) ∧
 (∃ n_235 : Int, (((AV.int .u32 (IntKind.wrap .u32 (n_234 * (256 : Int)))) = (AV.int .u32 n_235)) ∧
 (∃ n_236 : Int, (((AV.int .u32 (IntKind.wrap .u32 (Nat.cast ((Int.toNat (n_232 % (4294967296 : Int))) ||| (Int.toNat (n_235 % (4294967296 : Int)))) : Int))) = (AV.int .u32 n_236)) ∧
 (bif (Nat.blt (2 : Nat) (List.length s_230)) then (∃ n_237 : Int, (((AV.int .u8 (Nat.cast (UInt8.toNat (List.getD s_230 (2 : Nat) (UInt8.ofNat (0 : Nat)))) : Int)) = (AV.int .u8 n_237)) ∧
 (∃ n_238 : Int, (((AV.int .u32 (IntKind.wrap .u32 n_237)) = (AV.int .u32 n_238)) ∧
 (∃ n_239 : Int, (((AV.int .u32 (IntKind.wrap .u32 (n_238 * (65536 : Int)))) = (AV.int .u32 n_239)) ∧
 (∃ n_240 : Int, (((AV.int .u32 (IntKind.wrap .u32 (Nat.cast ((Int.toNat (n_236 % (4294967296 : Int))) ||| (Int.toNat (n_239 % (4294967296 : Int)))) : Int))) = (AV.int .u32 n_240)) ∧
 (bif (Nat.blt (3 : Nat) (List.length s_230)) then (∃ n_241 : Int, (((AV.int .u8 (Nat.cast (UInt8.toNat (List.getD s_230 (3 : Nat) (UInt8.ofNat (0 : Nat)))) : Int)) = (AV.int .u8 n_241)) ∧
 (∃ n_242 : Int, (((AV.int .u32 (IntKind.wrap .u32 n_241)) = (AV.int .u32 n_242)) ∧
 (∃ n_243 : Int, (((AV.int .u32 (IntKind.wrap .u32 (n_242 * (16777216 : Int)))) = (AV.int .u32 n_243)) ∧
 (∃ n_244 : Int, (((AV.int .u32 (IntKind.wrap .u32 (Nat.cast ((Int.toNat (n_240 % (4294967296 : Int))) ||| (Int.toNat (n_243 % (4294967296 : Int)))) : Int))) = (AV.int .u32 n_244)) ∧
 (∃ w_245 : W16, ((Lf (((AV.int .u32 n_19) :: ((AV.int .u32 n_34) :: ((AV.int .u32 n_49) :: ((AV.int .u32 n_64) :: ((AV.int .u32 n_79) :: ((AV.int .u32 n_94) :: ((AV.int .u32 n_109) :: ((AV.int .u32 n_124) :: ((AV.int .u32 n_139) :: ((AV.int .u32 n_154) :: ((AV.int .u32 n_169) :: ((AV.int .u32 n_184) :: ((AV.int .u32 n_199) :: ((AV.int .u32 n_214) :: ((AV.int .u32 n_229) :: ((AV.int .u32 n_244) :: [])))))))))))))))) = ((AV.int .u32 (Nat.cast (w_245).1 : Int)) :: ((AV.int .u32 (Nat.cast (w_245).2 : Int)) :: ((AV.int .u32 (Nat.cast (w_245).3 : Int)) :: ((AV.int .u32 (Nat.cast (w_245).4 : Int)) :: ((AV.int .u32 (Nat.cast (w_245).5 : Int)) :: ((AV.int .u32 (Nat.cast (w_245).6 : Int)) :: ((AV.int .u32 (Nat.cast (w_245).7 : Int)) :: ((AV.int .u32 (Nat.cast (w_245).8 : Int)) :: ((AV.int .u32 (Nat.cast (w_245).9 : Int)) :: ((AV.int .u32 (Nat.cast (w_245).10 : Int)) :: ((AV.int .u32 (Nat.cast (w_245).11 : Int)) :: ((AV.int .u32 (Nat.cast (w_245).12 : Int)) :: ((AV.int .u32 (Nat.cast (w_245).13 : Int)) :: ((AV.int .u32 (Nat.cast (w_245).14 : Int)) :: ((AV.int .u32 (Nat.cast (w_245).15 : Int)) :: ((AV.int .u32 (Nat.cast (w_245).16 : Int)) :: [])))))))))))))))))) ∧
 (∀ l_246 : (List Nat), ((Lf (l_246 = (blkM w_245 c))) →
(bif (((Nat.beq (List.length (cells8NM l_246)) (64 : Nat)) && (oneL (cells8NM l_246))) && true) then (bif ((Nat.beq (List.length (setRange ((AV.int .u8 (0 : Int)) :: ((AV.int .u8 (0 : Int)) :: ((AV.int .u8 (0 : Int)) :: ((AV.int .u8 (0 : Int)) :: ((AV.int .u8 (0 : Int)) :: ((AV.int .u8 (0 : Int)) :: ((AV.int .u8 (0 : Int)) :: ((AV.int .u8 (0 : Int)) :: ((AV.int .u8 (0 : Int)) :: ((AV.int .u8 (0 : Int)) :: ((AV.int .u8 (0 : Int)) :: ((AV.int .u8 (0 : Int)) :: ((AV.int .u8 (0 : Int)) :: ((AV.int .u8 (0 : Int)) :: ((AV.int .u8 (0 : Int)) :: ((AV.int .u8 (0 : Int)) :: ((AV.int .u8 (0 : Int)) :: ((AV.int .u8 (0 : Int)) :: ((AV.int .u8 (0 : Int)) :: ((AV.int .u8 (0 : Int)) :: ((AV.int .u8 (0 : Int)) :: ((AV.int .u8 (0 : Int)) :: ((AV.int .u8 (0 : Int)) :: ((AV.int .u8 (0 : Int)) :: ((AV.int .u8 (0 : Int)) :: ((AV.int .u8 (0 : Int)) :: ((AV.int .u8 (0 : Int)) :: ((AV.int .u8 (0 : Int)) :: ((AV.int .u8 (0 : Int)) :: ((AV.int .u8 (0 : Int)) :: ((AV.int .u8 (0 : Int)) :: ((AV.int .u8 (0 : Int)) :: ((AV.int .u8 (0 : Int)) :: ((AV.int .u8 (0 : Int)) :: ((AV.int .u8 (0 : Int)) :: ((AV.int .u8 (0 : Int)) :: ((AV.int .u8 (0 : Int)) :: ((AV.int .u8 (0 : Int)) :: ((AV.int .u8 (0 : Int)) :: ((AV.int .u8 (0 : Int)) :: ((AV.int .u8 (0 : Int)) :: ((AV.int .u8 (0 : Int)) :: ((AV.int .u8 (0 : Int)) :: ((AV.int .u8 (0 : Int)) :: ((AV.int .u8 (0 : Int)) :: ((AV.int .u8 (0 : Int)) :: ((AV.int .u8 (0 : Int)) :: ((AV.int .u8 (0 : Int)) :: ((AV.int .u8 (0 : Int)) :: ((AV.int .u8 (0 : Int)) :: ((AV.int .u8 (0 : Int)) :: ((AV.int .u8 (0 : Int)) :: ((AV.int .u8 (0 : Int)) :: ((AV.int .u8 (0 : Int)) :: ((AV.int .u8 (0 : Int)) :: ((AV.int .u8 (0 : Int)) :: ((AV.int .u8 (0 : Int)) :: ((AV.int .u8 (0 : Int)) :: ((AV.int .u8 (0 : Int)) :: ((AV.int .u8 (0 : Int)) :: ((AV.int .u8 (0 : Int)) :: ((AV.int .u8 (0 : Int)) :: ((AV.int .u8 (0 : Int)) :: ((AV.int .u8 (0 : Int)) :: [])))))))))))))))))))))))))))))))))))))))))))))))))))))))))))))))) (0 : Nat) (cells8NM l_246))) (64 : Nat)) && true) then (bif ((((Nat.beq (List.length (setRange ((AV.int .u8 (0 : Int)) :: ((AV.int .u8 (0 : Int)) :: ((AV.int .u8 (0 : Int)) :: ((AV.int .u8 (0 : Int)) :: ((AV.int .u8 (0 : Int)) :: ((AV.int .u8 (0 : Int)) :: ((AV.int .u8 (0 : Int)) :: ((AV.int .u8 (0 : Int)) :: ((AV.int .u8 (0 : Int)) :: ((AV.int .u8 (0 : Int)) :: ((AV.int .u8 (0 : Int)) :: ((AV.int .u8 (0 : Int)) :: ((AV.int .u8 (0 : Int)) :: ((AV.int .u8 (0 : Int)) :: ((AV.int .u8 (0 : Int)) :: ((AV.int .u8 (0 : Int)) :: ((AV.int .u8 (0 : Int)) :: ((AV.int .u8 (0 : Int)) :: ((AV.int .u8 (0 : Int)) :: ((AV.int .u8 (0 : Int)) :: ((AV.int .u8 (0 : Int)) :: ((AV.int .u8 (0 : Int)) :: ((AV.int .u8 (0 : Int)) :: ((AV.int .u8 (0 : Int)) :: ((AV.int .u8 (0 : Int)) :: ((AV.int .u8 (0 : Int)) :: ((AV.int .u8 (0 : Int)) :: ((AV.int .u8 (0 : Int)) :: ((AV.int .u8 (0 : Int)) :: ((AV.int .u8 (0 : Int)) :: ((AV.int .u8 (0 : Int)) :: ((AV.int .u8 (0 : Int)) :: ((AV.int .u8 (0 : Int)) :: ((AV.int .u8 (0 : Int)) :: ((AV.int .u8 (0 : Int)) :: ((AV.int .u8 (0 : Int)) :: ((AV.int .u8 (0 : Int)) :: ((AV.int .u8 (0 : Int)) :: ((AV.int .u8 (0 : Int)) :: ((AV.int .u8 (0 : Int)) :: ((AV.int .u8 (0 : Int)) :: ((AV.int .u8 (0 : Int)) :: ((AV.int .u8 (0 : Int)) :: ((AV.int .u8 (0 : Int)) :: ((AV.int .u8 (0 : Int)) :: ((AV.int .u8 (0 : Int)) :: ((AV.int .u8 (0 : Int)) :: ((AV.int .u8 (0 : Int)) :: ((AV.int .u8 (0 : Int)) :: ((AV.int .u8 (0 : Int)) :: ((AV.int .u8 (0 : Int)) :: ((AV.int .u8 (0 : Int)) :: ((AV.int .u8 (0 : Int)) :: ((AV.int .u8 (0 : Int)) :: ((AV.int .u8 (0 : Int)) :: ((AV.int .u8 (0 : Int)) :: ((AV.int .u8 (0 : Int)) :: ((AV.int .u8 (0 : Int)) :: ((AV.int .u8 (0 : Int)) :: ((AV.int .u8 (0 : Int)) :: ((AV.int .u8 (0 : Int)) :: ((AV.int .u8 (0 : Int)) :: ((AV.int .u8 (0 : Int)) :: ((AV.int .u8 (0 : Int)) :: [])))))))))))))))))))))))))))))))))))))))))))))))))))))))))))))))) (0 : Nat) (cells8NM l_246))) (64 : Nat)) && true) && true) && (allU8 (List.take (64 : Nat) (List.drop (0 : Nat) (setRange ((AV.int .u8 (0 : Int)) :: ((AV.int .u8 (0 : Int)) :: ((AV.int .u8 (0 : Int)) :: ((AV.int .u8 (0 : Int)) :: ((AV.int .u8 (0 : Int)) :: ((AV.int .u8 (0 : Int)) :: ((AV.int .u8 (0 : Int)) :: ((AV.int .u8 (0 : Int)) :: ((AV.int .u8 (0 : Int)) :: ((AV.int .u8 (0 : Int)) :: ((AV.int .u8 (0 : Int)) :: ((AV.int .u8 (0 : Int)) :: ((AV.int .u8 (0 : Int)) :: ((AV.int .u8 (0 : Int)) :: ((AV.int .u8 (0 : Int)) :: ((AV.int .u8 (0 : Int)) :: ((AV.int .u8 (0 : Int)) :: ((AV.int .u8 (0 : Int)) :: ((AV.int .u8 (0 : Int)) :: ((AV.int .u8 (0 : Int)) :: ((AV.int .u8 (0 : Int)) :: ((AV.int .u8 (0 : Int)) :: ((AV.int .u8 (0 : Int)) :: ((AV.int .u8 (0 : Int)) :: ((AV.int .u8 (0 : Int)) :: ((AV.int .u8 (0 : Int)) :: ((AV.int .u8 (0 : Int)) :: ((AV.int .u8 (0 : Int)) :: ((AV.int .u8 (0 : Int)) :: ((AV.int .u8 (0 : Int)) :: ((AV.int .u8 (0 : Int)) :: ((AV.int .u8 (0 : Int)) :: ((AV.int .u8 (0 : Int)) :: ((AV.int .u8 (0 : Int)) :: ((AV.int .u8 (0 : Int)) :: ((AV.int .u8 (0 : Int)) :: ((AV.int .u8 (0 : Int)) :: ((AV.int .u8 (0 : Int)) :: ((AV.int .u8 (0 : Int)) :: ((AV.int .u8 (0 : Int)) :: ((AV.int .u8 (0 : Int)) :: ((AV.int .u8 (0 : Int)) :: ((AV.int .u8 (0 : Int)) :: ((AV.int .u8 (0 : Int)) :: ((AV.int .u8 (0 : Int)) :: ((AV.int .u8 (0 : Int)) :: ((AV.int .u8 (0 : Int)) :: ((AV.int .u8 (0 : Int)) :: ((AV.int .u8 (0 : Int)) :: ((AV.int .u8 (0 : Int)) :: ((AV.int .u8 (0 : Int)) :: ((AV.int .u8 (0 : Int)) :: ((AV.int .u8 (0 : Int)) :: ((AV.int .u8 (0 : Int)) :: ((AV.int .u8 (0 : Int)) :: ((AV.int .u8 (0 : Int)) :: ((AV.int .u8 (0 : Int)) :: ((AV.int .u8 (0 : Int)) :: ((AV.int .u8 (0 : Int)) :: ((AV.int .u8 (0 : Int)) :: ((AV.int .u8 (0 : Int)) :: ((AV.int .u8 (0 : Int)) :: ((AV.int .u8 (0 : Int)) :: ((AV.int .u8 (0 : Int)) :: [])))))))))))))))))))))))))))))))))))))))))))))))))))))))))))))))) (0 : Nat) (cells8NM l_246)))))) then (∃ s_247 : (List UInt8), (((AV.str (List.map toB (List.take (64 : Nat) (List.drop (0 : Nat) (setRange ((AV.int .u8 (0 : Int)) :: ((AV.int .u8 (0 : Int)) :: ((AV.int .u8 (0 : Int)) :: ((AV.int .u8 (0 : Int)) :: ((AV.int .u8 (0 : Int)) :: ((AV.int .u8 (0 : Int)) :: ((AV.int .u8 (0 : Int)) :: ((AV.int .u8 (0 : Int)) :: ((AV.int .u8 (0 : Int)) :: ((AV.int .u8 (0 : Int)) :: ((AV.int .u8 (0 : Int)) :: ((AV.int .u8 (0 : Int)) :: ((AV.int .u8 (0 : Int)) :: ((AV.int .u8 (0 : Int)) :: ((AV.int .u8 (0 : Int)) :: ((AV.int .u8 (0 : Int)) :: ((AV.int .u8 (0 : Int)) :: ((AV.int .u8 (0 : Int)) :: ((AV.int .u8 (0 : Int)) :: ((AV.int .u8 (0 : Int)) :: ((AV.int .u8 (0 : Int)) :: ((AV.int .u8 (0 : Int)) :: ((AV.int .u8 (0 : Int)) :: ((AV.int .u8 (0 : Int)) :: ((AV.int .u8 (0 : Int)) :: ((AV.int .u8 (0 : Int)) :: ((AV.int .u8 (0 : Int)) :: ((AV.int .u8 (0 : Int)) :: ((AV.int .u8 (0 : Int)) :: ((AV.int .u8 (0 : Int)) :: ((AV.int .u8 (0 : Int)) :: ((AV.int .u8 (0 : Int)) :: ((AV.int .u8 (0 : Int)) :: ((AV.int .u8 (0 : Int)) :: ((AV.int .u8 (0 : Int)) :: ((AV.int .u8 (0 : Int)) :: ((AV.int .u8 (0 : Int)) :: ((AV.int .u8 (0 : Int)) :: ((AV.int .u8 (0 : Int)) :: ((AV.int .u8 (0 : Int)) :: ((AV.int .u8 (0 : Int)) :: ((AV.int .u8 (0 : Int)) :: ((AV.int .u8 (0 : Int)) :: ((AV.int .u8 (0 : Int)) :: ((AV.int .u8 (0 : Int)) :: ((AV.int .u8 (0 : Int)) :: ((AV.int .u8 (0 : Int)) :: ((AV.int .u8 (0 : Int)) :: ((AV.int .u8 (0 : Int)) :: ((AV.int .u8 (0 : Int)) :: ((AV.int .u8 (0 : Int)) :: ((AV.int .u8 (0 : Int)) :: ((AV.int .u8 (0 : Int)) :: ((AV.int .u8 (0 : Int)) :: ((AV.int .u8 (0 : Int)) :: ((AV.int .u8 (0 : Int)) :: ((AV.int .u8 (0 : Int)) :: ((AV.int .u8 (0 : Int)) :: ((AV.int .u8 (0 : Int)) :: ((AV.int .u8 (0 : Int)) :: ((AV.int .u8 (0 : Int)) :: ((AV.int .u8 (0 : Int)) :: ((AV.int .u8 (0 : Int)) :: ((AV.int .u8 (0 : Int)) :: [])))))))))))))))))))))))))))))))))))))))))))))))))))))))))))))))) (0 : Nat) (cells8NM l_246)))))) = (AV.str s_247)) ∧
 (Q (Out.ret (AV.tup ((AV.str s_247) :: ((AV.int .i64 (0 : Int)) :: [])))) [] (Gh.mk (0 : Nat) (0 : Nat) []))))
else False)
else False)
else False)))))))))))))
else False)))))))))
else False)))))))))
else False)))))
else False)))
else False)))))))))
else False)))))))))
else False)))))))))
else False)))))
else False)))
else False)))))))))
else False)))))))))
else False)))))))))
else False)))))
else False)))
else False)))))))))
else False)))))))))
else False)))))))))
else False)))))
else False)))
else False)))))))))
else False)))))))))
else False)))))))))
else False)))))
else False)))
else False)))))))))
else False)))))))))
else False)))))))))
else False)))))
else False)))
else False)))))))))
else False)))))))))
else False)))))))))
else False)))))
else False)))
else False)))))))))
else False)))))))))
else False)))))))))
else False)))))
else False)))
else False)))))))))
else False)))))))))
else False)))))))))
else False)))))
else False)))
else False)))))))))
else False)))))))))
else False)))))))))
else False)))))
else False)))
else False)))))))))
else False)))))))))
else False)))))))))
else False)))))
else False)))
else False)))))))))
else False)))))))))
else False)))))))))
else False)))))
else False)))
else False)))))))))
else False)))))))))
else False)))))))))
else False)))))
else False)))
else False)))))))))
else False)))))))))
else False)))))))))
else False)))))
else False)))
else False)))))))))
else False)))))))))
else False)))))))))
else False)))))
else False)))
else False)))))))))
else False)))))))))
else False)))))))))
else False)))))
else False)))
else False)))
else False)))
else False)))
else False)
else (Q (Out.ret (AV.tup ((AV.str []) :: ((AV.int .i64 (2 : Int)) :: [])))) [] (Gh.mk (0 : Nat) (0 : Nat) [])))
else (Q (Out.ret (AV.tup ((AV.str []) :: ((AV.int .i64 (2 : Int)) :: [])))) [] (Gh.mk (0 : Nat) (0 : Nat) [])))
else (Q (Out.ret (AV.tup ((AV.str []) :: ((AV.int .i64 (2 : Int)) :: [])))) [] (Gh.mk (0 : Nat) (0 : Nat) [])))))
else (Q (Out.ret (AV.tup ((AV.str []) :: ((AV.int .i64 (2 : Int)) :: [])))) [] (Gh.mk (0 : Nat) (0 : Nat) [])))))) := by kernel_rfl


def expandM : List UInt8 := [101, 120, 112, 97, 110, 100, 32, 51, 50, 45, 98, 121, 116, 101, 32, 107]
def allKM (key nonce : List UInt8) : List UInt8 := ((expandM ++ key) ++ [0, 0, 0, 0]) ++ nonce
def firstM (key nonce : List UInt8) : W16 :=
  let s := allKM key nonce
  ⟨numM s 0, numM s 4, numM s 8, numM s 12, numM s 16, numM s 20, numM s 24, numM s 28, numM s 32, numM s 36, numM s 40, numM s 44, numM s 48, numM s 52, numM s 56, numM s 60⟩
def rightM (key nonce : List UInt8) (c : Int) : Bool := Nat.beq key.length 32 && Nat.beq nonce.length 12 && decide (0 ≤ c) && decide (c < 4294967296)
/-- Block -/
def blockM (key nonce : List UInt8) (c : Int) : List UInt8 × Int := if rightM key nonce c then ((blkM (firstM key nonce) c).map UInt8.ofNat, 0) else ([], 2)
theorem len_blk (w : W16) (c : Int) : (blkM w c).length = 64 := by simp [blkM, outM, leW]

theorem setRange_full (z cs : List AV) (h : z.length ≤ cs.length) : setRange z 0 cs = cs := by
  simp only [setRange, List.take_zero, List.nil_append, Nat.zero_add]
  rw [List.drop_of_length_le h, List.append_nil]
theorem oneL_8 (l : List Nat) : oneL (cells8NM l) = true := by
  induction l with
  | nil => rfl
  | cons x l ih => simpa [cells8NM, oneL, one] using ih
theorem allU8_8 (l : List Nat) : allU8 (cells8NM l) = true := by
  induction l with
  | nil => rfl
  | cons x l ih => simpa [cells8NM, allU8] using ih
theorem toB_8 (l : List Nat) : (cells8NM l).map toB = l.map UInt8.ofNat := by
  simp [cells8NM, toB]

theorem block_run (key nonce : List UInt8) (c : Int) (Q : Out → List Blk → Gh → Prop) (hq : ∀ s e, blockM key nonce c = (s, e) → Q (.ret (.tup [.str s, .int .i64 e])) [] {}) : ∃ hv hb, goal_24 hv hb key nonce c Q := by
  obtain ⟨hv, hb', e⟩ : ∃ hv hb, goal_24 hv hb key nonce c Q = _ := ⟨_, _, vc_24 key nonce c Q⟩
  refine ⟨hv, hb', e.mpr ?_⟩
  clear e
  by_cases hr : rightM key nonce c = true
  · have hq' := hq _ _ (if_pos hr)
    simp only [rightM, Bool.and_eq_true, nbeq, decide_eq_true_eq] at hr
    obtain ⟨⟨⟨h1, h2⟩, h3⟩, h4⟩ := hr
    refine ⟨_, rfl, ?_⟩
    rw [h1, h2]
    refine splitE (fun _ => ⟨_, rfl, splitE (fun _ => splitD (fun _ => splitD (fun _ => ?_) (fun h => absurd h4 h)) (fun h => absurd h3 h)) (fun h => absurd rfl h)⟩) (fun h => absurd rfl h)
    have hl : (allKM key nonce).length = 64 := by simp [allKM, expandM, h1, h2]
    obtain ⟨s, hs⟩ : ∃ s, allKM key nonce = s := ⟨_, rfl⟩
    have hf : firstM key nonce = ⟨numM s 0, numM s 4, numM s 8, numM s 12, numM s 16, numM s 20, numM s 24, numM s 28, numM s 32, numM s 36, numM s 40, numM s 44, numM s 48, numM s 52, numM s 56, numM s 60⟩ := by rw [firstM, hs]
    refine ckI (by simp) ⟨_, rfl, ckI (by simp [h1]) ⟨_, rfl, ckI (by simp [h1]) ⟨s, by rw [← hs]; rfl, ?_⟩⟩⟩
    rw [hs] at hl
    rw [hf] at hq'
    refine numI (m := 0) (by first | (simp only [Bool.and_eq_true, Bool.and_true, Bool.true_and, decide_eq_true_eq, blt_iff, Nat.ble_eq, nbeq, cellsI_len,  List.length_append, List.length_cons, List.length_nil, Int.toNat_natCast, and_true, true_and, Bool.or_eq_true, Bool.not_eq_true', bne_iff_ne, ne_eq]; done) | (simp only [Bool.and_eq_true, Bool.and_true, Bool.true_and, decide_eq_true_eq, blt_iff, Nat.ble_eq, nbeq, cellsI_len,  List.length_append, List.length_cons, List.length_nil, Int.toNat_natCast, and_true, true_and, Bool.or_eq_true, Bool.not_eq_true', bne_iff_ne, ne_eq]; omega) | rfl | (simp; done) | (simp; omega)) (by omega) ?_
    refine numI (m := 4) (by first | (simp only [Bool.and_eq_true, Bool.and_true, Bool.true_and, decide_eq_true_eq, blt_iff, Nat.ble_eq, nbeq, cellsI_len,  List.length_append, List.length_cons, List.length_nil, Int.toNat_natCast, and_true, true_and, Bool.or_eq_true, Bool.not_eq_true', bne_iff_ne, ne_eq]; done) | (simp only [Bool.and_eq_true, Bool.and_true, Bool.true_and, decide_eq_true_eq, blt_iff, Nat.ble_eq, nbeq, cellsI_len,  List.length_append, List.length_cons, List.length_nil, Int.toNat_natCast, and_true, true_and, Bool.or_eq_true, Bool.not_eq_true', bne_iff_ne, ne_eq]; omega) | rfl | (simp; done) | (simp; omega)) (by omega) ?_
    refine numI (m := 8) (by first | (simp only [Bool.and_eq_true, Bool.and_true, Bool.true_and, decide_eq_true_eq, blt_iff, Nat.ble_eq, nbeq, cellsI_len,  List.length_append, List.length_cons, List.length_nil, Int.toNat_natCast, and_true, true_and, Bool.or_eq_true, Bool.not_eq_true', bne_iff_ne, ne_eq]; done) | (simp only [Bool.and_eq_true, Bool.and_true, Bool.true_and, decide_eq_true_eq, blt_iff, Nat.ble_eq, nbeq, cellsI_len,  List.length_append, List.length_cons, List.length_nil, Int.toNat_natCast, and_true, true_and, Bool.or_eq_true, Bool.not_eq_true', bne_iff_ne, ne_eq]; omega) | rfl | (simp; done) | (simp; omega)) (by omega) ?_
    refine numI (m := 12) (by first | (simp only [Bool.and_eq_true, Bool.and_true, Bool.true_and, decide_eq_true_eq, blt_iff, Nat.ble_eq, nbeq, cellsI_len,  List.length_append, List.length_cons, List.length_nil, Int.toNat_natCast, and_true, true_and, Bool.or_eq_true, Bool.not_eq_true', bne_iff_ne, ne_eq]; done) | (simp only [Bool.and_eq_true, Bool.and_true, Bool.true_and, decide_eq_true_eq, blt_iff, Nat.ble_eq, nbeq, cellsI_len,  List.length_append, List.length_cons, List.length_nil, Int.toNat_natCast, and_true, true_and, Bool.or_eq_true, Bool.not_eq_true', bne_iff_ne, ne_eq]; omega) | rfl | (simp; done) | (simp; omega)) (by omega) ?_
    refine numI (m := 16) (by first | (simp only [Bool.and_eq_true, Bool.and_true, Bool.true_and, decide_eq_true_eq, blt_iff, Nat.ble_eq, nbeq, cellsI_len,  List.length_append, List.length_cons, List.length_nil, Int.toNat_natCast, and_true, true_and, Bool.or_eq_true, Bool.not_eq_true', bne_iff_ne, ne_eq]; done) | (simp only [Bool.and_eq_true, Bool.and_true, Bool.true_and, decide_eq_true_eq, blt_iff, Nat.ble_eq, nbeq, cellsI_len,  List.length_append, List.length_cons, List.length_nil, Int.toNat_natCast, and_true, true_and, Bool.or_eq_true, Bool.not_eq_true', bne_iff_ne, ne_eq]; omega) | rfl | (simp; done) | (simp; omega)) (by omega) ?_
    refine numI (m := 20) (by first | (simp only [Bool.and_eq_true, Bool.and_true, Bool.true_and, decide_eq_true_eq, blt_iff, Nat.ble_eq, nbeq, cellsI_len,  List.length_append, List.length_cons, List.length_nil, Int.toNat_natCast, and_true, true_and, Bool.or_eq_true, Bool.not_eq_true', bne_iff_ne, ne_eq]; done) | (simp only [Bool.and_eq_true, Bool.and_true, Bool.true_and, decide_eq_true_eq, blt_iff, Nat.ble_eq, nbeq, cellsI_len,  List.length_append, List.length_cons, List.length_nil, Int.toNat_natCast, and_true, true_and, Bool.or_eq_true, Bool.not_eq_true', bne_iff_ne, ne_eq]; omega) | rfl | (simp; done) | (simp; omega)) (by omega) ?_
    refine numI (m := 24) (by first | (simp only [Bool.and_eq_true, Bool.and_true, Bool.true_and, decide_eq_true_eq, blt_iff, Nat.ble_eq, nbeq, cellsI_len,  List.length_append, List.length_cons, List.length_nil, Int.toNat_natCast, and_true, true_and, Bool.or_eq_true, Bool.not_eq_true', bne_iff_ne, ne_eq]; done) | (simp only [Bool.and_eq_true, Bool.and_true, Bool.true_and, decide_eq_true_eq, blt_iff, Nat.ble_eq, nbeq, cellsI_len,  List.length_append, List.length_cons, List.length_nil, Int.toNat_natCast, and_true, true_and, Bool.or_eq_true, Bool.not_eq_true', bne_iff_ne, ne_eq]; omega) | rfl | (simp; done) | (simp; omega)) (by omega) ?_
    refine numI (m := 28) (by first | (simp only [Bool.and_eq_true, Bool.and_true, Bool.true_and, decide_eq_true_eq, blt_iff, Nat.ble_eq, nbeq, cellsI_len,  List.length_append, List.length_cons, List.length_nil, Int.toNat_natCast, and_true, true_and, Bool.or_eq_true, Bool.not_eq_true', bne_iff_ne, ne_eq]; done) | (simp only [Bool.and_eq_true, Bool.and_true, Bool.true_and, decide_eq_true_eq, blt_iff, Nat.ble_eq, nbeq, cellsI_len,  List.length_append, List.length_cons, List.length_nil, Int.toNat_natCast, and_true, true_and, Bool.or_eq_true, Bool.not_eq_true', bne_iff_ne, ne_eq]; omega) | rfl | (simp; done) | (simp; omega)) (by omega) ?_
    refine numI (m := 32) (by first | (simp only [Bool.and_eq_true, Bool.and_true, Bool.true_and, decide_eq_true_eq, blt_iff, Nat.ble_eq, nbeq, cellsI_len,  List.length_append, List.length_cons, List.length_nil, Int.toNat_natCast, and_true, true_and, Bool.or_eq_true, Bool.not_eq_true', bne_iff_ne, ne_eq]; done) | (simp only [Bool.and_eq_true, Bool.and_true, Bool.true_and, decide_eq_true_eq, blt_iff, Nat.ble_eq, nbeq, cellsI_len,  List.length_append, List.length_cons, List.length_nil, Int.toNat_natCast, and_true, true_and, Bool.or_eq_true, Bool.not_eq_true', bne_iff_ne, ne_eq]; omega) | rfl | (simp; done) | (simp; omega)) (by omega) ?_
    refine numI (m := 36) (by first | (simp only [Bool.and_eq_true, Bool.and_true, Bool.true_and, decide_eq_true_eq, blt_iff, Nat.ble_eq, nbeq, cellsI_len,  List.length_append, List.length_cons, List.length_nil, Int.toNat_natCast, and_true, true_and, Bool.or_eq_true, Bool.not_eq_true', bne_iff_ne, ne_eq]; done) | (simp only [Bool.and_eq_true, Bool.and_true, Bool.true_and, decide_eq_true_eq, blt_iff, Nat.ble_eq, nbeq, cellsI_len,  List.length_append, List.length_cons, List.length_nil, Int.toNat_natCast, and_true, true_and, Bool.or_eq_true, Bool.not_eq_true', bne_iff_ne, ne_eq]; omega) | rfl | (simp; done) | (simp; omega)) (by omega) ?_
    refine numI (m := 40) (by first | (simp only [Bool.and_eq_true, Bool.and_true, Bool.true_and, decide_eq_true_eq, blt_iff, Nat.ble_eq, nbeq, cellsI_len,  List.length_append, List.length_cons, List.length_nil, Int.toNat_natCast, and_true, true_and, Bool.or_eq_true, Bool.not_eq_true', bne_iff_ne, ne_eq]; done) | (simp only [Bool.and_eq_true, Bool.and_true, Bool.true_and, decide_eq_true_eq, blt_iff, Nat.ble_eq, nbeq, cellsI_len,  List.length_append, List.length_cons, List.length_nil, Int.toNat_natCast, and_true, true_and, Bool.or_eq_true, Bool.not_eq_true', bne_iff_ne, ne_eq]; omega) | rfl | (simp; done) | (simp; omega)) (by omega) ?_
    refine numI (m := 44) (by first | (simp only [Bool.and_eq_true, Bool.and_true, Bool.true_and, decide_eq_true_eq, blt_iff, Nat.ble_eq, nbeq, cellsI_len,  List.length_append, List.length_cons, List.length_nil, Int.toNat_natCast, and_true, true_and, Bool.or_eq_true, Bool.not_eq_true', bne_iff_ne, ne_eq]; done) | (simp only [Bool.and_eq_true, Bool.and_true, Bool.true_and, decide_eq_true_eq, blt_iff, Nat.ble_eq, nbeq, cellsI_len,  List.length_append, List.length_cons, List.length_nil, Int.toNat_natCast, and_true, true_and, Bool.or_eq_true, Bool.not_eq_true', bne_iff_ne, ne_eq]; omega) | rfl | (simp; done) | (simp; omega)) (by omega) ?_
    refine numI (m := 48) (by first | (simp only [Bool.and_eq_true, Bool.and_true, Bool.true_and, decide_eq_true_eq, blt_iff, Nat.ble_eq, nbeq, cellsI_len,  List.length_append, List.length_cons, List.length_nil, Int.toNat_natCast, and_true, true_and, Bool.or_eq_true, Bool.not_eq_true', bne_iff_ne, ne_eq]; done) | (simp only [Bool.and_eq_true, Bool.and_true, Bool.true_and, decide_eq_true_eq, blt_iff, Nat.ble_eq, nbeq, cellsI_len,  List.length_append, List.length_cons, List.length_nil, Int.toNat_natCast, and_true, true_and, Bool.or_eq_true, Bool.not_eq_true', bne_iff_ne, ne_eq]; omega) | rfl | (simp; done) | (simp; omega)) (by omega) ?_
    refine numI (m := 52) (by first | (simp only [Bool.and_eq_true, Bool.and_true, Bool.true_and, decide_eq_true_eq, blt_iff, Nat.ble_eq, nbeq, cellsI_len,  List.length_append, List.length_cons, List.length_nil, Int.toNat_natCast, and_true, true_and, Bool.or_eq_true, Bool.not_eq_true', bne_iff_ne, ne_eq]; done) | (simp only [Bool.and_eq_true, Bool.and_true, Bool.true_and, decide_eq_true_eq, blt_iff, Nat.ble_eq, nbeq, cellsI_len,  List.length_append, List.length_cons, List.length_nil, Int.toNat_natCast, and_true, true_and, Bool.or_eq_true, Bool.not_eq_true', bne_iff_ne, ne_eq]; omega) | rfl | (simp; done) | (simp; omega)) (by omega) ?_
    refine numI (m := 56) (by first | (simp only [Bool.and_eq_true, Bool.and_true, Bool.true_and, decide_eq_true_eq, blt_iff, Nat.ble_eq, nbeq, cellsI_len,  List.length_append, List.length_cons, List.length_nil, Int.toNat_natCast, and_true, true_and, Bool.or_eq_true, Bool.not_eq_true', bne_iff_ne, ne_eq]; done) | (simp only [Bool.and_eq_true, Bool.and_true, Bool.true_and, decide_eq_true_eq, blt_iff, Nat.ble_eq, nbeq, cellsI_len,  List.length_append, List.length_cons, List.length_nil, Int.toNat_natCast, and_true, true_and, Bool.or_eq_true, Bool.not_eq_true', bne_iff_ne, ne_eq]; omega) | rfl | (simp; done) | (simp; omega)) (by omega) ?_
    refine numI (m := 60) (by first | (simp only [Bool.and_eq_true, Bool.and_true, Bool.true_and, decide_eq_true_eq, blt_iff, Nat.ble_eq, nbeq, cellsI_len,  List.length_append, List.length_cons, List.length_nil, Int.toNat_natCast, and_true, true_and, Bool.or_eq_true, Bool.not_eq_true', bne_iff_ne, ne_eq]; done) | (simp only [Bool.and_eq_true, Bool.and_true, Bool.true_and, decide_eq_true_eq, blt_iff, Nat.ble_eq, nbeq, cellsI_len,  List.length_append, List.length_cons, List.length_nil, Int.toNat_natCast, and_true, true_and, Bool.or_eq_true, Bool.not_eq_true', bne_iff_ne, ne_eq]; omega) | rfl | (simp; done) | (simp; omega)) (by omega) ?_
    refine ⟨⟨numM s 0, numM s 4, numM s 8, numM s 12, numM s 16, numM s 20, numM s 24, numM s 28, numM s 32, numM s 36, numM s 40, numM s 44, numM s 48, numM s 52, numM s 56, numM s 60⟩, ⟨rfl⟩, fun l hl2 => ?_⟩
    have hll : l.length = 64 := by rw [hl2.h]; exact len_blk _ _
    have hcl : (cells8NM l).length = 64 := by simp [cells8NM, hll]
    rw [setRange_full _ _ (by rw [hcl]; simp)]
    have ht : List.take 64 (List.drop 0 (cells8NM l)) = cells8NM l := by rw [List.drop_zero, List.take_of_length_le (by omega)]
    rw [← hl2.h] at hq'
    clear hl2
    rw [ht, toB_8]
    exact ckI (by rw [hcl, oneL_8]; rfl) (ckI (by rw [hcl]; rfl) (ckI (by rw [hcl, allU8_8]; rfl) ⟨_, rfl, hq'⟩))
  · have hq' := hq _ _ (if_neg hr)
    simp only [rightM, Bool.and_eq_true, nbeq, decide_eq_true_eq] at hr
    refine ⟨_, rfl, splitE (fun h1 => ⟨_, rfl, splitE (fun h2 => splitD (fun h3 => splitD (fun h4 => ?_) (fun _ => hq')) (fun _ => hq')) (fun _ => hq')⟩) (fun _ => hq')⟩
    exact absurd ⟨⟨⟨by omega, by omega⟩, by omega⟩, by omega⟩ hr

def cBlock : Con
  | [.str key, .str nonce, .int .i64 c], H, K => ∀ s e, Lf (blockM key nonce c = (s, e)) → K (.ret (.tup [.str s, .int .i64 e])) H
  | _, _, _ => False
theorem block_ok : ValidF Try.prog gl0 80 cBlock := by
  refine valid_flat (enters_of (by kernel_rfl)) gl0_noY fun args H Q hc => ?_
  unfold cBlock at hc
  split at hc
  · rename_i key nonce c
    obtain ⟨hv, hb', h⟩ := block_run key nonce c (Q := fun o H' _ => H' = [] ∧ (∃ v, o = .ret v ∧ old 0 v = true ∧ noY v = true) ∧ Q o H) (fun s e he => ⟨rfl, ⟨_, rfl, rfl, rfl⟩, hc s e ⟨he⟩⟩)
    exact ⟨rfl, rfl, _, 1000, envFor04 smC_ok _ _ _, rfl, h⟩
  · exact hc.elim
end Go.Proofs.Ytiholnebhmjbjaa
