/-
  Chapter 01 (OctetsDigits): contracts of Hex, Unhex, ToUpper; the run of the law.
-/
import Derived.Test.YthaapjfnadfmgaaDoorD01B
import Derived.Test.YthaapjfnadfmgaaDoorD01P
set_option linter.unusedSimpArgs false
set_option linter.unusedVariables false
set_option linter.unusedSectionVars false
namespace Go.Proofs.YthaapjfnadfmgaaDoor
open Go.RowKit
set_option maxRecDepth 1000000

def cHex : Con
  | [.str s], H, K => Lf (s.length ≤ 1000000) ∧ ∀ t, Lf (t = hexM s) → K (.ret (.str t)) H
  | _, _, _ => False
theorem hex_ok : ValidF Tryd.prog gl0 5 cHex := by
  refine valid_flat (enters_of (by kernel_rfl)) gl0_noY fun args H Q hc => ?_
  unfold cHex at hc
  split at hc
  · rename_i s
    obtain ⟨⟨h1⟩, hq⟩ := hc
    obtain ⟨hv, hb', h⟩ := hex_run s h1 (Q := fun o H' _ => H' = [] ∧ (∃ v, o = .ret v ∧ old 0 v = true ∧ noY v = true) ∧ Q o H) ⟨rfl, ⟨_, rfl, rfl, rfl⟩, hq _ ⟨rfl⟩⟩
    exact ⟨rfl, rfl, _, 1000, envFor01 sm0_ok _ _ _, rfl, h⟩
  · exact hc.elim
def cUnhex : Con
  | [.str s], H, K => Lf (s.length ≤ 1000000) ∧ ∀ t e, Lf (unhRM s = (t, e)) → K (.ret (.tup [.str t, .int .i64 e])) H
  | _, _, _ => False
theorem unhex_ok : ValidF Tryd.prog gl0 7 cUnhex := by
  refine valid_flat (enters_of (by kernel_rfl)) gl0_noY fun args H Q hc => ?_
  unfold cUnhex at hc
  split at hc
  · rename_i s
    obtain ⟨⟨h1⟩, hq⟩ := hc
    obtain ⟨hv, hb', h⟩ := unhex_run s h1 (Q := fun o H' _ => H' = [] ∧ (∃ v, o = .ret v ∧ old 0 v = true ∧ noY v = true) ∧ Q o H) ⟨rfl, ⟨_, rfl, rfl, rfl⟩, hq _ _ ⟨rfl⟩⟩
    exact ⟨rfl, rfl, _, 1000, envFor01 sm0_ok _ _ _, rfl, h⟩
  · exact hc.elim
def upM (s : List UInt8) : List UInt8 := Lib.toUpperA s
def cUpper : Con
  | [.str s], H, K => Lf (s.length ≤ 1000000 ∧ ∀ c ∈ s, c.toNat < 128) ∧ ∀ t, Lf (t = upM s) → K (.ret (.str t)) H
  | _, _, _ => False
theorem upper_ok : ValidF Tryd.prog gl0 8 cUpper := by
  refine valid_below (enters_of (by kernel_rfl)) fun args H Q hc m w vs hv => ?_
  unfold cUpper at hc
  split at hc
  · rename_i s
    obtain ⟨⟨h1, h2⟩, hq⟩ := hc
    obtain ⟨v1, l1, e1, h1', r1⟩ := VRL_consL hv
    rw [VRL_nil] at r1
    subst r1
    simp only [VR] at h1'
    subst h1'
    have ev : vs = #[.string ⟨s.toArray⟩] := by
      cases vs
      simp only at e1
      rw [e1]
    subst ev
    have hr := Tryd.strings_ToUpper_ascii ⟨s.toArray⟩ w (by simp [ByteArray.size]; omega) (fun j b hj => h2 b (by simpa using List.mem_of_getElem? hj))
    exact ⟨_, _, hq _ ⟨rfl⟩, by simp [VR, upM], hr⟩
  · exact hc.elim

/-! ## plain facts -/
theorem val_dig : ∀ n : Nat, n < 16 → valM (digM n) = (n : Int) := by decide
theorem unh_hex : ∀ s : List UInt8, unhM (hexM s) = s
  | [] => rfl
  | c :: s => by
    have h := c.toNat_lt
    rw [hexM, unhM, unh_hex s, val_dig _ (by omega), val_dig _ (by omega)]
    congr 1
    rw [Int.toNat_natCast, Int.toNat_natCast, show c.toNat / 16 * 16 + c.toNat % 16 = c.toNat by omega]
    simp
theorem all_hex : ∀ s : List UInt8, allM (hexM s) = true
  | [] => rfl
  | c :: s => by
    have h := c.toNat_lt
    have := all_hex s
    rw [allM] at this
    rw [hexM, allM, List.all_cons, List.all_cons, this, val_dig _ (by omega), val_dig _ (by omega), decide_eq_true (by omega), decide_eq_true (by omega)]
    rfl
theorem unhR_hex (s : List UInt8) : unhRM (hexM s) = (s, 0) := by
  rw [unhRM, if_pos ⟨all_hex s, by rw [hex_len]; omega⟩, unh_hex]
theorem unhR_odd {s : List UInt8} (h : s.length % 2 = 1) : unhRM s = ([], 5) := by
  rw [unhRM, if_neg (fun x => by omega)]
theorem dig_asc : ∀ n : Nat, n < 16 → (digM n).toNat < 128 := by decide
theorem hex_asc : ∀ s : List UInt8, ∀ c ∈ hexM s, c.toNat < 128
  | [], c, h => by simp [hexM] at h
  | d :: s, c, h => by
    have hd := d.toNat_lt
    rw [hexM, List.mem_cons, List.mem_cons] at h
    rcases h with rfl | rfl | h
    · exact dig_asc _ (by omega)
    · exact dig_asc _ (by omega)
    · exact hex_asc s c h
theorem dig_up : ∀ n : Nat, n < 16 → Lib.upperB (digM n) = digM n ∨ valM (Lib.upperB (digM n)) < 0 := by decide
/-- great letters are no digits -/
theorem up_hex : ∀ s : List UInt8, upM (hexM s) = hexM s ∨ allM (upM (hexM s)) = false
  | [] => .inl rfl
  | d :: s => by
    have hd := d.toNat_lt
    have e : upM (hexM (d :: s)) = Lib.upperB (digM (d.toNat / 16)) :: Lib.upperB (digM (d.toNat % 16)) :: upM (hexM s) := rfl
    rw [e, allM, List.all_cons, List.all_cons]
    have := up_hex s
    rw [allM] at this
    rcases dig_up (d.toNat / 16) (by omega) with h1 | h1
    · rcases dig_up (d.toNat % 16) (by omega) with h2 | h2
      · rcases this with h3 | h3
        · exact .inl (by rw [h1, h2, h3]; rfl)
        · exact .inr (by rw [h3]; simp)
      · exact .inr (by rw [decide_eq_false (by omega : ¬ (0 ≤ valM (Lib.upperB (digM (d.toNat % 16)))))]; simp)
    · exact .inr (by rw [decide_eq_false (by omega : ¬ (0 ≤ valM (Lib.upperB (digM (d.toNat / 16)))))]; simp)
theorem unhR_up {s : List UInt8} (h : upM (hexM s) ≠ hexM s) : unhRM (upM (hexM s)) = ([], 5) := by
  rcases up_hex s with h1 | h1
  · exact absurd h1 h
  · rw [unhRM, if_neg (fun x => by rw [h1] at x; cases x.1)]

/-! ## the run -/
def smD : SM := lookS [(4, cTrue), (5, cHex), (7, cUnhex), (8, cUpper)]
theorem smD_ok : ∀ f g, smD f = some g → ValidF Tryd.prog gl0 f g := lookS_ok _ (by simp only [List.mem_cons, List.not_mem_nil, or_false, forall_eq_or_imp, forall_eq]; exact ⟨works_ok, hex_ok, unhex_ok, upper_ok⟩)
noncomputable def goal_3 (hv : Nat → Option Pa) (hb : Nat → Option Bool) (s : List UInt8) (c : Int) (Q : Out → List Blk → Gh → Prop) : Prop :=
  callx (e01 smD (fun _ => none) hv hb) (wpx (e01 smD (fun _ => none) hv hb) 1000) 3 [.str s, .int .u8 c] [] {} Q
theorem vc_3 (s : List UInt8) (c : Int) (Q : Out → List Blk → Gh → Prop) : goal_3 (lookV [(12299, .int .i64), (12300, .int .i64), (12301, .str), (12305, .int .i64), (12307, .int .i64), (12308, .int .i64), (12324, .str), (12325, .str), (12330, .str), (12332, .str), (12336, .int .i64), (12342, .int .i64), (12343, .int .i64), (12344, .str)]) (lookB []) s c Q = (
(∃ n_0 : Int, (((AV.int .i64 (Nat.cast (List.length s) : Int)) = (AV.int .i64 n_0)) ∧
 (∃ n_1 : Int, (((AV.int .i64 (imin n_0 (300 : Int))) = (AV.int .i64 n_1)) ∧
 (bif (((decide ((0 : Int) ≤ n_1)) && true) && (Nat.ble (Int.toNat n_1) (List.length s))) then (∃ s_2 : (List UInt8), (((AV.str (List.take ((Int.toNat n_1) - (0 : Nat)) (List.drop (0 : Nat) s))) = (AV.str s_2)) ∧
 ((Lf ((List.length s_2) ≤ (1000000 : Nat))) ∧
 (∀ t_3 : (List UInt8), ((Lf (t_3 = (hexM s_2))) →
(∃ n_4 : Int, (((AV.int .i64 (Nat.cast (List.length t_3) : Int)) = (AV.int .i64 n_4)) ∧
 (∃ n_5 : Int, (((AV.int .i64 (Nat.cast (List.length s_2) : Int)) = (AV.int .i64 n_5)) ∧
 (∃ n_6 : Int, (((AV.int .i64 (IntKind.wrap .i64 ((2 : Int) * n_5))) = (AV.int .i64 n_6)) ∧
 (bif (n_4 != n_6) then (Q (Out.ret (AV.bool false)) [] (Gh.mk (0 : Nat) (0 : Nat) []))
else ((Lf ((List.length t_3) ≤ (1000000 : Nat))) ∧
 (∀ t_7 : (List UInt8), (∀ e_8 : Int, ((Lf ((unhRM t_3) = (Prod.mk t_7 e_8))) →
(bif (eqB t_7 s_2) then (bif (e_8 == (0 : Int)) then (∃ s_9 : (List UInt8), (((AV.str ((toB (AV.int .u8 c)) :: [])) = (AV.str s_9)) ∧
 (bif ((decide (((List.length s_2) + (List.length s_9)) ≤ (9223372036854775807 : Nat))) && true) then (∃ s_10 : (List UInt8), (((AV.str (s_2 ++ s_9)) = (AV.str s_10)) ∧
 (∃ s_11 : (List UInt8), (((AV.str ((toB (AV.int .u8 c)) :: [])) = (AV.str s_11)) ∧
 ((Lf ((List.length s_10) ≤ (1000000 : Nat))) ∧
 (∀ t_12 : (List UInt8), ((Lf (t_12 = (hexM s_10))) →
(bif ((eqAVL ((AV.int .u8 c) :: []) ((AV.int .u8 c) :: [])) && true) then (bif (eqAVL ((AV.int .u8 c) :: []) ((AV.int .u8 c) :: [])) then ((Lf ((List.length s_11) ≤ (1000000 : Nat))) ∧
 (∀ t_13 : (List UInt8), ((Lf (t_13 = (hexM s_11))) →
(bif ((decide (((List.length t_3) + (List.length t_13)) ≤ (9223372036854775807 : Nat))) && true) then (∃ s_14 : (List UInt8), (((AV.str (t_3 ++ t_13)) = (AV.str s_14)) ∧
 (bif (!(eqB t_12 s_14)) then (Q (Out.ret (AV.bool false)) [] (Gh.mk (0 : Nat) (0 : Nat) []))
else (∃ n_15 : Int, (((AV.int .i64 (Nat.cast (List.length t_3) : Int)) = (AV.int .i64 n_15)) ∧
 (bif (decide (n_15 > (0 : Int))) then (∃ n_16 : Int, (((AV.int .i64 (Nat.cast (List.length t_3) : Int)) = (AV.int .i64 n_16)) ∧
 (∃ n_17 : Int, (((AV.int .i64 (IntKind.wrap .i64 (n_16 - (1 : Int)))) = (AV.int .i64 n_17)) ∧
 (bif (((decide ((0 : Int) ≤ n_17)) && true) && (Nat.ble (Int.toNat n_17) (List.length t_3))) then (∃ s_18 : (List UInt8), (((AV.str (List.take ((Int.toNat n_17) - (0 : Nat)) (List.drop (0 : Nat) t_3))) = (AV.str s_18)) ∧
 ((Lf ((List.length s_18) ≤ (1000000 : Nat))) ∧
 (∀ t_19 : (List UInt8), (∀ e_20 : Int, ((Lf ((unhRM s_18) = (Prod.mk t_19 e_20))) →
(bif (eqB t_19 []) then (bif (e_20 == (5 : Int)) then ((Lf (((List.length t_3) ≤ (1000000 : Nat)) ∧
 (∀ c_21 : UInt8, ((Membership.mem t_3 c_21) →
((UInt8.toNat c_21) < (128 : Nat)))))) ∧
 (∀ t_21 : (List UInt8), ((Lf (t_21 = (upM t_3))) →
(bif (eqB t_21 t_3) then (Q (Out.ret (AV.bool true)) [] (Gh.mk (0 : Nat) (0 : Nat) []))
else ((Lf ((List.length t_21) ≤ (1000000 : Nat))) ∧
 (∀ t_22 : (List UInt8), (∀ e_23 : Int, ((Lf ((unhRM t_21) = (Prod.mk t_22 e_23))) →
(bif (eqB t_22 []) then (bif (e_23 == (5 : Int)) then (Q (Out.ret (AV.bool true)) [] (Gh.mk (0 : Nat) (0 : Nat) []))
else (Q (Out.ret (AV.bool false)) [] (Gh.mk (0 : Nat) (0 : Nat) [])))
else (Q (Out.ret (AV.bool false)) [] (Gh.mk (0 : Nat) (0 : Nat) [])))))))))))
else (Q (Out.ret (AV.bool false)) [] (Gh.mk (0 : Nat) (0 : Nat) [])))
else (Q (Out.ret (AV.bool false)) [] (Gh.mk (0 : Nat) (0 : Nat) [])))))))))
else False)))))
else ((Lf (((List.length t_3) ≤ (1000000 : Nat)) ∧
 (∀ c_16 : UInt8, ((Membership.mem t_3 c_16) →
((UInt8.toNat c_16) < (128 : Nat)))))) ∧
 (∀ t_16 : (List UInt8), ((Lf (t_16 = (upM t_3))) →
(bif (eqB t_16 t_3) then (Q (Out.ret (AV.bool true)) [] (Gh.mk (0 : Nat) (0 : Nat) []))
else ((Lf ((List.length t_16) ≤ (1000000 : Nat))) ∧
 (∀ t_17 : (List UInt8), (∀ e_18 : Int, ((Lf ((unhRM t_16) = (Prod.mk t_17 e_18))) →
(bif (eqB t_17 []) then (bif (e_18 == (5 : Int)) then (Q (Out.ret (AV.bool true)) [] (Gh.mk (0 : Nat) (0 : Nat) []))
else (Q (Out.ret (AV.bool false)) [] (Gh.mk (0 : Nat) (0 : Nat) [])))
else (Q (Out.ret (AV.bool false)) [] (Gh.mk (0 : Nat) (0 : Nat) [])))))))))))))))))
else False))))
else False)
else False))))))))
else False)))
else (Q (Out.ret (AV.bool false)) [] (Gh.mk (0 : Nat) (0 : Nat) [])))
else (Q (Out.ret (AV.bool false)) [] (Gh.mk (0 : Nat) (0 : Nat) [])))))))))))))))))))
else False)))))) := by kernel_rfl

theorem iminI {x : Int} {a b : Nat} (hx : x = (a : Int)) {K : Int → Prop} (h : K ((min a b : Nat) : Int)) : ∃ n : Int, AV.int .i64 (imin x (b : Int)) = AV.int .i64 n ∧ K n := by
  subst hx
  refine ⟨_, ?_, h⟩
  congr 1
  unfold imin
  split <;> omega
theorem take_imin (s : List UInt8) (n : Nat) : List.take (Int.toNat ((min s.length n : Nat) : Int) - 0) (List.drop 0 s) = s.take n := by
  rw [Int.toNat_natCast, Nat.sub_zero, List.drop_zero]
  by_cases h : s.length ≤ n
  · rw [Nat.min_eq_left h, List.take_of_length_le (Nat.le_refl _), List.take_of_length_le h]
  · rw [Nat.min_eq_right (by omega)]
theorem eqB_self (s : List UInt8) : eqB s s = true := by
  rw [eqB_iff]; simp
theorem eqB_is {a b : List UInt8} (h : a = b) {A B : Prop} (k : A) : bif eqB a b then A else B := by
  subst h; rw [eqB_self]; exact k
theorem neqB_is {a b : List UInt8} (h : a = b) {A B : Prop} (k : B) : bif !(eqB a b) then A else B := by
  subst h; rw [eqB_self]; exact k
theorem splitB {a b : List UInt8} {A B : Prop} (h : a = b → A) (k : a ≠ b → B) : bif eqB a b then A else B := by
  by_cases e : a = b
  · exact eqB_is e (h e)
  · rw [eqB_iff, show (a == b) = false by simpa using e]; exact k e
theorem eqAVL_one (c : Int) : eqAVL [AV.int .u8 c] [AV.int .u8 c] = true := by
  simp [eqAVL, eqAV]
theorem digits_run (s : List UInt8) (c : Int) (Q : Out → List Blk → Gh → Prop) (hs : s.length ≤ 9223372036854775807) (hq : Q (.ret (.bool true)) [] {}) : ∃ hv hb, goal_3 hv hb s c Q := by
  obtain ⟨hv, hb', e⟩ : ∃ hv hb, goal_3 hv hb s c Q = _ := ⟨_, _, vc_3 s c Q⟩
  refine ⟨hv, hb', e.mpr ?_⟩
  clear e
  refine ⟨_, rfl, iminI (b := 300) rfl (ckI (by simp; omega) ⟨s.take 300, by rw [take_imin], ?_⟩)⟩
  have hl : (s.take 300).length ≤ 300 := by rw [List.length_take]; omega
  generalize s.take 300 = s' at *
  refine ⟨⟨by omega⟩, ?_⟩
  rintro h ⟨rfl⟩
  have hh := hex_len s'
  refine ⟨_, rfl, _, rfl, wrapI (by omega) (by omega) (splitNE (fun x => absurd (by rw [hh]; omega) x) (fun _ => ⟨⟨by omega⟩, ?_⟩))⟩
  rintro t e ⟨hu⟩
  rw [unhR_hex, Prod.mk.injEq] at hu
  obtain ⟨rfl, rfl⟩ := hu
  refine eqB_is rfl (splitE (fun _ => ?_) (fun x => absurd rfl x))
  refine ⟨_, rfl, ckI (by simp; omega) ⟨_, rfl, _, rfl, ⟨by rw [List.length_append]; simp; omega⟩, ?_⟩⟩
  rintro h2 ⟨rfl⟩
  refine ckI (by rw [eqAVL_one]; rfl) (ckI (eqAVL_one c) ⟨⟨by simp⟩, ?_⟩)
  rintro h3 ⟨rfl⟩
  have hl3 : (hexM [toB (AV.int .u8 c)]).length = 2 := rfl
  refine ckI (by rw [hl3]; simp; omega) ⟨_, rfl, neqB_is (hex_app _ _) ⟨_, rfl, ?_⟩⟩
  have key : Lf ((hexM s').length ≤ 1000000 ∧ ∀ c ∈ hexM s', c.toNat < 128) := ⟨by omega, hex_asc s'⟩
  have fin : ∀ t : List UInt8, Lf (t = upM (hexM s')) → bif eqB t (hexM s') then Q (.ret (.bool true)) [] {} else (Lf (t.length ≤ 1000000) ∧ ∀ t1 : List UInt8, ∀ e1 : Int, Lf (unhRM t = (t1, e1)) → bif eqB t1 [] then (bif e1 == (5 : Int) then Q (.ret (.bool true)) [] {} else Q (.ret (.bool false)) [] {}) else Q (.ret (.bool false)) [] {}) := by
    rintro t ⟨rfl⟩
    refine splitB (fun _ => hq) (fun hn => ⟨⟨by show (List.map _ _).length ≤ _; rw [List.length_map]; omega⟩, ?_⟩)
    rintro t1 e1 ⟨hu⟩
    rw [unhR_up hn, Prod.mk.injEq] at hu
    obtain ⟨rfl, rfl⟩ := hu
    exact eqB_is rfl (splitE (fun _ => hq) (fun x => absurd rfl x))
  refine splitD (fun hp => ?_) (fun _ => ⟨key, fin⟩)
  refine ⟨_, rfl, wrapI (by omega) (by omega) (ckI (by simp; omega) ⟨_, rfl, ⟨?_⟩, ?_⟩)⟩
  · rw [List.length_take]; simp; omega
  · rintro t e ⟨hu⟩
    rw [unhR_odd (by rw [List.length_take, List.length_drop]; omega), Prod.mk.injEq] at hu
    obtain ⟨rfl, rfl⟩ := hu
    exact eqB_is rfl (splitE (fun _ => ⟨key, fin⟩) (fun x => absurd rfl x))
end Go.Proofs.YthaapjfnadfmgaaDoor
