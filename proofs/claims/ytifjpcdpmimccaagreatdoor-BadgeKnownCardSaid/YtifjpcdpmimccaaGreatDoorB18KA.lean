/-
  Chapter 18: BadgeKnown: strings.ToUpper, small products; residual.
-/
import Derived.Test.YtifjpcdpmimccaaGreatDoorB18Y2
import Derived.Test.YtifjpcdpmimccaaGreatDoorBmK
set_option linter.unusedSimpArgs false
set_option linter.unusedVariables false
set_option linter.unusedSectionVars false
namespace Go.Proofs.YtifjpcdpmimccaaGreatDoor
open Go.RowKit
set_option maxRecDepth 1000000

def upM (s : List UInt8) : List UInt8 := Lib.toUpperA s
def cUp : Con
  | [.str s], H, K => Lf (s.length ≤ 1000000 ∧ s.all (fun c => Nat.blt c.toNat 128) = true) ∧ ∀ x, Lf (x = upM s) → K (.ret (.str x)) H
  | _, _, _ => False
theorem up_ok : ValidF Tryz.prog gl0 34 cUp := by
  refine valid_below (enters_of (by kernel_rfl)) fun args H Q hc m w vs hv => ?_
  unfold cUp at hc
  split at hc
  · rename_i s
    obtain ⟨⟨h0, h9⟩, hq⟩ := hc
    obtain ⟨v, rfl, h1⟩ := VRL_one hv
    simp only [VR] at h1
    subst h1
    refine ⟨_, .string ⟨(upM s).toArray⟩, hq _ ⟨rfl⟩, by simp [VR], (Tryz.strings_ToUpper_ascii ⟨s.toArray⟩ w (by simp [ByteArray.size]; omega) (fun j b hb => ?_)).mono fun e w' h => ⟨by rw [h.1]; simp [upM], h.2⟩⟩
    rw [List.all_eq_true] at h9
    simpa using h9 b (List.mem_of_getElem? hb)
  · exact hc.elim
def cMulS : Con
  | [.int .u64 a, .int .u64 b], H, K => bif (decide (0 ≤ a) && Nat.blt a.toNat 4294967296) && (decide (0 ≤ b) && Nat.blt b.toNat 4294967296) then K (.ret (.tup [.int .u64 0, .int .u64 (a * b)])) H else False
  | _, _, _ => False
theorem mulS_ok : ValidF Tryz.prog gl0 91 cMulS := by
  refine valid_below (enters_of (by kernel_rfl)) fun args H Q hc m w vs hv => ?_
  unfold cMulS at hc
  split at hc
  · rename_i a b
    cases hb : (decide (0 ≤ a) && Nat.blt a.toNat 4294967296) && (decide (0 ≤ b) && Nat.blt b.toNat 4294967296)
    · rw [hb] at hc; exact hc.elim
    · rw [hb] at hc
      simp only [Bool.and_eq_true, decide_eq_true_eq, blt_iff] at hb
      obtain ⟨v, u, rfl, h1, h2⟩ := VRL_two hv
      simp only [VR] at h1 h2
      subst h1
      subst h2
      obtain ⟨x, rfl⟩ : ∃ n : Nat, a = n := ⟨a.toNat, by omega⟩
      obtain ⟨y, rfl⟩ : ∃ n : Nat, b = n := ⟨b.toNat, by omega⟩
      have hxy : x * y < 4294967296 * 4294967296 := Nat.mul_lt_mul'' (by omega) (by omega)
      refine ⟨_, .tuple #[.int .u64 0, .int .u64 ((x : Int) * y)], hc, ?_, (Tryz.bits_Mul64 x y (by omega) (by omega) w).mono fun e w' ⟨h1, h2⟩ => ⟨?_, by rw [h2]; exact Below.refl _ _⟩⟩
      · rw [VR]
        exact ⟨_, rfl, by simp [VRL_cons, VRL_nil, VR]⟩
      · rw [h1, Nat.div_eq_of_lt (by omega), Nat.mod_eq_of_lt (by omega)]
        simp
  · exact hc.elim
def fn62 : AFn := ⟨[(.tmp 4), (.tmp 5)], (.seq (.region [⟨(some 4), .mv (.c (.int .u64 (.ofNat 0))), none, 0, 0⟩, ⟨(some 5), .mv (.c (.int .u64 (.ofNat 0))), none, 0, 0⟩]) (.seq (.cond (.c (.bool false)) (.seq (.region [⟨(some 11), .mv (.t 0), none, 0, 0⟩, ⟨(some 12), .conv (.toInt .u32) (.t 11), none, 0, 0⟩, ⟨(some 13), .mv (.t 1), none, 0, 0⟩, ⟨(some 14), .conv (.toInt .u32) (.t 13), none, 0, 0⟩, ⟨(some 15), .call (.c (.fn (.func 90) [] [])) [(.t 12), (.t 14)], none, 0, 0⟩, ⟨(some 10), .mv (.t 15), none, 0, 0⟩, ⟨(some 16), .ext (.t 10) 0, none, 0, 0⟩, ⟨(some 17), .ext (.t 10) 1, none, 0, 0⟩, ⟨(some 6), .mv (.t 16), none, 0, 0⟩, ⟨(some 7), .mv (.t 17), none, 0, 0⟩]) (.seq (.region [⟨(some 18), .mv (.t 6), none, 0, 0⟩, ⟨(some 19), .conv (.toInt .u64) (.t 18), none, 0, 0⟩, ⟨(some 20), .mv (.t 7), none, 0, 0⟩, ⟨(some 21), .conv (.toInt .u64) (.t 20), none, 0, 0⟩, ⟨(some 4), .mv (.t 19), none, 0, 0⟩, ⟨(some 5), .mv (.t 21), none, 0, 0⟩]) .ret)) .skip) (.seq (.region [⟨(some 23), .mv (.t 0), none, 0, 0⟩, ⟨(some 24), .mv (.t 1), none, 0, 0⟩, ⟨(some 25), .call (.c (.fn (.func 91) [] [])) [(.t 23), (.t 24)], none, 0, 0⟩, ⟨(some 22), .mv (.t 25), none, 0, 0⟩, ⟨(some 26), .ext (.t 22) 0, none, 0, 0⟩, ⟨(some 27), .ext (.t 22) 1, none, 0, 0⟩, ⟨(some 8), .mv (.t 26), none, 0, 0⟩, ⟨(some 9), .mv (.t 27), none, 0, 0⟩]) (.seq (.region [⟨(some 28), .mv (.t 8), none, 0, 0⟩, ⟨(some 29), .mv (.t 9), none, 0, 0⟩, ⟨(some 4), .mv (.t 28), none, 0, 0⟩, ⟨(some 5), .mv (.t 29), none, 0, 0⟩]) .ret))))⟩
theorem fnEq62 : fnOf Tryz.prog 62 = some fn62 := by kernel_rfl
noncomputable def e62 (sm : SM) : Env :=
  { fn := fun f => bif Nat.beq f 62 then some fn62 else none, sm := sm, gl := gl0, inv := fun _ => none, hv := fun _ => none, hb := fun _ => none, hz := fun _ => false }
def smM : SM := lookS [(91, cMulS)]
theorem smM_ok : ∀ f g, smM f = some g → ValidF Tryz.prog gl0 f g := lookS_ok _ (by simp only [List.mem_cons, List.not_mem_nil, or_false, forall_eq_or_imp, forall_eq]; exact mulS_ok)
theorem envFor62 : EnvFor Tryz.prog (e62 smM) :=
  ⟨mixed18, names18, fun f g h => by
    simp only [e62] at h
    cases hk : Nat.beq f 62
    · rw [hk] at h; cases h
    · rw [hk] at h
      obtain rfl := Nat.eq_of_beq_eq_true hk
      simp only [cond_true, Option.some.injEq] at h
      subst h
      exact fnEq62, smM_ok⟩
theorem mul62_ok : ValidF Tryz.prog gl0 62 cMulS := by
  refine valid_flat (enters_of (by kernel_rfl)) gl0_noY fun args H Q hc => ?_
  unfold cMulS at hc
  split at hc
  · rename_i a b
    refine ⟨rfl, rfl, e62 smM, 1000, envFor62, rfl, ?_⟩
    have e : callx (e62 smM) (wpx (e62 smM) 1000) 62 [.int .u64 a, .int .u64 b] [] {} (fun o H' _ => H' = [] ∧ (∃ v, o = .ret v ∧ old 0 v = true ∧ noY v = true) ∧ Q o H) = (bif (decide (0 ≤ a) && Nat.blt a.toNat 4294967296) && (decide (0 ≤ b) && Nat.blt b.toNat 4294967296) then (([] : List Blk) = [] ∧ (∃ v, Out.ret (.tup [.int .u64 0, .int .u64 (a * b)]) = .ret v ∧ old 0 v = true ∧ noY v = true) ∧ Q (.ret (.tup [.int .u64 0, .int .u64 (a * b)])) H) else False) := by kernel_rfl
    rw [e]
    cases hb : (decide (0 ≤ a) && Nat.blt a.toNat 4294967296) && (decide (0 ≤ b) && Nat.blt b.toNat 4294967296)
    · rw [hb] at hc; exact hc.elim
    · rw [hb] at hc; exact ⟨rfl, ⟨_, rfl, rfl, rfl⟩, hc⟩
  · exact hc.elim
def smKn : SM := lookS [(10, cWakes), (34, cUp), (62, cMulS), (35, cRepeat), (22, cEncB), (14, cDecB), (23, cPrt), (28, cMatchV), (17, cCkp), (30, cAccV), (21, cChk)]
theorem smKn_ok : ∀ f g, smKn f = some g → ValidF Tryz.prog gl0 f g := lookS_ok _ (by simp only [List.mem_cons, List.not_mem_nil, or_false, forall_eq_or_imp, forall_eq]; exact ⟨wakes_ok, up_ok, mul62_ok, repeat_ok, encB_ok, decB_ok, prt_ok, matchV_ok, ckp_ok, accV_ok, chk_ok⟩)
noncomputable def goal_8 (hv : Nat → Option Pa) (hb : Nat → Option Bool) (Q : Out → List Blk → Gh → Prop) : Prop :=
  callx (e18 smKn (fun _ => none) hv hb) (wpx (e18 smKn (fun _ => none) hv hb) 1000) 8 [] [] {} Q
def knT0 (e_12 : Int) (e_15 : Int) (e_18 : Int) (s_0 : List UInt8) (e_6 : Int) (e_109 : Int) (s_108 : List UInt8) (e_115 : Int) (n_110 : List UInt8) (k_111 : List UInt8) (f_112 : Int) (u_113 : Int) (m_114 : Int) (Q : Out → List Blk → Gh →
 Prop) : Prop :=
bif e_12 == 5 then bif e_15 == 3 then bif e_18 == 180 then ∃ l_116 : List (List UInt8), Lf (([AV.str s_0] = cellsSM l_116 ∧ 1 = l_116.length) ∧ List.length [UInt8.ofNat 97, UInt8.ofNat 98] ≤ 9223372036854775807 ∧ ∀ s_117 : List UInt8,
 Membership.mem l_116 s_117 → s_117.length ≤ 9223372036854775807) ∧ ∀ e_117 : Int, Lf (e_117 = accM [UInt8.ofNat 97, UInt8.ofNat 98] (repM [UInt8.ofNat 7] 32) 1 2 3 l_116 0) → bif e_117 == 10 then ∃ l_118 : List (List UInt8), Lf (([AV.str
 s_0] = cellsSM l_118 ∧ 1 = l_118.length) ∧ List.length [UInt8.ofNat 97, UInt8.ofNat 98] ≤ 9223372036854775807 ∧ ∀ s_119 : List UInt8, Membership.mem l_118 s_119 → s_119.length ≤ 9223372036854775807) ∧ ∀ e_119 : Int, Lf (e_119 = accM
 [UInt8.ofNat 97, UInt8.ofNat 98] (repM [UInt8.ofNat 7] 32) 1 2 3 l_118 1) → bif e_119 == 0 then ∃ l_120 : List (List UInt8), Lf ((([] : List AV) = cellsSM l_120 ∧ 0 = l_120.length) ∧ List.length [UInt8.ofNat 97, UInt8.ofNat 98] ≤
 9223372036854775807 ∧ ∀ s_121 : List UInt8, Membership.mem l_120 s_121 → s_121.length ≤ 9223372036854775807) ∧ ∀ e_121 : Int, Lf (e_121 = accM [UInt8.ofNat 97, UInt8.ofNat 98] (repM [UInt8.ofNat 7] 32) 1 2 3 l_120 3) → bif e_121 == 4 then
 ∃ l_122 : List (List UInt8), Lf (([AV.str s_0] = cellsSM l_122 ∧ 1 = l_122.length) ∧ List.length [UInt8.ofNat 97, UInt8.ofNat 98] ≤ 9223372036854775807 ∧ ∀ s_123 : List UInt8, Membership.mem l_122 s_123 → s_123.length ≤
 9223372036854775807) ∧ ∀ e_123 : Int, Lf (e_123 = accM [UInt8.ofNat 97, UInt8.ofNat 98] (repM [UInt8.ofNat 7] 32) 1 2 3 l_122 (Int.negSucc 0)) → bif e_123 == 2 then ∃ l_124 : List (List UInt8), Lf (([AV.str s_0] = cellsSM l_124 ∧ 1 =
 l_124.length) ∧ List.length [UInt8.ofNat 97, UInt8.ofNat 98] ≤ 9223372036854775807 ∧ ∀ s_125 : List UInt8, Membership.mem l_124 s_125 → s_125.length ≤ 9223372036854775807) ∧ ∀ e_125 : Int, Lf (e_125 = accM [UInt8.ofNat 97, UInt8.ofNat 98]
 (repM [UInt8.ofNat 7] 32) 1 2 3 l_124 1099511627777) → bif e_125 == 2 then bif e_6 == 0 then bif e_109 == 0 then exI IntKind.i64 (s_108.length : Int) (fun n_126 => bif n_126 == 86 then bif e_115 == 0 then bif eqB n_110 [UInt8.ofNat 97,
 UInt8.ofNat 46, UInt8.ofNat 45, UInt8.ofNat 46, UInt8.ofNat 45, UInt8.ofNat 46, UInt8.ofNat 45, UInt8.ofNat 46, UInt8.ofNat 45, UInt8.ofNat 46, UInt8.ofNat 45, UInt8.ofNat 46, UInt8.ofNat 45, UInt8.ofNat 46, UInt8.ofNat 45, UInt8.ofNat 46,
 UInt8.ofNat 45, UInt8.ofNat 46, UInt8.ofNat 45, UInt8.ofNat 46, UInt8.ofNat 45, UInt8.ofNat 46, UInt8.ofNat 45, UInt8.ofNat 46, UInt8.ofNat 45, UInt8.ofNat 46, UInt8.ofNat 45, UInt8.ofNat 46, UInt8.ofNat 45, UInt8.ofNat 46, UInt8.ofNat 45,
 UInt8.ofNat 98] && (eqB k_111 (repM [UInt8.ofNat 7] 32) && (f_112 == 1099511627776 && (u_113 == 1099511627776 && (m_114 == 281474976710655 && true)))) then Q (.ret (.bool true)) [] {} else Q (.ret (.bool false)) [] {} else Q (.ret (.bool
 false)) [] {} else Q (.ret (.bool false)) [] {}) else Q (.ret (.bool false)) [] {} else Q (.ret (.bool false)) [] {} else Q (.ret (.bool false)) [] {} else Q (.ret (.bool false)) [] {} else Q (.ret (.bool false)) [] {} else Q (.ret (.bool
 false)) [] {} else Q (.ret (.bool false)) [] {} else Q (.ret (.bool false)) [] {} else Q (.ret (.bool false)) [] {} else Q (.ret (.bool false)) [] {}
theorem vc_8 (Q : Out → List Blk → Gh → Prop) : goal_8 (lookV [(32860, .int .i64), (32914, .str), (32916, .str), (32918, .str), (32919, .str), (32921, .str), (32922, .str), (32924, .str), (32925, .str), (32927, .str), (32928, .str), (32930, .str), (32932, .str), (32933, .str), (33058, .int .i64)]) (lookB []) Q = (Lf (List.length [UInt8.ofNat 97, UInt8.ofNat 98] ≤ 9223372036854775807) ∧ ∀ s_0 : List UInt8, ∀ e_1 : Int, Lf (prtM [UInt8.ofNat 97, UInt8.ofNat 98] (repM [UInt8.ofNat 7] 32) 1 2 3 = Prod.mk s_0 e_1) → Lf (List.length [UInt8.ofNat 97,
 UInt8.ofNat 98] ≤ 9223372036854775807) ∧ ∀ s_2 : List UInt8, ∀ e_3 : Int, Lf (prtM [UInt8.ofNat 97, UInt8.ofNat 98] (repM [UInt8.ofNat 7] 32) 1 2 4 = Prod.mk s_2 e_3) → ∃ l_4 : List (List UInt8), Lf (([AV.str s_2, .str s_0] = cellsSM l_4 ∧
 2 = l_4.length) ∧ List.length [UInt8.ofNat 97, UInt8.ofNat 98] ≤ 9223372036854775807 ∧ ∀ s_5 : List UInt8, Membership.mem l_4 s_5 → s_5.length ≤ 9223372036854775807) ∧ ∀ i_5 e_6 : Int, Lf (matchM [UInt8.ofNat 97, UInt8.ofNat 98] (repM
 [UInt8.ofNat 7] 32) 1 2 3 l_4 = Prod.mk i_5 e_6) → ∃ l_7 : List (List UInt8), Lf ((([] : List AV) = cellsSM l_7 ∧ 0 = l_7.length) ∧ List.length [UInt8.ofNat 97, UInt8.ofNat 98] ≤ 9223372036854775807 ∧ ∀ s_8 : List UInt8, Membership.mem l_7
 s_8 → s_8.length ≤ 9223372036854775807) ∧ ∀ i_8 e_9 : Int, Lf (matchM [UInt8.ofNat 97, UInt8.ofNat 98] (repM [UInt8.ofNat 7] 32) 1 2 3 l_7 = Prod.mk i_8 e_9) → ∃ l_10 : List (List UInt8), Lf (([AV.str s_0, .str [UInt8.ofNat 115,
 UInt8.ofNat 104, UInt8.ofNat 97, UInt8.ofNat 45, UInt8.ofNat 50, UInt8.ofNat 53, UInt8.ofNat 54]] = cellsSM l_10 ∧ 2 = l_10.length) ∧ List.length [UInt8.ofNat 97, UInt8.ofNat 98] ≤ 9223372036854775807 ∧ ∀ s_11 : List UInt8, Membership.mem
 l_10 s_11 → s_11.length ≤ 9223372036854775807) ∧ ∀ i_11 e_12 : Int, Lf (matchM [UInt8.ofNat 97, UInt8.ofNat 98] (repM [UInt8.ofNat 7] 32) 1 2 3 l_10 = Prod.mk i_11 e_12) → ∃ l_13 : List (List UInt8), Lf (([AV.str [UInt8.ofNat 120], .str
 [UInt8.ofNat 120], .str [UInt8.ofNat 120], .str [UInt8.ofNat 120], .str [UInt8.ofNat 120], .str [UInt8.ofNat 120], .str [UInt8.ofNat 120], .str [UInt8.ofNat 120], .str [UInt8.ofNat 120]] = cellsSM l_13 ∧ 9 = l_13.length) ∧ List.length
 [UInt8.ofNat 97, UInt8.ofNat 98] ≤ 9223372036854775807 ∧ ∀ s_14 : List UInt8, Membership.mem l_13 s_14 → s_14.length ≤ 9223372036854775807) ∧ ∀ i_14 e_15 : Int, Lf (matchM [UInt8.ofNat 97, UInt8.ofNat 98] (repM [UInt8.ofNat 7] 32) 1 2 3
 l_13 = Prod.mk i_14 e_15) → ∃ l_16 : List (List UInt8), Lf (([AV.str [UInt8.ofNat 120], .str [UInt8.ofNat 120], .str [UInt8.ofNat 120], .str [UInt8.ofNat 120], .str [UInt8.ofNat 120], .str [UInt8.ofNat 120], .str [UInt8.ofNat 120], .str
 [UInt8.ofNat 120], .str [UInt8.ofNat 120]] = cellsSM l_16 ∧ 9 = l_16.length) ∧ ([] : List UInt8).length ≤ 9223372036854775807 ∧ ∀ s_17 : List UInt8, Membership.mem l_16 s_17 → s_17.length ≤ 9223372036854775807) ∧ ∀ i_17 e_18 : Int, Lf
 (matchM [] [] 0 0 0 l_16 = Prod.mk i_17 e_18) → bif e_1 != 0 then Q (.ret (.bool false)) [] {} else bif e_3 != 0 then Q (.ret (.bool false)) [] {} else exI IntKind.i64 (s_0.length : Int) fun n_19 => bif n_19 != 103 then Q (.ret
 (.bool false)) [] {} else Lf (List.length [UInt8.ofNat 102, UInt8.ofNat 100, UInt8.ofNat 1, UInt8.ofNat 0, UInt8.ofNat 0, UInt8.ofNat 0, UInt8.ofNat 0, UInt8.ofNat 0, UInt8.ofNat 3, UInt8.ofNat 0, UInt8.ofNat 0, UInt8.ofNat 0,
 UInt8.ofNat 0, UInt8.ofNat 0, UInt8.ofNat 1, UInt8.ofNat 0, UInt8.ofNat 0, UInt8.ofNat 0, UInt8.ofNat 0, UInt8.ofNat 0, UInt8.ofNat 2, UInt8.ofNat 2, UInt8.ofNat 97, UInt8.ofNat 98, UInt8.ofNat 7, UInt8.ofNat 7, UInt8.ofNat 7, UInt8.ofNat
 7, UInt8.ofNat 7, UInt8.ofNat 7, UInt8.ofNat 7, UInt8.ofNat 7, UInt8.ofNat 7, UInt8.ofNat 7, UInt8.ofNat 7, UInt8.ofNat 7, UInt8.ofNat 7, UInt8.ofNat 7, UInt8.ofNat 7, UInt8.ofNat 7, UInt8.ofNat 7, UInt8.ofNat 7, UInt8.ofNat 7, UInt8.ofNat
 7, UInt8.ofNat 7, UInt8.ofNat 7, UInt8.ofNat 7, UInt8.ofNat 7, UInt8.ofNat 7, UInt8.ofNat 7, UInt8.ofNat 7, UInt8.ofNat 7, UInt8.ofNat 7, UInt8.ofNat 7, UInt8.ofNat 7, UInt8.ofNat 7] ≤ 1000000 ∧ List.all [UInt8.ofNat 102, UInt8.ofNat 100,
 UInt8.ofNat 1, UInt8.ofNat 0, UInt8.ofNat 0, UInt8.ofNat 0, UInt8.ofNat 0, UInt8.ofNat 0, UInt8.ofNat 3, UInt8.ofNat 0, UInt8.ofNat 0, UInt8.ofNat 0, UInt8.ofNat 0, UInt8.ofNat 0, UInt8.ofNat 1, UInt8.ofNat 0, UInt8.ofNat 0, UInt8.ofNat 0,
 UInt8.ofNat 0, UInt8.ofNat 0, UInt8.ofNat 2, UInt8.ofNat 2, UInt8.ofNat 97, UInt8.ofNat 98, UInt8.ofNat 7, UInt8.ofNat 7, UInt8.ofNat 7, UInt8.ofNat 7, UInt8.ofNat 7, UInt8.ofNat 7, UInt8.ofNat 7, UInt8.ofNat 7, UInt8.ofNat 7, UInt8.ofNat
 7, UInt8.ofNat 7, UInt8.ofNat 7, UInt8.ofNat 7, UInt8.ofNat 7, UInt8.ofNat 7, UInt8.ofNat 7, UInt8.ofNat 7, UInt8.ofNat 7, UInt8.ofNat 7, UInt8.ofNat 7, UInt8.ofNat 7, UInt8.ofNat 7, UInt8.ofNat 7, UInt8.ofNat 7, UInt8.ofNat 7, UInt8.ofNat
 7, UInt8.ofNat 7, UInt8.ofNat 7, UInt8.ofNat 7, UInt8.ofNat 7, UInt8.ofNat 7, UInt8.ofNat 7] (fun (c_20 : UInt8) => Nat.blt (UInt8.toNat c_20) 128) = true) ∧ ∀ x_20 : List UInt8, Lf (x_20 = upM [UInt8.ofNat 102, UInt8.ofNat 100,
 UInt8.ofNat 1, UInt8.ofNat 0, UInt8.ofNat 0, UInt8.ofNat 0, UInt8.ofNat 0, UInt8.ofNat 0, UInt8.ofNat 3, UInt8.ofNat 0, UInt8.ofNat 0, UInt8.ofNat 0, UInt8.ofNat 0, UInt8.ofNat 0, UInt8.ofNat 1, UInt8.ofNat 0, UInt8.ofNat 0, UInt8.ofNat 0,
 UInt8.ofNat 0, UInt8.ofNat 0, UInt8.ofNat 2, UInt8.ofNat 2, UInt8.ofNat 97, UInt8.ofNat 98, UInt8.ofNat 7, UInt8.ofNat 7, UInt8.ofNat 7, UInt8.ofNat 7, UInt8.ofNat 7, UInt8.ofNat 7, UInt8.ofNat 7, UInt8.ofNat 7, UInt8.ofNat 7, UInt8.ofNat
 7, UInt8.ofNat 7, UInt8.ofNat 7, UInt8.ofNat 7, UInt8.ofNat 7, UInt8.ofNat 7, UInt8.ofNat 7, UInt8.ofNat 7, UInt8.ofNat 7, UInt8.ofNat 7, UInt8.ofNat 7, UInt8.ofNat 7, UInt8.ofNat 7, UInt8.ofNat 7, UInt8.ofNat 7, UInt8.ofNat 7, UInt8.ofNat
 7, UInt8.ofNat 7, UInt8.ofNat 7, UInt8.ofNat 7, UInt8.ofNat 7, UInt8.ofNat 7, UInt8.ofNat 7]) → Lf (([] : List UInt8).length ≤ 1000000) ∧ ∀ n_21 k_22 : List UInt8, ∀ f_23 u_24 m_25 e_26 : Int, Lf (decBM [] = Prod.mk n_21 (Prod.mk k_22
 (Prod.mk f_23 (Prod.mk u_24 (Prod.mk m_25 e_26))))) → bif e_26 != 5 then Q (.ret (.bool false)) [] {} else Lf (List.length [UInt8.ofNat 102, UInt8.ofNat 100, UInt8.ofNat 1, UInt8.ofNat 0, UInt8.ofNat 0, UInt8.ofNat 0, UInt8.ofNat 0,
 UInt8.ofNat 0, UInt8.ofNat 3, UInt8.ofNat 0, UInt8.ofNat 0, UInt8.ofNat 0, UInt8.ofNat 0, UInt8.ofNat 0, UInt8.ofNat 1, UInt8.ofNat 0, UInt8.ofNat 0, UInt8.ofNat 0, UInt8.ofNat 0, UInt8.ofNat 0, UInt8.ofNat 2, UInt8.ofNat 2, UInt8.ofNat
 97, UInt8.ofNat 98, UInt8.ofNat 7, UInt8.ofNat 7, UInt8.ofNat 7, UInt8.ofNat 7, UInt8.ofNat 7, UInt8.ofNat 7, UInt8.ofNat 7, UInt8.ofNat 7, UInt8.ofNat 7, UInt8.ofNat 7, UInt8.ofNat 7, UInt8.ofNat 7, UInt8.ofNat 7, UInt8.ofNat 7,
 UInt8.ofNat 7, UInt8.ofNat 7, UInt8.ofNat 7, UInt8.ofNat 7, UInt8.ofNat 7, UInt8.ofNat 7, UInt8.ofNat 7, UInt8.ofNat 7, UInt8.ofNat 7, UInt8.ofNat 7, UInt8.ofNat 7, UInt8.ofNat 7, UInt8.ofNat 7, UInt8.ofNat 7, UInt8.ofNat 7, UInt8.ofNat 7,
 UInt8.ofNat 7, UInt8.ofNat 7, UInt8.ofNat 97] ≤ 1000000) ∧ ∀ n_27 k_28 : List UInt8, ∀ f_29 u_30 m_31 e_32 : Int, Lf (decBM [UInt8.ofNat 102, UInt8.ofNat 100, UInt8.ofNat 1, UInt8.ofNat 0, UInt8.ofNat 0, UInt8.ofNat 0, UInt8.ofNat 0,
 UInt8.ofNat 0, UInt8.ofNat 3, UInt8.ofNat 0, UInt8.ofNat 0, UInt8.ofNat 0, UInt8.ofNat 0, UInt8.ofNat 0, UInt8.ofNat 1, UInt8.ofNat 0, UInt8.ofNat 0, UInt8.ofNat 0, UInt8.ofNat 0, UInt8.ofNat 0, UInt8.ofNat 2, UInt8.ofNat 2, UInt8.ofNat
 97, UInt8.ofNat 98, UInt8.ofNat 7, UInt8.ofNat 7, UInt8.ofNat 7, UInt8.ofNat 7, UInt8.ofNat 7, UInt8.ofNat 7, UInt8.ofNat 7, UInt8.ofNat 7, UInt8.ofNat 7, UInt8.ofNat 7, UInt8.ofNat 7, UInt8.ofNat 7, UInt8.ofNat 7, UInt8.ofNat 7,
 UInt8.ofNat 7, UInt8.ofNat 7, UInt8.ofNat 7, UInt8.ofNat 7, UInt8.ofNat 7, UInt8.ofNat 7, UInt8.ofNat 7, UInt8.ofNat 7, UInt8.ofNat 7, UInt8.ofNat 7, UInt8.ofNat 7, UInt8.ofNat 7, UInt8.ofNat 7, UInt8.ofNat 7, UInt8.ofNat 7, UInt8.ofNat 7,
 UInt8.ofNat 7, UInt8.ofNat 7, UInt8.ofNat 97] = Prod.mk n_27 (Prod.mk k_28 (Prod.mk f_29 (Prod.mk u_30 (Prod.mk m_31 e_32))))) → bif e_32 != 5 then Q (.ret (.bool false)) [] {} else Lf (List.length [UInt8.ofNat 102, UInt8.ofNat 100,
 UInt8.ofNat 1, UInt8.ofNat 0, UInt8.ofNat 0, UInt8.ofNat 0, UInt8.ofNat 0, UInt8.ofNat 0, UInt8.ofNat 3, UInt8.ofNat 0, UInt8.ofNat 0, UInt8.ofNat 0, UInt8.ofNat 0, UInt8.ofNat 0, UInt8.ofNat 1, UInt8.ofNat 0, UInt8.ofNat 0, UInt8.ofNat 0,
 UInt8.ofNat 0, UInt8.ofNat 0, UInt8.ofNat 2, UInt8.ofNat 2, UInt8.ofNat 97, UInt8.ofNat 98, UInt8.ofNat 7, UInt8.ofNat 7, UInt8.ofNat 7, UInt8.ofNat 7, UInt8.ofNat 7, UInt8.ofNat 7, UInt8.ofNat 7, UInt8.ofNat 7, UInt8.ofNat 7, UInt8.ofNat
 7, UInt8.ofNat 7, UInt8.ofNat 7, UInt8.ofNat 7, UInt8.ofNat 7, UInt8.ofNat 7, UInt8.ofNat 7, UInt8.ofNat 7, UInt8.ofNat 7, UInt8.ofNat 7, UInt8.ofNat 7, UInt8.ofNat 7, UInt8.ofNat 7, UInt8.ofNat 7, UInt8.ofNat 7, UInt8.ofNat 7, UInt8.ofNat
 7, UInt8.ofNat 7, UInt8.ofNat 7, UInt8.ofNat 7, UInt8.ofNat 7, UInt8.ofNat 7] ≤ 1000000) ∧ ∀ n_33 k_34 : List UInt8, ∀ f_35 u_36 m_37 e_38 : Int, Lf (decBM [UInt8.ofNat 102, UInt8.ofNat 100, UInt8.ofNat 1, UInt8.ofNat 0, UInt8.ofNat 0,
 UInt8.ofNat 0, UInt8.ofNat 0, UInt8.ofNat 0, UInt8.ofNat 3, UInt8.ofNat 0, UInt8.ofNat 0, UInt8.ofNat 0, UInt8.ofNat 0, UInt8.ofNat 0, UInt8.ofNat 1, UInt8.ofNat 0, UInt8.ofNat 0, UInt8.ofNat 0, UInt8.ofNat 0, UInt8.ofNat 0, UInt8.ofNat 2,
 UInt8.ofNat 2, UInt8.ofNat 97, UInt8.ofNat 98, UInt8.ofNat 7, UInt8.ofNat 7, UInt8.ofNat 7, UInt8.ofNat 7, UInt8.ofNat 7, UInt8.ofNat 7, UInt8.ofNat 7, UInt8.ofNat 7, UInt8.ofNat 7, UInt8.ofNat 7, UInt8.ofNat 7, UInt8.ofNat 7, UInt8.ofNat
 7, UInt8.ofNat 7, UInt8.ofNat 7, UInt8.ofNat 7, UInt8.ofNat 7, UInt8.ofNat 7, UInt8.ofNat 7, UInt8.ofNat 7, UInt8.ofNat 7, UInt8.ofNat 7, UInt8.ofNat 7, UInt8.ofNat 7, UInt8.ofNat 7, UInt8.ofNat 7, UInt8.ofNat 7, UInt8.ofNat 7, UInt8.ofNat
 7, UInt8.ofNat 7, UInt8.ofNat 7] = Prod.mk n_33 (Prod.mk k_34 (Prod.mk f_35 (Prod.mk u_36 (Prod.mk m_37 e_38))))) → bif e_38 != 5 then Q (.ret (.bool false)) [] {} else Lf (List.length [UInt8.ofNat 102, UInt8.ofNat 100, UInt8.ofNat 2,
 UInt8.ofNat 0, UInt8.ofNat 0, UInt8.ofNat 0, UInt8.ofNat 0, UInt8.ofNat 0, UInt8.ofNat 3, UInt8.ofNat 0, UInt8.ofNat 0, UInt8.ofNat 0, UInt8.ofNat 0, UInt8.ofNat 0, UInt8.ofNat 1, UInt8.ofNat 0, UInt8.ofNat 0, UInt8.ofNat 0, UInt8.ofNat 0,
 UInt8.ofNat 0, UInt8.ofNat 2, UInt8.ofNat 2, UInt8.ofNat 97, UInt8.ofNat 98, UInt8.ofNat 7, UInt8.ofNat 7, UInt8.ofNat 7, UInt8.ofNat 7, UInt8.ofNat 7, UInt8.ofNat 7, UInt8.ofNat 7, UInt8.ofNat 7, UInt8.ofNat 7, UInt8.ofNat 7, UInt8.ofNat
 7, UInt8.ofNat 7, UInt8.ofNat 7, UInt8.ofNat 7, UInt8.ofNat 7, UInt8.ofNat 7, UInt8.ofNat 7, UInt8.ofNat 7, UInt8.ofNat 7, UInt8.ofNat 7, UInt8.ofNat 7, UInt8.ofNat 7, UInt8.ofNat 7, UInt8.ofNat 7, UInt8.ofNat 7, UInt8.ofNat 7, UInt8.ofNat
 7, UInt8.ofNat 7, UInt8.ofNat 7, UInt8.ofNat 7, UInt8.ofNat 7, UInt8.ofNat 7] ≤ 1000000) ∧ ∀ n_39 k_40 : List UInt8, ∀ f_41 u_42 m_43 e_44 : Int, Lf (decBM [UInt8.ofNat 102, UInt8.ofNat 100, UInt8.ofNat 2, UInt8.ofNat 0, UInt8.ofNat 0,
 UInt8.ofNat 0, UInt8.ofNat 0, UInt8.ofNat 0, UInt8.ofNat 3, UInt8.ofNat 0, UInt8.ofNat 0, UInt8.ofNat 0, UInt8.ofNat 0, UInt8.ofNat 0, UInt8.ofNat 1, UInt8.ofNat 0, UInt8.ofNat 0, UInt8.ofNat 0, UInt8.ofNat 0, UInt8.ofNat 0, UInt8.ofNat 2,
 UInt8.ofNat 2, UInt8.ofNat 97, UInt8.ofNat 98, UInt8.ofNat 7, UInt8.ofNat 7, UInt8.ofNat 7, UInt8.ofNat 7, UInt8.ofNat 7, UInt8.ofNat 7, UInt8.ofNat 7, UInt8.ofNat 7, UInt8.ofNat 7, UInt8.ofNat 7, UInt8.ofNat 7, UInt8.ofNat 7, UInt8.ofNat
 7, UInt8.ofNat 7, UInt8.ofNat 7, UInt8.ofNat 7, UInt8.ofNat 7, UInt8.ofNat 7, UInt8.ofNat 7, UInt8.ofNat 7, UInt8.ofNat 7, UInt8.ofNat 7, UInt8.ofNat 7, UInt8.ofNat 7, UInt8.ofNat 7, UInt8.ofNat 7, UInt8.ofNat 7, UInt8.ofNat 7, UInt8.ofNat
 7, UInt8.ofNat 7, UInt8.ofNat 7, UInt8.ofNat 7] = Prod.mk n_39 (Prod.mk k_40 (Prod.mk f_41 (Prod.mk u_42 (Prod.mk m_43 e_44))))) → bif e_44 != 5 then Q (.ret (.bool false)) [] {} else Lf (List.length [UInt8.ofNat 102, UInt8.ofNat 100,
 UInt8.ofNat 1, UInt8.ofNat 0, UInt8.ofNat 0, UInt8.ofNat 0, UInt8.ofNat 0, UInt8.ofNat 0, UInt8.ofNat 3, UInt8.ofNat 0, UInt8.ofNat 0, UInt8.ofNat 0, UInt8.ofNat 0, UInt8.ofNat 0, UInt8.ofNat 1, UInt8.ofNat 0, UInt8.ofNat 0, UInt8.ofNat 0,
 UInt8.ofNat 0, UInt8.ofNat 0, UInt8.ofNat 0, UInt8.ofNat 2, UInt8.ofNat 97, UInt8.ofNat 98, UInt8.ofNat 7, UInt8.ofNat 7, UInt8.ofNat 7, UInt8.ofNat 7, UInt8.ofNat 7, UInt8.ofNat 7, UInt8.ofNat 7, UInt8.ofNat 7, UInt8.ofNat 7, UInt8.ofNat
 7, UInt8.ofNat 7, UInt8.ofNat 7, UInt8.ofNat 7, UInt8.ofNat 7, UInt8.ofNat 7, UInt8.ofNat 7, UInt8.ofNat 7, UInt8.ofNat 7, UInt8.ofNat 7, UInt8.ofNat 7, UInt8.ofNat 7, UInt8.ofNat 7, UInt8.ofNat 7, UInt8.ofNat 7, UInt8.ofNat 7, UInt8.ofNat
 7, UInt8.ofNat 7, UInt8.ofNat 7, UInt8.ofNat 7, UInt8.ofNat 7, UInt8.ofNat 7, UInt8.ofNat 7] ≤ 1000000) ∧ ∀ n_45 k_46 : List UInt8, ∀ f_47 u_48 m_49 e_50 : Int, Lf (decBM [UInt8.ofNat 102, UInt8.ofNat 100, UInt8.ofNat 1, UInt8.ofNat 0,
 UInt8.ofNat 0, UInt8.ofNat 0, UInt8.ofNat 0, UInt8.ofNat 0, UInt8.ofNat 3, UInt8.ofNat 0, UInt8.ofNat 0, UInt8.ofNat 0, UInt8.ofNat 0, UInt8.ofNat 0, UInt8.ofNat 1, UInt8.ofNat 0, UInt8.ofNat 0, UInt8.ofNat 0, UInt8.ofNat 0, UInt8.ofNat 0,
 UInt8.ofNat 0, UInt8.ofNat 2, UInt8.ofNat 97, UInt8.ofNat 98, UInt8.ofNat 7, UInt8.ofNat 7, UInt8.ofNat 7, UInt8.ofNat 7, UInt8.ofNat 7, UInt8.ofNat 7, UInt8.ofNat 7, UInt8.ofNat 7, UInt8.ofNat 7, UInt8.ofNat 7, UInt8.ofNat 7, UInt8.ofNat
 7, UInt8.ofNat 7, UInt8.ofNat 7, UInt8.ofNat 7, UInt8.ofNat 7, UInt8.ofNat 7, UInt8.ofNat 7, UInt8.ofNat 7, UInt8.ofNat 7, UInt8.ofNat 7, UInt8.ofNat 7, UInt8.ofNat 7, UInt8.ofNat 7, UInt8.ofNat 7, UInt8.ofNat 7, UInt8.ofNat 7, UInt8.ofNat
 7, UInt8.ofNat 7, UInt8.ofNat 7, UInt8.ofNat 7, UInt8.ofNat 7] = Prod.mk n_45 (Prod.mk k_46 (Prod.mk f_47 (Prod.mk u_48 (Prod.mk m_49 e_50))))) → bif e_50 != 5 then Q (.ret (.bool false)) [] {} else Lf (List.length [UInt8.ofNat 102,
 UInt8.ofNat 100, UInt8.ofNat 1, UInt8.ofNat 0, UInt8.ofNat 0, UInt8.ofNat 0, UInt8.ofNat 0, UInt8.ofNat 0, UInt8.ofNat 3, UInt8.ofNat 0, UInt8.ofNat 0, UInt8.ofNat 0, UInt8.ofNat 0, UInt8.ofNat 0, UInt8.ofNat 1, UInt8.ofNat 0, UInt8.ofNat
 0, UInt8.ofNat 0, UInt8.ofNat 0, UInt8.ofNat 0, UInt8.ofNat 2, UInt8.ofNat 3, UInt8.ofNat 97, UInt8.ofNat 98, UInt8.ofNat 7, UInt8.ofNat 7, UInt8.ofNat 7, UInt8.ofNat 7, UInt8.ofNat 7, UInt8.ofNat 7, UInt8.ofNat 7, UInt8.ofNat 7,
 UInt8.ofNat 7, UInt8.ofNat 7, UInt8.ofNat 7, UInt8.ofNat 7, UInt8.ofNat 7, UInt8.ofNat 7, UInt8.ofNat 7, UInt8.ofNat 7, UInt8.ofNat 7, UInt8.ofNat 7, UInt8.ofNat 7, UInt8.ofNat 7, UInt8.ofNat 7, UInt8.ofNat 7, UInt8.ofNat 7, UInt8.ofNat 7,
 UInt8.ofNat 7, UInt8.ofNat 7, UInt8.ofNat 7, UInt8.ofNat 7, UInt8.ofNat 7, UInt8.ofNat 7, UInt8.ofNat 7, UInt8.ofNat 7] ≤ 1000000) ∧ ∀ n_51 k_52 : List UInt8, ∀ f_53 u_54 m_55 e_56 : Int, Lf (decBM [UInt8.ofNat 102, UInt8.ofNat 100,
 UInt8.ofNat 1, UInt8.ofNat 0, UInt8.ofNat 0, UInt8.ofNat 0, UInt8.ofNat 0, UInt8.ofNat 0, UInt8.ofNat 3, UInt8.ofNat 0, UInt8.ofNat 0, UInt8.ofNat 0, UInt8.ofNat 0, UInt8.ofNat 0, UInt8.ofNat 1, UInt8.ofNat 0, UInt8.ofNat 0, UInt8.ofNat 0,
 UInt8.ofNat 0, UInt8.ofNat 0, UInt8.ofNat 2, UInt8.ofNat 3, UInt8.ofNat 97, UInt8.ofNat 98, UInt8.ofNat 7, UInt8.ofNat 7, UInt8.ofNat 7, UInt8.ofNat 7, UInt8.ofNat 7, UInt8.ofNat 7, UInt8.ofNat 7, UInt8.ofNat 7, UInt8.ofNat 7, UInt8.ofNat
 7, UInt8.ofNat 7, UInt8.ofNat 7, UInt8.ofNat 7, UInt8.ofNat 7, UInt8.ofNat 7, UInt8.ofNat 7, UInt8.ofNat 7, UInt8.ofNat 7, UInt8.ofNat 7, UInt8.ofNat 7, UInt8.ofNat 7, UInt8.ofNat 7, UInt8.ofNat 7, UInt8.ofNat 7, UInt8.ofNat 7, UInt8.ofNat
 7, UInt8.ofNat 7, UInt8.ofNat 7, UInt8.ofNat 7, UInt8.ofNat 7, UInt8.ofNat 7, UInt8.ofNat 7] = Prod.mk n_51 (Prod.mk k_52 (Prod.mk f_53 (Prod.mk u_54 (Prod.mk m_55 e_56))))) → bif e_56 != 5 then Q (.ret (.bool false)) [] {} else Lf
 (List.length [UInt8.ofNat 102, UInt8.ofNat 100, UInt8.ofNat 1, UInt8.ofNat 0, UInt8.ofNat 0, UInt8.ofNat 0, UInt8.ofNat 0, UInt8.ofNat 0, UInt8.ofNat 3, UInt8.ofNat 0, UInt8.ofNat 0, UInt8.ofNat 0, UInt8.ofNat 0, UInt8.ofNat 0, UInt8.ofNat
 1, UInt8.ofNat 0, UInt8.ofNat 0, UInt8.ofNat 0, UInt8.ofNat 0, UInt8.ofNat 0, UInt8.ofNat 2, UInt8.ofNat 0, UInt8.ofNat 7, UInt8.ofNat 7, UInt8.ofNat 7, UInt8.ofNat 7, UInt8.ofNat 7, UInt8.ofNat 7, UInt8.ofNat 7, UInt8.ofNat 7, UInt8.ofNat
 7, UInt8.ofNat 7, UInt8.ofNat 7, UInt8.ofNat 7, UInt8.ofNat 7, UInt8.ofNat 7, UInt8.ofNat 7, UInt8.ofNat 7, UInt8.ofNat 7, UInt8.ofNat 7, UInt8.ofNat 7, UInt8.ofNat 7, UInt8.ofNat 7, UInt8.ofNat 7, UInt8.ofNat 7, UInt8.ofNat 7, UInt8.ofNat
 7, UInt8.ofNat 7, UInt8.ofNat 7, UInt8.ofNat 7, UInt8.ofNat 7, UInt8.ofNat 7, UInt8.ofNat 7, UInt8.ofNat 7] ≤ 1000000) ∧ ∀ n_57 k_58 : List UInt8, ∀ f_59 u_60 m_61 e_62 : Int, Lf (decBM [UInt8.ofNat 102, UInt8.ofNat 100, UInt8.ofNat 1,
 UInt8.ofNat 0, UInt8.ofNat 0, UInt8.ofNat 0, UInt8.ofNat 0, UInt8.ofNat 0, UInt8.ofNat 3, UInt8.ofNat 0, UInt8.ofNat 0, UInt8.ofNat 0, UInt8.ofNat 0, UInt8.ofNat 0, UInt8.ofNat 1, UInt8.ofNat 0, UInt8.ofNat 0, UInt8.ofNat 0, UInt8.ofNat 0,
 UInt8.ofNat 0, UInt8.ofNat 2, UInt8.ofNat 0, UInt8.ofNat 7, UInt8.ofNat 7, UInt8.ofNat 7, UInt8.ofNat 7, UInt8.ofNat 7, UInt8.ofNat 7, UInt8.ofNat 7, UInt8.ofNat 7, UInt8.ofNat 7, UInt8.ofNat 7, UInt8.ofNat 7, UInt8.ofNat 7, UInt8.ofNat 7,
 UInt8.ofNat 7, UInt8.ofNat 7, UInt8.ofNat 7, UInt8.ofNat 7, UInt8.ofNat 7, UInt8.ofNat 7, UInt8.ofNat 7, UInt8.ofNat 7, UInt8.ofNat 7, UInt8.ofNat 7, UInt8.ofNat 7, UInt8.ofNat 7, UInt8.ofNat 7, UInt8.ofNat 7, UInt8.ofNat 7, UInt8.ofNat 7,
 UInt8.ofNat 7, UInt8.ofNat 7, UInt8.ofNat 7] = Prod.mk n_57 (Prod.mk k_58 (Prod.mk f_59 (Prod.mk u_60 (Prod.mk m_61 e_62))))) → bif e_62 != 5 then Q (.ret (.bool false)) [] {} else Lf (List.length [UInt8.ofNat 102, UInt8.ofNat 100,
 UInt8.ofNat 1, UInt8.ofNat 0, UInt8.ofNat 0, UInt8.ofNat 0, UInt8.ofNat 0, UInt8.ofNat 0, UInt8.ofNat 3, UInt8.ofNat 0, UInt8.ofNat 0, UInt8.ofNat 0, UInt8.ofNat 0, UInt8.ofNat 0, UInt8.ofNat 1, UInt8.ofNat 0, UInt8.ofNat 0, UInt8.ofNat 0,
 UInt8.ofNat 0, UInt8.ofNat 0, UInt8.ofNat 2, UInt8.ofNat 2, UInt8.ofNat 97, UInt8.ofNat 45, UInt8.ofNat 7, UInt8.ofNat 7, UInt8.ofNat 7, UInt8.ofNat 7, UInt8.ofNat 7, UInt8.ofNat 7, UInt8.ofNat 7, UInt8.ofNat 7, UInt8.ofNat 7, UInt8.ofNat
 7, UInt8.ofNat 7, UInt8.ofNat 7, UInt8.ofNat 7, UInt8.ofNat 7, UInt8.ofNat 7, UInt8.ofNat 7, UInt8.ofNat 7, UInt8.ofNat 7, UInt8.ofNat 7, UInt8.ofNat 7, UInt8.ofNat 7, UInt8.ofNat 7, UInt8.ofNat 7, UInt8.ofNat 7, UInt8.ofNat 7, UInt8.ofNat
 7, UInt8.ofNat 7, UInt8.ofNat 7, UInt8.ofNat 7, UInt8.ofNat 7, UInt8.ofNat 7, UInt8.ofNat 7] ≤ 1000000) ∧ ∀ n_63 k_64 : List UInt8, ∀ f_65 u_66 m_67 e_68 : Int, Lf (decBM [UInt8.ofNat 102, UInt8.ofNat 100, UInt8.ofNat 1, UInt8.ofNat 0,
 UInt8.ofNat 0, UInt8.ofNat 0, UInt8.ofNat 0, UInt8.ofNat 0, UInt8.ofNat 3, UInt8.ofNat 0, UInt8.ofNat 0, UInt8.ofNat 0, UInt8.ofNat 0, UInt8.ofNat 0, UInt8.ofNat 1, UInt8.ofNat 0, UInt8.ofNat 0, UInt8.ofNat 0, UInt8.ofNat 0, UInt8.ofNat 0,
 UInt8.ofNat 2, UInt8.ofNat 2, UInt8.ofNat 97, UInt8.ofNat 45, UInt8.ofNat 7, UInt8.ofNat 7, UInt8.ofNat 7, UInt8.ofNat 7, UInt8.ofNat 7, UInt8.ofNat 7, UInt8.ofNat 7, UInt8.ofNat 7, UInt8.ofNat 7, UInt8.ofNat 7, UInt8.ofNat 7, UInt8.ofNat
 7, UInt8.ofNat 7, UInt8.ofNat 7, UInt8.ofNat 7, UInt8.ofNat 7, UInt8.ofNat 7, UInt8.ofNat 7, UInt8.ofNat 7, UInt8.ofNat 7, UInt8.ofNat 7, UInt8.ofNat 7, UInt8.ofNat 7, UInt8.ofNat 7, UInt8.ofNat 7, UInt8.ofNat 7, UInt8.ofNat 7, UInt8.ofNat
 7, UInt8.ofNat 7, UInt8.ofNat 7, UInt8.ofNat 7, UInt8.ofNat 7] = Prod.mk n_63 (Prod.mk k_64 (Prod.mk f_65 (Prod.mk u_66 (Prod.mk m_67 e_68))))) → bif e_68 != 5 then Q (.ret (.bool false)) [] {} else Lf (x_20.length ≤ 1000000) ∧ ∀ n_69
 k_70 : List UInt8, ∀ f_71 u_72 m_73 e_74 : Int, Lf (decBM x_20 = Prod.mk n_69 (Prod.mk k_70 (Prod.mk f_71 (Prod.mk u_72 (Prod.mk m_73 e_74))))) → bif e_74 != 5 then Q (.ret (.bool false)) [] {} else ckQ (Nat.ble 102 s_0.length) (exS
 (.str ((s_0.drop 0).take 102)) fun s_75 => ckQ (decide (s_0.length + 1 ≤ 9223372036854775807) && true) (exS (.str (s_0 ++ [UInt8.ofNat 58])) fun s_76 => ckQ (Nat.ble 10 s_0.length) (exS (.str ((s_0.drop 0).take 10)) fun s_77 => ckQ
 (decide (s_77.length + 1 ≤ 9223372036854775807) && true) (exS (.str (s_77 ++ [UInt8.ofNat 59])) fun s_78 => ckQ (Nat.ble 11 s_0.length && Nat.ble s_0.length s_0.length) (exS (.str ((s_0.drop 11).take (s_0.length - 11))) fun s_79 =>
 ckQ (decide (s_78.length + s_79.length ≤ 9223372036854775807) && true) (exS (.str (s_78 ++ s_79)) fun s_80 => ckQ (Nat.ble 8 s_0.length) (exS (.str ((s_0.drop 0).take 8)) fun s_81 => ckQ (decide (s_81.length + 1 ≤ 9223372036854775807)
 && true) (exS (.str (s_81 ++ [UInt8.ofNat 103])) fun s_82 => ckQ (Nat.ble 9 s_0.length && Nat.ble s_0.length s_0.length) (exS (.str ((s_0.drop 9).take (s_0.length - 9))) fun s_83 => ckQ (decide (s_82.length + s_83.length ≤
 9223372036854775807) && true) (exS (.str (s_82 ++ s_83)) fun s_84 => ckQ (decide (1 + s_0.length ≤ 9223372036854775807) && true) (exS (.str ([UInt8.ofNat 32] ++ s_0)) fun s_85 => ckQ (Nat.ble 7 s_0.length && Nat.ble s_0.length
 s_0.length) (exS (.str ((s_0.drop 7).take (s_0.length - 7))) fun s_86 => ckQ (decide (7 + s_86.length ≤ 9223372036854775807) && true) (exS (.str ([UInt8.ofNat 115, UInt8.ofNat 104, UInt8.ofNat 97, UInt8.ofNat 45, UInt8.ofNat 50,
 UInt8.ofNat 53, UInt8.ofNat 53] ++ s_86)) fun s_87 => bif eqB [] s_0 then Q (.ret (.bool false)) [] {} else Lf (([] : List UInt8).length ≤ 9223372036854775807) ∧ ∀ e_88 : Int, Lf (e_88 = ckpM []) → bif e_88 != 5 then Q (.ret (.bool
 false)) [] {} else bif eqB [UInt8.ofNat 115, UInt8.ofNat 104, UInt8.ofNat 97, UInt8.ofNat 45, UInt8.ofNat 50, UInt8.ofNat 53, UInt8.ofNat 54, UInt8.ofNat 32] s_0 then Q (.ret (.bool false)) [] {} else Lf (List.length [UInt8.ofNat
 115, UInt8.ofNat 104, UInt8.ofNat 97, UInt8.ofNat 45, UInt8.ofNat 50, UInt8.ofNat 53, UInt8.ofNat 54, UInt8.ofNat 32] ≤ 9223372036854775807) ∧ ∀ e_89 : Int, Lf (e_89 = ckpM [UInt8.ofNat 115, UInt8.ofNat 104, UInt8.ofNat 97, UInt8.ofNat 45,
 UInt8.ofNat 50, UInt8.ofNat 53, UInt8.ofNat 54, UInt8.ofNat 32]) → bif e_89 != 5 then Q (.ret (.bool false)) [] {} else bif eqB s_75 s_0 then Q (.ret (.bool false)) [] {} else Lf (s_75.length ≤ 9223372036854775807) ∧ ∀ e_90 :
 Int, Lf (e_90 = ckpM s_75) → bif e_90 != 5 then Q (.ret (.bool false)) [] {} else bif eqB s_76 s_0 then Q (.ret (.bool false)) [] {} else Lf (s_76.length ≤ 9223372036854775807) ∧ ∀ e_91 : Int, Lf (e_91 = ckpM s_76) → bif e_91 !=
 5 then Q (.ret (.bool false)) [] {} else bif eqB s_80 s_0 then Q (.ret (.bool false)) [] {} else Lf (s_80.length ≤ 9223372036854775807) ∧ ∀ e_92 : Int, Lf (e_92 = ckpM s_80) → bif e_92 != 5 then Q (.ret (.bool false)) [] {}
 else bif eqB s_84 s_0 then Q (.ret (.bool false)) [] {} else Lf (s_84.length ≤ 9223372036854775807) ∧ ∀ e_93 : Int, Lf (e_93 = ckpM s_84) → bif e_93 != 5 then Q (.ret (.bool false)) [] {} else bif eqB s_85 s_0 then Q (.ret (.bool
 false)) [] {} else Lf (s_85.length ≤ 9223372036854775807) ∧ ∀ e_94 : Int, Lf (e_94 = ckpM s_85) → bif e_94 != 5 then Q (.ret (.bool false)) [] {} else bif eqB s_87 s_0 then Q (.ret (.bool false)) [] {} else Lf (s_87.length ≤
 9223372036854775807) ∧ ∀ e_95 : Int, Lf (e_95 = ckpM s_87) → bif e_95 != 5 then Q (.ret (.bool false)) [] {} else Lf (([] : List UInt8).length ≤ 9223372036854775807) ∧ ∀ e_96 : Int, Lf (e_96 = chkM [] (repM [UInt8.ofNat 7] 32) 1 2 3)
 → bif e_96 != 180 then Q (.ret (.bool false)) [] {} else Lf (List.length [UInt8.ofNat 97, UInt8.ofNat 45] ≤ 9223372036854775807) ∧ ∀ e_97 : Int, Lf (e_97 = chkM [UInt8.ofNat 97, UInt8.ofNat 45] (repM [UInt8.ofNat 7] 32) 1 2 3) → bif
 e_97 != 180 then Q (.ret (.bool false)) [] {} else Lf (List.length [UInt8.ofNat 46, UInt8.ofNat 97] ≤ 9223372036854775807) ∧ ∀ e_98 : Int, Lf (e_98 = chkM [UInt8.ofNat 46, UInt8.ofNat 97] (repM [UInt8.ofNat 7] 32) 1 2 3) → bif e_98 !=
 180 then Q (.ret (.bool false)) [] {} else Lf (List.length [UInt8.ofNat 97, UInt8.ofNat 95, UInt8.ofNat 98] ≤ 9223372036854775807) ∧ ∀ e_99 : Int, Lf (e_99 = chkM [UInt8.ofNat 97, UInt8.ofNat 95, UInt8.ofNat 98] (repM [UInt8.ofNat 7]
 32) 1 2 3) → bif e_99 != 180 then Q (.ret (.bool false)) [] {} else Lf ((repM [UInt8.ofNat 97] 33).length ≤ 9223372036854775807) ∧ ∀ e_100 : Int, Lf (e_100 = chkM (repM [UInt8.ofNat 97] 33) (repM [UInt8.ofNat 7] 32) 1 2 3) → bif e_100
 != 180 then Q (.ret (.bool false)) [] {} else Lf (List.length [UInt8.ofNat 97, UInt8.ofNat 98] ≤ 9223372036854775807) ∧ ∀ e_101 : Int, Lf (e_101 = chkM [UInt8.ofNat 97, UInt8.ofNat 98] (repM [UInt8.ofNat 97] 31) 1 2 3) → bif e_101 !=
 180 then Q (.ret (.bool false)) [] {} else Lf (List.length [UInt8.ofNat 97, UInt8.ofNat 98] ≤ 9223372036854775807) ∧ ∀ e_102 : Int, Lf (e_102 = chkM [UInt8.ofNat 97, UInt8.ofNat 98] (repM [UInt8.ofNat 7] 32) 3 2 3) → bif e_102 != 180
 then Q (.ret (.bool false)) [] {} else Lf (List.length [UInt8.ofNat 97, UInt8.ofNat 98] ≤ 9223372036854775807) ∧ ∀ e_103 : Int, Lf (e_103 = chkM [UInt8.ofNat 97, UInt8.ofNat 98] (repM [UInt8.ofNat 7] 32) (-1) 2 3) → bif e_103 != 180
 then Q (.ret (.bool false)) [] {} else Lf (List.length [UInt8.ofNat 97, UInt8.ofNat 98] ≤ 9223372036854775807) ∧ ∀ e_104 : Int, Lf (e_104 = chkM [UInt8.ofNat 97, UInt8.ofNat 98] (repM [UInt8.ofNat 7] 32) 1 0 3) → bif e_104 != 180 then
 Q (.ret (.bool false)) [] {} else Lf (List.length [UInt8.ofNat 97, UInt8.ofNat 98] ≤ 9223372036854775807) ∧ ∀ e_105 : Int, Lf (e_105 = chkM [UInt8.ofNat 97, UInt8.ofNat 98] (repM [UInt8.ofNat 7] 32) 1 1099511627777 3) → bif e_105 !=
 180 then Q (.ret (.bool false)) [] {} else Lf (List.length [UInt8.ofNat 97, UInt8.ofNat 98] ≤ 9223372036854775807) ∧ ∀ e_106 : Int, Lf (e_106 = chkM [UInt8.ofNat 97, UInt8.ofNat 98] (repM [UInt8.ofNat 7] 32) 1 2 (-1)) → bif e_106 !=
 180 then Q (.ret (.bool false)) [] {} else Lf (List.length [UInt8.ofNat 97, UInt8.ofNat 98] ≤ 9223372036854775807) ∧ ∀ e_107 : Int, Lf (e_107 = chkM [UInt8.ofNat 97, UInt8.ofNat 98] (repM [UInt8.ofNat 7] 32) 1 2 281474976710656) → bif
 e_107 != 180 then Q (.ret (.bool false)) [] {} else Lf (List.length [UInt8.ofNat 97, UInt8.ofNat 46, UInt8.ofNat 45, UInt8.ofNat 46, UInt8.ofNat 45, UInt8.ofNat 46, UInt8.ofNat 45, UInt8.ofNat 46, UInt8.ofNat 45, UInt8.ofNat 46,
 UInt8.ofNat 45, UInt8.ofNat 46, UInt8.ofNat 45, UInt8.ofNat 46, UInt8.ofNat 45, UInt8.ofNat 46, UInt8.ofNat 45, UInt8.ofNat 46, UInt8.ofNat 45, UInt8.ofNat 46, UInt8.ofNat 45, UInt8.ofNat 46, UInt8.ofNat 45, UInt8.ofNat 46, UInt8.ofNat 45,
 UInt8.ofNat 46, UInt8.ofNat 45, UInt8.ofNat 46, UInt8.ofNat 45, UInt8.ofNat 46, UInt8.ofNat 45, UInt8.ofNat 98] ≤ 9223372036854775807) ∧ ∀ s_108 : List UInt8, ∀ e_109 : Int, Lf (encBM [UInt8.ofNat 97, UInt8.ofNat 46, UInt8.ofNat 45,
 UInt8.ofNat 46, UInt8.ofNat 45, UInt8.ofNat 46, UInt8.ofNat 45, UInt8.ofNat 46, UInt8.ofNat 45, UInt8.ofNat 46, UInt8.ofNat 45, UInt8.ofNat 46, UInt8.ofNat 45, UInt8.ofNat 46, UInt8.ofNat 45, UInt8.ofNat 46, UInt8.ofNat 45, UInt8.ofNat 46,
 UInt8.ofNat 45, UInt8.ofNat 46, UInt8.ofNat 45, UInt8.ofNat 46, UInt8.ofNat 45, UInt8.ofNat 46, UInt8.ofNat 45, UInt8.ofNat 46, UInt8.ofNat 45, UInt8.ofNat 46, UInt8.ofNat 45, UInt8.ofNat 46, UInt8.ofNat 45, UInt8.ofNat 98] (repM
 [UInt8.ofNat 7] 32) 1099511627776 1099511627776 281474976710655 = Prod.mk s_108 e_109) → Lf (s_108.length ≤ 1000000) ∧ ∀ n_110 k_111 : List UInt8, ∀ f_112 u_113 m_114 e_115 : Int, Lf (decBM s_108 = Prod.mk n_110 (Prod.mk k_111 (Prod.mk
 f_112 (Prod.mk u_113 (Prod.mk m_114 e_115))))) → bif e_9 == 4 then bif eqB s_0 s_2 then bif i_5 == 0 then knT0 e_12 e_15 e_18 s_0 e_6 e_109 s_108 e_115 n_110 k_111 f_112 u_113 m_114 Q else Q (.ret (.bool false)) [] {} else bif eqB s_0
 s_0 then bif i_5 == 1 then knT0 e_12 e_15 e_18 s_0 e_6 e_109 s_108 e_115 n_110 k_111 f_112 u_113 m_114 Q else Q (.ret (.bool false)) [] {} else bif i_5 == -1 then knT0 e_12 e_15 e_18 s_0 e_6 e_109 s_108 e_115 n_110 k_111 f_112 u_113
 m_114 Q else Q (.ret (.bool false)) [] {} else Q (.ret (.bool false)) [] {})))))))))))))) := by kernel_rfl

end Go.Proofs.YtifjpcdpmimccaaGreatDoor
