/-
  Chapter 18: Decode of badges.
-/
import Derived.Test.YtifjpcdpmimccaaGreatDoorB18RA
set_option linter.unusedSimpArgs false
set_option linter.unusedVariables false
set_option linter.unusedSectionVars false
namespace Go.Proofs.YtifjpcdpmimccaaGreatDoor
open Go.RowKit
set_option maxRecDepth 1000000

def dfn14 : DFn := ⟨14, (.right (.region [⟨(some 2), .box (.c (.agg [(.str []), (.str []), (.int .i64 (.ofNat 0)), (.int .i64 (.ofNat 0)), (.int .i64 (.ofNat 0))])), none, 0, 0⟩, ⟨(some 3), .box (.c (.int .i64 (.ofNat 0))), none, 0, 0⟩]) (.left (.here [⟨(some 7), .mkfn (.func 43) [] [(.t 2), (.t 3)], none, 0, 0⟩] (.t 7)) (.seq (.region [⟨(some 8), .mv (.t 0), none, 0, 0⟩, ⟨(some 9), .build [(.str []), (.int .i64 (.ofNat 0))] [(0, 1, (.t 8))], none, 0, 0⟩, ⟨(some 10), .build [(.str []), (.str []), (.int .i64 (.ofNat 0)), (.int .i64 (.ofNat 0)), (.int .i64 (.ofNat 0)), (.str []), (.int .i64 (.ofNat 0))] [(5, 2, (.t 9))], none, 0, 0⟩, ⟨(some 11), .box (.t 10), none, 0, 0⟩, ⟨(some 4), .mv (.t 11), none, 0, 0⟩]) (.seq (.seq (.region [⟨(some 12), .mv (.t 4), none, 0, 0⟩, ⟨(some 13), .mkfn (.func 44) [(.t 12)] [], none, 0, 0⟩, ⟨(some 14), .mv (.t 4), none, 0, 0⟩, ⟨(some 15), .mkfn (.func 45) [(.t 14)] [], none, 0, 0⟩, ⟨(some 16), .mv (.t 4), none, 0, 0⟩, ⟨(some 17), .mkfn (.func 46) [(.t 16)] [], none, 0, 0⟩, ⟨(some 18), .mv (.t 4), none, 0, 0⟩, ⟨(some 19), .mkfn (.func 47) [(.t 18)] [], none, 0, 0⟩, ⟨(some 20), .mv (.t 4), none, 0, 0⟩, ⟨(some 21), .mkfn (.func 48) [(.t 20)] [], none, 0, 0⟩, ⟨(some 22), .mv (.t 4), none, 0, 0⟩, ⟨(some 23), .mkfn (.func 49) [(.t 22)] [], none, 0, 0⟩, ⟨(some 24), .build [.nilf, .nilf, .nilf, .nilf, .nilf, .nilf] [(0, 1, (.t 13)), (1, 1, (.t 15)), (2, 1, (.t 17)), (3, 1, (.t 19)), (4, 1, (.t 21)), (5, 1, (.t 23))], none, 0, 0⟩, ⟨(some 25), .mv (.c (.int .i64 (.ofNat 0))), none, 0, 0⟩]) (.block 0 (.loop 14000 4362864219389951 (.seq (.region [⟨(some 26), .bin .lss .it (.t 25) (.c (.int .i64 (.ofNat 6))), none, 0, 0⟩]) (.seq (.cond (.t 26) .skip (.exit 0)) (.seq (.block 1 (.seq (.region [⟨(some 27), .ixA 6 ⟨false, 0, 1⟩ (.t 24) (.t 25), none, 0, 0⟩, ⟨(some 6), .mv (.t 27), none, 0, 0⟩]) (.region [⟨(some 28), .mv (.t 6), none, 0, 0⟩, ⟨(some 29), .call (.t 28) [], none, 0, 0⟩]))) (.region [⟨(some 30), .bin .add .it (.t 25) (.c (.int .i64 (.ofNat 1))), none, 0, 0⟩, ⟨(some 25), .mv (.t 30), none, 0, 0⟩]))))))) (.seq (.seq (.region [⟨(some 31), .mv (.t 4), none, 0, 0⟩, ⟨(some 32), .nilck (.t 31), none, 0, 0⟩, ⟨(some 33), .fa 5 (.t 32), none, 0, 0⟩, ⟨(some 34), .fa 1 (.t 33), none, 0, 0⟩, ⟨(some 35), .ld false 1 (.t 34), none, 0, 0⟩, ⟨(some 36), .mv (.t 0), none, 0, 0⟩, ⟨(some 37), .lenS (.t 36), none, 0, 0⟩, ⟨(some 38), .bin .neq .it (.t 35) (.t 37), none, 0, 0⟩, ⟨(some 39), .mv (.t 38), none, 0, 0⟩, ⟨(some 40), .mv (.t 4), (some (39, false)), 0, 0⟩, ⟨(some 41), .nilck (.t 40), (some (39, false)), 0, 0⟩, ⟨(some 42), .fa 0 (.t 41), (some (39, false)), 0, 0⟩, ⟨(some 43), .ld true 5 (.t 42), (some (39, false)), 0, 0⟩, ⟨(some 44), .call (.c (.fn (.func 50) [] [])) [(.t 43)], (some (39, false)), 0, 0⟩, ⟨(some 45), .un .not (.t 44), (some (39, false)), 0, 0⟩, ⟨(some 46), .pick (.t 39) (.c (.bool true)) (.t 45), none, 0, 0⟩]) (.cond (.t 46) (.seq (.region [⟨(some 47), .build [(.str []), (.str []), (.int .i64 (.ofNat 0)), (.int .i64 (.ofNat 0)), (.int .i64 (.ofNat 0))] [], none, 0, 0⟩, ⟨none, .st 5 (.t 2) (.t 47), none, 0, 0⟩, ⟨none, .st 1 (.t 3) (.c (.int .i64 (.ofNat 5))), none, 0, 0⟩]) .ret) .skip)) (.seq (.region [⟨(some 48), .mv (.t 4), none, 0, 0⟩, ⟨(some 49), .nilck (.t 48), none, 0, 0⟩, ⟨(some 50), .fa 0 (.t 49), none, 0, 0⟩, ⟨(some 51), .ld true 5 (.t 50), none, 0, 0⟩, ⟨none, .st 5 (.t 2) (.t 51), none, 0, 0⟩, ⟨none, .st 1 (.t 3) (.c (.int .i64 (.ofNat 0))), none, 0, 0⟩]) .ret)))))), [(.cell 2 true 5), (.cell 3 false 1)], ⟨43, 3, [⟨(some 2), .mv (.t 3), none, 0, 0⟩], (.seq (.region [⟨(some 4), .mv (.t 2), none, 0, 0⟩, ⟨(some 5), .bin .neq .ifc (.t 4) (.c .nili), none, 0, 0⟩]) (.cond (.t 5) (.region [⟨(some 6), .build [(.str []), (.str []), (.int .i64 (.ofNat 0)), (.int .i64 (.ofNat 0)), (.int .i64 (.ofNat 0))] [], none, 0, 0⟩, ⟨none, .st 5 (.t 0) (.t 6), none, 0, 0⟩, ⟨none, .st 1 (.t 1) (.c (.int .i64 (.ofNat 5))), none, 0, 0⟩]) .skip))⟩⟩
theorem dfn14_ok : dfnOf Tryz.prog 14 43 = some dfn14 := by kernel_rfl
def smD14 : SM := lookS [(50, cValid), (100, cTake), (102, cUint)]
theorem smD14_ok : ∀ f g, smD14 f = some g → ValidF Tryz.prog gl0 f g := lookS_ok _ (by simp only [List.mem_cons, List.not_mem_nil, or_false, forall_eq_or_imp, forall_eq]; exact ⟨valid50_ok, take_ok, uint_ok⟩)
noncomputable def goal_14 (hv : Nat → Option Pa) (hb : Nat → Option Bool) (s : List UInt8) (Q : Out → List Blk → Gh → Prop) : Prop :=
 callD (e18 smD14 (fun _ => none) hv hb) (wpx (e18 smD14 (fun _ => none) hv hb) 1000) dfn14 [.str s] [] {} Q
def vc_14_1 (Q : Out → List Blk → Gh → Prop) : Prop := (
(∃ n_0 : Int, (((AV.int .i64 (0 : Int)) = (AV.int .i64 n_0)) ∧
 (∃ s_1 : (List UInt8), (∃ n_2 : Int, (((AV.agg ((AV.str []) :: ((AV.int .i64 (0 : Int)) :: []))) = (AV.agg ((AV.str s_1) :: ((AV.int .i64 n_2) :: [])))) ∧
 (Q (Out.ret (AV.tup ((AV.agg ((AV.str []) :: ((AV.str []) :: ((AV.int .i64 (0 : Int)) :: ((AV.int .i64 (0 : Int)) :: ((AV.int .i64 (0 : Int)) :: [])))))) :: ((AV.int .i64 (5 : Int)) :: [])))) [] (Gh.mk (0 : Nat) (0 : Nat) []))))))))
abbrev q18U_14_0 (s_18 : List UInt8) (Q : Out → List Blk → Gh → Prop) : Prop :=
AV.str [] = AV.str s_18 ∧ ∃ s_19 n_20, AV.agg [.str [], .int .i64 0] = AV.agg [.str s_19, .int .i64 n_20] ∧ Q (.ret (.tup [.agg [.str [], .str [], .int .i64 0, .int .i64 0, .int .i64 0], .int .i64 5])) [] {}
abbrev q18U_14_1 (n_2 : Int) (s_1 : List UInt8) : Prop :=
Lf (0 ≤ n_2 ∧ n_2 ≤ (s_1.length : Int) ∧ s_1.length ≤ 1000000 ∧ (1 : Int) ≤ (6 : Int) ∧ (6 : Int) ≤ (7 : Int))
theorem vc_14 (s : List UInt8) (Q : Out → List Blk → Gh → Prop) : goal_14 (lookV [(303119, .str), (307215, .int .i64), (303120, .agg [(.str), (.int .i64)]), (57381, .int .i64), (307216, .agg [(.str), (.int .i64)])]) (lookB []) s Q = (Lf ((0
 : Int) ≤ (0 : Int) ∧ 0 ≤ (s.length : Int) ∧ s.length ≤ 1000000 ∧ (0 : Int) ≤ (3 : Int) ∧ (3 : Int) ≤ (1000000 : Int)) ∧ bif decide (3 ≤ (s.length : Int)) then exS (.str ((s.drop 0).take 3)) (fun s_0 => ∃ s_1 n_2, AV.agg [.str s, .int .i64
 3] = AV.agg [.str s_1, .int .i64 n_2] ∧ bif !eqB s_0 [UInt8.ofNat 102, UInt8.ofNat 100, UInt8.ofNat 1] then Q (.ret (.tup [.agg [.str [], .str [], .int .i64 0, .int .i64 0, .int .i64 0], .int .i64 5])) [] {} else q18U_14_1 n_2 s_1 ∧ bif
 decide (n_2 + 6 ≤ (s_1.length : Int)) then exI .i64 (beM ((s_1.drop n_2.toNat).take 6)) (fun n_3 => ∃ s_4 n_5, AV.agg [.str s_1, .int .i64 (n_2 + 6)] = AV.agg [.str s_4, .int .i64 n_5] ∧ q18U_14_1 n_5 s_4 ∧ bif decide (n_5 + 6 ≤
 (s_4.length : Int)) then exI .i64 (beM ((s_4.drop n_5.toNat).take 6)) (fun n_6 => ∃ s_7 n_8, AV.agg [.str s_4, .int .i64 (n_5 + 6)] = AV.agg [.str s_7, .int .i64 n_8] ∧ q18U_14_1 n_8 s_7 ∧ bif decide (n_8 + 6 ≤ (s_7.length : Int)) then exI
 .i64 (beM ((s_7.drop n_8.toNat).take 6)) (fun n_9 => ∃ s_10 n_11, AV.agg [.str s_7, .int .i64 (n_8 + 6)] = AV.agg [.str s_10, .int .i64 n_11] ∧ Lf (0 ≤ n_11 ∧ n_11 ≤ (s_10.length : Int) ∧ s_10.length ≤ 1000000 ∧ (1 : Int) ≤ (1 : Int) ∧ (1
 : Int) ≤ (7 : Int)) ∧ bif decide (n_11 + 1 ≤ (s_10.length : Int)) then exI .i64 (beM ((s_10.drop n_11.toNat).take 1)) (fun n_12 => ∃ s_13 n_14, AV.agg [.str s_10, .int .i64 (n_11 + 1)] = AV.agg [.str s_13, .int .i64 n_14] ∧ Lf (0 ≤ n_14 ∧
 n_14 ≤ (s_13.length : Int) ∧ s_13.length ≤ 1000000 ∧ 0 ≤ n_12 ∧ n_12 ≤ 1000000) ∧ bif decide (n_14 + n_12 ≤ (s_13.length : Int)) then exS (.str ((s_13.drop n_14.toNat).take n_12.toNat)) (fun s_15 => ∃ s_16 n_17, AV.agg [.str s_13, .int
 .i64 (n_14 + n_12)] = AV.agg [.str s_16, .int .i64 n_17] ∧ Lf (0 ≤ n_17 ∧ n_17 ≤ (s_16.length : Int) ∧ s_16.length ≤ 1000000 ∧ (0 : Int) ≤ (32 : Int) ∧ (32 : Int) ≤ (1000000 : Int)) ∧ bif decide (n_17 + 32 ≤ (s_16.length : Int)) then exS
 (.str ((s_16.drop n_17.toNat).take 32)) (fun s_18 => ∃ s_19 n_20, AV.agg [.str s_16, .int .i64 (n_17 + 32)] = AV.agg [.str s_19, .int .i64 n_20] ∧ exI .i64 (s.length : Int) (fun n_21 => bif n_20 != n_21 then Q (.ret (.tup [.agg [.str [],
 .str [], .int .i64 0, .int .i64 0, .int .i64 0], .int .i64 5])) [] {} else Lf (s_15.length ≤ 9223372036854775807) ∧ ∀ b_22 : Bool, Lf (b_22 = rightBM s_15 s_18 n_6 n_9 n_3) → bif b_22 then Q (.ret (.tup [.agg [.str s_15, .str s_18, .int
 .i64 n_6, .int .i64 n_9, .int .i64 n_3], .int .i64 0])) [] {} else Q (.ret (.tup [.agg [.str [], .str [], .int .i64 0, .int .i64 0, .int .i64 0], .int .i64 5])) [] {})) else ∃ s_18 : List UInt8, q18U_14_0 s_18 Q) else ∃ s_15 : List UInt8,
 q18U_14_0 s_15 Q) else vc_14_1 Q) else vc_14_1 Q) else vc_14_1 Q) else vc_14_1 Q) else ∃ s_0 : List UInt8, q18U_14_0 s_0 Q) := by kernel_rfl

end Go.Proofs.YtifjpcdpmimccaaGreatDoor

set_option linter.unusedSimpArgs false
set_option linter.unusedVariables false
set_option linter.unusedSectionVars false
namespace Go.Proofs.YtifjpcdpmimccaaGreatDoor
open Go.RowKit
set_option maxRecDepth 1000000

def lenB (s : List UInt8) : Int := beM ((s.drop 21).take 1)
def nmB (s : List UInt8) : List UInt8 := (s.drop 22).take (lenB s).toNat
def keB (s : List UInt8) : List UInt8 := (s.drop (22 + lenB s).toNat).take 32
def nuB (s : List UInt8) : Int := beM ((s.drop 3).take 6)
def frB (s : List UInt8) : Int := beM ((s.drop 9).take 6)
def unB (s : List UInt8) : Int := beM ((s.drop 15).take 6)
abbrev okB (s : List UInt8) : Prop := s.take 3 = [102, 100, 1] ∧ (s.length : Int) = 22 + lenB s + 32 ∧ rightBM (nmB s) (keB s) (frB s) (unB s) (nuB s) = true
def decBM (s : List UInt8) : List UInt8 × List UInt8 × Int × Int × Int × Int := if okB s then (nmB s, keB s, frB s, unB s, nuB s, 0) else ([], [], 0, 0, 0, 5)
theorem be_nn (s : List UInt8) : 0 ≤ beM s := by unfold beM; omega
theorem be_one {s : List UInt8} (h : s.length ≤ 1) : beM s ≤ 255 := by
 match s, h with
 | [], _ => decide
 | [c], _ =>
  have := c.toNat_lt
  show ((0 * 256 + c.toNat : Nat) : Int) ≤ 255
  omega
theorem dec14_run (s : List UInt8) (hs : s.length ≤ 1000000) (Q : Out → List Blk → Gh → Prop) (h0 : ¬ okB s → Q (.ret (.tup [.agg [.str [], .str [], .int .i64 0, .int .i64 0, .int .i64 0], .int .i64 5])) [] {})
  (h1 : okB s → Q (.ret (.tup [.agg [.str (nmB s), .str (keB s), .int .i64 (frB s), .int .i64 (unB s), .int .i64 (nuB s)], .int .i64 0])) [] {}) : ∃ hv hb, goal_14 hv hb s Q := by
 obtain ⟨hv', hb', e'⟩ : ∃ hv hb, goal_14 hv hb s Q = _ := ⟨_, _, vc_14 s Q⟩
 refine ⟨hv', hb', e'.mpr ?_⟩
 clear e'
 have ln := be_nn ((s.drop 21).take 1)
 have lx := be_one (s := (s.drop 21).take 1) (by rw [List.length_take]; omega)
 have bad : ¬ okB s → vc_14_1 Q := fun h => by
  unfold vc_14_1
  exact ⟨_, rfl, _, _, rfl, h0 h⟩
 refine ⟨⟨by omega, by omega, hs, by omega, by omega⟩, splitD (fun g3 => ⟨s.take 3, rfl, _, _, rfl, ?_⟩) (fun g3 => ⟨_, rfl, _, _, rfl, h0 (fun h => by have := h.2.1; unfold lenB at this; omega)⟩)⟩
 cases he : eqB (s.take 3) [UInt8.ofNat 102, UInt8.ofNat 100, UInt8.ofNat 1] with
 | false =>
  refine h0 (fun h => ?_)
  rw [h.1] at he
  cases he
 | true =>
  rw [eqB_iff, beq_iff_eq] at he
  refine ⟨⟨by omega, by omega, hs, by omega, by omega⟩, splitD (fun g9 => ⟨_, rfl, _, _, rfl, ⟨by omega, by omega, hs, by omega, by omega⟩, splitD (fun g15 => ⟨_, rfl, _, _, rfl, ⟨by omega, by omega, hs, by omega, by omega⟩, splitD (fun g21 => ⟨_, rfl, _, _, rfl, ⟨by omega, by omega, hs, by omega, by omega⟩, splitD (fun g22 => ?_) (fun g => bad (fun h => by have := h.2.1; unfold lenB at this; omega))⟩) (fun g => bad (fun h => by have := h.2.1; unfold lenB at this; omega))⟩) (fun g => bad (fun h => by have := h.2.1; unfold lenB at this; omega))⟩) (fun g => bad (fun h => by have := h.2.1; unfold lenB at this; omega))⟩
  refine ⟨lenB s, rfl, _, _, rfl, ⟨by omega, by omega, hs, ln, by unfold lenB; omega⟩, splitD (fun gn => ⟨nmB s, rfl, _, _, rfl, ⟨by unfold lenB; omega, by omega, hs, by omega, by omega⟩, splitD (fun gk => ⟨keB s, rfl, _, _, rfl, _, rfl, ?_⟩) (fun g => ⟨_, rfl, _, _, rfl, h0 (fun h => by have := h.2.1; omega)⟩)⟩) (fun g => ⟨_, rfl, _, _, rfl, h0 (fun h => by have := h.2.1; omega)⟩)⟩
  refine splitNE (fun g => h0 (fun h => by have := h.2.1; omega)) (fun g => ⟨⟨by unfold nmB; rw [List.length_take, List.length_drop]; omega⟩, ?_⟩)
  rintro b ⟨hb⟩
  have hr : rightBM (nmB s) (keB s) (frB s) (unB s) (nuB s) = b := hb.symm
  cases b with
  | true => exact h1 ⟨he, by omega, hr⟩
  | false => exact h0 (fun h => by have := h.2.2; rw [hr] at this; cases this)
def cDecB : Con
 | [.str s], H, K => Lf (s.length ≤ 1000000) ∧ ∀ (n k : List UInt8) (f u m e : Int), Lf (decBM s = (n, k, f, u, m, e)) → K (.ret (.tup [.agg [.str n, .str k, .int .i64 f, .int .i64 u, .int .i64 m], .int .i64 e])) H
 | _, _, _ => False
theorem decB_ok : ValidF Tryz.prog gl0 14 cDecB := valid_frzD dfn14_ok (enters_of (by kernel_rfl)) gl0_noY 9 (nlR []) (wk_nlR _) fun args H Q hc => by
 unfold cDecB at hc
 split at hc
 ·rename_i s
  obtain ⟨⟨h1⟩, hq⟩ := hc
  obtain ⟨hv, hb', h⟩ := dec14_run s h1 (Q := fun o H' _ => ∃ v, o = .ret v ∧ Q (.ret (nlR [] (frzV 0 H' 9 v))) H) (fun h => ⟨_, rfl, hq [] [] 0 0 0 5 ⟨by rw [decBM, if_neg h]⟩⟩) (fun h => ⟨_, rfl, hq _ _ _ _ _ 0 ⟨by rw [decBM, if_pos h]⟩⟩)
  exact ⟨rfl, rfl, _, 1000, envFor18 smD14_ok _ _ _, rfl, h⟩
 ·exact hc.elim
end Go.Proofs.YtifjpcdpmimccaaGreatDoor
