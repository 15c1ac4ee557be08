/-
  Chapter 01: OctetsReads.
-/
import Derived.Test.YthaapjfnadfmgaaO1B
set_option linter.unusedSimpArgs false
set_option linter.unusedVariables false
set_option linter.unusedSectionVars false
namespace Go.Proofs.Ythaapjfnadfmgaa
open Go.RowKit
set_option maxRecDepth 1000000

/-! ## what holds of readers -/
def rightR (s : List UInt8) (a : Int) : Bool := decide (0 ≤ a ∧ a ≤ (s.length : Int))
noncomputable def goal_30 (hv : Nat → Option Pa) (hb : Nat → Option Bool) (s : List UInt8) (a : Int) (Q : Out → List Blk → Gh → Prop) : Prop :=
  callx (e01 sm0 (fun _ => none) hv hb) (wpx (e01 sm0 (fun _ => none) hv hb) 1000) 30 [.agg [.str s, .int .i64 a]] [] {} Q
theorem vc_30 (s : List UInt8) (a : Int) (Q : Out → List Blk → Gh → Prop) : goal_30 (lookV [(122891, .int .i64)]) (lookB []) s a Q = (
(bif (decide (a ≥ (0 : Int))) then (∃ n_0 : Int, (((AV.int .i64 (Nat.cast (List.length s) : Int)) = (AV.int .i64 n_0)) ∧
 (bif (decide (a ≤ n_0)) then (Q (Out.ret (AV.bool true)) [] (Gh.mk (0 : Nat) (0 : Nat) []))
else (Q (Out.ret (AV.bool false)) [] (Gh.mk (0 : Nat) (0 : Nat) [])))))
else (Q (Out.ret (AV.bool false)) [] (Gh.mk (0 : Nat) (0 : Nat) [])))) := by kernel_rfl

noncomputable def goal_31 (hv : Nat → Option Pa) (hb : Nat → Option Bool) (s : List UInt8) (a : Int) (Q : Out → List Blk → Gh → Prop) : Prop :=
  callx (e01 sm0 (fun _ => none) hv hb) (wpx (e01 sm0 (fun _ => none) hv hb) 1000) 31 [.agg [.str s, .int .i64 a]] [] {} Q
theorem vc_31 (s : List UInt8) (a : Int) (Q : Out → List Blk → Gh → Prop) : goal_31 (lookV [(126981, .int .i64), (126984, .int .i64)]) (lookB []) s a Q = (
(∃ n_0 : Int, (((AV.int .i64 (Nat.cast (List.length s) : Int)) = (AV.int .i64 n_0)) ∧
 (∃ n_1 : Int, (((AV.int .i64 (IntKind.wrap .i64 (n_0 - a))) = (AV.int .i64 n_1)) ∧
 (Q (Out.ret (AV.int .i64 n_1)) [] (Gh.mk (0 : Nat) (0 : Nat) []))))))) := by kernel_rfl

noncomputable def goal_32 (hv : Nat → Option Pa) (hb : Nat → Option Bool) (s : List UInt8) (a : Int) (Q : Out → List Blk → Gh → Prop) : Prop :=
  callx (e01 sm0 (fun _ => none) hv hb) (wpx (e01 sm0 (fun _ => none) hv hb) 1000) 32 [.agg [.str s, .int .i64 a]] [] {} Q
theorem vc_32 (s : List UInt8) (a : Int) (Q : Out → List Blk → Gh → Prop) : goal_32 (lookV [(192524, .int .i64), (131089, .int .i64), (131093, .int .i64)]) (lookB []) s a Q = (
(bif (decide (a < (0 : Int))) then (Q (Out.ret (AV.tup ((AV.int .i64 (0 : Int)) :: ((AV.int .i64 (2 : Int)) :: [])))) [] (Gh.mk (0 : Nat) (0 : Nat) []))
else (∃ n_0 : Int, (((AV.int .i64 (Nat.cast (List.length s) : Int)) = (AV.int .i64 n_0)) ∧
 (bif (decide (a > n_0)) then (Q (Out.ret (AV.tup ((AV.int .i64 (0 : Int)) :: ((AV.int .i64 (2 : Int)) :: [])))) [] (Gh.mk (0 : Nat) (0 : Nat) []))
else (∃ n_1 : Int, (((AV.int .i64 (Nat.cast (List.length s) : Int)) = (AV.int .i64 n_1)) ∧
 (∃ n_2 : Int, (((AV.int .i64 (IntKind.wrap .i64 (n_1 - a))) = (AV.int .i64 n_2)) ∧
 (Q (Out.ret (AV.tup ((AV.int .i64 n_2) :: ((AV.int .i64 (0 : Int)) :: [])))) [] (Gh.mk (0 : Nat) (0 : Nat) []))))))))))) := by kernel_rfl

noncomputable def goal_33 (hv : Nat → Option Pa) (hb : Nat → Option Bool) (s : List UInt8) (a : Int) (Q : Out → List Blk → Gh → Prop) : Prop :=
  callx (e01 sm0 (fun _ => none) hv hb) (wpx (e01 sm0 (fun _ => none) hv hb) 1000) 33 [.agg [.str s, .int .i64 a]] [] {} Q
theorem vc_33 (s : List UInt8) (a : Int) (Q : Out → List Blk → Gh → Prop) : goal_33 (lookV [(192524, .int .i64)]) (lookB []) s a Q = (
(bif (decide (a < (0 : Int))) then (Q (Out.ret (AV.int .i64 (2 : Int))) [] (Gh.mk (0 : Nat) (0 : Nat) []))
else (∃ n_0 : Int, (((AV.int .i64 (Nat.cast (List.length s) : Int)) = (AV.int .i64 n_0)) ∧
 (bif (decide (a > n_0)) then (Q (Out.ret (AV.int .i64 (2 : Int))) [] (Gh.mk (0 : Nat) (0 : Nat) []))
else (Q (Out.ret (AV.int .i64 (0 : Int))) [] (Gh.mk (0 : Nat) (0 : Nat) []))))))) := by kernel_rfl

def cRightR : Con
  | [.agg [.str s, .int .i64 a]], H, K => ∀ b, Lf (b = rightR s a) → K (.ret (.bool b)) H
  | _, _, _ => False
def cLeftR : Con
  | [.agg [.str s, .int .i64 a]], H, K => Lf (0 ≤ a ∧ a ≤ (s.length : Int) ∧ s.length ≤ 1000000) ∧ ∀ l, Lf (l = (s.length : Int) - a) → K (.ret (.int .i64 l)) H
  | _, _, _ => False
def cLeft : Con
  | [.agg [.str s, .int .i64 a]], H, K => Lf (s.length ≤ 1000000) ∧ ∀ l e, Lf ((l, e) = if rightR s a then ((s.length : Int) - a, (0 : Int)) else (0, 2)) → K (.ret (.tup [.int .i64 l, .int .i64 e])) H
  | _, _, _ => False
def cChk : Con
  | [.agg [.str s, .int .i64 a]], H, K => ∀ e, Lf (e = if rightR s a then (0 : Int) else 2) → K (.ret (.int .i64 e)) H
  | _, _, _ => False
theorem right_ok : ValidF Try.prog gl0 30 cRightR := by
  refine valid_flat (enters_of (by kernel_rfl)) gl0_noY fun args H Q hc => ?_
  unfold cRightR at hc
  split at hc
  · rename_i s a
    obtain ⟨hv, hb', e⟩ : ∃ hv hb, goal_30 hv hb s a (fun o H' _ => H' = [] ∧ (∃ v, o = .ret v ∧ old 0 v = true ∧ noY v = true) ∧ Q o H) = _ := ⟨_, _, vc_30 s a _⟩
    refine ⟨rfl, rfl, _, 1000, envFor01 sm0_ok _ hv hb', rfl, e.mpr ?_⟩
    have hq := hc
    refine splitD (fun h => ⟨_, rfl, splitD (fun h2 => ?_) (fun h2 => ?_)⟩) (fun h => ?_)
    · exact ⟨rfl, ⟨_, rfl, rfl, rfl⟩, hq true ⟨by rw [rightR, decide_eq_true (by omega)]⟩⟩
    · exact ⟨rfl, ⟨_, rfl, rfl, rfl⟩, hq false ⟨by rw [rightR, decide_eq_false (by omega)]⟩⟩
    · exact ⟨rfl, ⟨_, rfl, rfl, rfl⟩, hq false ⟨by rw [rightR, decide_eq_false (by omega)]⟩⟩
  · exact hc.elim
theorem rleft_ok : ValidF Try.prog gl0 31 cLeftR := by
  refine valid_flat (enters_of (by kernel_rfl)) gl0_noY fun args H Q hc => ?_
  unfold cLeftR at hc
  split at hc
  · rename_i s a
    obtain ⟨⟨hl⟩, hq⟩ := hc
    obtain ⟨hv, hb', e⟩ : ∃ hv hb, goal_31 hv hb s a (fun o H' _ => H' = [] ∧ (∃ v, o = .ret v ∧ old 0 v = true ∧ noY v = true) ∧ Q o H) = _ := ⟨_, _, vc_31 s a _⟩
    refine ⟨rfl, rfl, _, 1000, envFor01 sm0_ok _ hv hb', rfl, e.mpr ?_⟩
    exact ⟨_, rfl, wrapI (by omega) (by omega) ⟨rfl, ⟨_, rfl, rfl, rfl⟩, hq _ ⟨rfl⟩⟩⟩
  · exact hc.elim
theorem left_ok : ValidF Try.prog gl0 32 cLeft := by
  refine valid_flat (enters_of (by kernel_rfl)) gl0_noY fun args H Q hc => ?_
  unfold cLeft at hc
  split at hc
  · rename_i s a
    obtain ⟨⟨hl⟩, hq⟩ := hc
    obtain ⟨hv, hb', e⟩ : ∃ hv hb, goal_32 hv hb s a (fun o H' _ => H' = [] ∧ (∃ v, o = .ret v ∧ old 0 v = true ∧ noY v = true) ∧ Q o H) = _ := ⟨_, _, vc_32 s a _⟩
    refine ⟨rfl, rfl, _, 1000, envFor01 sm0_ok _ hv hb', rfl, e.mpr ?_⟩
    have bad : ¬ (0 ≤ a ∧ a ≤ (s.length : Int)) → [] = ([] : List Blk) ∧ (∃ v, Out.ret (.tup [.int .i64 0, .int .i64 2]) = .ret v ∧ old 0 v = true ∧ noY v = true) ∧ Q (.ret (.tup [.int .i64 0, .int .i64 2])) H := fun h => ⟨rfl, ⟨_, rfl, rfl, rfl⟩, hq 0 2 ⟨by rw [rightR, decide_eq_false h]; rfl⟩⟩
    refine splitD (fun h => bad (by omega)) (fun h1 => ⟨_, rfl, splitD (fun h => bad (by omega)) (fun h2 => ⟨_, rfl, wrapI (by omega) (by omega) ?_⟩)⟩)
    exact ⟨rfl, ⟨_, rfl, rfl, rfl⟩, hq _ 0 ⟨by rw [rightR, decide_eq_true (by omega)]; rfl⟩⟩
  · exact hc.elim
theorem chk_ok : ValidF Try.prog gl0 33 cChk := by
  refine valid_flat (enters_of (by kernel_rfl)) gl0_noY fun args H Q hc => ?_
  unfold cChk at hc
  split at hc
  · rename_i s a
    have hq := hc
    obtain ⟨hv, hb', e⟩ : ∃ hv hb, goal_33 hv hb s a (fun o H' _ => H' = [] ∧ (∃ v, o = .ret v ∧ old 0 v = true ∧ noY v = true) ∧ Q o H) = _ := ⟨_, _, vc_33 s a _⟩
    refine ⟨rfl, rfl, _, 1000, envFor01 sm0_ok _ hv hb', rfl, e.mpr ?_⟩
    refine splitD (fun h => ?_) (fun h => ⟨_, rfl, splitD (fun h2 => ?_) (fun h2 => ?_)⟩)
    · exact ⟨rfl, ⟨_, rfl, rfl, rfl⟩, hq 2 ⟨by rw [rightR, decide_eq_false (by omega)]; rfl⟩⟩
    · exact ⟨rfl, ⟨_, rfl, rfl, rfl⟩, hq 2 ⟨by rw [rightR, decide_eq_false (by omega)]; rfl⟩⟩
    · exact ⟨rfl, ⟨_, rfl, rfl, rfl⟩, hq 0 ⟨by rw [rightR, decide_eq_true (by omega)]; rfl⟩⟩
  · exact hc.elim
def famK (sl : List (Nat × AV)) (ix m : Nat) (hp : List Blk) (c : Nat) : LInv := { α := Nat, pre := fun x => Lf (x = 0), st := fun _ => ⟨mkT ((ix, .int .i64 (.ofNat c)) :: sl), hp⟩, mu := fun _ => m - c }
def inv_8a (s : S) : List (List LInv) := (fun sl => [[famK sl 54 2 s.hp 0, famK sl 54 2 s.hp 1, famK sl 54 2 s.hp 2]]) ([(1, s.tm.get 1), (3, s.tm.get 3), (53, s.tm.get 53)])
def inv_8b (s : S) : List (List LInv) := (fun sl => [[famK sl 86 2 s.hp 0, famK sl 86 2 s.hp 1, famK sl 86 2 s.hp 2]]) ([(1, s.tm.get 1), (3, s.tm.get 3), (10, s.tm.get 10), (11, s.tm.get 11), (12, s.tm.get 12), (13, s.tm.get 13), (53, s.tm.get 53), (54, s.tm.get 54), (85, s.tm.get 85)])
def smR8 : SM := lookS [(9, cTrue), (14, cUnitP), (30, cRightR), (31, cLeftR), (32, cLeft), (33, cChk), (34, cTake), (35, cUint), (36, cSkip), (37, cUp), (40, cNum40)]
theorem smR8_ok : ∀ f g, smR8 f = some g → ValidF Try.prog gl0 f g := lookS_ok _ (by simp only [List.mem_cons, List.not_mem_nil, or_false, forall_eq_or_imp, forall_eq]; exact ⟨works_ok, runit_ok, right_ok, rleft_ok, left_ok, chk_ok, take_ok, uint_ok, skip_ok, up_ok, num40_ok⟩)
noncomputable def env_8 (hv : Nat → Option Pa) (hb : Nat → Option Bool) : Env := e01 smR8 (fun i => bif Nat.beq i 8000 then some inv_8a else bif Nat.beq i 8002 then some inv_8b else none) hv hb
noncomputable def goal_8 (hv : Nat → Option Pa) (hb : Nat → Option Bool) (s : List UInt8) (a n pl k : Int) (Q : Out → List Blk → Gh → Prop) : Prop :=
  callx (env_8 hv hb) (wpx (env_8 hv hb) 1000) 8 [.agg [.str s, .int .i64 a], .int .i64 n, .int .u16 pl, .int .u8 k] [] {} Q
def stp1 (s_2 : List UInt8) (a : Int) (n_6 : Int) (n : Int) (k : Int) (l_9 : Int) (n_14 : Int) : Prop :=
(True ∧ (0 : Nat) = (0 : Nat)) ∧ ((∃ y_30 : Nat, Lf (y_30 = 0) ∧ (2 : Nat) < (2 : Nat) ∧ eqqQ [AV.str s_2, .int IntKind.i64 a] ∧ eqqQ [AV.str s_2, .int IntKind.i64 n_6] ∧ eqqQ (AV.int .i64 n) ∧ eqqQ (AV.int .u8 k) ∧ eqqQ
 (AV.bool true) ∧ eqqQ (AV.int .i64 l_9) ∧ eqqQ (AV.agg [.str s_2, .int IntKind.i64 a, .str s_2, .int IntKind.i64 n_6]) ∧ eqqQ (AV.agg [.int IntKind.i64 n, .int IntKind.i64 n_14]) ∧ eqqQ (AV.int .i64 0) ∧ eqqQ (AV.ptr 1 2
 0) ∧ eqqQ (AV.int .i64 1) ∧ AV.int .i64 1 = AV.int .i64 0 ∧ True) ∨ (∃ y_30 : Nat, Lf (y_30 = 0) ∧ (1 : Nat) < (2 : Nat) ∧ eqqQ [AV.str s_2, .int IntKind.i64 a] ∧ eqqQ [AV.str s_2, .int IntKind.i64 n_6] ∧ eqqQ (AV.int
 IntKind.i64 n) ∧ eqqQ (AV.int .u8 k) ∧ eqqQ (AV.bool true) ∧ eqqQ (AV.int .i64 l_9) ∧ eqqQ (AV.agg [.str s_2, .int IntKind.i64 a, .str s_2, .int IntKind.i64 n_6]) ∧ eqqQ (AV.agg [.int IntKind.i64 n, .int IntKind.i64
 n_14]) ∧ eqqQ (AV.int .i64 0) ∧ eqqQ (AV.ptr 1 2 0) ∧ eqqQ (AV.int .i64 1) ∧ eqqQ (AV.int .i64 1) ∧ True) ∨ ∃ y_30 : Nat, Lf (y_30 = 0) ∧ (0 : Nat) < (2 : Nat) ∧ eqqQ [AV.str s_2, .int IntKind.i64 a] ∧ eqqQ [AV.str
 s_2, .int IntKind.i64 n_6] ∧ eqqQ (AV.int .i64 n) ∧ eqqQ (AV.int .u8 k) ∧ eqqQ (AV.bool true) ∧ eqqQ (AV.int .i64 l_9) ∧ eqqQ (AV.agg [.str s_2, .int IntKind.i64 a, .str s_2, .int IntKind.i64 n_6]) ∧ eqqQ (AV.agg
 [.int IntKind.i64 n, .int IntKind.i64 n_14]) ∧ eqqQ (AV.int .i64 0) ∧ eqqQ (AV.ptr 1 2 0) ∧ eqqQ (AV.int .i64 1) ∧ AV.int .i64 1 = AV.int .i64 2 ∧ True)
def stp2 (s_2 : List UInt8) (a : Int) (n_6 : Int) (n : Int) (k : Int) (l_9 : Int) (n_14 : Int) : Prop :=
(True ∧ (0 : Nat) = (0 : Nat)) ∧ ((∃ y_30 : Nat, Lf (y_30 = 0) ∧ (2 : Nat) < (1 : Nat) ∧ eqqQ [AV.str s_2, .int IntKind.i64 a] ∧ eqqQ [AV.str s_2, .int IntKind.i64 n_6] ∧ eqqQ (AV.int .i64 n) ∧ eqqQ (AV.int .u8 k) ∧ eqqQ
 (AV.bool true) ∧ eqqQ (AV.int .i64 l_9) ∧ eqqQ (AV.agg [.str s_2, .int IntKind.i64 a, .str s_2, .int IntKind.i64 n_6]) ∧ eqqQ (AV.agg [.int IntKind.i64 n, .int IntKind.i64 n_14]) ∧ eqqQ (AV.int .i64 0) ∧ eqqQ (AV.ptr 1 2
 0) ∧ eqqQ (AV.int .i64 1) ∧ AV.int .i64 2 = AV.int .i64 0 ∧ True) ∨ (∃ y_30 : Nat, Lf (y_30 = 0) ∧ (1 : Nat) < (1 : Nat) ∧ eqqQ [AV.str s_2, .int IntKind.i64 a] ∧ eqqQ [AV.str s_2, .int IntKind.i64 n_6] ∧ eqqQ (AV.int
 IntKind.i64 n) ∧ eqqQ (AV.int .u8 k) ∧ eqqQ (AV.bool true) ∧ eqqQ (AV.int .i64 l_9) ∧ eqqQ (AV.agg [.str s_2, .int IntKind.i64 a, .str s_2, .int IntKind.i64 n_6]) ∧ eqqQ (AV.agg [.int IntKind.i64 n, .int IntKind.i64
 n_14]) ∧ eqqQ (AV.int .i64 0) ∧ eqqQ (AV.ptr 1 2 0) ∧ eqqQ (AV.int .i64 1) ∧ AV.int .i64 2 = AV.int .i64 1 ∧ True) ∨ ∃ y_30 : Nat, Lf (y_30 = 0) ∧ (0 : Nat) < (1 : Nat) ∧ eqqQ [AV.str s_2, .int IntKind.i64 a] ∧
 eqqQ [AV.str s_2, .int IntKind.i64 n_6] ∧ eqqQ (AV.int .i64 n) ∧ eqqQ (AV.int .u8 k) ∧ eqqQ (AV.bool true) ∧ eqqQ (AV.int .i64 l_9) ∧ eqqQ (AV.agg [.str s_2, .int IntKind.i64 a, .str s_2, .int IntKind.i64 n_6]) ∧
 eqqQ (AV.agg [.int IntKind.i64 n, .int IntKind.i64 n_14]) ∧ eqqQ (AV.int .i64 0) ∧ eqqQ (AV.ptr 1 2 0) ∧ eqqQ (AV.int .i64 1) ∧ eqqQ (AV.int .i64 2) ∧ True)
def stp3 (s_2 : List UInt8) (a : Int) (n : Int) (k : Int) (l_9 : Int) (n_6 : Int) (n_14 : Int) : Prop :=
(True ∧ (0 : Nat) = (0 : Nat)) ∧ ((∃ y_30 : Nat, Lf (y_30 = 0) ∧ (2 : Nat) < (2 : Nat) ∧ eqqQ [AV.str s_2, .int IntKind.i64 a] ∧ eqqQ [AV.str s_2, .int IntKind.i64 a] ∧ eqqQ (AV.int .i64 n) ∧ eqqQ (AV.int .u8 k) ∧ eqqQ
 (AV.bool true) ∧ eqqQ (AV.int .i64 l_9) ∧ eqqQ (AV.agg [.str s_2, .int IntKind.i64 a, .str s_2, .int IntKind.i64 n_6]) ∧ eqqQ (AV.agg [.int IntKind.i64 n, .int IntKind.i64 n_14]) ∧ eqqQ (AV.int .i64 0) ∧ eqqQ (AV.ptr 1 2
 0) ∧ eqqQ (AV.int .i64 0) ∧ AV.int .i64 1 = AV.int .i64 0 ∧ True) ∨ (∃ y_30 : Nat, Lf (y_30 = 0) ∧ (1 : Nat) < (2 : Nat) ∧ eqqQ [AV.str s_2, .int IntKind.i64 a] ∧ eqqQ [AV.str s_2, .int IntKind.i64 a] ∧ eqqQ (AV.int
 IntKind.i64 n) ∧ eqqQ (AV.int .u8 k) ∧ eqqQ (AV.bool true) ∧ eqqQ (AV.int .i64 l_9) ∧ eqqQ (AV.agg [.str s_2, .int IntKind.i64 a, .str s_2, .int IntKind.i64 n_6]) ∧ eqqQ (AV.agg [.int IntKind.i64 n, .int IntKind.i64
 n_14]) ∧ eqqQ (AV.int .i64 0) ∧ eqqQ (AV.ptr 1 2 0) ∧ eqqQ (AV.int .i64 0) ∧ eqqQ (AV.int .i64 1) ∧ True) ∨ ∃ y_30 : Nat, Lf (y_30 = 0) ∧ (0 : Nat) < (2 : Nat) ∧ eqqQ [AV.str s_2, .int IntKind.i64 a] ∧ eqqQ [AV.str
 s_2, .int IntKind.i64 a] ∧ eqqQ (AV.int .i64 n) ∧ eqqQ (AV.int .u8 k) ∧ eqqQ (AV.bool true) ∧ eqqQ (AV.int .i64 l_9) ∧ eqqQ (AV.agg [.str s_2, .int IntKind.i64 a, .str s_2, .int IntKind.i64 n_6]) ∧ eqqQ (AV.agg
 [.int IntKind.i64 n, .int IntKind.i64 n_14]) ∧ eqqQ (AV.int .i64 0) ∧ eqqQ (AV.ptr 1 2 0) ∧ eqqQ (AV.int .i64 0) ∧ AV.int .i64 1 = AV.int .i64 2 ∧ True)
def stp4 (s_2 : List UInt8) (a : Int) (n : Int) (k : Int) (l_9 : Int) (n_6 : Int) (n_14 : Int) : Prop :=
(True ∧ (0 : Nat) = (0 : Nat)) ∧ ((∃ y_30 : Nat, Lf (y_30 = 0) ∧ (2 : Nat) < (1 : Nat) ∧ eqqQ [AV.str s_2, .int IntKind.i64 a] ∧ eqqQ [AV.str s_2, .int IntKind.i64 a] ∧ eqqQ (AV.int .i64 n) ∧ eqqQ (AV.int .u8 k) ∧ eqqQ
 (AV.bool true) ∧ eqqQ (AV.int .i64 l_9) ∧ eqqQ (AV.agg [.str s_2, .int IntKind.i64 a, .str s_2, .int IntKind.i64 n_6]) ∧ eqqQ (AV.agg [.int IntKind.i64 n, .int IntKind.i64 n_14]) ∧ eqqQ (AV.int .i64 0) ∧ eqqQ (AV.ptr 1 2
 0) ∧ eqqQ (AV.int .i64 0) ∧ AV.int .i64 2 = AV.int .i64 0 ∧ True) ∨ (∃ y_30 : Nat, Lf (y_30 = 0) ∧ (1 : Nat) < (1 : Nat) ∧ eqqQ [AV.str s_2, .int IntKind.i64 a] ∧ eqqQ [AV.str s_2, .int IntKind.i64 a] ∧ eqqQ (AV.int
 IntKind.i64 n) ∧ eqqQ (AV.int .u8 k) ∧ eqqQ (AV.bool true) ∧ eqqQ (AV.int .i64 l_9) ∧ eqqQ (AV.agg [.str s_2, .int IntKind.i64 a, .str s_2, .int IntKind.i64 n_6]) ∧ eqqQ (AV.agg [.int IntKind.i64 n, .int IntKind.i64
 n_14]) ∧ eqqQ (AV.int .i64 0) ∧ eqqQ (AV.ptr 1 2 0) ∧ eqqQ (AV.int .i64 0) ∧ AV.int .i64 2 = AV.int .i64 1 ∧ True) ∨ ∃ y_30 : Nat, Lf (y_30 = 0) ∧ (0 : Nat) < (1 : Nat) ∧ eqqQ [AV.str s_2, .int IntKind.i64 a] ∧
 eqqQ [AV.str s_2, .int IntKind.i64 a] ∧ eqqQ (AV.int .i64 n) ∧ eqqQ (AV.int .u8 k) ∧ eqqQ (AV.bool true) ∧ eqqQ (AV.int .i64 l_9) ∧ eqqQ (AV.agg [.str s_2, .int IntKind.i64 a, .str s_2, .int IntKind.i64 n_6]) ∧
 eqqQ (AV.agg [.int IntKind.i64 n, .int IntKind.i64 n_14]) ∧ eqqQ (AV.int .i64 0) ∧ eqqQ (AV.ptr 1 2 0) ∧ eqqQ (AV.int .i64 0) ∧ eqqQ (AV.int .i64 2) ∧ True)
def bodyT (s_2 : List UInt8) (a : Int) (n : Int) (Q : Out → List Blk → Gh → Prop) (l_9 : Int) (RR : Prop) : Prop :=
∀ x_15 : Nat, Lf (x_15 = 0) → Lf (s_2.length ≤ 1000000) ∧ ∀ v_16 t_17 : List UInt8, ∀ b_18 f_19 : Int, Lf (takeM s_2 a n = Prod.mk v_16 (Prod.mk t_17 (Prod.mk b_18 f_19))) → Lf (s_2.length ≤ 1000000) ∧ ∀ v_20 : Int, ∀ t_21 : List UInt8, ∀
 b_22 f_23 : Int, Lf (uintM s_2 a n = Prod.mk v_20 (Prod.mk t_21 (Prod.mk b_22 f_23))) → Lf (s_2.length ≤ 1000000) ∧ ∀ t_24 : List UInt8, ∀ b_25 f_26 : Int, Lf (skipM s_2 a n = Prod.mk t_24 (Prod.mk b_25 f_26)) → bif decide (n < 0) then bif
 decide (n < 1) then ∀ b_27 : Bool, Lf (b_27 = unitM n) → bif b_27 then exI IntKind.i64 (s_2.length : Int) (fun n_28 => Lf ((0 ≤ a ∧ a ≤ 1000) ∧ (n = 1 ∨ n = 2 ∨ n = 4 ∨ n = 8)) ∧ ∀ r_29 : Int, Lf (r_29 = upM a n) → ckQ (eqAVL [.str s_2]
 [.str s_2] && true) (bif decide (r_29 > n_28) then bif f_19 != 2 then Q (.ret (.bool false)) [] {} else bif !eqB v_16 [] then Q (.ret (.bool false)) [] {} else bif !(eqB t_17 [] && (b_18 == 0 && true)) then Q (.ret
 (.bool false)) [] {} else bif f_23 != 2 then Q (.ret (.bool false)) [] {} else bif v_20 != 0 then Q (.ret (.bool false)) [] {} else bif !(eqB t_21 [] && (b_22 == 0 && true)) then Q (.ret (.bool false)) [] {} else
 bif f_26 != 7 then Q (.ret (.bool false)) [] {} else bif !(eqB t_24 [] && (b_25 == 0 && true)) then Q (.ret (.bool false)) [] {} else RR else bif f_19 != 2 then Q (.ret (.bool false)) [] {} else bif !eqB v_16 [] then Q
 (.ret (.bool false)) [] {} else bif !(eqB t_17 [] && (b_18 == 0 && true)) then Q (.ret (.bool false)) [] {} else bif f_23 != 2 then Q (.ret (.bool false)) [] {} else bif v_20 != 0 then Q (.ret (.bool false)) [] {}
 else bif !(eqB t_21 [] && (b_22 == 0 && true)) then Q (.ret (.bool false)) [] {} else Lf ((0 ≤ a ∧ a ≤ 1000) ∧ (n = 1 ∨ n = 2 ∨ n = 4 ∨ n = 8)) ∧ ∀ r_30 : Int, Lf (r_30 = upM a n) → ckQ (eqAVL [.str s_2] [.str s_2] && true)
 (bif f_26 != 0 then Q (.ret (.bool false)) [] {} else bif !(eqB t_24 s_2 && (b_25 == r_30 && true)) then Q (.ret (.bool false)) [] {} else RR))) else bif f_19 != 2 then Q (.ret (.bool false)) [] {} else bif !eqB v_16 []
 then Q (.ret (.bool false)) [] {} else bif !(eqB t_17 [] && (b_18 == 0 && true)) then Q (.ret (.bool false)) [] {} else bif f_23 != 2 then Q (.ret (.bool false)) [] {} else bif v_20 != 0 then Q (.ret (.bool false))
 [] {} else bif !(eqB t_21 [] && (b_22 == 0 && true)) then Q (.ret (.bool false)) [] {} else bif f_26 != 2 then Q (.ret (.bool false)) [] {} else bif !(eqB t_24 [] && (b_25 == 0 && true)) then Q (.ret (.bool false))
 [] {} else RR else bif decide (n > 7) then ∀ b_27 : Bool, Lf (b_27 = unitM n) → bif b_27 then exI IntKind.i64 (s_2.length : Int) (fun n_28 => Lf ((0 ≤ a ∧ a ≤ 1000) ∧ (n = 1 ∨ n = 2 ∨ n = 4 ∨ n = 8)) ∧ ∀ r_29 : Int, Lf (r_29 = upM a n) →
 ckQ (eqAVL [.str s_2] [.str s_2] && true) (bif decide (r_29 > n_28) then bif f_19 != 2 then Q (.ret (.bool false)) [] {} else bif !eqB v_16 [] then Q (.ret (.bool false)) [] {} else bif !(eqB t_17 [] && (b_18 == 0 &&
 true)) then Q (.ret (.bool false)) [] {} else bif f_23 != 2 then Q (.ret (.bool false)) [] {} else bif v_20 != 0 then Q (.ret (.bool false)) [] {} else bif !(eqB t_21 [] && (b_22 == 0 && true)) then Q (.ret (.bool
 false)) [] {} else bif f_26 != 7 then Q (.ret (.bool false)) [] {} else bif !(eqB t_24 [] && (b_25 == 0 && true)) then Q (.ret (.bool false)) [] {} else RR else bif f_19 != 2 then Q (.ret (.bool false)) [] {} else
 bif !eqB v_16 [] then Q (.ret (.bool false)) [] {} else bif !(eqB t_17 [] && (b_18 == 0 && true)) then Q (.ret (.bool false)) [] {} else bif f_23 != 2 then Q (.ret (.bool false)) [] {} else bif v_20 != 0 then Q (.ret
 (.bool false)) [] {} else bif !(eqB t_21 [] && (b_22 == 0 && true)) then Q (.ret (.bool false)) [] {} else Lf ((0 ≤ a ∧ a ≤ 1000) ∧ (n = 1 ∨ n = 2 ∨ n = 4 ∨ n = 8)) ∧ ∀ r_30 : Int, Lf (r_30 = upM a n) → ckQ (eqAVL [.str s_2]
 [.str s_2] && true) (bif f_26 != 0 then Q (.ret (.bool false)) [] {} else bif !(eqB t_24 s_2 && (b_25 == r_30 && true)) then Q (.ret (.bool false)) [] {} else RR))) else bif f_19 != 2 then Q (.ret (.bool false)) []
 {} else bif !eqB v_16 [] then Q (.ret (.bool false)) [] {} else bif !(eqB t_17 [] && (b_18 == 0 && true)) then Q (.ret (.bool false)) [] {} else bif f_23 != 2 then Q (.ret (.bool false)) [] {} else bif v_20 != 0 then Q
 (.ret (.bool false)) [] {} else bif !(eqB t_21 [] && (b_22 == 0 && true)) then Q (.ret (.bool false)) [] {} else bif f_26 != 2 then Q (.ret (.bool false)) [] {} else bif !(eqB t_24 [] && (b_25 == 0 && true)) then Q
 (.ret (.bool false)) [] {} else RR else ∀ b_27 : Bool, Lf (b_27 = unitM n) → bif b_27 then bif decide (n > l_9) then exI IntKind.i64 (s_2.length : Int) (fun n_28 => Lf ((0 ≤ a ∧ a ≤ 1000) ∧ (n = 1 ∨ n = 2 ∨ n = 4 ∨ n = 8)) ∧ ∀ r_29 :
 Int, Lf (r_29 = upM a n) → ckQ (eqAVL [.str s_2] [.str s_2] && true) (bif decide (r_29 > n_28) then bif f_19 != 2 then Q (.ret (.bool false)) [] {} else bif !eqB v_16 [] then Q (.ret (.bool false)) [] {} else bif !(eqB t_17
 [] && (b_18 == 0 && true)) then Q (.ret (.bool false)) [] {} else bif f_23 != 7 then Q (.ret (.bool false)) [] {} else bif v_20 != 0 then Q (.ret (.bool false)) [] {} else bif !(eqB t_21 [] && (b_22 == 0 && true))
 then Q (.ret (.bool false)) [] {} else bif f_26 != 7 then Q (.ret (.bool false)) [] {} else bif !(eqB t_24 [] && (b_25 == 0 && true)) then Q (.ret (.bool false)) [] {} else RR else bif f_19 != 2 then Q (.ret (.bool
 false)) [] {} else bif !eqB v_16 [] then Q (.ret (.bool false)) [] {} else bif !(eqB t_17 [] && (b_18 == 0 && true)) then Q (.ret (.bool false)) [] {} else bif f_23 != 7 then Q (.ret (.bool false)) [] {} else bif
 v_20 != 0 then Q (.ret (.bool false)) [] {} else bif !(eqB t_21 [] && (b_22 == 0 && true)) then Q (.ret (.bool false)) [] {} else Lf ((0 ≤ a ∧ a ≤ 1000) ∧ (n = 1 ∨ n = 2 ∨ n = 4 ∨ n = 8)) ∧ ∀ r_30 : Int, Lf (r_30 = upM a n)
 → ckQ (eqAVL [.str s_2] [.str s_2] && true) (bif f_26 != 0 then Q (.ret (.bool false)) [] {} else bif !(eqB t_24 s_2 && (b_25 == r_30 && true)) then Q (.ret (.bool false)) [] {} else RR))) else exI IntKind.i64
 (s_2.length : Int) (fun n_28 => Lf ((0 ≤ a ∧ a ≤ 1000) ∧ (n = 1 ∨ n = 2 ∨ n = 4 ∨ n = 8)) ∧ ∀ r_29 : Int, Lf (r_29 = upM a n) → ckQ (eqAVL [.str s_2] [.str s_2] && true) (bif decide (r_29 > n_28) then bif f_19 != 2 then Q (.ret (.bool
 false)) [] {} else bif !eqB v_16 [] then Q (.ret (.bool false)) [] {} else bif !(eqB t_17 [] && (b_18 == 0 && true)) then Q (.ret (.bool false)) [] {} else exW IntKind.i64 (a + n) (fun n_30 => ckQ (decide (0 ≤ a) &&
 decide (0 ≤ n_30) && Nat.ble a.toNat n_30.toNat && Nat.ble n_30.toNat s_2.length) (exS (.str ((s_2.drop a.toNat).take (n_30.toNat - a.toNat))) (fun s_31 => exW IntKind.i64 (a + n) (fun n_32 => Lf (s_31.length ≤ 7) ∧ ∀ r_33 : Int, Lf (r_33
 = beM s_31) → bif f_23 != 0 then Q (.ret (.bool false)) [] {} else bif v_20 != r_33 then Q (.ret (.bool false)) [] {} else bif !(eqB t_21 s_2 && (b_22 == n_32 && true)) then Q (.ret (.bool false)) [] {} else bif f_26 !=
 7 then Q (.ret (.bool false)) [] {} else bif !(eqB t_24 [] && (b_25 == 0 && true)) then Q (.ret (.bool false)) [] {} else RR)))) else bif f_19 != 2 then Q (.ret (.bool false)) [] {} else bif !eqB v_16 [] then Q (.ret
 (.bool false)) [] {} else bif !(eqB t_17 [] && (b_18 == 0 && true)) then Q (.ret (.bool false)) [] {} else exW IntKind.i64 (a + n) (fun n_30 => ckQ (decide (0 ≤ a) && decide (0 ≤ n_30) && Nat.ble a.toNat n_30.toNat &&
 Nat.ble n_30.toNat s_2.length) (exS (.str ((s_2.drop a.toNat).take (n_30.toNat - a.toNat))) (fun s_31 => exW IntKind.i64 (a + n) (fun n_32 => Lf (s_31.length ≤ 7) ∧ ∀ r_33 : Int, Lf (r_33 = beM s_31) → bif f_23 != 0 then Q (.ret (.bool
 false)) [] {} else bif v_20 != r_33 then Q (.ret (.bool false)) [] {} else bif !(eqB t_21 s_2 && (b_22 == n_32 && true)) then Q (.ret (.bool false)) [] {} else Lf ((0 ≤ a ∧ a ≤ 1000) ∧ (n = 1 ∨ n = 2 ∨ n = 4 ∨ n = 8)) ∧
 ∀ r_34 : Int, Lf (r_34 = upM a n) → ckQ (eqAVL [.str s_2] [.str s_2] && true) (bif f_26 != 0 then Q (.ret (.bool false)) [] {} else bif !(eqB t_24 s_2 && (b_25 == r_34 && true)) then Q (.ret (.bool false)) [] {} else
 RR))))))) else bif decide (n > l_9) then bif f_19 != 2 then Q (.ret (.bool false)) [] {} else bif !eqB v_16 [] then Q (.ret (.bool false)) [] {} else bif !(eqB t_17 [] && (b_18 == 0 && true)) then Q (.ret (.bool false))
 [] {} else bif f_23 != 7 then Q (.ret (.bool false)) [] {} else bif v_20 != 0 then Q (.ret (.bool false)) [] {} else bif !(eqB t_21 [] && (b_22 == 0 && true)) then Q (.ret (.bool false)) [] {} else bif f_26 != 2 then Q
 (.ret (.bool false)) [] {} else bif !(eqB t_24 [] && (b_25 == 0 && true)) then Q (.ret (.bool false)) [] {} else RR else bif f_19 != 2 then Q (.ret (.bool false)) [] {} else bif !eqB v_16 [] then Q (.ret (.bool
 false)) [] {} else bif !(eqB t_17 [] && (b_18 == 0 && true)) then Q (.ret (.bool false)) [] {} else exW IntKind.i64 (a + n) (fun n_28 => ckQ (decide (0 ≤ a) && decide (0 ≤ n_28) && Nat.ble a.toNat n_28.toNat && Nat.ble
 n_28.toNat s_2.length) (exS (.str ((s_2.drop a.toNat).take (n_28.toNat - a.toNat))) (fun s_29 => exW IntKind.i64 (a + n) (fun n_30 => Lf (s_29.length ≤ 7) ∧ ∀ r_31 : Int, Lf (r_31 = beM s_29) → bif f_23 != 0 then Q (.ret (.bool
 false)) [] {} else bif v_20 != r_31 then Q (.ret (.bool false)) [] {} else bif !(eqB t_21 s_2 && (b_22 == n_30 && true)) then Q (.ret (.bool false)) [] {} else bif f_26 != 2 then Q (.ret (.bool false)) [] {} else
 bif !(eqB t_24 [] && (b_25 == 0 && true)) then Q (.ret (.bool false)) [] {} else RR)))) else bif decide (n < 1) then ∀ b_27 : Bool, Lf (b_27 = unitM n) → bif b_27 then bif decide (n > l_9) then exI IntKind.i64 (s_2.length : Int)
 (fun n_28 => Lf ((0 ≤ a ∧ a ≤ 1000) ∧ (n = 1 ∨ n = 2 ∨ n = 4 ∨ n = 8)) ∧ ∀ r_29 : Int, Lf (r_29 = upM a n) → ckQ (eqAVL [.str s_2] [.str s_2] && true) (bif decide (r_29 > n_28) then bif f_19 != 7 then Q (.ret (.bool false)) [] {}
 else bif !eqB v_16 [] then Q (.ret (.bool false)) [] {} else bif !(eqB t_17 [] && (b_18 == 0 && true)) then Q (.ret (.bool false)) [] {} else bif f_23 != 2 then Q (.ret (.bool false)) [] {} else bif v_20 != 0 then Q
 (.ret (.bool false)) [] {} else bif !(eqB t_21 [] && (b_22 == 0 && true)) then Q (.ret (.bool false)) [] {} else bif f_26 != 7 then Q (.ret (.bool false)) [] {} else bif !(eqB t_24 [] && (b_25 == 0 && true)) then Q
 (.ret (.bool false)) [] {} else RR else bif f_19 != 7 then Q (.ret (.bool false)) [] {} else bif !eqB v_16 [] then Q (.ret (.bool false)) [] {} else bif !(eqB t_17 [] && (b_18 == 0 && true)) then Q (.ret (.bool
 false)) [] {} else bif f_23 != 2 then Q (.ret (.bool false)) [] {} else bif v_20 != 0 then Q (.ret (.bool false)) [] {} else bif !(eqB t_21 [] && (b_22 == 0 && true)) then Q (.ret (.bool false)) [] {} else Lf ((0 ≤
 a ∧ a ≤ 1000) ∧ (n = 1 ∨ n = 2 ∨ n = 4 ∨ n = 8)) ∧ ∀ r_30 : Int, Lf (r_30 = upM a n) → ckQ (eqAVL [.str s_2] [.str s_2] && true) (bif f_26 != 0 then Q (.ret (.bool false)) [] {} else bif !(eqB t_24 s_2 && (b_25 == r_30 &&
 true)) then Q (.ret (.bool false)) [] {} else RR))) else exI IntKind.i64 (s_2.length : Int) (fun n_28 => Lf ((0 ≤ a ∧ a ≤ 1000) ∧ (n = 1 ∨ n = 2 ∨ n = 4 ∨ n = 8)) ∧ ∀ r_29 : Int, Lf (r_29 = upM a n) → ckQ (eqAVL [.str s_2] [.str
 s_2] && true) (bif decide (r_29 > n_28) then exW IntKind.i64 (a + n) (fun n_30 => ckQ (decide (0 ≤ a) && decide (0 ≤ n_30) && Nat.ble a.toNat n_30.toNat && Nat.ble n_30.toNat s_2.length) (exS (.str ((s_2.drop a.toNat).take (n_30.toNat
 - a.toNat))) (fun s_31 => exW IntKind.i64 (a + n) (fun n_32 => bif f_19 != 0 then Q (.ret (.bool false)) [] {} else bif !eqB v_16 s_31 then Q (.ret (.bool false)) [] {} else bif !(eqB t_17 s_2 && (b_18 == n_32 && true)) then
 Q (.ret (.bool false)) [] {} else bif f_23 != 2 then Q (.ret (.bool false)) [] {} else bif v_20 != 0 then Q (.ret (.bool false)) [] {} else bif !(eqB t_21 [] && (b_22 == 0 && true)) then Q (.ret (.bool false)) []
 {} else bif f_26 != 7 then Q (.ret (.bool false)) [] {} else bif !(eqB t_24 [] && (b_25 == 0 && true)) then Q (.ret (.bool false)) [] {} else RR)))) else exW IntKind.i64 (a + n) (fun n_30 => ckQ (decide (0 ≤ a) && decide (0
 ≤ n_30) && Nat.ble a.toNat n_30.toNat && Nat.ble n_30.toNat s_2.length) (exS (.str ((s_2.drop a.toNat).take (n_30.toNat - a.toNat))) (fun s_31 => exW IntKind.i64 (a + n) (fun n_32 => bif f_19 != 0 then Q (.ret (.bool false)) [] {}
 else bif !eqB v_16 s_31 then Q (.ret (.bool false)) [] {} else bif !(eqB t_17 s_2 && (b_18 == n_32 && true)) then Q (.ret (.bool false)) [] {} else bif f_23 != 2 then Q (.ret (.bool false)) [] {} else bif v_20 != 0 then
 Q (.ret (.bool false)) [] {} else bif !(eqB t_21 [] && (b_22 == 0 && true)) then Q (.ret (.bool false)) [] {} else Lf ((0 ≤ a ∧ a ≤ 1000) ∧ (n = 1 ∨ n = 2 ∨ n = 4 ∨ n = 8)) ∧ ∀ r_33 : Int, Lf (r_33 = upM a n) → ckQ (eqAVL
 [.str s_2] [.str s_2] && true) (bif f_26 != 0 then Q (.ret (.bool false)) [] {} else bif !(eqB t_24 s_2 && (b_25 == r_33 && true)) then Q (.ret (.bool false)) [] {} else RR))))))) else bif decide (n > l_9) then bif f_19
 != 7 then Q (.ret (.bool false)) [] {} else bif !eqB v_16 [] then Q (.ret (.bool false)) [] {} else bif !(eqB t_17 [] && (b_18 == 0 && true)) then Q (.ret (.bool false)) [] {} else bif f_23 != 2 then Q (.ret (.bool
 false)) [] {} else bif v_20 != 0 then Q (.ret (.bool false)) [] {} else bif !(eqB t_21 [] && (b_22 == 0 && true)) then Q (.ret (.bool false)) [] {} else bif f_26 != 2 then Q (.ret (.bool false)) [] {} else bif
 !(eqB t_24 [] && (b_25 == 0 && true)) then Q (.ret (.bool false)) [] {} else RR else exW IntKind.i64 (a + n) (fun n_28 => ckQ (decide (0 ≤ a) && decide (0 ≤ n_28) && Nat.ble a.toNat n_28.toNat && Nat.ble n_28.toNat s_2.length)
 (exS (.str ((s_2.drop a.toNat).take (n_28.toNat - a.toNat))) (fun s_29 => exW IntKind.i64 (a + n) (fun n_30 => bif f_19 != 0 then Q (.ret (.bool false)) [] {} else bif !eqB v_16 s_29 then Q (.ret (.bool false)) [] {} else bif
 !(eqB t_17 s_2 && (b_18 == n_30 && true)) then Q (.ret (.bool false)) [] {} else bif f_23 != 2 then Q (.ret (.bool false)) [] {} else bif v_20 != 0 then Q (.ret (.bool false)) [] {} else bif !(eqB t_21 [] && (b_22 == 0
 && true)) then Q (.ret (.bool false)) [] {} else bif f_26 != 2 then Q (.ret (.bool false)) [] {} else bif !(eqB t_24 [] && (b_25 == 0 && true)) then Q (.ret (.bool false)) [] {} else RR)))) else bif decide (n > 7)
 then ∀ b_27 : Bool, Lf (b_27 = unitM n) → bif b_27 then bif decide (n > l_9) then exI IntKind.i64 (s_2.length : Int) (fun n_28 => Lf ((0 ≤ a ∧ a ≤ 1000) ∧ (n = 1 ∨ n = 2 ∨ n = 4 ∨ n = 8)) ∧ ∀ r_29 : Int, Lf (r_29 = upM a n) → ckQ (eqAVL
 [.str s_2] [.str s_2] && true) (bif decide (r_29 > n_28) then bif f_19 != 7 then Q (.ret (.bool false)) [] {} else bif !eqB v_16 [] then Q (.ret (.bool false)) [] {} else bif !(eqB t_17 [] && (b_18 == 0 && true)) then Q
 (.ret (.bool false)) [] {} else bif f_23 != 2 then Q (.ret (.bool false)) [] {} else bif v_20 != 0 then Q (.ret (.bool false)) [] {} else bif !(eqB t_21 [] && (b_22 == 0 && true)) then Q (.ret (.bool false)) [] {}
 else bif f_26 != 7 then Q (.ret (.bool false)) [] {} else bif !(eqB t_24 [] && (b_25 == 0 && true)) then Q (.ret (.bool false)) [] {} else RR else bif f_19 != 7 then Q (.ret (.bool false)) [] {} else bif !eqB v_16 []
 then Q (.ret (.bool false)) [] {} else bif !(eqB t_17 [] && (b_18 == 0 && true)) then Q (.ret (.bool false)) [] {} else bif f_23 != 2 then Q (.ret (.bool false)) [] {} else bif v_20 != 0 then Q (.ret (.bool false))
 [] {} else bif !(eqB t_21 [] && (b_22 == 0 && true)) then Q (.ret (.bool false)) [] {} else Lf ((0 ≤ a ∧ a ≤ 1000) ∧ (n = 1 ∨ n = 2 ∨ n = 4 ∨ n = 8)) ∧ ∀ r_30 : Int, Lf (r_30 = upM a n) → ckQ (eqAVL [.str s_2] [.str s_2] &&
 true) (bif f_26 != 0 then Q (.ret (.bool false)) [] {} else bif !(eqB t_24 s_2 && (b_25 == r_30 && true)) then Q (.ret (.bool false)) [] {} else RR))) else exI IntKind.i64 (s_2.length : Int) (fun n_28 => Lf ((0 ≤ a ∧ a
 ≤ 1000) ∧ (n = 1 ∨ n = 2 ∨ n = 4 ∨ n = 8)) ∧ ∀ r_29 : Int, Lf (r_29 = upM a n) → ckQ (eqAVL [.str s_2] [.str s_2] && true) (bif decide (r_29 > n_28) then exW IntKind.i64 (a + n) (fun n_30 => ckQ (decide (0 ≤ a) && decide (0 ≤ n_30) &&
 Nat.ble a.toNat n_30.toNat && Nat.ble n_30.toNat s_2.length) (exS (.str ((s_2.drop a.toNat).take (n_30.toNat - a.toNat))) (fun s_31 => exW IntKind.i64 (a + n) (fun n_32 => bif f_19 != 0 then Q (.ret (.bool false)) [] {} else bif !eqB
 v_16 s_31 then Q (.ret (.bool false)) [] {} else bif !(eqB t_17 s_2 && (b_18 == n_32 && true)) then Q (.ret (.bool false)) [] {} else bif f_23 != 2 then Q (.ret (.bool false)) [] {} else bif v_20 != 0 then Q (.ret
 (.bool false)) [] {} else bif !(eqB t_21 [] && (b_22 == 0 && true)) then Q (.ret (.bool false)) [] {} else bif f_26 != 7 then Q (.ret (.bool false)) [] {} else bif !(eqB t_24 [] && (b_25 == 0 && true)) then Q (.ret
 (.bool false)) [] {} else RR)))) else exW IntKind.i64 (a + n) (fun n_30 => ckQ (decide (0 ≤ a) && decide (0 ≤ n_30) && Nat.ble a.toNat n_30.toNat && Nat.ble n_30.toNat s_2.length) (exS (.str ((s_2.drop a.toNat).take (n_30.toNat -
 a.toNat))) (fun s_31 => exW IntKind.i64 (a + n) (fun n_32 => bif f_19 != 0 then Q (.ret (.bool false)) [] {} else bif !eqB v_16 s_31 then Q (.ret (.bool false)) [] {} else bif !(eqB t_17 s_2 && (b_18 == n_32 && true)) then Q
 (.ret (.bool false)) [] {} else bif f_23 != 2 then Q (.ret (.bool false)) [] {} else bif v_20 != 0 then Q (.ret (.bool false)) [] {} else bif !(eqB t_21 [] && (b_22 == 0 && true)) then Q (.ret (.bool false)) [] {}
 else Lf ((0 ≤ a ∧ a ≤ 1000) ∧ (n = 1 ∨ n = 2 ∨ n = 4 ∨ n = 8)) ∧ ∀ r_33 : Int, Lf (r_33 = upM a n) → ckQ (eqAVL [.str s_2] [.str s_2] && true) (bif f_26 != 0 then Q (.ret (.bool false)) [] {} else bif !(eqB t_24 s_2 && (b_25 ==
 r_33 && true)) then Q (.ret (.bool false)) [] {} else RR))))))) else bif decide (n > l_9) then bif f_19 != 7 then Q (.ret (.bool false)) [] {} else bif !eqB v_16 [] then Q (.ret (.bool false)) [] {} else bif !(eqB t_17
 [] && (b_18 == 0 && true)) then Q (.ret (.bool false)) [] {} else bif f_23 != 2 then Q (.ret (.bool false)) [] {} else bif v_20 != 0 then Q (.ret (.bool false)) [] {} else bif !(eqB t_21 [] && (b_22 == 0 && true))
 then Q (.ret (.bool false)) [] {} else bif f_26 != 2 then Q (.ret (.bool false)) [] {} else bif !(eqB t_24 [] && (b_25 == 0 && true)) then Q (.ret (.bool false)) [] {} else RR else exW IntKind.i64 (a + n) (fun n_28 =>
 ckQ (decide (0 ≤ a) && decide (0 ≤ n_28) && Nat.ble a.toNat n_28.toNat && Nat.ble n_28.toNat s_2.length) (exS (.str ((s_2.drop a.toNat).take (n_28.toNat - a.toNat))) (fun s_29 => exW IntKind.i64 (a + n) (fun n_30 => bif f_19 != 0 then Q
 (.ret (.bool false)) [] {} else bif !eqB v_16 s_29 then Q (.ret (.bool false)) [] {} else bif !(eqB t_17 s_2 && (b_18 == n_30 && true)) then Q (.ret (.bool false)) [] {} else bif f_23 != 2 then Q (.ret (.bool
 false)) [] {} else bif v_20 != 0 then Q (.ret (.bool false)) [] {} else bif !(eqB t_21 [] && (b_22 == 0 && true)) then Q (.ret (.bool false)) [] {} else bif f_26 != 2 then Q (.ret (.bool false)) [] {} else bif
 !(eqB t_24 [] && (b_25 == 0 && true)) then Q (.ret (.bool false)) [] {} else RR)))) else ∀ b_27 : Bool, Lf (b_27 = unitM n) → bif b_27 then bif decide (n > l_9) then bif decide (n > l_9) then exI IntKind.i64 (s_2.length : Int)
 (fun n_28 => Lf ((0 ≤ a ∧ a ≤ 1000) ∧ (n = 1 ∨ n = 2 ∨ n = 4 ∨ n = 8)) ∧ ∀ r_29 : Int, Lf (r_29 = upM a n) → ckQ (eqAVL [.str s_2] [.str s_2] && true) (bif decide (r_29 > n_28) then bif f_19 != 7 then Q (.ret (.bool false)) [] {}
 else bif !eqB v_16 [] then Q (.ret (.bool false)) [] {} else bif !(eqB t_17 [] && (b_18 == 0 && true)) then Q (.ret (.bool false)) [] {} else bif f_23 != 7 then Q (.ret (.bool false)) [] {} else bif v_20 != 0 then Q
 (.ret (.bool false)) [] {} else bif !(eqB t_21 [] && (b_22 == 0 && true)) then Q (.ret (.bool false)) [] {} else bif f_26 != 7 then Q (.ret (.bool false)) [] {} else bif !(eqB t_24 [] && (b_25 == 0 && true)) then Q
 (.ret (.bool false)) [] {} else RR else bif f_19 != 7 then Q (.ret (.bool false)) [] {} else bif !eqB v_16 [] then Q (.ret (.bool false)) [] {} else bif !(eqB t_17 [] && (b_18 == 0 && true)) then Q (.ret (.bool
 false)) [] {} else bif f_23 != 7 then Q (.ret (.bool false)) [] {} else bif v_20 != 0 then Q (.ret (.bool false)) [] {} else bif !(eqB t_21 [] && (b_22 == 0 && true)) then Q (.ret (.bool false)) [] {} else Lf ((0 ≤
 a ∧ a ≤ 1000) ∧ (n = 1 ∨ n = 2 ∨ n = 4 ∨ n = 8)) ∧ ∀ r_30 : Int, Lf (r_30 = upM a n) → ckQ (eqAVL [.str s_2] [.str s_2] && true) (bif f_26 != 0 then Q (.ret (.bool false)) [] {} else bif !(eqB t_24 s_2 && (b_25 == r_30 &&
 true)) then Q (.ret (.bool false)) [] {} else RR))) else exI IntKind.i64 (s_2.length : Int) (fun n_28 => Lf ((0 ≤ a ∧ a ≤ 1000) ∧ (n = 1 ∨ n = 2 ∨ n = 4 ∨ n = 8)) ∧ ∀ r_29 : Int, Lf (r_29 = upM a n) → ckQ (eqAVL [.str s_2] [.str
 s_2] && true) (bif decide (r_29 > n_28) then bif f_19 != 7 then Q (.ret (.bool false)) [] {} else bif !eqB v_16 [] then Q (.ret (.bool false)) [] {} else bif !(eqB t_17 [] && (b_18 == 0 && true)) then Q (.ret (.bool
 false)) [] {} else exW IntKind.i64 (a + n) (fun n_30 => ckQ (decide (0 ≤ a) && decide (0 ≤ n_30) && Nat.ble a.toNat n_30.toNat && Nat.ble n_30.toNat s_2.length) (exS (.str ((s_2.drop a.toNat).take (n_30.toNat - a.toNat))) (fun s_31 =>
 exW IntKind.i64 (a + n) (fun n_32 => Lf (s_31.length ≤ 7) ∧ ∀ r_33 : Int, Lf (r_33 = beM s_31) → bif f_23 != 0 then Q (.ret (.bool false)) [] {} else bif v_20 != r_33 then Q (.ret (.bool false)) [] {} else bif !(eqB t_21 s_2 &&
 (b_22 == n_32 && true)) then Q (.ret (.bool false)) [] {} else bif f_26 != 7 then Q (.ret (.bool false)) [] {} else bif !(eqB t_24 [] && (b_25 == 0 && true)) then Q (.ret (.bool false)) [] {} else RR)))) else bif
 f_19 != 7 then Q (.ret (.bool false)) [] {} else bif !eqB v_16 [] then Q (.ret (.bool false)) [] {} else bif !(eqB t_17 [] && (b_18 == 0 && true)) then Q (.ret (.bool false)) [] {} else exW IntKind.i64 (a + n) (fun n_30
 => ckQ (decide (0 ≤ a) && decide (0 ≤ n_30) && Nat.ble a.toNat n_30.toNat && Nat.ble n_30.toNat s_2.length) (exS (.str ((s_2.drop a.toNat).take (n_30.toNat - a.toNat))) (fun s_31 => exW IntKind.i64 (a + n) (fun n_32 => Lf (s_31.length ≤ 7)
 ∧ ∀ r_33 : Int, Lf (r_33 = beM s_31) → bif f_23 != 0 then Q (.ret (.bool false)) [] {} else bif v_20 != r_33 then Q (.ret (.bool false)) [] {} else bif !(eqB t_21 s_2 && (b_22 == n_32 && true)) then Q (.ret (.bool
 false)) [] {} else Lf ((0 ≤ a ∧ a ≤ 1000) ∧ (n = 1 ∨ n = 2 ∨ n = 4 ∨ n = 8)) ∧ ∀ r_34 : Int, Lf (r_34 = upM a n) → ckQ (eqAVL [.str s_2] [.str s_2] && true) (bif f_26 != 0 then Q (.ret (.bool false)) [] {} else bif !(eqB
 t_24 s_2 && (b_25 == r_34 && true)) then Q (.ret (.bool false)) [] {} else RR))))))) else bif decide (n > l_9) then exI IntKind.i64 (s_2.length : Int) (fun n_28 => Lf ((0 ≤ a ∧ a ≤ 1000) ∧ (n = 1 ∨ n = 2 ∨ n = 4 ∨ n = 8)) ∧ ∀
 r_29 : Int, Lf (r_29 = upM a n) → ckQ (eqAVL [.str s_2] [.str s_2] && true) (bif decide (r_29 > n_28) then exW IntKind.i64 (a + n) (fun n_30 => ckQ (decide (0 ≤ a) && decide (0 ≤ n_30) && Nat.ble a.toNat n_30.toNat && Nat.ble
 n_30.toNat s_2.length) (exS (.str ((s_2.drop a.toNat).take (n_30.toNat - a.toNat))) (fun s_31 => exW IntKind.i64 (a + n) (fun n_32 => bif f_19 != 0 then Q (.ret (.bool false)) [] {} else bif !eqB v_16 s_31 then Q (.ret (.bool
 false)) [] {} else bif !(eqB t_17 s_2 && (b_18 == n_32 && true)) then Q (.ret (.bool false)) [] {} else bif f_23 != 7 then Q (.ret (.bool false)) [] {} else bif v_20 != 0 then Q (.ret (.bool false)) [] {} else bif
 !(eqB t_21 [] && (b_22 == 0 && true)) then Q (.ret (.bool false)) [] {} else bif f_26 != 7 then Q (.ret (.bool false)) [] {} else bif !(eqB t_24 [] && (b_25 == 0 && true)) then Q (.ret (.bool false)) [] {} else
 RR)))) else exW IntKind.i64 (a + n) (fun n_30 => ckQ (decide (0 ≤ a) && decide (0 ≤ n_30) && Nat.ble a.toNat n_30.toNat && Nat.ble n_30.toNat s_2.length) (exS (.str ((s_2.drop a.toNat).take (n_30.toNat - a.toNat))) (fun s_31 => exW
 IntKind.i64 (a + n) (fun n_32 => bif f_19 != 0 then Q (.ret (.bool false)) [] {} else bif !eqB v_16 s_31 then Q (.ret (.bool false)) [] {} else bif !(eqB t_17 s_2 && (b_18 == n_32 && true)) then Q (.ret (.bool false))
 [] {} else bif f_23 != 7 then Q (.ret (.bool false)) [] {} else bif v_20 != 0 then Q (.ret (.bool false)) [] {} else bif !(eqB t_21 [] && (b_22 == 0 && true)) then Q (.ret (.bool false)) [] {} else Lf ((0 ≤ a ∧ a ≤
 1000) ∧ (n = 1 ∨ n = 2 ∨ n = 4 ∨ n = 8)) ∧ ∀ r_33 : Int, Lf (r_33 = upM a n) → ckQ (eqAVL [.str s_2] [.str s_2] && true) (bif f_26 != 0 then Q (.ret (.bool false)) [] {} else bif !(eqB t_24 s_2 && (b_25 == r_33 && true))
 then Q (.ret (.bool false)) [] {} else RR))))))) else exI IntKind.i64 (s_2.length : Int) (fun n_28 => Lf ((0 ≤ a ∧ a ≤ 1000) ∧ (n = 1 ∨ n = 2 ∨ n = 4 ∨ n = 8)) ∧ ∀ r_29 : Int, Lf (r_29 = upM a n) → ckQ (eqAVL [.str s_2] [.str s_2] &&
 true) (bif decide (r_29 > n_28) then exW IntKind.i64 (a + n) (fun n_30 => ckQ (decide (0 ≤ a) && decide (0 ≤ n_30) && Nat.ble a.toNat n_30.toNat && Nat.ble n_30.toNat s_2.length) (exS (.str ((s_2.drop a.toNat).take (n_30.toNat -
 a.toNat))) (fun s_31 => exW IntKind.i64 (a + n) (fun n_32 => bif f_19 != 0 then Q (.ret (.bool false)) [] {} else bif !eqB v_16 s_31 then Q (.ret (.bool false)) [] {} else bif !(eqB t_17 s_2 && (b_18 == n_32 && true)) then Q
 (.ret (.bool false)) [] {} else exW IntKind.i64 (a + n) (fun n_33 => ckQ (decide (0 ≤ a) && decide (0 ≤ n_33) && Nat.ble a.toNat n_33.toNat && Nat.ble n_33.toNat s_2.length) (exS (.str ((s_2.drop a.toNat).take (n_33.toNat - a.toNat)))
 (fun s_34 => exW IntKind.i64 (a + n) (fun n_35 => Lf (s_34.length ≤ 7) ∧ ∀ r_36 : Int, Lf (r_36 = beM s_34) → bif f_23 != 0 then Q (.ret (.bool false)) [] {} else bif v_20 != r_36 then Q (.ret (.bool false)) [] {} else bif !(eqB
 t_21 s_2 && (b_22 == n_35 && true)) then Q (.ret (.bool false)) [] {} else bif f_26 != 7 then Q (.ret (.bool false)) [] {} else bif !(eqB t_24 [] && (b_25 == 0 && true)) then Q (.ret (.bool false)) [] {} else
 RR)))))))) else exW IntKind.i64 (a + n) (fun n_30 => ckQ (decide (0 ≤ a) && decide (0 ≤ n_30) && Nat.ble a.toNat n_30.toNat && Nat.ble n_30.toNat s_2.length) (exS (.str ((s_2.drop a.toNat).take (n_30.toNat - a.toNat))) (fun s_31 => exW
 IntKind.i64 (a + n) (fun n_32 => bif f_19 != 0 then Q (.ret (.bool false)) [] {} else bif !eqB v_16 s_31 then Q (.ret (.bool false)) [] {} else bif !(eqB t_17 s_2 && (b_18 == n_32 && true)) then Q (.ret (.bool false))
 [] {} else exW IntKind.i64 (a + n) (fun n_33 => ckQ (decide (0 ≤ a) && decide (0 ≤ n_33) && Nat.ble a.toNat n_33.toNat && Nat.ble n_33.toNat s_2.length) (exS (.str ((s_2.drop a.toNat).take (n_33.toNat - a.toNat))) (fun s_34 => exW
 IntKind.i64 (a + n) (fun n_35 => Lf (s_34.length ≤ 7) ∧ ∀ r_36 : Int, Lf (r_36 = beM s_34) → bif f_23 != 0 then Q (.ret (.bool false)) [] {} else bif v_20 != r_36 then Q (.ret (.bool false)) [] {} else bif !(eqB t_21 s_2 && (b_22
 == n_35 && true)) then Q (.ret (.bool false)) [] {} else Lf ((0 ≤ a ∧ a ≤ 1000) ∧ (n = 1 ∨ n = 2 ∨ n = 4 ∨ n = 8)) ∧ ∀ r_37 : Int, Lf (r_37 = upM a n) → ckQ (eqAVL [.str s_2] [.str s_2] && true) (bif f_26 != 0 then Q (.ret
 (.bool false)) [] {} else bif !(eqB t_24 s_2 && (b_25 == r_37 && true)) then Q (.ret (.bool false)) [] {} else RR))))))))))) else bif decide (n > l_9) then bif decide (n > l_9) then bif f_19 != 7 then Q (.ret (.bool
 false)) [] {} else bif !eqB v_16 [] then Q (.ret (.bool false)) [] {} else bif !(eqB t_17 [] && (b_18 == 0 && true)) then Q (.ret (.bool false)) [] {} else bif f_23 != 7 then Q (.ret (.bool false)) [] {} else bif
 v_20 != 0 then Q (.ret (.bool false)) [] {} else bif !(eqB t_21 [] && (b_22 == 0 && true)) then Q (.ret (.bool false)) [] {} else bif f_26 != 2 then Q (.ret (.bool false)) [] {} else bif !(eqB t_24 [] && (b_25 == 0 &&
 true)) then Q (.ret (.bool false)) [] {} else RR else bif f_19 != 7 then Q (.ret (.bool false)) [] {} else bif !eqB v_16 [] then Q (.ret (.bool false)) [] {} else bif !(eqB t_17 [] && (b_18 == 0 && true)) then Q
 (.ret (.bool false)) [] {} else exW IntKind.i64 (a + n) (fun n_28 => ckQ (decide (0 ≤ a) && decide (0 ≤ n_28) && Nat.ble a.toNat n_28.toNat && Nat.ble n_28.toNat s_2.length) (exS (.str ((s_2.drop a.toNat).take (n_28.toNat - a.toNat)))
 (fun s_29 => exW IntKind.i64 (a + n) (fun n_30 => Lf (s_29.length ≤ 7) ∧ ∀ r_31 : Int, Lf (r_31 = beM s_29) → bif f_23 != 0 then Q (.ret (.bool false)) [] {} else bif v_20 != r_31 then Q (.ret (.bool false)) [] {} else bif !(eqB
 t_21 s_2 && (b_22 == n_30 && true)) then Q (.ret (.bool false)) [] {} else bif f_26 != 2 then Q (.ret (.bool false)) [] {} else bif !(eqB t_24 [] && (b_25 == 0 && true)) then Q (.ret (.bool false)) [] {} else
 RR)))) else bif decide (n > l_9) then exW IntKind.i64 (a + n) (fun n_28 => ckQ (decide (0 ≤ a) && decide (0 ≤ n_28) && Nat.ble a.toNat n_28.toNat && Nat.ble n_28.toNat s_2.length) (exS (.str ((s_2.drop a.toNat).take (n_28.toNat -
 a.toNat))) (fun s_29 => exW IntKind.i64 (a + n) (fun n_30 => bif f_19 != 0 then Q (.ret (.bool false)) [] {} else bif !eqB v_16 s_29 then Q (.ret (.bool false)) [] {} else bif !(eqB t_17 s_2 && (b_18 == n_30 && true)) then Q
 (.ret (.bool false)) [] {} else bif f_23 != 7 then Q (.ret (.bool false)) [] {} else bif v_20 != 0 then Q (.ret (.bool false)) [] {} else bif !(eqB t_21 [] && (b_22 == 0 && true)) then Q (.ret (.bool false)) [] {}
 else bif f_26 != 2 then Q (.ret (.bool false)) [] {} else bif !(eqB t_24 [] && (b_25 == 0 && true)) then Q (.ret (.bool false)) [] {} else RR)))) else exW IntKind.i64 (a + n) (fun n_28 => ckQ (decide (0 ≤ a) && decide (0 ≤
 n_28) && Nat.ble a.toNat n_28.toNat && Nat.ble n_28.toNat s_2.length) (exS (.str ((s_2.drop a.toNat).take (n_28.toNat - a.toNat))) (fun s_29 => exW IntKind.i64 (a + n) (fun n_30 => bif f_19 != 0 then Q (.ret (.bool false)) [] {} else
 bif !eqB v_16 s_29 then Q (.ret (.bool false)) [] {} else bif !(eqB t_17 s_2 && (b_18 == n_30 && true)) then Q (.ret (.bool false)) [] {} else exW IntKind.i64 (a + n) (fun n_31 => ckQ (decide (0 ≤ a) && decide (0 ≤ n_31) &&
 Nat.ble a.toNat n_31.toNat && Nat.ble n_31.toNat s_2.length) (exS (.str ((s_2.drop a.toNat).take (n_31.toNat - a.toNat))) (fun s_32 => exW IntKind.i64 (a + n) (fun n_33 => Lf (s_32.length ≤ 7) ∧ ∀ r_34 : Int, Lf (r_34 = beM s_32) → bif
 f_23 != 0 then Q (.ret (.bool false)) [] {} else bif v_20 != r_34 then Q (.ret (.bool false)) [] {} else bif !(eqB t_21 s_2 && (b_22 == n_33 && true)) then Q (.ret (.bool false)) [] {} else bif f_26 != 2 then Q (.ret
 (.bool false)) [] {} else bif !(eqB t_24 [] && (b_25 == 0 && true)) then Q (.ret (.bool false)) [] {} else RR))))))))
theorem vc_8 (s : List UInt8) (a : Int) (n : Int) (pl : Int) (k : Int) (Q : Out → List Blk → Gh → Prop) : goal_8 (lookV [(32806, .int .i64), (32807, .int .i64), (32808, .str), (32814, .int .i64), (32817, .int .i64), (32818, .int .i64),
 (32819, .int .i64), (32851, .int .u8), (32852, .int .i64), (32923, .int .i64), (155661, .int .i64), (155662, .str), (155668, .int .i64)]) (lookB []) s a n pl k Q = (exI IntKind.i64 (s.length : Int) (fun n_0 => exI IntKind.i64 (imin n_0
 300) (fun n_1 => ckQ (decide (0 ≤ n_1) && true && Nat.ble n_1.toNat s.length) (exS (.str ((s.drop 0).take (n_1.toNat - 0))) (fun s_2 => exW IntKind.i64 pl (fun n_3 => exI IntKind.i64 (s_2.length : Int) (fun n_4 => exW IntKind.i64 (n_4 + 1)
 (fun n_5 => ckQ (n_5 != 0 && true) (exI IntKind.i64 (n_3.tmod n_5) (fun n_6 => ((∃ x_7 : Nat, Lf (x_7 = 0) ∧ eqqQ [AV.str s_2, .int IntKind.i64 a] ∧ eqqQ (AV.int .i64 n) ∧ eqqQ (AV.int .u8 k) ∧ eqqQ (AV.agg [.str s_2, .int IntKind.i64 a,
 .str s_2, .int IntKind.i64 n_6]) ∧ eqqQ (AV.int .i64 0) ∧ True) ∨ (∃ x_7 : Nat, Lf (x_7 = 0) ∧ eqqQ [AV.str s_2, .int IntKind.i64 a] ∧ eqqQ (AV.int .i64 n) ∧ eqqQ (AV.int .u8 k) ∧ eqqQ (AV.agg [.str s_2, .int IntKind.i64 a, .str s_2, .int
 IntKind.i64 n_6]) ∧ AV.int .i64 0 = AV.int .i64 1 ∧ True) ∨ ∃ x_7 : Nat, Lf (x_7 = 0) ∧ eqqQ [AV.str s_2, .int IntKind.i64 a] ∧ eqqQ (AV.int .i64 n) ∧ eqqQ (AV.int .u8 k) ∧ eqqQ (AV.agg [.str s_2, .int IntKind.i64 a, .str s_2, .int
 IntKind.i64 n_6]) ∧ AV.int .i64 0 = AV.int .i64 2 ∧ True) ∧ (∀ x_7 : Nat, Lf (x_7 = 0) → ∀ b_8 : Bool, Lf (b_8 = rightR s_2 a) → bif b_8 then Lf (0 ≤ a ∧ a ≤ (s_2.length : Int) ∧ s_2.length ≤ 1000000) ∧ ∀ l_9 : Int, Lf (l_9 = (s_2.length :
 Int) - a) → Lf (s_2.length ≤ 1000000) ∧ ∀ l_10 e_11 : Int, Lf (Prod.mk l_10 e_11 = ite (rightR s_2 a = true) (Prod.mk ((s_2.length : Int) - a) (0 : Int)) (Prod.mk (0 : Int) (2 : Int))) → ∀ e_12 : Int, Lf (e_12 = ite (rightR s_2 a = true) 0
 2) → bif e_12 != 0 then Q (.ret (.bool false)) [] {} else bif l_10 != l_9 then Q (.ret (.bool false)) [] {} else bif e_11 != 0 then Q (.ret (.bool false)) [] {} else exI IntKind.u8 (k.tmod 12) (fun n_13 => exW IntKind.i64 n_13 (fun n_14 =>
 ((∃ x_15 : Nat, Lf (x_15 = 0) ∧ eqqQ [AV.str s_2, .int IntKind.i64 a] ∧ eqqQ [AV.str s_2, .int IntKind.i64 a] ∧ eqqQ (AV.int .i64 n) ∧ eqqQ (AV.int .u8 k) ∧ eqqQ (AV.bool true) ∧ eqqQ (AV.int .i64 l_9) ∧ eqqQ (AV.agg [.str s_2, .int
 IntKind.i64 a, .str s_2, .int IntKind.i64 n_6]) ∧ eqqQ (AV.agg [.int IntKind.i64 n, .int IntKind.i64 n_14]) ∧ eqqQ (AV.int .i64 0) ∧ eqqQ (AV.ptr 1 2 0) ∧ eqqQ (AV.int .i64 0) ∧ eqqQ (AV.int .i64 0) ∧ True) ∨ (∃ x_15 : Nat, Lf (x_15 = 0) ∧
 eqqQ [AV.str s_2, .int IntKind.i64 a] ∧ eqqQ [AV.str s_2, .int IntKind.i64 a] ∧ eqqQ (AV.int .i64 n) ∧ eqqQ (AV.int .u8 k) ∧ eqqQ (AV.bool true) ∧ eqqQ (AV.int .i64 l_9) ∧ eqqQ (AV.agg [.str s_2, .int IntKind.i64 a, .str s_2, .int
 IntKind.i64 n_6]) ∧ eqqQ (AV.agg [.int IntKind.i64 n, .int IntKind.i64 n_14]) ∧ eqqQ (AV.int .i64 0) ∧ eqqQ (AV.ptr 1 2 0) ∧ eqqQ (AV.int .i64 0) ∧ AV.int .i64 0 = AV.int .i64 1 ∧ True) ∨ ∃ x_15 : Nat, Lf (x_15 = 0) ∧ eqqQ [AV.str s_2,
 .int IntKind.i64 a] ∧ eqqQ [AV.str s_2, .int IntKind.i64 a] ∧ eqqQ (AV.int .i64 n) ∧ eqqQ (AV.int .u8 k) ∧ eqqQ (AV.bool true) ∧ eqqQ (AV.int .i64 l_9) ∧ eqqQ (AV.agg [.str s_2, .int IntKind.i64 a, .str s_2, .int IntKind.i64 n_6]) ∧ eqqQ
 (AV.agg [.int IntKind.i64 n, .int IntKind.i64 n_14]) ∧ eqqQ (AV.int .i64 0) ∧ eqqQ (AV.ptr 1 2 0) ∧ eqqQ (AV.int .i64 0) ∧ AV.int .i64 0 = AV.int IntKind.i64 2 ∧ True) ∧ bodyT s_2 a n Q l_9 (stp3 s_2 a n k l_9 n_6 n_14) ∧ bodyT s_2 a n_14
 Q l_9 (stp4 s_2 a n k l_9 n_6 n_14) ∧ ∀ x_15 : Nat, Lf (x_15 = 0) → (True ∧ (0 : Nat) = (0 : Nat)) ∧ ((∃ y_16 : Nat, Lf (y_16 = 0) ∧ (2 : Nat) < (2 : Nat) ∧ eqqQ [AV.str s_2, .int IntKind.i64 a] ∧ eqqQ (AV.int .i64 n) ∧ eqqQ (AV.int .u8 k)
 ∧ eqqQ (AV.agg [.str s_2, .int IntKind.i64 a, .str s_2, .int IntKind.i64 n_6]) ∧ AV.int .i64 1 = AV.int .i64 0 ∧ True) ∨ (∃ y_16 : Nat, Lf (y_16 = 0) ∧ (1 : Nat) < (2 : Nat) ∧ eqqQ [AV.str s_2, .int IntKind.i64 a] ∧ eqqQ (AV.int .i64 n) ∧
 eqqQ (AV.int .u8 k) ∧ eqqQ (AV.agg [.str s_2, .int IntKind.i64 a, .str s_2, .int IntKind.i64 n_6]) ∧ eqqQ (AV.int .i64 1) ∧ True) ∨ ∃ y_16 : Nat, Lf (y_16 = 0) ∧ (0 : Nat) < (2 : Nat) ∧ eqqQ [AV.str s_2, .int IntKind.i64 a] ∧ eqqQ (AV.int
 .i64 n) ∧ eqqQ (AV.int .u8 k) ∧ eqqQ (AV.agg [.str s_2, .int IntKind.i64 a, .str s_2, .int IntKind.i64 n_6]) ∧ AV.int .i64 1 = AV.int .i64 2 ∧ True))) else Lf (s_2.length ≤ 1000000) ∧ ∀ l_9 e_10 : Int, Lf (Prod.mk l_9 e_10 = ite (rightR
 s_2 a = true) (Prod.mk ((s_2.length : Int) - a) (0 : Int)) (Prod.mk (0 : Int) (2 : Int))) → ∀ e_11 : Int, Lf (e_11 = ite (rightR s_2 a = true) 0 2) → bif e_11 != 2 then Q (.ret (.bool false)) [] {} else bif l_9 != 0 then Q (.ret (.bool
 false)) [] {} else bif e_10 != 2 then Q (.ret (.bool false)) [] {} else exI IntKind.u8 (k.tmod 12) (fun n_12 => exW IntKind.i64 n_12 (fun n_13 => ((∃ x_14 : Nat, Lf (x_14 = 0) ∧ eqqQ [AV.str s_2, .int IntKind.i64 a] ∧ eqqQ [AV.str s_2,
 .int IntKind.i64 a] ∧ eqqQ (AV.int IntKind.i64 n) ∧ eqqQ (AV.int .u8 k) ∧ eqqQ (AV.bool false) ∧ eqqQ (AV.int .i64 0) ∧ eqqQ (AV.agg [.str s_2, .int IntKind.i64 a, .str s_2, .int IntKind.i64 n_6]) ∧ eqqQ (AV.agg [.int IntKind.i64 n, .int
 IntKind.i64 n_13]) ∧ eqqQ (AV.int .i64 2) ∧ eqqQ (AV.ptr 1 2 0) ∧ eqqQ (AV.int .i64 0) ∧ eqqQ (AV.int .i64 0) ∧ True) ∨ (∃ x_14 : Nat, Lf (x_14 = 0) ∧ eqqQ [AV.str s_2, .int IntKind.i64 a] ∧ eqqQ [AV.str s_2, .int IntKind.i64 a] ∧ eqqQ
 (AV.int .i64 n) ∧ eqqQ (AV.int .u8 k) ∧ eqqQ (AV.bool false) ∧ eqqQ (AV.int .i64 0) ∧ eqqQ (AV.agg [.str s_2, .int IntKind.i64 a, .str s_2, .int IntKind.i64 n_6]) ∧ eqqQ (AV.agg [.int IntKind.i64 n, .int IntKind.i64 n_13]) ∧ eqqQ (AV.int
 .i64 2) ∧ eqqQ (AV.ptr 1 2 0) ∧ eqqQ (AV.int .i64 0) ∧ AV.int .i64 0 = AV.int .i64 1 ∧ True) ∨ ∃ x_14 : Nat, Lf (x_14 = 0) ∧ eqqQ [AV.str s_2, .int IntKind.i64 a] ∧ eqqQ [AV.str s_2, .int IntKind.i64 a] ∧ eqqQ (AV.int .i64 n) ∧ eqqQ
 (AV.int .u8 k) ∧ eqqQ (AV.bool false) ∧ eqqQ (AV.int .i64 0) ∧ eqqQ (AV.agg [.str s_2, .int IntKind.i64 a, .str s_2, .int IntKind.i64 n_6]) ∧ eqqQ (AV.agg [.int IntKind.i64 n, .int IntKind.i64 n_13]) ∧ eqqQ (AV.int .i64 2) ∧ eqqQ (AV.ptr 1
 2 0) ∧ eqqQ (AV.int .i64 0) ∧ AV.int .i64 0 = AV.int .i64 2 ∧ True) ∧ (∀ x_14 : Nat, Lf (x_14 = 0) → Lf (s_2.length ≤ 1000000) ∧ ∀ v_15 t_16 : List UInt8, ∀ b_17 f_18 : Int, Lf (takeM s_2 a n = Prod.mk v_15 (Prod.mk t_16 (Prod.mk b_17
 f_18))) → Lf (s_2.length ≤ 1000000) ∧ ∀ v_19 : Int, ∀ t_20 : List UInt8, ∀ b_21 f_22 : Int, Lf (uintM s_2 a n = Prod.mk v_19 (Prod.mk t_20 (Prod.mk b_21 f_22))) → Lf (s_2.length ≤ 1000000) ∧ ∀ t_23 : List UInt8, ∀ b_24 f_25 : Int, Lf
 (skipM s_2 a n = Prod.mk t_23 (Prod.mk b_24 f_25)) → bif f_18 != 2 then Q (.ret (.bool false)) [] {} else bif !eqB v_15 [] then Q (.ret (.bool false)) [] {} else bif !(eqB t_16 [] && (b_17 == 0 && true)) then Q (.ret (.bool false)) [] {}
 else bif f_22 != 2 then Q (.ret (.bool false)) [] {} else bif v_19 != 0 then Q (.ret (.bool false)) [] {} else bif !(eqB t_20 [] && (b_21 == 0 && true)) then Q (.ret (.bool false)) [] {} else bif f_25 != 2 then Q (.ret (.bool false)) [] {}
 else bif !(eqB t_23 [] && (b_24 == 0 && true)) then Q (.ret (.bool false)) [] {} else (True ∧ (0 : Nat) = (0 : Nat)) ∧ ((∃ y_26 : Nat, Lf (y_26 = 0) ∧ (2 : Nat) < (2 : Nat) ∧ eqqQ [AV.str s_2, .int IntKind.i64 a] ∧ eqqQ [AV.str s_2, .int
 IntKind.i64 a] ∧ eqqQ (AV.int .i64 n) ∧ eqqQ (AV.int .u8 k) ∧ eqqQ (AV.bool false) ∧ eqqQ (AV.int .i64 0) ∧ eqqQ (AV.agg [.str s_2, .int IntKind.i64 a, .str s_2, .int IntKind.i64 n_6]) ∧ eqqQ (AV.agg [.int IntKind.i64 n, .int IntKind.i64
 n_13]) ∧ eqqQ (AV.int .i64 2) ∧ eqqQ (AV.ptr 1 2 0) ∧ eqqQ (AV.int .i64 0) ∧ AV.int .i64 1 = AV.int .i64 0 ∧ True) ∨ (∃ y_26 : Nat, Lf (y_26 = 0) ∧ (1 : Nat) < (2 : Nat) ∧ eqqQ [AV.str s_2, .int IntKind.i64 a] ∧ eqqQ [AV.str s_2, .int
 IntKind.i64 a] ∧ eqqQ (AV.int .i64 n) ∧ eqqQ (AV.int .u8 k) ∧ eqqQ (AV.bool false) ∧ eqqQ (AV.int .i64 0) ∧ eqqQ (AV.agg [.str s_2, .int IntKind.i64 a, .str s_2, .int IntKind.i64 n_6]) ∧ eqqQ (AV.agg [.int IntKind.i64 n, .int IntKind.i64
 n_13]) ∧ eqqQ (AV.int .i64 2) ∧ eqqQ (AV.ptr 1 2 0) ∧ eqqQ (AV.int .i64 0) ∧ eqqQ (AV.int .i64 1) ∧ True) ∨ ∃ y_26 : Nat, Lf (y_26 = 0) ∧ (0 : Nat) < (2 : Nat) ∧ eqqQ [AV.str s_2, .int IntKind.i64 a] ∧ eqqQ [AV.str s_2, .int IntKind.i64 a]
 ∧ eqqQ (AV.int .i64 n) ∧ eqqQ (AV.int .u8 k) ∧ eqqQ (AV.bool false) ∧ eqqQ (AV.int .i64 0) ∧ eqqQ (AV.agg [.str s_2, .int IntKind.i64 a, .str s_2, .int IntKind.i64 n_6]) ∧ eqqQ (AV.agg [.int IntKind.i64 n, .int IntKind.i64 n_13]) ∧ eqqQ
 (AV.int .i64 2) ∧ eqqQ (AV.ptr 1 2 0) ∧ eqqQ (AV.int .i64 0) ∧ AV.int .i64 1 = AV.int .i64 2 ∧ True)) ∧ (∀ x_14 : Nat, Lf (x_14 = 0) → Lf (s_2.length ≤ 1000000) ∧ ∀ v_15 t_16 : List UInt8, ∀ b_17 f_18 : Int, Lf (takeM s_2 a n_13 = Prod.mk
 v_15 (Prod.mk t_16 (Prod.mk b_17 f_18))) → Lf (s_2.length ≤ 1000000) ∧ ∀ v_19 : Int, ∀ t_20 : List UInt8, ∀ b_21 f_22 : Int, Lf (uintM s_2 a n_13 = Prod.mk v_19 (Prod.mk t_20 (Prod.mk b_21 f_22))) → Lf (s_2.length ≤ 1000000) ∧ ∀ t_23 :
 List UInt8, ∀ b_24 f_25 : Int, Lf (skipM s_2 a n_13 = Prod.mk t_23 (Prod.mk b_24 f_25)) → bif f_18 != 2 then Q (.ret (.bool false)) [] {} else bif !eqB v_15 [] then Q (.ret (.bool false)) [] {} else bif !(eqB t_16 [] && (b_17 == 0 &&
 true)) then Q (.ret (.bool false)) [] {} else bif f_22 != 2 then Q (.ret (.bool false)) [] {} else bif v_19 != 0 then Q (.ret (.bool false)) [] {} else bif !(eqB t_20 [] && (b_21 == 0 && true)) then Q (.ret (.bool false)) [] {} else bif
 f_25 != 2 then Q (.ret (.bool false)) [] {} else bif !(eqB t_23 [] && (b_24 == 0 && true)) then Q (.ret (.bool false)) [] {} else (True ∧ (0 : Nat) = (0 : Nat)) ∧ ((∃ y_26 : Nat, Lf (y_26 = 0) ∧ (2 : Nat) < (1 : Nat) ∧ eqqQ [AV.str s_2,
 .int IntKind.i64 a] ∧ eqqQ [AV.str s_2, .int IntKind.i64 a] ∧ eqqQ (AV.int .i64 n) ∧ eqqQ (AV.int IntKind.u8 k) ∧ eqqQ (AV.bool false) ∧ eqqQ (AV.int .i64 0) ∧ eqqQ (AV.agg [.str s_2, .int IntKind.i64 a, .str s_2, .int IntKind.i64 n_6]) ∧
 eqqQ (AV.agg [.int IntKind.i64 n, .int IntKind.i64 n_13]) ∧ eqqQ (AV.int .i64 2) ∧ eqqQ (AV.ptr 1 2 0) ∧ eqqQ (AV.int .i64 0) ∧ AV.int .i64 2 = AV.int .i64 0 ∧ True) ∨ (∃ y_26 : Nat, Lf (y_26 = 0) ∧ (1 : Nat) < (1 : Nat) ∧ eqqQ [AV.str
 s_2, .int IntKind.i64 a] ∧ eqqQ [AV.str s_2, .int IntKind.i64 a] ∧ eqqQ (AV.int .i64 n) ∧ eqqQ (AV.int .u8 k) ∧ eqqQ (AV.bool false) ∧ eqqQ (AV.int .i64 0) ∧ eqqQ (AV.agg [.str s_2, .int IntKind.i64 a, .str s_2, .int IntKind.i64 n_6]) ∧
 eqqQ (AV.agg [.int IntKind.i64 n, .int IntKind.i64 n_13]) ∧ eqqQ (AV.int .i64 2) ∧ eqqQ (AV.ptr 1 2 0) ∧ eqqQ (AV.int .i64 0) ∧ AV.int .i64 2 = AV.int .i64 1 ∧ True) ∨ ∃ y_26 : Nat, Lf (y_26 = 0) ∧ (0 : Nat) < (1 : Nat) ∧ eqqQ [AV.str s_2,
 .int IntKind.i64 a] ∧ eqqQ [AV.str s_2, .int IntKind.i64 a] ∧ eqqQ (AV.int .i64 n) ∧ eqqQ (AV.int .u8 k) ∧ eqqQ (AV.bool false) ∧ eqqQ (AV.int .i64 0) ∧ eqqQ (AV.agg [.str s_2, .int IntKind.i64 a, .str s_2, .int IntKind.i64 n_6]) ∧ eqqQ
 (AV.agg [.int IntKind.i64 n, .int IntKind.i64 n_13]) ∧ eqqQ (AV.int .i64 2) ∧ eqqQ (AV.ptr 1 2 0) ∧ eqqQ (AV.int .i64 0) ∧ eqqQ (AV.int .i64 2) ∧ True)) ∧ ∀ x_14 : Nat, Lf (x_14 = 0) → (True ∧ (0 : Nat) = (0 : Nat)) ∧ ((∃ y_15 : Nat, Lf
 (y_15 = 0) ∧ (2 : Nat) < (2 : Nat) ∧ eqqQ [AV.str s_2, .int IntKind.i64 a] ∧ eqqQ (AV.int .i64 n) ∧ eqqQ (AV.int .u8 k) ∧ eqqQ (AV.agg [.str s_2, .int IntKind.i64 a, .str s_2, .int IntKind.i64 n_6]) ∧ AV.int .i64 1 = AV.int .i64 0 ∧ True)
 ∨ (∃ y_15 : Nat, Lf (y_15 = 0) ∧ (1 : Nat) < (2 : Nat) ∧ eqqQ [AV.str s_2, .int IntKind.i64 a] ∧ eqqQ (AV.int .i64 n) ∧ eqqQ (AV.int .u8 k) ∧ eqqQ (AV.agg [.str s_2, .int IntKind.i64 a, .str s_2, .int IntKind.i64 n_6]) ∧ eqqQ (AV.int .i64
 1) ∧ True) ∨ ∃ y_15 : Nat, Lf (y_15 = 0) ∧ (0 : Nat) < (2 : Nat) ∧ eqqQ [AV.str s_2, .int IntKind.i64 a] ∧ eqqQ (AV.int IntKind.i64 n) ∧ eqqQ (AV.int .u8 k) ∧ eqqQ (AV.agg [.str s_2, .int IntKind.i64 a, .str s_2, .int IntKind.i64 n_6]) ∧
 AV.int .i64 1 = AV.int .i64 2 ∧ True)))) ∧ (∀ x_7 : Nat, Lf (x_7 = 0) → ∀ b_8 : Bool, Lf (b_8 = rightR s_2 n_6) → bif b_8 then Lf (0 ≤ n_6 ∧ n_6 ≤ (s_2.length : Int) ∧ s_2.length ≤ 1000000) ∧ ∀ l_9 : Int, Lf (l_9 = (s_2.length : Int) -
 n_6) → Lf (s_2.length ≤ 1000000) ∧ ∀ l_10 e_11 : Int, Lf (Prod.mk l_10 e_11 = ite (rightR s_2 n_6 = true) (Prod.mk ((s_2.length : Int) - n_6) (0 : Int)) (Prod.mk (0 : Int) (2 : Int))) → ∀ e_12 : Int, Lf (e_12 = ite (rightR s_2 n_6 = true)
 0 2) → bif e_12 != 0 then Q (.ret (.bool false)) [] {} else bif l_10 != l_9 then Q (.ret (.bool false)) [] {} else bif e_11 != 0 then Q (.ret (.bool false)) [] {} else exI IntKind.u8 (k.tmod 12) (fun n_13 => exW IntKind.i64 n_13 (fun n_14
 => ((∃ x_15 : Nat, Lf (x_15 = 0) ∧ eqqQ [AV.str s_2, .int IntKind.i64 a] ∧ eqqQ [AV.str s_2, .int IntKind.i64 n_6] ∧ eqqQ (AV.int .i64 n) ∧ eqqQ (AV.int .u8 k) ∧ eqqQ (AV.bool true) ∧ eqqQ (AV.int .i64 l_9) ∧ eqqQ (AV.agg [.str s_2, .int
 IntKind.i64 a, .str s_2, .int IntKind.i64 n_6]) ∧ eqqQ (AV.agg [.int IntKind.i64 n, .int IntKind.i64 n_14]) ∧ eqqQ (AV.int .i64 0) ∧ eqqQ (AV.ptr 1 2 0) ∧ eqqQ (AV.int .i64 1) ∧ eqqQ (AV.int .i64 0) ∧ True) ∨ (∃ x_15 : Nat, Lf (x_15 = 0) ∧
 eqqQ [AV.str s_2, .int IntKind.i64 a] ∧ eqqQ [AV.str s_2, .int IntKind.i64 n_6] ∧ eqqQ (AV.int .i64 n) ∧ eqqQ (AV.int .u8 k) ∧ eqqQ (AV.bool true) ∧ eqqQ (AV.int .i64 l_9) ∧ eqqQ (AV.agg [.str s_2, .int IntKind.i64 a, .str s_2, .int
 IntKind.i64 n_6]) ∧ eqqQ (AV.agg [.int IntKind.i64 n, .int IntKind.i64 n_14]) ∧ eqqQ (AV.int .i64 0) ∧ eqqQ (AV.ptr 1 2 0) ∧ eqqQ (AV.int .i64 1) ∧ AV.int .i64 0 = AV.int .i64 1 ∧ True) ∨ ∃ x_15 : Nat, Lf (x_15 = 0) ∧ eqqQ [AV.str s_2,
 .int IntKind.i64 a] ∧ eqqQ [AV.str s_2, .int IntKind.i64 n_6] ∧ eqqQ (AV.int .i64 n) ∧ eqqQ (AV.int .u8 k) ∧ eqqQ (AV.bool true) ∧ eqqQ (AV.int .i64 l_9) ∧ eqqQ (AV.agg [.str s_2, .int IntKind.i64 a, .str s_2, .int IntKind.i64 n_6]) ∧ eqqQ
 (AV.agg [.int IntKind.i64 n, .int IntKind.i64 n_14]) ∧ eqqQ (AV.int .i64 0) ∧ eqqQ (AV.ptr 1 2 0) ∧ eqqQ (AV.int .i64 1) ∧ AV.int .i64 0 = AV.int .i64 2 ∧ True) ∧ bodyT s_2 n_6 n Q l_9 (stp1 s_2 a n_6 n k l_9 n_14) ∧ bodyT s_2 n_6 n_14 Q
 l_9 (stp2 s_2 a n_6 n k l_9 n_14) ∧ ∀ x_15 : Nat, Lf (x_15 = 0) → (True ∧ (0 : Nat) = (0 : Nat)) ∧ ((∃ y_16 : Nat, Lf (y_16 = 0) ∧ (2 : Nat) < (1 : Nat) ∧ eqqQ [AV.str s_2, .int IntKind.i64 a] ∧ eqqQ (AV.int .i64 n) ∧ eqqQ (AV.int .u8 k) ∧
 eqqQ (AV.agg [.str s_2, .int IntKind.i64 a, .str s_2, .int IntKind.i64 n_6]) ∧ AV.int .i64 2 = AV.int .i64 0 ∧ True) ∨ (∃ y_16 : Nat, Lf (y_16 = 0) ∧ (1 : Nat) < (1 : Nat) ∧ eqqQ [AV.str s_2, .int IntKind.i64 a] ∧ eqqQ (AV.int .i64 n) ∧
 eqqQ (AV.int .u8 k) ∧ eqqQ (AV.agg [.str s_2, .int IntKind.i64 a, .str s_2, .int IntKind.i64 n_6]) ∧ AV.int IntKind.i64 2 = AV.int .i64 1 ∧ True) ∨ ∃ y_16 : Nat, Lf (y_16 = 0) ∧ (0 : Nat) < (1 : Nat) ∧ eqqQ [AV.str s_2, .int IntKind.i64 a]
 ∧ eqqQ (AV.int .i64 n) ∧ eqqQ (AV.int .u8 k) ∧ eqqQ (AV.agg [.str s_2, .int IntKind.i64 a, .str s_2, .int IntKind.i64 n_6]) ∧ eqqQ (AV.int .i64 2) ∧ True))) else Lf (s_2.length ≤ 1000000) ∧ ∀ l_9 e_10 : Int, Lf (Prod.mk l_9 e_10 = ite
 (rightR s_2 n_6 = true) (Prod.mk ((s_2.length : Int) - n_6) (0 : Int)) (Prod.mk (0 : Int) (2 : Int))) → ∀ e_11 : Int, Lf (e_11 = ite (rightR s_2 n_6 = true) 0 2) → bif e_11 != 2 then Q (.ret (.bool false)) [] {} else bif l_9 != 0 then Q
 (.ret (.bool false)) [] {} else bif e_10 != 2 then Q (.ret (.bool false)) [] {} else exI IntKind.u8 (k.tmod 12) (fun n_12 => exW IntKind.i64 n_12 (fun n_13 => ((∃ x_14 : Nat, Lf (x_14 = 0) ∧ eqqQ [AV.str s_2, .int IntKind.i64 a] ∧ eqqQ
 [AV.str s_2, .int IntKind.i64 n_6] ∧ eqqQ (AV.int IntKind.i64 n) ∧ eqqQ (AV.int .u8 k) ∧ eqqQ (AV.bool false) ∧ eqqQ (AV.int .i64 0) ∧ eqqQ (AV.agg [.str s_2, .int IntKind.i64 a, .str s_2, .int IntKind.i64 n_6]) ∧ eqqQ (AV.agg [.int
 IntKind.i64 n, .int IntKind.i64 n_13]) ∧ eqqQ (AV.int .i64 2) ∧ eqqQ (AV.ptr 1 2 0) ∧ eqqQ (AV.int .i64 1) ∧ eqqQ (AV.int .i64 0) ∧ True) ∨ (∃ x_14 : Nat, Lf (x_14 = 0) ∧ eqqQ [AV.str s_2, .int IntKind.i64 a] ∧ eqqQ [AV.str s_2, .int
 IntKind.i64 n_6] ∧ eqqQ (AV.int .i64 n) ∧ eqqQ (AV.int .u8 k) ∧ eqqQ (AV.bool false) ∧ eqqQ (AV.int .i64 0) ∧ eqqQ (AV.agg [.str s_2, .int IntKind.i64 a, .str s_2, .int IntKind.i64 n_6]) ∧ eqqQ (AV.agg [.int IntKind.i64 n, .int IntKind.i64
 n_13]) ∧ eqqQ (AV.int .i64 2) ∧ eqqQ (AV.ptr 1 2 0) ∧ eqqQ (AV.int .i64 1) ∧ AV.int .i64 0 = AV.int .i64 1 ∧ True) ∨ ∃ x_14 : Nat, Lf (x_14 = 0) ∧ eqqQ [AV.str s_2, .int IntKind.i64 a] ∧ eqqQ [AV.str s_2, .int IntKind.i64 n_6] ∧ eqqQ
 (AV.int .i64 n) ∧ eqqQ (AV.int .u8 k) ∧ eqqQ (AV.bool false) ∧ eqqQ (AV.int .i64 0) ∧ eqqQ (AV.agg [.str s_2, .int IntKind.i64 a, .str s_2, .int IntKind.i64 n_6]) ∧ eqqQ (AV.agg [.int IntKind.i64 n, .int IntKind.i64 n_13]) ∧ eqqQ (AV.int
 .i64 2) ∧ eqqQ (AV.ptr 1 2 0) ∧ eqqQ (AV.int .i64 1) ∧ AV.int .i64 0 = AV.int .i64 2 ∧ True) ∧ (∀ x_14 : Nat, Lf (x_14 = 0) → Lf (s_2.length ≤ 1000000) ∧ ∀ v_15 t_16 : List UInt8, ∀ b_17 f_18 : Int, Lf (takeM s_2 n_6 n = Prod.mk v_15
 (Prod.mk t_16 (Prod.mk b_17 f_18))) → Lf (s_2.length ≤ 1000000) ∧ ∀ v_19 : Int, ∀ t_20 : List UInt8, ∀ b_21 f_22 : Int, Lf (uintM s_2 n_6 n = Prod.mk v_19 (Prod.mk t_20 (Prod.mk b_21 f_22))) → Lf (s_2.length ≤ 1000000) ∧ ∀ t_23 : List
 UInt8, ∀ b_24 f_25 : Int, Lf (skipM s_2 n_6 n = Prod.mk t_23 (Prod.mk b_24 f_25)) → bif f_18 != 2 then Q (.ret (.bool false)) [] {} else bif !eqB v_15 [] then Q (.ret (.bool false)) [] {} else bif !(eqB t_16 [] && (b_17 == 0 && true)) then
 Q (.ret (.bool false)) [] {} else bif f_22 != 2 then Q (.ret (.bool false)) [] {} else bif v_19 != 0 then Q (.ret (.bool false)) [] {} else bif !(eqB t_20 [] && (b_21 == 0 && true)) then Q (.ret (.bool false)) [] {} else bif f_25 != 2 then
 Q (.ret (.bool false)) [] {} else bif !(eqB t_23 [] && (b_24 == 0 && true)) then Q (.ret (.bool false)) [] {} else (True ∧ (0 : Nat) = (0 : Nat)) ∧ ((∃ y_26 : Nat, Lf (y_26 = 0) ∧ (2 : Nat) < (2 : Nat) ∧ eqqQ [AV.str s_2, .int IntKind.i64
 a] ∧ eqqQ [AV.str s_2, .int IntKind.i64 n_6] ∧ eqqQ (AV.int .i64 n) ∧ eqqQ (AV.int .u8 k) ∧ eqqQ (AV.bool false) ∧ eqqQ (AV.int .i64 0) ∧ eqqQ (AV.agg [.str s_2, .int IntKind.i64 a, .str s_2, .int IntKind.i64 n_6]) ∧ eqqQ (AV.agg [.int
 IntKind.i64 n, .int IntKind.i64 n_13]) ∧ eqqQ (AV.int .i64 2) ∧ eqqQ (AV.ptr 1 2 0) ∧ eqqQ (AV.int .i64 1) ∧ AV.int .i64 1 = AV.int .i64 0 ∧ True) ∨ (∃ y_26 : Nat, Lf (y_26 = 0) ∧ (1 : Nat) < (2 : Nat) ∧ eqqQ [AV.str s_2, .int IntKind.i64
 a] ∧ eqqQ [AV.str s_2, .int IntKind.i64 n_6] ∧ eqqQ (AV.int .i64 n) ∧ eqqQ (AV.int .u8 k) ∧ eqqQ (AV.bool false) ∧ eqqQ (AV.int .i64 0) ∧ eqqQ (AV.agg [.str s_2, .int IntKind.i64 a, .str s_2, .int IntKind.i64 n_6]) ∧ eqqQ (AV.agg [.int
 IntKind.i64 n, .int IntKind.i64 n_13]) ∧ eqqQ (AV.int .i64 2) ∧ eqqQ (AV.ptr 1 2 0) ∧ eqqQ (AV.int .i64 1) ∧ eqqQ (AV.int .i64 1) ∧ True) ∨ ∃ y_26 : Nat, Lf (y_26 = 0) ∧ (0 : Nat) < (2 : Nat) ∧ eqqQ [AV.str s_2, .int IntKind.i64 a] ∧ eqqQ
 [AV.str s_2, .int IntKind.i64 n_6] ∧ eqqQ (AV.int .i64 n) ∧ eqqQ (AV.int .u8 k) ∧ eqqQ (AV.bool false) ∧ eqqQ (AV.int .i64 0) ∧ eqqQ (AV.agg [.str s_2, .int IntKind.i64 a, .str s_2, .int IntKind.i64 n_6]) ∧ eqqQ (AV.agg [.int IntKind.i64
 n, .int IntKind.i64 n_13]) ∧ eqqQ (AV.int .i64 2) ∧ eqqQ (AV.ptr 1 2 0) ∧ eqqQ (AV.int .i64 1) ∧ AV.int .i64 1 = AV.int .i64 2 ∧ True)) ∧ (∀ x_14 : Nat, Lf (x_14 = 0) → Lf (s_2.length ≤ 1000000) ∧ ∀ v_15 t_16 : List UInt8, ∀ b_17 f_18 :
 Int, Lf (takeM s_2 n_6 n_13 = Prod.mk v_15 (Prod.mk t_16 (Prod.mk b_17 f_18))) → Lf (s_2.length ≤ 1000000) ∧ ∀ v_19 : Int, ∀ t_20 : List UInt8, ∀ b_21 f_22 : Int, Lf (uintM s_2 n_6 n_13 = Prod.mk v_19 (Prod.mk t_20 (Prod.mk b_21 f_22))) →
 Lf (s_2.length ≤ 1000000) ∧ ∀ t_23 : List UInt8, ∀ b_24 f_25 : Int, Lf (skipM s_2 n_6 n_13 = Prod.mk t_23 (Prod.mk b_24 f_25)) → bif f_18 != 2 then Q (.ret (.bool false)) [] {} else bif !eqB v_15 [] then Q (.ret (.bool false)) [] {} else
 bif !(eqB t_16 [] && (b_17 == 0 && true)) then Q (.ret (.bool false)) [] {} else bif f_22 != 2 then Q (.ret (.bool false)) [] {} else bif v_19 != 0 then Q (.ret (.bool false)) [] {} else bif !(eqB t_20 [] && (b_21 == 0 && true)) then Q
 (.ret (.bool false)) [] {} else bif f_25 != 2 then Q (.ret (.bool false)) [] {} else bif !(eqB t_23 [] && (b_24 == 0 && true)) then Q (.ret (.bool false)) [] {} else (True ∧ (0 : Nat) = (0 : Nat)) ∧ ((∃ y_26 : Nat, Lf (y_26 = 0) ∧ (2 :
 Nat) < (1 : Nat) ∧ eqqQ [AV.str s_2, .int IntKind.i64 a] ∧ eqqQ [AV.str s_2, .int IntKind.i64 n_6] ∧ eqqQ (AV.int .i64 n) ∧ eqqQ (AV.int .u8 k) ∧ eqqQ (AV.bool false) ∧ eqqQ (AV.int .i64 0) ∧ eqqQ (AV.agg [.str s_2, .int IntKind.i64 a,
 .str s_2, .int IntKind.i64 n_6]) ∧ eqqQ (AV.agg [.int IntKind.i64 n, .int IntKind.i64 n_13]) ∧ eqqQ (AV.int IntKind.i64 2) ∧ eqqQ (AV.ptr 1 2 0) ∧ eqqQ (AV.int .i64 1) ∧ AV.int .i64 2 = AV.int .i64 0 ∧ True) ∨ (∃ y_26 : Nat, Lf (y_26 = 0)
 ∧ (1 : Nat) < (1 : Nat) ∧ eqqQ [AV.str s_2, .int IntKind.i64 a] ∧ eqqQ [AV.str s_2, .int IntKind.i64 n_6] ∧ eqqQ (AV.int .i64 n) ∧ eqqQ (AV.int .u8 k) ∧ eqqQ (AV.bool false) ∧ eqqQ (AV.int .i64 0) ∧ eqqQ (AV.agg [.str s_2, .int IntKind.i64
 a, .str s_2, .int IntKind.i64 n_6]) ∧ eqqQ (AV.agg [.int IntKind.i64 n, .int IntKind.i64 n_13]) ∧ eqqQ (AV.int .i64 2) ∧ eqqQ (AV.ptr 1 2 0) ∧ eqqQ (AV.int .i64 1) ∧ AV.int .i64 2 = AV.int .i64 1 ∧ True) ∨ ∃ y_26 : Nat, Lf (y_26 = 0) ∧ (0
 : Nat) < (1 : Nat) ∧ eqqQ [AV.str s_2, .int IntKind.i64 a] ∧ eqqQ [AV.str s_2, .int IntKind.i64 n_6] ∧ eqqQ (AV.int .i64 n) ∧ eqqQ (AV.int .u8 k) ∧ eqqQ (AV.bool false) ∧ eqqQ (AV.int .i64 0) ∧ eqqQ (AV.agg [.str s_2, .int IntKind.i64 a,
 .str s_2, .int IntKind.i64 n_6]) ∧ eqqQ (AV.agg [.int IntKind.i64 n, .int IntKind.i64 n_13]) ∧ eqqQ (AV.int .i64 2) ∧ eqqQ (AV.ptr 1 2 0) ∧ eqqQ (AV.int .i64 1) ∧ eqqQ (AV.int .i64 2) ∧ True)) ∧ ∀ x_14 : Nat, Lf (x_14 = 0) → (True ∧ (0 :
 Nat) = (0 : Nat)) ∧ ((∃ y_15 : Nat, Lf (y_15 = 0) ∧ (2 : Nat) < (1 : Nat) ∧ eqqQ [AV.str s_2, .int IntKind.i64 a] ∧ eqqQ (AV.int .i64 n) ∧ eqqQ (AV.int .u8 k) ∧ eqqQ (AV.agg [.str s_2, .int IntKind.i64 a, .str s_2, .int IntKind.i64 n_6]) ∧
 AV.int .i64 2 = AV.int .i64 0 ∧ True) ∨ (∃ y_15 : Nat, Lf (y_15 = 0) ∧ (1 : Nat) < (1 : Nat) ∧ eqqQ [AV.str s_2, .int IntKind.i64 a] ∧ eqqQ (AV.int .i64 n) ∧ eqqQ (AV.int .u8 k) ∧ eqqQ (AV.agg [.str s_2, .int IntKind.i64 a, .str s_2, .int
 IntKind.i64 n_6]) ∧ AV.int .i64 2 = AV.int .i64 1 ∧ True) ∨ ∃ y_15 : Nat, Lf (y_15 = 0) ∧ (0 : Nat) < (1 : Nat) ∧ eqqQ [AV.str s_2, .int IntKind.i64 a] ∧ eqqQ (AV.int .i64 n) ∧ eqqQ (AV.int .u8 k) ∧ eqqQ (AV.agg [.str s_2, .int IntKind.i64
 a, .str s_2, .int IntKind.i64 n_6]) ∧ eqqQ (AV.int .i64 2) ∧ True)))) ∧ ∀ x_7 : Nat, Lf (x_7 = 0) → Q (.ret (.bool true)) [] {})))))))))) := by kernel_rfl

end Go.Proofs.Ythaapjfnadfmgaa
