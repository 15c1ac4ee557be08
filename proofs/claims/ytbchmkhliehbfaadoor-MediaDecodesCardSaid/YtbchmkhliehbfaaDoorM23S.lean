/-
  Chapter 23, the reference: Encoding.
-/
import Derived.Test.YtbchmkhliehbfaaDoorM23R
set_option linter.unusedSimpArgs false
set_option linter.unusedVariables false
set_option linter.unusedSectionVars false
namespace Go.Proofs.YtbchmkhliehbfaaDoor
open Go.RowKit
set_option maxRecDepth 1000000

def smS : SM := lookS [(18, cRHead), (31, cOct)]
theorem smS_ok : ∀ f g, smS f = some g → ValidF Tryd.prog gl0 f g := lookS_ok _ (by simp only [List.mem_cons, List.not_mem_nil, or_false, forall_eq_or_imp, forall_eq]; exact ⟨rhead_ok, oct_ok⟩)
section
variable (mk : Bool) (ty seq ti ss : Int) (tc : Nat) (cs : List Int) (tx : Nat) (ex : List Xt) (pad : Int) (pl : List UInt8)
def inv_17 : LInv where
  α := Nat
  pre j := Lf (j + 1 ≤ pad)
  st j := ⟨mkT [(1, .ptr 0 9 0), (3, .str (headM mk ty seq ti ss cs ex pad ++ pl ++ List.replicate j 0)), (4, .int .i64 ((j : Nat) + 1 : Int))], [⟨.exact, true, medM mk ty seq ti ss tc cs tx ex pad pl⟩]⟩
  mu j := pad.toNat - j
noncomputable def env_17 (hv : Nat → Option Pa) (hb : Nat → Option Bool) : Env := e23 smS (fun i => bif Nat.beq i 17000 then some (fun _ => [[inv_17 mk ty seq ti ss tc cs tx ex pad pl]]) else none) hv hb
end
noncomputable def goal_17 (hv : Nat → Option Pa) (hb : Nat → Option Bool) (mk : Bool) (ty seq ti ss : Int) (tc : Nat) (cs : List Int) (tx : Nat) (ex : List Xt) (pad : Int) (pl : List UInt8) (Q : Out → List Blk → Gh → Prop) : Prop :=
  callx (env_17 mk ty seq ti ss tc cs tx ex pad pl hv hb) (wpx (env_17 mk ty seq ti ss tc cs tx ex pad pl hv hb) 1000) 17 [.agg (medM mk ty seq ti ss tc cs tx ex pad pl)] [] {} Q
theorem vc_17 (mk : Bool) (ty : Int) (seq : Int) (ti : Int) (ss : Int) (tc : Nat) (cs : List Int) (tx : Nat) (ex : List Xt) (pad : Int) (pl : List UInt8) (Q : Out → List Blk → Gh → Prop) : goal_17 (lookV [(69641, .str), (69645, .int .i64), (69651, .str), (69653, .str), (69649, .int .i64), (69650, .int .i64), (69654, .str), (69657, .str), (69658, .str)]) (lookB []) mk ty seq ti ss tc cs tx ex pad pl Q = (
(∃ cs_0 : (List Int), (∃ ex_1 : (List Xt), ((Lf ((medK (cellsI cs) (List.length cs) (cellsXM ex) (List.length ex) cs_0 ex_1) ∧
 ((rightM ty seq ti ss cs_0 ex_1 pad) = true))) ∧
 (∀ s_2 : (List UInt8), ((Lf (s_2 = (headM mk ty seq ti ss cs_0 ex_1 pad))) →
(bif ((eqAVL ((AV.str pl) :: []) ((AV.str pl) :: [])) && true) then (bif ((decide (((List.length s_2) + (List.length pl)) ≤ (9223372036854775807 : Nat))) && true) then (∃ s_3 : (List UInt8), (((AV.str (s_2 ++ pl)) = (AV.str s_3)) ∧
 (bif (decide (pad > (0 : Int))) then ((∃ x_4 : Nat, ((Lf (((Nat.cast x_4 : Int) + (1 : Int)) ≤ pad)) ∧
 ((((AV.bool mk) :: ((AV.int .i64 ty) :: ((AV.int .i64 seq) :: ((AV.int .i64 ti) :: ((AV.int .i64 ss) :: ((AV.lst tc (cellsI cs) (List.length cs) (1 : Nat)) :: ((AV.lst tx (cellsXM ex) (List.length ex) (2 : Nat)) :: ((AV.int .i64 pad) :: ((AV.str pl) :: []))))))))) = ((AV.bool mk) :: ((AV.int .i64 ty) :: ((AV.int .i64 seq) :: ((AV.int .i64 ti) :: ((AV.int .i64 ss) :: ((AV.lst tc (cellsI cs) (List.length cs) (1 : Nat)) :: ((AV.lst tx (cellsXM ex) (List.length ex) (2 : Nat)) :: ((AV.int .i64 pad) :: ((AV.str pl) :: [])))))))))) ∧
 (((AV.ptr (0 : Nat) (9 : Nat) (0 : Nat)) = (AV.ptr (0 : Nat) (9 : Nat) (0 : Nat))) ∧
 (((AV.str s_3) = (AV.str (((headM mk ty seq ti ss cs ex pad) ++ pl) ++ (List.replicate x_4 (UInt8.ofNat (0 : Nat)))))) ∧
 (((AV.int .i64 (1 : Int)) = (AV.int .i64 ((Nat.cast x_4 : Int) + (1 : Int)))) ∧
 True)))))) ∧
 (∀ x_4 : Nat, ((Lf (((Nat.cast x_4 : Int) + (1 : Int)) ≤ pad)) →
(∃ n_5 : Int, (((AV.int .i64 ((Nat.cast x_4 : Int) + (1 : Int))) = (AV.int .i64 n_5)) ∧
 (bif (decide (n_5 < pad)) then (∃ s_6 : (List UInt8), (((AV.str (((headM mk ty seq ti ss cs ex pad) ++ pl) ++ (List.replicate x_4 (UInt8.ofNat (0 : Nat))))) = (AV.str s_6)) ∧
 ((Lf ((((0 : Int) ≤ (1 : Int)) ∧
 ((1 : Int) ≤ (8 : Int))) ∧
 (((0 : Int) ≤ (0 : Int)) ∧
 ((0 : Int) ≤ (9223372036854775807 : Int))))) ∧
 (bif ((decide (((List.length s_6) + (1 : Nat)) ≤ (9223372036854775807 : Nat))) && true) then (∃ s_7 : (List UInt8), (((AV.str (s_6 ++ (beM (0 : Int) (1 : Nat)))) = (AV.str s_7)) ∧
 (∃ n_8 : Int, (((AV.int .i64 ((Nat.cast x_4 : Int) + (1 : Int))) = (AV.int .i64 n_8)) ∧
 (∃ n_9 : Int, (((AV.int .i64 (IntKind.wrap .i64 (n_8 + (1 : Int)))) = (AV.int .i64 n_9)) ∧
 ((True ∧
 ((0 : Nat) = (0 : Nat))) ∧
 (∃ y_10 : Nat, ((Lf (((Nat.cast y_10 : Int) + (1 : Int)) ≤ pad)) ∧
 ((((Int.toNat pad) - y_10) < ((Int.toNat pad) - x_4)) ∧
 ((((AV.bool mk) :: ((AV.int .i64 ty) :: ((AV.int .i64 seq) :: ((AV.int .i64 ti) :: ((AV.int .i64 ss) :: ((AV.lst tc (cellsI cs) (List.length cs) (1 : Nat)) :: ((AV.lst tx (cellsXM ex) (List.length ex) (2 : Nat)) :: ((AV.int .i64 pad) :: ((AV.str pl) :: []))))))))) = ((AV.bool mk) :: ((AV.int .i64 ty) :: ((AV.int .i64 seq) :: ((AV.int .i64 ti) :: ((AV.int .i64 ss) :: ((AV.lst tc (cellsI cs) (List.length cs) (1 : Nat)) :: ((AV.lst tx (cellsXM ex) (List.length ex) (2 : Nat)) :: ((AV.int .i64 pad) :: ((AV.str pl) :: [])))))))))) ∧
 (((AV.ptr (0 : Nat) (9 : Nat) (0 : Nat)) = (AV.ptr (0 : Nat) (9 : Nat) (0 : Nat))) ∧
 (((AV.str s_7) = (AV.str (((headM mk ty seq ti ss cs ex pad) ++ pl) ++ (List.replicate y_10 (UInt8.ofNat (0 : Nat)))))) ∧
 (((AV.int .i64 n_9) = (AV.int .i64 ((Nat.cast y_10 : Int) + (1 : Int)))) ∧
 True))))))))))))))
else False))))
else (∃ s_6 : (List UInt8), (((AV.str (((headM mk ty seq ti ss cs ex pad) ++ pl) ++ (List.replicate x_4 (UInt8.ofNat (0 : Nat))))) = (AV.str s_6)) ∧
 ((Lf ((((0 : Int) ≤ (1 : Int)) ∧
 ((1 : Int) ≤ (8 : Int))) ∧
 (((0 : Int) ≤ pad) ∧
 (pad ≤ (9223372036854775807 : Int))))) ∧
 (∃ s_7 : (List UInt8), (((AV.str (beM pad (1 : Nat))) = (AV.str s_7)) ∧
 (bif ((decide (((List.length s_6) + (List.length s_7)) ≤ (9223372036854775807 : Nat))) && true) then (∃ s_8 : (List UInt8), (((AV.str (s_6 ++ s_7)) = (AV.str s_8)) ∧
 (Q (Out.ret (AV.str s_8)) [] (Gh.mk (0 : Nat) (0 : Nat) []))))
else False))))))))))))
else (Q (Out.ret (AV.str s_3)) [] (Gh.mk (0 : Nat) (0 : Nat) [])))))
else False)
else False))))))) := by kernel_rfl


theorem eqS1 {s : List UInt8} {A : Prop} (h : A) : bif (eqAVL [AV.str s] [AV.str s] && true) then A else False := by
  have hb : ∀ s : List UInt8, eqB s s = true := fun s => by induction s with
    | nil => rfl
    | cons a s ih => simp [eqB, ih]
  have : eqAVL [AV.str s] [AV.str s] = true := by simp [eqAVL, eqAV, hb]
  rw [this]
  exact h
section
variable {mk : Bool} {ty seq ti ss : Int} {tc : Nat} {cs : List Int} {tx : Nat} {ex : List Xt} {pad : Int} {pl : List UInt8}
theorem enc17_run (hk : medK (cellsI cs) cs.length (cellsXM ex) ex.length cs ex) (hpl : pl.length ≤ 1000000000) (hR : rightM ty seq ti ss cs ex pad = true) (Q : Out → List Blk → Gh → Prop) (hq : Q (.ret (.str (encM mk ty seq ti ss cs ex pad pl))) [] {}) : ∃ hv hb, goal_17 hv hb mk ty seq ti ss tc cs tx ex pad pl Q := by
  obtain ⟨hv, hb', e⟩ : ∃ hv hb, goal_17 hv hb mk ty seq ti ss tc cs tx ex pad pl Q = _ := ⟨_, _, vc_17 mk ty seq ti ss tc cs tx ex pad pl Q⟩
  refine ⟨hv, hb', e.mpr ?_⟩
  clear e
  obtain ⟨r1, r2, r3, r4, r5⟩ := right_of hR
  have hb := head_bound mk ty seq ti ss cs ex pad r2 r3 r4
  generalize hH : headM mk ty seq ti ss cs ex pad = hd at hb
  refine ⟨cs, ex, ⟨hk, hR⟩, ?_⟩
  rintro s ⟨rfl⟩
  rw [hH]
  rw [encM, hH, padM] at hq
  refine eqS1 (ckI (by simp; omega) ⟨_, rfl, splitD (fun hp => ?_) (fun hp => ?_)⟩)
  · rw [if_pos (by omega)] at hq
    refine ⟨⟨0, ⟨by omega⟩, rfl, rfl, by simp, rfl, trivial⟩, ?_⟩
    rintro j ⟨hj⟩
    have hl : (hd ++ pl ++ List.replicate j (UInt8.ofNat 0)).length ≤ hd.length + pl.length + 255 := by
      rw [List.length_append, List.length_append, List.length_replicate]
      omega
    refine ⟨_, rfl, splitD (fun hlt => ?_) (fun hge => ?_)⟩
    · refine ⟨_, rfl, ⟨by omega, by omega, by omega⟩, ckI (by rw [Bool.and_true, decide_eq_true_eq]; omega) ⟨_, rfl, _, rfl, wrapI (by omega) (by omega) ⟨⟨trivial, rfl⟩, j + 1, ⟨by omega⟩, by omega, rfl, rfl, ?_, by congr 1, trivial⟩⟩⟩
      rw [List.append_assoc (hd ++ pl), List.replicate_succ']
      rfl
    · have hjp : j = (pad - 1).toNat := by omega
      refine ⟨_, rfl, ⟨by omega, by omega, by omega⟩, _, rfl, ckI (by rw [Bool.and_true, decide_eq_true_eq, be_len]; omega) ⟨_, rfl, ?_⟩⟩
      rw [putM, putM, List.append_nil, ← List.append_assoc, ← hjp] at hq
      exact hq
  · rw [if_neg (by omega), List.append_nil] at hq
    exact hq
end
def cREnc : Con
  | [.agg [.bool mk, .int .i64 ty, .int .i64 seq, .int .i64 ti, .int .i64 ss, .lst _ c5 n5 1, .lst _ c6 n6 2, .int .i64 pad, .str pl]], H, K => ∃ (cs : List Int) (ex : List Xt), Lf ((medK c5 n5 c6 n6 cs ex ∧ rightM ty seq ti ss cs ex pad = true) ∧ pl.length ≤ 1000000000) ∧
      ∀ s : List UInt8, Lf (s = encM mk ty seq ti ss cs ex pad pl) → K (.ret (.str s)) H
  | _, _, _ => False
theorem renc_ok : ValidF Tryd.prog gl0 17 cREnc := by
  refine valid_flat (enters_of (by kernel_rfl)) gl0_noY fun args H Q hc => ?_
  unfold cREnc at hc
  split at hc
  · rename_i mk ty seq ti ss tc c5 n5 tx c6 n6 pad pl
    obtain ⟨cs, ex, ⟨⟨⟨rfl, rfl, rfl, rfl, k1, k2, hd⟩, hR⟩, hpl⟩, hq⟩ := hc
    obtain ⟨hv, hb', h⟩ := enc17_run (mk := mk) (tc := tc) (tx := tx) (pl := pl) ⟨rfl, rfl, rfl, rfl, k1, k2, hd⟩ hpl hR (fun o H' _ => H' = [] ∧ (∃ v, o = .ret v ∧ old 0 v = true ∧ noY v = true) ∧ Q o H) ⟨rfl, ⟨_, rfl, rfl, rfl⟩, hq _ ⟨rfl⟩⟩
    refine ⟨rfl, rfl, _, 1000, ?_, rfl, h⟩
    exact ⟨mixed23, names23, tabA_ok, smS_ok⟩
  · exact hc.elim
end Go.Proofs.YtbchmkhliehbfaaDoor
