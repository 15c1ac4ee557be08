/-
  Chapter 17: valid records; Encode of both.
-/
import Derived.Test.YtiholnebhmjbjaaM17G
set_option linter.unusedSimpArgs false
set_option linter.unusedVariables false
set_option linter.unusedSectionVars false
namespace Go.Proofs.Ytiholnebhmjbjaa
open Go.RowKit
set_option maxRecDepth 1000000

def rightRM (r : Rc) : Bool := decide (0 ≤ r.1 ∧ r.1 ≤ 255) && decide (0 ≤ r.2.1 ∧ r.2.1 ≤ 65535) && decide (0 ≤ r.2.2.1 ∧ r.2.2.1 ≤ 281474976710655) && decide (r.2.2.2.length ≤ 1000)
noncomputable def goal_35 (hv : Nat → Option Pa) (hb : Nat → Option Bool) (a b c : Int) (s : List UInt8) (Q : Out → List Blk → Gh → Prop) : Prop :=
  callx (e04 sm0 (fun _ => none) hv hb) (wpx (e04 sm0 (fun _ => none) hv hb) 1000) 35 [.agg [.int .i64 a, .int .i64 b, .int .i64 c, .str s]] [] {} Q
theorem vc_35 (a : Int) (b : Int) (c : Int) (s : List UInt8) (Q : Out → List Blk → Gh → Prop) : goal_35 (lookV [(143368, .int .i64)]) (lookB []) a b c s Q = (
(bif (decide (a ≥ (0 : Int))) then (bif (decide (a ≤ (255 : Int))) then (bif (decide (b ≥ (0 : Int))) then (bif (decide (b ≤ (65535 : Int))) then (bif (decide (c ≥ (0 : Int))) then (bif (decide (c ≤ (281474976710655 : Int))) then (∃ n_0 : Int, (((AV.int .i64 (Nat.cast (List.length s) : Int)) = (AV.int .i64 n_0)) ∧
 (bif (decide (n_0 ≤ (1000 : Int))) then (Q (Out.ret (AV.bool true)) [] (Gh.mk (0 : Nat) (0 : Nat) []))
else (Q (Out.ret (AV.bool false)) [] (Gh.mk (0 : Nat) (0 : Nat) [])))))
else (Q (Out.ret (AV.bool false)) [] (Gh.mk (0 : Nat) (0 : Nat) [])))
else (Q (Out.ret (AV.bool false)) [] (Gh.mk (0 : Nat) (0 : Nat) [])))
else (Q (Out.ret (AV.bool false)) [] (Gh.mk (0 : Nat) (0 : Nat) [])))
else (Q (Out.ret (AV.bool false)) [] (Gh.mk (0 : Nat) (0 : Nat) [])))
else (Q (Out.ret (AV.bool false)) [] (Gh.mk (0 : Nat) (0 : Nat) [])))
else (Q (Out.ret (AV.bool false)) [] (Gh.mk (0 : Nat) (0 : Nat) [])))) := by kernel_rfl

noncomputable def goal_37 (hv : Nat → Option Pa) (hb : Nat → Option Bool) (a b c : Int) (s : List UInt8) (Q : Out → List Blk → Gh → Prop) : Prop :=
  callx (e04 sm0 (fun _ => none) hv hb) (wpx (e04 sm0 (fun _ => none) hv hb) 1000) 37 [.agg [.int .i64 a, .int .i64 b, .int .i64 c, .str s]] [] {} Q
theorem vc_37 (a : Int) (b : Int) (c : Int) (s : List UInt8) (Q : Out → List Blk → Gh → Prop) : goal_37 (lookV [(151586, .int .i64)]) (lookB []) a b c s Q = (
(bif (decide (a ≥ (0 : Int))) then (bif (decide (a ≤ (255 : Int))) then (bif (decide (b ≥ (0 : Int))) then (bif (decide (b ≤ (65535 : Int))) then (bif (decide (c ≥ (0 : Int))) then (bif (decide (c < (281474976710656 : Int))) then (∃ n_0 : Int, (((AV.int .i64 (Nat.cast (List.length s) : Int)) = (AV.int .i64 n_0)) ∧
 (bif (decide (n_0 ≤ (1000 : Int))) then (Q (Out.ret (AV.bool true)) [] (Gh.mk (0 : Nat) (0 : Nat) []))
else (Q (Out.ret (AV.bool false)) [] (Gh.mk (0 : Nat) (0 : Nat) [])))))
else (Q (Out.ret (AV.bool false)) [] (Gh.mk (0 : Nat) (0 : Nat) [])))
else (Q (Out.ret (AV.bool false)) [] (Gh.mk (0 : Nat) (0 : Nat) [])))
else (Q (Out.ret (AV.bool false)) [] (Gh.mk (0 : Nat) (0 : Nat) [])))
else (Q (Out.ret (AV.bool false)) [] (Gh.mk (0 : Nat) (0 : Nat) [])))
else (Q (Out.ret (AV.bool false)) [] (Gh.mk (0 : Nat) (0 : Nat) [])))
else (Q (Out.ret (AV.bool false)) [] (Gh.mk (0 : Nat) (0 : Nat) [])))) := by kernel_rfl

def cRight : Con
  | [.agg [.int .i64 a, .int .i64 b, .int .i64 c, .str s]], H, K => ∀ x, Lf (x = rightRM (a, b, c, s)) → K (.ret (.bool x)) H
  | _, _, _ => False
def cHead : Con
  | [.agg [.int .i64 a, .int .i64 b, .int .i64 c, .str s], .int .i64 n], H, K => Lf (numsOk (a, b, c, s) ∧ 0 ≤ n ∧ n ≤ 65535) ∧ ∀ t, Lf (t = headM (a, b, c, s) n) → K (.ret (.str t)) H
  | _, _, _ => False
theorem rightM_iff (a b c : Int) (s : List UInt8) : rightRM (a, b, c, s) = true ↔ (0 ≤ a ∧ a ≤ 255) ∧ (0 ≤ b ∧ b ≤ 65535) ∧ (0 ≤ c ∧ c ≤ 281474976710655) ∧ s.length ≤ 1000 := by
  simp [rightRM, and_assoc]
theorem right_run (a b c : Int) (s : List UInt8) (Q : Out → List Blk → Gh → Prop) (hq : Q (.ret (.bool (rightRM (a, b, c, s)))) [] {}) : ∃ hv hb, goal_35 hv hb a b c s Q := by
  obtain ⟨hv, hb', e⟩ : ∃ hv hb, goal_35 hv hb a b c s Q = _ := ⟨_, _, vc_35 a b c s Q⟩
  refine ⟨hv, hb', e.mpr ?_⟩
  clear e
  have hi := rightM_iff a b c s
  have no : ¬ ((0 ≤ a ∧ a ≤ 255) ∧ (0 ≤ b ∧ b ≤ 65535) ∧ (0 ≤ c ∧ c ≤ 281474976710655) ∧ s.length ≤ 1000) → Q (.ret (.bool false)) [] {} := fun h => by
    rwa [show rightRM (a, b, c, s) = false by rw [← Bool.not_eq_true, hi]; exact h] at hq
  refine splitD (fun h1 => splitD (fun h2 => splitD (fun h3 => splitD (fun h4 => splitD (fun h5 => splitD (fun h6 => ⟨_, rfl, splitD (fun h7 => ?_) (fun h => no (by omega))⟩) (fun h => no (by omega))) (fun h => no (by omega))) (fun h => no (by omega))) (fun h => no (by omega))) (fun h => no (by omega))) (fun h => no (by omega))
  rwa [hi.2 (by omega)] at hq
theorem rright_run (a b c : Int) (s : List UInt8) (Q : Out → List Blk → Gh → Prop) (hq : Q (.ret (.bool (rightRM (a, b, c, s)))) [] {}) : ∃ hv hb, goal_37 hv hb a b c s Q := by
  obtain ⟨hv, hb', e⟩ : ∃ hv hb, goal_37 hv hb a b c s Q = _ := ⟨_, _, vc_37 a b c s Q⟩
  refine ⟨hv, hb', e.mpr ?_⟩
  clear e
  have hi := rightM_iff a b c s
  have no : ¬ ((0 ≤ a ∧ a ≤ 255) ∧ (0 ≤ b ∧ b ≤ 65535) ∧ (0 ≤ c ∧ c ≤ 281474976710655) ∧ s.length ≤ 1000) → Q (.ret (.bool false)) [] {} := fun h => by
    rwa [show rightRM (a, b, c, s) = false by rw [← Bool.not_eq_true, hi]; exact h] at hq
  refine splitD (fun h1 => splitD (fun h2 => splitD (fun h3 => splitD (fun h4 => splitD (fun h5 => splitD (fun h6 => ⟨_, rfl, splitD (fun h7 => ?_) (fun h => no (by omega))⟩) (fun h => no (by omega))) (fun h => no (by omega))) (fun h => no (by omega))) (fun h => no (by omega))) (fun h => no (by omega))) (fun h => no (by omega))
  rwa [hi.2 (by omega)] at hq
theorem right_ok : ValidF Try.prog gl0 35 cRight := by
  refine valid_flat (enters_of (by kernel_rfl)) gl0_noY fun args H Q hc => ?_
  unfold cRight at hc
  split at hc
  · rename_i a b c s
    obtain ⟨hv, hb', h⟩ := right_run a b c s (Q := fun o H' _ => H' = [] ∧ (∃ v, o = .ret v ∧ old 0 v = true ∧ noY v = true) ∧ Q o H) ⟨rfl, ⟨_, rfl, rfl, rfl⟩, hc _ ⟨rfl⟩⟩
    exact ⟨rfl, rfl, _, 1000, envFor04 sm0_ok _ _ _, rfl, h⟩
  · exact hc.elim
theorem rright_ok : ValidF Try.prog gl0 37 cRight := by
  refine valid_flat (enters_of (by kernel_rfl)) gl0_noY fun args H Q hc => ?_
  unfold cRight at hc
  split at hc
  · rename_i a b c s
    obtain ⟨hv, hb', h⟩ := rright_run a b c s (Q := fun o H' _ => H' = [] ∧ (∃ v, o = .ret v ∧ old 0 v = true ∧ noY v = true) ∧ Q o H) ⟨rfl, ⟨_, rfl, rfl, rfl⟩, hc _ ⟨rfl⟩⟩
    exact ⟨rfl, rfl, _, 1000, envFor04 sm0_ok _ _ _, rfl, h⟩
  · exact hc.elim
theorem be_len : ∀ n v, (beBM n v).length = n
  | 0, _ => rfl
  | n + 1, v => by rw [beBM, List.length_cons, be_len n v]
theorem head_len (r : Rc) (n : Int) : (headM r n).length = 11 := by
  unfold headM
  simp only [List.length_append, be_len]
theorem head_leaf {a b c : Int} {s : List UInt8} {n : Int} (h : numsOk (a, b, c, s) ∧ 0 ≤ n ∧ n ≤ 65535) (Q : Out → List Blk → Gh → Prop) (hq : Q (.ret (.str (headM (a, b, c, s) n))) [] {}) : goal_36 (lookV [(147467, .str), (147471, .str), (147474, .str)]) (lookB []) a b c s n Q := by
  refine (vc_36 a b c s n Q).mpr ?_
  obtain ⟨⟨h1, h2, h3⟩, h4⟩ := h
  dsimp only at h1 h2 h3
  refine ⟨⟨h1.1, .inl ⟨rfl, h1.2⟩⟩, ?_⟩
  rintro s0 ⟨e0⟩
  refine ckI (by rw [eqAVL_i]; rfl) (ckI (by rw [eqAVL_i]; rfl) ⟨⟨h2.1, .inr (.inl ⟨rfl, h2.2⟩)⟩, ?_⟩)
  rintro s1 ⟨e1⟩
  have l0 : s0.length = 1 := by rw [e0]; exact be_len _ _
  have l1 : s1.length = 2 := by rw [e1]; exact be_len _ _
  refine ckI (by rw [eqAVL_i]; rfl) (ckI (by simp; omega) ⟨_, rfl, ⟨h3.1, .inr (.inr ⟨rfl, h3.2⟩)⟩, ?_⟩)
  rintro s3 ⟨e3⟩
  have l3 : s3.length = 6 := by rw [e3]; exact be_len _ _
  refine ckI (by simp; omega) ⟨_, rfl, ⟨h4.1, .inr (.inl ⟨rfl, h4.2⟩)⟩, ?_⟩
  rintro s5 ⟨e5⟩
  have l5 : s5.length = 2 := by rw [e5]; exact be_len _ _
  refine ckI (by simp; omega) ⟨_, rfl, ?_⟩
  rw [show s0 ++ s1 ++ s3 ++ s5 = headM (a, b, c, s) n by rw [e0, e1, e3, e5]; unfold headM; simp only [List.append_assoc]; rfl]
  exact hq
theorem rhead_leaf {a b c : Int} {s : List UInt8} {n : Int} (h : numsOk (a, b, c, s) ∧ 0 ≤ n ∧ n ≤ 65535) (Q : Out → List Blk → Gh → Prop) (hq : Q (.ret (.str (headM (a, b, c, s) n))) [] {}) : goal_38 (lookV [(155659, .str), (155663, .str), (155666, .str)]) (lookB []) a b c s n Q := by
  refine (vc_38 a b c s n Q).mpr ?_
  obtain ⟨⟨h1, h2, h3⟩, h4⟩ := h
  dsimp only at h1 h2 h3
  refine ⟨⟨h1.1, .inl ⟨rfl, h1.2⟩⟩, ?_⟩
  rintro s0 ⟨e0⟩
  refine ckI (by rw [eqAVL_i]; rfl) (ckI (by rw [eqAVL_i]; rfl) ⟨⟨h2.1, .inr (.inl ⟨rfl, h2.2⟩)⟩, ?_⟩)
  rintro s1 ⟨e1⟩
  have l0 : s0.length = 1 := by rw [e0]; exact be_len _ _
  have l1 : s1.length = 2 := by rw [e1]; exact be_len _ _
  refine ckI (by rw [eqAVL_i]; rfl) (ckI (by simp; omega) ⟨_, rfl, ⟨h3.1, .inr (.inr ⟨rfl, h3.2⟩)⟩, ?_⟩)
  rintro s3 ⟨e3⟩
  have l3 : s3.length = 6 := by rw [e3]; exact be_len _ _
  refine ckI (by simp; omega) ⟨_, rfl, ⟨h4.1, .inr (.inl ⟨rfl, h4.2⟩)⟩, ?_⟩
  rintro s5 ⟨e5⟩
  have l5 : s5.length = 2 := by rw [e5]; exact be_len _ _
  refine ckI (by simp; omega) ⟨_, rfl, ?_⟩
  rw [show s0 ++ s1 ++ s3 ++ s5 = headM (a, b, c, s) n by rw [e0, e1, e3, e5]; unfold headM; simp only [List.append_assoc]; rfl]
  exact hq
theorem head_ok : ValidF Try.prog gl0 36 cHead := by
  refine valid_flat (enters_of (by kernel_rfl)) gl0_noY fun args H Q hc => ?_
  unfold cHead at hc
  split at hc
  · rename_i a b c s n
    obtain ⟨⟨h1⟩, hq⟩ := hc
    exact ⟨rfl, rfl, _, 1000, envFor04 smP_ok _ _ _, rfl, head_leaf h1 (fun o H' _ => H' = [] ∧ (∃ v, o = .ret v ∧ old 0 v = true ∧ noY v = true) ∧ Q o H) ⟨rfl, ⟨_, rfl, rfl, rfl⟩, hq _ ⟨rfl⟩⟩⟩
  · exact hc.elim
theorem rhead_ok : ValidF Try.prog gl0 38 cHead := by
  refine valid_flat (enters_of (by kernel_rfl)) gl0_noY fun args H Q hc => ?_
  unfold cHead at hc
  split at hc
  · rename_i a b c s n
    obtain ⟨⟨h1⟩, hq⟩ := hc
    exact ⟨rfl, rfl, _, 1000, envFor04 smP_ok _ _ _, rfl, rhead_leaf h1 (fun o H' _ => H' = [] ∧ (∃ v, o = .ret v ∧ old 0 v = true ∧ noY v = true) ∧ Q o H) ⟨rfl, ⟨_, rfl, rfl, rfl⟩, hq _ ⟨rfl⟩⟩⟩
  · exact hc.elim

/-! ## Encode -/
def recM (r : Rc) : List UInt8 := headM r r.2.2.2.length ++ r.2.2.2
def catM (l : List Rc) : List UInt8 := l.flatMap recM
def encM (l : List Rc) : List UInt8 × Int := if l = [] then ([], 2) else if l.all rightRM then (if 1200 < (catM l).length then ([], 3) else (catM l, 0)) else ([], 170)
def smH : SM := lookS [(35, cRight), (36, cHead), (37, cRight), (38, cHead)]
theorem smH_ok : ∀ f g, smH f = some g → ValidF Try.prog gl0 f g := lookS_ok _ (by simp only [List.mem_cons, List.not_mem_nil, or_false, forall_eq_or_imp, forall_eq]; exact ⟨right_ok, head_ok, rright_ok, rhead_ok⟩)
def inv_13 (tg : Nat) (l : List Rc) : LInv where
  α := Nat × List UInt8
  pre x := Lf (x.1 ≤ l.length ∧ (l.take x.1).all rightRM = true ∧ x.2.length ≤ 2211 ∧ (x.2 = catM (l.take x.1) ∨ (1200 < x.2.length ∧ 1200 < (catM (l.take x.1)).length)))
  st x := ⟨mkT [(4, .str x.2), (10, .lst tg (cellsRM l) l.length 4), (11, .int .i64 (l.length : Nat)), (12, .int .i64 (x.1 : Nat))], []⟩
  mu x := l.length - x.1
noncomputable def env_13 (hv : Nat → Option Pa) (hb : Nat → Option Bool) (tg : Nat) (l : List Rc) : Env :=
  e04 smH (fun i => bif Nat.beq i 13000 then some (fun _ => [[inv_13 tg l]]) else none) hv hb
noncomputable def goal_13 (hv : Nat → Option Pa) (hb : Nat → Option Bool) (tg : Nat) (l : List Rc) (Q : Out → List Blk → Gh → Prop) : Prop :=
  callx (env_13 hv hb tg l) (wpx (env_13 hv hb tg l) 1000) 13 [.lst tg (cellsRM l) l.length 4] [] {} Q
theorem vc_13 (tg : Nat) (l : List Rc) (Q : Out → List Blk → Gh → Prop) : goal_13 (lookV [(53256, .int .i64), (53259, .int .i64), (53263, .agg [.int .i64, .int .i64, .int .i64, .str]), (53268, .int .i64), (53274, .int .i64), (53278, .str),
 (53279, .str), (53280, .int .i64), (53282, .int .i64)]) (lookB []) tg l Q = (exI .i64 (l.length : Int) fun n_0 => bif n_0 == 0 then Q (.ret (.tup [.str [], .int .i64 2])) [] {} else exI .i64 (l.length : Int) fun n_1 => (∃ x_2 : Nat × List
 UInt8, Lf (x_2.1 ≤ l.length ∧ List.all (l.take x_2.1) rightRM = true ∧ x_2.2.length ≤ 2211 ∧ (x_2.2 = catM (l.take x_2.1) ∨ 1200 < x_2.2.length ∧ 1200 < (catM (l.take x_2.1)).length)) ∧ AV.int .i64 n_1 = AV.int .i64 (l.length : Int) ∧
 AV.str [] = AV.str x_2.2 ∧ AV.int .i64 0 = AV.int .i64 (x_2.1 : Int) ∧ eqqQ (AV.lst tg (cellsRM l) l.length 4) ∧ True) ∧ ∀ x_2 : Nat × List UInt8, Lf (x_2.1 ≤ l.length ∧ List.all (l.take x_2.1) rightRM = true ∧ x_2.2.length ≤ 2211 ∧ (x_2.2
 = catM (l.take x_2.1) ∨ 1200 < x_2.2.length ∧ 1200 < (catM (l.take x_2.1)).length)) → bif decide ((x_2.1 : Int) < (l.length : Int)) then ckQ (Nat.blt (x_2.1 : Int).toNat l.length && true) (ckQ (Nat.ble ((x_2.1 : Int).toNat * 4 + 4)
 (cellsRM l).length) (∃ n_3 n_4 n_5 s_6, AV.agg (((cellsRM l).drop ((x_2.1 : Int).toNat * 4)).take 4) = AV.agg [.int .i64 n_3, .int .i64 n_4, .int .i64 n_5, .str s_6] ∧ ∀ x_7 : Bool, Lf (x_7 = rightRM (Prod.mk n_3 (Prod.mk n_4 (Prod.mk n_5
 s_6)))) → bif x_7 then exI .i64 (x_2.2.length : Int) fun n_8 => bif decide (n_8 ≤ 1200) then exI .i64 (s_6.length : Int) fun n_9 => Lf (numsOk (Prod.mk n_3 (Prod.mk n_4 (Prod.mk n_5 s_6))) ∧ 0 ≤ n_9 ∧ n_9 ≤ 65535) ∧ ∀ t_10 : List UInt8, Lf
 (t_10 = headM (Prod.mk n_3 (Prod.mk n_4 (Prod.mk n_5 s_6))) n_9) → ckQ (eqAVL [.str s_6] [.str s_6] && true) (ckQ (decide (t_10.length + s_6.length ≤ 9223372036854775807) && true) (exS (.str (t_10 ++ s_6)) fun s_11 => ckQ (decide
 (x_2.2.length + s_11.length ≤ 9223372036854775807) && true) (exS (.str (x_2.2 ++ s_11)) fun s_12 => exW .i64 ((x_2.1 : Int) + 1) fun n_13 => (True ∧ (0 : Nat) = (0 : Nat)) ∧ ∃ y_14 : Nat × List UInt8, Lf (y_14.1 ≤ l.length ∧ List.all
 (l.take y_14.1) rightRM = true ∧ y_14.2.length ≤ 2211 ∧ (y_14.2 = catM (l.take y_14.1) ∨ 1200 < y_14.2.length ∧ 1200 < (catM (l.take y_14.1)).length)) ∧ l.length - y_14.1 < l.length - x_2.1 ∧ eqqQ (AV.int .i64 (l.length : Int)) ∧ AV.str
 s_12 = AV.str y_14.2 ∧ AV.int .i64 n_13 = AV.int .i64 (y_14.1 : Int) ∧ eqqQ (AV.lst tg (cellsRM l) l.length 4) ∧ True))) else exW .i64 ((x_2.1 : Int) + 1) fun n_9 => (True ∧ (0 : Nat) = (0 : Nat)) ∧ ∃ y_10 : Nat × List UInt8, Lf (y_10.1 ≤
 l.length ∧ List.all (l.take y_10.1) rightRM = true ∧ y_10.2.length ≤ 2211 ∧ (y_10.2 = catM (l.take y_10.1) ∨ 1200 < y_10.2.length ∧ 1200 < (catM (l.take y_10.1)).length)) ∧ l.length - y_10.1 < l.length - x_2.1 ∧ eqqQ (AV.int .i64 (l.length
 : Int)) ∧ AV.str x_2.2 = AV.str y_10.2 ∧ AV.int .i64 n_9 = AV.int .i64 (y_10.1 : Int) ∧ eqqQ (AV.lst tg (cellsRM l) l.length 4) ∧ True else Q (.ret (.tup [.str [], .int .i64 170])) [] {})) else exI .i64 (x_2.2.length : Int) fun n_3 => bif
 decide (n_3 > 1200) then Q (.ret (.tup [.str [], .int .i64 3])) [] {} else Q (.ret (.tup [.str x_2.2, .int .i64 0])) [] {}) := by kernel_rfl

theorem cellsR_drop : ∀ (l : List Rc) (i : Nat), (cellsRM l).drop (i * 4) = cellsRM (l.drop i)
  | l, 0 => by simp
  | [], i + 1 => by simp [cellsRM]
  | x :: l, i + 1 => by
    rw [List.drop_succ_cons, ← cellsR_drop l i, cellsRM, Nat.succ_mul, Nat.add_comm, ← List.drop_drop]
    rfl
theorem cellsR_at {l : List Rc} {i m : Nat} (hi : i < l.length) (hm : m = i * 4) : List.take 4 (List.drop m (cellsRM l)) = rcM l[i] := by
  subst hm
  rw [cellsR_drop, List.drop_eq_getElem_cons hi]
  rfl
theorem getR {l : List Rc} {i m : Nat} {a b c : Int} {s : List UInt8} (hi : i < l.length) (hr : l[i] = (a, b, c, s)) (hm : m = i * 4) {K : Int → Int → Int → List UInt8 → Prop} (hk : K a b c s) :
    ∃ (x y z : Int) (t : List UInt8), AV.agg (List.take 4 (List.drop m (cellsRM l))) = AV.agg [.int .i64 x, .int .i64 y, .int .i64 z, .str t] ∧ K x y z t :=
  ⟨a, b, c, s, by rw [cellsR_at hi hm, hr]; rfl, hk⟩
theorem rec_len (r : Rc) : (recM r).length = 11 + r.2.2.2.length := by rw [recM, List.length_append, head_len]
theorem take_snoc {l : List Rc} {i : Nat} (hi : i < l.length) : l.take (i + 1) = l.take i ++ [l[i]] := by
  rw [List.take_add_one, List.getElem?_eq_getElem hi]; rfl
theorem cat_snoc {l : List Rc} {i : Nat} (hi : i < l.length) : catM (l.take (i + 1)) = catM (l.take i) ++ recM l[i] := by
  rw [take_snoc hi, catM, List.flatMap_append]
  simp [catM]
theorem all_snoc {l : List Rc} {i : Nat} (hi : i < l.length) (h : (l.take i).all rightRM = true) (hr : rightRM l[i] = true) : (l.take (i + 1)).all rightRM = true := by
  rw [take_snoc hi, List.all_append, h]
  simp [hr]
theorem enc_bad {l : List Rc} {i : Nat} (hi : i < l.length) (hr : rightRM l[i] = false) : encM l = ([], 170) := by
  have hne : l ≠ [] := by rintro rfl; simp at hi
  have : l.all rightRM = false := by
    rw [← Bool.not_eq_true, List.all_eq_true]
    intro h
    rw [h _ (List.getElem_mem hi)] at hr
    cases hr
  rw [encM, if_neg hne, this]
  rfl
theorem encode_run (tg : Nat) (l : List Rc) (hl : l.length ≤ 100) (Q : Out → List Blk → Gh → Prop) (hq : ∀ s e, encM l = (s, e) → Q (.ret (.tup [.str s, .int .i64 e])) [] {}) : ∃ hv hb, goal_13 hv hb tg l Q := by
  obtain ⟨hv, hb', e⟩ : ∃ hv hb, goal_13 hv hb tg l Q = _ := ⟨_, _, vc_13 tg l Q⟩
  refine ⟨hv, hb', e.mpr ?_⟩
  clear e
  refine ⟨_, rfl, splitE (fun h => hq [] 2 (by rw [encM, if_pos (List.length_eq_zero_iff.1 (by omega))])) (fun h => ?_)⟩
  have hne : l ≠ [] := by rintro rfl; exact h rfl
  refine ⟨_, rfl, ⟨(0, []), ⟨by simp, rfl, by simp, .inl rfl⟩, rfl, rfl, rfl, rfl, trivial⟩, ?_⟩
  rintro ⟨i, s⟩ ⟨h1, h2, h3, h4⟩
  dsimp only at h1 h2 h3 h4 ⊢
  have hcl := cellsR_len l
  refine splitD (fun h5 => ?_) (fun h5 => ?_)
  · have hi : i < l.length := by omega
    obtain ⟨⟨a, b, c, t⟩, hR⟩ : ∃ r, l[i] = r := ⟨_, rfl⟩
    refine ckI (by first | (simp only [Bool.and_eq_true, Bool.and_true, Bool.true_and, decide_eq_true_eq, blt_iff, Nat.ble_eq, nbeq, cellsI_len,  List.length_append, List.length_cons, List.length_nil, Int.toNat_natCast, and_true, true_and, Bool.or_eq_true, Bool.not_eq_true', bne_iff_ne, ne_eq]; done) | (simp only [Bool.and_eq_true, Bool.and_true, Bool.true_and, decide_eq_true_eq, blt_iff, Nat.ble_eq, nbeq, cellsI_len,  List.length_append, List.length_cons, List.length_nil, Int.toNat_natCast, and_true, true_and, Bool.or_eq_true, Bool.not_eq_true', bne_iff_ne, ne_eq]; omega) | rfl | (simp; done) | (simp; omega)) (ckI (by rw [hcl]; simp; omega) (getR hi hR (by simp) ?_))
    rintro x ⟨rfl⟩
    cases hr : rightRM (a, b, c, t) with
    | false => exact hq _ _ (enc_bad hi (by rw [hR]; exact hr))
    | true =>
      rw [cond_true]
      obtain ⟨r1, r2, r3, r4⟩ := (rightM_iff a b c t).1 hr
      have hall := all_snoc hi h2 (by rw [hR]; exact hr)
      have hcat := cat_snoc hi
      rw [hR] at hcat
      have hrl : (recM (a, b, c, t)).length = 11 + t.length := rec_len _
      have hcl2 : (catM (l.take (i + 1))).length = (catM (l.take i)).length + (11 + t.length) := by rw [hcat, List.length_append, hrl]
      refine ⟨_, rfl, splitD (fun h6 => ⟨_, rfl, ⟨⟨r1, r2, r3⟩, by omega, by omega⟩, ?_⟩) (fun h6 => ?_)⟩
      · rintro t0 ⟨e0⟩
        have l0 : t0.length = 11 := by rw [e0]; exact head_len _ _
        have hs : s = catM (l.take i) := by
          rcases h4 with h | h
          · exact h
          · omega
        refine ckI (by rw [eqAVL_s]; rfl) (ckI (by simp; omega) ⟨_, rfl, ckI (by simp; omega) ⟨_, rfl, wrapI (by omega) (by omega) ⟨⟨trivial, rfl⟩, (i + 1, s ++ (t0 ++ t)), ⟨by dsimp only; omega, hall, ?_, .inl ?_⟩, by dsimp only; omega, rfl, rfl, rfl, rfl, trivial⟩⟩⟩)
        · simp only [List.length_append]; omega
        · dsimp only
          rw [hcat, hs, recM, e0]
      · refine wrapI (by omega) (by omega) ⟨⟨trivial, rfl⟩, (i + 1, s), ⟨by dsimp only; omega, hall, h3, .inr ?_⟩, by dsimp only; omega, rfl, rfl, rfl, rfl, trivial⟩
        dsimp only
        rcases h4 with h | h
        · rw [← h] at hcl2; omega
        · omega
  · have hi : l.take i = l := List.take_of_length_le (by omega)
    rw [hi] at h2 h4
    refine ⟨_, rfl, splitD (fun h6 => hq [] 3 ?_) (fun h6 => hq s 0 ?_)⟩
    · rw [encM, if_neg hne, if_pos h2, if_pos]
      rcases h4 with h | h
      · rw [← h]; omega
      · omega
    · have hs : s = catM l := by
        rcases h4 with h | h
        · exact h
        · omega
      rw [encM, if_neg hne, if_pos h2, if_neg (by rw [← hs]; omega), hs]
def cEnc : Con
  | [.lst _ cs n 4], H, K => ∃ l : List Rc, Lf (cs = cellsRM l ∧ n = l.length ∧ l.length ≤ 100) ∧ ∀ s e, Lf (encM l = (s, e)) → K (.ret (.tup [.str s, .int .i64 e])) H
  | _, _, _ => False
theorem enc_ok : ValidF Try.prog gl0 13 cEnc := by
  refine valid_flat (enters_of (by kernel_rfl)) gl0_noY fun args H Q hc => ?_
  unfold cEnc at hc
  split at hc
  · rename_i tg cs n
    obtain ⟨l, ⟨rfl, rfl, h1⟩, hq⟩ := hc
    obtain ⟨hv, hb', h⟩ := encode_run tg l h1 (Q := fun o H' _ => H' = [] ∧ (∃ v, o = .ret v ∧ old 0 v = true ∧ noY v = true) ∧ Q o H) (fun s e he => ⟨rfl, ⟨_, rfl, rfl, rfl⟩, hq _ _ ⟨he⟩⟩)
    exact ⟨by simp [oldL, old, cellsR_old], by simp [noYL, noY], _, 1000, envFor04 smH_ok _ _ _, rfl, h⟩
  · exact hc.elim
end Go.Proofs.Ytiholnebhmjbjaa
