/-
  Chapter 4: SealTags.
-/
import Derived.Test.YtlfbaakndklncaaS04RF
set_option linter.unusedSimpArgs false
set_option linter.unusedVariables false
set_option linter.unusedSectionVars false
namespace Go.Proofs.Ytlfbaakndklncaa
open Go.RowKit
set_option maxRecDepth 1000000

def cTagR : Con
  | [.str key, .str s], H, K => Lf (key.length = 32 ∧ s.length ≤ 100000) ∧ ∀ t, Lf (t = tagM key s) → K (.ret (.str t)) H
  | _, _, _ => False
theorem rtag_ok : ValidF Try.prog gl0 13 cTagR := by
  refine valid_flat (enters_of (by kernel_rfl)) gl0_noY fun args H Q hc => ?_
  unfold cTagR at hc
  split at hc
  · rename_i key s
    obtain ⟨⟨h1, h2⟩, hq⟩ := hc
    obtain ⟨hv, hb', h⟩ := rtag_run key s h1 h2 (Q := fun o H' _ => H' = [] ∧ (∃ v, o = .ret v ∧ old 0 v = true ∧ noY v = true) ∧ Q o H) ⟨rfl, ⟨_, rfl, rfl, rfl⟩, hq _ ⟨rfl⟩⟩
    exact ⟨rfl, rfl, _, 1000, envFor_13 _ _, rfl, h⟩
  · exact hc.elim
/-! ## cut and told -/
noncomputable def goal_11 (hv : Nat → Option Pa) (hb : Nat → Option Bool) (s : List UInt8) (n : Int) (Q : Out → List Blk → Gh → Prop) : Prop :=
  callx (e04 sm0 (fun _ => none) hv hb) (wpx (e04 sm0 (fun _ => none) hv hb) 1000) 11 [.str s, .int .i64 n] [] {} Q
theorem vc_11 (s : List UInt8) (n : Int) (Q : Out → List Blk → Gh → Prop) : goal_11 (lookV [(45063, .int .i64), (45065, .int .i64), (45066, .str)]) (lookB []) s n Q = (
(∃ n_0 : Int, (((AV.int .i64 (Nat.cast (List.length s) : Int)) = (AV.int .i64 n_0)) ∧
 (∃ n_1 : Int, (((AV.int .i64 (imin n_0 n)) = (AV.int .i64 n_1)) ∧
 (bif (((decide ((0 : Int) ≤ n_1)) && true) && (Nat.ble (Int.toNat n_1) (List.length s))) then (∃ s_2 : (List UInt8), (((AV.str (List.take ((Int.toNat n_1) - (0 : Nat)) (List.drop (0 : Nat) s))) = (AV.str s_2)) ∧
 (Q (Out.ret (AV.str s_2)) [] (Gh.mk (0 : Nat) (0 : Nat) []))))
else False)))))) := by kernel_rfl

noncomputable def goal_15 (hv : Nat → Option Pa) (hb : Nat → Option Bool) (v : List UInt8) (e no : Int) (w : List UInt8) (Q : Out → List Blk → Gh → Prop) : Prop :=
  callx (e04 sm0 (fun _ => none) hv hb) (wpx (e04 sm0 (fun _ => none) hv hb) 1000) 15 [.str v, .int .i64 e, .int .i64 no, .str w] [] {} Q
theorem vc_15 (v : List UInt8) (e : Int) (no : Int) (w : List UInt8) (Q : Out → List Blk → Gh → Prop) : goal_15 (lookV []) (lookB []) v e no w Q = (
(bif (no != (0 : Int)) then (bif (eqB v []) then (bif (e == no) then (Q (Out.ret (AV.bool true)) [] (Gh.mk (0 : Nat) (0 : Nat) []))
else (Q (Out.ret (AV.bool false)) [] (Gh.mk (0 : Nat) (0 : Nat) [])))
else (Q (Out.ret (AV.bool false)) [] (Gh.mk (0 : Nat) (0 : Nat) [])))
else (bif (eqB v w) then (bif (e == (0 : Int)) then (Q (Out.ret (AV.bool true)) [] (Gh.mk (0 : Nat) (0 : Nat) []))
else (Q (Out.ret (AV.bool false)) [] (Gh.mk (0 : Nat) (0 : Nat) [])))
else (Q (Out.ret (AV.bool false)) [] (Gh.mk (0 : Nat) (0 : Nat) []))))) := by kernel_rfl

def cCut : Con
  | [.str s, .int .i64 n], H, K => Lf (0 ≤ n ∧ s.length ≤ 9223372036854775807) ∧ ∀ t, Lf (t = s.take n.toNat) → K (.ret (.str t)) H
  | _, _, _ => False
def toldM (v : List UInt8) (e no : Int) (w : List UInt8) : Bool := if no ≠ 0 then eqB v [] && decide (e = no) else eqB v w && decide (e = 0)
def cTold : Con
  | [.str v, .int .i64 e, .int .i64 no, .str w], H, K => ∀ b, Lf (b = toldM v e no w) → K (.ret (.bool b)) H
  | _, _, _ => False
theorem cut_ok : ValidF Try.prog gl0 11 cCut := by
  refine valid_flat (enters_of (by kernel_rfl)) gl0_noY fun args H Q hc => ?_
  unfold cCut at hc
  split at hc
  · rename_i s n
    obtain ⟨⟨h1, h2⟩, hq⟩ := hc
    obtain ⟨m, rfl⟩ := Int.eq_ofNat_of_zero_le h1
    obtain ⟨hv, hb', e⟩ : ∃ hv hb, goal_11 hv hb s (m : Nat) (fun o H' _ => H' = [] ∧ (∃ v, o = .ret v ∧ old 0 v = true ∧ noY v = true) ∧ Q o H) = _ := ⟨_, _, vc_11 s (m : Nat) _⟩
    refine ⟨rfl, rfl, _, 1000, envFor04 sm0_ok _ hv hb', rfl, e.mpr ?_⟩
    refine ⟨_, rfl, _, rfl, ?_⟩
    rw [imin_nat]
    refine ckI (by simp; omega) ⟨_, rfl, ⟨rfl, ⟨_, rfl, rfl, rfl⟩, hq _ ⟨?_⟩⟩⟩
    rw [List.drop_zero, Int.toNat_natCast, Int.toNat_natCast, Nat.sub_zero, List.take_eq_take_iff]
    omega
  · exact hc.elim
theorem told_ok : ValidF Try.prog gl0 15 cTold := by
  refine valid_flat (enters_of (by kernel_rfl)) gl0_noY fun args H Q hc => ?_
  unfold cTold at hc
  split at hc
  · rename_i v e no w
    have hq := hc
    obtain ⟨hv, hb', h⟩ : ∃ hv hb, goal_15 hv hb v e no w (fun o H' _ => H' = [] ∧ (∃ v, o = .ret v ∧ old 0 v = true ∧ noY v = true) ∧ Q o H) = _ := ⟨_, _, vc_15 v e no w _⟩
    refine ⟨rfl, rfl, _, 1000, envFor04 sm0_ok _ hv hb', rfl, h.mpr ?_⟩
    have hr : ∀ b, toldM v e no w = b → [] = ([] : List Blk) ∧ (∃ v, Out.ret (.bool b) = .ret v ∧ old 0 v = true ∧ noY v = true) ∧ Q (.ret (.bool b)) H := fun b h => ⟨rfl, ⟨_, rfl, rfl, rfl⟩, hq b ⟨h.symm⟩⟩
    refine splitNE (fun h1 => ?_) (fun h1 => ?_)
    · cases h2 : eqB v [] with
      | false => exact hr false (by rw [toldM, if_pos h1, h2]; rfl)
      | true => exact splitE (fun h3 => hr true (by rw [toldM, if_pos h1, h2, decide_eq_true h3]; rfl)) (fun h3 => hr false (by rw [toldM, if_pos h1, h2, decide_eq_false h3]; rfl))
    · cases h2 : eqB v w with
      | false => exact hr false (by rw [toldM, if_neg (by simp [h1]), h2]; rfl)
      | true => exact splitE (fun h3 => hr true (by rw [toldM, if_neg (by simp [h1]), h2, decide_eq_true h3]; rfl)) (fun h3 => hr false (by rw [toldM, if_neg (by simp [h1]), h2, decide_eq_false h3]; rfl))
  · exact hc.elim
/-! ## the law -/
def inv_3g (s : S) : List (List LInv) := match s.tm.get 33, s.hp with
  | .int _ n, [⟨k, f, _⟩] => [[{ α := Nat × List UInt8, pre := fun x => Lf ((x.2.length : Int) = n ∧ x.1 ≤ x.2.length), st := fun x => ⟨mkT [(0, s.tm.get 0), (1, s.tm.get 1), (2, s.tm.get 2), (10, s.tm.get 10), (33, s.tm.get 33), (34, .int .i64 (x.1 : Nat))], [⟨k, f, ofBytes x.2⟩]⟩, mu := fun x => n.toNat - x.1 }]]
  | _, _ => []
def famK (sl : List (Nat × AV)) (ix m : Nat) (hp : List Blk) (c : Nat) : LInv := { α := Nat, pre := fun x => Lf (x = 0), st := fun _ => ⟨mkT ((ix, .int .i64 (.ofNat c)) :: sl), hp⟩, mu := fun _ => m - c }
def famH (s : S) (k : AV) (c : Nat) : LInv := { α := List UInt8 × List UInt8, pre := fun x => Lf (x.1.length = 32 ∧ x.2.length ≤ 100000), st := fun x => ⟨mkT [(59, .int .i64 (.ofNat c)), (1, s.tm.get 1), (2, s.tm.get 2), (12, .str x.2), (58, .agg [k, .str x.1])], s.hp⟩, mu := fun _ => 2 - c }
def inv_3h (s : S) : List (List LInv) := match s.tm.get 58 with
  | .agg [k, _] => [[famH s k 0, famH s k 1, famH s k 2]]
  | _ => []
def inv_3i (s : S) : List (List LInv) := (fun sl => [[famK sl 69 3 s.hp 0, famK sl 69 3 s.hp 1, famK sl 69 3 s.hp 2, famK sl 69 3 s.hp 3]]) [(1, s.tm.get 1), (2, s.tm.get 2), (12, s.tm.get 12), (14, s.tm.get 14), (58, s.tm.get 58), (59, s.tm.get 59), (68, s.tm.get 68)]
def smG3 : SM := lookS [(10, cTrue), (11, cCut), (12, cSized), (13, cTagR), (14, cTagS), (15, cTold)]
theorem smG3_ok : ∀ f g, smG3 f = some g → ValidF Try.prog gl0 f g := lookS_ok _ (by simp only [List.mem_cons, List.not_mem_nil, or_false, forall_eq_or_imp, forall_eq]; exact ⟨works_ok, cut_ok, sized_ok, rtag_ok, tagS_ok, told_ok⟩)
noncomputable def env_3 (hv : Nat → Option Pa) (hb : Nat → Option Bool) : Env := e04 smG3 (fun i => bif Nat.beq i 3000 then some inv_3g else bif Nat.beq i 3002 then some inv_3h else bif Nat.beq i 3004 then some inv_3i else none) hv hb
noncomputable def goal_3 (hv : Nat → Option Pa) (hb : Nat → Option Bool) (key s : List UInt8) (n : Int) (g : Bool) (Q : Out → List Blk → Gh → Prop) : Prop :=
  callx (env_3 hv hb) (wpx (env_3 hv hb) 1000) 3 [.str key, .str s, .int .u16 n, .bool g] [] {} Q
def loopA (n : Int) (t_2 : List UInt8) (x_4 : Nat × List UInt8) (t_1 : List UInt8) (t_0 : List UInt8) (Q : Out → List Blk → Gh → Prop) : Prop :=
(∀ x_11 : List UInt8 × List UInt8, Lf (x_11.1.length = 32 ∧ x_11.2.length ≤ 100000) → exW IntKind.i64 n fun n_12 => exI IntKind.i64 (n_12.tmod 100) fun n_13 => Lf (0 ≤ n_13 ∧ n_13 ≤ 100000 ∧ List.length [255] ≤ 100000) ∧ ∀ t_14 : List
 UInt8, Lf (t_14 = sizedM [255] n_13.toNat) → ((∃ x_15 : Nat, Lf (x_15 = 0) ∧ ckQ (oldL 0 (ofBytes t_2) == oldL 0 (ofBytes t_2)) (eqqQ (ofBytes x_4.2) ∧ eqqQ (AV.str t_1) ∧ eqqQ (AV.int .i64 0) ∧ eqqQ (AV.int .i64 0) ∧ eqqQ
 (AV.int .u16 n) ∧ eqqQ (AV.str x_11.2) ∧ eqqQ (AV.agg [.str t_1, .str x_11.2, .str t_14]) ∧ eqqQ (AV.agg [.str t_0, .str x_11.1]) ∧ eqqQ (AV.str t_0) ∧ True)) ∨ (∃ x_15 : Nat, Lf (x_15 = 0) ∧ ckQ (oldL 0 (ofBytes t_2) == oldL 0
 (ofBytes t_2)) (eqqQ (ofBytes x_4.2) ∧ eqqQ (AV.str t_1) ∧ eqqQ (AV.int .i64 0) ∧ AV.int .i64 0 = AV.int .i64 1 ∧ eqqQ (AV.int .u16 n) ∧ eqqQ (AV.str x_11.2) ∧ eqqQ (AV.agg [.str t_1, .str x_11.2, .str t_14]) ∧
 eqqQ (AV.agg [.str t_0, .str x_11.1]) ∧ eqqQ (AV.str t_0) ∧ True)) ∨ (∃ x_15 : Nat, Lf (x_15 = 0) ∧ ckQ (oldL 0 (ofBytes t_2) == oldL 0 (ofBytes t_2)) (eqqQ (ofBytes x_4.2) ∧ eqqQ (AV.str t_1) ∧ eqqQ (AV.int .i64 0) ∧ AV.int
 IntKind.i64 0 = AV.int .i64 2 ∧ eqqQ (AV.int .u16 n) ∧ eqqQ (AV.str x_11.2) ∧ eqqQ (AV.agg [.str t_1, .str x_11.2, .str t_14]) ∧ eqqQ (AV.agg [.str t_0, .str x_11.1]) ∧ eqqQ (AV.str t_0) ∧ True)) ∨ ∃ x_15 : Nat, Lf (x_15 = 0)
 ∧ ckQ (oldL 0 (ofBytes t_2) == oldL 0 (ofBytes t_2)) (eqqQ (ofBytes x_4.2) ∧ eqqQ (AV.str t_1) ∧ eqqQ (AV.int .i64 0) ∧ AV.int .i64 0 = AV.int .i64 3 ∧ eqqQ (AV.int .u16 n) ∧ eqqQ (AV.str x_11.2) ∧ eqqQ (AV.agg
 [.str t_1, .str x_11.2, .str t_14]) ∧ eqqQ (AV.agg [.str t_0, .str x_11.1]) ∧ eqqQ (AV.str t_0) ∧ True)) ∧ (∀ x_15 : Nat, Lf (x_15 = 0) → exI IntKind.i64 (t_0.length : Int) fun n_16 => bif n_16 != 32 then ∀ t_17 : List UInt8, ∀ e_18 : Int,
 Lf (tagSM t_0 t_1 = Prod.mk t_17 e_18) → ∀ b_19 : Bool, Lf (b_19 = toldM t_17 e_18 2 []) → bif b_19 then ((oldL 0 (ofBytes t_2) || oldL 1 (ofBytes x_4.2)) && true) = true ∧ (True ∧ (0 : Nat) = (0 : Nat)) ∧ ((∃ y_20 : Nat, Lf
 (y_20 = 0) ∧ (3 : Nat) < (3 : Nat) ∧ ckQ (oldL 0 (ofBytes t_2) == oldL 0 (ofBytes t_2)) (eqqQ (ofBytes x_4.2) ∧ eqqQ (AV.str t_1) ∧ eqqQ (AV.int .i64 0) ∧ AV.int .i64 1 = AV.int .i64 0 ∧ eqqQ (AV.int .u16 n) ∧
 eqqQ (AV.str x_11.2) ∧ eqqQ (AV.agg [.str t_1, .str x_11.2, .str t_14]) ∧ eqqQ (AV.agg [.str t_0, .str x_11.1]) ∧ eqqQ (AV.str t_0) ∧ True)) ∨ (∃ y_20 : Nat, Lf (y_20 = 0) ∧ (2 : Nat) < (3 : Nat) ∧ ckQ (oldL 0 (ofBytes t_2) == oldL 0
 (ofBytes t_2)) (eqqQ (ofBytes x_4.2) ∧ eqqQ (AV.str t_1) ∧ eqqQ (AV.int .i64 0) ∧ eqqQ (AV.int .i64 1) ∧ eqqQ (AV.int .u16 n) ∧ eqqQ (AV.str x_11.2) ∧ eqqQ (AV.agg [.str t_1, .str x_11.2, .str t_14]) ∧ eqqQ (AV.agg
 [.str t_0, .str x_11.1]) ∧ eqqQ (AV.str t_0) ∧ True)) ∨ (∃ y_20 : Nat, Lf (y_20 = 0) ∧ (1 : Nat) < (3 : Nat) ∧ ckQ (oldL 0 (ofBytes t_2) == oldL 0 (ofBytes t_2)) (eqqQ (ofBytes x_4.2) ∧ eqqQ (AV.str t_1) ∧ eqqQ (AV.int .i64 0) ∧
 AV.int .i64 1 = AV.int .i64 2 ∧ eqqQ (AV.int .u16 n) ∧ eqqQ (AV.str x_11.2) ∧ eqqQ (AV.agg [.str t_1, .str x_11.2, .str t_14]) ∧ eqqQ (AV.agg [.str t_0, .str x_11.1]) ∧ eqqQ (AV.str t_0) ∧ True)) ∨ ∃ y_20 : Nat, Lf
 (y_20 = 0) ∧ (0 : Nat) < (3 : Nat) ∧ ckQ (oldL 0 (ofBytes t_2) == oldL 0 (ofBytes t_2)) (eqqQ (ofBytes x_4.2) ∧ eqqQ (AV.str t_1) ∧ eqqQ (AV.int .i64 0) ∧ AV.int .i64 1 = AV.int .i64 3 ∧ eqqQ (AV.int .u16 n) ∧
 eqqQ (AV.str x_11.2) ∧ eqqQ (AV.agg [.str t_1, .str x_11.2, .str t_14]) ∧ eqqQ (AV.agg [.str t_0, .str x_11.1]) ∧ eqqQ (AV.str t_0) ∧ True)) else Q (.ret (.bool false)) [] {} else exI IntKind.i64 (t_1.length : Int) fun n_17 => bif
 decide (n_17 > 4096) then ∀ t_18 : List UInt8, ∀ e_19 : Int, Lf (tagSM t_0 t_1 = Prod.mk t_18 e_19) → ∀ b_20 : Bool, Lf (b_20 = toldM t_18 e_19 3 []) → bif b_20 then ((oldL 0 (ofBytes t_2) || oldL 1 (ofBytes x_4.2)) && true) =
 true ∧ (True ∧ (0 : Nat) = (0 : Nat)) ∧ ((∃ y_21 : Nat, Lf (y_21 = 0) ∧ (3 : Nat) < (3 : Nat) ∧ ckQ (oldL 0 (ofBytes t_2) == oldL 0 (ofBytes t_2)) (eqqQ (ofBytes x_4.2) ∧ eqqQ (AV.str t_1) ∧ eqqQ (AV.int .i64 0) ∧ AV.int
 IntKind.i64 1 = AV.int .i64 0 ∧ eqqQ (AV.int .u16 n) ∧ eqqQ (AV.str x_11.2) ∧ eqqQ (AV.agg [.str t_1, .str x_11.2, .str t_14]) ∧ eqqQ (AV.agg [.str t_0, .str x_11.1]) ∧ eqqQ (AV.str t_0) ∧ True)) ∨ (∃ y_21 : Nat, Lf (y_21 =
 0) ∧ (2 : Nat) < (3 : Nat) ∧ ckQ (oldL 0 (ofBytes t_2) == oldL 0 (ofBytes t_2)) (eqqQ (ofBytes x_4.2) ∧ eqqQ (AV.str t_1) ∧ eqqQ (AV.int .i64 0) ∧ eqqQ (AV.int .i64 1) ∧ eqqQ (AV.int .u16 n) ∧ eqqQ (AV.str x_11.2) ∧
 eqqQ (AV.agg [.str t_1, .str x_11.2, .str t_14]) ∧ eqqQ (AV.agg [.str t_0, .str x_11.1]) ∧ eqqQ (AV.str t_0) ∧ True)) ∨ (∃ y_21 : Nat, Lf (y_21 = 0) ∧ (1 : Nat) < (3 : Nat) ∧ ckQ (oldL 0 (ofBytes t_2) == oldL 0 (ofBytes t_2)) (eqqQ
 (ofBytes x_4.2) ∧ eqqQ (AV.str t_1) ∧ eqqQ (AV.int .i64 0) ∧ AV.int .i64 1 = AV.int .i64 2 ∧ eqqQ (AV.int .u16 n) ∧ eqqQ (AV.str x_11.2) ∧ eqqQ (AV.agg [.str t_1, .str x_11.2, .str t_14]) ∧ eqqQ (AV.agg [.str
 t_0, .str x_11.1]) ∧ eqqQ (AV.str t_0) ∧ True)) ∨ ∃ y_21 : Nat, Lf (y_21 = 0) ∧ (0 : Nat) < (3 : Nat) ∧ ckQ (oldL 0 (ofBytes t_2) == oldL 0 (ofBytes t_2)) (eqqQ (ofBytes x_4.2) ∧ eqqQ (AV.str t_1) ∧ eqqQ (AV.int .i64 0) ∧ AV.int
 IntKind.i64 1 = AV.int .i64 3 ∧ eqqQ (AV.int .u16 n) ∧ eqqQ (AV.str x_11.2) ∧ eqqQ (AV.agg [.str t_1, .str x_11.2, .str t_14]) ∧ eqqQ (AV.agg [.str t_0, .str x_11.1]) ∧ eqqQ (AV.str t_0) ∧ True)) else Q (.ret (.bool
 false)) [] {} else Lf (t_0.length = 32 ∧ t_1.length ≤ 100000) ∧ ∀ t_18 : List UInt8, Lf (t_18 = tagM t_0 t_1) → ∀ t_19 : List UInt8, ∀ e_20 : Int, Lf (tagSM t_0 t_1 = Prod.mk t_19 e_20) → ∀ b_21 : Bool, Lf (b_21 = toldM t_19 e_20 0
 t_18) → bif b_21 then ((oldL 0 (ofBytes t_2) || oldL 1 (ofBytes x_4.2)) && true) = true ∧ (True ∧ (0 : Nat) = (0 : Nat)) ∧ ((∃ y_22 : Nat, Lf (y_22 = 0) ∧ (3 : Nat) < (3 : Nat) ∧ ckQ (oldL 0 (ofBytes t_2) == oldL 0 (ofBytes t_2))
 (eqqQ (ofBytes x_4.2) ∧ eqqQ (AV.str t_1) ∧ eqqQ (AV.int .i64 0) ∧ AV.int .i64 1 = AV.int .i64 0 ∧ eqqQ (AV.int .u16 n) ∧ eqqQ (AV.str x_11.2) ∧ eqqQ (AV.agg [.str t_1, .str x_11.2, .str t_14]) ∧ eqqQ (AV.agg
 [.str t_0, .str x_11.1]) ∧ eqqQ (AV.str t_0) ∧ True)) ∨ (∃ y_22 : Nat, Lf (y_22 = 0) ∧ (2 : Nat) < (3 : Nat) ∧ ckQ (oldL 0 (ofBytes t_2) == oldL 0 (ofBytes t_2)) (eqqQ (ofBytes x_4.2) ∧ eqqQ (AV.str t_1) ∧ eqqQ (AV.int .i64 0) ∧
 eqqQ (AV.int .i64 1) ∧ eqqQ (AV.int .u16 n) ∧ eqqQ (AV.str x_11.2) ∧ eqqQ (AV.agg [.str t_1, .str x_11.2, .str t_14]) ∧ eqqQ (AV.agg [.str t_0, .str x_11.1]) ∧ eqqQ (AV.str t_0) ∧ True)) ∨ (∃ y_22 : Nat, Lf (y_22 = 0) ∧ (1 :
 Nat) < (3 : Nat) ∧ ckQ (oldL 0 (ofBytes t_2) == oldL 0 (ofBytes t_2)) (eqqQ (ofBytes x_4.2) ∧ eqqQ (AV.str t_1) ∧ eqqQ (AV.int .i64 0) ∧ AV.int .i64 1 = AV.int .i64 2 ∧ eqqQ (AV.int .u16 n) ∧ eqqQ (AV.str
 x_11.2) ∧ eqqQ (AV.agg [.str t_1, .str x_11.2, .str t_14]) ∧ eqqQ (AV.agg [.str t_0, .str x_11.1]) ∧ eqqQ (AV.str t_0) ∧ True)) ∨ ∃ y_22 : Nat, Lf (y_22 = 0) ∧ (0 : Nat) < (3 : Nat) ∧ ckQ (oldL 0 (ofBytes t_2) == oldL 0 (ofBytes t_2))
 (eqqQ (ofBytes x_4.2) ∧ eqqQ (AV.str t_1) ∧ eqqQ (AV.int .i64 0) ∧ AV.int .i64 1 = AV.int .i64 3 ∧ eqqQ (AV.int .u16 n) ∧ eqqQ (AV.str x_11.2) ∧ eqqQ (AV.agg [.str t_1, .str x_11.2, .str t_14]) ∧ eqqQ (AV.agg
 [.str t_0, .str x_11.1]) ∧ eqqQ (AV.str t_0) ∧ True)) else Q (.ret (.bool false)) [] {}) ∧ (∀ x_15 : Nat, Lf (x_15 = 0) → exI IntKind.i64 (t_0.length : Int) fun n_16 => bif n_16 != 32 then ∀ t_17 : List UInt8, ∀ e_18 : Int, Lf (tagSM
 t_0 x_11.2 = Prod.mk t_17 e_18) → ∀ b_19 : Bool, Lf (b_19 = toldM t_17 e_18 2 []) → bif b_19 then ((oldL 0 (ofBytes t_2) || oldL 1 (ofBytes x_4.2)) && true) = true ∧ (True ∧ (0 : Nat) = (0 : Nat)) ∧ ((∃ y_20 : Nat, Lf (y_20 = 0)
 ∧ (3 : Nat) < (2 : Nat) ∧ ckQ (oldL 0 (ofBytes t_2) == oldL 0 (ofBytes t_2)) (eqqQ (ofBytes x_4.2) ∧ eqqQ (AV.str t_1) ∧ eqqQ (AV.int .i64 0) ∧ AV.int .i64 2 = AV.int .i64 0 ∧ eqqQ (AV.int .u16 n) ∧ eqqQ (AV.str
 x_11.2) ∧ eqqQ (AV.agg [.str t_1, .str x_11.2, .str t_14]) ∧ eqqQ (AV.agg [.str t_0, .str x_11.1]) ∧ eqqQ (AV.str t_0) ∧ True)) ∨ (∃ y_20 : Nat, Lf (y_20 = 0) ∧ (2 : Nat) < (2 : Nat) ∧ ckQ (oldL 0 (ofBytes t_2) == oldL 0 (ofBytes t_2))
 (eqqQ (ofBytes x_4.2) ∧ eqqQ (AV.str t_1) ∧ eqqQ (AV.int .i64 0) ∧ AV.int .i64 2 = AV.int .i64 1 ∧ eqqQ (AV.int .u16 n) ∧ eqqQ (AV.str x_11.2) ∧ eqqQ (AV.agg [.str t_1, .str x_11.2, .str t_14]) ∧ eqqQ (AV.agg
 [.str t_0, .str x_11.1]) ∧ eqqQ (AV.str t_0) ∧ True)) ∨ (∃ y_20 : Nat, Lf (y_20 = 0) ∧ (1 : Nat) < (2 : Nat) ∧ ckQ (oldL 0 (ofBytes t_2) == oldL 0 (ofBytes t_2)) (eqqQ (ofBytes x_4.2) ∧ eqqQ (AV.str t_1) ∧ eqqQ (AV.int .i64 0) ∧
 eqqQ (AV.int .i64 2) ∧ eqqQ (AV.int .u16 n) ∧ eqqQ (AV.str x_11.2) ∧ eqqQ (AV.agg [.str t_1, .str x_11.2, .str t_14]) ∧ eqqQ (AV.agg [.str t_0, .str x_11.1]) ∧ eqqQ (AV.str t_0) ∧ True)) ∨ ∃ y_20 : Nat, Lf (y_20 = 0) ∧ (0 :
 Nat) < (2 : Nat) ∧ ckQ (oldL 0 (ofBytes t_2) == oldL 0 (ofBytes t_2)) (eqqQ (ofBytes x_4.2) ∧ eqqQ (AV.str t_1) ∧ eqqQ (AV.int .i64 0) ∧ AV.int .i64 2 = AV.int .i64 3 ∧ eqqQ (AV.int .u16 n) ∧ eqqQ (AV.str
 x_11.2) ∧ eqqQ (AV.agg [.str t_1, .str x_11.2, .str t_14]) ∧ eqqQ (AV.agg [.str t_0, .str x_11.1]) ∧ eqqQ (AV.str t_0) ∧ True)) else Q (.ret (.bool false)) [] {} else exI IntKind.i64 (x_11.2.length : Int) fun n_17 => bif decide (n_17
 > 4096) then ∀ t_18 : List UInt8, ∀ e_19 : Int, Lf (tagSM t_0 x_11.2 = Prod.mk t_18 e_19) → ∀ b_20 : Bool, Lf (b_20 = toldM t_18 e_19 3 []) → bif b_20 then ((oldL 0 (ofBytes t_2) || oldL 1 (ofBytes x_4.2)) && true) = true ∧ (True
 ∧ (0 : Nat) = (0 : Nat)) ∧ ((∃ y_21 : Nat, Lf (y_21 = 0) ∧ (3 : Nat) < (2 : Nat) ∧ ckQ (oldL 0 (ofBytes t_2) == oldL 0 (ofBytes t_2)) (eqqQ (ofBytes x_4.2) ∧ eqqQ (AV.str t_1) ∧ eqqQ (AV.int .i64 0) ∧ AV.int .i64 2 = AV.int
 IntKind.i64 0 ∧ eqqQ (AV.int .u16 n) ∧ eqqQ (AV.str x_11.2) ∧ eqqQ (AV.agg [.str t_1, .str x_11.2, .str t_14]) ∧ eqqQ (AV.agg [.str t_0, .str x_11.1]) ∧ eqqQ (AV.str t_0) ∧ True)) ∨ (∃ y_21 : Nat, Lf (y_21 = 0) ∧ (2 : Nat) < (2 :
 Nat) ∧ ckQ (oldL 0 (ofBytes t_2) == oldL 0 (ofBytes t_2)) (eqqQ (ofBytes x_4.2) ∧ eqqQ (AV.str t_1) ∧ eqqQ (AV.int .i64 0) ∧ AV.int .i64 2 = AV.int .i64 1 ∧ eqqQ (AV.int .u16 n) ∧ eqqQ (AV.str x_11.2) ∧ eqqQ
 (AV.agg [.str t_1, .str x_11.2, .str t_14]) ∧ eqqQ (AV.agg [.str t_0, .str x_11.1]) ∧ eqqQ (AV.str t_0) ∧ True)) ∨ (∃ y_21 : Nat, Lf (y_21 = 0) ∧ (1 : Nat) < (2 : Nat) ∧ ckQ (oldL 0 (ofBytes t_2) == oldL 0 (ofBytes t_2)) (eqqQ (ofBytes
 x_4.2) ∧ eqqQ (AV.str t_1) ∧ eqqQ (AV.int .i64 0) ∧ eqqQ (AV.int .i64 2) ∧ eqqQ (AV.int .u16 n) ∧ eqqQ (AV.str x_11.2) ∧ eqqQ (AV.agg [.str t_1, .str x_11.2, .str t_14]) ∧ eqqQ (AV.agg [.str t_0, .str x_11.1]) ∧ eqqQ
 (AV.str t_0) ∧ True)) ∨ ∃ y_21 : Nat, Lf (y_21 = 0) ∧ (0 : Nat) < (2 : Nat) ∧ ckQ (oldL 0 (ofBytes t_2) == oldL 0 (ofBytes t_2)) (eqqQ (ofBytes x_4.2) ∧ eqqQ (AV.str t_1) ∧ eqqQ (AV.int .i64 0) ∧ AV.int .i64 2 = AV.int
 IntKind.i64 3 ∧ eqqQ (AV.int .u16 n) ∧ eqqQ (AV.str x_11.2) ∧ eqqQ (AV.agg [.str t_1, .str x_11.2, .str t_14]) ∧ eqqQ (AV.agg [.str t_0, .str x_11.1]) ∧ eqqQ (AV.str t_0) ∧ True)) else Q (.ret (.bool false)) [] {} else Lf
 (t_0.length = 32 ∧ x_11.2.length ≤ 100000) ∧ ∀ t_18 : List UInt8, Lf (t_18 = tagM t_0 x_11.2) → ∀ t_19 : List UInt8, ∀ e_20 : Int, Lf (tagSM t_0 x_11.2 = Prod.mk t_19 e_20) → ∀ b_21 : Bool, Lf (b_21 = toldM t_19 e_20 0 t_18) → bif b_21
 then ((oldL 0 (ofBytes t_2) || oldL 1 (ofBytes x_4.2)) && true) = true ∧ (True ∧ (0 : Nat) = (0 : Nat)) ∧ ((∃ y_22 : Nat, Lf (y_22 = 0) ∧ (3 : Nat) < (2 : Nat) ∧ ckQ (oldL 0 (ofBytes t_2) == oldL 0 (ofBytes t_2)) (eqqQ (ofBytes
 x_4.2) ∧ eqqQ (AV.str t_1) ∧ eqqQ (AV.int .i64 0) ∧ AV.int .i64 2 = AV.int .i64 0 ∧ eqqQ (AV.int .u16 n) ∧ eqqQ (AV.str x_11.2) ∧ eqqQ (AV.agg [.str t_1, .str x_11.2, .str t_14]) ∧ eqqQ (AV.agg [.str t_0, .str
 x_11.1]) ∧ eqqQ (AV.str t_0) ∧ True)) ∨ (∃ y_22 : Nat, Lf (y_22 = 0) ∧ (2 : Nat) < (2 : Nat) ∧ ckQ (oldL 0 (ofBytes t_2) == oldL 0 (ofBytes t_2)) (eqqQ (ofBytes x_4.2) ∧ eqqQ (AV.str t_1) ∧ eqqQ (AV.int .i64 0) ∧ AV.int .i64
 2 = AV.int .i64 1 ∧ eqqQ (AV.int .u16 n) ∧ eqqQ (AV.str x_11.2) ∧ eqqQ (AV.agg [.str t_1, .str x_11.2, .str t_14]) ∧ eqqQ (AV.agg [.str t_0, .str x_11.1]) ∧ eqqQ (AV.str t_0) ∧ True)) ∨ (∃ y_22 : Nat, Lf (y_22 = 0) ∧ (1 :
 Nat) < (2 : Nat) ∧ ckQ (oldL 0 (ofBytes t_2) == oldL 0 (ofBytes t_2)) (eqqQ (ofBytes x_4.2) ∧ eqqQ (AV.str t_1) ∧ eqqQ (AV.int .i64 0) ∧ eqqQ (AV.int .i64 2) ∧ eqqQ (AV.int .u16 n) ∧ eqqQ (AV.str x_11.2) ∧ eqqQ (AV.agg
 [.str t_1, .str x_11.2, .str t_14]) ∧ eqqQ (AV.agg [.str t_0, .str x_11.1]) ∧ eqqQ (AV.str t_0) ∧ True)) ∨ ∃ y_22 : Nat, Lf (y_22 = 0) ∧ (0 : Nat) < (2 : Nat) ∧ ckQ (oldL 0 (ofBytes t_2) == oldL 0 (ofBytes t_2)) (eqqQ (ofBytes x_4.2) ∧
 eqqQ (AV.str t_1) ∧ eqqQ (AV.int .i64 0) ∧ AV.int .i64 2 = AV.int .i64 3 ∧ eqqQ (AV.int .u16 n) ∧ eqqQ (AV.str x_11.2) ∧ eqqQ (AV.agg [.str t_1, .str x_11.2, .str t_14]) ∧ eqqQ (AV.agg [.str t_0, .str x_11.1]) ∧
 eqqQ (AV.str t_0) ∧ True)) else Q (.ret (.bool false)) [] {}) ∧ (∀ x_15 : Nat, Lf (x_15 = 0) → exI IntKind.i64 (t_0.length : Int) fun n_16 => bif n_16 != 32 then ∀ t_17 : List UInt8, ∀ e_18 : Int, Lf (tagSM t_0 t_14 = Prod.mk t_17
 e_18) → ∀ b_19 : Bool, Lf (b_19 = toldM t_17 e_18 2 []) → bif b_19 then ((oldL 0 (ofBytes t_2) || oldL 1 (ofBytes x_4.2)) && true) = true ∧ (True ∧ (0 : Nat) = (0 : Nat)) ∧ ((∃ y_20 : Nat, Lf (y_20 = 0) ∧ (3 : Nat) < (1 : Nat) ∧
 ckQ (oldL 0 (ofBytes t_2) == oldL 0 (ofBytes t_2)) (eqqQ (ofBytes x_4.2) ∧ eqqQ (AV.str t_1) ∧ eqqQ (AV.int .i64 0) ∧ AV.int .i64 3 = AV.int .i64 0 ∧ eqqQ (AV.int .u16 n) ∧ eqqQ (AV.str x_11.2) ∧ eqqQ (AV.agg
 [.str t_1, .str x_11.2, .str t_14]) ∧ eqqQ (AV.agg [.str t_0, .str x_11.1]) ∧ eqqQ (AV.str t_0) ∧ True)) ∨ (∃ y_20 : Nat, Lf (y_20 = 0) ∧ (2 : Nat) < (1 : Nat) ∧ ckQ (oldL 0 (ofBytes t_2) == oldL 0 (ofBytes t_2)) (eqqQ (ofBytes x_4.2) ∧
 eqqQ (AV.str t_1) ∧ eqqQ (AV.int .i64 0) ∧ AV.int .i64 3 = AV.int .i64 1 ∧ eqqQ (AV.int .u16 n) ∧ eqqQ (AV.str x_11.2) ∧ eqqQ (AV.agg [.str t_1, .str x_11.2, .str t_14]) ∧ eqqQ (AV.agg [.str t_0, .str x_11.1]) ∧
 eqqQ (AV.str t_0) ∧ True)) ∨ (∃ y_20 : Nat, Lf (y_20 = 0) ∧ (1 : Nat) < (1 : Nat) ∧ ckQ (oldL 0 (ofBytes t_2) == oldL 0 (ofBytes t_2)) (eqqQ (ofBytes x_4.2) ∧ eqqQ (AV.str t_1) ∧ eqqQ (AV.int .i64 0) ∧ AV.int .i64 3 = AV.int
 IntKind.i64 2 ∧ eqqQ (AV.int .u16 n) ∧ eqqQ (AV.str x_11.2) ∧ eqqQ (AV.agg [.str t_1, .str x_11.2, .str t_14]) ∧ eqqQ (AV.agg [.str t_0, .str x_11.1]) ∧ eqqQ (AV.str t_0) ∧ True)) ∨ ∃ y_20 : Nat, Lf (y_20 = 0) ∧ (0 : Nat) < (1 :
 Nat) ∧ ckQ (oldL 0 (ofBytes t_2) == oldL 0 (ofBytes t_2)) (eqqQ (ofBytes x_4.2) ∧ eqqQ (AV.str t_1) ∧ eqqQ (AV.int .i64 0) ∧ eqqQ (AV.int .i64 3) ∧ eqqQ (AV.int .u16 n) ∧ eqqQ (AV.str x_11.2) ∧ eqqQ (AV.agg [.str t_1,
 .str x_11.2, .str t_14]) ∧ eqqQ (AV.agg [.str t_0, .str x_11.1]) ∧ eqqQ (AV.str t_0) ∧ True)) else Q (.ret (.bool false)) [] {} else exI IntKind.i64 (t_14.length : Int) fun n_17 => bif decide (n_17 > 4096) then ∀ t_18 : List UInt8, ∀
 e_19 : Int, Lf (tagSM t_0 t_14 = Prod.mk t_18 e_19) → ∀ b_20 : Bool, Lf (b_20 = toldM t_18 e_19 3 []) → bif b_20 then ((oldL 0 (ofBytes t_2) || oldL 1 (ofBytes x_4.2)) && true) = true ∧ (True ∧ (0 : Nat) = (0 : Nat)) ∧ ((∃ y_21 :
 Nat, Lf (y_21 = 0) ∧ (3 : Nat) < (1 : Nat) ∧ ckQ (oldL 0 (ofBytes t_2) == oldL 0 (ofBytes t_2)) (eqqQ (ofBytes x_4.2) ∧ eqqQ (AV.str t_1) ∧ eqqQ (AV.int .i64 0) ∧ AV.int .i64 3 = AV.int .i64 0 ∧ eqqQ (AV.int
 IntKind.u16 n) ∧ eqqQ (AV.str x_11.2) ∧ eqqQ (AV.agg [.str t_1, .str x_11.2, .str t_14]) ∧ eqqQ (AV.agg [.str t_0, .str x_11.1]) ∧ eqqQ (AV.str t_0) ∧ True)) ∨ (∃ y_21 : Nat, Lf (y_21 = 0) ∧ (2 : Nat) < (1 : Nat) ∧ ckQ (oldL 0 (ofBytes
 t_2) == oldL 0 (ofBytes t_2)) (eqqQ (ofBytes x_4.2) ∧ eqqQ (AV.str t_1) ∧ eqqQ (AV.int .i64 0) ∧ AV.int .i64 3 = AV.int .i64 1 ∧ eqqQ (AV.int .u16 n) ∧ eqqQ (AV.str x_11.2) ∧ eqqQ (AV.agg [.str t_1, .str x_11.2,
 .str t_14]) ∧ eqqQ (AV.agg [.str t_0, .str x_11.1]) ∧ eqqQ (AV.str t_0) ∧ True)) ∨ (∃ y_21 : Nat, Lf (y_21 = 0) ∧ (1 : Nat) < (1 : Nat) ∧ ckQ (oldL 0 (ofBytes t_2) == oldL 0 (ofBytes t_2)) (eqqQ (ofBytes x_4.2) ∧ eqqQ (AV.str t_1) ∧ eqqQ
 (AV.int .i64 0) ∧ AV.int .i64 3 = AV.int .i64 2 ∧ eqqQ (AV.int .u16 n) ∧ eqqQ (AV.str x_11.2) ∧ eqqQ (AV.agg [.str t_1, .str x_11.2, .str t_14]) ∧ eqqQ (AV.agg [.str t_0, .str x_11.1]) ∧ eqqQ (AV.str t_0) ∧
 True)) ∨ ∃ y_21 : Nat, Lf (y_21 = 0) ∧ (0 : Nat) < (1 : Nat) ∧ ckQ (oldL 0 (ofBytes t_2) == oldL 0 (ofBytes t_2)) (eqqQ (ofBytes x_4.2) ∧ eqqQ (AV.str t_1) ∧ eqqQ (AV.int .i64 0) ∧ eqqQ (AV.int .i64 3) ∧ eqqQ (AV.int
 IntKind.u16 n) ∧ eqqQ (AV.str x_11.2) ∧ eqqQ (AV.agg [.str t_1, .str x_11.2, .str t_14]) ∧ eqqQ (AV.agg [.str t_0, .str x_11.1]) ∧ eqqQ (AV.str t_0) ∧ True)) else Q (.ret (.bool false)) [] {} else Lf (t_0.length = 32 ∧ t_14.length ≤
 100000) ∧ ∀ t_18 : List UInt8, Lf (t_18 = tagM t_0 t_14) → ∀ t_19 : List UInt8, ∀ e_20 : Int, Lf (tagSM t_0 t_14 = Prod.mk t_19 e_20) → ∀ b_21 : Bool, Lf (b_21 = toldM t_19 e_20 0 t_18) → bif b_21 then ((oldL 0 (ofBytes t_2) || oldL 1
 (ofBytes x_4.2)) && true) = true ∧ (True ∧ (0 : Nat) = (0 : Nat)) ∧ ((∃ y_22 : Nat, Lf (y_22 = 0) ∧ (3 : Nat) < (1 : Nat) ∧ ckQ (oldL 0 (ofBytes t_2) == oldL 0 (ofBytes t_2)) (eqqQ (ofBytes x_4.2) ∧ eqqQ (AV.str t_1) ∧ eqqQ
 (AV.int .i64 0) ∧ AV.int .i64 3 = AV.int .i64 0 ∧ eqqQ (AV.int .u16 n) ∧ eqqQ (AV.str x_11.2) ∧ eqqQ (AV.agg [.str t_1, .str x_11.2, .str t_14]) ∧ eqqQ (AV.agg [.str t_0, .str x_11.1]) ∧ eqqQ (AV.str t_0) ∧
 True)) ∨ (∃ y_22 : Nat, Lf (y_22 = 0) ∧ (2 : Nat) < (1 : Nat) ∧ ckQ (oldL 0 (ofBytes t_2) == oldL 0 (ofBytes t_2)) (eqqQ (ofBytes x_4.2) ∧ eqqQ (AV.str t_1) ∧ eqqQ (AV.int .i64 0) ∧ AV.int .i64 3 = AV.int .i64 1 ∧ eqqQ
 (AV.int .u16 n) ∧ eqqQ (AV.str x_11.2) ∧ eqqQ (AV.agg [.str t_1, .str x_11.2, .str t_14]) ∧ eqqQ (AV.agg [.str t_0, .str x_11.1]) ∧ eqqQ (AV.str t_0) ∧ True)) ∨ (∃ y_22 : Nat, Lf (y_22 = 0) ∧ (1 : Nat) < (1 : Nat) ∧ ckQ (oldL 0
 (ofBytes t_2) == oldL 0 (ofBytes t_2)) (eqqQ (ofBytes x_4.2) ∧ eqqQ (AV.str t_1) ∧ eqqQ (AV.int .i64 0) ∧ AV.int .i64 3 = AV.int .i64 2 ∧ eqqQ (AV.int .u16 n) ∧ eqqQ (AV.str x_11.2) ∧ eqqQ (AV.agg [.str t_1,
 .str x_11.2, .str t_14]) ∧ eqqQ (AV.agg [.str t_0, .str x_11.1]) ∧ eqqQ (AV.str t_0) ∧ True)) ∨ ∃ y_22 : Nat, Lf (y_22 = 0) ∧ (0 : Nat) < (1 : Nat) ∧ ckQ (oldL 0 (ofBytes t_2) == oldL 0 (ofBytes t_2)) (eqqQ (ofBytes x_4.2) ∧ eqqQ (AV.str
 t_1) ∧ eqqQ (AV.int .i64 0) ∧ eqqQ (AV.int .i64 3) ∧ eqqQ (AV.int .u16 n) ∧ eqqQ (AV.str x_11.2) ∧ eqqQ (AV.agg [.str t_1, .str x_11.2, .str t_14]) ∧ eqqQ (AV.agg [.str t_0, .str x_11.1]) ∧ eqqQ (AV.str t_0) ∧ True))
 else Q (.ret (.bool false)) [] {}) ∧ ∀ x_15 : Nat, Lf (x_15 = 0) → ((oldL 0 (ofBytes t_2) || oldL 1 (ofBytes x_4.2)) && true) = true ∧ (True ∧ (0 : Nat) = (0 : Nat)) ∧ ((∃ y_16 : List UInt8 × List UInt8, Lf (y_16.1.length =
 32 ∧ y_16.2.length ≤ 100000) ∧ (2 : Nat) < (2 : Nat) ∧ ckQ (oldL 0 (ofBytes t_2) == oldL 0 (ofBytes t_2)) (eqqQ (ofBytes x_4.2) ∧ eqqQ (AV.str t_1) ∧ AV.int .i64 1 = AV.int .i64 0 ∧ eqqQ (AV.int .u16 n) ∧ AV.str x_11.2
 = AV.str y_16.2 ∧ AV.agg [.str t_0, .str x_11.1] = AV.agg [.str t_0, .str y_16.1] ∧ True)) ∨ (∃ y_16 : List UInt8 × List UInt8, Lf (y_16.1.length = 32 ∧ y_16.2.length ≤ 100000) ∧ (1 : Nat) < (2 : Nat) ∧ ckQ (oldL 0 (ofBytes t_2) == oldL 0
 (ofBytes t_2)) (eqqQ (ofBytes x_4.2) ∧ eqqQ (AV.str t_1) ∧ eqqQ (AV.int .i64 1) ∧ eqqQ (AV.int .u16 n) ∧ AV.str x_11.2 = AV.str y_16.2 ∧ AV.agg [.str t_0, .str x_11.1] = AV.agg [.str t_0, .str y_16.1] ∧ True)) ∨ ∃ y_16 : List
 UInt8 × List UInt8, Lf (y_16.1.length = 32 ∧ y_16.2.length ≤ 100000) ∧ (0 : Nat) < (2 : Nat) ∧ ckQ (oldL 0 (ofBytes t_2) == oldL 0 (ofBytes t_2)) (eqqQ (ofBytes x_4.2) ∧ eqqQ (AV.str t_1) ∧ AV.int .i64 1 = AV.int .i64 2 ∧
 eqqQ (AV.int .u16 n) ∧ AV.str x_11.2 = AV.str y_16.2 ∧ AV.agg [.str t_0, .str x_11.1] = AV.agg [.str t_0, .str y_16.1] ∧ True))) ∧ (∀ x_11 : List UInt8 × List UInt8, Lf (x_11.1.length = 32 ∧ x_11.2.length ≤ 100000) → exW IntKind.i64
 n fun n_12 => exI IntKind.i64 (n_12.tmod 100) fun n_13 => Lf (0 ≤ n_13 ∧ n_13 ≤ 100000 ∧ List.length [255] ≤ 100000) ∧ ∀ t_14 : List UInt8, Lf (t_14 = sizedM [255] n_13.toNat) → ((∃ x_15 : Nat, Lf (x_15 = 0) ∧ ckQ (oldL 0 (ofBytes t_2) ==
 oldL 0 (ofBytes t_2)) (eqqQ (ofBytes x_4.2) ∧ eqqQ (AV.str t_1) ∧ eqqQ (AV.int .i64 1) ∧ eqqQ (AV.int .i64 0) ∧ eqqQ (AV.int .u16 n) ∧ eqqQ (AV.str x_11.2) ∧ eqqQ (AV.agg [.str t_1, .str x_11.2, .str t_14]) ∧ eqqQ
 (AV.agg [.str t_0, .str x_11.1]) ∧ eqqQ (AV.str x_11.1) ∧ True)) ∨ (∃ x_15 : Nat, Lf (x_15 = 0) ∧ ckQ (oldL 0 (ofBytes t_2) == oldL 0 (ofBytes t_2)) (eqqQ (ofBytes x_4.2) ∧ eqqQ (AV.str t_1) ∧ eqqQ (AV.int .i64 1) ∧ AV.int
 IntKind.i64 0 = AV.int .i64 1 ∧ eqqQ (AV.int .u16 n) ∧ eqqQ (AV.str x_11.2) ∧ eqqQ (AV.agg [.str t_1, .str x_11.2, .str t_14]) ∧ eqqQ (AV.agg [.str t_0, .str x_11.1]) ∧ eqqQ (AV.str x_11.1) ∧ True)) ∨ (∃ x_15 : Nat, Lf (x_15
 = 0) ∧ ckQ (oldL 0 (ofBytes t_2) == oldL 0 (ofBytes t_2)) (eqqQ (ofBytes x_4.2) ∧ eqqQ (AV.str t_1) ∧ eqqQ (AV.int .i64 1) ∧ AV.int .i64 0 = AV.int .i64 2 ∧ eqqQ (AV.int .u16 n) ∧ eqqQ (AV.str x_11.2) ∧ eqqQ
 (AV.agg [.str t_1, .str x_11.2, .str t_14]) ∧ eqqQ (AV.agg [.str t_0, .str x_11.1]) ∧ eqqQ (AV.str x_11.1) ∧ True)) ∨ ∃ x_15 : Nat, Lf (x_15 = 0) ∧ ckQ (oldL 0 (ofBytes t_2) == oldL 0 (ofBytes t_2)) (eqqQ (ofBytes x_4.2) ∧ eqqQ (AV.str
 t_1) ∧ eqqQ (AV.int .i64 1) ∧ AV.int .i64 0 = AV.int .i64 3 ∧ eqqQ (AV.int .u16 n) ∧ eqqQ (AV.str x_11.2) ∧ eqqQ (AV.agg [.str t_1, .str x_11.2, .str t_14]) ∧ eqqQ (AV.agg [.str t_0, .str x_11.1]) ∧ eqqQ (AV.str
 x_11.1) ∧ True)) ∧ (∀ x_15 : Nat, Lf (x_15 = 0) → exI IntKind.i64 (x_11.1.length : Int) fun n_16 => bif n_16 != 32 then ∀ t_17 : List UInt8, ∀ e_18 : Int, Lf (tagSM x_11.1 t_1 = Prod.mk t_17 e_18) → ∀ b_19 : Bool, Lf (b_19 = toldM t_17
 e_18 2 []) → bif b_19 then ((oldL 0 (ofBytes t_2) || oldL 1 (ofBytes x_4.2)) && true) = true ∧ (True ∧ (0 : Nat) = (0 : Nat)) ∧ ((∃ y_20 : Nat, Lf (y_20 = 0) ∧ (3 : Nat) < (3 : Nat) ∧ ckQ (oldL 0 (ofBytes t_2) == oldL 0 (ofBytes
 t_2)) (eqqQ (ofBytes x_4.2) ∧ eqqQ (AV.str t_1) ∧ eqqQ (AV.int .i64 1) ∧ AV.int .i64 1 = AV.int .i64 0 ∧ eqqQ (AV.int .u16 n) ∧ eqqQ (AV.str x_11.2) ∧ eqqQ (AV.agg [.str t_1, .str x_11.2, .str t_14]) ∧ eqqQ
 (AV.agg [.str t_0, .str x_11.1]) ∧ eqqQ (AV.str x_11.1) ∧ True)) ∨ (∃ y_20 : Nat, Lf (y_20 = 0) ∧ (2 : Nat) < (3 : Nat) ∧ ckQ (oldL 0 (ofBytes t_2) == oldL 0 (ofBytes t_2)) (eqqQ (ofBytes x_4.2) ∧ eqqQ (AV.str t_1) ∧ eqqQ (AV.int
 IntKind.i64 1) ∧ eqqQ (AV.int .i64 1) ∧ eqqQ (AV.int .u16 n) ∧ eqqQ (AV.str x_11.2) ∧ eqqQ (AV.agg [.str t_1, .str x_11.2, .str t_14]) ∧ eqqQ (AV.agg [.str t_0, .str x_11.1]) ∧ eqqQ (AV.str x_11.1) ∧ True)) ∨ (∃ y_20 : Nat,
 Lf (y_20 = 0) ∧ (1 : Nat) < (3 : Nat) ∧ ckQ (oldL 0 (ofBytes t_2) == oldL 0 (ofBytes t_2)) (eqqQ (ofBytes x_4.2) ∧ eqqQ (AV.str t_1) ∧ eqqQ (AV.int .i64 1) ∧ AV.int .i64 1 = AV.int .i64 2 ∧ eqqQ (AV.int .u16 n)
 ∧ eqqQ (AV.str x_11.2) ∧ eqqQ (AV.agg [.str t_1, .str x_11.2, .str t_14]) ∧ eqqQ (AV.agg [.str t_0, .str x_11.1]) ∧ eqqQ (AV.str x_11.1) ∧ True)) ∨ ∃ y_20 : Nat, Lf (y_20 = 0) ∧ (0 : Nat) < (3 : Nat) ∧ ckQ (oldL 0 (ofBytes t_2) == oldL 0
 (ofBytes t_2)) (eqqQ (ofBytes x_4.2) ∧ eqqQ (AV.str t_1) ∧ eqqQ (AV.int .i64 1) ∧ AV.int .i64 1 = AV.int .i64 3 ∧ eqqQ (AV.int .u16 n) ∧ eqqQ (AV.str x_11.2) ∧ eqqQ (AV.agg [.str t_1, .str x_11.2, .str t_14]) ∧
 eqqQ (AV.agg [.str t_0, .str x_11.1]) ∧ eqqQ (AV.str x_11.1) ∧ True)) else Q (.ret (.bool false)) [] {} else exI IntKind.i64 (t_1.length : Int) fun n_17 => bif decide (n_17 > 4096) then ∀ t_18 : List UInt8, ∀ e_19 : Int, Lf (tagSM
 x_11.1 t_1 = Prod.mk t_18 e_19) → ∀ b_20 : Bool, Lf (b_20 = toldM t_18 e_19 3 []) → bif b_20 then ((oldL 0 (ofBytes t_2) || oldL 1 (ofBytes x_4.2)) && true) = true ∧ (True ∧ (0 : Nat) = (0 : Nat)) ∧ ((∃ y_21 : Nat, Lf (y_21 = 0)
 ∧ (3 : Nat) < (3 : Nat) ∧ ckQ (oldL 0 (ofBytes t_2) == oldL 0 (ofBytes t_2)) (eqqQ (ofBytes x_4.2) ∧ eqqQ (AV.str t_1) ∧ eqqQ (AV.int .i64 1) ∧ AV.int .i64 1 = AV.int .i64 0 ∧ eqqQ (AV.int .u16 n) ∧ eqqQ (AV.str
 x_11.2) ∧ eqqQ (AV.agg [.str t_1, .str x_11.2, .str t_14]) ∧ eqqQ (AV.agg [.str t_0, .str x_11.1]) ∧ eqqQ (AV.str x_11.1) ∧ True)) ∨ (∃ y_21 : Nat, Lf (y_21 = 0) ∧ (2 : Nat) < (3 : Nat) ∧ ckQ (oldL 0 (ofBytes t_2) == oldL 0 (ofBytes t_2))
 (eqqQ (ofBytes x_4.2) ∧ eqqQ (AV.str t_1) ∧ eqqQ (AV.int .i64 1) ∧ eqqQ (AV.int .i64 1) ∧ eqqQ (AV.int .u16 n) ∧ eqqQ (AV.str x_11.2) ∧ eqqQ (AV.agg [.str t_1, .str x_11.2, .str t_14]) ∧ eqqQ (AV.agg [.str t_0, .str
 x_11.1]) ∧ eqqQ (AV.str x_11.1) ∧ True)) ∨ (∃ y_21 : Nat, Lf (y_21 = 0) ∧ (1 : Nat) < (3 : Nat) ∧ ckQ (oldL 0 (ofBytes t_2) == oldL 0 (ofBytes t_2)) (eqqQ (ofBytes x_4.2) ∧ eqqQ (AV.str t_1) ∧ eqqQ (AV.int .i64 1) ∧ AV.int
 IntKind.i64 1 = AV.int .i64 2 ∧ eqqQ (AV.int .u16 n) ∧ eqqQ (AV.str x_11.2) ∧ eqqQ (AV.agg [.str t_1, .str x_11.2, .str t_14]) ∧ eqqQ (AV.agg [.str t_0, .str x_11.1]) ∧ eqqQ (AV.str x_11.1) ∧ True)) ∨ ∃ y_21 : Nat, Lf (y_21 =
 0) ∧ (0 : Nat) < (3 : Nat) ∧ ckQ (oldL 0 (ofBytes t_2) == oldL 0 (ofBytes t_2)) (eqqQ (ofBytes x_4.2) ∧ eqqQ (AV.str t_1) ∧ eqqQ (AV.int .i64 1) ∧ AV.int .i64 1 = AV.int .i64 3 ∧ eqqQ (AV.int .u16 n) ∧ eqqQ
 (AV.str x_11.2) ∧ eqqQ (AV.agg [.str t_1, .str x_11.2, .str t_14]) ∧ eqqQ (AV.agg [.str t_0, .str x_11.1]) ∧ eqqQ (AV.str x_11.1) ∧ True)) else Q (.ret (.bool false)) [] {} else Lf (x_11.1.length = 32 ∧ t_1.length ≤ 100000) ∧ ∀ t_18 :
 List UInt8, Lf (t_18 = tagM x_11.1 t_1) → ∀ t_19 : List UInt8, ∀ e_20 : Int, Lf (tagSM x_11.1 t_1 = Prod.mk t_19 e_20) → ∀ b_21 : Bool, Lf (b_21 = toldM t_19 e_20 0 t_18) → bif b_21 then ((oldL 0 (ofBytes t_2) || oldL 1 (ofBytes x_4.2)) &&
 true) = true ∧ (True ∧ (0 : Nat) = (0 : Nat)) ∧ ((∃ y_22 : Nat, Lf (y_22 = 0) ∧ (3 : Nat) < (3 : Nat) ∧ ckQ (oldL 0 (ofBytes t_2) == oldL 0 (ofBytes t_2)) (eqqQ (ofBytes x_4.2) ∧ eqqQ (AV.str t_1) ∧ eqqQ (AV.int .i64 1) ∧
 AV.int .i64 1 = AV.int .i64 0 ∧ eqqQ (AV.int .u16 n) ∧ eqqQ (AV.str x_11.2) ∧ eqqQ (AV.agg [.str t_1, .str x_11.2, .str t_14]) ∧ eqqQ (AV.agg [.str t_0, .str x_11.1]) ∧ eqqQ (AV.str x_11.1) ∧ True)) ∨ (∃ y_22 : Nat, Lf
 (y_22 = 0) ∧ (2 : Nat) < (3 : Nat) ∧ ckQ (oldL 0 (ofBytes t_2) == oldL 0 (ofBytes t_2)) (eqqQ (ofBytes x_4.2) ∧ eqqQ (AV.str t_1) ∧ eqqQ (AV.int .i64 1) ∧ eqqQ (AV.int .i64 1) ∧ eqqQ (AV.int .u16 n) ∧ eqqQ (AV.str
 x_11.2) ∧ eqqQ (AV.agg [.str t_1, .str x_11.2, .str t_14]) ∧ eqqQ (AV.agg [.str t_0, .str x_11.1]) ∧ eqqQ (AV.str x_11.1) ∧ True)) ∨ (∃ y_22 : Nat, Lf (y_22 = 0) ∧ (1 : Nat) < (3 : Nat) ∧ ckQ (oldL 0 (ofBytes t_2) == oldL 0 (ofBytes t_2))
 (eqqQ (ofBytes x_4.2) ∧ eqqQ (AV.str t_1) ∧ eqqQ (AV.int .i64 1) ∧ AV.int .i64 1 = AV.int .i64 2 ∧ eqqQ (AV.int .u16 n) ∧ eqqQ (AV.str x_11.2) ∧ eqqQ (AV.agg [.str t_1, .str x_11.2, .str t_14]) ∧ eqqQ (AV.agg
 [.str t_0, .str x_11.1]) ∧ eqqQ (AV.str x_11.1) ∧ True)) ∨ ∃ y_22 : Nat, Lf (y_22 = 0) ∧ (0 : Nat) < (3 : Nat) ∧ ckQ (oldL 0 (ofBytes t_2) == oldL 0 (ofBytes t_2)) (eqqQ (ofBytes x_4.2) ∧ eqqQ (AV.str t_1) ∧ eqqQ (AV.int .i64 1) ∧
 AV.int .i64 1 = AV.int .i64 3 ∧ eqqQ (AV.int .u16 n) ∧ eqqQ (AV.str x_11.2) ∧ eqqQ (AV.agg [.str t_1, .str x_11.2, .str t_14]) ∧ eqqQ (AV.agg [.str t_0, .str x_11.1]) ∧ eqqQ (AV.str x_11.1) ∧ True)) else Q (.ret (.bool
 false)) [] {}) ∧ (∀ x_15 : Nat, Lf (x_15 = 0) → exI IntKind.i64 (x_11.1.length : Int) fun n_16 => bif n_16 != 32 then ∀ t_17 : List UInt8, ∀ e_18 : Int, Lf (tagSM x_11.1 x_11.2 = Prod.mk t_17 e_18) → ∀ b_19 : Bool, Lf (b_19 = toldM
 t_17 e_18 2 []) → bif b_19 then ((oldL 0 (ofBytes t_2) || oldL 1 (ofBytes x_4.2)) && true) = true ∧ (True ∧ (0 : Nat) = (0 : Nat)) ∧ ((∃ y_20 : Nat, Lf (y_20 = 0) ∧ (3 : Nat) < (2 : Nat) ∧ ckQ (oldL 0 (ofBytes t_2) == oldL 0
 (ofBytes t_2)) (eqqQ (ofBytes x_4.2) ∧ eqqQ (AV.str t_1) ∧ eqqQ (AV.int .i64 1) ∧ AV.int .i64 2 = AV.int .i64 0 ∧ eqqQ (AV.int .u16 n) ∧ eqqQ (AV.str x_11.2) ∧ eqqQ (AV.agg [.str t_1, .str x_11.2, .str t_14]) ∧
 eqqQ (AV.agg [.str t_0, .str x_11.1]) ∧ eqqQ (AV.str x_11.1) ∧ True)) ∨ (∃ y_20 : Nat, Lf (y_20 = 0) ∧ (2 : Nat) < (2 : Nat) ∧ ckQ (oldL 0 (ofBytes t_2) == oldL 0 (ofBytes t_2)) (eqqQ (ofBytes x_4.2) ∧ eqqQ (AV.str t_1) ∧ eqqQ (AV.int
 IntKind.i64 1) ∧ AV.int .i64 2 = AV.int .i64 1 ∧ eqqQ (AV.int .u16 n) ∧ eqqQ (AV.str x_11.2) ∧ eqqQ (AV.agg [.str t_1, .str x_11.2, .str t_14]) ∧ eqqQ (AV.agg [.str t_0, .str x_11.1]) ∧ eqqQ (AV.str x_11.1) ∧ True)) ∨
 (∃ y_20 : Nat, Lf (y_20 = 0) ∧ (1 : Nat) < (2 : Nat) ∧ ckQ (oldL 0 (ofBytes t_2) == oldL 0 (ofBytes t_2)) (eqqQ (ofBytes x_4.2) ∧ eqqQ (AV.str t_1) ∧ eqqQ (AV.int .i64 1) ∧ eqqQ (AV.int .i64 2) ∧ eqqQ (AV.int .u16 n) ∧
 eqqQ (AV.str x_11.2) ∧ eqqQ (AV.agg [.str t_1, .str x_11.2, .str t_14]) ∧ eqqQ (AV.agg [.str t_0, .str x_11.1]) ∧ eqqQ (AV.str x_11.1) ∧ True)) ∨ ∃ y_20 : Nat, Lf (y_20 = 0) ∧ (0 : Nat) < (2 : Nat) ∧ ckQ (oldL 0 (ofBytes t_2) == oldL 0
 (ofBytes t_2)) (eqqQ (ofBytes x_4.2) ∧ eqqQ (AV.str t_1) ∧ eqqQ (AV.int .i64 1) ∧ AV.int .i64 2 = AV.int .i64 3 ∧ eqqQ (AV.int .u16 n) ∧ eqqQ (AV.str x_11.2) ∧ eqqQ (AV.agg [.str t_1, .str x_11.2, .str t_14]) ∧
 eqqQ (AV.agg [.str t_0, .str x_11.1]) ∧ eqqQ (AV.str x_11.1) ∧ True)) else Q (.ret (.bool false)) [] {} else exI IntKind.i64 (x_11.2.length : Int) fun n_17 => bif decide (n_17 > 4096) then ∀ t_18 : List UInt8, ∀ e_19 : Int, Lf (tagSM
 x_11.1 x_11.2 = Prod.mk t_18 e_19) → ∀ b_20 : Bool, Lf (b_20 = toldM t_18 e_19 3 []) → bif b_20 then ((oldL 0 (ofBytes t_2) || oldL 1 (ofBytes x_4.2)) && true) = true ∧ (True ∧ (0 : Nat) = (0 : Nat)) ∧ ((∃ y_21 : Nat, Lf (y_21 =
 0) ∧ (3 : Nat) < (2 : Nat) ∧ ckQ (oldL 0 (ofBytes t_2) == oldL 0 (ofBytes t_2)) (eqqQ (ofBytes x_4.2) ∧ eqqQ (AV.str t_1) ∧ eqqQ (AV.int .i64 1) ∧ AV.int .i64 2 = AV.int .i64 0 ∧ eqqQ (AV.int .u16 n) ∧ eqqQ
 (AV.str x_11.2) ∧ eqqQ (AV.agg [.str t_1, .str x_11.2, .str t_14]) ∧ eqqQ (AV.agg [.str t_0, .str x_11.1]) ∧ eqqQ (AV.str x_11.1) ∧ True)) ∨ (∃ y_21 : Nat, Lf (y_21 = 0) ∧ (2 : Nat) < (2 : Nat) ∧ ckQ (oldL 0 (ofBytes t_2) == oldL 0
 (ofBytes t_2)) (eqqQ (ofBytes x_4.2) ∧ eqqQ (AV.str t_1) ∧ eqqQ (AV.int .i64 1) ∧ AV.int .i64 2 = AV.int .i64 1 ∧ eqqQ (AV.int .u16 n) ∧ eqqQ (AV.str x_11.2) ∧ eqqQ (AV.agg [.str t_1, .str x_11.2, .str t_14]) ∧
 eqqQ (AV.agg [.str t_0, .str x_11.1]) ∧ eqqQ (AV.str x_11.1) ∧ True)) ∨ (∃ y_21 : Nat, Lf (y_21 = 0) ∧ (1 : Nat) < (2 : Nat) ∧ ckQ (oldL 0 (ofBytes t_2) == oldL 0 (ofBytes t_2)) (eqqQ (ofBytes x_4.2) ∧ eqqQ (AV.str t_1) ∧ eqqQ (AV.int
 IntKind.i64 1) ∧ eqqQ (AV.int .i64 2) ∧ eqqQ (AV.int .u16 n) ∧ eqqQ (AV.str x_11.2) ∧ eqqQ (AV.agg [.str t_1, .str x_11.2, .str t_14]) ∧ eqqQ (AV.agg [.str t_0, .str x_11.1]) ∧ eqqQ (AV.str x_11.1) ∧ True)) ∨ ∃ y_21 : Nat, Lf
 (y_21 = 0) ∧ (0 : Nat) < (2 : Nat) ∧ ckQ (oldL 0 (ofBytes t_2) == oldL 0 (ofBytes t_2)) (eqqQ (ofBytes x_4.2) ∧ eqqQ (AV.str t_1) ∧ eqqQ (AV.int .i64 1) ∧ AV.int .i64 2 = AV.int .i64 3 ∧ eqqQ (AV.int .u16 n) ∧
 eqqQ (AV.str x_11.2) ∧ eqqQ (AV.agg [.str t_1, .str x_11.2, .str t_14]) ∧ eqqQ (AV.agg [.str t_0, .str x_11.1]) ∧ eqqQ (AV.str x_11.1) ∧ True)) else Q (.ret (.bool false)) [] {} else Lf (x_11.1.length = 32 ∧ x_11.2.length ≤ 100000) ∧
 ∀ t_18 : List UInt8, Lf (t_18 = tagM x_11.1 x_11.2) → ∀ t_19 : List UInt8, ∀ e_20 : Int, Lf (tagSM x_11.1 x_11.2 = Prod.mk t_19 e_20) → ∀ b_21 : Bool, Lf (b_21 = toldM t_19 e_20 0 t_18) → bif b_21 then ((oldL 0 (ofBytes t_2) || oldL 1
 (ofBytes x_4.2)) && true) = true ∧ (True ∧ (0 : Nat) = (0 : Nat)) ∧ ((∃ y_22 : Nat, Lf (y_22 = 0) ∧ (3 : Nat) < (2 : Nat) ∧ ckQ (oldL 0 (ofBytes t_2) == oldL 0 (ofBytes t_2)) (eqqQ (ofBytes x_4.2) ∧ eqqQ (AV.str t_1) ∧ eqqQ
 (AV.int .i64 1) ∧ AV.int .i64 2 = AV.int .i64 0 ∧ eqqQ (AV.int .u16 n) ∧ eqqQ (AV.str x_11.2) ∧ eqqQ (AV.agg [.str t_1, .str x_11.2, .str t_14]) ∧ eqqQ (AV.agg [.str t_0, .str x_11.1]) ∧ eqqQ (AV.str x_11.1) ∧
 True)) ∨ (∃ y_22 : Nat, Lf (y_22 = 0) ∧ (2 : Nat) < (2 : Nat) ∧ ckQ (oldL 0 (ofBytes t_2) == oldL 0 (ofBytes t_2)) (eqqQ (ofBytes x_4.2) ∧ eqqQ (AV.str t_1) ∧ eqqQ (AV.int .i64 1) ∧ AV.int .i64 2 = AV.int .i64 1 ∧ eqqQ
 (AV.int .u16 n) ∧ eqqQ (AV.str x_11.2) ∧ eqqQ (AV.agg [.str t_1, .str x_11.2, .str t_14]) ∧ eqqQ (AV.agg [.str t_0, .str x_11.1]) ∧ eqqQ (AV.str x_11.1) ∧ True)) ∨ (∃ y_22 : Nat, Lf (y_22 = 0) ∧ (1 : Nat) < (2 : Nat) ∧ ckQ (oldL 0
 (ofBytes t_2) == oldL 0 (ofBytes t_2)) (eqqQ (ofBytes x_4.2) ∧ eqqQ (AV.str t_1) ∧ eqqQ (AV.int .i64 1) ∧ eqqQ (AV.int .i64 2) ∧ eqqQ (AV.int .u16 n) ∧ eqqQ (AV.str x_11.2) ∧ eqqQ (AV.agg [.str t_1, .str x_11.2, .str
 t_14]) ∧ eqqQ (AV.agg [.str t_0, .str x_11.1]) ∧ eqqQ (AV.str x_11.1) ∧ True)) ∨ ∃ y_22 : Nat, Lf (y_22 = 0) ∧ (0 : Nat) < (2 : Nat) ∧ ckQ (oldL 0 (ofBytes t_2) == oldL 0 (ofBytes t_2)) (eqqQ (ofBytes x_4.2) ∧ eqqQ (AV.str t_1) ∧ eqqQ
 (AV.int .i64 1) ∧ AV.int .i64 2 = AV.int .i64 3 ∧ eqqQ (AV.int .u16 n) ∧ eqqQ (AV.str x_11.2) ∧ eqqQ (AV.agg [.str t_1, .str x_11.2, .str t_14]) ∧ eqqQ (AV.agg [.str t_0, .str x_11.1]) ∧ eqqQ (AV.str x_11.1) ∧
 True)) else Q (.ret (.bool false)) [] {}) ∧ (∀ x_15 : Nat, Lf (x_15 = 0) → exI IntKind.i64 (x_11.1.length : Int) fun n_16 => bif n_16 != 32 then ∀ t_17 : List UInt8, ∀ e_18 : Int, Lf (tagSM x_11.1 t_14 = Prod.mk t_17 e_18) → ∀ b_19 :
 Bool, Lf (b_19 = toldM t_17 e_18 2 []) → bif b_19 then ((oldL 0 (ofBytes t_2) || oldL 1 (ofBytes x_4.2)) && true) = true ∧ (True ∧ (0 : Nat) = (0 : Nat)) ∧ ((∃ y_20 : Nat, Lf (y_20 = 0) ∧ (3 : Nat) < (1 : Nat) ∧ ckQ (oldL 0
 (ofBytes t_2) == oldL 0 (ofBytes t_2)) (eqqQ (ofBytes x_4.2) ∧ eqqQ (AV.str t_1) ∧ eqqQ (AV.int .i64 1) ∧ AV.int .i64 3 = AV.int .i64 0 ∧ eqqQ (AV.int .u16 n) ∧ eqqQ (AV.str x_11.2) ∧ eqqQ (AV.agg [.str t_1,
 .str x_11.2, .str t_14]) ∧ eqqQ (AV.agg [.str t_0, .str x_11.1]) ∧ eqqQ (AV.str x_11.1) ∧ True)) ∨ (∃ y_20 : Nat, Lf (y_20 = 0) ∧ (2 : Nat) < (1 : Nat) ∧ ckQ (oldL 0 (ofBytes t_2) == oldL 0 (ofBytes t_2)) (eqqQ (ofBytes x_4.2) ∧ eqqQ
 (AV.str t_1) ∧ eqqQ (AV.int .i64 1) ∧ AV.int .i64 3 = AV.int .i64 1 ∧ eqqQ (AV.int .u16 n) ∧ eqqQ (AV.str x_11.2) ∧ eqqQ (AV.agg [.str t_1, .str x_11.2, .str t_14]) ∧ eqqQ (AV.agg [.str t_0, .str x_11.1]) ∧ eqqQ
 (AV.str x_11.1) ∧ True)) ∨ (∃ y_20 : Nat, Lf (y_20 = 0) ∧ (1 : Nat) < (1 : Nat) ∧ ckQ (oldL 0 (ofBytes t_2) == oldL 0 (ofBytes t_2)) (eqqQ (ofBytes x_4.2) ∧ eqqQ (AV.str t_1) ∧ eqqQ (AV.int .i64 1) ∧ AV.int .i64 3 = AV.int
 IntKind.i64 2 ∧ eqqQ (AV.int .u16 n) ∧ eqqQ (AV.str x_11.2) ∧ eqqQ (AV.agg [.str t_1, .str x_11.2, .str t_14]) ∧ eqqQ (AV.agg [.str t_0, .str x_11.1]) ∧ eqqQ (AV.str x_11.1) ∧ True)) ∨ ∃ y_20 : Nat, Lf (y_20 = 0) ∧ (0 : Nat) < (1 :
 Nat) ∧ ckQ (oldL 0 (ofBytes t_2) == oldL 0 (ofBytes t_2)) (eqqQ (ofBytes x_4.2) ∧ eqqQ (AV.str t_1) ∧ eqqQ (AV.int .i64 1) ∧ eqqQ (AV.int .i64 3) ∧ eqqQ (AV.int .u16 n) ∧ eqqQ (AV.str x_11.2) ∧ eqqQ (AV.agg [.str t_1,
 .str x_11.2, .str t_14]) ∧ eqqQ (AV.agg [.str t_0, .str x_11.1]) ∧ eqqQ (AV.str x_11.1) ∧ True)) else Q (.ret (.bool false)) [] {} else exI IntKind.i64 (t_14.length : Int) fun n_17 => bif decide (n_17 > 4096) then ∀ t_18 : List UInt8,
 ∀ e_19 : Int, Lf (tagSM x_11.1 t_14 = Prod.mk t_18 e_19) → ∀ b_20 : Bool, Lf (b_20 = toldM t_18 e_19 3 []) → bif b_20 then ((oldL 0 (ofBytes t_2) || oldL 1 (ofBytes x_4.2)) && true) = true ∧ (True ∧ (0 : Nat) = (0 : Nat)) ∧ ((∃
 y_21 : Nat, Lf (y_21 = 0) ∧ (3 : Nat) < (1 : Nat) ∧ ckQ (oldL 0 (ofBytes t_2) == oldL 0 (ofBytes t_2)) (eqqQ (ofBytes x_4.2) ∧ eqqQ (AV.str t_1) ∧ eqqQ (AV.int .i64 1) ∧ AV.int .i64 3 = AV.int .i64 0 ∧ eqqQ (AV.int
 IntKind.u16 n) ∧ eqqQ (AV.str x_11.2) ∧ eqqQ (AV.agg [.str t_1, .str x_11.2, .str t_14]) ∧ eqqQ (AV.agg [.str t_0, .str x_11.1]) ∧ eqqQ (AV.str x_11.1) ∧ True)) ∨ (∃ y_21 : Nat, Lf (y_21 = 0) ∧ (2 : Nat) < (1 : Nat) ∧ ckQ (oldL 0 (ofBytes
 t_2) == oldL 0 (ofBytes t_2)) (eqqQ (ofBytes x_4.2) ∧ eqqQ (AV.str t_1) ∧ eqqQ (AV.int .i64 1) ∧ AV.int .i64 3 = AV.int .i64 1 ∧ eqqQ (AV.int .u16 n) ∧ eqqQ (AV.str x_11.2) ∧ eqqQ (AV.agg [.str t_1, .str x_11.2,
 .str t_14]) ∧ eqqQ (AV.agg [.str t_0, .str x_11.1]) ∧ eqqQ (AV.str x_11.1) ∧ True)) ∨ (∃ y_21 : Nat, Lf (y_21 = 0) ∧ (1 : Nat) < (1 : Nat) ∧ ckQ (oldL 0 (ofBytes t_2) == oldL 0 (ofBytes t_2)) (eqqQ (ofBytes x_4.2) ∧ eqqQ (AV.str t_1) ∧
 eqqQ (AV.int .i64 1) ∧ AV.int .i64 3 = AV.int .i64 2 ∧ eqqQ (AV.int .u16 n) ∧ eqqQ (AV.str x_11.2) ∧ eqqQ (AV.agg [.str t_1, .str x_11.2, .str t_14]) ∧ eqqQ (AV.agg [.str t_0, .str x_11.1]) ∧ eqqQ (AV.str
 x_11.1) ∧ True)) ∨ ∃ y_21 : Nat, Lf (y_21 = 0) ∧ (0 : Nat) < (1 : Nat) ∧ ckQ (oldL 0 (ofBytes t_2) == oldL 0 (ofBytes t_2)) (eqqQ (ofBytes x_4.2) ∧ eqqQ (AV.str t_1) ∧ eqqQ (AV.int .i64 1) ∧ eqqQ (AV.int .i64 3) ∧ eqqQ
 (AV.int .u16 n) ∧ eqqQ (AV.str x_11.2) ∧ eqqQ (AV.agg [.str t_1, .str x_11.2, .str t_14]) ∧ eqqQ (AV.agg [.str t_0, .str x_11.1]) ∧ eqqQ (AV.str x_11.1) ∧ True)) else Q (.ret (.bool false)) [] {} else Lf (x_11.1.length = 32 ∧
 t_14.length ≤ 100000) ∧ ∀ t_18 : List UInt8, Lf (t_18 = tagM x_11.1 t_14) → ∀ t_19 : List UInt8, ∀ e_20 : Int, Lf (tagSM x_11.1 t_14 = Prod.mk t_19 e_20) → ∀ b_21 : Bool, Lf (b_21 = toldM t_19 e_20 0 t_18) → bif b_21 then ((oldL 0 (ofBytes
 t_2) || oldL 1 (ofBytes x_4.2)) && true) = true ∧ (True ∧ (0 : Nat) = (0 : Nat)) ∧ ((∃ y_22 : Nat, Lf (y_22 = 0) ∧ (3 : Nat) < (1 : Nat) ∧ ckQ (oldL 0 (ofBytes t_2) == oldL 0 (ofBytes t_2)) (eqqQ (ofBytes x_4.2) ∧ eqqQ (AV.str
 t_1) ∧ eqqQ (AV.int .i64 1) ∧ AV.int .i64 3 = AV.int .i64 0 ∧ eqqQ (AV.int .u16 n) ∧ eqqQ (AV.str x_11.2) ∧ eqqQ (AV.agg [.str t_1, .str x_11.2, .str t_14]) ∧ eqqQ (AV.agg [.str t_0, .str x_11.1]) ∧ eqqQ (AV.str
 x_11.1) ∧ True)) ∨ (∃ y_22 : Nat, Lf (y_22 = 0) ∧ (2 : Nat) < (1 : Nat) ∧ ckQ (oldL 0 (ofBytes t_2) == oldL 0 (ofBytes t_2)) (eqqQ (ofBytes x_4.2) ∧ eqqQ (AV.str t_1) ∧ eqqQ (AV.int .i64 1) ∧ AV.int .i64 3 = AV.int
 IntKind.i64 1 ∧ eqqQ (AV.int .u16 n) ∧ eqqQ (AV.str x_11.2) ∧ eqqQ (AV.agg [.str t_1, .str x_11.2, .str t_14]) ∧ eqqQ (AV.agg [.str t_0, .str x_11.1]) ∧ eqqQ (AV.str x_11.1) ∧ True)) ∨ (∃ y_22 : Nat, Lf (y_22 = 0) ∧ (1 : Nat) < (1 :
 Nat) ∧ ckQ (oldL 0 (ofBytes t_2) == oldL 0 (ofBytes t_2)) (eqqQ (ofBytes x_4.2) ∧ eqqQ (AV.str t_1) ∧ eqqQ (AV.int .i64 1) ∧ AV.int .i64 3 = AV.int .i64 2 ∧ eqqQ (AV.int .u16 n) ∧ eqqQ (AV.str x_11.2) ∧ eqqQ
 (AV.agg [.str t_1, .str x_11.2, .str t_14]) ∧ eqqQ (AV.agg [.str t_0, .str x_11.1]) ∧ eqqQ (AV.str x_11.1) ∧ True)) ∨ ∃ y_22 : Nat, Lf (y_22 = 0) ∧ (0 : Nat) < (1 : Nat) ∧ ckQ (oldL 0 (ofBytes t_2) == oldL 0 (ofBytes t_2)) (eqqQ (ofBytes
 x_4.2) ∧ eqqQ (AV.str t_1) ∧ eqqQ (AV.int .i64 1) ∧ eqqQ (AV.int .i64 3) ∧ eqqQ (AV.int .u16 n) ∧ eqqQ (AV.str x_11.2) ∧ eqqQ (AV.agg [.str t_1, .str x_11.2, .str t_14]) ∧ eqqQ (AV.agg [.str t_0, .str x_11.1]) ∧ eqqQ
 (AV.str x_11.1) ∧ True)) else Q (.ret (.bool false)) [] {}) ∧ ∀ x_15 : Nat, Lf (x_15 = 0) → ((oldL 0 (ofBytes t_2) || oldL 1 (ofBytes x_4.2)) && true) = true ∧ (True ∧ (0 : Nat) = (0 : Nat)) ∧ ((∃ y_16 : List UInt8 × List
 UInt8, Lf (y_16.1.length = 32 ∧ y_16.2.length ≤ 100000) ∧ (2 : Nat) < (1 : Nat) ∧ ckQ (oldL 0 (ofBytes t_2) == oldL 0 (ofBytes t_2)) (eqqQ (ofBytes x_4.2) ∧ eqqQ (AV.str t_1) ∧ AV.int .i64 2 = AV.int .i64 0 ∧ eqqQ (AV.int
 IntKind.u16 n) ∧ AV.str x_11.2 = AV.str y_16.2 ∧ AV.agg [.str t_0, .str x_11.1] = AV.agg [.str t_0, .str y_16.1] ∧ True)) ∨ (∃ y_16 : List UInt8 × List UInt8, Lf (y_16.1.length = 32 ∧ y_16.2.length ≤ 100000) ∧ (1 : Nat) < (1 : Nat) ∧ ckQ
 (oldL 0 (ofBytes t_2) == oldL 0 (ofBytes t_2)) (eqqQ (ofBytes x_4.2) ∧ eqqQ (AV.str t_1) ∧ AV.int .i64 2 = AV.int .i64 1 ∧ eqqQ (AV.int .u16 n) ∧ AV.str x_11.2 = AV.str y_16.2 ∧ AV.agg [.str t_0, .str x_11.1] = AV.agg
 [.str t_0, .str y_16.1] ∧ True)) ∨ ∃ y_16 : List UInt8 × List UInt8, Lf (y_16.1.length = 32 ∧ y_16.2.length ≤ 100000) ∧ (0 : Nat) < (1 : Nat) ∧ ckQ (oldL 0 (ofBytes t_2) == oldL 0 (ofBytes t_2)) (eqqQ (ofBytes x_4.2) ∧ eqqQ (AV.str t_1) ∧
 eqqQ (AV.int .i64 2) ∧ eqqQ (AV.int .u16 n) ∧ AV.str x_11.2 = AV.str y_16.2 ∧ AV.agg [.str t_0, .str x_11.1] = AV.agg [.str t_0, .str y_16.1] ∧ True))) ∧ ∀ x_11 : List UInt8 × List UInt8, Lf (x_11.1.length = 32 ∧
 x_11.2.length ≤ 100000) → Q (.ret (.bool true)) [] {}
def loopB (n : Int) (t_1 : List UInt8) (t_0 : List UInt8) (Q : Out → List Blk → Gh → Prop) : Prop :=
(∀ x_8 : List UInt8 × List UInt8, Lf (x_8.1.length = 32 ∧ x_8.2.length ≤ 100000) → exW IntKind.i64 n (fun n_9 => exI IntKind.i64 (n_9.tmod 100) (fun n_10 => Lf (0 ≤ n_10 ∧ n_10 ≤ 100000 ∧ List.length [255] ≤ 100000) ∧ ∀ t_11 : List UInt8,
 Lf (t_11 = sizedM [255] n_10.toNat) → ((∃ x_12 : Nat, Lf (x_12 = 0) ∧ eqqQ (AV.str t_1) ∧ eqqQ (AV.int .i64 0) ∧ eqqQ (AV.int .i64 0) ∧ eqqQ (AV.int .u16 n) ∧ eqqQ (AV.str x_8.2) ∧ eqqQ (AV.agg [.str t_1, .str x_8.2,
 .str t_11]) ∧ eqqQ (AV.agg [.str t_0, .str x_8.1]) ∧ eqqQ (AV.str t_0) ∧ True) ∨ (∃ x_12 : Nat, Lf (x_12 = 0) ∧ eqqQ (AV.str t_1) ∧ eqqQ (AV.int .i64 0) ∧ AV.int .i64 0 = AV.int .i64 1 ∧ eqqQ (AV.int .u16 n) ∧
 eqqQ (AV.str x_8.2) ∧ eqqQ (AV.agg [.str t_1, .str x_8.2, .str t_11]) ∧ eqqQ (AV.agg [.str t_0, .str x_8.1]) ∧ eqqQ (AV.str t_0) ∧ True) ∨ (∃ x_12 : Nat, Lf (x_12 = 0) ∧ eqqQ (AV.str t_1) ∧ eqqQ (AV.int .i64 0) ∧ AV.int .i64
 0 = AV.int .i64 2 ∧ eqqQ (AV.int .u16 n) ∧ eqqQ (AV.str x_8.2) ∧ eqqQ (AV.agg [.str t_1, .str x_8.2, .str t_11]) ∧ eqqQ (AV.agg [.str t_0, .str x_8.1]) ∧ eqqQ (AV.str t_0) ∧ True) ∨ ∃ x_12 : Nat, Lf (x_12 = 0) ∧ eqqQ (AV.str
 t_1) ∧ eqqQ (AV.int .i64 0) ∧ AV.int .i64 0 = AV.int .i64 3 ∧ eqqQ (AV.int .u16 n) ∧ eqqQ (AV.str x_8.2) ∧ eqqQ (AV.agg [.str t_1, .str x_8.2, .str t_11]) ∧ eqqQ (AV.agg [.str t_0, .str x_8.1]) ∧ eqqQ (AV.str
 t_0) ∧ True) ∧ (∀ x_12 : Nat, Lf (x_12 = 0) → exI IntKind.i64 (t_0.length : Int) (fun n_13 => bif n_13 != 32 then ∀ t_14 : List UInt8, ∀ e_15 : Int, Lf (tagSM t_0 t_1 = Prod.mk t_14 e_15) → ∀ b_16 : Bool, Lf (b_16 = toldM t_14 e_15 2 []) →
 bif b_16 then true = true ∧ (True ∧ (0 : Nat) = (0 : Nat)) ∧ ((∃ y_17 : Nat, Lf (y_17 = 0) ∧ (3 : Nat) < (3 : Nat) ∧ eqqQ (AV.str t_1) ∧ eqqQ (AV.int .i64 0) ∧ AV.int .i64 1 = AV.int .i64 0 ∧ eqqQ (AV.int
 IntKind.u16 n) ∧ eqqQ (AV.str x_8.2) ∧ eqqQ (AV.agg [.str t_1, .str x_8.2, .str t_11]) ∧ eqqQ (AV.agg [.str t_0, .str x_8.1]) ∧ eqqQ (AV.str t_0) ∧ True) ∨ (∃ y_17 : Nat, Lf (y_17 = 0) ∧ (2 : Nat) < (3 : Nat) ∧ eqqQ (AV.str t_1) ∧ eqqQ
 (AV.int .i64 0) ∧ eqqQ (AV.int .i64 1) ∧ eqqQ (AV.int .u16 n) ∧ eqqQ (AV.str x_8.2) ∧ eqqQ (AV.agg [.str t_1, .str x_8.2, .str t_11]) ∧ eqqQ (AV.agg [.str t_0, .str x_8.1]) ∧ eqqQ (AV.str t_0) ∧ True) ∨ (∃ y_17 : Nat,
 Lf (y_17 = 0) ∧ (1 : Nat) < (3 : Nat) ∧ eqqQ (AV.str t_1) ∧ eqqQ (AV.int .i64 0) ∧ AV.int .i64 1 = AV.int .i64 2 ∧ eqqQ (AV.int .u16 n) ∧ eqqQ (AV.str x_8.2) ∧ eqqQ (AV.agg [.str t_1, .str x_8.2, .str t_11]) ∧
 eqqQ (AV.agg [.str t_0, .str x_8.1]) ∧ eqqQ (AV.str t_0) ∧ True) ∨ ∃ y_17 : Nat, Lf (y_17 = 0) ∧ (0 : Nat) < (3 : Nat) ∧ eqqQ (AV.str t_1) ∧ eqqQ (AV.int .i64 0) ∧ AV.int .i64 1 = AV.int .i64 3 ∧ eqqQ (AV.int
 IntKind.u16 n) ∧ eqqQ (AV.str x_8.2) ∧ eqqQ (AV.agg [.str t_1, .str x_8.2, .str t_11]) ∧ eqqQ (AV.agg [.str t_0, .str x_8.1]) ∧ eqqQ (AV.str t_0) ∧ True) else Q (.ret (.bool false)) [] {} else exI IntKind.i64 (t_1.length : Int) (fun
 n_14 => bif decide (n_14 > 4096) then ∀ t_15 : List UInt8, ∀ e_16 : Int, Lf (tagSM t_0 t_1 = Prod.mk t_15 e_16) → ∀ b_17 : Bool, Lf (b_17 = toldM t_15 e_16 3 []) → bif b_17 then true = true ∧ (True ∧ (0 : Nat) = (0 : Nat)) ∧ ((∃
 y_18 : Nat, Lf (y_18 = 0) ∧ (3 : Nat) < (3 : Nat) ∧ eqqQ (AV.str t_1) ∧ eqqQ (AV.int .i64 0) ∧ AV.int .i64 1 = AV.int .i64 0 ∧ eqqQ (AV.int .u16 n) ∧ eqqQ (AV.str x_8.2) ∧ eqqQ (AV.agg [.str t_1, .str x_8.2,
 .str t_11]) ∧ eqqQ (AV.agg [.str t_0, .str x_8.1]) ∧ eqqQ (AV.str t_0) ∧ True) ∨ (∃ y_18 : Nat, Lf (y_18 = 0) ∧ (2 : Nat) < (3 : Nat) ∧ eqqQ (AV.str t_1) ∧ eqqQ (AV.int .i64 0) ∧ eqqQ (AV.int .i64 1) ∧ eqqQ (AV.int
 IntKind.u16 n) ∧ eqqQ (AV.str x_8.2) ∧ eqqQ (AV.agg [.str t_1, .str x_8.2, .str t_11]) ∧ eqqQ (AV.agg [.str t_0, .str x_8.1]) ∧ eqqQ (AV.str t_0) ∧ True) ∨ (∃ y_18 : Nat, Lf (y_18 = 0) ∧ (1 : Nat) < (3 : Nat) ∧ eqqQ (AV.str t_1) ∧ eqqQ
 (AV.int .i64 0) ∧ AV.int .i64 1 = AV.int .i64 2 ∧ eqqQ (AV.int .u16 n) ∧ eqqQ (AV.str x_8.2) ∧ eqqQ (AV.agg [.str t_1, .str x_8.2, .str t_11]) ∧ eqqQ (AV.agg [.str t_0, .str x_8.1]) ∧ eqqQ (AV.str t_0) ∧ True) ∨
 ∃ y_18 : Nat, Lf (y_18 = 0) ∧ (0 : Nat) < (3 : Nat) ∧ eqqQ (AV.str t_1) ∧ eqqQ (AV.int .i64 0) ∧ AV.int .i64 1 = AV.int .i64 3 ∧ eqqQ (AV.int .u16 n) ∧ eqqQ (AV.str x_8.2) ∧ eqqQ (AV.agg [.str t_1, .str x_8.2,
 .str t_11]) ∧ eqqQ (AV.agg [.str t_0, .str x_8.1]) ∧ eqqQ (AV.str t_0) ∧ True) else Q (.ret (.bool false)) [] {} else Lf (t_0.length = 32 ∧ t_1.length ≤ 100000) ∧ ∀ t_15 : List UInt8, Lf (t_15 = tagM t_0 t_1) → ∀ t_16 : List UInt8, ∀
 e_17 : Int, Lf (tagSM t_0 t_1 = Prod.mk t_16 e_17) → ∀ b_18 : Bool, Lf (b_18 = toldM t_16 e_17 0 t_15) → bif b_18 then true = true ∧ (True ∧ (0 : Nat) = (0 : Nat)) ∧ ((∃ y_19 : Nat, Lf (y_19 = 0) ∧ (3 : Nat) < (3 : Nat) ∧ eqqQ
 (AV.str t_1) ∧ eqqQ (AV.int .i64 0) ∧ AV.int .i64 1 = AV.int .i64 0 ∧ eqqQ (AV.int .u16 n) ∧ eqqQ (AV.str x_8.2) ∧ eqqQ (AV.agg [.str t_1, .str x_8.2, .str t_11]) ∧ eqqQ (AV.agg [.str t_0, .str x_8.1]) ∧ eqqQ
 (AV.str t_0) ∧ True) ∨ (∃ y_19 : Nat, Lf (y_19 = 0) ∧ (2 : Nat) < (3 : Nat) ∧ eqqQ (AV.str t_1) ∧ eqqQ (AV.int .i64 0) ∧ eqqQ (AV.int .i64 1) ∧ eqqQ (AV.int .u16 n) ∧ eqqQ (AV.str x_8.2) ∧ eqqQ (AV.agg [.str t_1, .str
 x_8.2, .str t_11]) ∧ eqqQ (AV.agg [.str t_0, .str x_8.1]) ∧ eqqQ (AV.str t_0) ∧ True) ∨ (∃ y_19 : Nat, Lf (y_19 = 0) ∧ (1 : Nat) < (3 : Nat) ∧ eqqQ (AV.str t_1) ∧ eqqQ (AV.int .i64 0) ∧ AV.int .i64 1 = AV.int .i64 2 ∧
 eqqQ (AV.int .u16 n) ∧ eqqQ (AV.str x_8.2) ∧ eqqQ (AV.agg [.str t_1, .str x_8.2, .str t_11]) ∧ eqqQ (AV.agg [.str t_0, .str x_8.1]) ∧ eqqQ (AV.str t_0) ∧ True) ∨ ∃ y_19 : Nat, Lf (y_19 = 0) ∧ (0 : Nat) < (3 : Nat) ∧ eqqQ (AV.str
 t_1) ∧ eqqQ (AV.int .i64 0) ∧ AV.int .i64 1 = AV.int .i64 3 ∧ eqqQ (AV.int .u16 n) ∧ eqqQ (AV.str x_8.2) ∧ eqqQ (AV.agg [.str t_1, .str x_8.2, .str t_11]) ∧ eqqQ (AV.agg [.str t_0, .str x_8.1]) ∧ eqqQ (AV.str
 t_0) ∧ True) else Q (.ret (.bool false)) [] {}))) ∧ (∀ x_12 : Nat, Lf (x_12 = 0) → exI IntKind.i64 (t_0.length : Int) (fun n_13 => bif n_13 != 32 then ∀ t_14 : List UInt8, ∀ e_15 : Int, Lf (tagSM t_0 x_8.2 = Prod.mk t_14 e_15) → ∀
 b_16 : Bool, Lf (b_16 = toldM t_14 e_15 2 []) → bif b_16 then true = true ∧ (True ∧ (0 : Nat) = (0 : Nat)) ∧ ((∃ y_17 : Nat, Lf (y_17 = 0) ∧ (3 : Nat) < (2 : Nat) ∧ eqqQ (AV.str t_1) ∧ eqqQ (AV.int .i64 0) ∧ AV.int
 IntKind.i64 2 = AV.int .i64 0 ∧ eqqQ (AV.int .u16 n) ∧ eqqQ (AV.str x_8.2) ∧ eqqQ (AV.agg [.str t_1, .str x_8.2, .str t_11]) ∧ eqqQ (AV.agg [.str t_0, .str x_8.1]) ∧ eqqQ (AV.str t_0) ∧ True) ∨ (∃ y_17 : Nat, Lf (y_17 = 0) ∧
 (2 : Nat) < (2 : Nat) ∧ eqqQ (AV.str t_1) ∧ eqqQ (AV.int .i64 0) ∧ AV.int .i64 2 = AV.int .i64 1 ∧ eqqQ (AV.int .u16 n) ∧ eqqQ (AV.str x_8.2) ∧ eqqQ (AV.agg [.str t_1, .str x_8.2, .str t_11]) ∧ eqqQ (AV.agg
 [.str t_0, .str x_8.1]) ∧ eqqQ (AV.str t_0) ∧ True) ∨ (∃ y_17 : Nat, Lf (y_17 = 0) ∧ (1 : Nat) < (2 : Nat) ∧ eqqQ (AV.str t_1) ∧ eqqQ (AV.int .i64 0) ∧ eqqQ (AV.int .i64 2) ∧ eqqQ (AV.int .u16 n) ∧ eqqQ (AV.str x_8.2)
 ∧ eqqQ (AV.agg [.str t_1, .str x_8.2, .str t_11]) ∧ eqqQ (AV.agg [.str t_0, .str x_8.1]) ∧ eqqQ (AV.str t_0) ∧ True) ∨ ∃ y_17 : Nat, Lf (y_17 = 0) ∧ (0 : Nat) < (2 : Nat) ∧ eqqQ (AV.str t_1) ∧ eqqQ (AV.int .i64 0) ∧ AV.int
 IntKind.i64 2 = AV.int .i64 3 ∧ eqqQ (AV.int .u16 n) ∧ eqqQ (AV.str x_8.2) ∧ eqqQ (AV.agg [.str t_1, .str x_8.2, .str t_11]) ∧ eqqQ (AV.agg [.str t_0, .str x_8.1]) ∧ eqqQ (AV.str t_0) ∧ True) else Q (.ret (.bool false))
 [] {} else exI IntKind.i64 (x_8.2.length : Int) (fun n_14 => bif decide (n_14 > 4096) then ∀ t_15 : List UInt8, ∀ e_16 : Int, Lf (tagSM t_0 x_8.2 = Prod.mk t_15 e_16) → ∀ b_17 : Bool, Lf (b_17 = toldM t_15 e_16 3 []) → bif b_17 then
 true = true ∧ (True ∧ (0 : Nat) = (0 : Nat)) ∧ ((∃ y_18 : Nat, Lf (y_18 = 0) ∧ (3 : Nat) < (2 : Nat) ∧ eqqQ (AV.str t_1) ∧ eqqQ (AV.int .i64 0) ∧ AV.int .i64 2 = AV.int .i64 0 ∧ eqqQ (AV.int .u16 n) ∧
 eqqQ (AV.str x_8.2) ∧ eqqQ (AV.agg [.str t_1, .str x_8.2, .str t_11]) ∧ eqqQ (AV.agg [.str t_0, .str x_8.1]) ∧ eqqQ (AV.str t_0) ∧ True) ∨ (∃ y_18 : Nat, Lf (y_18 = 0) ∧ (2 : Nat) < (2 : Nat) ∧ eqqQ (AV.str t_1) ∧ eqqQ (AV.int .i64
 0) ∧ AV.int .i64 2 = AV.int .i64 1 ∧ eqqQ (AV.int .u16 n) ∧ eqqQ (AV.str x_8.2) ∧ eqqQ (AV.agg [.str t_1, .str x_8.2, .str t_11]) ∧ eqqQ (AV.agg [.str t_0, .str x_8.1]) ∧ eqqQ (AV.str t_0) ∧ True) ∨ (∃ y_18 : Nat, Lf
 (y_18 = 0) ∧ (1 : Nat) < (2 : Nat) ∧ eqqQ (AV.str t_1) ∧ eqqQ (AV.int .i64 0) ∧ eqqQ (AV.int .i64 2) ∧ eqqQ (AV.int .u16 n) ∧ eqqQ (AV.str x_8.2) ∧ eqqQ (AV.agg [.str t_1, .str x_8.2, .str t_11]) ∧ eqqQ (AV.agg [.str
 t_0, .str x_8.1]) ∧ eqqQ (AV.str t_0) ∧ True) ∨ ∃ y_18 : Nat, Lf (y_18 = 0) ∧ (0 : Nat) < (2 : Nat) ∧ eqqQ (AV.str t_1) ∧ eqqQ (AV.int .i64 0) ∧ AV.int .i64 2 = AV.int .i64 3 ∧ eqqQ (AV.int .u16 n) ∧ eqqQ
 (AV.str x_8.2) ∧ eqqQ (AV.agg [.str t_1, .str x_8.2, .str t_11]) ∧ eqqQ (AV.agg [.str t_0, .str x_8.1]) ∧ eqqQ (AV.str t_0) ∧ True) else Q (.ret (.bool false)) [] {} else Lf (t_0.length = 32 ∧ x_8.2.length ≤ 100000) ∧ ∀ t_15 : List
 UInt8, Lf (t_15 = tagM t_0 x_8.2) → ∀ t_16 : List UInt8, ∀ e_17 : Int, Lf (tagSM t_0 x_8.2 = Prod.mk t_16 e_17) → ∀ b_18 : Bool, Lf (b_18 = toldM t_16 e_17 0 t_15) → bif b_18 then true = true ∧ (True ∧ (0 : Nat) = (0 : Nat)) ∧
 ((∃ y_19 : Nat, Lf (y_19 = 0) ∧ (3 : Nat) < (2 : Nat) ∧ eqqQ (AV.str t_1) ∧ eqqQ (AV.int .i64 0) ∧ AV.int .i64 2 = AV.int .i64 0 ∧ eqqQ (AV.int .u16 n) ∧ eqqQ (AV.str x_8.2) ∧ eqqQ (AV.agg [.str t_1, .str x_8.2,
 .str t_11]) ∧ eqqQ (AV.agg [.str t_0, .str x_8.1]) ∧ eqqQ (AV.str t_0) ∧ True) ∨ (∃ y_19 : Nat, Lf (y_19 = 0) ∧ (2 : Nat) < (2 : Nat) ∧ eqqQ (AV.str t_1) ∧ eqqQ (AV.int .i64 0) ∧ AV.int .i64 2 = AV.int .i64 1 ∧ eqqQ
 (AV.int .u16 n) ∧ eqqQ (AV.str x_8.2) ∧ eqqQ (AV.agg [.str t_1, .str x_8.2, .str t_11]) ∧ eqqQ (AV.agg [.str t_0, .str x_8.1]) ∧ eqqQ (AV.str t_0) ∧ True) ∨ (∃ y_19 : Nat, Lf (y_19 = 0) ∧ (1 : Nat) < (2 : Nat) ∧ eqqQ (AV.str t_1) ∧
 eqqQ (AV.int .i64 0) ∧ eqqQ (AV.int .i64 2) ∧ eqqQ (AV.int .u16 n) ∧ eqqQ (AV.str x_8.2) ∧ eqqQ (AV.agg [.str t_1, .str x_8.2, .str t_11]) ∧ eqqQ (AV.agg [.str t_0, .str x_8.1]) ∧ eqqQ (AV.str t_0) ∧ True) ∨ ∃ y_19 :
 Nat, Lf (y_19 = 0) ∧ (0 : Nat) < (2 : Nat) ∧ eqqQ (AV.str t_1) ∧ eqqQ (AV.int .i64 0) ∧ AV.int .i64 2 = AV.int .i64 3 ∧ eqqQ (AV.int .u16 n) ∧ eqqQ (AV.str x_8.2) ∧ eqqQ (AV.agg [.str t_1, .str x_8.2, .str
 t_11]) ∧ eqqQ (AV.agg [.str t_0, .str x_8.1]) ∧ eqqQ (AV.str t_0) ∧ True) else Q (.ret (.bool false)) [] {}))) ∧ (∀ x_12 : Nat, Lf (x_12 = 0) → exI IntKind.i64 (t_0.length : Int) (fun n_13 => bif n_13 != 32 then ∀ t_14 : List UInt8, ∀
 e_15 : Int, Lf (tagSM t_0 t_11 = Prod.mk t_14 e_15) → ∀ b_16 : Bool, Lf (b_16 = toldM t_14 e_15 2 []) → bif b_16 then true = true ∧ (True ∧ (0 : Nat) = (0 : Nat)) ∧ ((∃ y_17 : Nat, Lf (y_17 = 0) ∧ (3 : Nat) < (1 : Nat) ∧ eqqQ
 (AV.str t_1) ∧ eqqQ (AV.int .i64 0) ∧ AV.int .i64 3 = AV.int .i64 0 ∧ eqqQ (AV.int .u16 n) ∧ eqqQ (AV.str x_8.2) ∧ eqqQ (AV.agg [.str t_1, .str x_8.2, .str t_11]) ∧ eqqQ (AV.agg [.str t_0, .str x_8.1]) ∧ eqqQ
 (AV.str t_0) ∧ True) ∨ (∃ y_17 : Nat, Lf (y_17 = 0) ∧ (2 : Nat) < (1 : Nat) ∧ eqqQ (AV.str t_1) ∧ eqqQ (AV.int .i64 0) ∧ AV.int .i64 3 = AV.int .i64 1 ∧ eqqQ (AV.int .u16 n) ∧ eqqQ (AV.str x_8.2) ∧ eqqQ (AV.agg
 [.str t_1, .str x_8.2, .str t_11]) ∧ eqqQ (AV.agg [.str t_0, .str x_8.1]) ∧ eqqQ (AV.str t_0) ∧ True) ∨ (∃ y_17 : Nat, Lf (y_17 = 0) ∧ (1 : Nat) < (1 : Nat) ∧ eqqQ (AV.str t_1) ∧ eqqQ (AV.int .i64 0) ∧ AV.int .i64 3 = AV.int
 IntKind.i64 2 ∧ eqqQ (AV.int .u16 n) ∧ eqqQ (AV.str x_8.2) ∧ eqqQ (AV.agg [.str t_1, .str x_8.2, .str t_11]) ∧ eqqQ (AV.agg [.str t_0, .str x_8.1]) ∧ eqqQ (AV.str t_0) ∧ True) ∨ ∃ y_17 : Nat, Lf (y_17 = 0) ∧ (0 : Nat) < (1 : Nat) ∧
 eqqQ (AV.str t_1) ∧ eqqQ (AV.int .i64 0) ∧ eqqQ (AV.int .i64 3) ∧ eqqQ (AV.int .u16 n) ∧ eqqQ (AV.str x_8.2) ∧ eqqQ (AV.agg [.str t_1, .str x_8.2, .str t_11]) ∧ eqqQ (AV.agg [.str t_0, .str x_8.1]) ∧ eqqQ (AV.str t_0)
 ∧ True) else Q (.ret (.bool false)) [] {} else exI IntKind.i64 (t_11.length : Int) (fun n_14 => bif decide (n_14 > 4096) then ∀ t_15 : List UInt8, ∀ e_16 : Int, Lf (tagSM t_0 t_11 = Prod.mk t_15 e_16) → ∀ b_17 : Bool, Lf (b_17 = toldM
 t_15 e_16 3 []) → bif b_17 then true = true ∧ (True ∧ (0 : Nat) = (0 : Nat)) ∧ ((∃ y_18 : Nat, Lf (y_18 = 0) ∧ (3 : Nat) < (1 : Nat) ∧ eqqQ (AV.str t_1) ∧ eqqQ (AV.int .i64 0) ∧ AV.int .i64 3 = AV.int .i64 0
 ∧ eqqQ (AV.int .u16 n) ∧ eqqQ (AV.str x_8.2) ∧ eqqQ (AV.agg [.str t_1, .str x_8.2, .str t_11]) ∧ eqqQ (AV.agg [.str t_0, .str x_8.1]) ∧ eqqQ (AV.str t_0) ∧ True) ∨ (∃ y_18 : Nat, Lf (y_18 = 0) ∧ (2 : Nat) < (1 : Nat) ∧ eqqQ (AV.str
 t_1) ∧ eqqQ (AV.int .i64 0) ∧ AV.int .i64 3 = AV.int .i64 1 ∧ eqqQ (AV.int .u16 n) ∧ eqqQ (AV.str x_8.2) ∧ eqqQ (AV.agg [.str t_1, .str x_8.2, .str t_11]) ∧ eqqQ (AV.agg [.str t_0, .str x_8.1]) ∧ eqqQ (AV.str
 t_0) ∧ True) ∨ (∃ y_18 : Nat, Lf (y_18 = 0) ∧ (1 : Nat) < (1 : Nat) ∧ eqqQ (AV.str t_1) ∧ eqqQ (AV.int .i64 0) ∧ AV.int .i64 3 = AV.int .i64 2 ∧ eqqQ (AV.int .u16 n) ∧ eqqQ (AV.str x_8.2) ∧ eqqQ (AV.agg [.str
 t_1, .str x_8.2, .str t_11]) ∧ eqqQ (AV.agg [.str t_0, .str x_8.1]) ∧ eqqQ (AV.str t_0) ∧ True) ∨ ∃ y_18 : Nat, Lf (y_18 = 0) ∧ (0 : Nat) < (1 : Nat) ∧ eqqQ (AV.str t_1) ∧ eqqQ (AV.int .i64 0) ∧ eqqQ (AV.int .i64 3) ∧ eqqQ
 (AV.int .u16 n) ∧ eqqQ (AV.str x_8.2) ∧ eqqQ (AV.agg [.str t_1, .str x_8.2, .str t_11]) ∧ eqqQ (AV.agg [.str t_0, .str x_8.1]) ∧ eqqQ (AV.str t_0) ∧ True) else Q (.ret (.bool false)) [] {} else Lf (t_0.length = 32 ∧ t_11.length
 ≤ 100000) ∧ ∀ t_15 : List UInt8, Lf (t_15 = tagM t_0 t_11) → ∀ t_16 : List UInt8, ∀ e_17 : Int, Lf (tagSM t_0 t_11 = Prod.mk t_16 e_17) → ∀ b_18 : Bool, Lf (b_18 = toldM t_16 e_17 0 t_15) → bif b_18 then true = true ∧ (True ∧ (0
 : Nat) = (0 : Nat)) ∧ ((∃ y_19 : Nat, Lf (y_19 = 0) ∧ (3 : Nat) < (1 : Nat) ∧ eqqQ (AV.str t_1) ∧ eqqQ (AV.int .i64 0) ∧ AV.int .i64 3 = AV.int .i64 0 ∧ eqqQ (AV.int .u16 n) ∧ eqqQ (AV.str x_8.2) ∧ eqqQ (AV.agg
 [.str t_1, .str x_8.2, .str t_11]) ∧ eqqQ (AV.agg [.str t_0, .str x_8.1]) ∧ eqqQ (AV.str t_0) ∧ True) ∨ (∃ y_19 : Nat, Lf (y_19 = 0) ∧ (2 : Nat) < (1 : Nat) ∧ eqqQ (AV.str t_1) ∧ eqqQ (AV.int .i64 0) ∧ AV.int .i64 3 = AV.int
 IntKind.i64 1 ∧ eqqQ (AV.int .u16 n) ∧ eqqQ (AV.str x_8.2) ∧ eqqQ (AV.agg [.str t_1, .str x_8.2, .str t_11]) ∧ eqqQ (AV.agg [.str t_0, .str x_8.1]) ∧ eqqQ (AV.str t_0) ∧ True) ∨ (∃ y_19 : Nat, Lf (y_19 = 0) ∧ (1 : Nat) < (1 : Nat) ∧
 eqqQ (AV.str t_1) ∧ eqqQ (AV.int .i64 0) ∧ AV.int .i64 3 = AV.int .i64 2 ∧ eqqQ (AV.int .u16 n) ∧ eqqQ (AV.str x_8.2) ∧ eqqQ (AV.agg [.str t_1, .str x_8.2, .str t_11]) ∧ eqqQ (AV.agg [.str t_0, .str x_8.1]) ∧
 eqqQ (AV.str t_0) ∧ True) ∨ ∃ y_19 : Nat, Lf (y_19 = 0) ∧ (0 : Nat) < (1 : Nat) ∧ eqqQ (AV.str t_1) ∧ eqqQ (AV.int .i64 0) ∧ eqqQ (AV.int .i64 3) ∧ eqqQ (AV.int .u16 n) ∧ eqqQ (AV.str x_8.2) ∧ eqqQ (AV.agg [.str t_1,
 .str x_8.2, .str t_11]) ∧ eqqQ (AV.agg [.str t_0, .str x_8.1]) ∧ eqqQ (AV.str t_0) ∧ True) else Q (.ret (.bool false)) [] {}))) ∧ ∀ x_12 : Nat, Lf (x_12 = 0) → true = true ∧ (True ∧ (0 : Nat) = (0 : Nat)) ∧ ((∃ y_13 : List
 UInt8 × List UInt8, Lf (y_13.1.length = 32 ∧ y_13.2.length ≤ 100000) ∧ (2 : Nat) < (2 : Nat) ∧ eqqQ (AV.str t_1) ∧ AV.int .i64 1 = AV.int .i64 0 ∧ eqqQ (AV.int .u16 n) ∧ AV.str x_8.2 = AV.str y_13.2 ∧ AV.agg [.str t_0,
 .str x_8.1] = AV.agg [.str t_0, .str y_13.1] ∧ True) ∨ (∃ y_13 : List UInt8 × List UInt8, Lf (y_13.1.length = 32 ∧ y_13.2.length ≤ 100000) ∧ (1 : Nat) < (2 : Nat) ∧ eqqQ (AV.str t_1) ∧ eqqQ (AV.int .i64 1) ∧ eqqQ (AV.int .u16
 n) ∧ AV.str x_8.2 = AV.str y_13.2 ∧ AV.agg [.str t_0, .str x_8.1] = AV.agg [.str t_0, .str y_13.1] ∧ True) ∨ ∃ y_13 : List UInt8 × List UInt8, Lf (y_13.1.length = 32 ∧ y_13.2.length ≤ 100000) ∧ (0 : Nat) < (2 : Nat) ∧ eqqQ (AV.str t_1) ∧
 AV.int .i64 1 = AV.int .i64 2 ∧ eqqQ (AV.int .u16 n) ∧ AV.str x_8.2 = AV.str y_13.2 ∧ AV.agg [.str t_0, .str x_8.1] = AV.agg [.str t_0, .str y_13.1] ∧ True)))) ∧ (∀ x_8 : List UInt8 × List UInt8, Lf (x_8.1.length = 32
 ∧ x_8.2.length ≤ 100000) → exW IntKind.i64 n (fun n_9 => exI IntKind.i64 (n_9.tmod 100) (fun n_10 => Lf (0 ≤ n_10 ∧ n_10 ≤ 100000 ∧ List.length [255] ≤ 100000) ∧ ∀ t_11 : List UInt8, Lf (t_11 = sizedM [255] n_10.toNat) → ((∃ x_12 : Nat, Lf
 (x_12 = 0) ∧ eqqQ (AV.str t_1) ∧ eqqQ (AV.int .i64 1) ∧ eqqQ (AV.int .i64 0) ∧ eqqQ (AV.int .u16 n) ∧ eqqQ (AV.str x_8.2) ∧ eqqQ (AV.agg [.str t_1, .str x_8.2, .str t_11]) ∧ eqqQ (AV.agg [.str t_0, .str x_8.1]) ∧ eqqQ
 (AV.str x_8.1) ∧ True) ∨ (∃ x_12 : Nat, Lf (x_12 = 0) ∧ eqqQ (AV.str t_1) ∧ eqqQ (AV.int .i64 1) ∧ AV.int .i64 0 = AV.int .i64 1 ∧ eqqQ (AV.int .u16 n) ∧ eqqQ (AV.str x_8.2) ∧ eqqQ (AV.agg [.str t_1, .str x_8.2,
 .str t_11]) ∧ eqqQ (AV.agg [.str t_0, .str x_8.1]) ∧ eqqQ (AV.str x_8.1) ∧ True) ∨ (∃ x_12 : Nat, Lf (x_12 = 0) ∧ eqqQ (AV.str t_1) ∧ eqqQ (AV.int .i64 1) ∧ AV.int .i64 0 = AV.int .i64 2 ∧ eqqQ (AV.int .u16 n) ∧
 eqqQ (AV.str x_8.2) ∧ eqqQ (AV.agg [.str t_1, .str x_8.2, .str t_11]) ∧ eqqQ (AV.agg [.str t_0, .str x_8.1]) ∧ eqqQ (AV.str x_8.1) ∧ True) ∨ ∃ x_12 : Nat, Lf (x_12 = 0) ∧ eqqQ (AV.str t_1) ∧ eqqQ (AV.int .i64 1) ∧ AV.int .i64
 0 = AV.int .i64 3 ∧ eqqQ (AV.int .u16 n) ∧ eqqQ (AV.str x_8.2) ∧ eqqQ (AV.agg [.str t_1, .str x_8.2, .str t_11]) ∧ eqqQ (AV.agg [.str t_0, .str x_8.1]) ∧ eqqQ (AV.str x_8.1) ∧ True) ∧ (∀ x_12 : Nat, Lf (x_12 = 0) → exI
 IntKind.i64 (x_8.1.length : Int) (fun n_13 => bif n_13 != 32 then ∀ t_14 : List UInt8, ∀ e_15 : Int, Lf (tagSM x_8.1 t_1 = Prod.mk t_14 e_15) → ∀ b_16 : Bool, Lf (b_16 = toldM t_14 e_15 2 []) → bif b_16 then true = true ∧ (True ∧
 (0 : Nat) = (0 : Nat)) ∧ ((∃ y_17 : Nat, Lf (y_17 = 0) ∧ (3 : Nat) < (3 : Nat) ∧ eqqQ (AV.str t_1) ∧ eqqQ (AV.int .i64 1) ∧ AV.int .i64 1 = AV.int .i64 0 ∧ eqqQ (AV.int .u16 n) ∧ eqqQ (AV.str x_8.2) ∧ eqqQ
 (AV.agg [.str t_1, .str x_8.2, .str t_11]) ∧ eqqQ (AV.agg [.str t_0, .str x_8.1]) ∧ eqqQ (AV.str x_8.1) ∧ True) ∨ (∃ y_17 : Nat, Lf (y_17 = 0) ∧ (2 : Nat) < (3 : Nat) ∧ eqqQ (AV.str t_1) ∧ eqqQ (AV.int .i64 1) ∧ eqqQ (AV.int
 IntKind.i64 1) ∧ eqqQ (AV.int .u16 n) ∧ eqqQ (AV.str x_8.2) ∧ eqqQ (AV.agg [.str t_1, .str x_8.2, .str t_11]) ∧ eqqQ (AV.agg [.str t_0, .str x_8.1]) ∧ eqqQ (AV.str x_8.1) ∧ True) ∨ (∃ y_17 : Nat, Lf (y_17 = 0) ∧ (1 : Nat) < (3 :
 Nat) ∧ eqqQ (AV.str t_1) ∧ eqqQ (AV.int .i64 1) ∧ AV.int .i64 1 = AV.int .i64 2 ∧ eqqQ (AV.int .u16 n) ∧ eqqQ (AV.str x_8.2) ∧ eqqQ (AV.agg [.str t_1, .str x_8.2, .str t_11]) ∧ eqqQ (AV.agg [.str t_0, .str
 x_8.1]) ∧ eqqQ (AV.str x_8.1) ∧ True) ∨ ∃ y_17 : Nat, Lf (y_17 = 0) ∧ (0 : Nat) < (3 : Nat) ∧ eqqQ (AV.str t_1) ∧ eqqQ (AV.int .i64 1) ∧ AV.int .i64 1 = AV.int .i64 3 ∧ eqqQ (AV.int .u16 n) ∧ eqqQ (AV.str x_8.2)
 ∧ eqqQ (AV.agg [.str t_1, .str x_8.2, .str t_11]) ∧ eqqQ (AV.agg [.str t_0, .str x_8.1]) ∧ eqqQ (AV.str x_8.1) ∧ True) else Q (.ret (.bool false)) [] {} else exI IntKind.i64 (t_1.length : Int) (fun n_14 => bif decide (n_14 > 4096)
 then ∀ t_15 : List UInt8, ∀ e_16 : Int, Lf (tagSM x_8.1 t_1 = Prod.mk t_15 e_16) → ∀ b_17 : Bool, Lf (b_17 = toldM t_15 e_16 3 []) → bif b_17 then true = true ∧ (True ∧ (0 : Nat) = (0 : Nat)) ∧ ((∃ y_18 : Nat, Lf (y_18 = 0) ∧ (3
 : Nat) < (3 : Nat) ∧ eqqQ (AV.str t_1) ∧ eqqQ (AV.int .i64 1) ∧ AV.int .i64 1 = AV.int .i64 0 ∧ eqqQ (AV.int .u16 n) ∧ eqqQ (AV.str x_8.2) ∧ eqqQ (AV.agg [.str t_1, .str x_8.2, .str t_11]) ∧ eqqQ (AV.agg [.str
 t_0, .str x_8.1]) ∧ eqqQ (AV.str x_8.1) ∧ True) ∨ (∃ y_18 : Nat, Lf (y_18 = 0) ∧ (2 : Nat) < (3 : Nat) ∧ eqqQ (AV.str t_1) ∧ eqqQ (AV.int .i64 1) ∧ eqqQ (AV.int .i64 1) ∧ eqqQ (AV.int .u16 n) ∧ eqqQ (AV.str x_8.2) ∧
 eqqQ (AV.agg [.str t_1, .str x_8.2, .str t_11]) ∧ eqqQ (AV.agg [.str t_0, .str x_8.1]) ∧ eqqQ (AV.str x_8.1) ∧ True) ∨ (∃ y_18 : Nat, Lf (y_18 = 0) ∧ (1 : Nat) < (3 : Nat) ∧ eqqQ (AV.str t_1) ∧ eqqQ (AV.int .i64 1) ∧ AV.int
 IntKind.i64 1 = AV.int .i64 2 ∧ eqqQ (AV.int .u16 n) ∧ eqqQ (AV.str x_8.2) ∧ eqqQ (AV.agg [.str t_1, .str x_8.2, .str t_11]) ∧ eqqQ (AV.agg [.str t_0, .str x_8.1]) ∧ eqqQ (AV.str x_8.1) ∧ True) ∨ ∃ y_18 : Nat, Lf (y_18 = 0) ∧
 (0 : Nat) < (3 : Nat) ∧ eqqQ (AV.str t_1) ∧ eqqQ (AV.int .i64 1) ∧ AV.int .i64 1 = AV.int .i64 3 ∧ eqqQ (AV.int .u16 n) ∧ eqqQ (AV.str x_8.2) ∧ eqqQ (AV.agg [.str t_1, .str x_8.2, .str t_11]) ∧ eqqQ (AV.agg
 [.str t_0, .str x_8.1]) ∧ eqqQ (AV.str x_8.1) ∧ True) else Q (.ret (.bool false)) [] {} else Lf (x_8.1.length = 32 ∧ t_1.length ≤ 100000) ∧ ∀ t_15 : List UInt8, Lf (t_15 = tagM x_8.1 t_1) → ∀ t_16 : List UInt8, ∀ e_17 : Int, Lf (tagSM
 x_8.1 t_1 = Prod.mk t_16 e_17) → ∀ b_18 : Bool, Lf (b_18 = toldM t_16 e_17 0 t_15) → bif b_18 then true = true ∧ (True ∧ (0 : Nat) = (0 : Nat)) ∧ ((∃ y_19 : Nat, Lf (y_19 = 0) ∧ (3 : Nat) < (3 : Nat) ∧ eqqQ (AV.str t_1) ∧ eqqQ
 (AV.int .i64 1) ∧ AV.int .i64 1 = AV.int .i64 0 ∧ eqqQ (AV.int .u16 n) ∧ eqqQ (AV.str x_8.2) ∧ eqqQ (AV.agg [.str t_1, .str x_8.2, .str t_11]) ∧ eqqQ (AV.agg [.str t_0, .str x_8.1]) ∧ eqqQ (AV.str x_8.1) ∧ True)
 ∨ (∃ y_19 : Nat, Lf (y_19 = 0) ∧ (2 : Nat) < (3 : Nat) ∧ eqqQ (AV.str t_1) ∧ eqqQ (AV.int .i64 1) ∧ eqqQ (AV.int .i64 1) ∧ eqqQ (AV.int .u16 n) ∧ eqqQ (AV.str x_8.2) ∧ eqqQ (AV.agg [.str t_1, .str x_8.2, .str t_11]) ∧
 eqqQ (AV.agg [.str t_0, .str x_8.1]) ∧ eqqQ (AV.str x_8.1) ∧ True) ∨ (∃ y_19 : Nat, Lf (y_19 = 0) ∧ (1 : Nat) < (3 : Nat) ∧ eqqQ (AV.str t_1) ∧ eqqQ (AV.int .i64 1) ∧ AV.int .i64 1 = AV.int .i64 2 ∧ eqqQ (AV.int
 IntKind.u16 n) ∧ eqqQ (AV.str x_8.2) ∧ eqqQ (AV.agg [.str t_1, .str x_8.2, .str t_11]) ∧ eqqQ (AV.agg [.str t_0, .str x_8.1]) ∧ eqqQ (AV.str x_8.1) ∧ True) ∨ ∃ y_19 : Nat, Lf (y_19 = 0) ∧ (0 : Nat) < (3 : Nat) ∧ eqqQ (AV.str t_1) ∧ eqqQ
 (AV.int .i64 1) ∧ AV.int .i64 1 = AV.int .i64 3 ∧ eqqQ (AV.int .u16 n) ∧ eqqQ (AV.str x_8.2) ∧ eqqQ (AV.agg [.str t_1, .str x_8.2, .str t_11]) ∧ eqqQ (AV.agg [.str t_0, .str x_8.1]) ∧ eqqQ (AV.str x_8.1) ∧ True)
 else Q (.ret (.bool false)) [] {}))) ∧ (∀ x_12 : Nat, Lf (x_12 = 0) → exI IntKind.i64 (x_8.1.length : Int) (fun n_13 => bif n_13 != 32 then ∀ t_14 : List UInt8, ∀ e_15 : Int, Lf (tagSM x_8.1 x_8.2 = Prod.mk t_14 e_15) → ∀ b_16 : Bool,
 Lf (b_16 = toldM t_14 e_15 2 []) → bif b_16 then true = true ∧ (True ∧ (0 : Nat) = (0 : Nat)) ∧ ((∃ y_17 : Nat, Lf (y_17 = 0) ∧ (3 : Nat) < (2 : Nat) ∧ eqqQ (AV.str t_1) ∧ eqqQ (AV.int .i64 1) ∧ AV.int .i64 2 =
 AV.int .i64 0 ∧ eqqQ (AV.int .u16 n) ∧ eqqQ (AV.str x_8.2) ∧ eqqQ (AV.agg [.str t_1, .str x_8.2, .str t_11]) ∧ eqqQ (AV.agg [.str t_0, .str x_8.1]) ∧ eqqQ (AV.str x_8.1) ∧ True) ∨ (∃ y_17 : Nat, Lf (y_17 = 0) ∧ (2 : Nat) < (2
 : Nat) ∧ eqqQ (AV.str t_1) ∧ eqqQ (AV.int .i64 1) ∧ AV.int .i64 2 = AV.int .i64 1 ∧ eqqQ (AV.int .u16 n) ∧ eqqQ (AV.str x_8.2) ∧ eqqQ (AV.agg [.str t_1, .str x_8.2, .str t_11]) ∧ eqqQ (AV.agg [.str t_0, .str
 x_8.1]) ∧ eqqQ (AV.str x_8.1) ∧ True) ∨ (∃ y_17 : Nat, Lf (y_17 = 0) ∧ (1 : Nat) < (2 : Nat) ∧ eqqQ (AV.str t_1) ∧ eqqQ (AV.int .i64 1) ∧ eqqQ (AV.int .i64 2) ∧ eqqQ (AV.int .u16 n) ∧ eqqQ (AV.str x_8.2) ∧ eqqQ (AV.agg
 [.str t_1, .str x_8.2, .str t_11]) ∧ eqqQ (AV.agg [.str t_0, .str x_8.1]) ∧ eqqQ (AV.str x_8.1) ∧ True) ∨ ∃ y_17 : Nat, Lf (y_17 = 0) ∧ (0 : Nat) < (2 : Nat) ∧ eqqQ (AV.str t_1) ∧ eqqQ (AV.int .i64 1) ∧ AV.int .i64 2 = AV.int
 IntKind.i64 3 ∧ eqqQ (AV.int .u16 n) ∧ eqqQ (AV.str x_8.2) ∧ eqqQ (AV.agg [.str t_1, .str x_8.2, .str t_11]) ∧ eqqQ (AV.agg [.str t_0, .str x_8.1]) ∧ eqqQ (AV.str x_8.1) ∧ True) else Q (.ret (.bool false)) [] {} else exI
 IntKind.i64 (x_8.2.length : Int) (fun n_14 => bif decide (n_14 > 4096) then ∀ t_15 : List UInt8, ∀ e_16 : Int, Lf (tagSM x_8.1 x_8.2 = Prod.mk t_15 e_16) → ∀ b_17 : Bool, Lf (b_17 = toldM t_15 e_16 3 []) → bif b_17 then true =
 true ∧ (True ∧ (0 : Nat) = (0 : Nat)) ∧ ((∃ y_18 : Nat, Lf (y_18 = 0) ∧ (3 : Nat) < (2 : Nat) ∧ eqqQ (AV.str t_1) ∧ eqqQ (AV.int .i64 1) ∧ AV.int .i64 2 = AV.int .i64 0 ∧ eqqQ (AV.int .u16 n) ∧ eqqQ (AV.str
 x_8.2) ∧ eqqQ (AV.agg [.str t_1, .str x_8.2, .str t_11]) ∧ eqqQ (AV.agg [.str t_0, .str x_8.1]) ∧ eqqQ (AV.str x_8.1) ∧ True) ∨ (∃ y_18 : Nat, Lf (y_18 = 0) ∧ (2 : Nat) < (2 : Nat) ∧ eqqQ (AV.str t_1) ∧ eqqQ (AV.int .i64 1) ∧ AV.int
 IntKind.i64 2 = AV.int .i64 1 ∧ eqqQ (AV.int .u16 n) ∧ eqqQ (AV.str x_8.2) ∧ eqqQ (AV.agg [.str t_1, .str x_8.2, .str t_11]) ∧ eqqQ (AV.agg [.str t_0, .str x_8.1]) ∧ eqqQ (AV.str x_8.1) ∧ True) ∨ (∃ y_18 : Nat, Lf (y_18 = 0)
 ∧ (1 : Nat) < (2 : Nat) ∧ eqqQ (AV.str t_1) ∧ eqqQ (AV.int .i64 1) ∧ eqqQ (AV.int .i64 2) ∧ eqqQ (AV.int .u16 n) ∧ eqqQ (AV.str x_8.2) ∧ eqqQ (AV.agg [.str t_1, .str x_8.2, .str t_11]) ∧ eqqQ (AV.agg [.str t_0, .str
 x_8.1]) ∧ eqqQ (AV.str x_8.1) ∧ True) ∨ ∃ y_18 : Nat, Lf (y_18 = 0) ∧ (0 : Nat) < (2 : Nat) ∧ eqqQ (AV.str t_1) ∧ eqqQ (AV.int .i64 1) ∧ AV.int .i64 2 = AV.int .i64 3 ∧ eqqQ (AV.int .u16 n) ∧ eqqQ (AV.str x_8.2)
 ∧ eqqQ (AV.agg [.str t_1, .str x_8.2, .str t_11]) ∧ eqqQ (AV.agg [.str t_0, .str x_8.1]) ∧ eqqQ (AV.str x_8.1) ∧ True) else Q (.ret (.bool false)) [] {} else Lf (x_8.1.length = 32 ∧ x_8.2.length ≤ 100000) ∧ ∀ t_15 : List UInt8, Lf
 (t_15 = tagM x_8.1 x_8.2) → ∀ t_16 : List UInt8, ∀ e_17 : Int, Lf (tagSM x_8.1 x_8.2 = Prod.mk t_16 e_17) → ∀ b_18 : Bool, Lf (b_18 = toldM t_16 e_17 0 t_15) → bif b_18 then true = true ∧ (True ∧ (0 : Nat) = (0 : Nat)) ∧ ((∃ y_19
 : Nat, Lf (y_19 = 0) ∧ (3 : Nat) < (2 : Nat) ∧ eqqQ (AV.str t_1) ∧ eqqQ (AV.int .i64 1) ∧ AV.int .i64 2 = AV.int .i64 0 ∧ eqqQ (AV.int .u16 n) ∧ eqqQ (AV.str x_8.2) ∧ eqqQ (AV.agg [.str t_1, .str x_8.2, .str
 t_11]) ∧ eqqQ (AV.agg [.str t_0, .str x_8.1]) ∧ eqqQ (AV.str x_8.1) ∧ True) ∨ (∃ y_19 : Nat, Lf (y_19 = 0) ∧ (2 : Nat) < (2 : Nat) ∧ eqqQ (AV.str t_1) ∧ eqqQ (AV.int .i64 1) ∧ AV.int .i64 2 = AV.int .i64 1 ∧ eqqQ
 (AV.int .u16 n) ∧ eqqQ (AV.str x_8.2) ∧ eqqQ (AV.agg [.str t_1, .str x_8.2, .str t_11]) ∧ eqqQ (AV.agg [.str t_0, .str x_8.1]) ∧ eqqQ (AV.str x_8.1) ∧ True) ∨ (∃ y_19 : Nat, Lf (y_19 = 0) ∧ (1 : Nat) < (2 : Nat) ∧ eqqQ (AV.str t_1)
 ∧ eqqQ (AV.int .i64 1) ∧ eqqQ (AV.int .i64 2) ∧ eqqQ (AV.int .u16 n) ∧ eqqQ (AV.str x_8.2) ∧ eqqQ (AV.agg [.str t_1, .str x_8.2, .str t_11]) ∧ eqqQ (AV.agg [.str t_0, .str x_8.1]) ∧ eqqQ (AV.str x_8.1) ∧ True) ∨ ∃ y_19
 : Nat, Lf (y_19 = 0) ∧ (0 : Nat) < (2 : Nat) ∧ eqqQ (AV.str t_1) ∧ eqqQ (AV.int .i64 1) ∧ AV.int .i64 2 = AV.int .i64 3 ∧ eqqQ (AV.int .u16 n) ∧ eqqQ (AV.str x_8.2) ∧ eqqQ (AV.agg [.str t_1, .str x_8.2, .str
 t_11]) ∧ eqqQ (AV.agg [.str t_0, .str x_8.1]) ∧ eqqQ (AV.str x_8.1) ∧ True) else Q (.ret (.bool false)) [] {}))) ∧ (∀ x_12 : Nat, Lf (x_12 = 0) → exI IntKind.i64 (x_8.1.length : Int) (fun n_13 => bif n_13 != 32 then ∀ t_14 : List
 UInt8, ∀ e_15 : Int, Lf (tagSM x_8.1 t_11 = Prod.mk t_14 e_15) → ∀ b_16 : Bool, Lf (b_16 = toldM t_14 e_15 2 []) → bif b_16 then true = true ∧ (True ∧ (0 : Nat) = (0 : Nat)) ∧ ((∃ y_17 : Nat, Lf (y_17 = 0) ∧ (3 : Nat) < (1 : Nat)
 ∧ eqqQ (AV.str t_1) ∧ eqqQ (AV.int .i64 1) ∧ AV.int .i64 3 = AV.int .i64 0 ∧ eqqQ (AV.int .u16 n) ∧ eqqQ (AV.str x_8.2) ∧ eqqQ (AV.agg [.str t_1, .str x_8.2, .str t_11]) ∧ eqqQ (AV.agg [.str t_0, .str x_8.1]) ∧
 eqqQ (AV.str x_8.1) ∧ True) ∨ (∃ y_17 : Nat, Lf (y_17 = 0) ∧ (2 : Nat) < (1 : Nat) ∧ eqqQ (AV.str t_1) ∧ eqqQ (AV.int .i64 1) ∧ AV.int .i64 3 = AV.int .i64 1 ∧ eqqQ (AV.int .u16 n) ∧ eqqQ (AV.str x_8.2) ∧ eqqQ
 (AV.agg [.str t_1, .str x_8.2, .str t_11]) ∧ eqqQ (AV.agg [.str t_0, .str x_8.1]) ∧ eqqQ (AV.str x_8.1) ∧ True) ∨ (∃ y_17 : Nat, Lf (y_17 = 0) ∧ (1 : Nat) < (1 : Nat) ∧ eqqQ (AV.str t_1) ∧ eqqQ (AV.int .i64 1) ∧ AV.int .i64 3
 = AV.int .i64 2 ∧ eqqQ (AV.int .u16 n) ∧ eqqQ (AV.str x_8.2) ∧ eqqQ (AV.agg [.str t_1, .str x_8.2, .str t_11]) ∧ eqqQ (AV.agg [.str t_0, .str x_8.1]) ∧ eqqQ (AV.str x_8.1) ∧ True) ∨ ∃ y_17 : Nat, Lf (y_17 = 0) ∧ (0 : Nat) <
 (1 : Nat) ∧ eqqQ (AV.str t_1) ∧ eqqQ (AV.int .i64 1) ∧ eqqQ (AV.int .i64 3) ∧ eqqQ (AV.int .u16 n) ∧ eqqQ (AV.str x_8.2) ∧ eqqQ (AV.agg [.str t_1, .str x_8.2, .str t_11]) ∧ eqqQ (AV.agg [.str t_0, .str x_8.1]) ∧ eqqQ
 (AV.str x_8.1) ∧ True) else Q (.ret (.bool false)) [] {} else exI IntKind.i64 (t_11.length : Int) (fun n_14 => bif decide (n_14 > 4096) then ∀ t_15 : List UInt8, ∀ e_16 : Int, Lf (tagSM x_8.1 t_11 = Prod.mk t_15 e_16) → ∀ b_17 : Bool,
 Lf (b_17 = toldM t_15 e_16 3 []) → bif b_17 then true = true ∧ (True ∧ (0 : Nat) = (0 : Nat)) ∧ ((∃ y_18 : Nat, Lf (y_18 = 0) ∧ (3 : Nat) < (1 : Nat) ∧ eqqQ (AV.str t_1) ∧ eqqQ (AV.int .i64 1) ∧ AV.int .i64 3 =
 AV.int .i64 0 ∧ eqqQ (AV.int .u16 n) ∧ eqqQ (AV.str x_8.2) ∧ eqqQ (AV.agg [.str t_1, .str x_8.2, .str t_11]) ∧ eqqQ (AV.agg [.str t_0, .str x_8.1]) ∧ eqqQ (AV.str x_8.1) ∧ True) ∨ (∃ y_18 : Nat, Lf (y_18 = 0) ∧ (2 : Nat) < (1
 : Nat) ∧ eqqQ (AV.str t_1) ∧ eqqQ (AV.int .i64 1) ∧ AV.int .i64 3 = AV.int .i64 1 ∧ eqqQ (AV.int .u16 n) ∧ eqqQ (AV.str x_8.2) ∧ eqqQ (AV.agg [.str t_1, .str x_8.2, .str t_11]) ∧ eqqQ (AV.agg [.str t_0, .str
 x_8.1]) ∧ eqqQ (AV.str x_8.1) ∧ True) ∨ (∃ y_18 : Nat, Lf (y_18 = 0) ∧ (1 : Nat) < (1 : Nat) ∧ eqqQ (AV.str t_1) ∧ eqqQ (AV.int .i64 1) ∧ AV.int .i64 3 = AV.int .i64 2 ∧ eqqQ (AV.int .u16 n) ∧ eqqQ (AV.str
 x_8.2) ∧ eqqQ (AV.agg [.str t_1, .str x_8.2, .str t_11]) ∧ eqqQ (AV.agg [.str t_0, .str x_8.1]) ∧ eqqQ (AV.str x_8.1) ∧ True) ∨ ∃ y_18 : Nat, Lf (y_18 = 0) ∧ (0 : Nat) < (1 : Nat) ∧ eqqQ (AV.str t_1) ∧ eqqQ (AV.int .i64 1) ∧ eqqQ
 (AV.int .i64 3) ∧ eqqQ (AV.int .u16 n) ∧ eqqQ (AV.str x_8.2) ∧ eqqQ (AV.agg [.str t_1, .str x_8.2, .str t_11]) ∧ eqqQ (AV.agg [.str t_0, .str x_8.1]) ∧ eqqQ (AV.str x_8.1) ∧ True) else Q (.ret (.bool false)) [] {} else
 Lf (x_8.1.length = 32 ∧ t_11.length ≤ 100000) ∧ ∀ t_15 : List UInt8, Lf (t_15 = tagM x_8.1 t_11) → ∀ t_16 : List UInt8, ∀ e_17 : Int, Lf (tagSM x_8.1 t_11 = Prod.mk t_16 e_17) → ∀ b_18 : Bool, Lf (b_18 = toldM t_16 e_17 0 t_15) → bif b_18
 then true = true ∧ (True ∧ (0 : Nat) = (0 : Nat)) ∧ ((∃ y_19 : Nat, Lf (y_19 = 0) ∧ (3 : Nat) < (1 : Nat) ∧ eqqQ (AV.str t_1) ∧ eqqQ (AV.int .i64 1) ∧ AV.int .i64 3 = AV.int .i64 0 ∧ eqqQ (AV.int .u16
 n) ∧ eqqQ (AV.str x_8.2) ∧ eqqQ (AV.agg [.str t_1, .str x_8.2, .str t_11]) ∧ eqqQ (AV.agg [.str t_0, .str x_8.1]) ∧ eqqQ (AV.str x_8.1) ∧ True) ∨ (∃ y_19 : Nat, Lf (y_19 = 0) ∧ (2 : Nat) < (1 : Nat) ∧ eqqQ (AV.str t_1) ∧ eqqQ (AV.int
 IntKind.i64 1) ∧ AV.int .i64 3 = AV.int .i64 1 ∧ eqqQ (AV.int .u16 n) ∧ eqqQ (AV.str x_8.2) ∧ eqqQ (AV.agg [.str t_1, .str x_8.2, .str t_11]) ∧ eqqQ (AV.agg [.str t_0, .str x_8.1]) ∧ eqqQ (AV.str x_8.1) ∧ True) ∨ (∃
 y_19 : Nat, Lf (y_19 = 0) ∧ (1 : Nat) < (1 : Nat) ∧ eqqQ (AV.str t_1) ∧ eqqQ (AV.int .i64 1) ∧ AV.int .i64 3 = AV.int .i64 2 ∧ eqqQ (AV.int .u16 n) ∧ eqqQ (AV.str x_8.2) ∧ eqqQ (AV.agg [.str t_1, .str x_8.2,
 .str t_11]) ∧ eqqQ (AV.agg [.str t_0, .str x_8.1]) ∧ eqqQ (AV.str x_8.1) ∧ True) ∨ ∃ y_19 : Nat, Lf (y_19 = 0) ∧ (0 : Nat) < (1 : Nat) ∧ eqqQ (AV.str t_1) ∧ eqqQ (AV.int .i64 1) ∧ eqqQ (AV.int .i64 3) ∧ eqqQ (AV.int
 IntKind.u16 n) ∧ eqqQ (AV.str x_8.2) ∧ eqqQ (AV.agg [.str t_1, .str x_8.2, .str t_11]) ∧ eqqQ (AV.agg [.str t_0, .str x_8.1]) ∧ eqqQ (AV.str x_8.1) ∧ True) else Q (.ret (.bool false)) [] {}))) ∧ ∀ x_12 : Nat, Lf (x_12 = 0) → true
 = true ∧ (True ∧ (0 : Nat) = (0 : Nat)) ∧ ((∃ y_13 : List UInt8 × List UInt8, Lf (y_13.1.length = 32 ∧ y_13.2.length ≤ 100000) ∧ (2 : Nat) < (1 : Nat) ∧ eqqQ (AV.str t_1) ∧ AV.int .i64 2 = AV.int .i64 0 ∧ eqqQ (AV.int
 IntKind.u16 n) ∧ AV.str x_8.2 = AV.str y_13.2 ∧ AV.agg [.str t_0, .str x_8.1] = AV.agg [.str t_0, .str y_13.1] ∧ True) ∨ (∃ y_13 : List UInt8 × List UInt8, Lf (y_13.1.length = 32 ∧ y_13.2.length ≤ 100000) ∧ (1 : Nat) < (1 : Nat) ∧ eqqQ
 (AV.str t_1) ∧ AV.int .i64 2 = AV.int .i64 1 ∧ eqqQ (AV.int .u16 n) ∧ AV.str x_8.2 = AV.str y_13.2 ∧ AV.agg [.str t_0, .str x_8.1] = AV.agg [.str t_0, .str y_13.1] ∧ True) ∨ ∃ y_13 : List UInt8 × List UInt8, Lf
 (y_13.1.length = 32 ∧ y_13.2.length ≤ 100000) ∧ (0 : Nat) < (1 : Nat) ∧ eqqQ (AV.str t_1) ∧ eqqQ (AV.int .i64 2) ∧ eqqQ (AV.int .u16 n) ∧ AV.str x_8.2 = AV.str y_13.2 ∧ AV.agg [.str t_0, .str x_8.1] = AV.agg [.str t_0, .str
 y_13.1] ∧ True)))) ∧ ∀ x_8 : List UInt8 × List UInt8, Lf (x_8.1.length = 32 ∧ x_8.2.length ≤ 100000) → Q (.ret (.bool true)) [] {}
theorem vc_3 (key : List UInt8) (s : List UInt8) (n : Int) (g : Bool) (Q : Out → List Blk → Gh → Prop) : goal_3 (lookV [(12321, .int .i64), (12324, .int .i64), (12328, .int .u8), (12329, .int .u8), (12331, .int .i64), (12333, .str), (12336,
 .int .i64), (12337, .int .i64), (12340, .int .i64), (12353, .int .i64), (12354, .int .i64), (12365, .int .i64), (12369, .int .i64)]) (lookB [(1012288000, true), (1012304384, true), (1012296192, true)]) key s n g Q = (Lf ((0 : Int) ≤ (40 :
 Int) ∧ key.length ≤ 9223372036854775807) ∧ ∀ t_0 : List UInt8, Lf (t_0 = key.take (Int.toNat 40)) → Lf ((0 : Int) ≤ (300 : Int) ∧ s.length ≤ 9223372036854775807) ∧ ∀ t_1 : List UInt8, Lf (t_1 = s.take (Int.toNat 300)) → Lf ((0 : Int) ≤ (32
 : Int) ∧ (32 : Int) ≤ (100000 : Int) ∧ t_0.length ≤ 100000) ∧ ∀ t_2 : List UInt8, Lf (t_2 = sizedM t_0 (Int.toNat 32)) → bif g then ckQ (Nat.beq (ofBytes t_2).length t_2.length) (exI IntKind.i64 (t_2.length : Int) (fun n_3 => (∃ x_4 : Nat
 × List UInt8, Lf ((x_4.2.length : Int) = n_3 ∧ x_4.1 ≤ x_4.2.length) ∧ ckQ (oldL 0 (ofBytes t_2) == oldL 0 (ofBytes t_2)) (ofBytes t_2 = ofBytes x_4.2 ∧ eqqQ (AV.str t_0) ∧ eqqQ (AV.str t_1) ∧ eqqQ (AV.int IntKind.i64 n_3) ∧ eqqQ (AV.int
 .u16 n) ∧ eqqQ (AV.sl 0 t_2.length 0 t_2.length 1) ∧ AV.int .i64 0 = AV.int .i64 (x_4.1 : Int) ∧ True)) ∧ ∀ x_4 : Nat × List UInt8, Lf ((x_4.2.length : Int) = n_3 ∧ x_4.1 ≤ x_4.2.length) → bif decide ((x_4.1 : Int) < n_3) then exI
 IntKind.i64 (x_4.1 : Int) (fun n_5 => ckQ (decide (0 ≤ n_5) && Nat.blt n_5.toNat t_2.length && Nat.beq (ofBytes x_4.2).length t_2.length && true) (ckQ (Nat.beq (ofBytes x_4.2).length t_2.length && Nat.blt (0 + n_5.toNat * 1) t_2.length)
 (exV IntKind.u8 ((((ofBytes x_4.2).drop (0 + n_5.toNat * 1)).take 1).getD 0 AV.undef) (fun n_6 => exW IntKind.u8 (((n_6 % 256).toNat ||| 240 : Nat) : Int) (fun n_7 => ckQ (decide (0 ≤ n_5) && Nat.blt n_5.toNat t_2.length && Nat.beq
 (ofBytes x_4.2).length t_2.length && true) (ckQ (Nat.beq (ofBytes x_4.2).length t_2.length && Nat.ble (0 + n_5.toNat * 1 + 1) t_2.length && true && true && true) (exW IntKind.i64 ((x_4.1 : Int) + 1) (fun n_8 => ((oldL 0 (ofBytes t_2) &&
 true || oldL 1 (setRange (ofBytes x_4.2) (0 + n_5.toNat * 1) [.int IntKind.u8 n_7])) && true) = true ∧ (True ∧ (0 : Nat) = (0 : Nat)) ∧ ∃ y_9 : Nat × List UInt8, Lf ((y_9.2.length : Int) = n_3 ∧ y_9.1 ≤ y_9.2.length) ∧ n_3.toNat - y_9.1 <
 n_3.toNat - x_4.1 ∧ ckQ ((oldL 0 (ofBytes t_2) && true) == oldL 0 (ofBytes t_2)) (setRange (ofBytes x_4.2) (0 + n_5.toNat * 1) [.int IntKind.u8 n_7] = ofBytes y_9.2 ∧ eqqQ (AV.str t_0) ∧ eqqQ (AV.str t_1) ∧ eqqQ (AV.int .i64 n_3) ∧ eqqQ
 (AV.int .u16 n) ∧ eqqQ (AV.sl 0 t_2.length 0 t_2.length 1) ∧ AV.int .i64 n_8 = AV.int .i64 (y_9.1 : Int) ∧ True))))))))) else ckQ (Nat.beq (ofBytes x_4.2).length t_2.length && Nat.ble (0 + t_2.length) t_2.length && true && allU8 (((ofBytes
 x_4.2).drop 0).take t_2.length)) (exS (.str (List.map toB (((ofBytes x_4.2).drop 0).take t_2.length))) (fun s_5 => exW IntKind.i64 n (fun n_6 => exI IntKind.i64 (n_6.tmod 4200) (fun n_7 => Lf (0 ≤ n_7 ∧ n_7 ≤ 100000 ∧ t_1.length ≤ 100000)
 ∧ ∀ t_8 : List UInt8, Lf (t_8 = sizedM t_1 n_7.toNat) → exI IntKind.i64 (t_8.length : Int) (fun n_9 => bif decide (n_9 ≤ 4096) then Lf ((0 : Int) ≤ (600 : Int) ∧ t_8.length ≤ 9223372036854775807) ∧ ∀ t_10 : List UInt8, Lf (t_10 = t_8.take
 (Int.toNat 600)) → ((∃ x_11 : List UInt8 × List UInt8, Lf (x_11.1.length = 32 ∧ x_11.2.length ≤ 100000) ∧ ckQ (oldL 0 (ofBytes t_2) == oldL 0 (ofBytes t_2)) (eqqQ (ofBytes x_4.2) ∧ eqqQ (AV.str t_1) ∧ eqqQ (AV.int .i64 0) ∧ eqqQ (AV.int
 .u16 n) ∧ AV.str t_10 = AV.str x_11.2 ∧ AV.agg [.str t_0, .str s_5] = AV.agg [.str t_0, .str x_11.1] ∧ True)) ∨ (∃ x_11 : List UInt8 × List UInt8, Lf (x_11.1.length = 32 ∧ x_11.2.length ≤ 100000) ∧ ckQ (oldL 0 (ofBytes t_2) == oldL 0
 (ofBytes t_2)) (eqqQ (ofBytes x_4.2) ∧ eqqQ (AV.str t_1) ∧ AV.int .i64 0 = AV.int .i64 1 ∧ eqqQ (AV.int .u16 n) ∧ AV.str t_10 = AV.str x_11.2 ∧ AV.agg [.str t_0, .str s_5] = AV.agg [.str t_0, .str x_11.1] ∧ True)) ∨ ∃ x_11 : List UInt8 ×
 List UInt8, Lf (x_11.1.length = 32 ∧ x_11.2.length ≤ 100000) ∧ ckQ (oldL 0 (ofBytes t_2) == oldL 0 (ofBytes t_2)) (eqqQ (ofBytes x_4.2) ∧ eqqQ (AV.str t_1) ∧ AV.int .i64 0 = AV.int .i64 2 ∧ eqqQ (AV.int .u16 n) ∧ AV.str t_10 = AV.str
 x_11.2 ∧ AV.agg [.str t_0, .str s_5] = AV.agg [.str t_0, .str x_11.1] ∧ True)) ∧ loopA n t_2 x_4 t_1 t_0 Q else ((∃ x_10 : List UInt8 × List UInt8, Lf (x_10.1.length = 32 ∧ x_10.2.length ≤ 100000) ∧ ckQ (oldL 0 (ofBytes t_2) == oldL 0
 (ofBytes t_2)) (eqqQ (ofBytes x_4.2) ∧ eqqQ (AV.str t_1) ∧ eqqQ (AV.int .i64 0) ∧ eqqQ (AV.int .u16 n) ∧ AV.str t_8 = AV.str x_10.2 ∧ AV.agg [.str t_0, .str s_5] = AV.agg [.str t_0, .str x_10.1] ∧ True)) ∨ (∃ x_10 : List UInt8 × List
 UInt8, Lf (x_10.1.length = 32 ∧ x_10.2.length ≤ 100000) ∧ ckQ (oldL 0 (ofBytes t_2) == oldL 0 (ofBytes t_2)) (eqqQ (ofBytes x_4.2) ∧ eqqQ (AV.str t_1) ∧ AV.int .i64 0 = AV.int .i64 1 ∧ eqqQ (AV.int .u16 n) ∧ AV.str t_8 = AV.str x_10.2 ∧
 AV.agg [.str t_0, .str s_5] = AV.agg [.str t_0, .str x_10.1] ∧ True)) ∨ ∃ x_10 : List UInt8 × List UInt8, Lf (x_10.1.length = 32 ∧ x_10.2.length ≤ 100000) ∧ ckQ (oldL 0 (ofBytes t_2) == oldL 0 (ofBytes t_2)) (eqqQ (ofBytes x_4.2) ∧ eqqQ
 (AV.str t_1) ∧ AV.int .i64 0 = AV.int .i64 2 ∧ eqqQ (AV.int .u16 n) ∧ AV.str t_8 = AV.str x_10.2 ∧ AV.agg [.str t_0, .str s_5] = AV.agg [.str t_0, .str x_10.1] ∧ True)) ∧ loopA n t_2 x_4 t_1 t_0 Q))))))) else exW IntKind.i64 n (fun n_3 =>
 exI IntKind.i64 (n_3.tmod 4200) (fun n_4 => Lf (0 ≤ n_4 ∧ n_4 ≤ 100000 ∧ t_1.length ≤ 100000) ∧ ∀ t_5 : List UInt8, Lf (t_5 = sizedM t_1 n_4.toNat) → exI IntKind.i64 (t_5.length : Int) (fun n_6 => bif decide (n_6 ≤ 4096) then Lf ((0 : Int)
 ≤ (600 : Int) ∧ t_5.length ≤ 9223372036854775807) ∧ ∀ t_7 : List UInt8, Lf (t_7 = t_5.take (Int.toNat 600)) → ((∃ x_8 : List UInt8 × List UInt8, Lf (x_8.1.length = 32 ∧ x_8.2.length ≤ 100000) ∧ eqqQ (AV.str t_1) ∧ eqqQ (AV.int .i64 0) ∧
 eqqQ (AV.int .u16 n) ∧ AV.str t_7 = AV.str x_8.2 ∧ AV.agg [.str t_0, .str t_2] = AV.agg [.str t_0, .str x_8.1] ∧ True) ∨ (∃ x_8 : List UInt8 × List UInt8, Lf (x_8.1.length = 32 ∧ x_8.2.length ≤ 100000) ∧ eqqQ (AV.str t_1) ∧ AV.int
 IntKind.i64 0 = AV.int .i64 1 ∧ eqqQ (AV.int .u16 n) ∧ AV.str t_7 = AV.str x_8.2 ∧ AV.agg [.str t_0, .str t_2] = AV.agg [.str t_0, .str x_8.1] ∧ True) ∨ ∃ x_8 : List UInt8 × List UInt8, Lf (x_8.1.length = 32 ∧ x_8.2.length ≤ 100000) ∧ eqqQ
 (AV.str t_1) ∧ AV.int .i64 0 = AV.int .i64 2 ∧ eqqQ (AV.int .u16 n) ∧ AV.str t_7 = AV.str x_8.2 ∧ AV.agg [.str t_0, .str t_2] = AV.agg [.str t_0, .str x_8.1] ∧ True) ∧ loopB n t_1 t_0 Q else ((∃ x_7 : List UInt8 × List UInt8, Lf
 (x_7.1.length = 32 ∧ x_7.2.length ≤ 100000) ∧ eqqQ (AV.str t_1) ∧ eqqQ (AV.int .i64 0) ∧ eqqQ (AV.int .u16 n) ∧ AV.str t_5 = AV.str x_7.2 ∧ AV.agg [.str t_0, .str t_2] = AV.agg [.str t_0, .str x_7.1] ∧ True) ∨ (∃ x_7 : List UInt8 × List
 UInt8, Lf (x_7.1.length = 32 ∧ x_7.2.length ≤ 100000) ∧ eqqQ (AV.str t_1) ∧ AV.int .i64 0 = AV.int .i64 1 ∧ eqqQ (AV.int .u16 n) ∧ AV.str t_5 = AV.str x_7.2 ∧ AV.agg [.str t_0, .str t_2] = AV.agg [.str t_0, .str x_7.1] ∧ True) ∨ ∃ x_7 :
 List UInt8 × List UInt8, Lf (x_7.1.length = 32 ∧ x_7.2.length ≤ 100000) ∧ eqqQ (AV.str t_1) ∧ AV.int .i64 0 = AV.int .i64 2 ∧ eqqQ (AV.int .u16 n) ∧ AV.str t_5 = AV.str x_7.2 ∧ AV.agg [.str t_0, .str t_2] = AV.agg [.str t_0, .str x_7.1] ∧
 True) ∧ loopB n t_1 t_0 Q)))) := by kernel_rfl

/-! ## the proof -/
theorem eqBB (s : List UInt8) : eqB s s = true := by
  induction s with
  | nil => rfl
  | cons a s ih => simp [eqB, ih]
theorem inner (k t : List UInt8) (ht : t.length ≤ 100000) {R QF : Prop} (hR : R) :
    exI .i64 (k.length : Int) fun n => bif n != 32 then ∀ (v : List UInt8) (e : Int), Lf (tagSM k t = (v, e)) → ∀ b : Bool, Lf (b = toldM v e 2 []) → bif b then R else QF
      else exI .i64 (t.length : Int) fun n => bif decide (n > 4096) then ∀ (v : List UInt8) (e : Int), Lf (tagSM k t = (v, e)) → ∀ b : Bool, Lf (b = toldM v e 3 []) → bif b then R else QF
        else Lf (k.length = 32 ∧ t.length ≤ 100000) ∧ ∀ w : List UInt8, Lf (w = tagM k t) → ∀ (v : List UInt8) (e : Int), Lf (tagSM k t = (v, e)) → ∀ b : Bool, Lf (b = toldM v e 0 w) → bif b then R else QF := by
  refine ⟨_, rfl, splitNE (fun h1 => ?_) (fun h1 => ⟨_, rfl, splitD (fun h2 => ?_) (fun h2 => ⟨⟨by omega, ht⟩, ?_⟩)⟩)⟩
  · rintro v e ⟨h⟩ b ⟨rfl⟩
    rw [tagSM, if_pos (by omega), Prod.mk.injEq] at h
    obtain ⟨rfl, rfl⟩ := h
    exact hR
  · rintro v e ⟨h⟩ b ⟨rfl⟩
    rw [tagSM, if_neg (by omega), if_pos (by omega), Prod.mk.injEq] at h
    obtain ⟨rfl, rfl⟩ := h
    exact hR
  · rintro w ⟨rfl⟩ v e ⟨h⟩ b ⟨rfl⟩
    rw [tagSM, if_neg (by omega), if_neg (by omega), Prod.mk.injEq] at h
    obtain ⟨rfl, rfl⟩ := h
    rw [toldM, if_neg (by simp), eqBB]
    exact hR
theorem loopB_ok (n : Int) (t1 t0 : List UInt8) (hn : 0 ≤ n ∧ n ≤ 65535) (h1 : t1.length ≤ 100000) (Q : Out → List Blk → Gh → Prop) (hq : Q (.ret (.bool true)) [] {}) : loopB n t1 t0 Q := by
  unfold loopB
  refine ⟨?_, ?_, ?_⟩
  · rintro x ⟨hx1, hx2⟩
    refine wrapI (by omega) (by omega) ⟨_, rfl, ?_⟩
    have hm : 0 ≤ n.tmod 100 ∧ n.tmod 100 ≤ 99 := by rw [Int.tmod_eq_emod_of_nonneg (by omega)]; omega
    refine ⟨⟨hm.1, by omega, by decide⟩, ?_⟩
    rintro tf ⟨htf⟩
    have htl : tf.length ≤ 100000 := by
      have := sized_len [255] (n.tmod 100).toNat
      rw [← htf] at this
      omega
    refine ⟨.inl ⟨0, ⟨rfl⟩, rfl, rfl, rfl, rfl, rfl, rfl, rfl, rfl, trivial⟩, ?_, ?_, ?_, ?_⟩
    · rintro _ ⟨rfl⟩
      exact inner _ _ (by omega) ⟨rfl, ⟨trivial, rfl⟩, .inr (.inl ⟨0, ⟨rfl⟩, by decide, rfl, rfl, rfl, rfl, rfl, rfl, rfl, rfl, trivial⟩)⟩
    · rintro _ ⟨rfl⟩
      exact inner _ _ (by omega) ⟨rfl, ⟨trivial, rfl⟩, .inr (.inr (.inl ⟨0, ⟨rfl⟩, by decide, rfl, rfl, rfl, rfl, rfl, rfl, rfl, rfl, trivial⟩))⟩
    · rintro _ ⟨rfl⟩
      exact inner _ _ (by omega) ⟨rfl, ⟨trivial, rfl⟩, .inr (.inr (.inr ⟨0, ⟨rfl⟩, by decide, rfl, rfl, rfl, rfl, rfl, rfl, rfl, rfl, trivial⟩))⟩
    · rintro _ ⟨rfl⟩
      exact ⟨rfl, ⟨trivial, rfl⟩, .inr (.inl ⟨x, ⟨hx1, hx2⟩, by decide, rfl, rfl, rfl, rfl, rfl, trivial⟩)⟩
  · rintro x ⟨hx1, hx2⟩
    refine wrapI (by omega) (by omega) ⟨_, rfl, ?_⟩
    have hm : 0 ≤ n.tmod 100 ∧ n.tmod 100 ≤ 99 := by rw [Int.tmod_eq_emod_of_nonneg (by omega)]; omega
    refine ⟨⟨hm.1, by omega, by decide⟩, ?_⟩
    rintro tf ⟨htf⟩
    have htl : tf.length ≤ 100000 := by
      have := sized_len [255] (n.tmod 100).toNat
      rw [← htf] at this
      omega
    refine ⟨.inl ⟨0, ⟨rfl⟩, rfl, rfl, rfl, rfl, rfl, rfl, rfl, rfl, trivial⟩, ?_, ?_, ?_, ?_⟩
    · rintro _ ⟨rfl⟩
      exact inner _ _ (by omega) ⟨rfl, ⟨trivial, rfl⟩, .inr (.inl ⟨0, ⟨rfl⟩, by decide, rfl, rfl, rfl, rfl, rfl, rfl, rfl, rfl, trivial⟩)⟩
    · rintro _ ⟨rfl⟩
      exact inner _ _ (by omega) ⟨rfl, ⟨trivial, rfl⟩, .inr (.inr (.inl ⟨0, ⟨rfl⟩, by decide, rfl, rfl, rfl, rfl, rfl, rfl, rfl, rfl, trivial⟩))⟩
    · rintro _ ⟨rfl⟩
      exact inner _ _ (by omega) ⟨rfl, ⟨trivial, rfl⟩, .inr (.inr (.inr ⟨0, ⟨rfl⟩, by decide, rfl, rfl, rfl, rfl, rfl, rfl, rfl, rfl, trivial⟩))⟩
    · rintro _ ⟨rfl⟩
      exact ⟨rfl, ⟨trivial, rfl⟩, .inr (.inr ⟨x, ⟨hx1, hx2⟩, by decide, rfl, rfl, rfl, rfl, rfl, trivial⟩)⟩
  · rintro x ⟨hx1, hx2⟩
    exact hq
theorem loopA_ok (n : Int) (t2 : List UInt8) (x4 : Nat × List UInt8) (t1 t0 : List UInt8) (hn : 0 ≤ n ∧ n ≤ 65535) (h1 : t1.length ≤ 100000) (Q : Out → List Blk → Gh → Prop) (hq : Q (.ret (.bool true)) [] {}) : loopA n t2 x4 t1 t0 Q := by
  unfold loopA
  have hB : (oldL 0 (ofBytes t2) == oldL 0 (ofBytes t2)) = true := by simp
  have hO : ((oldL 0 (ofBytes t2) || oldL 1 (ofBytes x4.2)) && true) = true := by rw [oldL_ofB]; rfl
  refine ⟨?_, ?_, ?_⟩
  · rintro x ⟨hx1, hx2⟩
    refine wrapI (by omega) (by omega) ⟨_, rfl, ?_⟩
    have hm : 0 ≤ n.tmod 100 ∧ n.tmod 100 ≤ 99 := by rw [Int.tmod_eq_emod_of_nonneg (by omega)]; omega
    refine ⟨⟨hm.1, by omega, by decide⟩, ?_⟩
    rintro tf ⟨htf⟩
    have htl : tf.length ≤ 100000 := by
      have := sized_len [255] (n.tmod 100).toNat
      rw [← htf] at this
      omega
    refine ⟨.inl ⟨0, ⟨rfl⟩, ckI hB ⟨rfl, rfl, rfl, rfl, rfl, rfl, rfl, rfl, rfl, trivial⟩⟩, ?_, ?_, ?_, ?_⟩
    · rintro _ ⟨rfl⟩
      exact inner _ _ (by omega) ⟨hO, ⟨trivial, rfl⟩, .inr (.inl ⟨0, ⟨rfl⟩, by decide, ckI hB ⟨rfl, rfl, rfl, rfl, rfl, rfl, rfl, rfl, rfl, trivial⟩⟩)⟩
    · rintro _ ⟨rfl⟩
      exact inner _ _ (by omega) ⟨hO, ⟨trivial, rfl⟩, .inr (.inr (.inl ⟨0, ⟨rfl⟩, by decide, ckI hB ⟨rfl, rfl, rfl, rfl, rfl, rfl, rfl, rfl, rfl, trivial⟩⟩))⟩
    · rintro _ ⟨rfl⟩
      exact inner _ _ (by omega) ⟨hO, ⟨trivial, rfl⟩, .inr (.inr (.inr ⟨0, ⟨rfl⟩, by decide, ckI hB ⟨rfl, rfl, rfl, rfl, rfl, rfl, rfl, rfl, rfl, trivial⟩⟩))⟩
    · rintro _ ⟨rfl⟩
      exact ⟨hO, ⟨trivial, rfl⟩, .inr (.inl ⟨x, ⟨hx1, hx2⟩, by decide, ckI hB ⟨rfl, rfl, rfl, rfl, rfl, rfl, trivial⟩⟩)⟩
  · rintro x ⟨hx1, hx2⟩
    refine wrapI (by omega) (by omega) ⟨_, rfl, ?_⟩
    have hm : 0 ≤ n.tmod 100 ∧ n.tmod 100 ≤ 99 := by rw [Int.tmod_eq_emod_of_nonneg (by omega)]; omega
    refine ⟨⟨hm.1, by omega, by decide⟩, ?_⟩
    rintro tf ⟨htf⟩
    have htl : tf.length ≤ 100000 := by
      have := sized_len [255] (n.tmod 100).toNat
      rw [← htf] at this
      omega
    refine ⟨.inl ⟨0, ⟨rfl⟩, ckI hB ⟨rfl, rfl, rfl, rfl, rfl, rfl, rfl, rfl, rfl, trivial⟩⟩, ?_, ?_, ?_, ?_⟩
    · rintro _ ⟨rfl⟩
      exact inner _ _ (by omega) ⟨hO, ⟨trivial, rfl⟩, .inr (.inl ⟨0, ⟨rfl⟩, by decide, ckI hB ⟨rfl, rfl, rfl, rfl, rfl, rfl, rfl, rfl, rfl, trivial⟩⟩)⟩
    · rintro _ ⟨rfl⟩
      exact inner _ _ (by omega) ⟨hO, ⟨trivial, rfl⟩, .inr (.inr (.inl ⟨0, ⟨rfl⟩, by decide, ckI hB ⟨rfl, rfl, rfl, rfl, rfl, rfl, rfl, rfl, rfl, trivial⟩⟩))⟩
    · rintro _ ⟨rfl⟩
      exact inner _ _ (by omega) ⟨hO, ⟨trivial, rfl⟩, .inr (.inr (.inr ⟨0, ⟨rfl⟩, by decide, ckI hB ⟨rfl, rfl, rfl, rfl, rfl, rfl, rfl, rfl, rfl, trivial⟩⟩))⟩
    · rintro _ ⟨rfl⟩
      exact ⟨hO, ⟨trivial, rfl⟩, .inr (.inr ⟨x, ⟨hx1, hx2⟩, by decide, ckI hB ⟨rfl, rfl, rfl, rfl, rfl, rfl, trivial⟩⟩)⟩
  · rintro x ⟨hx1, hx2⟩
    exact hq
theorem exW_of {k : IntKind} {x y : Int} {K : Int → Prop} (h : IntKind.wrap k x = y) (hk : K y) : ∃ n, AV.int k (IntKind.wrap k x) = AV.int k n ∧ K n := ⟨y, by rw [h], hk⟩
theorem tags_run (key s : List UInt8) (n : Int) (g : Bool) (hkl : key.length ≤ 9223372036854775807) (hsl : s.length ≤ 9223372036854775807) (hn : 0 ≤ n ∧ n ≤ 65535) (Q : Out → List Blk → Gh → Prop) (hq : Q (.ret (.bool true)) [] {}) : ∃ hv hb, goal_3 hv hb key s n g Q := by
  obtain ⟨hv, hb', e⟩ : ∃ hv hb, goal_3 hv hb key s n g Q = _ := ⟨_, _, vc_3 key s n g Q⟩
  refine ⟨hv, hb', e.mpr ?_⟩
  clear e
  have hm : 0 ≤ n.tmod 4200 ∧ n.tmod 4200 ≤ 4199 := by rw [Int.tmod_eq_emod_of_nonneg (by omega)]; omega
  refine ⟨⟨by decide, hkl⟩, ?_⟩
  rintro t0 ⟨h0⟩
  have l0 : t0.length ≤ 40 := by rw [h0, List.length_take]; simp; omega
  refine ⟨⟨by decide, hsl⟩, ?_⟩
  rintro t1 ⟨h1⟩
  have l1 : t1.length ≤ 300 := by rw [h1, List.length_take]; simp; omega
  refine ⟨⟨by decide, by decide, by omega⟩, ?_⟩
  rintro t2 ⟨h2⟩
  have l2 : t2.length = 32 := by rw [h2, sized_len]; rfl
  cases g with
  | true =>
    refine ckI (by rw [ofB_len]; simp) ⟨_, rfl, ⟨⟨(0, t2), ⟨rfl, by dsimp only; omega⟩, ckI (by simp) ⟨rfl, rfl, rfl, rfl, rfl, rfl, rfl, trivial⟩⟩, ?_⟩⟩
    rintro ⟨i, L⟩ ⟨g1, g2⟩
    dsimp only at g1 g2 ⊢
    have hL : L.length = 32 := by omega
    have hlB : (ofBytes L).length = 32 := by rw [ofB_len, hL]
    refine splitD (fun h => ?_) (fun h => ?_)
    · have hc := (L.getD i 0).toNat_lt
      obtain ⟨d, hd⟩ : ∃ d : UInt8, IntKind.wrap .u8 (((((L.getD i 0).toNat : Int) % 256).toNat ||| 240 : Nat) : Int) = (d.toNat : Int) := by
        obtain ⟨m, hm⟩ : ∃ m : Nat, m = ((((L.getD i 0).toNat : Int) % 256).toNat ||| 240 : Nat) := ⟨_, rfl⟩
        rw [← hm]
        exact ⟨UInt8.ofNat m, by rw [UInt8.toNat_ofNat']; simp [IntKind.wrap, IntKind.bits, IntKind.signed]⟩
      refine ⟨_, rfl, ckI (by rw [hlB, l2]; simp; omega) (ckI (by rw [hlB, l2]; simp; omega) (ldB (j := i) (by omega) (by simp) (exW_of hd (ckI (by rw [hlB, l2]; simp; omega) (ckI (by rw [hlB, l2]; simp; omega) (wrapI (by omega) (by omega) ⟨by rw [oldL_ofB]; rfl, ⟨trivial, rfl⟩, (i + 1, L.set i d), ⟨by dsimp only; rw [List.length_set]; omega, by dsimp only; rw [List.length_set]; omega⟩, by dsimp only; omega, ckI (by rw [Bool.and_true]; simp) ⟨stB (by omega) (by simp), rfl, rfl, rfl, rfl, rfl, rfl, trivial⟩⟩))))))⟩
    · refine ckI (by rw [hlB, l2, List.drop_zero, List.take_of_length_le (by omega), allU8_ofB]; rfl) ⟨L, by rw [strB (by omega) rfl], wrapI (by omega) (by omega) ⟨_, rfl, ⟨hm.1, by omega, by omega⟩, ?_⟩⟩
      rintro t8 ⟨h8⟩
      have l8 : t8.length ≤ 4199 := by rw [h8, sized_len]; omega
      refine ⟨_, rfl, splitD (fun h => ⟨⟨by decide, by omega⟩, ?_⟩) (fun h => ?_)⟩
      · rintro ta ⟨ha⟩
        have la : ta.length ≤ 600 := by rw [ha, List.length_take]; simp; omega
        exact ⟨.inl ⟨(L, ta), ⟨hL, by dsimp only; omega⟩, ckI (by simp) ⟨rfl, rfl, rfl, rfl, rfl, rfl, trivial⟩⟩, loopA_ok n t2 (i, L) t1 t0 hn (by omega) Q hq⟩
      · exact ⟨.inl ⟨(L, t8), ⟨hL, by dsimp only; omega⟩, ckI (by simp) ⟨rfl, rfl, rfl, rfl, rfl, rfl, trivial⟩⟩, loopA_ok n t2 (i, L) t1 t0 hn (by omega) Q hq⟩
  | false =>
    refine wrapI (by omega) (by omega) ⟨_, rfl, ⟨hm.1, by omega, by omega⟩, ?_⟩
    rintro t8 ⟨h8⟩
    have l8 : t8.length ≤ 4199 := by rw [h8, sized_len]; omega
    refine ⟨_, rfl, splitD (fun h => ⟨⟨by decide, by omega⟩, ?_⟩) (fun h => ?_)⟩
    · rintro ta ⟨ha⟩
      have la : ta.length ≤ 600 := by rw [ha, List.length_take]; simp; omega
      exact ⟨.inl ⟨(t2, ta), ⟨l2, by dsimp only; omega⟩, rfl, rfl, rfl, rfl, rfl, trivial⟩, loopB_ok n t1 t0 hn (by omega) Q hq⟩
    · exact ⟨.inl ⟨(t2, t8), ⟨l2, by dsimp only; omega⟩, rfl, rfl, rfl, rfl, rfl, trivial⟩, loopB_ok n t1 t0 hn (by omega) Q hq⟩
end Go.Proofs.Ytlfbaakndklncaa
