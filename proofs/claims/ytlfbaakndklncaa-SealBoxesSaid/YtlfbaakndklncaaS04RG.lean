/-
  Chapter 4: SealTags.
-/
import Derived.Test.YtlfbaakndklncaaS04RF
set_option linter.unusedSimpArgs false
set_option linter.unusedVariables false
set_option linter.unusedSectionVars false
namespace Go.Proofs.Ytlfbaakndklncaa
open Go.RowKit
set_option maxRecDepth 1000000

def cTagR : Con
  | [.str key, .str s], H, K => Lf (key.length = 32 ∧ s.length ≤ 100000) ∧ ∀ t, Lf (t = tagM key s) → K (.ret (.str t)) H
  | _, _, _ => False
theorem rtag_ok : ValidF Try.prog gl0 13 cTagR := by
  refine valid_flat (enters_of (by kernel_rfl)) gl0_noY fun args H Q hc => ?_
  unfold cTagR at hc
  split at hc
  · rename_i key s
    obtain ⟨⟨h1, h2⟩, hq⟩ := hc
    obtain ⟨hv, hb', h⟩ := rtag_run key s h1 h2 (Q := fun o H' _ => H' = [] ∧ (∃ v, o = .ret v ∧ old 0 v = true ∧ noY v = true) ∧ Q o H) ⟨rfl, ⟨_, rfl, rfl, rfl⟩, hq _ ⟨rfl⟩⟩
    exact ⟨rfl, rfl, _, 1000, envFor_13 _ _, rfl, h⟩
  · exact hc.elim
/-! ## cut and told -/
noncomputable def goal_11 (hv : Nat → Option Pa) (hb : Nat → Option Bool) (s : List UInt8) (n : Int) (Q : Out → List Blk → Gh → Prop) : Prop :=
  callx (e04 sm0 (fun _ => none) hv hb) (wpx (e04 sm0 (fun _ => none) hv hb) 1000) 11 [.str s, .int .i64 n] [] {} Q
theorem vc_11 (s : List UInt8) (n : Int) (Q : Out → List Blk → Gh → Prop) : goal_11 (lookV [(45063, .int .i64), (45065, .int .i64), (45066, .str)]) (lookB []) s n Q = (
(∃ n_0 : Int, (((AV.int .i64 (Nat.cast (List.length s) : Int)) = (AV.int .i64 n_0)) ∧
 (∃ n_1 : Int, (((AV.int .i64 (imin n_0 n)) = (AV.int .i64 n_1)) ∧
 (bif (((decide ((0 : Int) ≤ n_1)) && true) && (Nat.ble (Int.toNat n_1) (List.length s))) then (∃ s_2 : (List UInt8), (((AV.str (List.take ((Int.toNat n_1) - (0 : Nat)) (List.drop (0 : Nat) s))) = (AV.str s_2)) ∧
 (Q (Out.ret (AV.str s_2)) [] (Gh.mk (0 : Nat) (0 : Nat) []))))
else False)))))) := by kernel_rfl

noncomputable def goal_15 (hv : Nat → Option Pa) (hb : Nat → Option Bool) (v : List UInt8) (e no : Int) (w : List UInt8) (Q : Out → List Blk → Gh → Prop) : Prop :=
  callx (e04 sm0 (fun _ => none) hv hb) (wpx (e04 sm0 (fun _ => none) hv hb) 1000) 15 [.str v, .int .i64 e, .int .i64 no, .str w] [] {} Q
theorem vc_15 (v : List UInt8) (e : Int) (no : Int) (w : List UInt8) (Q : Out → List Blk → Gh → Prop) : goal_15 (lookV []) (lookB []) v e no w Q = (
(bif (no != (0 : Int)) then (bif (eqB v []) then (bif (e == no) then (Q (Out.ret (AV.bool true)) [] (Gh.mk (0 : Nat) (0 : Nat) []))
else (Q (Out.ret (AV.bool false)) [] (Gh.mk (0 : Nat) (0 : Nat) [])))
else (Q (Out.ret (AV.bool false)) [] (Gh.mk (0 : Nat) (0 : Nat) [])))
else (bif (eqB v w) then (bif (e == (0 : Int)) then (Q (Out.ret (AV.bool true)) [] (Gh.mk (0 : Nat) (0 : Nat) []))
else (Q (Out.ret (AV.bool false)) [] (Gh.mk (0 : Nat) (0 : Nat) [])))
else (Q (Out.ret (AV.bool false)) [] (Gh.mk (0 : Nat) (0 : Nat) []))))) := by kernel_rfl

def cCut : Con
  | [.str s, .int .i64 n], H, K => Lf (0 ≤ n ∧ s.length ≤ 9223372036854775807) ∧ ∀ t, Lf (t = s.take n.toNat) → K (.ret (.str t)) H
  | _, _, _ => False
def toldM (v : List UInt8) (e no : Int) (w : List UInt8) : Bool := if no ≠ 0 then eqB v [] && decide (e = no) else eqB v w && decide (e = 0)
def cTold : Con
  | [.str v, .int .i64 e, .int .i64 no, .str w], H, K => ∀ b, Lf (b = toldM v e no w) → K (.ret (.bool b)) H
  | _, _, _ => False
theorem cut_ok : ValidF Try.prog gl0 11 cCut := by
  refine valid_flat (enters_of (by kernel_rfl)) gl0_noY fun args H Q hc => ?_
  unfold cCut at hc
  split at hc
  · rename_i s n
    obtain ⟨⟨h1, h2⟩, hq⟩ := hc
    obtain ⟨m, rfl⟩ := Int.eq_ofNat_of_zero_le h1
    obtain ⟨hv, hb', e⟩ : ∃ hv hb, goal_11 hv hb s (m : Nat) (fun o H' _ => H' = [] ∧ (∃ v, o = .ret v ∧ old 0 v = true ∧ noY v = true) ∧ Q o H) = _ := ⟨_, _, vc_11 s (m : Nat) _⟩
    refine ⟨rfl, rfl, _, 1000, envFor04 sm0_ok _ hv hb', rfl, e.mpr ?_⟩
    refine ⟨_, rfl, _, rfl, ?_⟩
    rw [imin_nat]
    refine ckI (by simp; omega) ⟨_, rfl, ⟨rfl, ⟨_, rfl, rfl, rfl⟩, hq _ ⟨?_⟩⟩⟩
    rw [List.drop_zero, Int.toNat_natCast, Int.toNat_natCast, Nat.sub_zero, List.take_eq_take_iff]
    omega
  · exact hc.elim
theorem told_ok : ValidF Try.prog gl0 15 cTold := by
  refine valid_flat (enters_of (by kernel_rfl)) gl0_noY fun args H Q hc => ?_
  unfold cTold at hc
  split at hc
  · rename_i v e no w
    have hq := hc
    obtain ⟨hv, hb', h⟩ : ∃ hv hb, goal_15 hv hb v e no w (fun o H' _ => H' = [] ∧ (∃ v, o = .ret v ∧ old 0 v = true ∧ noY v = true) ∧ Q o H) = _ := ⟨_, _, vc_15 v e no w _⟩
    refine ⟨rfl, rfl, _, 1000, envFor04 sm0_ok _ hv hb', rfl, h.mpr ?_⟩
    have hr : ∀ b, toldM v e no w = b → [] = ([] : List Blk) ∧ (∃ v, Out.ret (.bool b) = .ret v ∧ old 0 v = true ∧ noY v = true) ∧ Q (.ret (.bool b)) H := fun b h => ⟨rfl, ⟨_, rfl, rfl, rfl⟩, hq b ⟨h.symm⟩⟩
    refine splitNE (fun h1 => ?_) (fun h1 => ?_)
    · cases h2 : eqB v [] with
      | false => exact hr false (by rw [toldM, if_pos h1, h2]; rfl)
      | true => exact splitE (fun h3 => hr true (by rw [toldM, if_pos h1, h2, decide_eq_true h3]; rfl)) (fun h3 => hr false (by rw [toldM, if_pos h1, h2, decide_eq_false h3]; rfl))
    · cases h2 : eqB v w with
      | false => exact hr false (by rw [toldM, if_neg (by simp [h1]), h2]; rfl)
      | true => exact splitE (fun h3 => hr true (by rw [toldM, if_neg (by simp [h1]), h2, decide_eq_true h3]; rfl)) (fun h3 => hr false (by rw [toldM, if_neg (by simp [h1]), h2, decide_eq_false h3]; rfl))
  · exact hc.elim
/-! ## the proof -/
theorem eqBB (s : List UInt8) : eqB s s = true := by
  induction s with
  | nil => rfl
  | cons a s ih => simp [eqB, ih]
theorem exW_of {k : IntKind} {x y : Int} {K : Int → Prop} (h : IntKind.wrap k x = y) (hk : K y) : ∃ n, AV.int k (IntKind.wrap k x) = AV.int k n ∧ K n := ⟨y, by rw [h], hk⟩
end Go.Proofs.Ytlfbaakndklncaa
