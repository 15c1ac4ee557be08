/-
  Chapter 24: the numbers of a Nack (nacks).
-/
import Derived.Test.YtafchcmemeinlaaDoorC24D
set_option linter.unusedSimpArgs false
set_option linter.unusedVariables false
namespace Go.Proofs.YtafchcmemeinlaaDoor
open Go.RowKit
set_option maxRecDepth 1000000

def smE : SM := lookS [(65, cFitsV)]
theorem smE_ok : ∀ f g, smE f = some g → ValidF Tryd.prog glC f g := lookS_ok _ (by simp only [List.mem_cons, List.not_mem_nil, or_false, forall_eq]; exact fits_ok)

def nackGoM (b : Int) : Int → List Int → Bool
 | _, [] => true
 | far, n :: l => if (n - b) % 65536 ≤ far ∨ 32767 < (n - b) % 65536 then false else nackGoM b ((n - b) % 65536) l
def nacksM (xs : List Int) : Bool := decide (1 ≤ xs.length) && decide (xs.length ≤ 64) && !(xs.any (badM 16)) && nackGoM (xs.getD 0 0) (-1) xs

def inv_43 (t : Nat) (xs : List Int) : LInv where
 α := Nat × Int
 pre p := Lf (xs.any (badM 16) = false ∧ 1 ≤ xs.length ∧ xs.length ≤ 64 ∧ p.1 ≤ xs.length ∧ -1 ≤ p.2 ∧ p.2 ≤ 32767 ∧ nackGoM (xs.getD 0 0) (-1) xs = nackGoM (xs.getD 0 0) p.2 (xs.drop p.1))
 st p := ⟨mkT [(0, .lst t (cellsI xs) xs.length 1), (3, .int .i64 p.2), (20, .lst t (cellsI xs) xs.length 1), (21, .int .i64 xs.length), (22, .int .i64 p.1)], []⟩
 mu p := xs.length - p.1
noncomputable def goal_43 (hv : Nat → Option Pa) (hb : Nat → Option Bool) (t : Nat) (xs : List Int) (Q : Out → List Blk → Gh → Prop) : Prop :=
 callx (e24 smE (fun i => bif Nat.beq i 43000 then some (fun _ => [[inv_43 t xs]]) else none) hv hb) (wpx (e24 smE (fun i => bif Nat.beq i 43000 then some (fun _ => [[inv_43 t xs]]) else none) hv hb) 1000) 43 [.lst t (cellsI xs) xs.length 1] [] {} Q
theorem vc_43 (t : Nat) (xs : List Int) (Q : Out → List Blk → Gh → Prop) : goal_43 (lookV [(176136, .int .i64), (176140, .int .i64), (176149, .int .i64), (176153, .int .i64), (176157, .int .i64), (176158, .int .i64), (176159, .int .i64),
 (176168, .int .i64)]) (lookB []) t xs Q = (exI .i64 (xs.length : Int) fun n_0 => bif decide (n_0 < 1) then Q (.ret (.bool Bool.false)) [] {} else exI .i64 (xs.length : Int) fun n_1 => bif decide (n_1 > 64) then Q (.ret (.bool
 Bool.false)) [] {} else ∃ xs_2 : List Int, Lf (cellsI xs = cellsI xs_2 ∧ xs.length = xs_2.length ∧ (0 : Int) ≤ (16 : Int) ∧ xs_2.length ≤ 4611686018427387904) ∧ bif !List.any xs_2 (badM 16) then exI .i64 (xs.length : Int) fun n_3 =>
 (∃ x_4 : Nat × Int, Lf (List.any xs (badM 16) = Bool.false ∧ 1 ≤ xs.length ∧ xs.length ≤ 64 ∧ x_4.1 ≤ xs.length ∧ -1 ≤ x_4.2 ∧ x_4.2 ≤ 32767 ∧ nackGoM (xs.getD 0 0) (-1) xs = nackGoM (xs.getD 0 0) x_4.2 (xs.drop x_4.1)) ∧ eqqQ (AV.lst t
 (cellsI xs) xs.length 1) ∧ AV.int .i64 (-1) = AV.int .i64 x_4.2 ∧ AV.int .i64 n_3 = AV.int .i64 (xs.length : Int) ∧ eqqQ (AV.lst t (cellsI xs) xs.length 1) ∧ AV.int .i64 0 = AV.int .i64 (x_4.1 :
 Int) ∧ True) ∧ ∀ x_4 : Nat × Int, Lf (List.any xs (badM 16) = Bool.false ∧ 1 ≤ xs.length ∧ xs.length ≤ 64 ∧ x_4.1 ≤ xs.length ∧ -1 ≤ x_4.2 ∧ x_4.2 ≤ 32767 ∧ nackGoM (xs.getD 0 0) (-1) xs = nackGoM (xs.getD 0 0) x_4.2 (xs.drop x_4.1)) → bif
 decide ((x_4.1 : Int) < (xs.length : Int)) then ckQ (Nat.blt (x_4.1 : Int).toNat xs.length && Bool.true) (ckQ (Nat.blt ((x_4.1 : Int).toNat * 1) (cellsI xs).length) (exV IntKind.i64 ((cellsI xs).getD ((x_4.1 : Int).toNat * 1) AV.undef) fun
 n_5 => ckQ (Nat.blt 0 xs.length && Bool.true) (ckQ (Nat.blt 0 (cellsI xs).length) (exV IntKind.i64 ((cellsI xs).getD 0 AV.undef) fun n_6 => exW .i64 (n_5 - n_6) fun n_7 => exW .i64 (((n_7 % 18446744073709551616).toNat &&&
 65535 : Nat) : Int) fun n_8 => bif decide (n_8 ≤ x_4.2) then Q (.ret (.bool Bool.false)) [] {} else bif decide (n_8 > 32767) then Q (.ret (.bool Bool.false)) [] {} else exW .i64 ((x_4.1 : Int) + 1) fun n_9 => (True ∧ (0 : Nat) = (0
 : Nat)) ∧ ∃ y_10 : Nat × Int, Lf (List.any xs (badM 16) = Bool.false ∧ 1 ≤ xs.length ∧ xs.length ≤ 64 ∧ y_10.1 ≤ xs.length ∧ -1 ≤ y_10.2 ∧ y_10.2 ≤ 32767 ∧ nackGoM (xs.getD 0 0) (-1) xs = nackGoM (xs.getD 0 0) y_10.2 (xs.drop y_10.1)) ∧
 xs.length - y_10.1 < xs.length - x_4.1 ∧ eqqQ (AV.lst t (cellsI xs) xs.length 1) ∧ AV.int .i64 n_8 = AV.int .i64 y_10.2 ∧ eqqQ (AV.int .i64 (xs.length : Int)) ∧ eqqQ (AV.lst t (cellsI xs) xs.length 1) ∧ AV.int
 IntKind.i64 n_9 = AV.int .i64 (y_10.1 : Int) ∧ True)))) else Q (.ret (.bool Bool.true)) [] {} else Q (.ret (.bool Bool.false)) [] {}) := by kernel_rfl

theorem maskI {z : Int} {K : Int → Prop} (h : K (z % 65536)) : ∃ n : Int, AV.int .i64 (IntKind.wrap .i64 (((z % 18446744073709551616).toNat &&& 65535 : Nat) : Int)) = AV.int .i64 n ∧ K n := by
 refine ⟨z % 65536, ?_, h⟩
 have e1 : ((z % 18446744073709551616).toNat &&& 65535) = (z % 18446744073709551616).toNat % 65536 := Nat.and_two_pow_sub_one_eq_mod _ 16
 have e2 : IntKind.wrap .i64 (((z % 18446744073709551616).toNat % 65536 : Nat) : Int) = z % 65536 := by rw [IntKind.wrap_i64]; omega
 rw [e1, e2]

theorem bad16 {xs : List Int} (h : xs.any (badM 16) = false) {i : Nat} (hi : i < xs.length) : 0 ≤ xs[i] ∧ xs[i] ≤ 65535 := by
 have hb : badM 16 xs[i] = false := by
  have := List.any_eq_false.1 h xs[i] (List.getElem_mem hi)
  simpa using this
 simp only [badM, Bool.or_eq_false_iff, decide_eq_false_iff_not] at hb
 have e : (2 : Int) ^ min (16 : Int).toNat 64 = 65536 := rfl
 rw [e] at hb
 have h2 : xs[i].fdiv 65536 = 0 := by simpa using hb.2
 rw [Int.fdiv_eq_ediv_of_nonneg _ (by omega)] at h2
 omega

theorem nacks_run (t : Nat) (xs : List Int) (Q : Out → List Blk → Gh → Prop) (hl : xs.length ≤ 4611686018427387904) (hq : Q (.ret (.bool (nacksM xs))) [] {}) : ∃ hv hb, goal_43 hv hb t xs Q := by
 obtain ⟨hv, hb', e⟩ : ∃ hv hb, goal_43 hv hb t xs Q = _ := ⟨_, _, vc_43 t xs Q⟩
 refine ⟨hv, hb', e.mpr ?_⟩
 clear e
 refine ⟨_, rfl, ?_⟩
 refine splitI (fun h1 => ?_) (fun h1 => ?_)
 ·have : nacksM xs = false := by
   simp only [decide_eq_true_eq] at h1
   have h0 : ¬ 1 ≤ xs.length := by omega
   simp only [nacksM, decide_eq_false h0, Bool.false_and]
  rw [this] at hq; exact hq
 refine ⟨_, rfl, ?_⟩
 refine splitI (fun h2 => ?_) (fun h2 => ?_)
 ·have : nacksM xs = false := by
   simp only [gt_iff_lt, decide_eq_true_eq] at h2
   have h0 : ¬ xs.length ≤ 64 := by omega
   simp only [nacksM, decide_eq_false h0, Bool.false_and, Bool.and_false]
  rw [this] at hq; exact hq
 refine ⟨xs, ⟨rfl, rfl, by omega, hl⟩, ?_⟩
 refine splitI (fun h3 => ?_) (fun h3 => ?_)
 ·simp only [decide_eq_false_iff_not, gt_iff_lt, Int.not_lt, Bool.not_eq_true'] at h1 h2 h3
  have hn : nacksM xs = nackGoM (xs.getD 0 0) (-1) xs := by
   simp only [nacksM, h3, Bool.not_false, Bool.and_true]
   rw [decide_eq_true (by omega), decide_eq_true (by omega)]; rfl
  refine ⟨_, rfl, ⟨(0, -1), ⟨⟨h3, by omega, by omega, by omega, by omega, by omega, by simp⟩⟩, by simp⟩, ?_⟩
  rintro ⟨i, far⟩ ⟨g1, g2, g3, g4, g5, g6, g7⟩
  simp only at g4 g5 g6 g7
  refine splitI (fun hlt => ?_) (fun hge => ?_)
  ·have hlt' : i < xs.length := by simpa using hlt
   have b0 := bad16 g1 (show 0 < xs.length by omega)
   have bi := bad16 g1 hlt'
   have hx0 : xs.getD 0 0 = xs[0] := by simp [show 0 < xs.length by omega]
   refine ckI (by simp [Nat.blt]; exact hlt') (ckI (blt_of (by rw [cellsI_length]; simpa using hlt')) (cellsI_get hlt' ?_ (by simp)))
   refine ckI (by simp [Nat.blt]; omega) (ckI (blt_of (by rw [cellsI_length]; omega)) (cellsI_get (show 0 < xs.length by omega) ?_ rfl))
   refine wrapI (by omega) (by omega) (maskI ?_)
   rw [List.drop_eq_getElem_cons hlt', nackGoM, hx0] at g7
   refine splitI (fun h4 => ?_) (fun h4 => splitI (fun h5 => ?_) (fun h5 => ?_))
   ·rw [if_pos (.inl (by simpa using h4))] at g7
    rw [hn, hx0, g7] at hq; exact hq
   ·rw [if_pos (.inr (by simpa using h5))] at g7
    rw [hn, hx0, g7] at hq; exact hq
   ·simp only [decide_eq_false_iff_not, gt_iff_lt, Int.not_lt, Int.not_le] at h4 h5
    rw [if_neg (by omega)] at g7
    refine wrapI (by omega) (by omega) ⟨⟨trivial, rfl⟩, (i + 1, (xs[i] - xs[0]) % 65536), ⟨⟨g1, g2, g3, hlt', by omega, h5, by rw [hx0]; exact g7⟩⟩, Nat.sub_succ_lt_self _ _ hlt', by simp⟩
  ·have hle : xs.length ≤ i := by simpa using hge
   rw [List.drop_of_length_le hle, nackGoM] at g7
   rw [hn, g7] at hq; exact hq
 ·have : nacksM xs = false := by
   simp only [Bool.not_eq_false'] at h3
   simp [nacksM, h3]
  rw [this] at hq; exact hq

def cNacks : Con
 | [.lst _ l n 1], H, K => ∃ xs : List Int, Lf (l = cellsI xs ∧ n = xs.length ∧ xs.length ≤ 4611686018427387904) ∧ K (.ret (.bool (nacksM xs))) H
 | _, _, _ => False
theorem cNacks_view : ∀ args H Q, cNacks args H Q → cNacks args [] fun o H' => H' = [] ∧ (∃ v, o = .ret v ∧ noT v = true) ∧ Q o H := by
 intro args H Q hc
 unfold cNacks at hc
 split at hc
 ·obtain ⟨xs, h, hq⟩ := hc
  exact ⟨xs, h, rfl, ⟨_, rfl, rfl⟩, hq⟩
 ·exact hc.elim
def cNacksV : Con := fun args H Q => lendL [1] H args fun a => cNacks a H Q

theorem nacks_ok : ValidF Tryd.prog glC 43 cNacksV := by
 refine valid_view (c := cNacks) (valid_flat (enters_of (by kernel_rfl)) glC_noY fun args H Q hc => ?_) glC_noY [1] cNacks_view
 unfold cNacks at hc
 split at hc
 ·rename_i t l n
  obtain ⟨xs, ⟨rfl, rfl, hl⟩, hq⟩ := hc
  obtain ⟨hv, hb', h⟩ := nacks_run t xs (hl := hl) (Q := fun o H' _ => H' = [] ∧ (∃ v, o = .ret v ∧ old 0 v = true ∧ noY v = true) ∧ Q o H) ⟨rfl, ⟨_, rfl, rfl, rfl⟩, hq⟩
  exact ⟨rfl, rfl, _, 1000, envFor24 smE_ok _ _ _, rfl, h⟩
 ·exact hc.elim
end Go.Proofs.YtafchcmemeinlaaDoor
