/-
  Chapter 01 (OctetsReads): Number, Up, unit, Take, Uint, Skip.
-/
import Derived.Test.YthaapjfnadfmgaaO1A
import Derived.Test.YthaapjfnadfmgaaEnH
set_option linter.unusedSimpArgs false
set_option linter.unusedVariables false
set_option linter.unusedSectionVars false
namespace Go.Proofs.Ythaapjfnadfmgaa
open Go.RowKit
set_option maxRecDepth 1000000

def natM (s : List UInt8) : Nat := s.foldl (fun x c => x * 256 + c.toNat) 0
def beM (s : List UInt8) : Int := (natM s : Int)
def unitM (m : Int) : Bool := decide (m = 1 ∨ m = 2 ∨ m = 4 ∨ m = 8)
def upM (a m : Int) : Int := (a + m - 1) / m * m
def takeM (s : List UInt8) (a n : Int) : List UInt8 × List UInt8 × Int × Int :=
  if a < 0 ∨ (s.length : Int) < a ∨ n < 0 then ([], [], 0, 2) else if (s.length : Int) - a < n then ([], [], 0, 7) else ((s.drop a.toNat).take n.toNat, s, a + n, 0)
def uintM (s : List UInt8) (a n : Int) : Int × List UInt8 × Int × Int :=
  if a < 0 ∨ (s.length : Int) < a ∨ n < 1 ∨ 7 < n then (0, [], 0, 2) else if (s.length : Int) - a < n then (0, [], 0, 7) else (beM ((s.drop a.toNat).take n.toNat), s, a + n, 0)
def skipM (s : List UInt8) (a m : Int) : List UInt8 × Int × Int :=
  if a < 0 ∨ (s.length : Int) < a ∨ unitM m = false then ([], 0, 2) else if (s.length : Int) < upM a m then ([], 0, 7) else (s, upM a m, 0)
/-! ## the numbers of octets -/
def inv_51 (s : List UInt8) : LInv where
  α := Nat
  pre i := Lf (i ≤ s.length)
  st i := ⟨mkT [(3, .int .i64 (natM (s.take i) : Nat)), (7, .sl 0 s.length 0 s.length 1), (8, .int .i64 (s.length : Nat)), (9, .int .i64 (i : Nat))], [⟨.grow, true, ofBytes s⟩]⟩
  mu i := s.length - i
noncomputable def env_51 (hv : Nat → Option Pa) (hb : Nat → Option Bool) (s : List UInt8) : Env := e01 sm0 (fun i => bif Nat.beq i 51000 then some (fun _ => [[inv_51 s]]) else none) hv hb
noncomputable def goal_51 (hv : Nat → Option Pa) (hb : Nat → Option Bool) (s : List UInt8) (Q : Out → List Blk → Gh → Prop) : Prop :=
  callx (env_51 hv hb s) (wpx (env_51 hv hb s) 1000) 51 [.str s] [] {} Q
theorem vc_51 (s : List UInt8) (Q : Out → List Blk → Gh → Prop) : goal_51 (lookV [(208904, .int .i64), (208908, .int .u8), (208909, .int .i64), (208910, .int .i64), (208912, .int .i64), (208913, .int .i64), (208914, .int .i64), (208915,
 .int .i64)]) (lookB []) s Q = (ckQ (Nat.beq (ofBytes s).length s.length) (exI .i64 (s.length : Int) fun n_0 => (∃ x_1 : Nat, Lf (x_1 ≤ s.length) ∧ ckQ (oldL 0 (ofBytes s) == true) (eqqQ (ofBytes s) ∧ AV.int .i64 0 = AV.int .i64 (natM
 (s.take x_1) : Int) ∧ eqqQ (AV.sl 0 s.length 0 s.length 1) ∧ AV.int .i64 0 = AV.int .i64 (x_1 : Int) ∧ AV.int .i64 n_0 = AV.int .i64 (s.length : Int) ∧ True)) ∧ ∀ x_1 : Nat, Lf (x_1 ≤ s.length) → bif decide ((x_1 : Int) < (s.length : Int))
 then ckQ (Nat.blt (x_1 : Int).toNat s.length && Nat.beq (ofBytes s).length s.length && true) (ckQ (Nat.beq (ofBytes s).length s.length && Nat.blt (0 + (x_1 : Int).toNat * 1) s.length) (exV .u8 ((((ofBytes s).drop (0 + (x_1 : Int).toNat *
 1)).take 1).getD 0 AV.undef) fun n_2 => exI .i64 (natM (s.take x_1) : Int) fun n_3 => exW .i64 (n_3 * 256) fun n_4 => exW .i64 n_2 fun n_5 => exW .i64 (((n_4 % 18446744073709551616).toNat ||| (n_5 % 18446744073709551616).toNat : Nat) :
 Int) fun n_6 => exW .i64 ((x_1 : Int) + 1) fun n_7 => (True ∧ (0 : Nat) = (0 : Nat)) ∧ ∃ y_8 : Nat, Lf (y_8 ≤ s.length) ∧ s.length - y_8 < s.length - x_1 ∧ eqqQ (ofBytes s) ∧ AV.int .i64 n_6 = AV.int .i64 (natM (s.take y_8) : Int) ∧ eqqQ
 (AV.sl 0 s.length 0 s.length 1) ∧ AV.int .i64 n_7 = AV.int .i64 (y_8 : Int) ∧ eqqQ (AV.int .i64 (s.length : Int)) ∧ True)) else exI .i64 (natM (s.take x_1) : Int) fun n_2 => Q (.ret (.int .i64 n_2)) [] {})) := by kernel_rfl

def inv_40 (s : List UInt8) : LInv where
  α := Nat
  pre i := Lf (i ≤ s.length)
  st i := ⟨mkT [(0, .str s), (3, .int .i64 (natM (s.take i) : Nat)), (4, .int .i64 (i : Nat))], []⟩
  mu i := s.length - i
noncomputable def env_40 (hv : Nat → Option Pa) (hb : Nat → Option Bool) (s : List UInt8) : Env := e01 sm0 (fun i => bif Nat.beq i 40000 then some (fun _ => [[inv_40 s]]) else none) hv hb
noncomputable def goal_40 (hv : Nat → Option Pa) (hb : Nat → Option Bool) (s : List UInt8) (Q : Out → List Blk → Gh → Prop) : Prop :=
  callx (env_40 hv hb s) (wpx (env_40 hv hb s) 1000) 40 [.str s] [] {} Q
theorem vc_40 (s : List UInt8) (Q : Out → List Blk → Gh → Prop) : goal_40 (lookV [(163845, .int .i64), (163847, .int .i64), (163851, .int .i64), (163852, .int .i64), (163854, .int .i64), (163855, .int .u8), (163856, .int .i64), (163857,
 .int .i64), (163849, .int .i64), (163850, .int .i64), (163858, .int .i64)]) (lookB []) s Q = ((∃ x_0 : Nat, Lf (x_0 ≤ s.length) ∧ eqqQ (AV.str s) ∧ AV.int .i64 0 = AV.int .i64 (natM (s.take x_0) : Int) ∧ AV.int .i64 0 = AV.int .i64 (x_0 :
 Int) ∧ True) ∧ ∀ x_0 : Nat, Lf (x_0 ≤ s.length) → exI .i64 (x_0 : Int) fun n_1 => exI .i64 (s.length : Int) fun n_2 => bif decide (n_1 < n_2) then exI .i64 (natM (s.take x_0) : Int) fun n_3 => exW .i64 (256 * n_3) fun n_4 => exI .i64 (x_0
 : Int) fun n_5 => ckQ (decide (0 ≤ n_5) && Nat.blt n_5.toNat s.length) (exI .u8 (UInt8.toNat (s.getD n_5.toNat (UInt8.ofNat 0)) : Int) fun n_6 => exW .i64 n_6 fun n_7 => exW .i64 (n_4 + n_7) fun n_8 => exI .i64 (x_0 : Int) fun n_9 => exW
 .i64 (n_9 + 1) fun n_10 => (True ∧ (0 : Nat) = (0 : Nat)) ∧ ∃ y_11 : Nat, Lf (y_11 ≤ s.length) ∧ s.length - y_11 < s.length - x_0 ∧ eqqQ (AV.str s) ∧ AV.int .i64 n_8 = AV.int .i64 (natM (s.take y_11) : Int) ∧ AV.int .i64 n_10 = AV.int .i64
 (y_11 : Int) ∧ True) else exI .i64 (natM (s.take x_0) : Int) fun n_3 => Q (.ret (.int .i64 n_3)) [] {}) := by kernel_rfl

/-! ## units -/
noncomputable def goal_52 (n : Int) (Q : Out → List Blk → Gh → Prop) : Prop :=
  callx (e01 sm0 (fun _ => none) (fun _ => none) (fun _ => none)) (wpx (e01 sm0 (fun _ => none) (fun _ => none) (fun _ => none)) 1000) 52 [.int .u64 n] [] {} Q
theorem ones_1 (Q : Out → List Blk → Gh → Prop) : goal_52 1 Q = Q (.ret (.int .i64 1)) [] {} := by kernel_rfl
theorem ones_2 (Q : Out → List Blk → Gh → Prop) : goal_52 2 Q = Q (.ret (.int .i64 1)) [] {} := by kernel_rfl
theorem ones_3 (Q : Out → List Blk → Gh → Prop) : goal_52 3 Q = Q (.ret (.int .i64 2)) [] {} := by kernel_rfl
theorem ones_4 (Q : Out → List Blk → Gh → Prop) : goal_52 4 Q = Q (.ret (.int .i64 1)) [] {} := by kernel_rfl
theorem ones_5 (Q : Out → List Blk → Gh → Prop) : goal_52 5 Q = Q (.ret (.int .i64 2)) [] {} := by kernel_rfl
theorem ones_6 (Q : Out → List Blk → Gh → Prop) : goal_52 6 Q = Q (.ret (.int .i64 2)) [] {} := by kernel_rfl
theorem ones_7 (Q : Out → List Blk → Gh → Prop) : goal_52 7 Q = Q (.ret (.int .i64 3)) [] {} := by kernel_rfl
theorem ones_8 (Q : Out → List Blk → Gh → Prop) : goal_52 8 Q = Q (.ret (.int .i64 1)) [] {} := by kernel_rfl
def inv_37 (a m : Int) : LInv where
  α := Int
  pre y := Lf (a ≤ y ∧ y ≤ upM a m ∧ upM y m = upM a m)
  st y := ⟨mkT [(0, .int .i64 y), (1, .int .i64 m)], []⟩
  mu y := (upM a m - y).toNat
noncomputable def env_37 (hv : Nat → Option Pa) (hb : Nat → Option Bool) (a m : Int) : Env := e01 sm0 (fun i => bif Nat.beq i 37000 then some (fun _ => [[inv_37 a m]]) else none) hv hb
noncomputable def goal_37 (hv : Nat → Option Pa) (hb : Nat → Option Bool) (a m : Int) (Q : Out → List Blk → Gh → Prop) : Prop :=
  callx (env_37 hv hb a m) (wpx (env_37 hv hb a m) 1000) 37 [.int .i64 a, .int .i64 m] [] {} Q
theorem vc_37 (a : Int) (m : Int) (Q : Out → List Blk → Gh → Prop) : goal_37 (lookV [(151559, .int .i64), (151562, .int .i64)]) (lookB []) a m Q = (
((∃ x_0 : Int, ((Lf ((a ≤ x_0) ∧
 ((x_0 ≤ (upM a m)) ∧
 ((upM x_0 m) = (upM a m))))) ∧
 (((AV.int .i64 a) = (AV.int .i64 x_0)) ∧
 (((AV.int .i64 m) = (AV.int .i64 m)) ∧
 True)))) ∧
 (∀ x_0 : Int, ((Lf ((a ≤ x_0) ∧
 ((x_0 ≤ (upM a m)) ∧
 ((upM x_0 m) = (upM a m))))) →
(bif ((m != (0 : Int)) && true) then (∃ n_1 : Int, (((AV.int .i64 (Int.tmod x_0 m)) = (AV.int .i64 n_1)) ∧
 (bif (n_1 != (0 : Int)) then (∃ n_2 : Int, (((AV.int .i64 (IntKind.wrap .i64 (x_0 + (1 : Int)))) = (AV.int .i64 n_2)) ∧
 ((True ∧
 ((0 : Nat) = (0 : Nat))) ∧
 (∃ y_3 : Int, ((Lf ((a ≤ y_3) ∧
 ((y_3 ≤ (upM a m)) ∧
 ((upM y_3 m) = (upM a m))))) ∧
 (((Int.toNat ((upM a m) - y_3)) < (Int.toNat ((upM a m) - x_0))) ∧
 (((AV.int .i64 n_2) = (AV.int .i64 y_3)) ∧
 (((AV.int .i64 m) = (AV.int .i64 m)) ∧
 True))))))))
else (Q (Out.ret (AV.int .i64 x_0)) [] (Gh.mk (0 : Nat) (0 : Nat) [])))))
else False))))) := by kernel_rfl

theorem ofB_len (l : List UInt8) : (ofBytes l).length = l.length := by simp [ofBytes]
theorem oldL_ofB (l : List UInt8) : oldL 0 (ofBytes l) = true := by
  induction l with
  | nil => rfl
  | cons x l ih => simp only [ofBytes, List.map_cons, oldL, old, Bool.true_and] at ih ⊢; exact ih
theorem ldB {L : List UInt8} {j m : Nat} (hj : j < L.length) (hm : m = j) {K : Int → Prop} (hk : K ((L.getD j 0).toNat : Int)) : ∃ n : Int, (List.take 1 (List.drop m (ofBytes L))).getD 0 AV.undef = AV.int .u8 n ∧ K n := by
  subst hm
  refine ⟨_, ?_, hk⟩
  simp [ofBytes, List.getD_eq_getElem?_getD, hj]
theorem nat_app (a b : List UInt8) : natM (a ++ b) = b.foldl (fun x c => x * 256 + c.toNat) (natM a) := by simp [natM]
theorem nat_snoc {s : List UInt8} {i : Nat} (h : i < s.length) : natM (s.take (i + 1)) = natM (s.take i) * 256 + (s.getD i 0).toNat := by
  rw [List.take_add_one, List.getElem?_eq_getElem h, nat_app]
  simp [List.getD, h]
theorem nat_lt : ∀ (n : Nat) (s : List UInt8), s.length = n → natM s < 256 ^ n
  | 0, s, h => by
    obtain rfl := List.length_eq_zero_iff.1 h
    simp [natM]
  | n + 1, s, h => by
    have e : s = s.take n ++ [s.getD n 0] := by
      conv => lhs; rw [← List.take_of_length_le (show s.length ≤ n + 1 by omega), List.take_add_one, List.getElem?_eq_getElem (by omega)]
      simp [List.getD, show n < s.length by omega]
    rw [e, nat_app, Nat.pow_succ]
    have h1 := nat_lt n (s.take n) (by rw [List.length_take]; omega)
    have h2 := (s.getD n 0).toNat_lt
    simp only [List.foldl_cons, List.foldl_nil]
    omega
theorem or256 (a b : Nat) (hb : b < 256) : a * 256 ||| b = a * 256 + b := by
  have := Nat.two_pow_add_eq_or_of_lt (i := 8) hb a
  rw [show (2 : Nat) ^ 8 = 256 from rfl, Nat.mul_comm 256 a] at this
  exact this.symm
theorem num_run (s : List UInt8) (hs : s.length ≤ 7) (Q : Out → List Blk → Gh → Prop) (hq : Q (.ret (.int .i64 (beM s))) [] {}) : ∃ hv hb, goal_51 hv hb s Q := by
  obtain ⟨hv, hb', e⟩ : ∃ hv hb, goal_51 hv hb s Q = _ := ⟨_, _, vc_51 s Q⟩
  refine ⟨hv, hb', e.mpr ?_⟩
  clear e
  refine ckI (by rw [ofB_len]; simp) ⟨_, rfl, ⟨0, ⟨by omega⟩, ckI (by rw [oldL_ofB]; rfl) ⟨rfl, rfl, rfl, rfl, rfl, trivial⟩⟩, ?_⟩
  rintro i ⟨hi⟩
  refine splitD (fun h => ?_) (fun h => ?_)
  · have hlt : i < s.length := by omega
    have h1 := nat_lt i (s.take i) (by rw [List.length_take]; omega)
    have h3 : (256 : Nat) ^ i ≤ 256 ^ 6 := Nat.pow_le_pow_right (by omega) (by omega)
    have h4 : (256 : Nat) ^ 6 = 281474976710656 := rfl
    have h2 := (s.getD i 0).toNat_lt
    have hsn := nat_snoc hlt
    refine ckI (by rw [ofB_len]; simp; omega) (ckI (by rw [ofB_len]; simp; omega) (ldB (j := i) hlt (by simp) ⟨_, rfl, wrapI (by omega) (by omega) (wrapI (by omega) (by omega) ?_)⟩))
    rw [show Int.toNat (((natM (s.take i) : Nat) : Int) * 256 % 18446744073709551616) = natM (s.take i) * 256 by omega, show Int.toNat ((((s.getD i 0).toNat : Nat) : Int) % 18446744073709551616) = (s.getD i 0).toNat by omega, or256 _ _ (by omega)]
    refine wrapI (by omega) (by omega) (wrapI (by omega) (by omega) ⟨⟨trivial, rfl⟩, i + 1, ⟨by omega⟩, by omega, rfl, by rw [hsn], rfl, rfl, rfl, trivial⟩)
  · have : s.take i = s := List.take_of_length_le (by omega)
    rw [this]
    exact ⟨_, rfl, hq⟩
def cNum : Con
  | [.str s], H, K => Lf (s.length ≤ 7) ∧ K (.ret (.int .i64 (beM s))) H
  | _, _, _ => False
theorem num_ok : ValidF Try.prog gl0 51 cNum := by
  refine valid_flat (enters_of (by kernel_rfl)) gl0_noY fun args H Q hc => ?_
  unfold cNum at hc
  split at hc
  · rename_i s
    obtain ⟨⟨h1⟩, hq⟩ := hc
    obtain ⟨hv, hb', h⟩ := num_run s h1 (Q := fun o H' _ => H' = [] ∧ (∃ v, o = .ret v ∧ old 0 v = true ∧ noY v = true) ∧ Q o H) ⟨rfl, ⟨_, rfl, rfl, rfl⟩, hq⟩
    exact ⟨rfl, rfl, _, 1000, envFor01 sm0_ok _ _ _, rfl, h⟩
  · exact hc.elim


theorem num40_run (s : List UInt8) (hs : s.length ≤ 7) (Q : Out → List Blk → Gh → Prop) (hq : Q (.ret (.int .i64 (beM s))) [] {}) : ∃ hv hb, goal_40 hv hb s Q := by
  obtain ⟨hv, hb', e⟩ : ∃ hv hb, goal_40 hv hb s Q = _ := ⟨_, _, vc_40 s Q⟩
  refine ⟨hv, hb', e.mpr ?_⟩
  clear e
  refine ⟨⟨0, ⟨by omega⟩, rfl, rfl, rfl, trivial⟩, ?_⟩
  rintro i ⟨hi⟩
  refine ⟨_, rfl, _, rfl, splitD (fun h => ?_) (fun h => ?_)⟩
  · have hlt : i < s.length := by omega
    have h1 := nat_lt i (s.take i) (by rw [List.length_take]; omega)
    have h3 : (256 : Nat) ^ i ≤ 256 ^ 6 := Nat.pow_le_pow_right (by omega) (by omega)
    have h4 : (256 : Nat) ^ 6 = 281474976710656 := rfl
    have h2 := (s.getD i 0).toNat_lt
    have hsn := nat_snoc hlt
    refine ⟨_, rfl, wrapI (by omega) (by omega) ⟨_, rfl, ckI (by simp; omega) ⟨_, rfl, ?_⟩⟩⟩
    rw [Int.toNat_natCast, show UInt8.ofNat 0 = 0 from rfl]
    exact wrapI (by omega) (by omega) (wrapI (by omega) (by omega) ⟨_, rfl, wrapI (by omega) (by omega) ⟨⟨trivial, rfl⟩, i + 1, ⟨by omega⟩, by omega, rfl, by rw [hsn, Nat.mul_comm]; rfl, rfl, trivial⟩⟩)
  · obtain rfl : i = s.length := by omega
    rw [List.take_length]
    exact ⟨_, rfl, hq⟩
def cNum40 : Con
  | [.str s], H, K => Lf (s.length ≤ 7) ∧ ∀ r, Lf (r = beM s) → K (.ret (.int .i64 r)) H
  | _, _, _ => False
theorem num40_ok : ValidF Try.prog gl0 40 cNum40 := by
  refine valid_flat (enters_of (by kernel_rfl)) gl0_noY fun args H Q hc => ?_
  unfold cNum40 at hc
  split at hc
  · rename_i s
    obtain ⟨⟨h1⟩, hq⟩ := hc
    obtain ⟨hv, hb', h⟩ := num40_run s h1 (Q := fun o H' _ => H' = [] ∧ (∃ v, o = .ret v ∧ old 0 v = true ∧ noY v = true) ∧ Q o H) ⟨rfl, ⟨_, rfl, rfl, rfl⟩, hq _ ⟨rfl⟩⟩
    exact ⟨rfl, rfl, _, 1000, envFor01 sm0_ok _ _ _, rfl, h⟩
  · exact hc.elim
def cOnes : Con
  | [.int .u64 n], H, K => Lf (1 ≤ n ∧ n ≤ 8) ∧ ∀ r, Lf (r = 1 ↔ (n = 1 ∨ n = 2 ∨ n = 4 ∨ n = 8)) → K (.ret (.int .i64 r)) H
  | _, _, _ => False
theorem ones_ok : ValidF Try.prog gl0 52 cOnes := by
  refine valid_flat (enters_of (by kernel_rfl)) gl0_noY fun args H Q hc => ?_
  unfold cOnes at hc
  split at hc
  · rename_i n
    obtain ⟨⟨h1, h2⟩, hq⟩ := hc
    refine ⟨rfl, rfl, e01 sm0 (fun _ => none) (fun _ => none) (fun _ => none), 1000, envFor01 sm0_ok _ _ _, rfl, ?_⟩
    have hr : ∀ r, (r = 1 ↔ (n = 1 ∨ n = 2 ∨ n = 4 ∨ n = 8)) → [] = ([] : List Blk) ∧ (∃ v, Out.ret (.int .i64 r) = .ret v ∧ old 0 v = true ∧ noY v = true) ∧ Q (.ret (.int .i64 r)) H := fun r h => ⟨rfl, ⟨_, rfl, rfl, rfl⟩, hq r ⟨h⟩⟩
    show goal_52 n _
    have hn : n = 1 ∨ n = 2 ∨ n = 3 ∨ n = 4 ∨ n = 5 ∨ n = 6 ∨ n = 7 ∨ n = 8 := by omega
    rcases hn with rfl | rfl | rfl | rfl | rfl | rfl | rfl | rfl
    · rw [ones_1]; exact hr _ (by omega)
    · rw [ones_2]; exact hr _ (by omega)
    · rw [ones_3]; exact hr _ (by omega)
    · rw [ones_4]; exact hr _ (by omega)
    · rw [ones_5]; exact hr _ (by omega)
    · rw [ones_6]; exact hr _ (by omega)
    · rw [ones_7]; exact hr _ (by omega)
    · rw [ones_8]; exact hr _ (by omega)
  · exact hc.elim
def smU : SM := lookS [(52, cOnes)]
theorem smU_ok : ∀ f g, smU f = some g → ValidF Try.prog gl0 f g := lookS_ok _ (by simp only [List.mem_cons, List.not_mem_nil, or_false, forall_eq]; exact ones_ok)
noncomputable def goal_41 (hv : Nat → Option Pa) (hb : Nat → Option Bool) (m : Int) (Q : Out → List Blk → Gh → Prop) : Prop :=
  callx (e01 smU (fun _ => none) hv hb) (wpx (e01 smU (fun _ => none) hv hb) 1000) 41 [.int .i64 m] [] {} Q
theorem vc_41 (m : Int) (Q : Out → List Blk → Gh → Prop) : goal_41 (lookV [(167947, .int .u64)]) (lookB []) m Q = (
(bif (decide (m ≥ (1 : Int))) then (bif (decide (m ≤ (8 : Int))) then (∃ n_0 : Int, (((AV.int .u64 (IntKind.wrap .u64 m)) = (AV.int .u64 n_0)) ∧
 ((Lf (((1 : Int) ≤ n_0) ∧
 (n_0 ≤ (8 : Int)))) ∧
 (∀ r_1 : Int, ((Lf ((r_1 = (1 : Int)) ↔ ((n_0 = (1 : Int)) ∨
 ((n_0 = (2 : Int)) ∨
 ((n_0 = (4 : Int)) ∨
 (n_0 = (8 : Int))))))) →
(bif (r_1 == (1 : Int)) then (Q (Out.ret (AV.bool true)) [] (Gh.mk (0 : Nat) (0 : Nat) []))
else (Q (Out.ret (AV.bool false)) [] (Gh.mk (0 : Nat) (0 : Nat) []))))))))
else (Q (Out.ret (AV.bool false)) [] (Gh.mk (0 : Nat) (0 : Nat) [])))
else (Q (Out.ret (AV.bool false)) [] (Gh.mk (0 : Nat) (0 : Nat) [])))) := by kernel_rfl

noncomputable def goal_14 (hv : Nat → Option Pa) (hb : Nat → Option Bool) (m : Int) (Q : Out → List Blk → Gh → Prop) : Prop :=
  callx (e01 smU (fun _ => none) hv hb) (wpx (e01 smU (fun _ => none) hv hb) 1000) 14 [.int .i64 m] [] {} Q
theorem vc_14 (m : Int) (Q : Out → List Blk → Gh → Prop) : goal_14 (lookV []) (lookB []) m Q = (
(bif (m == (1 : Int)) then (Q (Out.ret (AV.bool true)) [] (Gh.mk (0 : Nat) (0 : Nat) []))
else (bif (m == (2 : Int)) then (Q (Out.ret (AV.bool true)) [] (Gh.mk (0 : Nat) (0 : Nat) []))
else (bif (m == (4 : Int)) then (Q (Out.ret (AV.bool true)) [] (Gh.mk (0 : Nat) (0 : Nat) []))
else (bif (m == (8 : Int)) then (Q (Out.ret (AV.bool true)) [] (Gh.mk (0 : Nat) (0 : Nat) []))
else (Q (Out.ret (AV.bool false)) [] (Gh.mk (0 : Nat) (0 : Nat) []))))))) := by kernel_rfl

def cUnitP : Con
  | [.int .i64 m], H, K => ∀ b, Lf (b = unitM m) → K (.ret (.bool b)) H
  | _, _, _ => False
theorem unit_ok : ValidF Try.prog gl0 41 cUnitP := by
  refine valid_flat (enters_of (by kernel_rfl)) gl0_noY fun args H Q hc => ?_
  unfold cUnitP at hc
  split at hc
  · rename_i m
    obtain ⟨hv, hb', e⟩ : ∃ hv hb, goal_41 hv hb m (fun o H' _ => H' = [] ∧ (∃ v, o = .ret v ∧ old 0 v = true ∧ noY v = true) ∧ Q o H) = _ := ⟨_, _, vc_41 m _⟩
    refine ⟨rfl, rfl, _, 1000, envFor01 smU_ok _ hv hb', rfl, e.mpr ?_⟩
    have hr : ∀ b, unitM m = b → [] = ([] : List Blk) ∧ (∃ v, Out.ret (.bool b) = .ret v ∧ old 0 v = true ∧ noY v = true) ∧ Q (.ret (.bool b)) H := fun b h => ⟨rfl, ⟨_, rfl, rfl, rfl⟩, hc b ⟨h.symm⟩⟩
    refine splitD (fun h1 => splitD (fun h2 => ⟨m, by rw [show IntKind.wrap .u64 m = m % 18446744073709551616 from rfl, Int.emod_eq_of_lt (by omega) (by omega)], ⟨by omega, by omega⟩, ?_⟩) (fun h2 => hr false (by simp [unitM]; omega))) (fun h1 => hr false (by simp [unitM]; omega))
    rintro r ⟨h⟩
    exact splitE (fun h3 => hr true (by simp [unitM]; omega)) (fun h3 => hr false (by simp [unitM]; omega))
  · exact hc.elim
theorem runit_ok : ValidF Try.prog gl0 14 cUnitP := by
  refine valid_flat (enters_of (by kernel_rfl)) gl0_noY fun args H Q hc => ?_
  unfold cUnitP at hc
  split at hc
  · rename_i m
    obtain ⟨hv, hb', e⟩ : ∃ hv hb, goal_14 hv hb m (fun o H' _ => H' = [] ∧ (∃ v, o = .ret v ∧ old 0 v = true ∧ noY v = true) ∧ Q o H) = _ := ⟨_, _, vc_14 m _⟩
    refine ⟨rfl, rfl, _, 1000, envFor01 smU_ok _ hv hb', rfl, e.mpr ?_⟩
    have hr : ∀ b, unitM m = b → [] = ([] : List Blk) ∧ (∃ v, Out.ret (.bool b) = .ret v ∧ old 0 v = true ∧ noY v = true) ∧ Q (.ret (.bool b)) H := fun b h => ⟨rfl, ⟨_, rfl, rfl, rfl⟩, hc b ⟨h.symm⟩⟩
    refine splitE (fun h => hr true (by simp [unitM]; omega)) (fun h1 => splitE (fun h => hr true (by simp [unitM]; omega)) (fun h2 => splitE (fun h => hr true (by simp [unitM]; omega)) (fun h3 => splitE (fun h => hr true (by simp [unitM]; omega)) (fun h4 => hr false (by simp [unitM]; omega)))))
  · exact hc.elim
theorem up_run (a m : Int) (ha : 0 ≤ a ∧ a ≤ 1000) (hm : m = 1 ∨ m = 2 ∨ m = 4 ∨ m = 8) (Q : Out → List Blk → Gh → Prop) (hq : Q (.ret (.int .i64 (upM a m))) [] {}) : ∃ hv hb, goal_37 hv hb a m Q := by
  obtain ⟨hv, hb', e⟩ : ∃ hv hb, goal_37 hv hb a m Q = _ := ⟨_, _, vc_37 a m Q⟩
  refine ⟨hv, hb', e.mpr ?_⟩
  clear e
  have hu : a ≤ upM a m ∧ upM a m ≤ a + 7 := by unfold upM; rcases hm with rfl | rfl | rfl | rfl <;> omega
  refine ⟨⟨a, ⟨by omega, hu.1, rfl⟩, rfl, rfl, trivial⟩, ?_⟩
  rintro y ⟨g1, g2, g3⟩
  have ht : y.tmod m = y % m := Int.tmod_eq_emod_of_nonneg (by omega)
  refine ckI (by rcases hm with rfl | rfl | rfl | rfl <;> rfl) ⟨_, rfl, splitNE (fun h => ?_) (fun h => ?_)⟩
  · rw [ht] at h
    have e1 : upM (y + 1) m = upM y m := by unfold upM; rcases hm with rfl | rfl | rfl | rfl <;> omega
    have e2 : y + 1 ≤ upM y m := by unfold upM; rcases hm with rfl | rfl | rfl | rfl <;> omega
    exact wrapI (by omega) (by omega) ⟨⟨trivial, rfl⟩, y + 1, ⟨by omega, by omega, by rw [e1, g3]⟩, by omega, rfl, rfl, trivial⟩
  · rw [ht] at h
    have e1 : upM y m = y := by unfold upM; rcases hm with rfl | rfl | rfl | rfl <;> omega
    rw [← g3, e1] at hq
    exact hq
def cUp : Con
  | [.int .i64 a, .int .i64 m], H, K => Lf ((0 ≤ a ∧ a ≤ 1000) ∧ (m = 1 ∨ m = 2 ∨ m = 4 ∨ m = 8)) ∧ ∀ r, Lf (r = upM a m) → K (.ret (.int .i64 r)) H
  | _, _, _ => False
theorem up_ok : ValidF Try.prog gl0 37 cUp := by
  refine valid_flat (enters_of (by kernel_rfl)) gl0_noY fun args H Q hc => ?_
  unfold cUp at hc
  split at hc
  · rename_i a m
    obtain ⟨⟨h1, h2⟩, hq⟩ := hc
    obtain ⟨hv, hb', h⟩ := up_run a m h1 h2 (Q := fun o H' _ => H' = [] ∧ (∃ v, o = .ret v ∧ old 0 v = true ∧ noY v = true) ∧ Q o H) ⟨rfl, ⟨_, rfl, rfl, rfl⟩, hq _ ⟨rfl⟩⟩
    exact ⟨rfl, rfl, _, 1000, envFor01 sm0_ok _ _ _, rfl, h⟩
  · exact hc.elim
/-! ## Take, Uint, Skip -/
def smTk : SM := lookS [(41, cUnitP), (51, cNum)]
theorem smTk_ok : ∀ f g, smTk f = some g → ValidF Try.prog gl0 f g := lookS_ok _ (by simp only [List.mem_cons, List.not_mem_nil, or_false, forall_eq_or_imp, forall_eq]; exact ⟨unit_ok, num_ok⟩)
noncomputable def goal_34 (hv : Nat → Option Pa) (hb : Nat → Option Bool) (s : List UInt8) (a n : Int) (Q : Out → List Blk → Gh → Prop) : Prop :=
  callx (e01 smTk (fun _ => none) hv hb) (wpx (e01 smTk (fun _ => none) hv hb) 1000) 34 [.agg [.str s, .int .i64 a], .int .i64 n] [] {} Q
theorem vc_34 (s : List UInt8) (a : Int) (n : Int) (Q : Out → List Blk → Gh → Prop) : goal_34 (lookV [(139274, .int .i64), (192524, .int .i64), (196648, .int .i64), (196652, .int .i64), (196668, .int .i64), (196669, .str), (196678, .int
 .i64)]) (lookB [(204798, true)]) s a n Q = (exI .i64 (imax n 0) fun n_0 => bif decide (a < 0) then Q (.ret (.tup [.str [], .agg [.str [], .int .i64 0], .int .i64 2])) [] {} else exI .i64 (s.length : Int) fun n_1 => bif decide (a > n_1)
 then Q (.ret (.tup [.str [], .agg [.str [], .int .i64 0], .int .i64 2])) [] {} else bif decide (n < 0) then Q (.ret (.tup [.str [], .agg [.str [], .int .i64 0], .int .i64 2])) [] {} else bif decide (n > n_0) then Q (.ret (.tup [.str [],
 .agg [.str [], .int .i64 0], .int .i64 2])) [] {} else exI .i64 (s.length : Int) fun n_2 => exW .i64 (n_2 - a) fun n_3 => bif decide (n_3 < n) then Q (.ret (.tup [.str [], .agg [.str [], .int .i64 0], .int .i64 7])) [] {} else exW .i64 (a
 + n) fun n_4 => ckQ (decide (0 ≤ a) && decide (0 ≤ n_4) && Nat.ble a.toNat n_4.toNat && Nat.ble n_4.toNat s.length) (exS (.str ((s.drop a.toNat).take (n_4.toNat - a.toNat))) fun s_5 => exW .i64 (a + n) fun n_6 => true = true ∧ ckQ (eqAVL
 [.int .i64 a] [.int .i64 a] && true) (ckQ (eqAVL [.str s] [.str s] && true) (Q (.ret (.tup [.str s_5, .agg [.str s, .int .i64 n_6], .int .i64 0])) [] {})))) := by kernel_rfl

noncomputable def goal_35 (hv : Nat → Option Pa) (hb : Nat → Option Bool) (s : List UInt8) (a n : Int) (Q : Out → List Blk → Gh → Prop) : Prop :=
  callx (e01 smTk (fun _ => none) hv hb) (wpx (e01 smTk (fun _ => none) hv hb) 1000) 35 [.agg [.str s, .int .i64 a], .int .i64 n] [] {} Q
theorem vc_35 (s : List UInt8) (a : Int) (n : Int) (Q : Out → List Blk → Gh → Prop) : goal_35 (lookV [(192524, .int .i64), (204840, .int .i64), (204844, .int .i64), (204860, .int .i64), (204861, .str), (204870, .int .i64), (204862, .int
 .i64)]) (lookB []) s a n Q = (bif decide (a < 0) then Q (.ret (.tup [.int .i64 0, .agg [.str [], .int .i64 0], .int .i64 2])) [] {} else exI .i64 (s.length : Int) fun n_0 => bif decide (a > n_0) then Q (.ret (.tup [.int .i64 0, .agg [.str
 [], .int .i64 0], .int .i64 2])) [] {} else bif decide (n < 1) then Q (.ret (.tup [.int .i64 0, .agg [.str [], .int .i64 0], .int .i64 2])) [] {} else bif decide (n > 7) then Q (.ret (.tup [.int .i64 0, .agg [.str [], .int .i64 0], .int
 .i64 2])) [] {} else exI .i64 (s.length : Int) fun n_1 => exW .i64 (n_1 - a) fun n_2 => bif decide (n_2 < n) then Q (.ret (.tup [.int .i64 0, .agg [.str [], .int .i64 0], .int .i64 7])) [] {} else exW .i64 (a + n) fun n_3 => ckQ (decide (0
 ≤ a) && decide (0 ≤ n_3) && Nat.ble a.toNat n_3.toNat && Nat.ble n_3.toNat s.length) (exS (.str ((s.drop a.toNat).take (n_3.toNat - a.toNat))) fun s_4 => exW .i64 (a + n) fun n_5 => Lf (s_4.length ≤ 7) ∧ ckQ (eqAVL [.int .i64 a] [.int .i64
 a] && true) (ckQ (eqAVL [.str s] [.str s] && true) (exI .i64 (beM s_4) fun n_6 => Q (.ret (.tup [.int .i64 n_6, .agg [.str s, .int .i64 n_5], .int .i64 0])) [] {})))) := by kernel_rfl

noncomputable def goal_36 (hv : Nat → Option Pa) (hb : Nat → Option Bool) (s : List UInt8) (a n : Int) (Q : Out → List Blk → Gh → Prop) : Prop :=
  callx (e01 smTk (fun _ => none) hv hb) (wpx (e01 smTk (fun _ => none) hv hb) 1000) 36 [.agg [.str s, .int .i64 a], .int .i64 n] [] {} Q
theorem vc_36 (s : List UInt8) (a : Int) (n : Int) (Q : Out → List Blk → Gh → Prop) : goal_36 (lookV [(192524, .int .i64), (147484, .int .i64), (147485, .int .i64), (147487, .int .i64), (147489, .int .i64), (147494, .int .i64)]) (lookB [])
 s a n Q = (bif decide (a < 0) then Q (.ret (.tup [.agg [.str [], .int .i64 0], .int .i64 2])) [] {} else exI .i64 (s.length : Int) fun n_0 => bif decide (a > n_0) then Q (.ret (.tup [.agg [.str [], .int .i64 0], .int .i64 2])) [] {} else ∀
 b_1 : Bool, Lf (b_1 = unitM n) → bif b_1 then exW .i64 (a + n) fun n_2 => exW .i64 (n_2 - 1) fun n_3 => ckQ (n != 0 && true) (exW .i64 (n_3.tdiv n) fun n_4 => exW .i64 (n_4 * n) fun n_5 => exI .i64 (s.length : Int) fun n_6 => bif decide
 (n_5 > n_6) then Q (.ret (.tup [.agg [.str [], .int .i64 0], .int .i64 7])) [] {} else Q (.ret (.tup [.agg [.str s, .int .i64 n_5], .int .i64 0])) [] {}) else Q (.ret (.tup [.agg [.str [], .int .i64 0], .int .i64 2])) [] {}) := by
 kernel_rfl

theorem eqAVL_i (k : IntKind) (c : Int) : eqAVL [AV.int k c] [AV.int k c] = true := by
  simp [eqAVL, eqAV]
theorem eqB_refl (s : List UInt8) : eqB s s = true := by
  rw [eqB_iff]; simp
theorem eqAVL_s (s : List UInt8) : eqAVL [AV.str s] [AV.str s] = true := by
  simp [eqAVL, eqAV, eqB_refl]
def cTake : Con
  | [.agg [.str s, .int .i64 a], .int .i64 n], H, K => Lf (s.length ≤ 1000000) ∧ ∀ (v t : List UInt8) (b f : Int), Lf (takeM s a n = (v, t, b, f)) → K (.ret (.tup [.str v, .agg [.str t, .int .i64 b], .int .i64 f])) H
  | _, _, _ => False
theorem take_ok : ValidF Try.prog gl0 34 cTake := by
  refine valid_flat (enters_of (by kernel_rfl)) gl0_noY fun args H Q hc => ?_
  unfold cTake at hc
  split at hc
  · rename_i s a n
    obtain ⟨⟨hl⟩, hq⟩ := hc
    obtain ⟨hv, hb', e⟩ : ∃ hv hb, goal_34 hv hb s a n (fun o H' _ => H' = [] ∧ (∃ v, o = .ret v ∧ old 0 v = true ∧ noY v = true) ∧ Q o H) = _ := ⟨_, _, vc_34 s a n _⟩
    refine ⟨rfl, rfl, _, 1000, envFor01 smTk_ok _ hv hb', rfl, e.mpr ?_⟩
    have bad : (a < 0 ∨ (s.length : Int) < a ∨ n < 0) → [] = ([] : List Blk) ∧ (∃ v, Out.ret (.tup [.str [], .agg [.str [], .int .i64 0], .int .i64 2]) = .ret v ∧ old 0 v = true ∧ noY v = true) ∧ Q (.ret (.tup [.str [], .agg [.str [], .int .i64 0], .int .i64 2])) H := fun h => ⟨rfl, ⟨_, rfl, rfl, rfl⟩, hq [] [] 0 2 ⟨by rw [takeM, if_pos h]⟩⟩
    refine ⟨_, rfl, splitD (fun h => bad (.inl h)) (fun h1 => ⟨_, rfl, splitD (fun h => bad (.inr (.inl (by omega)))) (fun h2 => splitD (fun h => bad (.inr (.inr h))) (fun h3 => ?_))⟩)⟩
    refine splitD (fun h => absurd h (by unfold imax; split <;> omega)) (fun _ => ⟨_, rfl, wrapI (by omega) (by omega) (splitD (fun h4 => ?_) (fun h4 => ?_))⟩)
    · exact ⟨rfl, ⟨_, rfl, rfl, rfl⟩, hq [] [] 0 7 ⟨by rw [takeM, if_neg (by omega), if_pos (by omega)]⟩⟩
    · refine wrapI (by omega) (by omega) (ckI (by simp; omega) ⟨_, rfl, wrapI (by omega) (by omega) ⟨rfl, ckI (by rw [eqAVL_i]; rfl) (ckI (by rw [eqAVL_s]; rfl) ?_)⟩⟩)
      rw [show Int.toNat (a + n) - Int.toNat a = n.toNat by omega]
      exact ⟨rfl, ⟨_, rfl, rfl, rfl⟩, hq _ _ _ 0 ⟨by rw [takeM, if_neg (by omega), if_neg (by omega)]⟩⟩
  · exact hc.elim
def cUint : Con
  | [.agg [.str s, .int .i64 a], .int .i64 n], H, K => Lf (s.length ≤ 1000000) ∧ ∀ (v : Int) (t : List UInt8) (b f : Int), Lf (uintM s a n = (v, t, b, f)) → K (.ret (.tup [.int .i64 v, .agg [.str t, .int .i64 b], .int .i64 f])) H
  | _, _, _ => False
theorem uint_ok : ValidF Try.prog gl0 35 cUint := by
  refine valid_flat (enters_of (by kernel_rfl)) gl0_noY fun args H Q hc => ?_
  unfold cUint at hc
  split at hc
  · rename_i s a n
    obtain ⟨⟨hl⟩, hq⟩ := hc
    obtain ⟨hv, hb', e⟩ : ∃ hv hb, goal_35 hv hb s a n (fun o H' _ => H' = [] ∧ (∃ v, o = .ret v ∧ old 0 v = true ∧ noY v = true) ∧ Q o H) = _ := ⟨_, _, vc_35 s a n _⟩
    refine ⟨rfl, rfl, _, 1000, envFor01 smTk_ok _ hv hb', rfl, e.mpr ?_⟩
    have bad : (a < 0 ∨ (s.length : Int) < a ∨ n < 1 ∨ 7 < n) → [] = ([] : List Blk) ∧ (∃ v, Out.ret (.tup [.int .i64 0, .agg [.str [], .int .i64 0], .int .i64 2]) = .ret v ∧ old 0 v = true ∧ noY v = true) ∧ Q (.ret (.tup [.int .i64 0, .agg [.str [], .int .i64 0], .int .i64 2])) H := fun h => ⟨rfl, ⟨_, rfl, rfl, rfl⟩, hq 0 [] 0 2 ⟨by rw [uintM, if_pos h]⟩⟩
    refine splitD (fun h => bad (.inl h)) (fun h1 => ⟨_, rfl, splitD (fun h => bad (.inr (.inl (by omega)))) (fun h2 => splitD (fun h => bad (.inr (.inr (.inl h)))) (fun h3 => splitD (fun h => bad (.inr (.inr (.inr (by omega))))) (fun h4 => ⟨_, rfl, wrapI (by omega) (by omega) (splitD (fun h5 => ?_) (fun h5 => ?_))⟩)))⟩)
    · exact ⟨rfl, ⟨_, rfl, rfl, rfl⟩, hq 0 [] 0 7 ⟨by rw [uintM, if_neg (by omega), if_pos (by omega)]⟩⟩
    · refine wrapI (by omega) (by omega) (ckI (by simp; omega) ⟨_, rfl, wrapI (by omega) (by omega) ⟨⟨by rw [List.length_take]; omega⟩, ckI (by rw [eqAVL_i]; rfl) (ckI (by rw [eqAVL_s]; rfl) ?_)⟩⟩)
      rw [show Int.toNat (a + n) - Int.toNat a = n.toNat by omega]
      exact ⟨_, rfl, rfl, ⟨_, rfl, rfl, rfl⟩, hq _ _ _ 0 ⟨by rw [uintM, if_neg (by omega), if_neg (by omega)]⟩⟩
  · exact hc.elim
def cSkip : Con
  | [.agg [.str s, .int .i64 a], .int .i64 n], H, K => Lf (s.length ≤ 1000000) ∧ ∀ (t : List UInt8) (b f : Int), Lf (skipM s a n = (t, b, f)) → K (.ret (.tup [.agg [.str t, .int .i64 b], .int .i64 f])) H
  | _, _, _ => False
theorem skip_ok : ValidF Try.prog gl0 36 cSkip := by
  refine valid_flat (enters_of (by kernel_rfl)) gl0_noY fun args H Q hc => ?_
  unfold cSkip at hc
  split at hc
  · rename_i s a n
    obtain ⟨⟨hl⟩, hq⟩ := hc
    obtain ⟨hv, hb', e⟩ : ∃ hv hb, goal_36 hv hb s a n (fun o H' _ => H' = [] ∧ (∃ v, o = .ret v ∧ old 0 v = true ∧ noY v = true) ∧ Q o H) = _ := ⟨_, _, vc_36 s a n _⟩
    refine ⟨rfl, rfl, _, 1000, envFor01 smTk_ok _ hv hb', rfl, e.mpr ?_⟩
    have bad : (a < 0 ∨ (s.length : Int) < a ∨ unitM n = false) → [] = ([] : List Blk) ∧ (∃ v, Out.ret (.tup [.agg [.str [], .int .i64 0], .int .i64 2]) = .ret v ∧ old 0 v = true ∧ noY v = true) ∧ Q (.ret (.tup [.agg [.str [], .int .i64 0], .int .i64 2])) H := fun h => ⟨rfl, ⟨_, rfl, rfl, rfl⟩, hq [] 0 2 ⟨by rw [skipM, if_pos h]⟩⟩
    refine splitD (fun h => bad (.inl h)) (fun h1 => ⟨_, rfl, splitD (fun h => bad (.inr (.inl (by omega)))) (fun h2 => ?_)⟩)
    rintro b ⟨rfl⟩
    cases hu : unitM n with
    | false => exact bad (.inr (.inr hu))
    | true =>
      have hm : n = 1 ∨ n = 2 ∨ n = 4 ∨ n = 8 := of_decide_eq_true hu
      have hd : (a + n - 1).tdiv n = (a + n - 1) / n := Int.tdiv_eq_ediv_of_nonneg (by omega)
      have hup : 0 ≤ (a + n - 1) / n ∧ (a + n - 1) / n ≤ 1000010 := by rcases hm with rfl | rfl | rfl | rfl <;> omega
      have hup2 : 0 ≤ (a + n - 1) / n * n ∧ (a + n - 1) / n * n ≤ 1000010 := by rcases hm with rfl | rfl | rfl | rfl <;> omega
      refine wrapI (by omega) (by omega) (wrapI (by omega) (by omega) (ckI (by rcases hm with rfl | rfl | rfl | rfl <;> rfl) ?_))
      rw [hd]
      refine wrapI (by omega) (by omega) (wrapI (by omega) (by omega) ⟨_, rfl, splitD (fun h => ?_) (fun h => ?_)⟩)
      · exact ⟨rfl, ⟨_, rfl, rfl, rfl⟩, hq [] 0 7 ⟨by rw [skipM, if_neg (by rw [hu]; simp; omega), if_pos (by unfold upM; omega)]⟩⟩
      · exact ⟨rfl, ⟨_, rfl, rfl, rfl⟩, hq _ _ 0 ⟨by rw [skipM, if_neg (by rw [hu]; simp; omega), if_neg (by unfold upM; omega)]; rfl⟩⟩
  · exact hc.elim
end Go.Proofs.Ythaapjfnadfmgaa
