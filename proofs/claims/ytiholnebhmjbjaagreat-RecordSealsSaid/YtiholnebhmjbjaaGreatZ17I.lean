/-
  Chapter 17: the reference's Number, Decode, Same; the law's texts, pieces, few.
-/
import Derived.Test.YtiholnebhmjbjaaGreatZ17H
set_option linter.unusedSimpArgs false
set_option linter.unusedVariables false
set_option linter.unusedSectionVars false
namespace Go.Proofs.YtiholnebhmjbjaaGreat
open Go.RowKit
set_option maxRecDepth 1000000

def inv_34q (sd : Int) (n : Nat) : LInv where
  α := List UInt8 × Nat
  pre x := Lf (x.1.length = n ∧ x.2 ≤ n)
  st x := ⟨mkT [(0, .int .u8 sd), (1, .int .i64 (n : Nat)), (5, .sl 0 n 0 n 1), (6, .int .i64 (x.2 : Nat))], [⟨.exact, true, ofBytes x.1⟩]⟩
  mu x := n - x.2
noncomputable def env_34q (hv : Nat → Option Pa) (hb : Nat → Option Bool) (sd : Int) (n : Nat) : Env :=
  e04 sm0 (fun i => bif Nat.beq i 28000 then some (fun _ => [[inv_34q sd n]]) else none) hv hb
noncomputable def goal_34q (hv : Nat → Option Pa) (hb : Nat → Option Bool) (sd : Int) (n : Nat) (Q : Out → List Blk → Gh → Prop) : Prop :=
  callx (env_34q hv hb sd n) (wpx (env_34q hv hb sd n) 1000) 28 [.int .u8 sd, .int .i64 (n : Nat)] [] {} Q
theorem vc_34q (sd : Int) (n : Nat) (Q : Out → List Blk → Gh → Prop) : goal_34q (lookV [(114695, .int .i64), (114697, .int .i64), (114698, .int .i64), (114703, .int .i64), (114705, .int .i64), (114706, .int .u8), (114708, .int .u8),
 (114709, .int .u8), (114710, .int .u8), (114711, .int .u8), (114700, .int .i64), (114701, .int .i64), (114714, .str)]) (lookB []) sd n Q = (exI .i64 (n : Int) fun n_0 => ckQ (decide (0 ≤ n_0) && decide (n_0 ≤ n_0) && decide (n_0 ≤
 1099511627776) && decide (n_0 * 1 ≤ 1099511627776)) ((∃ x_1 : List UInt8 × Nat, Lf (x_1.1.length = n ∧ x_1.2 ≤ n) ∧ ckQ (oldL 0 (List.replicate n_0.toNat [AV.int .u8 0]).flatten == true) ((List.replicate n_0.toNat [AV.int .u8 0]).flatten =
 ofBytes x_1.1 ∧ eqqQ (AV.int .u8 sd) ∧ eqqQ (AV.int .i64 (n : Int)) ∧ AV.sl 0 (n_0.toNat * 1) 0 n_0.toNat 1 = AV.sl 0 n 0 n 1 ∧ AV.int .i64 0 = AV.int .i64 (x_1.2 : Int) ∧ True)) ∧ ∀ x_1 : List UInt8 × Nat, Lf (x_1.1.length = n ∧ x_1.2 ≤
 n) → exI .i64 (x_1.2 : Int) fun n_2 => exI .i64 (n : Int) fun n_3 => bif decide (n_2 < n_3) then exI .i64 (x_1.2 : Int) fun n_4 => exI .i64 (x_1.2 : Int) fun n_5 => exW .u8 n_5 fun n_6 => exI .u8 (sd.tmod 5) fun n_7 => exW .u8 (1 + n_7)
 fun n_8 => exW .u8 (n_6 * n_8) fun n_9 => exW .u8 (sd + n_9) fun n_10 => ckQ (decide (0 ≤ n_4) && Nat.blt n_4.toNat n && Nat.beq (ofBytes x_1.1).length n && true) (ckQ (Nat.beq (ofBytes x_1.1).length n && Nat.ble (0 + n_4.toNat * 1 + 1) n
 && true && true && true) (exI .i64 (x_1.2 : Int) fun n_11 => exW .i64 (n_11 + 1) fun n_12 => (True ∧ (0 : Nat) = (0 : Nat)) ∧ ∃ y_13 : List UInt8 × Nat, Lf (y_13.1.length = n ∧ y_13.2 ≤ n) ∧ n - y_13.2 < n - x_1.2 ∧ setRange (ofBytes
 x_1.1) (0 + n_4.toNat * 1) [.int .u8 n_10] = ofBytes y_13.1 ∧ eqqQ (AV.int .u8 sd) ∧ eqqQ (AV.int .i64 (n : Int)) ∧ eqqQ (AV.sl 0 n 0 n 1) ∧ AV.int .i64 n_12 = AV.int .i64 (y_13.2 : Int) ∧ True)) else ckQ (Nat.beq (ofBytes x_1.1).length n
 && Nat.ble (0 + n) n && true && allU8 (((ofBytes x_1.1).drop 0).take n)) (exS (.str (List.map toB (((ofBytes x_1.1).drop 0).take n))) fun s_4 => Q (.ret (.str s_4)) [] {}))) := by kernel_rfl

def cTxt : Con
  | [.int .u8 sd, .int .i64 n], H, K => Lf (0 ≤ n ∧ n ≤ 1000) ∧ ∀ t, Lf (t.length = n.toNat) → K (.ret (.str t)) H
  | _, _, _ => False
theorem wrapB {y : Int} {K : Int → Prop} (h : ∀ b : UInt8, K (b.toNat : Int)) : ∃ n : Int, AV.int .u8 (IntKind.wrap .u8 y) = AV.int .u8 n ∧ K n := by
  refine ⟨_, ?_, h (UInt8.ofNat (y % 256).toNat)⟩
  congr 1
  show y % 256 = _
  rw [UInt8.toNat_ofNat']
  omega
theorem rep_flat (n : Nat) : (List.replicate n [AV.int .u8 0]).flatten = ofBytes (List.replicate n 0) := by
  induction n with
  | zero => rfl
  | succ n ih => rw [List.replicate_succ, List.flatten_cons, ih]; rfl
theorem text_run (sd : Int) (n : Nat) (hn : n ≤ 1000) (Q : Out → List Blk → Gh → Prop) (hq : ∀ t : List UInt8, t.length = n → Q (.ret (.str t)) [] {}) : ∃ hv hb, goal_34q hv hb sd n Q := by
  obtain ⟨hv, hb', e⟩ : ∃ hv hb, goal_34q hv hb sd n Q = _ := ⟨_, _, vc_34q sd n Q⟩
  refine ⟨hv, hb', e.mpr ?_⟩
  clear e
  refine ⟨_, rfl, ckI (by simp; omega) ⟨⟨(List.replicate n 0, 0), ⟨by simp, by simp⟩, ?_⟩, ?_⟩⟩
  · rw [Int.toNat_natCast, rep_flat, oldL_ofB, Nat.mul_one]
    exact ⟨rfl, rfl, rfl, rfl, rfl, trivial⟩
  · rintro ⟨L, i⟩ ⟨h1, h2⟩
    dsimp only at h1 h2 ⊢
    refine ⟨_, rfl, _, rfl, splitD (fun h3 => ?_) (fun h3 => ?_)⟩
    · refine ⟨_, rfl, _, rfl, _, rfl, _, rfl, _, rfl, _, rfl, wrapB fun b => ckI (by rw [ofB_len]; simp; omega) (ckI (by rw [ofB_len]; simp; omega) ⟨_, rfl, wrapI (by omega) (by omega) ⟨⟨trivial, rfl⟩, (L.set i b, i + 1), ⟨by simp [h1], by dsimp only; omega⟩, by dsimp only; omega, ?_, rfl, rfl, rfl, rfl, trivial⟩⟩)⟩
      exact stB (j := i) (by omega) (by simp)
    · refine ckI (by rw [ofB_len, allU8_take]; simp; omega) ⟨_, rfl, ?_⟩
      rw [strB (by omega) rfl]
      exact hq L h1
theorem txt_ok : ValidF Tryz.prog gl0 28 cTxt := by
  refine valid_flat (enters_of (by kernel_rfl)) gl0_noY fun args H Q hc => ?_
  unfold cTxt at hc
  split at hc
  · rename_i sd n
    obtain ⟨⟨h0, h1⟩, hq⟩ := hc
    obtain ⟨k, rfl⟩ : ∃ k : Nat, n = (k : Int) := ⟨n.toNat, by omega⟩
    obtain ⟨hv, hb', h⟩ := text_run sd k (by omega) (Q := fun o H' _ => H' = [] ∧ (∃ v, o = .ret v ∧ old 0 v = true ∧ noY v = true) ∧ Q o H) (fun t ht => ⟨rfl, ⟨_, rfl, rfl, rfl⟩, hq _ ⟨by rw [Int.toNat_natCast]; exact ht⟩⟩)
    exact ⟨rfl, rfl, _, 1000, envFor04 sm0_ok _ _ _, rfl, h⟩
  · exact hc.elim
def smTx : SM := lookS [(28, cTxt)]
theorem smTx_ok : ∀ f g, smTx f = some g → ValidF Tryz.prog gl0 f g := lookS_ok _ (by simp only [List.mem_cons, List.not_mem_nil, or_false, forall_eq]; exact txt_ok)
end Go.Proofs.YtiholnebhmjbjaaGreat
