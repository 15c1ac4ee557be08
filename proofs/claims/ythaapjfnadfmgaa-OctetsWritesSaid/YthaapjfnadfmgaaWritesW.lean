/-
  The walk of OctetsWrites.
-/
import Derived.Test.YthaapjfnadfmgaaWorksB
import Derived.Test.YthaapjfnadfmgaaRefC
import Derived.Test.YthaapjfnadfmgaaLib3
import Derived.OpenShut
namespace Go.Proofs.Ythaapjfnadfmgaa
open Go.RowKit

/-- what the first 'n' octets of a string are -/
theorem extract_size_le (s : ByteArray) (n : Nat) : (s.extract 0 n).size ≤ n := by rw [ByteArray.size_extract]; omega

theorem ints3 (a b c : Int) : ∀ j, j < 3 → ∃ v, (#[.int .i64 a, .int .i64 b, .int .i64 c] : Array Value)[j]? = some v ∧ ∃ p : Int, v = .int .i64 p := by
  intro j hj
  have : j = 0 ∨ j = 1 ∨ j = 2 := by omega
  rcases this with rfl | rfl | rfl <;> exact ⟨_, rfl, _, rfl⟩

theorem put_cases (n v : Int) :
    ((decide (n < 1) = true ∨ (decide (n < 1) = false ∧ decide (7 < n) = true) ∨ (decide (n < 1) = false ∧ decide (7 < n) = false ∧ decide (v < 0) = true)) ∧ putR n v = ([], 2)) ∨
    ∃ k x : Nat, n = k ∧ v = x ∧ 1 ≤ k ∧ k ≤ 7 ∧ ((decide (x < 256 ^ k) = false ∧ putR n v = ([], 6)) ∨ (decide (x < 256 ^ k) = true ∧ putR n v = (be k x, 0))) := by
  unfold putR
  by_cases h : n < 1 ∨ 7 < n ∨ v < 0
  · left
    rw [if_pos h]
    refine ⟨?_, rfl⟩
    simp only [decide_eq_true_eq, decide_eq_false_iff_not]; omega
  · right
    rw [if_neg h]
    obtain ⟨k, rfl⟩ : ∃ k : Nat, n = k := ⟨n.toNat, by omega⟩
    obtain ⟨x, rfl⟩ : ∃ x : Nat, v = x := ⟨v.toNat, by omega⟩
    refine ⟨k, x, rfl, rfl, by omega, by omega, ?_⟩
    simp only [Int.toNat_natCast]
    have e : ((256 : Int) ^ k ≤ (x : Int)) ↔ 256 ^ k ≤ x := by
      rw [show (256 : Int) ^ k = ((256 ^ k : Nat) : Int) from (Int.natCast_pow 256 k).symm]; omega
    by_cases hb : (256 : Int) ^ k ≤ (x : Int)
    · rw [if_pos hb]; left; exact ⟨by have := e.1 hb; simp; omega, rfl⟩
    · rw [if_neg hb]; right; exact ⟨by have := mt e.2 hb; simp; omega, rfl⟩

set_option maxRecDepth 100000 in
set_option maxHeartbeats 4000000 in
theorem writes_core (n v : Int) (s : ByteArray) (c : Int) (w : World) (hs : s.size ≤ maxLen) (hv1 : -9223372036854775808 ≤ v) (hv2 : v ≤ 9223372036854775807) (hc : 0 ≤ c) (hc2 : c < 256) :
    Calls Try.prog 3 #[.int .i64 n, .int .i64 v, .string s, .int .u8 c] w fun e w' => e = .returned (.bool true) ∧ Below w.heap.size w w' := by
  unfold maxLen at hs
  go_enter Try.func3, Try.ntmps3
  go_wp2_with (first
      | (go_at_call 9; refine (works_any _).mono ?_; rintro e w1 ⟨rfl, hb⟩))
  all_goals
    first | (have hts : s.size ≤ 300 := (by omega); obtain ⟨t, rfl⟩ : ∃ t, t = s := ⟨s, rfl⟩) | (generalize ht : s.extract 0 300 = t; have hts : t.size ≤ 300 := (by rw [← ht]; exact extract_size_le _ _); clear ht)
    have PD0 := fun (u : Int) (w : World) => pad_any t u w (by omega)
    have RP0 := fun (u : Nat) (w : World) (hu : isUnit (u : Int) = true) => rpad_any t u w hu (by omega)
    have PD1 := hid PD0
    have RP1 := hid RP0
    clear PD0 RP0
    go_loopw [31] (fun i wr => ∃ k : Nat, k ≤ 3 ∧ i = .int .i64 k ∧ Below w.heap.size w wr) (fun i _ => 3 - (intOf i).toNat)
    case atStart => exact ⟨0, by omega, rfl, hb⟩
    case round =>
      obtain ⟨k, hk3, rfl, hbk⟩ := hrel
      have hbz := hbk.size
      by_cases hlt : k < 3
      · have hlt' : (k : Int) < 3 := by omega
        go_wp2_with (first | (refine wpList_index1 rfl (.tmp 30) (.tmp 31) 23 3 3 rfl Try.underlying23 _ Try.underlying3 rfl (by kernel_rfl) _ rfl k _ rfl hlt (fun v => ∃ p : Int, v = .int .i64 p) (ints3 _ _ _) ?_; rintro v1 ⟨m, rfl⟩))
        have c1 := fun w => put_any m v w
        have c2 := fun w => runit_any m w
        have c3 := fun w => PD1.out m w
        rcases put_cases m v with ⟨hd, e1⟩ | ⟨kk, x, rfl, rfl, hk1, hk7, hd⟩
        · rw [e1] at c1
          have C1 := hid c1
          clear c1 e1
          cases hu : isUnit m with
          | true =>
            obtain ⟨u, rfl⟩ : ∃ u : Nat, m = u := ⟨m.toNat, by rcases isUnit_cases hu with h | h | h | h <;> omega⟩
            rw [hu] at c2
            simp only [padR, hu, if_true, Int.toNat_natCast] at c3
            have UN := hid c2
            have PD := hid c3
            have RP := hid (fun w => RP1.out u w hu)
            clear c2 c3 hu
            rcases hd with h1 | ⟨h1, h2⟩ | ⟨h1, h2, h3⟩
            all_goals
              refine (C1.out _).mono ?_
              rintro e w2 ⟨rfl, hb2⟩
              have hbk := hbk.trans (hb2.mono hbk.size)
              go_wp2_with (first | (go_at_call 11; (with_reducible refine (RF.out _).mono ?_); rintro e w3 ⟨rfl, rfl⟩) | (go_at_call 12; (with_reducible refine (RQ.out _).mono ?_); rintro e w3 ⟨rfl, hb3⟩; have hbk := hbk.trans (hb3.mono hbk.size)) | (go_at_call 13; (with_reducible refine (PD.out _).mono ?_); rintro e w3 ⟨rfl, hb3⟩; have hbk := hbk.trans (hb3.mono hbk.size)) | (go_at_call 14; (with_reducible refine (UN.out _).mono ?_); rintro e w3 ⟨rfl, rfl⟩) | (go_at_call 15; (with_reducible refine (RP.out _).mono ?_); rintro e w3 ⟨rfl, hb3⟩; have hbk := hbk.trans (hb3.mono hbk.size)))
              go_roundw
              case rel => exact ⟨k + 1, by omega, by go_num, hbk⟩
              case measure => simp [intOf]; omega
          | false =>
            rw [hu] at c2
            simp only [padR, hu, Bool.false_eq_true, if_false] at c3
            have UN := hid c2
            have PD := hid c3
            clear c2 c3 hu
            rcases hd with h1 | ⟨h1, h2⟩ | ⟨h1, h2, h3⟩
            all_goals
              refine (C1.out _).mono ?_
              rintro e w2 ⟨rfl, hb2⟩
              have hbk := hbk.trans (hb2.mono hbk.size)
              go_wp2_with (first | (go_at_call 11; (with_reducible refine (RF.out _).mono ?_); rintro e w3 ⟨rfl, rfl⟩) | (go_at_call 12; (with_reducible refine (RQ.out _).mono ?_); rintro e w3 ⟨rfl, hb3⟩; have hbk := hbk.trans (hb3.mono hbk.size)) | (go_at_call 13; (with_reducible refine (PD.out _).mono ?_); rintro e w3 ⟨rfl, hb3⟩; have hbk := hbk.trans (hb3.mono hbk.size)) | (go_at_call 14; (with_reducible refine (UN.out _).mono ?_); rintro e w3 ⟨rfl, rfl⟩) | (go_at_call 15; (with_reducible refine (RP.out _).mono ?_); rintro e w3 ⟨rfl, hb3⟩; have hbk := hbk.trans (hb3.mono hbk.size)))
              go_roundw
              case rel => exact ⟨k + 1, by omega, by go_num, hbk⟩
              case measure => simp [intOf]; omega
        · have h1 : decide ((kk : Int) < 1) = false := by simp; omega
          have h2 : decide (7 < (kk : Int)) = false := by simp; omega
          have h3 : decide ((x : Int) < 0) = false := by simp
          have hx : x ≤ 9223372036854775807 := by omega
          have RF := hid (fun w => rfits_any kk x w hk7 hx)
          have RQ := hid (fun w => rput_any kk x w hk7 hx)
          cases hu : isUnit (kk : Int) with
          | true =>
            rw [hu] at c2
            simp only [padR, hu, if_true, Int.toNat_natCast] at c3
            have UN := hid c2
            have PD := hid c3
            have RP := hid (fun w => RP1.out kk w hu)
            clear c2 c3 hu
            rcases hd with ⟨hf, e1⟩ | ⟨hf, e1⟩
            all_goals
              rw [e1] at c1
              refine (c1 _).mono ?_
              clear c1 e1
              rintro e w2 ⟨rfl, hb2⟩
              have hbk := hbk.trans (hb2.mono hbk.size)
              go_wp2_with (first | (go_at_call 11; (with_reducible refine (RF.out _).mono ?_); rintro e w3 ⟨rfl, rfl⟩) | (go_at_call 12; (with_reducible refine (RQ.out _).mono ?_); rintro e w3 ⟨rfl, hb3⟩; have hbk := hbk.trans (hb3.mono hbk.size)) | (go_at_call 13; (with_reducible refine (PD.out _).mono ?_); rintro e w3 ⟨rfl, hb3⟩; have hbk := hbk.trans (hb3.mono hbk.size)) | (go_at_call 14; (with_reducible refine (UN.out _).mono ?_); rintro e w3 ⟨rfl, rfl⟩) | (go_at_call 15; (with_reducible refine (RP.out _).mono ?_); rintro e w3 ⟨rfl, hb3⟩; have hbk := hbk.trans (hb3.mono hbk.size)))
              go_roundw
              case rel => exact ⟨k + 1, by omega, by go_num, hbk⟩
              case measure => simp [intOf]; omega
          | false =>
            rw [hu] at c2
            simp only [padR, hu, Bool.false_eq_true, if_false] at c3
            have UN := hid c2
            have PD := hid c3
            clear c2 c3 hu
            rcases hd with ⟨hf, e1⟩ | ⟨hf, e1⟩
            all_goals
              rw [e1] at c1
              refine (c1 _).mono ?_
              clear c1 e1
              rintro e w2 ⟨rfl, hb2⟩
              have hbk := hbk.trans (hb2.mono hbk.size)
              go_wp2_with (first | (go_at_call 11; (with_reducible refine (RF.out _).mono ?_); rintro e w3 ⟨rfl, rfl⟩) | (go_at_call 12; (with_reducible refine (RQ.out _).mono ?_); rintro e w3 ⟨rfl, hb3⟩; have hbk := hbk.trans (hb3.mono hbk.size)) | (go_at_call 13; (with_reducible refine (PD.out _).mono ?_); rintro e w3 ⟨rfl, hb3⟩; have hbk := hbk.trans (hb3.mono hbk.size)) | (go_at_call 14; (with_reducible refine (UN.out _).mono ?_); rintro e w3 ⟨rfl, rfl⟩) | (go_at_call 15; (with_reducible refine (RP.out _).mono ?_); rintro e w3 ⟨rfl, hb3⟩; have hbk := hbk.trans (hb3.mono hbk.size)))
              go_roundw
              case rel => exact ⟨k + 1, by omega, by go_num, hbk⟩
              case measure => simp [intOf]; omega
      · have hk : k = 3 := by omega
        have HK := hid hk
        have hlt' : ¬ (k : Int) < 3 := by omega
        clear hk
        go_wp2
        go_ret
        exact ⟨rfl, hbk⟩

theorem octetsWrites_walk (a0 a1 : Int) (a2 : ByteArray) (a3 : Int) (w : World) (_w0 : (Lit.int .i64 a0).wf = true) (w1 : (Lit.int .i64 a1).wf = true) (w2 : a2.size ≤ maxLen) (w3 : (Lit.int .u8 a3).wf = true) :
    Calls Try.prog 3 #[.int .i64 a0, .int .i64 a1, .string a2, .int .u8 a3] w fun e w' => e = .returned (.bool true) ∧ Below w.heap.size w w' := by
  have b1 := bounds_i64 w1
  have b3 := bounds_u8 w3
  exact writes_core a0 a1 a2 a3 w w2 (by omega) (by omega) (by omega) (by omega)
end Go.Proofs.Ythaapjfnadfmgaa
