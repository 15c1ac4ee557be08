/-
  Contracts of octets.Check, Left, Take, Uint and Skip.
-/
import Derived.Test.YthaapjfnadfmgaaOctB2
namespace Go.Proofs.Ythaapjfnadfmgaa
open Go.RowKit

theorem or_byte (a c : Nat) (ha : a < 281474976710656) (hc : c < 256) : bits .or .i64 ((a : Int) * 256) (c : Int) = ((256 * a + c : Nat) : Int) := by
  have hw : ∀ n : Int, 0 ≤ n → n < 2 ^ 63 → IntKind.i64.wrap n = n := by
    intro n h1 h2
    rw [IntKind.wrap_i64]
    omega
  rw [bits_join .i64 63 (by decide) hw 8 _ _ (by omega) (by omega) (by omega) (by omega) (by omega) (by omega)]
  omega

set_option maxHeartbeats 400000 in
theorem uint1_any (s : ByteArray) (w : World) (hs : s.size ≤ 7) :
    Calls Try.prog 51 #[.string s] w fun e w' => e = .returned (.int .i64 (num s.data.toList)) ∧ Below w.heap.size w w' := by
  go_enter Try.func51, Try.ntmps51
  go_wp2_with (first | (refine wpList_bytes _ rfl (.tmp 6) _ _ _ rfl Try.underlying9 Try.underlying35 Try.underlying5 w.heap.size s rfl (by unfold maxLen; omega) (Nat.le_refl _) ?_; intro w1 cap hsl hb hz))
  have hrd := hsl.rd
  go_loop [3, 9] (fun v i => ∃ k : Nat, k ≤ s.size ∧ i = .int .i64 k ∧ v = .int .i64 (num (s.data.toList.take k))) (fun _ i => s.size - (intOf i).toNat)
  case atStart => exact ⟨0, Nat.zero_le _, rfl, rfl⟩
  case round =>
    obtain ⟨k, hk, rfl, rfl⟩ := hrel
    by_cases hlt : k < s.size
    · have hkl : k < s.data.toList.length := by rw [szL]; exact hlt
      obtain ⟨g, off, h1, h2, h3⟩ := hrd.byte hkl
      cases h1
      simp only [Nat.zero_add] at h3
      have HT : Hid (s.data.toList.take (k + 1) = s.data.toList.take k ++ [s.data.toList[k]'hkl]) := by rw [← List.take_append_getElem hkl]; exact rfl
      generalize s.data.toList[k]'hkl = c at h3 HT
      have hc := c.toNat_lt
      have hn := num_lt (s.data.toList.take k)
      have hl : (s.data.toList.take k).length ≤ 6 := by rw [List.length_take]; omega
      have hp := Nat.pow_le_pow_right (n := 256) (by omega) hl
      have hn2 : ((num (s.data.toList.take k) : Nat) : Int) < 281474976710656 := by omega
      clear hn hp hl
      go_wp2
      go_round
      case rel => exact ⟨k + 1, by omega, by go_num, by rw [HT.out, num_snoc, or_byte _ _ (by omega) hc]⟩
      case measure => simp [intOf]; omega
    · go_wp2
      go_ret
      exact ⟨ret1 (vint (by rw [List.take_of_length_le (by rw [szL]; omega)])), by (repeat' (first | exact Below.refl _ _ | apply b_drew | apply b_drewN | apply b_set | apply b_setRow | apply b_alloc | (refine b_call (by assumption) ?_ ?_) | (refine b_grown (by assumption) ?_ ?_ ?_) | (exact Sl.blk (by assumption)) | omega | (simp; done) | (simp; omega)))⟩

end Go.Proofs.Ythaapjfnadfmgaa
