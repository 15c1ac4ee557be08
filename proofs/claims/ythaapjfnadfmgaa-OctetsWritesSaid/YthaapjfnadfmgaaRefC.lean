/-
  Contracts of the reference's functions that write and read octets.
-/
import Derived.Test.YthaapjfnadfmgaaRefB
import Derived.Test.YthaapjfnadfmgaaLib2
namespace Go.Proofs.Ythaapjfnadfmgaa
open Go.RowKit

theorem be_front : ∀ (k v : Nat), be (k + 1) v = UInt8.ofNat (v / 256 ^ k % 256) :: be k v
  | 0, v => by simp [be]
  | k + 1, v => by
    rw [be, be_front k (v / 256), be]
    rw [Nat.pow_succ', ← Nat.div_div_eq_div_mul]
    rfl

theorem ByteArray.mk_append_mk1 (c : UInt8) (l : List UInt8) : Value.string ((⟨#[c]⟩ : ByteArray) ++ ⟨l.toArray⟩) = .string ⟨(c :: l).toArray⟩ := by
  have := ByteArray.mk_append_mk [c] l
  exact congrArg _ this

theorem string_append (s : ByteArray) (l : List UInt8) : Value.string (s ++ ⟨l.toArray⟩) = .string ⟨(s.data.toList ++ l).toArray⟩ := by
  have := ByteArray.mk_append_mk s.data.toList l
  rw [← this]

theorem cell_byte (w : World) (q : Nat) {e : TypeId} : Rd (w.alloc (.cells #[.int .u8 ((q : Int) % 256)] e)) (some ⟨w.heap.size, 0, none⟩) (cellsOf [UInt8.ofNat (q % 256)]) := by
  have h := Rd.new w [.int .u8 ((q : Int) % 256)] e (0, 0)
  have e1 : cellsOf [UInt8.ofNat (q % 256)] = [.int .u8 ((q : Int) % 256)] := by
    have : q % 256 < 256 := Nat.mod_lt _ (by omega)
    simp [cellsOf]
  rw [e1]
  exact h

set_option maxHeartbeats 1000000 in
theorem rput_any (n v : Nat) (w : World) (hn : n ≤ 7) (hv : v ≤ 9223372036854775807) :
    Calls Try.prog 12 #[.int .i64 n, .int .i64 v] w fun e w' => e = .returned (.string ⟨(be n v).toArray⟩) ∧ Below w.heap.size w w' := by
  go_enter Try.func12, Try.ntmps12
  go_wp2
  go_loopw [1, 5, 6] (fun x s i wr => ∃ k : Nat, k ≤ n ∧ i = .int .i64 k ∧ x = .int .i64 ((v / 256 ^ k : Nat) : Int) ∧ s = .string ⟨(be k v).toArray⟩ ∧ Below w.heap.size w wr) (fun _ _ i _ => n - (intOf i).toNat)
  case atStart => exact ⟨0, Nat.zero_le _, rfl, by simp, rfl, Below.refl _ _⟩
  case round =>
    obtain ⟨k, hk, rfl, rfl, rfl, hb⟩ := hrel
    have hz := hb.size
    by_cases hlt : k < n
    · obtain ⟨q, hq⟩ : ∃ q, q = v / 256 ^ k := ⟨_, rfl⟩
      rw [← hq]
      have HQ := hid hq
      have hqv : q ≤ 9223372036854775807 := by rw [hq]; exact Nat.le_trans (Nat.div_le_self _ _) hv
      clear hq
      obtain ⟨l, hl⟩ : ∃ l, l = be k v := ⟨_, rfl⟩
      rw [← hl]
      have hll : l.length ≤ 7 := by rw [hl, length_be]; omega
      have HL := hid hl
      clear hl
      go_wp2_with (first | (refine wpList_string _ rfl (.tmp 15) _ _ _ rfl Try.underlying35 Try.underlying5 Try.underlying9 _ _ _ rfl [UInt8.ofNat (q % 256)] rfl ?hrd ?_))
      case hrd => exact cell_byte _ _
      go_roundw
      case rel => exact ⟨k + 1, by omega, by go_num, vint (by rw [Nat.pow_succ, ← Nat.div_div_eq_div_mul, ← HQ.out]; omega), by rw [ByteArray.mk_append_mk1, be_front, HL.out, HQ.out], by (repeat' (first | exact Below.refl _ _ | apply b_drew | apply b_drewN | apply b_set | apply b_setRow | apply b_alloc | (refine b_call (by assumption) ?_ ?_) | (refine b_grown (by assumption) ?_ ?_ ?_) | (exact Sl.blk (by assumption)) | omega | (simp; done) | (simp; omega)))⟩
      case measure => simp [intOf]; omega
    · have hkn : k = n := by omega
      have HK := hid hkn
      clear hkn
      go_wp2
      go_ret
      exact ⟨ret1 (vstr (by rw [HK.out])), hb⟩

set_option maxHeartbeats 400000 in
theorem rzeros_any (n : Nat) (w : World) (hn : n ≤ 1000000) :
    Calls Try.prog 42 #[.int .i64 n] w fun e w' => e = .returned (.string ⟨(List.replicate n (0 : UInt8)).toArray⟩) ∧ Below w.heap.size w w' := by
  go_enter Try.func42, Try.ntmps42
  go_wp2_with (first | (refine wpList_make _ rfl (.tmp 3) (.tmp 3) _ rfl w.heap.size _ (.int .u8 0) 1 1 Try.infoU8 Try.underlying35 _ _ _ _ n rfl rfl rfl rfl (by omega) (by unfold maxLen; omega) (Nat.le_refl _) ?_; intro w1 hsl hb hz; have hsl' := hsl.zeros; clear hsl) | (refine wpList_string _ rfl (.tmp 4) _ _ _ rfl Try.underlying35 Try.underlying5 Try.underlying9 _ _ _ rfl (List.replicate n 0) (by simp) (Sl.rd (by assumption)) ?_))
  go_ret
  exact ⟨rfl, hb⟩

set_option maxHeartbeats 400000 in
theorem rpad_any (s : ByteArray) (u : Nat) (w : World) (hu : isUnit (u : Int) = true) (hs : s.size ≤ 140737488355000) :
    Calls Try.prog 15 #[.string s, .int .i64 u] w fun e w' => e = .returned (.string ⟨(padL s.data.toList u).toArray⟩) ∧ Below w.heap.size w w' := by
  obtain ⟨hu1, hu2, hu3, hu4, hu5⟩ := upTo_facts s.size u hu
  clear hu5
  have C := hid (fun w => rup_any s.size u w hu (by omega))
  have C2 := hid (fun w => rzeros_any (upTo s.size u - s.size) w (by omega))
  have hd : ((upTo s.size u : Nat) : Int) - (s.size : Int) = ((upTo s.size u - s.size : Nat) : Int) := by omega
  clear hu
  go_enter Try.func15, Try.ntmps15
  go_wp2_with (first | (go_at_call 37; refine (C.out _).mono ?_; rintro e w1 ⟨rfl, rfl⟩) | (go_at_call 42; refine (C2.out _).mono ?_; rintro e w1 ⟨rfl, hb⟩))
  go_ret
  exact ⟨ret1 (by rw [string_append]; exact vstr (by unfold padL; rw [szL]; simp)), by (repeat' (first | exact Below.refl _ _ | apply b_drew | apply b_drewN | apply b_set | apply b_setRow | apply b_alloc | (refine b_call (by assumption) ?_ ?_) | (refine b_grown (by assumption) ?_ ?_ ?_) | (exact Sl.blk (by assumption)) | omega | (simp; done) | (simp; omega)))⟩

end Go.Proofs.Ythaapjfnadfmgaa
