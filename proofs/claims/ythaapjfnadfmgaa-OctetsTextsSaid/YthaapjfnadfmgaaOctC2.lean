/-
  Contracts of octets.Put (what it refuses) and octets.Pad.
-/
import Derived.Test.YthaapjfnadfmgaaOctC
namespace Go.Proofs.Ythaapjfnadfmgaa
open Go.RowKit

set_option maxHeartbeats 1000000 in
theorem put_bad (n v : Int) (w : World) (h : n < 1 ∨ 7 < n ∨ v < 0) :
    Calls Try.prog 10 #[.int .i64 n, .int .i64 v] w fun e w' => e = .returned (.tuple #[vE, .int .i64 2]) ∧ Below w.heap.size w w' := by
  have hd : decide (n < 1) = true ∨ (decide (n < 1) = false ∧ decide (7 < n) = true) ∨ (decide (n < 1) = false ∧ decide (7 < n) = false ∧ decide (v < 0) = true) := by
    simp only [decide_eq_true_eq, decide_eq_false_iff_not]; omega
  clear h
  rcases hd with h1 | ⟨h1, h2⟩ | ⟨h1, h2, h3⟩
  all_goals
    go_enter Try.func10, Try.ntmps10
    go_wp2
    go_ret2
    exact ⟨rfl, Below.refl _ _⟩

set_option maxHeartbeats 1000000 in
theorem put_big (n v : Nat) (w : World) (h1 : 1 ≤ n) (h2 : n ≤ 7) (hv : 256 ^ n ≤ v) :
    Calls Try.prog 10 #[.int .i64 n, .int .i64 v] w fun e w' => e = .returned (.tuple #[vE, .int .i64 6]) ∧ Below w.heap.size w w' := by
  have hv0 : ((v : Int) / 2 ^ (8 * n) != 0) = true := by
    rw [pow_8i, ← Int.natCast_ediv]
    have := Nat.div_pos hv (Nat.pow_pos (by omega))
    generalize v / 256 ^ n = q at this ⊢
    simp; omega
  have hd1 : decide ((n : Int) < 1) = false := by simp; omega
  have hd2 : decide (7 < (n : Int)) = false := by simp; omega
  go_enter Try.func10, Try.ntmps10
  go_wp2
  go_ret2
  exact ⟨rfl, Below.refl _ _⟩

/-- what Put returns -/
theorem put_any (n v : Int) (w : World) :
    Calls Try.prog 10 #[.int .i64 n, .int .i64 v] w fun e w' => e = .returned (.tuple #[.string ⟨(putR n v).1.toArray⟩, .int .i64 (putR n v).2]) ∧ Below w.heap.size w w' := by
  unfold putR
  by_cases h : n < 1 ∨ 7 < n ∨ v < 0
  · rw [if_pos h]; exact put_bad n v w h
  · rw [if_neg h]
    obtain ⟨k, rfl⟩ : ∃ k : Nat, n = k := ⟨n.toNat, by omega⟩
    obtain ⟨x, rfl⟩ : ∃ x : Nat, v = x := ⟨v.toNat, by omega⟩
    simp only [Int.toNat_natCast]
    have e : ((256 : Int) ^ k ≤ (x : Int)) ↔ 256 ^ k ≤ x := by
      rw [show (256 : Int) ^ k = ((256 ^ k : Nat) : Int) from (Int.natCast_pow 256 k).symm]; omega
    by_cases hb : (256 : Int) ^ k ≤ (x : Int)
    · rw [if_pos hb]; exact put_big k x w (by omega) (by omega) (e.1 hb)
    · rw [if_neg hb]; exact put_ok k x w (by omega) (by omega) (by have := mt e.2 hb; omega)

/-! ### Pad -/
def padL (l : List UInt8) (u : Nat) : List UInt8 := l ++ List.replicate (upTo l.length u - l.length) 0
theorem upTo_facts (n u : Nat) (hu : isUnit (u : Int) = true) : n ≤ upTo n u ∧ upTo n u < n + u ∧ u ≤ 8 ∧ 1 ≤ u ∧ (∀ m, n ≤ m → m ≤ upTo n u → (m % u = 0 ↔ m = upTo n u)) := by
  have h : u = 1 ∨ u = 2 ∨ u = 4 ∨ u = 8 := by rcases isUnit_cases hu with h | h | h | h <;> omega
  unfold upTo
  rcases h with rfl | rfl | rfl | rfl
  all_goals (refine ⟨?_, ?_, ?_, ?_, ?_⟩; all_goals omega)
/-- how long a slice is -/
def lenOf' : Value → Nat | .slice _ n _ => n | _ => 0

theorem pad_step (s : ByteArray) (m : Nat) (h : s.size ≤ m) : cellsOf (s.data.toList ++ List.replicate (m + 1 - s.size) 0) = cellsOf (s.data.toList ++ List.replicate (m - s.size) 0) ++ [.int .u8 0] := by
  rw [show m + 1 - s.size = m - s.size + 1 by omega, List.replicate_succ', ← List.append_assoc, cellsOf_append]
  rfl

set_option maxHeartbeats 1000000 in
theorem pad_ok (s : ByteArray) (u : Nat) (w : World) (hu : isUnit (u : Int) = true) (hs : s.size ≤ 140737488355000) :
    Calls Try.prog 13 #[.string s, .int .i64 u] w fun e w' => e = .returned (.tuple #[.string ⟨(padL s.data.toList u).toArray⟩, .int .i64 0]) ∧ Below w.heap.size w w' := by
  obtain ⟨hu1, hu2, hu3, hu4, hu5⟩ := upTo_facts s.size u hu
  have HU := hid hu5
  clear hu5
  have c := fun w => unit_any u w
  rw [hu] at c
  have C := hid c
  clear c hu
  go_enter Try.func13, Try.ntmps13
  go_wp2_with (first | (go_at_call 41; refine (C.out _).mono ?_; rintro e w2 ⟨rfl, rfl⟩) | (refine wpList_bytes _ rfl (.tmp 10) _ _ _ rfl Try.underlying9 Try.underlying35 Try.underlying5 w.heap.size s rfl (by unfold maxLen; omega) (Nat.le_refl _) ?_; intro w1 cap hsl hb hz))
  go_loopw [6] (fun v wr => ∃ (m : Nat) (ao : Option Addr) (cap : Nat), s.size ≤ m ∧ m ≤ upTo s.size u ∧ v = .slice ao m cap ∧ Sl wr w.heap.size 5 1 ao m cap (cellsOf (s.data.toList ++ List.replicate (m - s.size) 0)) ∧ Below w.heap.size w wr) (fun v _ => upTo s.size u - lenOf' v)
  case atStart => exact ⟨s.size, _, cap, by omega, by omega, rfl, by simpa using hsl, hb⟩
  case round =>
    obtain ⟨m, ao, cap, h1, h2, rfl, hsk, hbk⟩ := hrel
    by_cases hm : m % u = 0
    · have hmu := (HU.out m h1 h2).1 hm
      have ht : ((m : Int) % (u : Int) != 0) = false := by rw [← Int.natCast_emod, hm]; rfl
      have HM := hid hm
      have HMU := hid hmu
      clear hm hmu
      go_wp2_with (first | (refine wpList_string _ rfl (.tmp 20) _ _ _ rfl Try.underlying35 Try.underlying5 Try.underlying9 _ _ _ rfl (s.data.toList ++ List.replicate (m - s.size) 0) (by rw [List.length_append, List.length_replicate, szL]; omega) hsk.rd ?_))
      go_ret2
      exact ⟨ret2 (vstr (by rw [HMU.out]; unfold padL; rw [szL])) rfl, hbk⟩
    · have hmu : m < upTo s.size u := by have := mt (HU.out m h1 h2).2 hm; omega
      have ht : ((m : Int) % (u : Int) != 0) = true := by rw [← Int.natCast_emod]; simp; omega
      have HM := hid hm
      clear hm
      have hbz := hbk.size
      go_wp2_with (first | (at_builtin; refine wpList_append _ rfl (.tmp 17) (.tmp 18) 35 rfl w.heap.size 5 (.int .u8 0) 1 1 Try.infoU8 Try.underlying35 rfl (by omega) _ _ _ _ rfl (hsk.alloc _) _ 1 1 [.int .u8 0] rfl rfl ?hrd ?had ?h1 (by omega) (by unfold maxLen; omega) ?hbase ?_))
      case hrd => exact Rd.new wr [.int .u8 0] _ _
      case had => simp
      case h1 => simp [Value.oneCell']
      case hbase => simp; omega
      intro ao' cap' w' hsl' hgr _
      have HS := hid hsl'
      clear hsl'
      go_wp2
      go_roundw
      case rel => exact ⟨m + 1, ao', cap', by omega, by omega, rfl, by rw [pad_step s m h1]; exact HS.out, by (repeat' (first | exact Below.refl _ _ | apply b_drew | apply b_drewN | apply b_set | apply b_setRow | apply b_alloc | (refine b_call (by assumption) ?_ ?_) | (refine b_grown (by assumption) ?_ ?_ ?_) | (exact Sl.blk (by assumption)) | omega | (simp; done) | (simp; omega)))⟩
      case measure => simp [lenOf']; omega

set_option maxHeartbeats 400000 in
theorem pad_bad (s : ByteArray) (u : Int) (w : World) (hu : isUnit u = false) :
    Calls Try.prog 13 #[.string s, .int .i64 u] w fun e w' => e = .returned (.tuple #[vE, .int .i64 2]) ∧ Below w.heap.size w w' := by
  have c := fun w => unit_any u w
  rw [hu] at c
  have C := hid c
  clear c hu
  go_enter Try.func13, Try.ntmps13
  go_wp2_with (first | (go_at_call 41; refine (C.out _).mono ?_; rintro e w2 ⟨rfl, rfl⟩))
  go_ret2
  exact ⟨rfl, Below.refl _ _⟩

def padR (s : ByteArray) (u : Int) : List UInt8 × Int := if isUnit u then (padL s.data.toList u.toNat, 0) else ([], 2)
theorem pad_any (s : ByteArray) (u : Int) (w : World) (hs : s.size ≤ 140737488355000) :
    Calls Try.prog 13 #[.string s, .int .i64 u] w fun e w' => e = .returned (.tuple #[.string ⟨(padR s u).1.toArray⟩, .int .i64 (padR s u).2]) ∧ Below w.heap.size w w' := by
  unfold padR
  by_cases hu : isUnit u = true
  · rw [if_pos hu]
    obtain ⟨k, rfl⟩ : ∃ k : Nat, u = k := ⟨u.toNat, by rcases isUnit_cases hu with h | h | h | h <;> omega⟩
    exact pad_ok s k w hu hs
  · rw [if_neg hu]
    exact pad_bad s u w (by simpa using hu)

end Go.Proofs.Ythaapjfnadfmgaa
