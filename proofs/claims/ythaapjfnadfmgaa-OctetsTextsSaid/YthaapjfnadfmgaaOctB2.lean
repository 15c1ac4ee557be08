/-
  Contracts of octets.next at strings and at numbers.
-/
import Derived.Test.YthaapjfnadfmgaaOctB
import Derived.Deep.RegionHeld3
namespace Go.Proofs.Ythaapjfnadfmgaa
open Go.RowKit

set_option maxHeartbeats 400000 in
theorem take1_any (s : ByteArray) (w : World) :
    Calls Try.prog 49 #[.string s] w fun e w' => e = .returned (.string s) ∧ w = w' := by
  go_enter Try.func49, Try.ntmps49
  go_wp2
  go_ret
  exact ⟨rfl, rfl⟩

set_option maxHeartbeats 1000000 in
theorem nexts_ok (s : ByteArray) (a n low high : Int) (w : World) (hs : s.size ≤ maxLen) (h0 : 0 ≤ a) (h1 : a + n ≤ s.size) (hn0 : 0 ≤ n) (hlo : low ≤ n) (hhi : n ≤ high) :
    Calls Try.prog 48 #[.agg #[.string s, .int .i64 a], .int .i64 n, .int .i64 low, .int .i64 high, .func (.func 49) #[] #[]] w fun e w' =>
      e = .returned (.tuple #[.string (s.extract a.toNat (a + n).toNat), .agg #[.string s, .int .i64 (a + n)], .int .i64 0]) ∧ Below w.heap.size w w' := by
  have hs' := hs
  unfold maxLen at hs'
  have hd1 : decide (n < low) = false := by simp; omega
  have hd2 : decide (high < n) = false := by simp; omega
  go_enter Try.func48, Try.ntmps48
  go_wp2_with ((go_at_call 47; refine (read_ok s a _ hs h0 (by omega)).mono ?_; rintro e w1 ⟨rfl, hb⟩; obtain ⟨hc, hf⟩ := bcell hb; have hz := hb.size; simp at hz))
  have hlen : n ≤ (s.size : Int) - a := by assumption
  have hw1 : IntKind.i64.wrap (a + n) = a + n := IntWalk.i64_in _ (by omega)
  have ha : a ≤ a + n := by omega
  have c0 : w1.cell? ⟨w.heap.size + 1, 0, none⟩ = some vE := by rw [hc _ _ (by simp)]; simp [go_sem]
  have c1 : w1.cell? ⟨w.heap.size + 1, 1, none⟩ = some (.int .i64 0) := by rw [hc _ _ (by simp)]; simp [go_sem]
  have f0 : w1.frozen? ⟨w.heap.size + 1, 0, none⟩ = false := by rw [hf _ _ (by simp)]; simp [go_sem]
  have f1 : w1.frozen? ⟨w.heap.size + 1, 1, none⟩ = false := by rw [hf _ _ (by simp)]; simp [go_sem]
  have hz1 : w.heap.size + 1 < w1.heap.size := by omega
  clear hc hf
  have hne : w.heap.size + 1 ≠ w1.heap.size := by omega
  obtain ⟨w3, hw3⟩ : ∃ w3, w3 = w1.alloc (.cells #[.string s, .int .i64 a] 84) := ⟨_, rfl⟩
  have e0 : w3.cell? ⟨w1.heap.size, 0, none⟩ = some (.string s) := by rw [hw3]; simp [go_sem]
  have e1 : w3.cell? ⟨w1.heap.size, 1, none⟩ = some (.int .i64 a) := by rw [hw3]; simp [go_sem]
  have c0' : w3.cell? ⟨w.heap.size + 1, 0, none⟩ = some vE := by rw [hw3, cell_alloc (by omega), c0]
  have c1' : w3.cell? ⟨w.heap.size + 1, 1, none⟩ = some (.int .i64 0) := by rw [hw3, cell_alloc (by omega), c1]
  have f0' : w3.frozen? ⟨w.heap.size + 1, 0, none⟩ = false := by rw [hw3, frozen_alloc (by omega), f0]
  have f1' : w3.frozen? ⟨w.heap.size + 1, 1, none⟩ = false := by rw [hw3, frozen_alloc (by omega), f1]
  have hb3 : Below w.heap.size w w3 := by rw [hw3]; (repeat' (first | exact Below.refl _ _ | apply b_drew | apply b_drewN | apply b_set | apply b_setRow | apply b_alloc | (refine b_call (by assumption) ?_ ?_) | (refine b_grown (by assumption) ?_ ?_ ?_) | (exact Sl.blk (by assumption)) | omega | (simp; done) | (simp; omega)))
  rw [← hw3]
  clear hw3 c0 c1 f0 f1 hb
  go_region_held3 (fun w' => w'.cell? ⟨w1.heap.size, 0, none⟩ = some (.string s) ∧ w'.cell? ⟨w1.heap.size, 1, none⟩ = some (.int .i64 a)) (go_keep) (first | (go_at_call 49; refine (take1_any _ _).mono ?_; rintro e w2 ⟨rfl, rfl⟩))
  go_wp2
  exact bodyPost_ret (v := .tuple #[.string (s.extract a.toNat (a + n).toNat), .agg #[.string s, .int .i64 (a + n)], .int .i64 0]) (by simp [results, Try.results48, go_sem, *]) rfl ⟨rfl, by (repeat' (first | exact Below.refl _ _ | apply b_drew | apply b_drewN | apply b_set | apply b_setRow | apply b_alloc | (refine b_call (by assumption) ?_ ?_) | (refine b_grown (by assumption) ?_ ?_ ?_) | (exact Sl.blk (by assumption)) | omega | (simp; done) | (simp; omega)))⟩

end Go.Proofs.Ythaapjfnadfmgaa
