/-
  Contracts of octets.next: what it refuses.
-/
import Derived.Test.YthaapjfnadfmgaaOctB3
import Derived.Deep.RegionHeld3
namespace Go.Proofs.Ythaapjfnadfmgaa
open Go.RowKit

set_option maxHeartbeats 1000000 in
theorem nexts_right (s : ByteArray) (a n low high : Int) (w : World) (hs : s.size ≤ maxLen) (h : right s a = false) :
    Calls Try.prog 48 #[.agg #[.string s, .int .i64 a], .int .i64 n, .int .i64 low, .int .i64 high, .func (.func 49) #[] #[]] w fun e w' =>
      e = .returned (.tuple #[vE, .agg #[vE, .int .i64 0], .int .i64 2]) ∧ Below w.heap.size w w' := by
  go_enter Try.func48, Try.ntmps48
  go_wp2_with ((go_at_call 47; refine (read_bad s a _ hs h).mono ?_; rintro e w1 ⟨rfl, hb⟩; obtain ⟨hc, hf⟩ := bcell hb; have hz := hb.size; simp at hz))
  have c0 : w1.cell? ⟨w.heap.size + 1, 0, none⟩ = some vE := by rw [hc _ _ (by simp)]; simp [go_sem]
  have c1 : w1.cell? ⟨w.heap.size + 1, 1, none⟩ = some (.int .i64 0) := by rw [hc _ _ (by simp)]; simp [go_sem]
  have f0 : w1.frozen? ⟨w.heap.size + 1, 0, none⟩ = false := by rw [hf _ _ (by simp)]; simp [go_sem]
  have f1 : w1.frozen? ⟨w.heap.size + 1, 1, none⟩ = false := by rw [hf _ _ (by simp)]; simp [go_sem]
  have hz1 : w.heap.size + 1 < w1.heap.size := by omega
  go_region
  go_wp2
  exact bodyPost_ret (v := .tuple #[vE, .agg #[vE, .int .i64 0], .int .i64 2]) (by simp [results, Try.results48, go_sem, *]) rfl ⟨rfl, by (repeat' (first | exact Below.refl _ _ | apply b_drew | apply b_drewN | apply b_set | apply b_setRow | apply b_alloc | (refine b_call (by assumption) ?_ ?_) | (refine b_grown (by assumption) ?_ ?_ ?_) | (exact Sl.blk (by assumption)) | omega | (simp; done) | (simp; omega)))⟩

set_option maxHeartbeats 1000000 in
theorem nexts_arg (s : ByteArray) (a n low high : Int) (w : World) (hs : s.size ≤ maxLen) (h0 : 0 ≤ a) (h1 : a ≤ s.size) (h : n < low ∨ high < n) :
    Calls Try.prog 48 #[.agg #[.string s, .int .i64 a], .int .i64 n, .int .i64 low, .int .i64 high, .func (.func 49) #[] #[]] w fun e w' =>
      e = .returned (.tuple #[vE, .agg #[vE, .int .i64 0], .int .i64 2]) ∧ Below w.heap.size w w' := by
  have hd : (decide (n < low) = true) ∨ (decide (n < low) = false ∧ decide (high < n) = true) := by
    by_cases hh : n < low
    · exact .inl (by simpa using hh)
    · exact .inr ⟨by simpa using hh, by simp; omega⟩
  clear h
  rcases hd with hd | ⟨hd1, hd2⟩
  all_goals
    go_enter Try.func48, Try.ntmps48
    go_wp2_with ((go_at_call 47; refine (read_ok s a _ hs h0 h1).mono ?_; rintro e w1 ⟨rfl, hb⟩; obtain ⟨hc, hf⟩ := bcell hb; have hz := hb.size; simp at hz))
    have c0 : w1.cell? ⟨w.heap.size + 1, 0, none⟩ = some vE := by rw [hc _ _ (by simp)]; simp [go_sem]
    have c1 : w1.cell? ⟨w.heap.size + 1, 1, none⟩ = some (.int .i64 0) := by rw [hc _ _ (by simp)]; simp [go_sem]
    have f0 : w1.frozen? ⟨w.heap.size + 1, 0, none⟩ = false := by rw [hf _ _ (by simp)]; simp [go_sem]
    have f1 : w1.frozen? ⟨w.heap.size + 1, 1, none⟩ = false := by rw [hf _ _ (by simp)]; simp [go_sem]
    have hz1 : w.heap.size + 1 < w1.heap.size := by omega
    go_region
    go_wp2
    exact bodyPost_ret (v := .tuple #[vE, .agg #[vE, .int .i64 0], .int .i64 2]) (by simp [results, Try.results48, go_sem, *]) rfl ⟨rfl, by (repeat' (first | exact Below.refl _ _ | apply b_drew | apply b_drewN | apply b_set | apply b_setRow | apply b_alloc | (refine b_call (by assumption) ?_ ?_) | (refine b_grown (by assumption) ?_ ?_ ?_) | (exact Sl.blk (by assumption)) | omega | (simp; done) | (simp; omega)))⟩

set_option maxHeartbeats 1000000 in
theorem nexts_short (s : ByteArray) (a n low high : Int) (w : World) (hs : s.size ≤ maxLen) (h0 : 0 ≤ a) (h1 : a ≤ s.size) (hlo : low ≤ n) (hhi : n ≤ high) (h : (s.size : Int) - a < n) :
    Calls Try.prog 48 #[.agg #[.string s, .int .i64 a], .int .i64 n, .int .i64 low, .int .i64 high, .func (.func 49) #[] #[]] w fun e w' =>
      e = .returned (.tuple #[vE, .agg #[vE, .int .i64 0], .int .i64 7]) ∧ Below w.heap.size w w' := by
  have hs' := hs
  unfold maxLen at hs'
  have hd1 : decide (n < low) = false := by simp; omega
  have hd2 : decide (high < n) = false := by simp; omega
  go_enter Try.func48, Try.ntmps48
  go_wp2_with ((go_at_call 47; refine (read_ok s a _ hs h0 (by omega)).mono ?_; rintro e w1 ⟨rfl, hb⟩; obtain ⟨hc, hf⟩ := bcell hb; have hz := hb.size; simp at hz))
  have c0 : w1.cell? ⟨w.heap.size + 1, 0, none⟩ = some vE := by rw [hc _ _ (by simp)]; simp [go_sem]
  have c1 : w1.cell? ⟨w.heap.size + 1, 1, none⟩ = some (.int .i64 0) := by rw [hc _ _ (by simp)]; simp [go_sem]
  have f0 : w1.frozen? ⟨w.heap.size + 1, 0, none⟩ = false := by rw [hf _ _ (by simp)]; simp [go_sem]
  have f1 : w1.frozen? ⟨w.heap.size + 1, 1, none⟩ = false := by rw [hf _ _ (by simp)]; simp [go_sem]
  have hz1 : w.heap.size + 1 < w1.heap.size := by omega
  go_region
  go_wp2
  exact bodyPost_ret (v := .tuple #[vE, .agg #[vE, .int .i64 0], .int .i64 7]) (by simp [results, Try.results48, go_sem, *]) rfl ⟨rfl, by (repeat' (first | exact Below.refl _ _ | apply b_drew | apply b_drewN | apply b_set | apply b_setRow | apply b_alloc | (refine b_call (by assumption) ?_ ?_) | (refine b_grown (by assumption) ?_ ?_ ?_) | (exact Sl.blk (by assumption)) | omega | (simp; done) | (simp; omega)))⟩

set_option maxHeartbeats 1000000 in
theorem nexti_right (s : ByteArray) (a n low high : Int) (w : World) (hs : s.size ≤ maxLen) (h : right s a = false) :
    Calls Try.prog 50 #[.agg #[.string s, .int .i64 a], .int .i64 n, .int .i64 low, .int .i64 high, .func (.func 51) #[] #[]] w fun e w' =>
      e = .returned (.tuple #[.int .i64 0, .agg #[vE, .int .i64 0], .int .i64 2]) ∧ Below w.heap.size w w' := by
  go_enter Try.func50, Try.ntmps50
  go_wp2_with ((go_at_call 47; refine (read_bad s a _ hs h).mono ?_; rintro e w1 ⟨rfl, hb⟩; obtain ⟨hc, hf⟩ := bcell hb; have hz := hb.size; simp at hz))
  have c0 : w1.cell? ⟨w.heap.size + 1, 0, none⟩ = some vE := by rw [hc _ _ (by simp)]; simp [go_sem]
  have c1 : w1.cell? ⟨w.heap.size + 1, 1, none⟩ = some (.int .i64 0) := by rw [hc _ _ (by simp)]; simp [go_sem]
  have f0 : w1.frozen? ⟨w.heap.size + 1, 0, none⟩ = false := by rw [hf _ _ (by simp)]; simp [go_sem]
  have f1 : w1.frozen? ⟨w.heap.size + 1, 1, none⟩ = false := by rw [hf _ _ (by simp)]; simp [go_sem]
  have hz1 : w.heap.size + 1 < w1.heap.size := by omega
  go_region
  go_wp2
  exact bodyPost_ret (v := .tuple #[.int .i64 0, .agg #[vE, .int .i64 0], .int .i64 2]) (by simp [results, Try.results50, go_sem, *]) rfl ⟨rfl, by (repeat' (first | exact Below.refl _ _ | apply b_drew | apply b_drewN | apply b_set | apply b_setRow | apply b_alloc | (refine b_call (by assumption) ?_ ?_) | (refine b_grown (by assumption) ?_ ?_ ?_) | (exact Sl.blk (by assumption)) | omega | (simp; done) | (simp; omega)))⟩

set_option maxHeartbeats 1000000 in
theorem nexti_arg (s : ByteArray) (a n low high : Int) (w : World) (hs : s.size ≤ maxLen) (h0 : 0 ≤ a) (h1 : a ≤ s.size) (h : n < low ∨ high < n) :
    Calls Try.prog 50 #[.agg #[.string s, .int .i64 a], .int .i64 n, .int .i64 low, .int .i64 high, .func (.func 51) #[] #[]] w fun e w' =>
      e = .returned (.tuple #[.int .i64 0, .agg #[vE, .int .i64 0], .int .i64 2]) ∧ Below w.heap.size w w' := by
  have hd : (decide (n < low) = true) ∨ (decide (n < low) = false ∧ decide (high < n) = true) := by
    by_cases hh : n < low
    · exact .inl (by simpa using hh)
    · exact .inr ⟨by simpa using hh, by simp; omega⟩
  clear h
  rcases hd with hd | ⟨hd1, hd2⟩
  all_goals
    go_enter Try.func50, Try.ntmps50
    go_wp2_with ((go_at_call 47; refine (read_ok s a _ hs h0 h1).mono ?_; rintro e w1 ⟨rfl, hb⟩; obtain ⟨hc, hf⟩ := bcell hb; have hz := hb.size; simp at hz))
    have c0 : w1.cell? ⟨w.heap.size + 1, 0, none⟩ = some vE := by rw [hc _ _ (by simp)]; simp [go_sem]
    have c1 : w1.cell? ⟨w.heap.size + 1, 1, none⟩ = some (.int .i64 0) := by rw [hc _ _ (by simp)]; simp [go_sem]
    have f0 : w1.frozen? ⟨w.heap.size + 1, 0, none⟩ = false := by rw [hf _ _ (by simp)]; simp [go_sem]
    have f1 : w1.frozen? ⟨w.heap.size + 1, 1, none⟩ = false := by rw [hf _ _ (by simp)]; simp [go_sem]
    have hz1 : w.heap.size + 1 < w1.heap.size := by omega
    go_region
    go_wp2
    exact bodyPost_ret (v := .tuple #[.int .i64 0, .agg #[vE, .int .i64 0], .int .i64 2]) (by simp [results, Try.results50, go_sem, *]) rfl ⟨rfl, by (repeat' (first | exact Below.refl _ _ | apply b_drew | apply b_drewN | apply b_set | apply b_setRow | apply b_alloc | (refine b_call (by assumption) ?_ ?_) | (refine b_grown (by assumption) ?_ ?_ ?_) | (exact Sl.blk (by assumption)) | omega | (simp; done) | (simp; omega)))⟩

set_option maxHeartbeats 1000000 in
theorem nexti_short (s : ByteArray) (a n low high : Int) (w : World) (hs : s.size ≤ maxLen) (h0 : 0 ≤ a) (h1 : a ≤ s.size) (hlo : low ≤ n) (hhi : n ≤ high) (h : (s.size : Int) - a < n) :
    Calls Try.prog 50 #[.agg #[.string s, .int .i64 a], .int .i64 n, .int .i64 low, .int .i64 high, .func (.func 51) #[] #[]] w fun e w' =>
      e = .returned (.tuple #[.int .i64 0, .agg #[vE, .int .i64 0], .int .i64 7]) ∧ Below w.heap.size w w' := by
  have hs' := hs
  unfold maxLen at hs'
  have hd1 : decide (n < low) = false := by simp; omega
  have hd2 : decide (high < n) = false := by simp; omega
  go_enter Try.func50, Try.ntmps50
  go_wp2_with ((go_at_call 47; refine (read_ok s a _ hs h0 (by omega)).mono ?_; rintro e w1 ⟨rfl, hb⟩; obtain ⟨hc, hf⟩ := bcell hb; have hz := hb.size; simp at hz))
  have c0 : w1.cell? ⟨w.heap.size + 1, 0, none⟩ = some vE := by rw [hc _ _ (by simp)]; simp [go_sem]
  have c1 : w1.cell? ⟨w.heap.size + 1, 1, none⟩ = some (.int .i64 0) := by rw [hc _ _ (by simp)]; simp [go_sem]
  have f0 : w1.frozen? ⟨w.heap.size + 1, 0, none⟩ = false := by rw [hf _ _ (by simp)]; simp [go_sem]
  have f1 : w1.frozen? ⟨w.heap.size + 1, 1, none⟩ = false := by rw [hf _ _ (by simp)]; simp [go_sem]
  have hz1 : w.heap.size + 1 < w1.heap.size := by omega
  go_region
  go_wp2
  exact bodyPost_ret (v := .tuple #[.int .i64 0, .agg #[vE, .int .i64 0], .int .i64 7]) (by simp [results, Try.results50, go_sem, *]) rfl ⟨rfl, by (repeat' (first | exact Below.refl _ _ | apply b_drew | apply b_drewN | apply b_set | apply b_setRow | apply b_alloc | (refine b_call (by assumption) ?_ ?_) | (refine b_grown (by assumption) ?_ ?_ ?_) | (exact Sl.blk (by assumption)) | omega | (simp; done) | (simp; omega)))⟩

end Go.Proofs.Ythaapjfnadfmgaa
