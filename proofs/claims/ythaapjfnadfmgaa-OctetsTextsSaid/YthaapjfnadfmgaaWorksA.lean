/-
  Contracts of the helpers of the laws on octets.
-/
import Derived.Test.YthaapjfnadfmgaaOctB6
import Derived.Test.YthaapjfnadfmgaaOctE
import Derived.Test.YthaapjfnadfmgaaOctC2
import Derived.Deep.RegionHeld3
namespace Go.Proofs.Ythaapjfnadfmgaa
open Go.RowKit

set_option maxHeartbeats 400000 in
theorem at_any (s : ByteArray) (n : Int) (w : World) :
    Calls Try.prog 25 #[.string s, .int .i64 n] w fun e w' => e = .returned (.agg #[.string s, .int .i64 n]) ∧ Below w.heap.size w w' := by
  go_enter Try.func25, Try.ntmps25
  go_wp2
  exact bodyPost_ret (v := .agg #[.string s, .int .i64 n]) (by simp [results, Try.results25, go_sem]) rfl ⟨rfl, by (repeat' (first | exact Below.refl _ _ | apply b_drew | apply b_drewN | apply b_set | apply b_setRow | apply b_alloc | (refine b_call (by assumption) ?_ ?_) | (refine b_grown (by assumption) ?_ ?_ ?_) | (exact Sl.blk (by assumption)) | omega | (simp; done) | (simp; omega)))⟩

set_option maxHeartbeats 1000000 in
theorem takes_no (s want : ByteArray) (a n place no : Int) (w : World) (hs : s.size ≤ maxLen) (hno : (no != 0) = true) (h : takeR s a n = (bE, bE, 0, no)) :
    Calls Try.prog 24 #[.agg #[.string s, .int .i64 a], .int .i64 n, .string want, .int .i64 place, .int .i64 no] w fun e w' => e = .returned (.bool true) ∧ Below w.heap.size w w' := by
  have c := fun w => take_any s a n w hs
  rw [h] at c
  have C := hid c
  clear c h
  go_enter Try.func24, Try.ntmps24
  go_wp2_with (go_at_call 34; refine (C.out _).mono ?_; rintro e w1 ⟨rfl, hb⟩; have hz := hb.size; simp at hz)
  go_ret
  exact ⟨rfl, by (repeat' (first | exact Below.refl _ _ | apply b_drew | apply b_drewN | apply b_set | apply b_setRow | apply b_alloc | (refine b_call (by assumption) ?_ ?_) | (refine b_grown (by assumption) ?_ ?_ ?_) | (exact Sl.blk (by assumption)) | omega | (simp; done) | (simp; omega)))⟩

set_option maxHeartbeats 1000000 in
theorem takes_ok (s want : ByteArray) (a n place : Int) (w : World) (hs : s.size ≤ maxLen) (h : takeR s a n = (want, s, place, 0)) :
    Calls Try.prog 24 #[.agg #[.string s, .int .i64 a], .int .i64 n, .string want, .int .i64 place, .int .i64 0] w fun e w' => e = .returned (.bool true) ∧ Below w.heap.size w w' := by
  have c := fun w => take_any s a n w hs
  rw [h] at c
  have C := hid c
  clear c h
  go_enter Try.func24, Try.ntmps24
  go_wp2_with (go_at_call 34; refine (C.out _).mono ?_; rintro e w1 ⟨rfl, hb⟩; have hz := hb.size; simp at hz)
  obtain ⟨hc, hf⟩ := bcell hb
  have c0 : w1.cell? ⟨w.heap.size, 0, none⟩ = some (.string s) := by rw [hc _ _ (by simp)]; simp [go_sem]
  have hz1 : w.heap.size < w1.heap.size := by omega
  clear hc hf
  obtain ⟨w2, hw2⟩ : ∃ w2, w2 = w1.alloc (.cells #[.string s, .int .i64 place] 52) := ⟨_, rfl⟩
  have c0' : w2.cell? ⟨w.heap.size, 0, none⟩ = some (.string s) := by rw [hw2, cell_alloc hz1, c0]
  have d0 : w2.cell? ⟨w1.heap.size, 0, none⟩ = some (.string s) := by rw [hw2]; simp [go_sem]
  have d1 : w2.cell? ⟨w1.heap.size, 1, none⟩ = some (.int .i64 place) := by rw [hw2]; simp [go_sem]
  have hb2 : Below w.heap.size w w2 := by rw [hw2]; (repeat' (first | exact Below.refl _ _ | apply b_drew | apply b_drewN | apply b_set | apply b_setRow | apply b_alloc | (refine b_call (by assumption) ?_ ?_) | (refine b_grown (by assumption) ?_ ?_ ?_) | (exact Sl.blk (by assumption)) | omega | (simp; done) | (simp; omega)))
  have hz2 : w1.heap.size < w2.heap.size := by rw [hw2]; simp
  rw [← hw2]
  clear hw2 c0 hb
  go_region_held3 (fun w' => w'.cell? ⟨w.heap.size, 0, none⟩ = some (.string s) ∧ w'.cell? ⟨w1.heap.size, 0, none⟩ = some (.string s) ∧ w'.cell? ⟨w1.heap.size, 1, none⟩ = some (.int .i64 place)) (go_keep) (first | (go_at_call 25; refine (at_any _ _ _).mono ?_; rintro e w3 ⟨rfl, hb3⟩; obtain ⟨hc3, hf3⟩ := bcell hb3; have e0 := (hc3 w.heap.size 0 (by simp; omega)).trans c0'; have e1 := (hc3 w1.heap.size 0 (by simp; omega)).trans d0; have e2 := (hc3 w1.heap.size 1 (by simp; omega)).trans d1; clear hc3 hf3))
  all_goals
    go_wp2
    go_ret
    exact ⟨rfl, by (repeat' (first | exact Below.refl _ _ | apply b_drew | apply b_drewN | apply b_set | apply b_setRow | apply b_alloc | (refine b_call (by assumption) ?_ ?_) | (refine b_grown (by assumption) ?_ ?_ ?_) | (exact Sl.blk (by assumption)) | omega | (simp; done) | (simp; omega)))⟩

set_option maxHeartbeats 1000000 in
theorem leads_any (x y b want no : Int) (w : World) (h : ahead x y b = (want, no)) :
    Calls Try.prog 29 #[.int .i64 x, .int .i64 y, .int .i64 b, .int .i64 want, .int .i64 no] w fun e w' => e = .returned (.bool true) ∧ w = w' := by
  have c := fun w => ahead_any x y b w
  have d := fun w => newer_any x y b w
  rw [h] at c d
  have C := hid c
  have D := hid d
  clear c d h
  go_enter Try.func29, Try.ntmps29
  go_wp2_with (first | (go_at_call 20; refine (C.out _).mono ?_; rintro e w1 ⟨rfl, rfl⟩) | (go_at_call 21; refine (D.out _).mono ?_; rintro e w1 ⟨rfl, rfl⟩))
  go_ret
  exact ⟨rfl, rfl⟩

set_option maxHeartbeats 1000000 in
theorem counts_no (s : ByteArray) (a n want place no : Int) (w : World) (hs : s.size ≤ maxLen) (hno : (no != 0) = true) (h : uintR s a n = (0, bE, 0, no)) :
    Calls Try.prog 26 #[.agg #[.string s, .int .i64 a], .int .i64 n, .int .i64 want, .int .i64 place, .int .i64 no] w fun e w' => e = .returned (.bool true) ∧ Below w.heap.size w w' := by
  have c := fun w => uint_any s a n w hs
  rw [h] at c
  have C := hid c
  clear c h
  go_enter Try.func26, Try.ntmps26
  go_wp2_with (go_at_call 35; refine (C.out _).mono ?_; rintro e w1 ⟨rfl, hb⟩; have hz := hb.size; simp at hz)
  go_ret
  exact ⟨rfl, by (repeat' (first | exact Below.refl _ _ | apply b_drew | apply b_drewN | apply b_set | apply b_setRow | apply b_alloc | (refine b_call (by assumption) ?_ ?_) | (refine b_grown (by assumption) ?_ ?_ ?_) | (exact Sl.blk (by assumption)) | omega | (simp; done) | (simp; omega)))⟩

set_option maxHeartbeats 1000000 in
theorem counts_ok (s : ByteArray) (a n want place : Int) (w : World) (hs : s.size ≤ maxLen) (h : uintR s a n = (want, s, place, 0)) :
    Calls Try.prog 26 #[.agg #[.string s, .int .i64 a], .int .i64 n, .int .i64 want, .int .i64 place, .int .i64 0] w fun e w' => e = .returned (.bool true) ∧ Below w.heap.size w w' := by
  have c := fun w => uint_any s a n w hs
  rw [h] at c
  have C := hid c
  clear c h
  go_enter Try.func26, Try.ntmps26
  go_wp2_with (go_at_call 35; refine (C.out _).mono ?_; rintro e w1 ⟨rfl, hb⟩; have hz := hb.size; simp at hz)
  obtain ⟨hc, hf⟩ := bcell hb
  have c0 : w1.cell? ⟨w.heap.size, 0, none⟩ = some (.string s) := by rw [hc _ _ (by simp)]; simp [go_sem]
  have hz1 : w.heap.size < w1.heap.size := by omega
  clear hc hf
  obtain ⟨w2, hw2⟩ : ∃ w2, w2 = w1.alloc (.cells #[.string s, .int .i64 place] 52) := ⟨_, rfl⟩
  have c0' : w2.cell? ⟨w.heap.size, 0, none⟩ = some (.string s) := by rw [hw2, cell_alloc hz1, c0]
  have d0 : w2.cell? ⟨w1.heap.size, 0, none⟩ = some (.string s) := by rw [hw2]; simp [go_sem]
  have d1 : w2.cell? ⟨w1.heap.size, 1, none⟩ = some (.int .i64 place) := by rw [hw2]; simp [go_sem]
  have hb2 : Below w.heap.size w w2 := by rw [hw2]; (repeat' (first | exact Below.refl _ _ | apply b_drew | apply b_drewN | apply b_set | apply b_setRow | apply b_alloc | (refine b_call (by assumption) ?_ ?_) | (refine b_grown (by assumption) ?_ ?_ ?_) | (exact Sl.blk (by assumption)) | omega | (simp; done) | (simp; omega)))
  have hz2 : w1.heap.size < w2.heap.size := by rw [hw2]; simp
  rw [← hw2]
  clear hw2 c0 hb
  go_region_held3 (fun w' => w'.cell? ⟨w.heap.size, 0, none⟩ = some (.string s) ∧ w'.cell? ⟨w1.heap.size, 0, none⟩ = some (.string s) ∧ w'.cell? ⟨w1.heap.size, 1, none⟩ = some (.int .i64 place)) (go_keep) (first | (go_at_call 25; refine (at_any _ _ _).mono ?_; rintro e w3 ⟨rfl, hb3⟩; obtain ⟨hc3, hf3⟩ := bcell hb3; have e0 := (hc3 w.heap.size 0 (by simp; omega)).trans c0'; have e1 := (hc3 w1.heap.size 0 (by simp; omega)).trans d0; have e2 := (hc3 w1.heap.size 1 (by simp; omega)).trans d1; clear hc3 hf3))
  all_goals
    go_wp2
    go_ret
    exact ⟨rfl, by (repeat' (first | exact Below.refl _ _ | apply b_drew | apply b_drewN | apply b_set | apply b_setRow | apply b_alloc | (refine b_call (by assumption) ?_ ?_) | (refine b_grown (by assumption) ?_ ?_ ?_) | (exact Sl.blk (by assumption)) | omega | (simp; done) | (simp; omega)))⟩

set_option maxHeartbeats 1000000 in
theorem skips_no (s : ByteArray) (a u place no : Int) (w : World) (hs : s.size ≤ 140737488355328) (hno : (no != 0) = true) (h : skipR s a u = (bE, 0, no)) :
    Calls Try.prog 27 #[.agg #[.string s, .int .i64 a], .int .i64 u, .int .i64 place, .int .i64 no] w fun e w' => e = .returned (.bool true) ∧ Below w.heap.size w w' := by
  have c := fun w => skip_any s a u w hs
  rw [h] at c
  have C := hid c
  clear c h
  go_enter Try.func27, Try.ntmps27
  go_wp2_with (go_at_call 36; refine (C.out _).mono ?_; rintro e w1 ⟨rfl, hb⟩; have hz := hb.size; simp at hz)
  go_ret
  exact ⟨rfl, by (repeat' (first | exact Below.refl _ _ | apply b_drew | apply b_drewN | apply b_set | apply b_setRow | apply b_alloc | (refine b_call (by assumption) ?_ ?_) | (refine b_grown (by assumption) ?_ ?_ ?_) | (exact Sl.blk (by assumption)) | omega | (simp; done) | (simp; omega)))⟩

set_option maxHeartbeats 1000000 in
theorem skips_ok (s : ByteArray) (a u place : Int) (w : World) (hs : s.size ≤ 140737488355328) (h : skipR s a u = (s, place, 0)) :
    Calls Try.prog 27 #[.agg #[.string s, .int .i64 a], .int .i64 u, .int .i64 place, .int .i64 0] w fun e w' => e = .returned (.bool true) ∧ Below w.heap.size w w' := by
  have c := fun w => skip_any s a u w hs
  rw [h] at c
  have C := hid c
  clear c h
  go_enter Try.func27, Try.ntmps27
  go_wp2_with (go_at_call 36; refine (C.out _).mono ?_; rintro e w1 ⟨rfl, hb⟩; have hz := hb.size; simp at hz)
  obtain ⟨hc, hf⟩ := bcell hb
  have c0 : w1.cell? ⟨w.heap.size, 0, none⟩ = some (.string s) := by rw [hc _ _ (by simp)]; simp [go_sem]
  have hz1 : w.heap.size < w1.heap.size := by omega
  clear hc hf
  obtain ⟨w2, hw2⟩ : ∃ w2, w2 = w1.alloc (.cells #[.string s, .int .i64 place] 52) := ⟨_, rfl⟩
  have c0' : w2.cell? ⟨w.heap.size, 0, none⟩ = some (.string s) := by rw [hw2, cell_alloc hz1, c0]
  have d0 : w2.cell? ⟨w1.heap.size, 0, none⟩ = some (.string s) := by rw [hw2]; simp [go_sem]
  have d1 : w2.cell? ⟨w1.heap.size, 1, none⟩ = some (.int .i64 place) := by rw [hw2]; simp [go_sem]
  have hb2 : Below w.heap.size w w2 := by rw [hw2]; (repeat' (first | exact Below.refl _ _ | apply b_drew | apply b_drewN | apply b_set | apply b_setRow | apply b_alloc | (refine b_call (by assumption) ?_ ?_) | (refine b_grown (by assumption) ?_ ?_ ?_) | (exact Sl.blk (by assumption)) | omega | (simp; done) | (simp; omega)))
  have hz2 : w1.heap.size < w2.heap.size := by rw [hw2]; simp
  rw [← hw2]
  clear hw2 c0 hb
  go_region_held3 (fun w' => w'.cell? ⟨w.heap.size, 0, none⟩ = some (.string s) ∧ w'.cell? ⟨w1.heap.size, 0, none⟩ = some (.string s) ∧ w'.cell? ⟨w1.heap.size, 1, none⟩ = some (.int .i64 place)) (go_keep) (first | (go_at_call 25; refine (at_any _ _ _).mono ?_; rintro e w3 ⟨rfl, hb3⟩; obtain ⟨hc3, hf3⟩ := bcell hb3; have e0 := (hc3 w.heap.size 0 (by simp; omega)).trans c0'; have e1 := (hc3 w1.heap.size 0 (by simp; omega)).trans d0; have e2 := (hc3 w1.heap.size 1 (by simp; omega)).trans d1; clear hc3 hf3))
  all_goals
    go_wp2
    go_ret
    exact ⟨rfl, by (repeat' (first | exact Below.refl _ _ | apply b_drew | apply b_drewN | apply b_set | apply b_setRow | apply b_alloc | (refine b_call (by assumption) ?_ ?_) | (refine b_grown (by assumption) ?_ ?_ ?_) | (exact Sl.blk (by assumption)) | omega | (simp; done) | (simp; omega)))⟩

end Go.Proofs.Ythaapjfnadfmgaa
