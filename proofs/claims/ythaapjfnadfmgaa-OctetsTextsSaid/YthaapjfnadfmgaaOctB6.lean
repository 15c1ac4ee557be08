/-
  Contracts of octets.Check, Left, Take, Uint and Skip.
-/
import Derived.Test.YthaapjfnadfmgaaOctB4
import Derived.Test.YthaapjfnadfmgaaOctB5
namespace Go.Proofs.Ythaapjfnadfmgaa
open Go.RowKit

abbrev bE : ByteArray := ⟨#[]⟩
def takeR (s : ByteArray) (a n : Int) : ByteArray × ByteArray × Int × Int :=
  if right s a then (if n < 0 then (bE, bE, 0, 2) else if (s.size : Int) - a < n then (bE, bE, 0, 7) else (s.extract a.toNat (a + n).toNat, s, a + n, 0)) else (bE, bE, 0, 2)
def uintR (s : ByteArray) (a n : Int) : Int × ByteArray × Int × Int :=
  if right s a then (if n < 1 ∨ 7 < n then (0, bE, 0, 2) else if (s.size : Int) - a < n then (0, bE, 0, 7) else (num (s.extract a.toNat (a + n).toNat).data.toList, s, a + n, 0)) else (0, bE, 0, 2)
def skipR (s : ByteArray) (a u : Int) : ByteArray × Int × Int :=
  if right s a then (if isUnit u then (if (s.size : Int) < (a + u - 1) / u * u then (bE, 0, 7) else (s, (a + u - 1) / u * u, 0)) else (bE, 0, 2)) else (bE, 0, 2)

theorem right_iff (s : ByteArray) (a : Int) : right s a = true ↔ 0 ≤ a ∧ a ≤ s.size := by simp [right]

theorem nexts_any (s : ByteArray) (a n high : Int) (w : World) (hs : s.size ≤ maxLen) (hh : high = max n 0) :
    Calls Try.prog 48 #[.agg #[.string s, .int .i64 a], .int .i64 n, .int .i64 0, .int .i64 high, .func (.func 49) #[] #[]] w fun e w' =>
      e = .returned (.tuple #[.string (takeR s a n).1, .agg #[.string (takeR s a n).2.1, .int .i64 (takeR s a n).2.2.1], .int .i64 (takeR s a n).2.2.2]) ∧ Below w.heap.size w w' := by
  unfold takeR
  by_cases hr : right s a = true
  · obtain ⟨h0, h1⟩ := (right_iff s a).1 hr
    rw [if_pos hr]
    by_cases hn : n < 0
    · rw [if_pos hn]; exact nexts_arg s a n 0 high w hs h0 h1 (by omega)
    · rw [if_neg hn]
      by_cases hl : (s.size : Int) - a < n
      · rw [if_pos hl]; exact nexts_short s a n 0 high w hs h0 h1 (by omega) (by omega) hl
      · rw [if_neg hl]; exact nexts_ok s a n 0 high w hs h0 (by omega) (by omega) (by omega) (by omega)
  · rw [if_neg hr]; exact nexts_right s a n 0 high w hs (by simpa using hr)

theorem nexti_any (s : ByteArray) (a n : Int) (w : World) (hs : s.size ≤ maxLen) :
    Calls Try.prog 50 #[.agg #[.string s, .int .i64 a], .int .i64 n, .int .i64 1, .int .i64 7, .func (.func 51) #[] #[]] w fun e w' =>
      e = .returned (.tuple #[.int .i64 (uintR s a n).1, .agg #[.string (uintR s a n).2.1, .int .i64 (uintR s a n).2.2.1], .int .i64 (uintR s a n).2.2.2]) ∧ Below w.heap.size w w' := by
  unfold uintR
  by_cases hr : right s a = true
  · obtain ⟨h0, h1⟩ := (right_iff s a).1 hr
    rw [if_pos hr]
    by_cases hn : n < 1 ∨ 7 < n
    · rw [if_pos hn]; exact nexti_arg s a n 1 7 w hs h0 h1 hn
    · rw [if_neg hn]
      by_cases hl : (s.size : Int) - a < n
      · rw [if_pos hl]; exact nexti_short s a n 1 7 w hs h0 h1 (by omega) (by omega) hl
      · rw [if_neg hl]; exact nexti_ok s a n 1 7 w hs h0 (by omega) (by omega) (by omega) (by omega) (by omega)
  · rw [if_neg hr]; exact nexti_right s a n 1 7 w hs (by simpa using hr)


set_option maxHeartbeats 400000 in
theorem take_any (s : ByteArray) (a n : Int) (w : World) (hs : s.size ≤ maxLen) :
    Calls Try.prog 34 #[.agg #[.string s, .int .i64 a], .int .i64 n] w fun e w' =>
      e = .returned (.tuple #[.string (takeR s a n).1, .agg #[.string (takeR s a n).2.1, .int .i64 (takeR s a n).2.2.1], .int .i64 (takeR s a n).2.2.2]) ∧ Below w.heap.size w w' := by
  have c := fun high w hh => nexts_any s a n high w hs hh
  obtain ⟨r, hr⟩ : ∃ r, r = takeR s a n := ⟨_, rfl⟩
  rw [← hr]
  simp only [← hr] at c
  clear hr
  obtain ⟨r1, r2, r3, r4⟩ := r
  have C := hid c
  clear c
  go_enter Try.func34, Try.ntmps34
  go_wp2_with fail
  all_goals
    refine (C.out _ _ (by omega)).mono ?_
    rintro e w1 ⟨rfl, hb⟩
    obtain ⟨hc, hf⟩ := bcell hb
    have hz := hb.size
    simp at hz
    have hz1 : w.heap.size + 1 < w1.heap.size := by omega
    go_wp2
    exact bodyPost_ret (v := .tuple #[.string r1, .agg #[.string r2, .int .i64 r3], .int .i64 r4]) (by simp [results, Try.results34, go_sem, *]) rfl ⟨rfl, by (repeat' (first | exact Below.refl _ _ | apply b_drew | apply b_drewN | apply b_set | apply b_setRow | apply b_alloc | (refine b_call (by assumption) ?_ ?_) | (refine b_grown (by assumption) ?_ ?_ ?_) | (exact Sl.blk (by assumption)) | omega | (simp; done) | (simp; omega)))⟩

set_option maxHeartbeats 400000 in
theorem uint_any (s : ByteArray) (a n : Int) (w : World) (hs : s.size ≤ maxLen) :
    Calls Try.prog 35 #[.agg #[.string s, .int .i64 a], .int .i64 n] w fun e w' =>
      e = .returned (.tuple #[.int .i64 (uintR s a n).1, .agg #[.string (uintR s a n).2.1, .int .i64 (uintR s a n).2.2.1], .int .i64 (uintR s a n).2.2.2]) ∧ Below w.heap.size w w' := by
  have c := fun w => nexti_any s a n w hs
  obtain ⟨r, hr⟩ : ∃ r, r = uintR s a n := ⟨_, rfl⟩
  rw [← hr]
  simp only [← hr] at c
  clear hr
  obtain ⟨r1, r2, r3, r4⟩ := r
  have C := hid c
  clear c
  go_enter Try.func35, Try.ntmps35
  go_wp2_with fail
  refine (C.out _).mono ?_
  rintro e w1 ⟨rfl, hb⟩
  obtain ⟨hc, hf⟩ := bcell hb
  have hz := hb.size
  simp at hz
  have hz1 : w.heap.size + 1 < w1.heap.size := by omega
  go_wp2
  exact bodyPost_ret (v := .tuple #[.int .i64 r1, .agg #[.string r2, .int .i64 r3], .int .i64 r4]) (by simp [results, Try.results35, go_sem, *]) rfl ⟨rfl, by (repeat' (first | exact Below.refl _ _ | apply b_drew | apply b_drewN | apply b_set | apply b_setRow | apply b_alloc | (refine b_call (by assumption) ?_ ?_) | (refine b_grown (by assumption) ?_ ?_ ?_) | (exact Sl.blk (by assumption)) | omega | (simp; done) | (simp; omega)))⟩

def readE (s : ByteArray) (a : Int) : Int := if right s a then 0 else 2
def leftR (s : ByteArray) (a : Int) : Int := if right s a then s.size - a else 0

set_option maxHeartbeats 400000 in
theorem check_any (s : ByteArray) (a : Int) (w : World) (hs : s.size ≤ maxLen) :
    Calls Try.prog 33 #[.agg #[.string s, .int .i64 a]] w fun e w' =>
      e = .returned (.int .i64 (readE s a)) ∧ Below w.heap.size w w' := by
  unfold readE
  by_cases hr : right s a = true
  · rw [if_pos hr]
    obtain ⟨h0, h1⟩ := (right_iff s a).1 hr
    clear hr
    go_enter Try.func33, Try.ntmps33
    go_wp2_with ((go_at_call 47; refine (read_ok s a _ hs h0 h1).mono ?_; rintro e w1 ⟨rfl, hb⟩; have hz := hb.size; simp at hz))
    go_ret
    exact ⟨rfl, by (repeat' (first | exact Below.refl _ _ | apply b_drew | apply b_drewN | apply b_set | apply b_setRow | apply b_alloc | (refine b_call (by assumption) ?_ ?_) | (refine b_grown (by assumption) ?_ ?_ ?_) | (exact Sl.blk (by assumption)) | omega | (simp; done) | (simp; omega)))⟩
  · rw [if_neg hr]
    have hr' : right s a = false := by simpa using hr
    have HR := hid hr'
    clear hr hr'
    go_enter Try.func33, Try.ntmps33
    go_wp2_with ((go_at_call 47; refine (read_bad s a _ hs HR.out).mono ?_; rintro e w1 ⟨rfl, hb⟩; have hz := hb.size; simp at hz))
    go_ret
    exact ⟨rfl, by (repeat' (first | exact Below.refl _ _ | apply b_drew | apply b_drewN | apply b_set | apply b_setRow | apply b_alloc | (refine b_call (by assumption) ?_ ?_) | (refine b_grown (by assumption) ?_ ?_ ?_) | (exact Sl.blk (by assumption)) | omega | (simp; done) | (simp; omega)))⟩

set_option maxHeartbeats 400000 in
theorem left_any (s : ByteArray) (a : Int) (w : World) (hs : s.size ≤ maxLen) :
    Calls Try.prog 32 #[.agg #[.string s, .int .i64 a]] w fun e w' =>
      e = .returned (.tuple #[.int .i64 (leftR s a), .int .i64 (readE s a)]) ∧ Below w.heap.size w w' := by
  unfold readE leftR
  by_cases hr : right s a = true
  · rw [if_pos hr, if_pos hr]
    obtain ⟨h0, h1⟩ := (right_iff s a).1 hr
    clear hr
    have hs' := hs
    unfold maxLen at hs'
    go_enter Try.func32, Try.ntmps32
    go_wp2_with ((go_at_call 47; refine (read_ok s a _ hs h0 h1).mono ?_; rintro e w1 ⟨rfl, hb⟩; have hz := hb.size; simp at hz))
    go_ret2
    exact ⟨rfl, by (repeat' (first | exact Below.refl _ _ | apply b_drew | apply b_drewN | apply b_set | apply b_setRow | apply b_alloc | (refine b_call (by assumption) ?_ ?_) | (refine b_grown (by assumption) ?_ ?_ ?_) | (exact Sl.blk (by assumption)) | omega | (simp; done) | (simp; omega)))⟩
  · rw [if_neg hr, if_neg hr]
    have hr' : right s a = false := by simpa using hr
    have HR := hid hr'
    clear hr hr'
    go_enter Try.func32, Try.ntmps32
    go_wp2_with ((go_at_call 47; refine (read_bad s a _ hs HR.out).mono ?_; rintro e w1 ⟨rfl, hb⟩; have hz := hb.size; simp at hz))
    go_ret2
    exact ⟨rfl, by (repeat' (first | exact Below.refl _ _ | apply b_drew | apply b_drewN | apply b_set | apply b_setRow | apply b_alloc | (refine b_call (by assumption) ?_ ?_) | (refine b_grown (by assumption) ?_ ?_ ?_) | (exact Sl.blk (by assumption)) | omega | (simp; done) | (simp; omega)))⟩

set_option maxHeartbeats 1000000 in
theorem skip_any (s : ByteArray) (a u : Int) (w : World) (hs : s.size ≤ 140737488355328) :
    Calls Try.prog 36 #[.agg #[.string s, .int .i64 a], .int .i64 u] w fun e w' =>
      e = .returned (.tuple #[.agg #[.string (skipR s a u).1, .int .i64 (skipR s a u).2.1], .int .i64 (skipR s a u).2.2]) ∧ Below w.heap.size w w' := by
  have hs' : s.size ≤ maxLen := by unfold maxLen; omega
  unfold skipR
  by_cases hr : right s a = true
  · rw [if_pos hr]
    obtain ⟨h0, h1⟩ := (right_iff s a).1 hr
    clear hr
    by_cases hu : isUnit u = true
    · rw [if_pos hu]
      have hu2 : 1 ≤ u ∧ u ≤ 8 := by rcases isUnit_cases hu with h | h | h | h <;> omega
      have c := fun w => unit_any u w
      rw [hu] at c
      have C := hid c
      clear c hu
      have hat1 : 0 ≤ (a + u - 1) / u * u := Int.mul_nonneg (Int.ediv_nonneg (by omega) (by omega)) (by omega)
      have hat2 : (a + u - 1) / u * u ≤ a + u - 1 := Int.ediv_mul_le _ (by omega)
      have hq1 : 0 ≤ (a + u - 1) / u := Int.ediv_nonneg (by omega) (by omega)
      have hq2 : (a + u - 1) / u ≤ a + u - 1 := Int.ediv_le_self _ (by omega)
      by_cases hgt : (s.size : Int) < (a + u - 1) / u * u
      · rw [if_pos hgt]
        go_enter Try.func36, Try.ntmps36
        go_wp2_with (first | ((go_at_call 47; refine (read_ok s a _ hs' h0 h1).mono ?_; rintro e w1 ⟨rfl, hb⟩; obtain ⟨hc, hf⟩ := bcell hb; have hz := hb.size; simp at hz; have hz1 : w.heap.size + 1 < w1.heap.size := by omega)) | (go_at_call 41; refine (C.out _).mono ?_; rintro e w2 ⟨rfl, rfl⟩))
        exact bodyPost_ret (v := .tuple #[.agg #[.string bE, .int .i64 0], .int .i64 7]) (by simp [results, Try.results36, go_sem, *]) rfl ⟨rfl, by (repeat' (first | exact Below.refl _ _ | apply b_drew | apply b_drewN | apply b_set | apply b_setRow | apply b_alloc | (refine b_call (by assumption) ?_ ?_) | (refine b_grown (by assumption) ?_ ?_ ?_) | (exact Sl.blk (by assumption)) | omega | (simp; done) | (simp; omega)))⟩
      · rw [if_neg hgt]
        go_enter Try.func36, Try.ntmps36
        go_wp2_with (first | ((go_at_call 47; refine (read_ok s a _ hs' h0 h1).mono ?_; rintro e w1 ⟨rfl, hb⟩; obtain ⟨hc, hf⟩ := bcell hb; have hz := hb.size; simp at hz; have hz1 : w.heap.size + 1 < w1.heap.size := by omega)) | (go_at_call 41; refine (C.out _).mono ?_; rintro e w2 ⟨rfl, rfl⟩))
        exact bodyPost_ret (v := .tuple #[.agg #[.string s, .int .i64 ((a + u - 1) / u * u)], .int .i64 0]) (by simp [results, Try.results36, go_sem, *]) rfl ⟨rfl, by (repeat' (first | exact Below.refl _ _ | apply b_drew | apply b_drewN | apply b_set | apply b_setRow | apply b_alloc | (refine b_call (by assumption) ?_ ?_) | (refine b_grown (by assumption) ?_ ?_ ?_) | (exact Sl.blk (by assumption)) | omega | (simp; done) | (simp; omega)))⟩
    · rw [if_neg hu]
      have hu' : isUnit u = false := by simpa using hu
      have c := fun w => unit_any u w
      rw [hu'] at c
      have C := hid c
      clear c hu hu'
      go_enter Try.func36, Try.ntmps36
      go_wp2_with (first | ((go_at_call 47; refine (read_ok s a _ hs' h0 h1).mono ?_; rintro e w1 ⟨rfl, hb⟩; obtain ⟨hc, hf⟩ := bcell hb; have hz := hb.size; simp at hz; have hz1 : w.heap.size + 1 < w1.heap.size := by omega)) | (go_at_call 41; refine (C.out _).mono ?_; rintro e w2 ⟨rfl, rfl⟩))
      exact bodyPost_ret (v := .tuple #[.agg #[.string bE, .int .i64 0], .int .i64 2]) (by simp [results, Try.results36, go_sem, *]) rfl ⟨rfl, by (repeat' (first | exact Below.refl _ _ | apply b_drew | apply b_drewN | apply b_set | apply b_setRow | apply b_alloc | (refine b_call (by assumption) ?_ ?_) | (refine b_grown (by assumption) ?_ ?_ ?_) | (exact Sl.blk (by assumption)) | omega | (simp; done) | (simp; omega)))⟩
  · rw [if_neg hr]
    have hr' : right s a = false := by simpa using hr
    have HR := hid hr'
    clear hr hr'
    go_enter Try.func36, Try.ntmps36
    go_wp2_with ((go_at_call 47; refine (read_bad s a _ hs' HR.out).mono ?_; rintro e w1 ⟨rfl, hb⟩; obtain ⟨hc, hf⟩ := bcell hb; have hz := hb.size; simp at hz; have hz1 : w.heap.size + 1 < w1.heap.size := by omega))
    exact bodyPost_ret (v := .tuple #[.agg #[.string bE, .int .i64 0], .int .i64 2]) (by simp [results, Try.results36, go_sem, *]) rfl ⟨rfl, by (repeat' (first | exact Below.refl _ _ | apply b_drew | apply b_drewN | apply b_set | apply b_setRow | apply b_alloc | (refine b_call (by assumption) ?_ ?_) | (refine b_grown (by assumption) ?_ ?_ ?_) | (exact Sl.blk (by assumption)) | omega | (simp; done) | (simp; omega)))⟩

end Go.Proofs.Ythaapjfnadfmgaa
