/-
  Contracts of the functions of octets that read.
-/
import Derived.Test.YthaapjfnadfmgaaOctA
import Derived.Deep.RegionHeld3
namespace Go.Proofs.Ythaapjfnadfmgaa
open Go.RowKit


/-- whether a reader is valid -/
def right (s : ByteArray) (a : Int) : Bool := decide (0 ≤ a) && decide (a ≤ s.size)

theorem bcell {W w1 : World} (hb : Below W.heap.size W w1) : (∀ b o, b < W.heap.size → w1.cell? ⟨b, o, none⟩ = W.cell? ⟨b, o, none⟩) ∧ (∀ b o, b < W.heap.size → w1.frozen? ⟨b, o, none⟩ = W.frozen? ⟨b, o, none⟩) :=
  ⟨fun b o h => hb.cell (p := ⟨b, o, none⟩) h, fun b o h => hb.frozen (p := ⟨b, o, none⟩) h⟩

set_option maxHeartbeats 400000 in
theorem read_ok (s : ByteArray) (a : Int) (w : World) (_hs : s.size ≤ maxLen) (h0 : 0 ≤ a) (h1 : a ≤ s.size) :
    Calls Try.prog 47 #[.agg #[.string s, .int .i64 a]] w fun e w' => e = .returned (.tuple #[.agg #[.string s, .int .i64 a], .int .i64 0]) ∧ Below w.heap.size w w' := by
  have hd : decide ((s.size : Int) < a) = false := by simp; omega
  go_enter Try.func47, Try.ntmps47
  go_wp2
  exact bodyPost_ret (v := .tuple #[.agg #[.string s, .int .i64 a], .int .i64 0]) (by simp [results, Try.results47, go_sem]) rfl ⟨rfl, by (repeat' (first | exact Below.refl _ _ | apply b_drew | apply b_drewN | apply b_set | apply b_setRow | apply b_alloc | (refine b_call (by assumption) ?_ ?_) | (refine b_grown (by assumption) ?_ ?_ ?_) | (exact Sl.blk (by assumption)) | omega | (simp; done) | (simp; omega)))⟩

set_option maxHeartbeats 400000 in
theorem read_bad (s : ByteArray) (a : Int) (w : World) (_hs : s.size ≤ maxLen) (h : right s a = false) :
    Calls Try.prog 47 #[.agg #[.string s, .int .i64 a]] w fun e w' => e = .returned (.tuple #[.agg #[vE, .int .i64 0], .int .i64 2]) ∧ Below w.heap.size w w' := by
  by_cases h0 : a < 0
  · clear h
    go_enter Try.func47, Try.ntmps47
    go_wp2
    exact bodyPost_ret (v := .tuple #[.agg #[vE, .int .i64 0], .int .i64 2]) (by simp [results, Try.results47, go_sem]) rfl ⟨rfl, by (repeat' (first | exact Below.refl _ _ | apply b_drew | apply b_drewN | apply b_set | apply b_setRow | apply b_alloc | (refine b_call (by assumption) ?_ ?_) | (refine b_grown (by assumption) ?_ ?_ ?_) | (exact Sl.blk (by assumption)) | omega | (simp; done) | (simp; omega)))⟩
  · have h1 : (s.size : Int) < a := by simp [right] at h; omega
    clear h
    have h0' : decide (a < 0) = false := by simp; omega
    go_enter Try.func47, Try.ntmps47
    go_wp2
    exact bodyPost_ret (v := .tuple #[.agg #[vE, .int .i64 0], .int .i64 2]) (by simp [results, Try.results47, go_sem]) rfl ⟨rfl, by (repeat' (first | exact Below.refl _ _ | apply b_drew | apply b_drewN | apply b_set | apply b_setRow | apply b_alloc | (refine b_call (by assumption) ?_ ?_) | (refine b_grown (by assumption) ?_ ?_ ?_) | (exact Sl.blk (by assumption)) | omega | (simp; done) | (simp; omega)))⟩

end Go.Proofs.Ythaapjfnadfmgaa
