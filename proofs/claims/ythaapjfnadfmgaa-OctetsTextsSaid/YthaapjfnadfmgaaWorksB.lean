/-
  The chapter's examples hold.
-/
import Derived.Test.YthaapjfnadfmgaaWorksA
namespace Go.Proofs.Ythaapjfnadfmgaa
open Go.RowKit

set_option maxHeartbeats 400000 in
theorem puts_any (want : ByteArray) (no : Int) (w : World) :
    Calls Try.prog 28 #[.string want, .int .i64 no] w fun e w' => e = .returned (.func (.func 46) #[] #[.pointer (some ⟨w.heap.size, 0, none⟩), .pointer (some ⟨w.heap.size + 1, 0, none⟩)]) ∧
      w'.cell? ⟨w.heap.size, 0, none⟩ = some (.string want) ∧ w'.cell? ⟨w.heap.size + 1, 0, none⟩ = some (.int .i64 no) ∧ Below w.heap.size w w' ∧ w.heap.size + 1 < w'.heap.size := by
  go_enter Try.func28, Try.ntmps28
  go_wp2
  go_ret
  exact ⟨rfl, by simp [go_sem], by simp [go_sem], by (repeat' (first | exact Below.refl _ _ | apply b_drew | apply b_drewN | apply b_set | apply b_setRow | apply b_alloc | (refine b_call (by assumption) ?_ ?_) | (refine b_grown (by assumption) ?_ ?_ ?_) | (exact Sl.blk (by assumption)) | omega | (simp; done) | (simp; omega))), by simp⟩

set_option maxHeartbeats 400000 in
theorem puts1_any (x want : ByteArray) (e no : Int) (a b : Addr) (w : World) (h1 : w.cell? a = some (.string want)) (h2 : w.cell? b = some (.int .i64 no)) (hx : (x.toList == want.toList) = true) (he : (e == no) = true) :
    Calls Try.prog 46 #[.string x, .int .i64 e, .pointer (some a), .pointer (some b)] w fun e w' => e = .returned (.bool true) ∧ w = w' := by
  go_enter Try.func46, Try.ntmps46
  go_wp2
  go_ret
  exact ⟨rfl, rfl⟩

theorem hex_lit (s : ByteArray) (l : List UInt8) (w : World) (hs : s.size ≤ 1000000000000) (h : hexL s.data.toList = l) :
    Calls Try.prog 17 #[.string s] w fun e w' => e = .returned (.string ⟨l.toArray⟩) ∧ Below w.heap.size w w' := by
  subst h
  exact hex_any s w hs

set_option maxRecDepth 100000 in
set_option maxHeartbeats 4000000 in
theorem works_any (w : World) :
    Calls Try.prog 9 #[] w fun e w' => e = .returned (.bool true) ∧ Below w.heap.size w w' := by
  go_enter Try.func9, Try.ntmps9
  have hb : Below w.heap.size w w := Below.refl _ _
  go_wp2_with (first
    | (go_at_call 25; refine (at_any _ _ _).mono ?_; rintro e w1 ⟨rfl, hb1⟩; have hb := hb.trans (hb1.mono hb.size); clear hb1)
    | (go_at_call 24; first | (refine (takes_no _ _ _ _ _ _ _ (by decide) (by decide) (by kernel_rfl)).mono ?_; rintro e w1 ⟨rfl, hb1⟩; have hb := hb.trans (hb1.mono hb.size); clear hb1) | (refine (takes_ok _ _ _ _ _ _ (by decide) (by kernel_rfl)).mono ?_; rintro e w1 ⟨rfl, hb1⟩; have hb := hb.trans (hb1.mono hb.size); clear hb1))
    | (go_at_call 26; first | (refine (counts_no _ _ _ _ _ _ _ (by decide) (by decide) (by kernel_rfl)).mono ?_; rintro e w1 ⟨rfl, hb1⟩; have hb := hb.trans (hb1.mono hb.size); clear hb1) | (refine (counts_ok _ _ _ _ _ _ (by decide) (by kernel_rfl)).mono ?_; rintro e w1 ⟨rfl, hb1⟩; have hb := hb.trans (hb1.mono hb.size); clear hb1))
    | (go_at_call 27; first | (refine (skips_no _ _ _ _ _ _ (by decide) (by decide) (by kernel_rfl)).mono ?_; rintro e w1 ⟨rfl, hb1⟩; have hb := hb.trans (hb1.mono hb.size); clear hb1) | (refine (skips_ok _ _ _ _ _ (by decide) (by kernel_rfl)).mono ?_; rintro e w1 ⟨rfl, hb1⟩; have hb := hb.trans (hb1.mono hb.size); clear hb1))
    | (go_at_call 29; refine (leads_any _ _ _ _ _ _ (by kernel_rfl)).mono ?_; rintro e w1 ⟨rfl, rfl⟩)
    | (go_at_call 28; refine (puts_any _ _ _).mono ?_; rintro e w1 ⟨rfl, hc2, hc3, hb1, hz⟩; have hb := hb.trans (hb1.mono hb.size); clear hb1)
    | (go_at_call 10; refine (put_any _ _ _).mono ?_; rintro e w1 ⟨rfl, hb1⟩; have hc2 := ((bcell hb1).1 _ 0 (by omega)).trans hc2; have hc3 := ((bcell hb1).1 _ 0 (by omega)).trans hc3; have hb := hb.trans (hb1.mono hb.size); clear hb1)
    | (go_at_call 13; refine (pad_any _ _ _ (by decide)).mono ?_; rintro e w1 ⟨rfl, hb1⟩; have hc2 := ((bcell hb1).1 _ 0 (by omega)).trans hc2; have hc3 := ((bcell hb1).1 _ 0 (by omega)).trans hc3; have hb := hb.trans (hb1.mono hb.size); clear hb1)
    | (go_at_call 18; refine (unhex_any _ _ (by decide)).mono ?_; rintro e w1 ⟨rfl, hb1⟩; have hc2 := ((bcell hb1).1 _ 0 (by omega)).trans hc2; have hc3 := ((bcell hb1).1 _ 0 (by omega)).trans hc3; have hb := hb.trans (hb1.mono hb.size); clear hb1)
    | (go_at_call 17; refine (hex_lit _ [48, 48, 97, 98] _ (by decide) (by kernel_rfl)).mono ?_; rintro e w1 ⟨rfl, hb1⟩; have hb := hb.trans (hb1.mono hb.size); clear hb1)
    | (go_at_call 46; refine (puts1_any _ _ _ _ _ _ _ hc2 hc3 (by kernel_rfl) (by kernel_rfl)).mono ?_; rintro e w1 ⟨rfl, rfl⟩))
  go_ret
  exact ⟨rfl, hb⟩
end Go.Proofs.Ythaapjfnadfmgaa
