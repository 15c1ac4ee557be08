/-
  The walk of OctetsKnown.
-/
import Derived.Test.YthaapjfnadfmgaaWorksB
namespace Go.Proofs.Ythaapjfnadfmgaa
open Go.RowKit

set_option maxRecDepth 100000 in
set_option maxHeartbeats 4000000 in
theorem octetsKnown_walk (w : World) :
    Calls Try.prog 7 #[] w fun e w' => e = .returned (.bool true) ∧ Below w.heap.size w w' := by
  go_enter Try.func7, Try.ntmps7
  have hb : Below w.heap.size w w := Below.refl _ _
  go_wp2_with (first
    | (go_at_call 9; refine (works_any _).mono ?_; rintro e w1 ⟨rfl, hb1⟩; have hb := hb.trans (hb1.mono hb.size); clear hb1)
    | (go_at_call 25; refine (at_any _ _ _).mono ?_; rintro e w1 ⟨rfl, hb1⟩; have hb := hb.trans (hb1.mono hb.size); clear hb1)
    | (go_at_call 24; first | (refine (takes_no _ _ _ _ _ _ _ (by decide) (by decide) (by kernel_rfl)).mono ?_; rintro e w1 ⟨rfl, hb1⟩; have hb := hb.trans (hb1.mono hb.size); clear hb1) | (refine (takes_ok _ _ _ _ _ _ (by decide) (by kernel_rfl)).mono ?_; rintro e w1 ⟨rfl, hb1⟩; have hb := hb.trans (hb1.mono hb.size); clear hb1))
    | (go_at_call 26; first | (refine (counts_no _ _ _ _ _ _ _ (by decide) (by decide) (by kernel_rfl)).mono ?_; rintro e w1 ⟨rfl, hb1⟩; have hb := hb.trans (hb1.mono hb.size); clear hb1) | (refine (counts_ok _ _ _ _ _ _ (by decide) (by kernel_rfl)).mono ?_; rintro e w1 ⟨rfl, hb1⟩; have hb := hb.trans (hb1.mono hb.size); clear hb1))
    | (go_at_call 27; first | (refine (skips_no _ _ _ _ _ _ (by decide) (by decide) (by kernel_rfl)).mono ?_; rintro e w1 ⟨rfl, hb1⟩; have hb := hb.trans (hb1.mono hb.size); clear hb1) | (refine (skips_ok _ _ _ _ _ (by decide) (by kernel_rfl)).mono ?_; rintro e w1 ⟨rfl, hb1⟩; have hb := hb.trans (hb1.mono hb.size); clear hb1))
    | (go_at_call 29; refine (leads_any _ _ _ _ _ _ (by kernel_rfl)).mono ?_; rintro e w1 ⟨rfl, rfl⟩)
    | (go_at_call 28; refine (puts_any _ _ _).mono ?_; rintro e w1 ⟨rfl, hc2, hc3, hb1, hz⟩; have hb := hb.trans (hb1.mono hb.size); clear hb1)
    | (go_at_call 10; refine (put_any _ _ _).mono ?_; rintro e w1 ⟨rfl, hb1⟩; have hc2 := ((bcell hb1).1 _ 0 (by omega)).trans hc2; have hc3 := ((bcell hb1).1 _ 0 (by omega)).trans hc3; have hb := hb.trans (hb1.mono hb.size); clear hb1)
    | (go_at_call 13; refine (pad_any _ _ _ (by decide)).mono ?_; rintro e w1 ⟨rfl, hb1⟩; have hc2 := ((bcell hb1).1 _ 0 (by omega)).trans hc2; have hc3 := ((bcell hb1).1 _ 0 (by omega)).trans hc3; have hb := hb.trans (hb1.mono hb.size); clear hb1)
    | (go_at_call 18; refine (unhex_any _ _ (by decide)).mono ?_; rintro e w1 ⟨rfl, hb1⟩; have hc2 := ((bcell hb1).1 _ 0 (by omega)).trans hc2; have hc3 := ((bcell hb1).1 _ 0 (by omega)).trans hc3; have hb := hb.trans (hb1.mono hb.size); clear hb1)
    | (go_at_call 17; refine (hex_lit _ [] _ (by decide) (by kernel_rfl)).mono ?_; rintro e w1 ⟨rfl, hb1⟩; have hb := hb.trans (hb1.mono hb.size); clear hb1)
    | (go_at_call 46; refine (puts1_any _ _ _ _ _ _ _ hc2 hc3 (by kernel_rfl) (by kernel_rfl)).mono ?_; rintro e w1 ⟨rfl, rfl⟩))
  go_ret
  exact ⟨rfl, hb⟩

end Go.Proofs.Ythaapjfnadfmgaa
