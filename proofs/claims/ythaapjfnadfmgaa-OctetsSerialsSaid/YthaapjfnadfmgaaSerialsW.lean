/-
  The walk of OctetsSerials.
-/
import Derived.Test.YthaapjfnadfmgaaWorksB
import Derived.Test.YthaapjfnadfmgaaRefA
import Derived.Deep.QuietTactic
import Derived.BigQuiet
import Derived.OpenShut
namespace Go.Proofs.Ythaapjfnadfmgaa
open Go.RowKit

theorem idx12_0 (a b c d e f g h i j k l : Int) (w : World) : (Instr.index 41 (.agg #[.int .i64 a, .int .i64 b, .int .i64 c, .int .i64 d, .int .i64 e, .int .i64 f, .int .i64 g, .int .i64 h, .int .i64 i, .int .i64 j, .int .i64 k, .int .i64 l]) (.int .i64 0)).run Try.prog w = .ok (.agg #[.int .i64 a, .int .i64 b, .int .i64 c]) w := by kernel_rfl
theorem idx12_1 (a b c d e f g h i j k l : Int) (w : World) : (Instr.index 41 (.agg #[.int .i64 a, .int .i64 b, .int .i64 c, .int .i64 d, .int .i64 e, .int .i64 f, .int .i64 g, .int .i64 h, .int .i64 i, .int .i64 j, .int .i64 k, .int .i64 l]) (.int .i64 1)).run Try.prog w = .ok (.agg #[.int .i64 d, .int .i64 e, .int .i64 f]) w := by kernel_rfl
theorem idx12_2 (a b c d e f g h i j k l : Int) (w : World) : (Instr.index 41 (.agg #[.int .i64 a, .int .i64 b, .int .i64 c, .int .i64 d, .int .i64 e, .int .i64 f, .int .i64 g, .int .i64 h, .int .i64 i, .int .i64 j, .int .i64 k, .int .i64 l]) (.int .i64 2)).run Try.prog w = .ok (.agg #[.int .i64 g, .int .i64 h, .int .i64 i]) w := by kernel_rfl
theorem idx12_3 (a b c d e f g h i j k l : Int) (w : World) : (Instr.index 41 (.agg #[.int .i64 a, .int .i64 b, .int .i64 c, .int .i64 d, .int .i64 e, .int .i64 f, .int .i64 g, .int .i64 h, .int .i64 i, .int .i64 j, .int .i64 k, .int .i64 l]) (.int .i64 3)).run Try.prog w = .ok (.agg #[.int .i64 j, .int .i64 k, .int .i64 l]) w := by kernel_rfl

theorem wpList_idx12 {ops : Array Oper} {rest : List Oper} {o : Oper} {a : Act} {w : World} {Q : Exit → Act → World → Prop} (hg : o.guard = none) (x i : Operand) (ho : o.op = .index 41 x i)
    (a0 a1 a2 a3 a4 a5 a6 a7 a8 a9 a10 a11 : Int) (hx : a.eval x = .agg #[.int .i64 a0, .int .i64 a1, .int .i64 a2, .int .i64 a3, .int .i64 a4, .int .i64 a5, .int .i64 a6, .int .i64 a7, .int .i64 a8, .int .i64 a9, .int .i64 a10, .int .i64 a11])
    (k : Nat) (hi : a.eval i = .int .i64 k) (hk : k < 4)
    (h : ∀ p0 p1 p2 : Int, wpList Try.prog ops Q rest (a.put o.dst (.agg #[.int .i64 p0, .int .i64 p1, .int .i64 p2])) w) : wpList Try.prog ops Q (o :: rest) a w := by
  refine wpList_plain hg fun K hK => ?_
  have hrun : ∃ p0 p1 p2 : Int, (Instr.index 41 (a.eval x) (a.eval i)).run Try.prog w = .ok (.agg #[.int .i64 p0, .int .i64 p1, .int .i64 p2]) w := by
    rw [hx, hi]
    have : k = 0 ∨ k = 1 ∨ k = 2 ∨ k = 3 := by omega
    rcases this with rfl | rfl | rfl | rfl
    · exact ⟨_, _, _, idx12_0 a0 a1 a2 a3 a4 a5 a6 a7 a8 a9 a10 a11 w⟩
    · exact ⟨_, _, _, idx12_1 a0 a1 a2 a3 a4 a5 a6 a7 a8 a9 a10 a11 w⟩
    · exact ⟨_, _, _, idx12_2 a0 a1 a2 a3 a4 a5 a6 a7 a8 a9 a10 a11 w⟩
    · exact ⟨_, _, _, idx12_3 a0 a1 a2 a3 a4 a5 a6 a7 a8 a9 a10 a11 w⟩
  obtain ⟨p0, p1, p2, hr⟩ := hrun
  unfold Oper.wp
  simp [execOp, ho, hr, Result.andThen]
  exact hK _ _ (h p0 p1 p2)

theorem rahead_i (x y b : Int) (w : World) (h : (okSer x b && okSer y b) = true) :
    Calls Try.prog 23 #[.int .i64 x, .int .i64 y, .int .i64 b] w fun e w' => e = .returned (.int .i64 (aheadV x y b.toNat)) ∧ w = w' := by
  obtain ⟨hx, hy⟩ := (Bool.and_eq_true _ _ ▸ h : okSer x b = true ∧ okSer y b = true)
  obtain ⟨h1, h2, h3, h4⟩ := (okSer_iff x b).1 hx
  obtain ⟨_, _, h5, h6⟩ := (okSer_iff y b).1 hy
  obtain ⟨k, rfl⟩ : ∃ k : Nat, b = k := ⟨b.toNat, by omega⟩
  simp only [Int.toNat_natCast] at h4 h6 ⊢
  exact rahead_any x y k w (by omega) (by omega) h3 ((div_pow_zero x k h3).1 h4) h5 ((div_pow_zero y k h5).1 h6)

set_option maxRecDepth 100000 in
set_option maxHeartbeats 4000000 in
theorem serials_core (x y b c : Int) (few : Nat) (w : World) (hc : 0 ≤ c) (hc2 : c < 256) (hk : 1 + c % 32 = (few : Int)) :
    Calls Try.prog 5 #[.int .i64 x, .int .i64 y, .int .i64 b, .int .u8 c] w fun e w' => e = .returned (.bool true) ∧ Below w.heap.size w w' := by
  have hk1 : 1 ≤ few := by omega
  have hk2 : few ≤ 32 := by omega
  obtain ⟨hp1, hp2⟩ := pow_bd few hk2
  go_enter Try.func5, Try.ntmps5
  go_wp2_with (first
      | (go_at_call 9; refine (works_any _).mono ?_; rintro e w1 ⟨rfl, hb⟩))
  go_quiet (fail)
  go_wp2_with fail
  go_loopw [60] (fun i wr => ∃ k : Nat, k ≤ 4 ∧ i = .int .i64 k ∧ Below w.heap.size w wr) (fun i _ => 4 - (intOf i).toNat)
  case atStart => exact ⟨0, by omega, rfl, by (repeat' (first | exact Below.refl _ _ | apply b_drew | apply b_drewN | apply b_set | apply b_setRow | apply b_alloc | (refine b_call (by assumption) ?_ ?_) | (refine b_grown (by assumption) ?_ ?_ ?_) | (exact Sl.blk (by assumption)) | omega | (simp; done) | (simp; omega)))⟩
  case round =>
    obtain ⟨k, hk4, rfl, hbk⟩ := hrel
    have hbz := hbk.size
    by_cases hlt : k < 4
    · have hlt' : (k : Int) < 4 := by omega
      go_wp2_with (first | (refine wpList_idx12 rfl (.tmp 59) (.tmp 60) rfl _ _ _ _ _ _ _ _ _ _ _ _ rfl k rfl hlt ?_; intro p0 p1 p2))
      cases hok : (okSer p0 p2 && okSer p1 p2) with
      | true =>
        obtain ⟨hok0, hok1⟩ := (Bool.and_eq_true _ _ ▸ hok : okSer p0 p2 = true ∧ okSer p1 p2 = true)
        have E : ahead p0 p1 p2 = (aheadV p0 p1 p2.toNat, 0) := by unfold ahead; rw [hok]; rfl
        have c1 := fun w => ahead_any p0 p1 p2 w
        have c2 := fun w => newer_any p0 p1 p2 w
        have c3 := fun w => serial_any p0 p2 w
        have c4 := fun w => serial_any p1 p2 w
        have c5 := fun w => rahead_i p0 p1 p2 w hok
        rw [E] at c1 c2
        rw [hok0] at c3
        rw [hok1] at c4
        obtain ⟨A, hA⟩ : ∃ A, A = aheadV p0 p1 p2.toNat := ⟨_, rfl⟩
        rw [← hA] at c1 c2 c5
        have C1 := hid c1
        have C2 := hid c2
        have C3 := hid c3
        have C4 := hid c4
        have C5 := hid c5
        clear hok hok0 hok1 E c1 c2 c3 c4 c5 hA
        refine (C1.out _).mono ?_
        rintro e w1 ⟨rfl, rfl⟩
        go_wp2_with fail
        refine (C2.out _).mono ?_
        rintro e w1 ⟨rfl, rfl⟩
        go_wp2_with fail
        refine (C3.out _).mono ?_
        rintro e w1 ⟨rfl, rfl⟩
        go_wp2_with fail
        refine (C4.out _).mono ?_
        rintro e w1 ⟨rfl, rfl⟩
        go_wp2_with fail
        refine (C5.out _).mono ?_
        rintro e w1 ⟨rfl, rfl⟩
        go_wp2_with fail
        go_roundw
        case rel => exact ⟨k + 1, by omega, by go_num, by (repeat' (first | exact Below.refl _ _ | apply b_drew | apply b_drewN | apply b_set | apply b_setRow | apply b_alloc | (refine b_call (by assumption) ?_ ?_) | (refine b_grown (by assumption) ?_ ?_ ?_) | (exact Sl.blk (by assumption)) | omega | (simp; done) | (simp; omega)))⟩
        case measure => simp [intOf]; omega
      | false =>
        have E : ahead p0 p1 p2 = (0, 2) := by unfold ahead; rw [hok]; rfl
        have c1 := fun w => ahead_any p0 p1 p2 w
        have c2 := fun w => newer_any p0 p1 p2 w
        have c3 := fun w => serial_any p0 p2 w
        have c4 := fun w => serial_any p1 p2 w
        rw [E] at c1 c2
        have C1 := hid c1
        have C2 := hid c2
        clear E c1 c2
        refine (C1.out _).mono ?_
        rintro e w1 ⟨rfl, rfl⟩
        go_wp2_with fail
        refine (C2.out _).mono ?_
        rintro e w1 ⟨rfl, rfl⟩
        go_wp2_with fail
        cases h0 : okSer p0 p2 with
        | false =>
          rw [h0] at c3
          have C3 := hid c3
          clear c3 c4 hok h0
          refine (C3.out _).mono ?_
          rintro e w1 ⟨rfl, rfl⟩
          go_wp2_with fail
          go_roundw
          case rel => exact ⟨k + 1, by omega, by go_num, by (repeat' (first | exact Below.refl _ _ | apply b_drew | apply b_drewN | apply b_set | apply b_setRow | apply b_alloc | (refine b_call (by assumption) ?_ ?_) | (refine b_grown (by assumption) ?_ ?_ ?_) | (exact Sl.blk (by assumption)) | omega | (simp; done) | (simp; omega)))⟩
          case measure => simp [intOf]; omega
        | true =>
          have h1 : okSer p1 p2 = false := by rw [h0] at hok; simpa using hok
          rw [h0] at c3
          rw [h1] at c4
          have C3 := hid c3
          have C4 := hid c4
          clear c3 c4 hok h0 h1
          refine (C3.out _).mono ?_
          rintro e w1 ⟨rfl, rfl⟩
          go_wp2_with fail
          refine (C4.out _).mono ?_
          rintro e w1 ⟨rfl, rfl⟩
          go_wp2_with fail
          go_roundw
          case rel => exact ⟨k + 1, by omega, by go_num, by (repeat' (first | exact Below.refl _ _ | apply b_drew | apply b_drewN | apply b_set | apply b_setRow | apply b_alloc | (refine b_call (by assumption) ?_ ?_) | (refine b_grown (by assumption) ?_ ?_ ?_) | (exact Sl.blk (by assumption)) | omega | (simp; done) | (simp; omega)))⟩
          case measure => simp [intOf]; omega
    · have hk : k = 4 := by omega
      have HK := hid hk
      have hlt' : ¬ (k : Int) < 4 := by omega
      clear hk
      go_wp2
      go_ret
      exact ⟨rfl, hbk⟩

theorem octetsSerials_walk (a0 a1 a2 a3 : Int) (w : World) (_w0 : (Lit.int .i64 a0).wf = true) (_w1 : (Lit.int .i64 a1).wf = true) (_w2 : (Lit.int .i64 a2).wf = true) (w3 : (Lit.int .u8 a3).wf = true) :
    Calls Try.prog 5 #[.int .i64 a0, .int .i64 a1, .int .i64 a2, .int .u8 a3] w fun e w' => e = .returned (.bool true) ∧ Below w.heap.size w w' := by
  have b3 := bounds_u8 w3
  exact serials_core a0 a1 a2 a3 (1 + a3 % 32).toNat w (by omega) (by omega) (by omega)
end Go.Proofs.Ythaapjfnadfmgaa
