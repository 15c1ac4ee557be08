/-
  Contracts of the reference's functions on hexadecimal texts.
-/
import Derived.Test.YthaapjfnadfmgaaOctE
import Derived.Deep.QuietTactic
import Derived.BigQuiet
namespace Go.Proofs.Ythaapjfnadfmgaa
open Go.RowKit

def digV (c : UInt8) : Int := if isHex c then (digN c : Int) else -1

set_option maxHeartbeats 400000 in
theorem rdigit_any (x : UInt8) (w : World) :
    Calls Try.prog 44 #[.int .u8 (x.toNat : Int)] w fun e w' => e = .returned (.int .i64 (digV x)) ∧ w = w' := by
  have hx := x.toNat_lt
  unfold digV isHex digN
  obtain ⟨n, hn⟩ : ∃ n, n = x.toNat := ⟨_, rfl⟩
  rw [← hn] at hx ⊢
  clear hn
  by_cases h1 : 48 ≤ n ∧ n ≤ 57
  · have d1 : decide ((48 : Int) ≤ (n : Int)) = true := by simp; omega
    have d2 : decide ((n : Int) ≤ 57) = true := by simp; omega
    have e : (if (decide (48 ≤ n ∧ n ≤ 57) || decide (97 ≤ n ∧ n ≤ 102)) = true then (((if n ≤ 57 then n - 48 else n - 87) : Nat) : Int) else -1) = (n : Int) - 48 := by
      rw [if_pos (by simp [h1]), if_pos h1.2]; omega
    rw [e]
    have h1' : 48 ≤ n := h1.1
    clear e h1
    go_enter Try.func44, Try.ntmps44
    go_wp2
    go_ret
    exact ⟨rfl, rfl⟩
  · by_cases h2 : 97 ≤ n ∧ n ≤ 102
    · have d1 : decide ((48 : Int) ≤ (n : Int)) = true := by simp; omega
      have d2 : decide ((n : Int) ≤ 57) = false := by simp; omega
      have d3 : decide ((97 : Int) ≤ (n : Int)) = true := by simp; omega
      have d4 : decide ((n : Int) ≤ 102) = true := by simp; omega
      have e : (if (decide (48 ≤ n ∧ n ≤ 57) || decide (97 ≤ n ∧ n ≤ 102)) = true then (((if n ≤ 57 then n - 48 else n - 87) : Nat) : Int) else -1) = 10 + ((n : Int) - 97) := by
        rw [if_pos (by simp [h2]), if_neg (by omega)]; omega
      rw [e]
      have h2' : 97 ≤ n := h2.1
      clear e h1 h2
      go_enter Try.func44, Try.ntmps44
      go_wp2
      go_ret
      exact ⟨rfl, rfl⟩
    · have e : (if (decide (48 ≤ n ∧ n ≤ 57) || decide (97 ≤ n ∧ n ≤ 102)) = true then (((if n ≤ 57 then n - 48 else n - 87) : Nat) : Int) else -1) = -1 := by
        rw [if_neg (by simp; omega)]
      rw [e]
      have hd : (decide ((48 : Int) ≤ (n : Int)) = false ∧ decide ((97 : Int) ≤ (n : Int)) = false) ∨ (decide ((48 : Int) ≤ (n : Int)) = true ∧ decide ((n : Int) ≤ 57) = false ∧ decide ((97 : Int) ≤ (n : Int)) = false) ∨
          (decide ((48 : Int) ≤ (n : Int)) = true ∧ decide ((n : Int) ≤ 57) = false ∧ decide ((97 : Int) ≤ (n : Int)) = true ∧ decide ((n : Int) ≤ 102) = false) := by
        simp only [decide_eq_true_eq, decide_eq_false_iff_not]; omega
      clear e h1 h2
      rcases hd with ⟨d1, d2⟩ | ⟨d1, d2, d3⟩ | ⟨d1, d2, d3, d4⟩
      all_goals
        go_enter Try.func44, Try.ntmps44
        go_wp2
        go_ret
        exact ⟨rfl, rfl⟩

theorem Sl.ofOwns {w : World} {base : Nat} {e : TypeId} {size : Nat} {ao : Option Addr} {n cap : Nat} {xs : List Value} (h : w.ownsRow base e size (.slice ao n cap) n xs) : Sl w base e size ao n cap xs := by
  obtain ⟨hl, h⟩ := h
  rcases h with ⟨hv, hn⟩ | ⟨g, cap', cur, hv, hb, hg, hnc, hcm, hcs, ht⟩
  · simp only [Value.slice.injEq] at hv
    obtain ⟨rfl, rfl, rfl⟩ := hv
    exact ⟨hl, Nat.le_refl _, Nat.zero_le _, .inl ⟨rfl, rfl, rfl⟩⟩
  · simp only [Value.slice.injEq] at hv
    obtain ⟨rfl, _, rfl⟩ := hv
    exact ⟨hl, hnc, hcm, .inr ⟨g, 0, cur, 0, 0, rfl, hb, hg, .inl (Nat.le_refl _), by omega, by simpa using ht⟩⟩

def hexS : ByteArray := ⟨#[48, 49, 50, 51, 52, 53, 54, 55, 56, 57, 97, 98, 99, 100, 101, 102]⟩
theorem idx_hexS (j : Nat) (h : j < 16) (w : World) : (Instr.index 9 (.string ⟨#[48, 49, 50, 51, 52, 53, 54, 55, 56, 57, 97, 98, 99, 100, 101, 102]⟩) (.int .u8 (j : Int))).run Try.prog w = .ok (.int .u8 ((hexD j).toNat : Int)) w := by
  have hj : j = 0 ∨ j = 1 ∨ j = 2 ∨ j = 3 ∨ j = 4 ∨ j = 5 ∨ j = 6 ∨ j = 7 ∨ j = 8 ∨ j = 9 ∨ j = 10 ∨ j = 11 ∨ j = 12 ∨ j = 13 ∨ j = 14 ∨ j = 15 := by omega
  clear h
  rcases hj with rfl | rfl | rfl | rfl | rfl | rfl | rfl | rfl | rfl | rfl | rfl | rfl | rfl | rfl | rfl | rfl
  all_goals (show Sem.run _ _ _ = _; kernel_rfl)

set_option maxHeartbeats 2000000 in
theorem rhex_any (s : ByteArray) (w : World) (hs : s.size ≤ 1000000000000) :
    Calls Try.prog 16 #[.string s] w fun e w' => e = .returned (.string ⟨(hexL s.data.toList).toArray⟩) ∧ Below w.heap.size w w' := by
  obtain ⟨i0, hi0, hz0, hz1, hz2⟩ := info_parts Try.infoU8
  go_enter Try.func16, Try.ntmps16
  go_wp2_with (first | (at_make; refine wpList_make_own _ rfl _ _ 35 rfl w.heap.size 5 i0 (.int .u8 0) 1 Try.underlying35 hi0 hz0 hz1 _ _ _ (2 * s.size) rfl rfl (by omega) (by rw [hz2]; omega) (by unfold maxLen; omega) (Nat.le_refl _) ?_))
  intro w1 hown hgr
  have hsl := Sl.ofOwns hown
  have hb : Below w.heap.size w w1 := (Below.refl _ _).grown hgr (Nat.le_refl _) (fun k hk => by cases hk)
  clear hown hgr
  go_wp2_with fail
  go_loopw [3, 4] (fun v i wr => ∃ (k : Nat) (ao : Option Addr) (cap : Nat), k ≤ s.size ∧ i = .int .i64 k ∧ v = .slice ao (2 * k) cap ∧ Sl wr w.heap.size 5 1 ao (2 * k) cap (cellsOf (hexL (s.data.toList.take k))) ∧ Below w.heap.size w wr) (fun _ i _ => s.size - (intOf i).toNat)
  case atStart => exact ⟨0, _, _, Nat.zero_le _, rfl, rfl, hsl, hb⟩
  case round =>
    obtain ⟨k, ao, cap, hk, rfl, rfl, hsk, hbk⟩ := hrel
    have hbz := hbk.size
    by_cases hlt : k < s.size
    · have hkl : k < s.data.toList.length := by rw [szL]; exact hlt
      have HT : Hid (s.data.toList.take (k + 1) = s.data.toList.take k ++ [s[k]]) := by rw [← List.take_append_getElem hkl]; exact rfl
      obtain ⟨x, hx⟩ : ∃ x : UInt8, s[k]'hlt = x := ⟨_, rfl⟩
      have hx' : (s[k]'hlt).toNat = x.toNat := by rw [hx]
      have HX := hid hx
      have hx256 := x.toNat_lt
      obtain ⟨hi, hhi⟩ : ∃ hi : Nat, (x.toNat : Int) / 16 = (hi : Int) := ⟨x.toNat / 16, by omega⟩
      obtain ⟨lo, hlo⟩ : ∃ lo : Nat, (x.toNat : Int) % 16 = (lo : Int) := ⟨x.toNat % 16, by omega⟩
      have hhi2 : hi = x.toNat / 16 := by omega
      have hlo2 : lo = x.toNat % 16 := by omega
      have HHI := hid hhi2
      have HLO := hid hlo2
      have b5 : (k : Int) < (s.size : Int) := by omega
      have b6 : (0 : Int) ≤ (k : Int) := by omega
      have k1 := fun w => idx_hexS hi (by omega) w
      have k2 := fun w => idx_hexS lo (by omega) w
      have q1 : IntKind.u8.wrap (hi : Int) = (hi : Int) := by rw [IntKind.wrap_u8']; omega
      have q2 : (x.toNat : Int).tdiv 16 = (hi : Int) := by rw [Int.tdiv_eq_ediv_of_nonneg (by omega), hhi]
      have q3 : (x.toNat : Int).tmod 16 = (lo : Int) := by rw [Int.tmod_eq_emod_of_nonneg (by omega), hlo]
      clear hx hhi2 hlo2
      go_wp2_with fail
      go_region_held3 (fun w' => True) (trivial) ((refine step_append (by rfl) _ _ 35 (by rfl) w.heap.size 5 (.int .u8 0) 1 1 Try.infoU8 Try.underlying35 rfl (by omega) ao (2 * k) cap _ (by rfl) ((hsk.alloc _).drew) (some ⟨wr.heap.size, 0, none⟩) 2 2 [.int .u8 ((hexD hi).toNat : Int), .int .u8 ((hexD lo).toNat : Int)] (by rfl) (by rfl) (Rd.new wr _ _ _) (by simp) (by simp [Value.oneCell']) (by omega) (by unfold maxLen; omega) (by simp; omega) ?_; intro ao' cap' w3 hsl' hgr _))
      all_goals
        have HS := hid hsl'
        have hb3 : Below w.heap.size w w3 := by (repeat' (first | exact Below.refl _ _ | apply b_drew | apply b_drewN | apply b_set | apply b_setRow | apply b_alloc | (refine b_call (by assumption) ?_ ?_) | (refine b_grown (by assumption) ?_ ?_ ?_) | (exact Sl.blk (by assumption)) | omega | (simp; done) | (simp; omega)))
        clear hsl' hgr
        go_wp2
        go_roundw
        case rel => exact ⟨k + 1, ao', cap', by omega, by go_num, rfl, by rw [HT.out, hexL_snoc, cellsOf_append, HX.out]; simp only [hexB, cellsOf, List.map_cons, List.map_nil, ← HHI.out, ← HLO.out]; exact HS.out, hb3⟩
        case measure => simp [intOf]; omega
    · have hks : k = s.size := by omega
      have HK := hid hks
      clear hks
      go_wp2_with (first | (refine wpList_string _ rfl (.tmp 28) _ _ _ rfl Try.underlying35 Try.underlying5 Try.underlying9 _ _ _ rfl (hexL (s.data.toList.take k)) (by rw [length_hexL, List.length_take, szL]; omega) hsk.rd ?_))
      go_ret
      exact ⟨ret1 (vstr (by rw [HK.out, ← szL, List.take_length])), by (repeat' (first | exact Below.refl _ _ | apply b_drew | apply b_drewN | apply b_set | apply b_setRow | apply b_alloc | (refine b_call (by assumption) ?_ ?_) | (refine b_grown (by assumption) ?_ ?_ ?_) | (exact Sl.blk (by assumption)) | omega | (simp; done) | (simp; omega)))⟩

end Go.Proofs.Ythaapjfnadfmgaa
