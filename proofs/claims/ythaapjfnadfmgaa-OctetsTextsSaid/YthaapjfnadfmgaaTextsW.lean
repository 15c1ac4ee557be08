/-
  The walk of OctetsTexts.
-/
import Derived.Test.YthaapjfnadfmgaaWorksB
import Derived.Test.YthaapjfnadfmgaaRefE
import Derived.Test.YthaapjfnadfmgaaLib3
import Derived.OpenShut
namespace Go.Proofs.Ythaapjfnadfmgaa
open Go.RowKit

theorem extract_size_le (s : ByteArray) (n : Nat) : (s.extract 0 n).size ≤ n := by rw [ByteArray.size_extract]; omega

theorem szMk (l : List UInt8) : (⟨l.toArray⟩ : ByteArray).size = l.length := by simp [ByteArray.size]

theorem unhex_cases (l : List UInt8) : (unhexB l = true ∧ unhexR l = (pack (l.map digN), 0)) ∨ (unhexB l = false ∧ unhexR l = ([], 5)) := by
  unfold unhexB unhexR
  cases h : (l.all isHex && l.length % 2 == 0)
  · right; exact ⟨rfl, by simp⟩
  · left; exact ⟨rfl, by simp⟩

theorem strings4 (a b c d : ByteArray) (ha : a.size ≤ 1000) (hb : b.size ≤ 1000) (hc : c.size ≤ 1000) (hd : d.size ≤ 1000) :
    ∀ j, j < 4 → ∃ v, (#[.string a, .string b, .string c, .string d] : Array Value)[j]? = some v ∧ ∃ t : ByteArray, v = .string t ∧ t.size ≤ 1000 := by
  intro j hj
  have : j = 0 ∨ j = 1 ∨ j = 2 ∨ j = 3 := by omega
  rcases this with rfl | rfl | rfl | rfl
  · exact ⟨_, rfl, _, rfl, ha⟩
  · exact ⟨_, rfl, _, rfl, hb⟩
  · exact ⟨_, rfl, _, rfl, hc⟩
  · exact ⟨_, rfl, _, rfl, hd⟩

set_option maxRecDepth 100000 in
set_option maxHeartbeats 1000000 in
theorem texts_core (s text : ByteArray) (a c : Int) (w : World) (hs : s.size ≤ maxLen) (ht : text.size ≤ maxLen) (ha : 0 ≤ a) (ha2 : a < 65536) (hc : 0 ≤ c) (hc2 : c < 256) :
    Calls Try.prog 4 #[.string s, .string text, .int .u16 a, .int .u8 c] w fun e w' => e = .returned (.bool true) ∧ Below w.heap.size w w' := by
  unfold maxLen at hs ht
  go_enter Try.func4, Try.ntmps4
  go_wp2_with (first
      | (go_at_call 9; refine (works_any _).mono ?_; rintro e w1 ⟨rfl, hb⟩; have hz := hb.size))
  go_region
  all_goals go_wp2_with fail
  all_goals
    first | (have hS : s.size ≤ 300 := (by omega); obtain ⟨S, rfl⟩ : ∃ S, S = s := ⟨s, rfl⟩) | (generalize hSe : s.extract 0 300 = S; have hS : S.size ≤ 300 := (by rw [← hSe]; exact extract_size_le _ _); clear hSe)
    first | (have hT : text.size ≤ 300 := (by omega); obtain ⟨T, rfl⟩ : ∃ T, T = text := ⟨text, rfl⟩) | (generalize hTe : text.extract 0 300 = T; have hT : T.size ≤ 300 := (by rw [← hTe]; exact extract_size_le _ _); clear hTe)
    obtain ⟨H, hH⟩ : ∃ H, hexL S.data.toList = H := ⟨_, rfl⟩
    have hHl : H.length ≤ 600 := by rw [← hH, length_hexL, szL]; omega
    have c1 := fun w => rhex_any S w (by omega)
    have c2 := fun w => hex_any S w (by omega)
    rw [hH] at c1 c2
    have C1 := hid c1
    have C2 := hid c2
    clear c1 c2 hH
    by_cases hn : H.length = 0
    · have hnil : H = [] := List.eq_nil_of_length_eq_zero hn
      clear hn hHl
      subst hnil
      have hHl : ([] : List UInt8).length ≤ 600 := by simp
      (with_reducible refine (C1.out _).mono ?_)
      rintro e w2 ⟨rfl, hb2⟩
      have hbx : Below w.heap.size w w2 := by (repeat' (first | exact Below.refl _ _ | apply b_drew | apply b_drewN | apply b_set | apply b_setRow | apply b_alloc | (refine b_call (by assumption) ?_ ?_) | (refine b_grown (by assumption) ?_ ?_ ?_) | (exact Sl.blk (by assumption)) | omega | (simp; done) | (simp; omega)))
      have hz2 := hb2.size
      simp at hz2
      clear hb2
      go_wp2_with (first | (refine wpList_bytesL _ rfl (.tmp 31) _ _ _ rfl Try.underlying9 Try.underlying35 Try.underlying5 w.heap.size ([] : List UInt8) rfl (by unfold maxLen; omega) (by omega) ?_; intro w3 cap hsl hb3 hz3))
      obtain ⟨B, hBl, hB⟩ : ∃ B : List UInt8, B.length = ([] : List UInt8).length ∧ cellsOf B = cellsOf [] := ⟨[], rfl, rfl⟩
      rw [← hB] at hsl
      have HBL := hid hBl
      obtain ⟨w4, hw4⟩ : ∃ w4, w4 = w3 := ⟨_, rfl⟩
      rw [← hw4] at hsl hb3 hz3 ⊢
      have hb4 : Below w.heap.size w w4 := by (repeat' (first | exact Below.refl _ _ | apply b_drew | apply b_drewN | apply b_set | apply b_setRow | apply b_alloc | (refine b_call (by assumption) ?_ ?_) | (refine b_grown (by assumption) ?_ ?_ ?_) | (exact Sl.blk (by assumption)) | omega | (simp; done) | (simp; omega)))
      clear hB hBl hw4
      (with_reducible refine (C2.out _).mono ?_)
      rintro e w5 ⟨rfl, hb5⟩
      have hsl5 := hsl.below hb5
      have hb6 : Below w.heap.size w w5 := hb4.trans (hb5.mono hb4.size)
      clear hsl hb5 hb3
      go_wp2_with (first | (refine wpList_string _ rfl (.tmp 50) _ _ _ rfl Try.underlying35 Try.underlying5 Try.underlying9 _ _ _ rfl B HBL.out hsl5.rd ?_))
      go_loopw [55] (fun i wr => ∃ k : Nat, k ≤ 4 ∧ i = .int .i64 k ∧ Below w.heap.size w wr) (fun i _ => 4 - (intOf i).toNat)
      case atStart => exact ⟨0, by omega, rfl, by (repeat' (first | exact Below.refl _ _ | apply b_drew | apply b_drewN | apply b_set | apply b_setRow | apply b_alloc | (refine b_call (by assumption) ?_ ?_) | (refine b_grown (by assumption) ?_ ?_ ?_) | (exact Sl.blk (by assumption)) | omega | (simp; done) | (simp; omega)))⟩
      case round =>
        obtain ⟨k, hk4, rfl, hbk⟩ := hrel
        by_cases hlt : k < 4
        · have hlt' : (k : Int) < 4 := by omega
          have hBl2 : B.length ≤ 600 := by rw [HBL.out]; exact hHl
          go_wp2_with (first | (refine wpList_index1 rfl (.tmp 54) (.tmp 55) 36 9 4 rfl Try.underlying36 _ Try.underlying9 rfl (by kernel_rfl) _ rfl k _ rfl hlt (fun v => ∃ t : ByteArray, v = .string t ∧ t.size ≤ 1000) (strings4 _ _ _ _ (by omega) (by rw [szMk]; omega) (by rw [szMk]; omega) (by rw [ByteArray.size_append, szMk]; exact Nat.le_trans (Nat.add_le_add_right hHl 1) (by omega))) ?_; rintro v1 ⟨t, rfl, hts⟩))
          have c3 := fun w => unhex_any t w (by omega)
          have c4 := fun w => runhex_any t w (by omega)
          rcases unhex_cases t.data.toList with ⟨e1, e2⟩ | ⟨e1, e2⟩
          all_goals
            rw [e2] at c3
            rw [e1, e2] at c4
            have C3 := hid c3
            have C4 := hid c4
            clear c3 c4 e1 e2
            (with_reducible refine (C3.out _).mono ?_)
            rintro e w7 ⟨rfl, hb7⟩
            have hbk := hbk.trans (hb7.mono hbk.size)
            go_wp2_with fail
            (with_reducible refine (C4.out _).mono ?_)
            rintro e w8 ⟨rfl, hb8⟩
            have hbk := hbk.trans (hb8.mono hbk.size)
            go_wp2_with fail
            go_roundw
            case rel => exact ⟨k + 1, by omega, by go_num, hbk⟩
            case measure => simp [intOf]; omega
        · have hk : k = 4 := by omega
          have HK := hid hk
          have hlt' : ¬ (k : Int) < 4 := by omega
          clear hk
          go_wp2
          go_ret
          exact ⟨rfl, hbk⟩
    · obtain ⟨idx, hidx, hidx2⟩ : ∃ idx : Nat, a % (H.length : Int) = (idx : Int) ∧ idx < H.length :=
        ⟨(a % (H.length : Int)).toNat, by have := Int.emod_nonneg a (show (H.length : Int) ≠ 0 by omega); omega, by have := Int.emod_nonneg a (show (H.length : Int) ≠ 0 by omega); have := Int.emod_lt_of_pos a (show (0 : Int) < (H.length : Int) by omega); omega⟩
      have hd0 : decide ((0 : Int) < (H.length : Int)) = true := decide_eq_true (by omega)
      have hpos : 0 < H.length := by omega
      have hne : ¬ H = [] := by intro e; rw [e] at hpos; exact absurd hpos (by simp)
      have hidx3 : (idx : Int) < (H.length : Int) := by omega
      clear hn
      (with_reducible refine (C1.out _).mono ?_)
      rintro e w2 ⟨rfl, hb2⟩
      have hbx : Below w.heap.size w w2 := by (repeat' (first | exact Below.refl _ _ | apply b_drew | apply b_drewN | apply b_set | apply b_setRow | apply b_alloc | (refine b_call (by assumption) ?_ ?_) | (refine b_grown (by assumption) ?_ ?_ ?_) | (exact Sl.blk (by assumption)) | omega | (simp; done) | (simp; omega)))
      have hz2 := hb2.size
      simp at hz2
      clear hb2
      go_wp2_with (first | (refine wpList_bytesL _ rfl (.tmp 31) _ _ _ rfl Try.underlying9 Try.underlying35 Try.underlying5 w.heap.size H rfl (by unfold maxLen; omega) (by omega) ?_; intro w3 cap hsl hb3 hz3; have hfz := hsl.frozen idx (by have := hsl.2.1; omega); obtain ⟨g1, o1, he1, _, hcell⟩ := hsl.rd.byte hidx2; cases he1; simp only [Nat.zero_add] at hcell hfz; generalize H[idx]'hidx2 = hbyte at hcell; have HST := hid (hsl.store idx (.int .u8 c))))
      obtain ⟨B, hBl, hB⟩ : ∃ B : List UInt8, B.length = H.length ∧ cellsOf B = (cellsOf H).set idx (.int .u8 c) :=
        ⟨H.set idx (UInt8.ofNat c.toNat), by simp, by
          simp only [cellsOf, List.map_set, UInt8.toNat_ofNat']
          congr 2
          omega⟩
      have hst := HST.out
      rw [← hB] at hst
      simp only [Nat.zero_add] at hst
      have HBL := hid hBl
      obtain ⟨w4, hw4⟩ : ∃ w4, w4 = w3.setCell ⟨w2.heap.size, idx, none⟩ (.int .u8 c) := ⟨_, rfl⟩
      have hb4 : Below w.heap.size w w4 := by rw [hw4]; (repeat' (first | exact Below.refl _ _ | apply b_drew | apply b_drewN | apply b_set | apply b_setRow | apply b_alloc | (refine b_call (by assumption) ?_ ?_) | (refine b_grown (by assumption) ?_ ?_ ?_) | (exact Sl.blk (by assumption)) | omega | (simp; done) | (simp; omega)))
      rw [← hw4] at hst ⊢
      clear hsl hfz hcell
      have hsl := hst
      clear hB hBl hw4 hst
      (with_reducible refine (C2.out _).mono ?_)
      rintro e w5 ⟨rfl, hb5⟩
      have hsl5 := hsl.below hb5
      have hb6 : Below w.heap.size w w5 := hb4.trans (hb5.mono hb4.size)
      clear hsl hb5 hb3
      go_wp2_with (first | (refine wpList_string _ rfl (.tmp 50) _ _ _ rfl Try.underlying35 Try.underlying5 Try.underlying9 _ _ _ rfl B HBL.out hsl5.rd ?_))
      go_loopw [55] (fun i wr => ∃ k : Nat, k ≤ 4 ∧ i = .int .i64 k ∧ Below w.heap.size w wr) (fun i _ => 4 - (intOf i).toNat)
      case atStart => exact ⟨0, by omega, rfl, by (repeat' (first | exact Below.refl _ _ | apply b_drew | apply b_drewN | apply b_set | apply b_setRow | apply b_alloc | (refine b_call (by assumption) ?_ ?_) | (refine b_grown (by assumption) ?_ ?_ ?_) | (exact Sl.blk (by assumption)) | omega | (simp; done) | (simp; omega)))⟩
      case round =>
        obtain ⟨k, hk4, rfl, hbk⟩ := hrel
        by_cases hlt : k < 4
        · have hlt' : (k : Int) < 4 := by omega
          have hBl2 : B.length ≤ 600 := by rw [HBL.out]; exact hHl
          go_wp2_with (first | (refine wpList_index1 rfl (.tmp 54) (.tmp 55) 36 9 4 rfl Try.underlying36 _ Try.underlying9 rfl (by kernel_rfl) _ rfl k _ rfl hlt (fun v => ∃ t : ByteArray, v = .string t ∧ t.size ≤ 1000) (strings4 _ _ _ _ (by omega) (by rw [szMk]; omega) (by rw [szMk]; omega) (by rw [ByteArray.size_append, szMk]; exact Nat.le_trans (Nat.add_le_add_right hHl 1) (by omega))) ?_; rintro v1 ⟨t, rfl, hts⟩))
          have c3 := fun w => unhex_any t w (by omega)
          have c4 := fun w => runhex_any t w (by omega)
          rcases unhex_cases t.data.toList with ⟨e1, e2⟩ | ⟨e1, e2⟩
          all_goals
            rw [e2] at c3
            rw [e1, e2] at c4
            have C3 := hid c3
            have C4 := hid c4
            clear c3 c4 e1 e2
            (with_reducible refine (C3.out _).mono ?_)
            rintro e w7 ⟨rfl, hb7⟩
            have hbk := hbk.trans (hb7.mono hbk.size)
            go_wp2_with fail
            (with_reducible refine (C4.out _).mono ?_)
            rintro e w8 ⟨rfl, hb8⟩
            have hbk := hbk.trans (hb8.mono hbk.size)
            go_wp2_with fail
            go_roundw
            case rel => exact ⟨k + 1, by omega, by go_num, hbk⟩
            case measure => simp [intOf]; omega
        · have hk : k = 4 := by omega
          have HK := hid hk
          have hlt' : ¬ (k : Int) < 4 := by omega
          clear hk
          go_wp2
          go_ret
          exact ⟨rfl, hbk⟩

theorem octetsTexts_walk (a0 a1 : ByteArray) (a2 a3 : Int) (w : World) (w0 : a0.size ≤ maxLen) (w1 : a1.size ≤ maxLen) (w2 : (Lit.int .u16 a2).wf = true) (w3 : (Lit.int .u8 a3).wf = true) :
    Calls Try.prog 4 #[.string a0, .string a1, .int .u16 a2, .int .u8 a3] w fun e w' => e = .returned (.bool true) ∧ Below w.heap.size w w' := by
  have b2 := bounds_u16 w2
  have b3 := bounds_u8 w3
  exact texts_core a0 a1 a2 a3 w w0 w1 (by omega) (by omega) (by omega) (by omega)
end Go.Proofs.Ythaapjfnadfmgaa
