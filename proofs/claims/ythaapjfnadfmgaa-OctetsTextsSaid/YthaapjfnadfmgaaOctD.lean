/-
  Contracts of octets.digits and octets.Hex.
-/
import Derived.Test.YthaapjfnadfmgaaOctC
import Derived.Test.YthaapjfnadfmgaaLib2
import Derived.Deep.RegionHeld3
import Derived.Lib.SmallJoins
namespace Go.Proofs.Ythaapjfnadfmgaa
open Go.RowKit

theorem hexA_one : hexA.all (·.oneCell') = true := by simp [hexA, Value.oneCell']
def zero16 : Array Value := (List.replicate 16 (Value.int .u8 0)).toArray

set_option maxHeartbeats 1000000 in
theorem digits_any (w : World) :
    Calls Try.prog 43 #[] w fun e w' => e = .returned (.agg hexA) ∧ Below w.heap.size w w' := by
  have kc := fun (w : World) (C : Array Value) (n c g : Nat) (hg : g = w.heap.size) => Joins.run_convert_bytes_const_at (P := Try.prog) w 35 5 C n c g hg Try.underlying35 Try.underlying5
  have ka := fun (w : World) (a : Option Addr) (c : Nat) => run_arrayAt (P := Try.prog) (w := w) 78 5 16 a 16 c Try.underlying78 (by omega)
  go_enter Try.func43, Try.ntmps43
  go_wp2_with (first | (refine wpList_load_row rfl 78 (.tmp 3) rfl (w.heap.size + 1) rfl 5 hexA (16, 17) _ (heap_at (by simp)) Try.underlying78 rfl (by kernel_rfl) ?_) | (refine wpList_store_row rfl 78 (.tmp 0) (.tmp 4) rfl w.heap.size hexA rfl rfl 78 zero16 ?hh (by kernel_rfl) rfl hexA_one ?_))
  case hh => rw [heap_lt (by simp), heap_at rfl]; rfl
  exact bodyPost_ret (v := .agg hexA) (results_cell_row rfl _ _ w.heap.size 78 hexA (0, 0) _ rfl (setRow_heap _ _ zero16 _ _ _ (by rw [heap_lt (by simp), heap_at rfl]; rfl)) Try.underlying78 rfl (by kernel_rfl)) rfl ⟨rfl, by (repeat' (first | exact Below.refl _ _ | apply b_drew | apply b_drewN | apply b_set | apply b_setRow | apply b_alloc | (refine b_call (by assumption) ?_ ?_) | (refine b_grown (by assumption) ?_ ?_ ?_) | (exact Sl.blk (by assumption)) | omega | (simp; done) | (simp; omega)))⟩

set_option maxHeartbeats 2000000 in
theorem hex_any (s : ByteArray) (w : World) (hs : s.size ≤ 1000000000000) :
    Calls Try.prog 17 #[.string s] w fun e w' => e = .returned (.string ⟨(hexL s.data.toList).toArray⟩) ∧ Below w.heap.size w w' := by
  have C := hid (fun w => digits_any w)
  go_enter Try.func17, Try.ntmps17
  go_wp2_with (first | (go_at_call 43; refine (C.out _).mono ?_; rintro e w1 ⟨rfl, hb⟩; have hz := hb.size) | (refine wpList_store_arr rfl 78 (.tmp 3) (.tmp 6) rfl _ hexA rfl rfl 78 zero16 (heap_at rfl) (by kernel_rfl) rfl hexA_one ?_; intro w2 hrow hgr hz2))
  have hz2' : w2.heap.size = w1.heap.size + 1 := by rw [hz2]; simp
  have hb2 : Below w.heap.size w w2 := by (repeat' (first | exact Below.refl _ _ | apply b_drew | apply b_drewN | apply b_set | apply b_setRow | apply b_alloc | (refine b_call (by assumption) ?_ ?_) | (refine b_grown (by assumption) ?_ ?_ ?_) | (exact Sl.blk (by assumption)) | omega | (simp; done) | (simp; omega)))
  clear hgr hz2
  go_loopw [4, 9] (fun v i wr => ∃ (k : Nat) (ao : Option Addr) (cap : Nat), k ≤ s.size ∧ i = .int .i64 k ∧ v = .slice ao (2 * k) cap ∧ Sl wr w2.heap.size 5 1 ao (2 * k) cap (cellsOf (hexL (s.data.toList.take k))) ∧ Below w2.heap.size w2 wr) (fun _ i _ => s.size - (intOf i).toNat)
  case atStart => exact ⟨0, none, 0, Nat.zero_le _, rfl, rfl, Sl.nil _ _ _ _, Below.refl _ _⟩
  case round =>
    obtain ⟨k, ao, cap, hk, rfl, rfl, hsk, hbk⟩ := hrel
    have hbz := hbk.size
    by_cases hlt : k < s.size
    · have hkl : k < s.data.toList.length := by rw [szL]; exact hlt
      have HT : Hid (s.data.toList.take (k + 1) = s.data.toList.take k ++ [s[k]]) := by rw [← List.take_append_getElem hkl]; exact rfl
      obtain ⟨x, hx⟩ : ∃ x : UInt8, s[k]'hlt = x := ⟨_, rfl⟩
      have hx' : (s[k]'hlt).toNat = x.toNat := by rw [hx]
      have HX := hid hx
      have hx256 := x.toNat_lt
      obtain ⟨hi, hhi⟩ : ∃ hi : Nat, (x.toNat : Int) / 16 = (hi : Int) := ⟨x.toNat / 16, by omega⟩
      obtain ⟨lo, hlo⟩ : ∃ lo : Nat, bits .and .u8 (x.toNat : Int) 15 = (lo : Int) ∧ lo = x.toNat % 16 := ⟨x.toNat % 16, by rw [u8_and _ _ (by omega) (by omega) (by omega) (by omega)]; exact congrArg _ (nat_mask4 x.toNat), rfl⟩
      have hhi2 : hi = x.toNat / 16 := by omega
      have HHI := hid hhi2
      have HLO := hid hlo.2
      have hlo1 := hlo.1
      have b1 : (hi : Int) < 16 := by omega
      have b2 : (lo : Int) < 16 := by omega
      have b3 : (0 : Int) ≤ (hi : Int) := by omega
      have b4 : (0 : Int) ≤ (lo : Int) := by omega
      have b5 : (k : Int) < (s.size : Int) := by omega
      have b6 : (0 : Int) ≤ (k : Int) := by omega
      have hrow2 : wr.heap[w1.heap.size]? = some (.cells hexA 78 (0, 0)) := by rw [hbk.block _ (by omega), hrow]
      have d1 : wr.cell? ⟨w1.heap.size, hi, none⟩ = some (.int .u8 ((hexD hi).toNat : Int)) := by rw [cell_of_row wr _ _ _ _ _ hrow2]; exact hexA_get hi (by omega)
      have d2 : wr.cell? ⟨w1.heap.size, lo, none⟩ = some (.int .u8 ((hexD lo).toNat : Int)) := by rw [cell_of_row wr _ _ _ _ _ hrow2]; exact hexA_get lo (by omega)
      clear hx hlo hhi2 hrow2
      go_wp2_with fail
      go_region_held3 (fun w' => w'.cell? ⟨w1.heap.size, hi, none⟩ = some (.int .u8 ((hexD hi).toNat : Int)) ∧ w'.cell? ⟨w1.heap.size, lo, none⟩ = some (.int .u8 ((hexD lo).toNat : Int))) (first | go_keep | (go_split_ands; constructor <;> (rw [grown_cell ((hsk.alloc _).drew) hgr (by omega) (by simp; omega)]; assumption))) ((refine step_append (by rfl) _ _ 35 (by rfl) w2.heap.size 5 (.int .u8 0) 1 1 Try.infoU8 Try.underlying35 rfl (by omega) ao (2 * k) cap _ (by rfl) ((hsk.alloc _).drew) (some ⟨wr.heap.size, 0, none⟩) 2 2 [.int .u8 ((hexD hi).toNat : Int), .int .u8 ((hexD lo).toNat : Int)] (by rfl) (by rfl) (Rd.new wr _ _ _) (by simp) (by simp [Value.oneCell']) (by omega) (by unfold maxLen; omega) (by simp; omega) ?_; intro ao' cap' w3 hsl' hgr _))
      all_goals
        have HS := hid hsl'
        have hb3 : Below w2.heap.size w2 w3 := by (repeat' (first | exact Below.refl _ _ | apply b_drew | apply b_drewN | apply b_set | apply b_setRow | apply b_alloc | (refine b_call (by assumption) ?_ ?_) | (refine b_grown (by assumption) ?_ ?_ ?_) | (exact Sl.blk (by assumption)) | omega | (simp; done) | (simp; omega)))
        clear hsl' hgr
        go_wp2
        go_roundw
        case rel => exact ⟨k + 1, ao', cap', by omega, by go_num, rfl, by rw [HT.out, hexL_snoc, cellsOf_append, HX.out]; simp only [hexB, cellsOf, List.map_cons, List.map_nil, ← HHI.out, ← HLO.out]; exact HS.out, hb3⟩
        case measure => simp [intOf]; omega
    · have hks : k = s.size := by omega
      have HK := hid hks
      clear hks
      go_wp2_with (first | (refine wpList_string _ rfl (.tmp 28) _ _ _ rfl Try.underlying35 Try.underlying5 Try.underlying9 _ _ _ rfl (hexL (s.data.toList.take k)) (by rw [length_hexL, List.length_take, szL]; omega) hsk.rd ?_))
      go_ret
      exact ⟨ret1 (vstr (by rw [HK.out, ← szL, List.take_length])), by (repeat' (first | exact Below.refl _ _ | apply b_drew | apply b_drewN | apply b_set | apply b_setRow | apply b_alloc | (refine b_call (by assumption) ?_ ?_) | (refine b_grown (by assumption) ?_ ?_ ?_) | (exact Sl.blk (by assumption)) | omega | (simp; done) | (simp; omega)))⟩
end Go.Proofs.Ythaapjfnadfmgaa
