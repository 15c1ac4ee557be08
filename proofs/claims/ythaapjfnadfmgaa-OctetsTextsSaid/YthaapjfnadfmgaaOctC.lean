/-
  Contracts of octets.Put and octets.Pad.
-/
import Derived.Test.YthaapjfnadfmgaaOctA
namespace Go.Proofs.Ythaapjfnadfmgaa
open Go.RowKit


theorem Try.infoU8 : (Try.prog.info? 5).map (fun i => (i.zero, i.size, i.bytes)) = some (some (.int .u8 0), 1, 1) := by kernel_rfl

def putR (n v : Int) : List UInt8 × Int :=
  if n < 1 ∨ 7 < n ∨ v < 0 then ([], 2) else if 256 ^ n.toNat ≤ v then ([], 6) else (be n.toNat v.toNat, 0)

/-- a row that is being filled -/
def filled (L : List Value) (k : Nat) (z : Value) : List Value := L.take k ++ List.replicate (L.length - k) z
theorem filled_zero (L : List Value) (z : Value) : filled L 0 z = List.replicate L.length z := by simp [filled]
theorem filled_all (L : List Value) (k : Nat) (h : L.length ≤ k) (z : Value) : filled L k z = L := by simp [filled, List.take_of_length_le h, show L.length - k = 0 by omega]
theorem filled_set (L : List Value) (k : Nat) (z u : Value) (hk : k < L.length) (hu : u = L[k]) : (filled L k z).set k u = filled L (k + 1) z := by
  subst hu
  unfold filled
  rw [List.set_append_right _ _ (by simp; omega)]
  have e1 : k - (L.take k).length = 0 := by rw [List.length_take]; omega
  rw [e1, show L.length - k = (L.length - (k + 1)) + 1 by omega, List.replicate_succ, List.set_cons_zero, ← List.take_append_getElem hk, List.append_assoc]
  rfl

theorem pow_8 (n : Nat) : (2 : Nat) ^ (8 * n) = 256 ^ n := by rw [Nat.pow_mul]
theorem pow_8i (n : Nat) : (2 : Int) ^ (8 * n) = ((256 ^ n : Nat) : Int) := by rw [← pow_8, Int.natCast_pow]; rfl

theorem be_cell (n v k : Nat) (hk : k < n) : (Value.int .u8 ((v : Int) / 2 ^ (8 * (n - 1 - k)) % 256)) = (cellsOf (be n v))[k]'(by simpa using hk) := by
  have h := be_get n v k hk
  obtain ⟨h1, h2⟩ := List.getElem?_eq_some_iff.1 h
  simp only [cellsOf, List.getElem_map, h2]
  congr 1
  rw [pow_8i, ← Int.natCast_ediv]
  have : (v / 256 ^ (n - 1 - k)) % 256 < 256 := Nat.mod_lt _ (by omega)
  simp

set_option maxHeartbeats 1000000 in
theorem put_ok (n v : Nat) (w : World) (h1 : 1 ≤ n) (h2 : n ≤ 7) (hv : v < 256 ^ n) :
    Calls Try.prog 10 #[.int .i64 n, .int .i64 v] w fun e w' => e = .returned (.tuple #[.string ⟨(be n v).toArray⟩, .int .i64 0]) ∧ Below w.heap.size w w' := by
  have hv0 : ((v : Int) / 2 ^ (8 * n) != 0) = false := by
    rw [pow_8i, ← Int.natCast_ediv, Nat.div_eq_of_lt hv]; rfl
  go_enter Try.func10, Try.ntmps10
  go_wp2_with (first | (refine wpList_make _ rfl (.tmp 25) (.tmp 25) _ rfl w.heap.size _ (.int .u8 0) 1 1 Try.infoU8 Try.underlying35 _ _ _ _ n rfl rfl rfl rfl (by omega) (by unfold maxLen; omega) (Nat.le_refl _) ?_; intro w1 hsl hb hz))
  have hL : (cellsOf (be n v)).length = n := by simp
  have hsl' : Sl w1 w.heap.size 5 1 (some ⟨w.heap.size, 0, none⟩) n n (filled (cellsOf (be n v)) 0 (.int .u8 0)) := by
    rw [filled_zero, hL]; rw [Nat.mul_one] at hsl; rw [show Value.cells (.int .u8 0) = #[.int .u8 0] from rfl, toList_madeCells_one] at hsl; exact hsl
  clear hsl
  go_loopw [29] (fun i wr => ∃ k : Nat, k ≤ n ∧ i = .int .i64 k ∧ Sl wr w.heap.size 5 1 (some ⟨w.heap.size, 0, none⟩) n n (filled (cellsOf (be n v)) k (.int .u8 0)) ∧ Below w.heap.size w wr) (fun i _ => n - (intOf i).toNat)
  case atStart => exact ⟨0, Nat.zero_le _, rfl, hsl', hb⟩
  case round =>
    obtain ⟨k, hk, rfl, hsk, hbk⟩ := hrel
    by_cases hlt : k < n
    · have hfz := hsk.frozen k (by omega)
      obtain ⟨g, off, e1, _, hcell⟩ := hsk.rd.cell (j := k) (by simp [filled]; omega)
      cases e1
      simp only [Nat.zero_add] at hcell hfz
      obtain ⟨x, hx⟩ : ∃ x, x = (filled (cellsOf (be n v)) k (.int .u8 0)).getD k undef := ⟨_, rfl⟩
      rw [← hx] at hcell
      clear hx
      have hst := hsk.store k (.int .u8 ((v : Int) / 2 ^ (8 * (n - 1 - k)) % 256))
      rw [filled_set _ _ _ _ (by simp; omega) (be_cell n v k hlt)] at hst
      simp only [Nat.zero_add] at hst
      have HST := hid hst
      clear hst
      go_wp2
      go_roundw
      case rel => exact ⟨k + 1, by omega, by go_num, HST.out, by (repeat' (first | exact Below.refl _ _ | apply b_drew | apply b_drewN | apply b_set | apply b_alloc | (refine b_call (by assumption) ?_ ?_) | (refine b_grown (by assumption) ?_ ?_ ?_) | (exact Sl.blk (by assumption)) | omega | (simp; done) | (simp; omega)))⟩
      case measure => simp [intOf]; omega
    · go_wp2_with (first | (refine wpList_string _ rfl (.tmp 44) _ _ _ rfl Try.underlying35 Try.underlying5 Try.underlying9 _ _ _ rfl (be n v) (by simp) ?hrd ?_))
      case hrd => rw [filled_all _ _ (by simp; omega)] at hsk; exact hsk.rd
      go_ret2
      exact ⟨rfl, hbk⟩
end Go.Proofs.Ythaapjfnadfmgaa
