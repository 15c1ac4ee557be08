/-
  Contract of octets.digits.
-/
import Derived.Test.YtlfbaakndklncaaLib
import Derived.Test.YtlfbaakndklncaaLib2
import Derived.Deep.RegionHeld3
import Derived.Lib.SmallJoins
namespace Go.Proofs.Ytlfbaakndklncaa
open Go.RowKit

theorem Try.infoU8 : (Try.prog.info? 5).map (fun i => (i.zero, i.size, i.bytes)) = some (some (.int .u8 0), 1, 1) := by kernel_rfl

theorem hexA_one : hexA.all (·.oneCell') = true := by simp [hexA, Value.oneCell']
def zero16 : Array Value := (List.replicate 16 (Value.int .u8 0)).toArray

set_option maxHeartbeats 1000000 in
theorem digits_any (w : World) :
    Calls Try.prog 54 #[] w fun e w' => e = .returned (.agg hexA) ∧ Below w.heap.size w w' := by
  have kc := fun (w : World) (C : Array Value) (n c g : Nat) (hg : g = w.heap.size) => Joins.run_convert_bytes_const_at (P := Try.prog) w 25 5 C n c g hg Try.underlying25 Try.underlying5
  have ka := fun (w : World) (a : Option Addr) (c : Nat) => run_arrayAt (P := Try.prog) (w := w) 87 5 16 a 16 c Try.underlying87 (by omega)
  go_enter Try.func54, Try.ntmps54
  go_wp2_with (first | (refine wpList_load_row rfl 87 (.tmp 3) rfl (w.heap.size + 1) rfl 5 hexA (16, 17) _ (heap_at (by simp)) Try.underlying87 rfl (by kernel_rfl) ?_) | (refine wpList_store_row rfl 87 (.tmp 0) (.tmp 4) rfl w.heap.size hexA rfl rfl 87 zero16 ?hh (by kernel_rfl) rfl hexA_one ?_))
  case hh => rw [heap_lt (by simp), heap_at rfl]; rfl
  exact bodyPost_ret (v := .agg hexA) (results_cell_row rfl _ _ w.heap.size 87 hexA (0, 0) _ rfl (setRow_heap _ _ zero16 _ _ _ (by rw [heap_lt (by simp), heap_at rfl]; rfl)) Try.underlying87 rfl (by kernel_rfl)) rfl ⟨rfl, by (repeat' (first | exact Below.refl _ _ | apply b_drew | apply b_drewN | apply b_set | apply b_setRow | apply b_alloc | (refine b_call (by assumption) ?_ ?_) | (refine b_grown (by assumption) ?_ ?_ ?_) | (exact Sl.blk (by assumption)) | omega | (simp; done) | (simp; omega)))⟩
end Go.Proofs.Ytlfbaakndklncaa
