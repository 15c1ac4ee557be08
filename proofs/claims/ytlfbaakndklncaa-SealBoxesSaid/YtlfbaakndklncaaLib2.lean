/-
  The library, more: append as one step of a region that draws its order; hexadecimal digits.
-/
import Derived.Test.YtlfbaakndklncaaLib
namespace Go.Proofs.Ytlfbaakndklncaa
open Go.RowKit

theorem heap_at {w : World} {o : Obj} {g : Nat} (h : g = w.heap.size) : (w.alloc o).heap[g]? = some o := by subst h; exact heap_alloc_new w o
theorem heap_lt {w : World} {o : Obj} {g : Nat} (h : g < w.heap.size) : (w.alloc o).heap[g]? = w.heap[g]? := Below.heap_alloc w o g h
theorem b_setRow {B : Nat} {a w : World} {g : Nat} {cs : Array Value} (hp : B ≤ g) (h : Below B a w) : Below B a (w.setRow g cs) :=
  h.trans ⟨rfl, rfl, rfl, by simp [World.setRow], fun k hk => setRow_other w g k cs (by omega)⟩
/-! ### hexadecimal digits -/
def hexD (j : Nat) : UInt8 := if j < 10 then UInt8.ofNat (48 + j) else UInt8.ofNat (87 + j)
def hexA : Array Value := #[.int .u8 48, .int .u8 49, .int .u8 50, .int .u8 51, .int .u8 52, .int .u8 53, .int .u8 54, .int .u8 55, .int .u8 56, .int .u8 57, .int .u8 97, .int .u8 98, .int .u8 99, .int .u8 100, .int .u8 101, .int .u8 102]
end Go.Proofs.Ytlfbaakndklncaa
