/-
  The library, more: an element of an array value, by whatever index.
-/
import Derived.Test.YthaapjfnadfmgaaLib2
namespace Go.Proofs.Ythaapjfnadfmgaa
open Go.RowKit

def isAggD : TypeDesc → Bool | .struct _ | .array _ _ => true | _ => false

section
variable {P : Program} {ops : Array Oper} {rest : List Oper} {o : Oper} {a : Act} {w : World} {Q : Exit → Act → World → Prop}

/-- an element of one cell; of the element only this is told: that it has the property that all elements have -/
theorem wpList_index1 (hg : o.guard = none) (x i : Operand) (t e : TypeId) (n : Nat) (ho : o.op = .index t x i) (hu : P.underlying t = some (.array n e)) (d : TypeDesc) (he : P.underlying e = some d)
    (hd : isAggD d = false) (hsz : (P.info? e).map (·.size) = some 1) (cs : Array Value) (hx : a.eval x = .agg cs) (k : Nat) (kk : IntKind) (hi : a.eval i = .int kk k) (hk : k < n)
    (Pr : Value → Prop) (hall : ∀ j, j < n → ∃ v, cs[j]? = some v ∧ Pr v) (h : ∀ v, Pr v → wpList P ops Q rest (a.put o.dst v) w) : wpList P ops Q (o :: rest) a w := by
  refine wpList_plain hg fun K hK => ?_
  obtain ⟨v, hv, hp⟩ := hall k hk
  have hrun : (Instr.index t (a.eval x) (a.eval i)).run P w = .ok v w := by
    rw [hx, hi]
    have hlt : (k : Int) < (n : Int) := by omega
    cases hq : P.info? e with
    | none => simp [hq] at hsz
    | some inf =>
      have hs1 : inf.size = 1 := by simpa [hq] using hsz
      have hisagg : (isAgg e).run P w = .ok false w := by
        unfold isAgg
        simp only [Sem.run_bind, run_underlying he, Result.andThen]
        cases d <;> first | rfl | simp [isAggD] at hd
      simp [Instr.index, asIntOf, run_underlying hu, hlt, part, hisagg, sizeOf, typeInfo, hq, hs1, hv]
      intro hh; omega
  unfold Oper.wp
  simp [execOp, ho, hrun, Result.andThen]
  exact hK _ _ (h v hp)

/-- an element that is itself a struct or an array -/
theorem wpList_indexN (hg : o.guard = none) (x i : Operand) (t e : TypeId) (n size : Nat) (ho : o.op = .index t x i) (hu : P.underlying t = some (.array n e)) (d : TypeDesc) (he : P.underlying e = some d)
    (hd : isAggD d = true) (hsz : (P.info? e).map (·.size) = some size) (cs : Array Value) (hx : a.eval x = .agg cs) (k : Nat) (kk : IntKind) (hi : a.eval i = .int kk k) (hk : k < n)
    (Pr : Array Value → Prop) (hall : ∀ j, j < n → Pr (cs.extract (j * size) (j * size + size))) (h : ∀ v, Pr v → wpList P ops Q rest (a.put o.dst (.agg v)) w) : wpList P ops Q (o :: rest) a w := by
  refine wpList_plain hg fun K hK => ?_
  have hrun : (Instr.index t (a.eval x) (a.eval i)).run P w = .ok (.agg (cs.extract (k * size) (k * size + size))) w := by
    rw [hx, hi]
    have hlt : (k : Int) < (n : Int) := by omega
    cases hq : P.info? e with
    | none => simp [hq] at hsz
    | some inf =>
      have hs1 : inf.size = size := by simpa [hq] using hsz
      have hisagg : (isAgg e).run P w = .ok true w := by
        unfold isAgg
        simp only [Sem.run_bind, run_underlying he, Result.andThen]
        cases d <;> first | rfl | simp [isAggD] at hd
      simp [Instr.index, asIntOf, run_underlying hu, hlt, part, hisagg, sizeOf, typeInfo, hq, hs1]
      intro hh; omega
  unfold Oper.wp
  simp [execOp, ho, hrun, Result.andThen]
  exact hK _ _ (h _ (hall k hk))
end

/-- '[]byte(s)' of a string that is known as a list of octets -/
theorem wpList_bytesL {P : Program} (w : World) {ops : Array Oper} {rest : List Oper} {o : Oper} {a : Act} {Q : Exit → Act → World → Prop}
    (hg : o.guard = none) (x : Operand) (src dst e : TypeId) (hop : o.op = Op.convert src dst x) (hs : P.underlying src = some .string) (hd : P.underlying dst = some (.slice e)) (he : P.underlying e = some (.int .u8))
    (base : Nat) (l : List UInt8) (hx : a.eval x = .string ⟨l.toArray⟩) (hl : l.length ≤ maxLen) (hb : base ≤ w.heap.size)
    (hK : ∀ w' cap, Sl w' base e 1 (some ⟨w.heap.size, 0, none⟩) l.length cap (cellsOf l) → Below w.heap.size w w' → w'.heap.size = w.heap.size + 1 → wpList P ops Q rest (a.put o.dst (.slice (some ⟨w.heap.size, 0, none⟩) l.length cap)) w') : wpList P ops Q (o :: rest) a w := by
  have e1 : (⟨l.toArray⟩ : ByteArray).size = l.length := by simp [ByteArray.size]
  refine wpList_bytes w hg x src dst e hop hs hd he base ⟨l.toArray⟩ hx (by rw [e1]; exact hl) hb fun w' cap h1 h2 h3 => ?_
  rw [e1] at h1 ⊢
  exact hK w' cap (by simpa using h1) h2 h3

end Go.Proofs.Ythaapjfnadfmgaa
