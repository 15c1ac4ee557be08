/-
  The engine, part G: operations that make blocks, and conversions.
-/
import Derived.Test.YtafchcmemeinlaaDoorEngF
set_option linter.unusedSimpArgs false
set_option linter.unusedVariables false
namespace Go.Proofs.YtafchcmemeinlaaDoor
open Go.RowKit

section
variable {P : Program} {gl : Nat → Option (List AV)} {m : M} {H : List Blk} {w : World} {ρ : Operand → Value} {ev : AO → AV}

theorem zero_ok {t : TypeId} (hz : cellsO (zeroT P t) ≠ none) : ∃ i z, P.info? t = some i ∧ i.zero = some z ∧ VR m (zeroT P t) z ∧ (zeroValue t).run P w = .ok z w := by
  unfold zeroT at hz ⊢
  cases hi : P.info? t with
  | none => rw [hi] at hz; exact absurd rfl hz
  | some i =>
    rw [hi] at hz
    cases hzz : i.zero with
    | none => simp only [hzz] at hz; exact absurd rfl hz
    | some z =>
      simp only [hzz]
      exact ⟨i, z, rfl, hzz, ofV_ok m 4 z, by simp [zeroValue, typeInfo, hi, hzz]⟩

theorem zeroC_ok {t : TypeId} (h : 0 < (zeroC P t).length) : ∃ i z, P.info? t = some i ∧ i.zero = some z ∧ VRL m (zeroC P t) z.cells.toList ∧ (zeroValue t).run P w = .ok z w := by
  unfold zeroC at h ⊢
  cases hc : cellsO (zeroT P t) with
  | none => rw [hc] at h; simp at h
  | some l =>
    obtain ⟨i, z, h1, h2, h3, h4⟩ := zero_ok (P := P) (m := m) (w := w) (t := t) (by rw [hc]; simp)
    exact ⟨i, z, h1, h2, by simpa [hc] using cellsO_agg hc h3, h4⟩

theorem lop_box (hρ : ∀ x, VR m (ev (cO x)) (ρ x)) {o : Oper} {t : TypeId} {x : Operand} (ho : o.op = .box t x) (nid : Nat) {r : LR} {cu ca}
    (h : lop gl ev cu ca nid (cOp P o.op) = some r) : LopOk P m w ρ o nid r := by
  rw [ho] at h
  simp only [cOp, lop] at h
  split at h
  · rename_i cs hc
    cases h
    have hv := cellsO_agg hc (hρ x)
    refine .inr ⟨_, .pointer (some ⟨w.heap.size, 0, none⟩), _, ⟨w.heap.size, 0, cs.length, cs.length⟩, rfl, ?_, newB_exact hv w t .exact (by simp), fun m' hm' => ?_⟩
    · simp only [execOp, ho]
      exact execV (by simp [Instr.box, newVar, newRow])
    · simp only [VR]
      exact ⟨rfl, _, hm', Nat.le_refl _, fun _ => rfl⟩
  · cases h

theorem lop_alloc {o : Oper} {t : TypeId} (ho : o.op = .alloc t) (nid : Nat) {r : LR} {cu ca} (hev : ∀ v, ev (.c v) = v)
    (h : lop gl ev cu ca nid (cOp P o.op) = some r) : LopOk P m w ρ o nid r := by
  rw [ho] at h
  simp only [cOp, lop, hev] at h
  split at h
  · rename_i cs hc
    cases h
    obtain ⟨i, z, h1, h2, h3, h4⟩ := zero_ok (P := P) (m := m) (w := w) (t := t) (by rw [hc]; simp)
    have hv := cellsO_agg hc h3
    refine .inr ⟨_, .pointer (some ⟨w.heap.size, 0, none⟩), _, ⟨w.heap.size, 0, cs.length, cs.length⟩, rfl, ?_, newB_exact hv w t .exact (by simp), fun m' hm' => ?_⟩
    · simp only [execOp, ho]
      exact execV (by simp [Instr.alloc, h4, newVar, newRow])
    · simp only [VR]
      exact ⟨rfl, _, hm', Nat.le_refl _, fun _ => rfl⟩
  · cases h

theorem foldl_set (off : Nat) : ∀ (l : List Value) (k : Nat) (cells : Array Value), off + k + l.length ≤ cells.size →
    ((l.zipIdx k).foldl (fun cs (p : Value × Nat) => cs.setIfInBounds (off + p.2) p.1) cells).toList = cells.toList.take (off + k) ++ l ++ cells.toList.drop (off + k + l.length)
  | [], k, cells, h => by simp
  | v :: l, k, cells, h => by
    simp only [List.zipIdx_cons, List.foldl_cons]
    rw [foldl_set off l (k + 1) _ (by simp at h ⊢; omega)]
    have e := list_seg_step cells.toList (off + k) v l (by simp at h ⊢; omega)
    simpa [Array.toList_setIfInBounds, Nat.add_assoc, Nat.add_comm, Nat.add_left_comm] using e

theorem fill_ok (hρ : ∀ x, VR m (ev (cO x)) (ρ x)) (place : Nat → Option (Nat × Nat)) (g : Nat × Operand → Nat × Nat × AO) : ∀ (ps : List (Nat × Operand)) (cs : List AV) (cells : Array Value) (r : List AV) (b : Bool),
    (∀ p ∈ ps, place p.1 = some ((g p).1, (g p).2.1) ∧ (g p).2.2 = cO p.2) → VRL m cs cells.toList → fillP ev cs (ps.map g) = some (b, r) → b = true →
    ∃ cells', Instr.fill place cells (ps.map fun p => (p.1, ρ p.2)) = some cells' ∧ VRL m r cells'.toList
  | [], cs, cells, r, b, _, hc, h, _ => by
    simp only [List.map_nil, fillP, Option.some.injEq, Prod.mk.injEq] at h
    obtain ⟨_, rfl⟩ := h
    exact ⟨cells, by simp [Instr.fill], hc⟩
  | p :: ps, cs, cells, r, b, hp, hc, h, hb => by
    obtain ⟨hpl, hgo⟩ := hp p (by simp)
    simp only [List.map_cons, fillP, hgo] at h
    cases hcv : cellsO (ev (cO p.2)) with
    | none => simp [hcv] at h
    | some l =>
      simp only [hcv] at h
      cases hf : fillP ev (setRange cs (g p).1 l) (ps.map g) with
      | none => simp [hf] at h
      | some br =>
        obtain ⟨b', r'⟩ := br
        simp only [hf, Option.some.injEq, Prod.mk.injEq] at h
        obtain ⟨rfl, rfl⟩ := h
        simp only [Bool.and_eq_true, nbeq, Nat.ble_eq] at hb
        obtain ⟨⟨hb1, hb2⟩, hb3⟩ := hb
        have hv := cellsO_agg hcv (hρ p.2)
        have hlen : l.length = (ρ p.2).cells.size := by simpa using hv.len
        have hcl : cs.length = cells.size := by simpa using hc.len
        have hset := foldl_set (g p).1 (ρ p.2).cells.toList 0 cells (by simp; omega)
        obtain ⟨cells', h1, h2⟩ := fill_ok hρ place g ps (setRange cs (g p).1 l) ((ρ p.2).cells.zipIdx.foldl (fun cs (q : Value × Nat) => cs.setIfInBounds ((g p).1 + q.2) q.1) cells) r' b'
          (fun q hq => hp q (by simp [hq])) (by
            rw [← Array.foldl_toList, Array.toList_zipIdx, hset]
            simp only [setRange, Nat.add_zero]
            refine VRL.append (VRL.append (hc.take _) hv) ?_
            rw [show (g p).1 + l.length = (g p).1 + (ρ p.2).cells.toList.length by simp [hlen]]
            exact hc.drop _) hf hb1
        refine ⟨cells', ?_, h2⟩
        have hb2 : l.length = (g p).2.1 := hb2
        have hb3 : (g p).1 + (g p).2.1 ≤ cs.length := hb3
        have hn : ¬ ((ρ p.2).cells.size ≠ (g p).2.1 ∨ cells.size < (g p).1 + (ρ p.2).cells.size) := by omega
        simp only [List.map_cons, Instr.fill, hpl]
        rw [if_neg (by simpa using hn)]
        exact h1

theorem run_places {P : Program} {w : World} (fs : Array Field) (h : ∀ f ∈ fs.toList, knownT P f.type = true) :
    (fs.mapM fun (f : Field) => (do pure (f.offset, ← sizeOf f.type) : Sem (Nat × Nat))).run P w = .ok (fs.map fun (f : Field) => (f.offset, szT P f.type)) w := by
  have key : ∀ l : List Field, (∀ f ∈ l, knownT P f.type = true) → (l.mapM fun (f : Field) => (do pure (f.offset, ← sizeOf f.type) : Sem (Nat × Nat))).run P w = .ok (l.map fun (f : Field) => (f.offset, szT P f.type)) w := by
    intro l
    induction l with
    | nil => intro _; simp
    | cons f l ih =>
      intro hl
      have h1 := ih fun x hx => hl x (by simp [hx])
      rw [List.mapM_cons]
      simp only [Sem.run_bind, run_size (hl f (by simp)), Result.andThen_ok, Sem.run_pure, h1, List.map_cons]
  rw [Array.mapM_eq_mapM_toList]
  have hk := key fs.toList h
  show ((fs.toList.mapM fun (f : Field) => (do pure (f.offset, ← sizeOf f.type) : Sem (Nat × Nat))) >>= fun a => pure (List.toArray a)).run P w = _
  rw [Sem.run_bind, hk]
  simp only [Result.andThen_ok, Sem.run_pure]
  congr 1
  apply Array.ext'
  simp

end
end Go.Proofs.YtafchcmemeinlaaDoor
