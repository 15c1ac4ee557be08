/-
  The engine, part D: an operation that writes nothing does what the engine says of it.
-/
import Derived.Test.YtafchcmemeinlaaDoorEngC
set_option linter.unusedSimpArgs false
set_option linter.unusedVariables false
namespace Go.Proofs.YtafchcmemeinlaaDoor
open Go.RowKit

theorem und_some {P : Program} {t : TypeId} {d : TypeDesc} (h : und P t = d) (hd : d ≠ .invalid) : P.underlying t = some d := by
  unfold und at h
  cases hu : P.underlying t with
  | none => rw [hu] at h; exact absurd h.symm hd
  | some x => rw [hu] at h; simpa using h

theorem knownT_iff {P : Program} {t : TypeId} (h : knownT P t = true) : (∃ i, P.info? t = some i) ∧ P.underlying t = some (und P t) := by
  unfold knownT at h
  simp only [Bool.and_eq_true, Option.isSome_iff_exists] at h
  refine ⟨h.1, ?_⟩
  obtain ⟨d, hd⟩ := h.2
  simp [und, hd]

section
variable {P : Program} {w : World}

theorem run_und {t : TypeId} {d : TypeDesc} (h : und P t = d) (hd : d ≠ .invalid) : (underlying t).run P w = .ok d w := run_underlying (und_some h hd) w

theorem run_size {t : TypeId} (h : knownT P t = true) : (sizeOf t).run P w = .ok (szT P t) w := by
  obtain ⟨⟨i, hi⟩, _⟩ := knownT_iff h
  simp [sizeOf, typeInfo, hi, szT, Program.cellsOf]

theorem run_isAgg {t : TypeId} (h : knownT P t = true) : (isAgg t).run P w = .ok (aggT P t) w := by
  obtain ⟨_, hd⟩ := knownT_iff h
  simp only [isAgg, Sem.run_bind, run_underlying hd, Result.andThen_ok, aggT]
  cases und P t <;> rfl

theorem execV {s : Sem Value} {v : Value} {w' : World} (h : s.run P w = .ok v w') : (do pure (Next.value (← s)) : Sem Next).run P w = .ok (.value v) w' := by
  simp [h]
end

theorem cur_iff {H : List Blk} {id tot : Nat} (h : cur H id tot = true) : ∃ b, H[id]? = some b ∧ b.cs.length = tot := by
  unfold cur at h
  split at h
  · rename_i b hb
    exact ⟨b, hb, Nat.eq_of_beq_eq_true h⟩
  · cases h

section
variable {gl : Nat → Option (List AV)} {m : M} {H : List Blk} {w : World}

/-- a pointer that is not stale -/
theorem HR.cur (hH : HR gl m H w) {id tot : Nat} (h : cur H id tot = true) {I : Inf} (hI : m.blk id = some I) : I.tot = tot := by
  obtain ⟨b, hb, e⟩ := cur_iff h
  rw [(hH.blk id I b hI hb).tot, e]

theorem HR.ptr (hH : HR gl m H w) {id tot off : Nat} {v : Value} (hv : VR m (.ptr id tot off) v) (h : Go.Proofs.YtafchcmemeinlaaDoor.cur H id tot = true) : ∃ I, m.blk id = some I ∧ I.tot = tot ∧ v = .pointer (some ⟨I.b, I.d + off, none⟩) := by
  simp only [VR] at hv
  obtain ⟨_, I, hI, h1, h2⟩ := hv
  have e := hH.cur h hI
  exact ⟨I, hI, e, h2 e.symm⟩

theorem HR.sl (hH : HR gl m H w) {id tot off len sz : Nat} {v : Value} (hv : VR m (.sl id tot off len sz) v) (h : Go.Proofs.YtafchcmemeinlaaDoor.cur H id tot = true) : ∃ I o cap, m.blk id = some I ∧ I.tot = tot ∧ v = .slice (some ⟨I.b, o, none⟩) len cap ∧ len ≤ cap ∧ ((o = I.d + off ∧ o + cap * sz ≤ I.lim) ∨ (len = 0 ∧ cap = 0)) := by
  simp only [VR] at hv
  obtain ⟨_, I, hI, h1, h2⟩ := hv
  have e := hH.cur h hI
  obtain ⟨o, cap, h3, h4, h5⟩ := h2 e.symm
  exact ⟨I, o, cap, hI, e, h3, h4, h5⟩

/-- what a block's cells hold -/
theorem HR.cells (hH : HR gl m H w) {id tot off n : Nat} (h : Go.Proofs.YtafchcmemeinlaaDoor.cur H id tot = true) {I : Inf} (hI : m.blk id = some I) (hn : off + n ≤ tot) :
    ∃ vs : List Value, vs.length = n ∧ (∀ j v, vs[j]? = some v → w.cell? ⟨I.b, I.d + off + j, none⟩ = some v) ∧ VRL m (cellsAt H id off n) vs := by
  obtain ⟨b, hb, e⟩ := cur_iff h
  have hB := hH.blk id I b hI hb
  obtain ⟨cu, el, lo, hi, h1, h2, h3, _, _, h6⟩ := hB.row
  have ht : I.tot = tot := by rw [hB.tot, e]
  refine ⟨(((cu.toList.drop I.d).take I.tot).drop off).take n, ?_, ?_, ?_⟩
  · simp; omega
  · intro j v hj
    rw [cell_of_row w I.b (I.d + off + j) cu el (lo, hi) h1]
    simp only [List.getElem?_take, List.getElem?_drop] at hj
    split at hj
    · split at hj
      · rw [← Array.getElem?_toList, ← hj]
        congr 1
        omega
      · cases hj
    · cases hj
  · simp only [cellsAt, hb]
    exact (h6.drop off).take n

theorem run_cells {P : Program} {w : World} {b o : Nat} (vs : List Value) (h : ∀ j v, vs[j]? = some v → w.cell? ⟨b, o + j, none⟩ = some v) :
    (loadCells ⟨b, o, none⟩ vs.length).run P w = .ok vs.toArray w :=
  run_loadCells_list w _ vs (fun j v hj => by rw [Addr.add_lit]; exact h j v hj)

theorem run_loadVar {P : Program} {t : TypeId} (ht : knownT P t = true) (b o : Nat) (vs : List Value) (h : ∀ j v, vs[j]? = some v → w.cell? ⟨b, o + j, none⟩ = some v)
    (hn : vs.length = if aggT P t then szT P t else 1) : ∃ v, (loadVar t ⟨b, o, none⟩).run P w = .ok v w ∧ (if aggT P t then v = .agg vs.toArray else vs = [v]) := by
  by_cases ha : aggT P t = true
  · simp only [ha, if_true] at hn ⊢
    refine ⟨.agg vs.toArray, ?_, rfl⟩
    simp only [loadVar, Sem.run_bind, run_isAgg ht, Result.andThen_ok, ha, if_true, run_size ht]
    rw [← hn, run_cells vs h]
    rfl
  · have ha' : aggT P t = false := by simpa using ha
    simp only [ha', if_false, Bool.false_eq_true] at hn ⊢
    match vs, hn with
    | [v], _ =>
      refine ⟨v, ?_, rfl⟩
      have hc := h 0 v rfl
      simp only [Nat.add_zero] at hc
      simp [loadVar, run_isAgg ht, ha', hc]
end

theorem cellsO_agg {a : AV} {l : List AV} (h : cellsO a = some l) {m : M} {v : Value} (hv : VR m a v) : VRL m l v.cells.toList := by
  cases a <;> simp only [cellsO] at h
  case undef => cases h
  case tup => cases h
  case agg cs =>
    cases h
    simp only [VR] at hv
    obtain ⟨x, rfl, hx⟩ := hv
    exact hx
  all_goals
    cases h
    have hv' := hv
    simp only [VR] at hv
    have e : v.cells = #[v] := by
      first
        | (subst hv; rfl)
        | (obtain ⟨h1, _⟩ := hv; cases v <;> first | rfl | (simp [Value.oneCell'] at h1; done))
        | (obtain ⟨_, h1⟩ := hv; cases v <;> first | rfl | (simp [Value.oneCell'] at h1; done))
        | (obtain ⟨_, _, rfl, _⟩ := hv; rfl)
        | (obtain ⟨_, rfl, _⟩ := hv; rfl)
    rw [e]
    exact VRL.one hv'

theorem one_of {a : AV} (h : one a = true) {m : M} {v : Value} (hv : VR m a v) : v.oneCell' = true := by
  cases a <;> simp only [one] at h <;> (try cases h) <;> simp only [VR] at hv
  all_goals first
    | (subst hv; rfl)
    | (exact hv.1)
    | (exact hv.2)
    | (obtain ⟨_, _, rfl, _⟩ := hv; rfl)
    | (obtain ⟨_, rfl, _⟩ := hv; rfl)

theorem oneL_of : ∀ {l : List AV} (_ : oneL l = true) {m : M} {vs : List Value} (_ : VRL m l vs), ∀ v ∈ vs, v.oneCell' = true
  | [], _, m, vs, h => by
    rw [VRL_nil] at h
    subst h
    simp
  | a :: l, h, m, vs, hv => by
    simp only [oneL, Bool.and_eq_true] at h
    obtain ⟨v, vs', rfl, h1, h2⟩ := VRL_consL hv
    intro x hx
    rcases List.mem_cons.1 hx with rfl | hx
    · exact one_of h.1 h1
    · exact oneL_of h.2 h2 x hx

/-- constants -/
theorem ofV_ok (m : M) : ∀ (d : Nat) (v : Value), VR m (ofV d v) v
  | 0, v => by
    cases v <;> try (simp [ofV, VR]; done)
    case pointer a => cases a <;> simp [ofV, VR]
    case slice a l c => rcases a with _ | a <;> rcases l with _ | l <;> rcases c with _ | c <;> simp [ofV, VR]
  | d + 1, v => by
    have hl : ∀ l : List Value, VRL m (l.map (ofV d)) l := by
      intro l
      induction l with
      | nil => simp
      | cons x xs ih => simp only [List.map_cons, VRL_cons]; exact ⟨ofV_ok m d x, ih⟩
    cases v <;> try (simp [ofV, VR]; done)
    case pointer a => cases a <;> simp [ofV, VR]
    case slice a l c => rcases a with _ | a <;> rcases l with _ | l <;> rcases c with _ | c <;> simp [ofV, VR]
    case agg cs => simp only [ofV, VR]; exact ⟨cs, rfl, hl _⟩
    case tuple cs => simp only [ofV, VR]; exact ⟨cs, rfl, hl _⟩

/-- the block that an operation makes -/
structure NewB (m : M) (nb : Blk) (I : Inf) (w w' : World) : Prop where
  os : w'.os = w.os
  tape : w'.tape = w.tape
  output : w'.output = w.output
  lf : nb.lf = true → oldL 0 nb.cs = true
  tot : I.tot = nb.cs.length
  b : I.b = w.heap.size
  d : I.d = 0
  row : ∃ cu e lo hi, w'.heap = w.heap.push (.cells cu e (lo, hi)) ∧ I.tot ≤ I.lim ∧ I.lim ≤ cu.size ∧ (nb.k = .exact → I.lim = I.tot) ∧ nb.k ≠ .ro ∧ Mk lo hi cu.size ∧ VRL m nb.cs (cu.toList.take I.tot)

def LopOk (P : Program) (m : M) (w : World) (ρ : Operand → Value) (o : Oper) (nid : Nat) (r : LR) : Prop :=
  (r.nb = none ∧ ∃ v, (execOp ρ o).run P w = .ok (.value v) w ∧ VR m r.v v) ∨
  (∃ nb v w' I, r.nb = some nb ∧ (execOp ρ o).run P w = .ok (.value v) w' ∧ NewB m nb I w w' ∧ ∀ m', m'.blk nid = some I → VR m' r.v v)

/-- a block that is made whole -/
theorem newB_exact {m : M} {cs : List AV} {vs : Array Value} (h : VRL m cs vs.toList) (w : World) (e : TypeId) (k : BK) (hk : k ≠ .ro) :
    NewB m (mkBlk k cs) ⟨w.heap.size, 0, cs.length, cs.length⟩ w (w.alloc (.cells vs e)) := by
  have hl : cs.length = vs.size := by simpa using h.len
  refine ⟨rfl, rfl, rfl, id, rfl, rfl, rfl, vs, e, 0, 0, rfl, Nat.le_refl _, by simp [hl], fun _ => rfl, hk, .inl rfl, ?_⟩
  simp only [mkBlk, hl]
  rw [List.take_of_length_le (by simp)]
  exact h
end Go.Proofs.YtafchcmemeinlaaDoor
