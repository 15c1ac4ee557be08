/-
  The engine, part K: append, copy, store: every operation that writes.
-/
import Derived.Test.YtafchcmemeinlaaDoorEngJ
set_option linter.unusedSimpArgs false
set_option linter.unusedVariables false
namespace Go.Proofs.YtafchcmemeinlaaDoor
open Go.RowKit

section
variable {P : Program} {gl : Nat → Option (List AV)} {m : M} {H : List Blk} {w : World} {ρ : Operand → Value} {ev : AO → AV}

theorem ofBytes_VRL (b : List UInt8) : VRL m (ofBytes b) (b.map fun c => Value.int .u8 (c.toNat : Int)) := by
  induction b with
  | nil => simp [ofBytes]
  | cons c b ih => simp only [ofBytes, List.map_cons, VRL_cons]; exact ⟨by simp [VR], ih⟩

/-- what an append or a copy takes -/
theorem src_ok (hH : HR gl m H w) {y : AV} {y' : Value} (hv : VR m y y') {size k : Nat} {b : Bool} {vs : List AV} (h : src H size y = some (b, k, vs)) (hb : b = true) :
    ∃ news : List Value, VRL m vs news ∧ news.length = k * size ∧ (∀ w1 : World, (Builtin.lenOf y').run P w1 = .ok k w1) ∧
      ∀ n, n ≤ k → ∀ w1 : World, w1.heap = w.heap → (Builtin.firstCells size n y').run P w1 = .ok (news.take (n * size)).toArray w1 := by
  cases y <;> simp only [src] at h <;> try cases h
  · rename_i s
    simp only [VR] at hv
    subst hv
    rw [nbeq] at hb
    subst hb
    refine ⟨_, ofBytes_VRL s, by simp, fun w1 => by simp [Builtin.lenOf, size_mk], fun n hn w1 _ => ?_⟩
    simp only [Builtin.firstCells, Nat.mul_one]
    rw [extract_mk]
    simp [List.map_take]
  · simp only [VR] at hv
    subst hv
    exact ⟨[], by simp, by simp, fun w1 => by simp [Builtin.lenOf], fun n hn w1 _ => by simp [Builtin.firstCells]⟩
  · rename_i id tot off sz
    simp only [Bool.and_eq_true, nbeq, Nat.ble_eq] at hb
    obtain ⟨⟨hc, rfl⟩, hle⟩ := hb
    obtain ⟨I, o2, cap, hI, hIt, rfl, hcap, hpos⟩ := hH.sl hv hc
    obtain ⟨us, v1, v2, v3⟩ := hH.cells (n := k * sz) hc hI hle
    refine ⟨us, v3, v1, fun w1 => by simp [Builtin.lenOf], fun n hn w1 hw1 => ?_⟩
    simp only [Builtin.firstCells]
    rcases hpos with ⟨rfl, _⟩ | ⟨rfl, _⟩
    · have hl : (us.take (n * sz)).length = n * sz := by
        have := Nat.mul_le_mul_right sz hn
        simp; omega
      rw [← hl]
      have := run_cells (P := P) (w := w1) (b := I.b) (o := I.d + off) (us.take (n * sz)) (by
        intro j v hj
        have e : w1.cell? ⟨I.b, I.d + off + j, none⟩ = w.cell? ⟨I.b, I.d + off + j, none⟩ := by simp [World.cell?, hw1]
        rw [e]
        simp only [List.getElem?_take] at hj
        split at hj
        · exact v2 j v hj
        · cases hj)
      rw [this, hl]
    · have hn0 : n = 0 := by omega
      subst hn0
      simp [loadCells, loadCellsFrom]
  · rename_i t' sz
    simp only [Bool.and_eq_true, nbeq] at hb
    obtain ⟨rfl, hle⟩ := hb
    obtain ⟨_, a2, cap, rfl, hcap, us, v1, v3, v2⟩ := hH.lst hv
    refine ⟨us, v3, by rw [v1, hle], fun w1 => by simp [Builtin.lenOf], fun n hn w1 hw1 => ?_⟩
    simp only [Builtin.firstCells]
    rcases v2 with ⟨b2, o2, rfl, v2⟩ | ⟨h0, v2, _⟩
    case inr =>
      have hn0 : n = 0 := by omega
      subst hn0
      cases a2 <;> simp [loadCells, loadCellsFrom]
    have hl : (us.take (n * sz)).length = n * sz := by
      have := Nat.mul_le_mul_right sz hn
      simp; omega
    rw [← hl]
    have := run_cells (P := P) (w := w1) (b := b2) (o := o2) (us.take (n * sz)) (by
      intro j v hj
      have e : w1.cell? ⟨b2, o2 + j, none⟩ = w.cell? ⟨b2, o2 + j, none⟩ := by simp [World.cell?, hw1]
      rw [e]
      simp only [List.getElem?_take] at hj
      split at hj
      · exact v2 j v hj
      · cases hj)
    rw [this, hl]

/-- an append that takes new room -/
theorem app_grow (t u ty e : TypeId) (i : TypeInfo) (z : Value) (ht : P.underlying t = some (.slice e)) (hu : (∃ e', P.underlying u = some (.slice e')) ∨ P.underlying u = some .string) (hi : P.info? e = some i) (hz : i.zero = some z)
    (base : Option Addr) (sLen sCap n : Nat) (y' : Value) (olds news : List Value)
    (ho : (Builtin.firstCells i.size sLen (.slice base sLen sCap)).run P w.drew = .ok olds.toArray w.drew) (hl : (Builtin.lenOf y').run P w = .ok n w) (hn : (Builtin.firstCells i.size n y').run P w.drew = .ok news.toArray w.drew)
    (hg : sCap < sLen + n) (h63 : sLen + n ≤ 1099511627776) (hb : (sLen + n) * i.bytes ≤ 1099511627776) :
    (Builtin.append_ #[t, u] ty #[.slice base sLen sCap, y']).run P w =
      .ok (.slice (some ⟨w.heap.size, 0, none⟩) (sLen + n) (grownCap w (sLen + n) sCap e))
        (w.drew.alloc (.cells (olds.toArray ++ news.toArray ++ Builtin.zeroCells z.cells (grownCap w (sLen + n) sCap e - (sLen + n))) e)) := by
  have hn' : ¬ (sLen + n ≤ sCap) := by omega
  have h63' : ¬ (9223372036854775807 < ((sLen : Int) + (n : Int))) := by omega
  have hfit := growslice_fits (need := sLen + n) (old := sCap) (bytes := i.bytes) hg (by omega)
  have h48' : ¬ (281474976710656 < Builtin.nextslicecap (sLen + n) sCap * i.bytes) := by omega
  rcases hu with ⟨e', hu⟩ | hu
  all_goals
    simp [Builtin.append_, run_underlying ht, run_underlying hu, sizeOf, typeInfo, zeroValue, hi, hz, hl, hn', h63', h48', Question.forced, ho, hn, newRow, grownCap]
    congr 2
    apply Array.ext'
    simp [List.append_assoc]

/-- an append within the capacity -/
theorem app_room (t u ty e : TypeId) (i : TypeInfo) (ht : P.underlying t = some (.slice e)) (hu : (∃ e', P.underlying u = some (.slice e')) ∨ P.underlying u = some .string) (hi : P.info? e = some i)
    (b : Addr) (sLen sCap n : Nat) (y' : Value) (news : List Value) (w' : World)
    (hl : (Builtin.lenOf y').run P w = .ok n w) (hn : (Builtin.firstCells i.size n y').run P w = .ok news.toArray w) (hst : (storeCells (b.add (sLen * i.size)) news).run P w = .ok () w')
    (hg : sLen + n ≤ sCap) :
    (Builtin.append_ #[t, u] ty #[.slice (some b) sLen sCap, y']).run P w = .ok (.slice (some b) (sLen + n) sCap) w' := by
  rcases hu with ⟨e', hu⟩ | hu
  all_goals simp [Builtin.append_, run_underlying ht, run_underlying hu, sizeOf, typeInfo, hi, hl, hg, hn, hst]

/-- an append of nothing to the nil slice -/
theorem app_nil (t u ty e : TypeId) (i : TypeInfo) (ht : P.underlying t = some (.slice e)) (hu : (∃ e', P.underlying u = some (.slice e')) ∨ P.underlying u = some .string) (hi : P.info? e = some i)
    (y' : Value) (hl : (Builtin.lenOf y').run P w = .ok 0 w) (hn : (Builtin.firstCells i.size 0 y').run P w = .ok #[] w) :
    (Builtin.append_ #[t, u] ty #[.slice none 0 0, y']).run P w = .ok (.slice none 0 0) w := by
  rcases hu with ⟨e', hu⟩ | hu
  all_goals simp [Builtin.append_, run_underlying ht, run_underlying hu, sizeOf, typeInfo, hi, hl, hn]

/-- an append, by what it takes -/
structure Apps (P : Program) (w : World) (t u ty e : TypeId) (i : TypeInfo) (z : Value) (y' : Value) (n : Nat) (news : List Value) : Prop where
  grow : ∀ (base : Option Addr) (sLen sCap : Nat) (olds : List Value), (Builtin.firstCells i.size sLen (.slice base sLen sCap)).run P w.drew = .ok olds.toArray w.drew → sCap < sLen + n → sLen + n ≤ 1099511627776 → (sLen + n) * i.bytes ≤ 1099511627776 →
    (Builtin.append_ #[t, u] ty #[.slice base sLen sCap, y']).run P w =
      .ok (.slice (some ⟨w.heap.size, 0, none⟩) (sLen + n) (grownCap w (sLen + n) sCap e))
        (w.drew.alloc (.cells (olds.toArray ++ news.toArray ++ Builtin.zeroCells z.cells (grownCap w (sLen + n) sCap e - (sLen + n))) e))
  room : ∀ (b : Addr) (sLen sCap : Nat) (w' : World), (storeCells (b.add (sLen * i.size)) news).run P w = .ok () w' → sLen + n ≤ sCap →
    (Builtin.append_ #[t, u] ty #[.slice (some b) sLen sCap, y']).run P w = .ok (.slice (some b) (sLen + n) sCap) w'
  nil : n = 0 → (Builtin.append_ #[t, u] ty #[.slice none 0 0, y']).run P w = .ok (.slice none 0 0) w

theorem apps_of {t u ty e : TypeId} {i : TypeInfo} {z : Value} (ht : P.underlying t = some (.slice e)) (hu : (∃ e', P.underlying u = some (.slice e')) ∨ P.underlying u = some .string) (hi : P.info? e = some i) (hz : i.zero = some z)
    {y' : Value} {n : Nat} {news : List Value} (hl : ∀ w1, (Builtin.lenOf y').run P w1 = .ok n w1) (hf : ∀ w1 : World, w1.heap = w.heap → (Builtin.firstCells i.size n y').run P w1 = .ok news.toArray w1) (h0 : n = 0 → news = []) : Apps P w t u ty e i z y' n news := by
  refine ⟨fun base sLen sCap olds h1 h2 h3 h4 => app_grow t u ty e i z ht hu hi hz base sLen sCap n y' olds news h1 (hl w) (hf w.drew rfl) h2 h3 h4, fun b sLen sCap w' h1 h2 => app_room t u ty e i ht hu hi b sLen sCap n y' news w' (hl w) (hf w rfl) h1 h2, fun h => ?_⟩
  subst h
  have := hf w rfl
  rw [h0 rfl] at this
  exact app_nil t u ty e i ht hu hi y' (hl w) this

/-- .. zeros -/
theorem apps_zero {t u ty e : TypeId} {k : IntKind} {i : TypeInfo} {z : Value} (ht : P.underlying t = some (.slice e)) (hu : P.underlying u = some (.int k)) (hi : P.info? e = some i) (hz : i.zero = some z) (hzs : z.cells.size = i.size)
    {kx : IntKind} {l : Int} (h0 : 0 ≤ l) (h1 : l ≤ 1099511627776) (hb : l.toNat * i.bytes ≤ 1099511627776) : Apps P w t u ty e i z (.int kx l) l.toNat ((List.replicate l.toNat z.cells.toList).flatten) := by
  obtain ⟨n, rfl⟩ : ∃ n : Nat, l = (n : Int) := ⟨l.toNat, by omega⟩
  simp only [Int.toNat_natCast] at hb ⊢
  have hw : IntKind.i64.wrap (n : Int) = n := by
    rw [IntKind.wrap_i64]
    omega
  have hneg : ¬ ((n : Int) < 0) := by omega
  have hbi : ¬ ((281474976710656 : Int) < (n : Int) * (i.bytes : Int)) := by
    have : ((n * i.bytes : Nat) : Int) ≤ ((1099511627776 : Nat) : Int) := Int.ofNat_le.2 hb
    rw [Int.natCast_mul] at this
    omega
  have e1 := madeCells_list z.cells n
  have hzn : Builtin.zeroCells z.cells n = ((List.replicate n z.cells.toList).flatten).toArray := by rw [← e1]; rfl
  have hnl : ((List.replicate n z.cells.toList).flatten).length = n * i.size := by simp [hzs]
  generalize (List.replicate n z.cells.toList).flatten = news at hzn hnl
  refine ⟨fun base sLen sCap olds ho hg h63 hb2 => ?_, fun b sLen sCap w' hst hg => ?_, fun h => ?_⟩
  · have hn' : ¬ (sLen + n ≤ sCap) := by omega
    have h63' : ¬ (9223372036854775807 < ((sLen : Int) + (n : Int))) := by omega
    have hfit := growslice_fits (need := sLen + n) (old := sCap) (bytes := i.bytes) hg (by omega)
    have h48' : ¬ (281474976710656 < Builtin.nextslicecap (sLen + n) sCap * i.bytes) := by omega
    by_cases hn : n * i.size = 0
    · have hz0 : news = [] := List.eq_nil_of_length_eq_zero (by rw [hnl]; exact hn)
      subst hz0
      simp [Builtin.append_, run_underlying ht, run_underlying hu, sizeOf, typeInfo, zeroValue, hi, hz, asInt, asIntOf, hw, hneg, hbi, hn', h63', h48', Question.forced, ho, newRow, grownCap, hn]
    · simp [Builtin.append_, run_underlying ht, run_underlying hu, sizeOf, typeInfo, zeroValue, hi, hz, asInt, asIntOf, hw, hneg, hbi, hn', h63', h48', Question.forced, ho, newRow, grownCap, hn, hzn]
      congr 2
      apply Array.ext'
      simp [List.append_assoc]
  · by_cases hn : n * i.size = 0
    · have hz0 : news = [] := List.eq_nil_of_length_eq_zero (by rw [hnl]; exact hn)
      subst hz0
      simp [Builtin.append_, run_underlying ht, run_underlying hu, sizeOf, typeInfo, hi, asInt, asIntOf, hw, hneg, hbi, hg, hn, hst]
    · simp [Builtin.append_, run_underlying ht, run_underlying hu, sizeOf, typeInfo, zeroValue, hi, hz, asInt, asIntOf, hw, hneg, hbi, hg, hn, hzn, hst]
  · subst h
    have hw0 : IntKind.i64.wrap 0 = 0 := by rw [IntKind.wrap_i64]; omega
    simp [Builtin.append_, run_underlying ht, run_underlying hu, sizeOf, typeInfo, hi, asInt, asIntOf, hw0]

/-- the row of an append that took new room -/
theorem newB_grow {olds news : List Value} {xs vs : List AV} (ho : VRL m xs olds) (hn : VRL m vs news) (w : World) (e : TypeId) (z : List Value) (k : Nat) :
    NewB m (mkBlk .grow (xs ++ vs)) ⟨w.heap.size, 0, (xs ++ vs).length, olds.length + news.length + z.length⟩ w (w.drew.alloc (.cells (olds.toArray ++ news.toArray ++ z.toArray) e)) ∧ k = k := by
  have h := (ho.append hn).len
  refine ⟨⟨rfl, rfl, rfl, id, rfl, rfl, rfl, _, e, 0, 0, rfl, ?_, ?_, by simp [mkBlk], by simp [mkBlk], .inl rfl, ?_⟩, rfl⟩
  · simp at h ⊢; omega
  · simp; omega
  · simp only [mkBlk]
    rw [show (olds.toArray ++ news.toArray ++ z.toArray).toList = (olds ++ news) ++ z by simp]
    rw [h, List.take_left]
    exact ho.append hn
/-- what an operation that writes did -/
def HopOk (P : Program) (gl : Nat → Option (List AV)) (m : M) (H : List Blk) (w : World) (ρ : Operand → Value) (o : Oper) (K : AV → List Blk → Prop) : Prop :=
  ∃ av H' v w' m', K av H' ∧ ((execOp ρ o).run P w = .ok (.value v) w' ∨ ((execOp ρ o).run P w = .ok .skip w' ∧ v = undef)) ∧ VR m' av v ∧ HR gl m' H' w' ∧ Mv m H w m' H' w'

theorem ck_ok {E : Env} {b : Bool} {c : Prop} (h : ck E b c) : b = true ∧ c := by
  unfold ck at h
  cases b <;> simp_all

theorem hop_store (hH : HR gl m H w) (hρ : ∀ x, VR m (ev (cO x)) (ρ x)) {E : Env} {k : Nat} {K : AV → List Blk → Prop} {o : Oper} {t : TypeId} {a x : Operand} (ho : o.op = .store t a x)
    (h : hop E ev H k (cOp P o.op) K) : HopOk P gl m H w ρ o K := by
  rw [ho] at h
  simp only [cOp] at h
  split at h
  · rename_i hk
    simp only [hop] at h
    have ha := hρ a
    split at h
    · rename_i id tot off vs he hcv
      rw [he] at ha
      obtain ⟨h1, h2⟩ := ck_ok h
      simp only [Bool.and_eq_true, Nat.ble_eq, nbeq, bne_iff_ne, ne_eq] at h1
      obtain ⟨⟨⟨⟨hc, hle⟩, hl⟩, hone⟩, hro⟩ := h1
      obtain ⟨I, hI, hIt, hv⟩ := hH.ptr ha hc
      have hvs := cellsO_agg hcv (hρ x)
      obtain ⟨w', m', q1, q2, q3⟩ := set_ok (P := P) (off := off) hH hc hI hro hvs hone (by omega)
      refine ⟨_, _, undef, w', m', h2, .inr ⟨?_, rfl⟩, by simp [VR], q2, q3⟩
      have hlen : (ρ x).cells.size = szT P t := by rw [← hl]; simpa using hvs.len.symm
      have hrun : (storeVar t ⟨I.b, I.d + off, none⟩ (ρ x)).run P w = .ok () w' := by
        simp [storeVar, run_size hk, hlen, q1]
      simp [execOp, ho, Instr.storeAt, Instr.sureAddr, hv, hrun]
    · cases h
  · simp [hop] at h

theorem freeze_ok (hH : HR gl m H w) {id : Nat} {I : Inf} {b : Blk} (hI : m.blk id = some I) (hb : H[id]? = some b) (hk : b.k ≠ .ro) :
    ∃ w' m', (∀ o2, (markStringish ⟨I.b, o2, none⟩).run P w = .ok () w') ∧ HR gl m' H w' ∧ Mv m H w m' H w' := by
  have hB := hH.blk id I b hI hb
  obtain ⟨cu, e, lo, hi, q1, q2, q3, q4, q5, q6⟩ := hB.row
  obtain ⟨hd, hm⟩ := q5 hk
  have hsh : w.shape? I.b = some (e, cu.size) := by simp [World.shape?, q1]
  have hHs : H.set id b = H := by
    apply List.ext_getElem?
    intro j
    by_cases hj : j = id
    · subst hj
      rw [List.getElem?_set_self (hH.dom j I hI), hb]
    · rw [List.getElem?_set_ne (by omega)]
  have hup := hH.upd (w' := w.freeze ⟨I.b, cu.size, none⟩ 1) (b' := b) hI hb hk rfl (Nat.le_refl _) (fun _ => rfl) (.inl rfl) (by simp [World.freeze])
    (fun k hk1 _ => by simp [World.freeze, Array.getElem?_modify, Ne.symm hk1]) (by simp [World.freeze]) (by simp [World.freeze]) (by simp [World.freeze]) (by
      refine ⟨hB.tot, hB.lf, cu, e, if lo == hi then cu.size else min lo cu.size, if lo == hi then cu.size + 1 else max hi (cu.size + 1), ?_, q2, q3, q4, fun _ => ⟨hd, ?_⟩, VRL.mono (Ext.set_old hI (Nat.le_refl _) (fun _ => rfl)) _ _ q6⟩
      · have e1 : (w.freeze ⟨I.b, cu.size, none⟩ 1).heap[I.b]? = some (Obj.cells cu e (if lo == hi then (cu.size, cu.size + 1) else (min lo cu.size, max hi (cu.size + 1)))) := by
          simp [World.freeze, Array.getElem?_modify, q1]
        rw [e1]
        by_cases h : lo == hi <;> simp [h]
      · by_cases h : lo == hi
        · simp only [h, if_true]; exact .inr (Nat.le_refl _)
        · simp only [h, if_false, Bool.false_eq_true]
          have h' : lo ≠ hi := by simpa using h
          rcases hm with h1 | h1
          · exact absurd h1 h'
          · exact .inr (by omega))
  rw [hHs] at hup
  exact ⟨_, _, fun o2 => by simp [markStringish, hsh], hup.1, hup.2⟩
end
end Go.Proofs.YtafchcmemeinlaaDoor
