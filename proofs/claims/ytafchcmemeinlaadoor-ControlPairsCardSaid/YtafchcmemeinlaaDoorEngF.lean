/-
  The engine, part F: slices, indexes, lengths, conversions.
-/
import Derived.Test.YtafchcmemeinlaaDoorEngE
set_option linter.unusedSimpArgs false
set_option linter.unusedVariables false
namespace Go.Proofs.YtafchcmemeinlaaDoor
open Go.RowKit

section
variable {P : Program} {gl : Nat → Option (List AV)} {m : M} {H : List Blk} {w : World} {ρ : Operand → Value} {ev : AO → AV}

theorem extract_mk (s : List UInt8) (l h : Nat) : (⟨s.toArray⟩ : ByteArray).extract l h = ⟨((s.drop l).take (h - l)).toArray⟩ := by
  apply ByteArray.ext
  rw [ByteArray.data_extract]
  apply Array.ext'
  simp [Array.toList_extract, List.extract]

theorem size_mk (s : List UInt8) : (⟨s.toArray⟩ : ByteArray).size = s.length := by simp [ByteArray.size]

theorem lop_slice (hH : HR gl m H w) (hρ : ∀ x, VR m (ev (cO x)) (ρ x)) {o : Oper} {t : TypeId} {x : Operand} {lo hi : Option Operand} (ho : o.op = .slice t x lo hi none) (nid : Nat) {r : LR}
    (h : lop gl ev (cur H) (cellsAt H) nid (cOp P o.op) = some r) (hp : r.pre = true) : LopOk P m w ρ o nid r := by
  rw [ho] at h
  simp only [cOp] at h
  have hx := hρ x
  split at h
  · rename_i hu
    have hu' := run_und (w := w) hu (by simp)
    simp only [lop] at h
    split at h
    · rename_i b he
      rw [he] at hx
      simp only [VR] at hx
      split at h
      · rename_i p l hh hb
        cases h
        simp only [Bool.and_eq_true, Nat.ble_eq] at hp
        have hr := bounds_ok (P := P) (w := w) hρ hb hp.1.1 false b.length hp.1.2 hp.2
        refine .inl ⟨rfl, .string ((⟨b.toArray⟩ : ByteArray).extract l hh), ?_, by simp only [VR]; rw [extract_mk]⟩
        simp only [execOp, ho]
        exact execV (by simp [Instr.sliceAt, Instr.slice, hu', hx, size_mk, hr])
      · cases h
    · cases h
  · rename_i e hu
    have hu' := run_und (w := w) hu (by simp)
    split at h
    · rename_i hk
      simp only [Bool.and_eq_true, blt_iff] at hk
      simp only [lop] at h
      split at h
      · rename_i he
        rw [he] at hx
        simp only [VR] at hx
        split at h
        · rename_i p l hh hb
          cases h
          simp only [Bool.and_eq_true, nbeq] at hp
          obtain ⟨⟨hp1, rfl⟩, rfl⟩ := hp
          have hr := bounds_ok (P := P) (w := w) hρ hb hp1 true 0 (Nat.le_refl _) (Nat.le_refl _)
          refine .inl ⟨rfl, .slice none 0 0, ?_, by simp [VR]⟩
          simp only [execOp, ho]
          exact execV (by simp [Instr.sliceAt, Instr.slice, hu', hx, hr, run_size hk.1])
        · cases h
      · rename_i id tot off len sz he
        rw [he] at hx
        split at h
        · rename_i p l hh hb
          cases h
          simp only [Bool.and_eq_true, Nat.ble_eq, nbeq] at hp
          obtain ⟨⟨⟨⟨hp1, hl⟩, hhl⟩, hc⟩, rfl⟩ := hp
          obtain ⟨I, o2, cap, hI, hIt, hv, hcap, hpos⟩ := hH.sl hx hc
          have hr := bounds_ok (P := P) (w := w) hρ hb hp1 true cap hl (by omega)
          refine .inl ⟨rfl, .slice (some (if cap = l then ⟨I.b, o2, none⟩ else ⟨I.b, o2 + l * szT P e, none⟩)) (hh - l) (cap - l), ?_, ?_⟩
          · simp only [execOp, ho]
            refine execV ?_
            by_cases hcl : cap = l
            · obtain rfl := hcl
              simp [Instr.sliceAt, Instr.slice, hu', hv, hr, run_size hk.1]
            · simp [Instr.sliceAt, Instr.slice, hu', hv, hr, run_size hk.1, hcl, Addr.add_lit]
          · simp only [VR]
            refine ⟨rfl, I, hI, by omega, fun _ => ?_⟩
            by_cases hcl : cap = l
            · refine ⟨o2, cap - l, by simp [hcl], by omega, .inr ⟨by omega, by omega⟩⟩
            · refine ⟨o2 + l * szT P e, cap - l, by simp [hcl], by omega, ?_⟩
              rcases hpos with ⟨h1, h2⟩ | ⟨h1, h2⟩
              · refine .inl ⟨by rw [h1, Nat.add_assoc], ?_⟩
                have : l * szT P e + (cap - l) * szT P e = cap * szT P e := by rw [← Nat.add_mul]; congr 1; omega
                omega
              · omega
        · cases h
      · rename_i t' cs len sz he
        rw [he] at hx
        split at h
        · rename_i p l hh hb
          cases h
          simp only [Bool.and_eq_true, Nat.ble_eq, nbeq] at hp
          obtain ⟨⟨⟨hp1, hl⟩, hhl⟩, rfl⟩ := hp
          simp only [VR] at hx
          obtain ⟨_, hll, a2, cap, hv, hcap, hpos⟩ := hx
          have hr := bounds_ok (P := P) (w := w) hρ hb hp1 true cap hl (by omega)
          have hm1 : hh * szT P e ≤ len * szT P e := Nat.mul_le_mul_right _ hhl
          have hm2 : l * szT P e ≤ hh * szT P e := Nat.mul_le_mul_right _ hl
          have hm3 : (hh - l) * szT P e = hh * szT P e - l * szT P e := Nat.sub_mul _ _ _
          cases a2 with
          | none =>
            have hc0 : len = 0 ∧ cap = 0 ∧ cs = [] := by
              rcases hpos with ⟨a2, cs', f0, _⟩ | ⟨h1, h2, h3⟩
              · cases f0
              · exact ⟨h1, h3 rfl, h2⟩
            obtain ⟨rfl, rfl, rfl⟩ := hc0
            obtain ⟨rfl, rfl⟩ : hh = 0 ∧ l = 0 := by omega
            refine .inl ⟨rfl, .slice none 0 0, ?_, ?_⟩
            · simp only [execOp, ho]
              exact execV (by simp [Instr.sliceAt, Instr.slice, hu', hv, hr, run_size hk.1])
            · simp only [VR]
              exact ⟨rfl, by simp, none, 0, rfl, Nat.le_refl _, .inr ⟨by simp, by simp⟩⟩
          | some a2 =>
          refine .inl ⟨rfl, .slice (some (if cap = l then a2 else a2.add (l * szT P e))) (hh - l) (cap - l), ?_, ?_⟩
          · simp only [execOp, ho]
            refine execV ?_
            by_cases hcl : cap = l
            · obtain rfl := hcl
              simp [Instr.sliceAt, Instr.slice, hu', hv, hr, run_size hk.1]
            · simp [Instr.sliceAt, Instr.slice, hu', hv, hr, run_size hk.1, hcl]
          · simp only [VR]
            refine ⟨rfl, by simp; omega, ?_⟩
            by_cases hz : hh - l = 0
            · refine ⟨_, cap - l, rfl, by omega, .inr ⟨hz, by rw [hz, Nat.zero_mul, List.take_zero], fun h => by cases h⟩⟩
            · have hcl : ¬ cap = l := by omega
              rcases hpos with ⟨a2', cs', fa, f0, f1, f2, f3⟩ | ⟨h1, h2⟩
              · cases fa
                obtain ⟨b2, o2, sp⟩ := a2
                simp only at f0 f1 f2 f3
                subst f0
                refine ⟨some ⟨b2, o2 + l * szT P e, none⟩, cap - l, by simp [hcl, Addr.add_lit], by omega, .inl ⟨⟨b2, o2 + l * szT P e, none⟩, cs', rfl, rfl, f1, by simp; omega, ?_⟩⟩
                have e1 := (f3.drop (l * szT P e)).take ((hh - l) * szT P e)
                have e2 : ((List.take cs.length (List.drop o2 cs')).drop (l * szT P e)).take ((hh - l) * szT P e) = (cs'.drop (o2 + l * szT P e)).take ((hh - l) * szT P e) := by
                  rw [List.drop_take, List.take_take, List.drop_drop, Nat.min_eq_left (by omega)]
                rw [e2] at e1
                have e3 : ((cs.drop (l * szT P e)).take ((hh - l) * szT P e)).length = (hh - l) * szT P e := by simp; omega
                rw [e3]
                exact e1
              · omega
        · cases h
      · cases h
    · simp [lop] at h
  · rename_i k e hu
    have hu' := run_und (w := w) hu (by simp)
    split at h
    · rename_i hk
      simp only [Bool.and_eq_true, blt_iff] at hk
      simp only [lop] at h
      split at h
      · rename_i id tot off he
        rw [he] at hx
        split at h
        · rename_i p l hh hb
          cases h
          simp only [Bool.and_eq_true, Nat.ble_eq] at hp
          obtain ⟨⟨⟨⟨hp1, hl⟩, hhl⟩, hc⟩, htot⟩ := hp
          obtain ⟨I, hI, hIt, hv⟩ := hH.ptr hx hc
          have hr := bounds_ok (P := P) (w := w) hρ hb hp1 false k hl hhl
          refine .inl ⟨rfl, .slice (some (if k = l then ⟨I.b, I.d + off, none⟩ else ⟨I.b, I.d + off + l * szT P e, none⟩)) (hh - l) (k - l), ?_, ?_⟩
          · simp only [execOp, ho]
            refine execV ?_
            by_cases hcl : k = l
            · obtain rfl := hcl
              simp [Instr.sliceAt, hu', Instr.sureAddr, hv, hr, run_size hk.1]
            · simp [Instr.sliceAt, hu', Instr.sureAddr, hv, hr, run_size hk.1, hcl, Addr.add_lit]
          · simp only [VR]
            refine ⟨rfl, I, hI, by omega, fun _ => ?_⟩
            by_cases hcl : k = l
            · refine ⟨I.d + off, k - l, by simp [hcl], by omega, .inr ⟨by omega, by omega⟩⟩
            · refine ⟨I.d + off + l * szT P e, k - l, by simp [hcl], by omega, .inl ⟨by omega, ?_⟩⟩
              have e1 : l * szT P e + (k - l) * szT P e = k * szT P e := by rw [← Nat.add_mul]; congr 1; omega
              obtain ⟨b, hb2, hbl⟩ := cur_iff hc
              obtain ⟨cu, el, l1, h1, q1, q2, q3, _⟩ := (hH.blk id I b hI hb2).row
              omega
        · cases h
      · cases h
    · simp [lop] at h
  · simp [lop] at h

theorem lop_ia (hH : HR gl m H w) (hρ : ∀ x, VR m (ev (cO x)) (ρ x)) {o : Oper} {t : TypeId} {x i : Operand} (ho : o.op = .indexAddr t x i) (nid : Nat) {r : LR}
    (h : lop gl ev (cur H) (cellsAt H) nid (cOp P o.op) = some r) (hp : r.pre = true) : LopOk P m w ρ o nid r := by
  rw [ho] at h
  simp only [cOp] at h
  have hx := hρ x
  split at h
  · rename_i k e hu
    have hu' := run_und (w := w) hu (by simp)
    split at h
    · rename_i hk
      simp only [lop] at h
      have key : ∀ b d kk n, ρ x = .pointer (some ⟨b, d, none⟩) → ρ i = .int kk n → 0 ≤ n → n.toNat < k → (execOp ρ o).run P w = .ok (.value (.pointer (some ⟨b, d + n.toNat * szT P e, none⟩))) w := by
        intro b d kk n hv hi h0 h1
        have h2 : 0 ≤ n ∧ n < (k : Int) := ⟨h0, by omega⟩
        simp only [execOp, ho]
        exact execV (by simp [Instr.indexAt, hi, asIntOf, hu', hv, Instr.sureAddr, h2, run_size hk, Addr.add_lit])
      split at h
      · rename_i id tot off b n he hn
        rw [he] at hx
        cases h
        simp only [Bool.and_eq_true, blt_iff] at hp
        obtain ⟨kk, z, hz, h0, rfl⟩ := asNat_ok hn hp.1.1 (hρ i)
        obtain ⟨I, hI, hIt, hv⟩ := hH.ptr hx hp.2
        refine .inl ⟨rfl, _, key _ _ _ _ hv hz h0 hp.1.2, ?_⟩
        simp only [VR]
        exact ⟨rfl, I, hI, by omega, fun _ => by rw [Nat.add_assoc]⟩
      · rename_i g off b n he hn
        rw [he] at hx
        cases h
        simp only [Bool.and_eq_true, blt_iff] at hp
        obtain ⟨kk, z, hz, h0, rfl⟩ := asNat_ok hn hp.1 (hρ i)
        simp only [VR] at hx
        exact .inl ⟨rfl, _, key _ _ _ _ hx hz h0 hp.2, by simp [VR]⟩
      · rename_i t' l off b n he hn
        rw [he] at hx
        cases h
        simp only [Bool.and_eq_true, blt_iff] at hp
        obtain ⟨kk, z, hz, h0, rfl⟩ := asNat_ok hn hp.1 (hρ i)
        simp only [VR] at hx
        obtain ⟨_, b2, o2, cs, hv, h2, h3, h4⟩ := hx
        refine .inl ⟨rfl, _, key _ _ _ _ hv hz h0 hp.2, ?_⟩
        simp only [VR]
        exact ⟨rfl, b2, o2, cs, by rw [Nat.add_assoc], h2, h3, h4⟩
      · cases h
    · simp [lop] at h
  · rename_i e hu
    have hu' := run_und (w := w) hu (by simp)
    split at h
    · rename_i hk
      simp only [lop] at h
      split at h
      · rename_i id tot off len sz b n he hn
        rw [he] at hx
        cases h
        simp only [Bool.and_eq_true, blt_iff, nbeq] at hp
        obtain ⟨⟨⟨hb, hlt⟩, hc⟩, rfl⟩ := hp
        obtain ⟨kk, z, hz, h0, rfl⟩ := asNat_ok hn hb (hρ i)
        obtain ⟨I, o2, cap, hI, hIt, hv, hcap, hpos⟩ := hH.sl hx hc
        have h2 : 0 ≤ z ∧ z < (len : Int) := ⟨h0, by omega⟩
        rcases hpos with ⟨rfl, hpos⟩ | ⟨rfl, _⟩
        · refine .inl ⟨rfl, .pointer (some ⟨I.b, I.d + off + z.toNat * szT P e, none⟩), ?_, ?_⟩
          · simp only [execOp, ho]
            exact execV (by simp [Instr.indexAt, hz, asIntOf, hu', hv, h2, run_size hk, Addr.add_lit])
          · simp only [VR]
            exact ⟨rfl, I, hI, by omega, fun _ => by rw [Nat.add_assoc]⟩
        · omega
      · rename_i t' l len sz b n he hn
        rw [he] at hx
        cases h
        simp only [Bool.and_eq_true, blt_iff, nbeq] at hp
        obtain ⟨⟨hb, hlt⟩, rfl⟩ := hp
        obtain ⟨kk, z, hz, h0, rfl⟩ := asNat_ok hn hb (hρ i)
        simp only [VR] at hx
        obtain ⟨_, hll, a2, cap, hv, hcap, hpos⟩ := hx
        have h2 : 0 ≤ z ∧ z < (len : Int) := ⟨h0, by omega⟩
        rcases hpos with ⟨⟨b2, o2, sp⟩, cs, rfl, f0, f1, f2, f3⟩ | ⟨rfl, _⟩
        · simp only at f0 f1 f2 f3
          subst f0
          refine .inl ⟨rfl, .pointer (some ⟨b2, o2 + z.toNat * szT P e, none⟩), ?_, ?_⟩
          · simp only [execOp, ho]
            exact execV (by simp [Instr.indexAt, hz, asIntOf, hu', hv, h2, run_size hk, Addr.add_lit])
          · simp only [VR]
            exact ⟨rfl, b2, o2, cs, rfl, f1, f2, f3⟩
        · omega
      · cases h
    · simp [lop] at h
  · simp [lop] at h

theorem lop_ix (hρ : ∀ x, VR m (ev (cO x)) (ρ x)) {o : Oper} {t : TypeId} {x i : Operand} (ho : o.op = .index t x i) (nid : Nat) {r : LR} {cu ca}
    (h : lop gl ev cu ca nid (cOp P o.op) = some r) (hp : r.pre = true) : LopOk P m w ρ o nid r := by
  rw [ho] at h
  simp only [cOp] at h
  have hx := hρ x
  split at h
  · rename_i k e hu
    have hu' := run_und (w := w) hu (by simp)
    split at h
    · rename_i hk
      simp only [lop] at h
      split at h
      · rename_i l b n he hn
        rw [he] at hx
        cases h
        simp only [VR] at hx
        obtain ⟨cs, hv, hl⟩ := hx
        simp only [Bool.and_eq_true, Bool.or_eq_true, blt_iff] at hp
        obtain ⟨kk, z, hz, h0, rfl⟩ := asNat_ok hn hp.1.1 (hρ i)
        have h2 : 0 ≤ z ∧ z < (k : Int) := ⟨h0, by omega⟩
        obtain ⟨v, hv1, hv2⟩ := part_ok (P := P) (w := w) hk hl (off := z.toNat * szT P e) hp.2
        refine .inl ⟨rfl, v, ?_, hv2⟩
        simp only [execOp, ho]
        exact execV (by simp [Instr.index, hz, asIntOf, hu', hv, h2, run_size hk]; exact hv1)
      · cases h
    · simp [lop] at h
  · rename_i hu
    have hu' := run_und (w := w) hu (by simp)
    simp only [lop] at h
    split at h
    · rename_i s b n he hn
      rw [he] at hx
      cases h
      simp only [VR] at hx
      simp only [Bool.and_eq_true, blt_iff] at hp
      obtain ⟨kk, z, hz, h0, rfl⟩ := asNat_ok hn hp.1 (hρ i)
      refine .inl ⟨rfl, .int .u8 ((s.getD z.toNat 0).toNat : Int), ?_, by simp [VR]⟩
      simp only [execOp, ho]
      refine execV ?_
      have hg : (⟨s.toArray⟩ : ByteArray)[z.toNat]? = some (s.getD z.toNat 0) := by
        have h1 : z.toNat < (⟨s.toArray⟩ : ByteArray).size := by rw [size_mk]; exact hp.2
        rw [getElem?_pos (⟨s.toArray⟩ : ByteArray) z.toNat h1]
        simp [ByteArray.getElem_eq_getElem_data, hp.2]
      simp [Instr.index, hz, asIntOf, hu', hx, h0, hg]
    · cases h
  · simp [lop] at h

theorem lop_len (hH : HR gl m H w) (hρ : ∀ x, VR m (ev (cO x)) (ρ x)) {o : Oper} {t : TypeId} {x : Operand} (ho : o.op = .call { callee := .builtin .len, args := #[x], argTypes := #[t] }) (nid : Nat) {r : LR}
    (h : lop gl ev (cur H) (cellsAt H) nid (cOp P o.op) = some r) (hp : r.pre = true) : LopOk P m w ρ o nid r := by
  rw [ho] at h
  simp only [cOp] at h
  have hx := hρ x
  have key : ∀ v, (Builtin.len_ #[t] o.type #[ρ x]).run P w = .ok v w → (execOp ρ o).run P w = .ok (.value v) w := by
    intro v hv
    simp [execOp, ho, resolve, invoke, builtin, hv]
  split at h
  · rename_i hu
    have hu' := run_und (w := w) hu (by simp)
    simp only [lop] at h
    split at h
    · rename_i b he
      rw [he] at hx
      cases h
      simp only [VR] at hx
      exact .inl ⟨rfl, _, key _ (by simp [Builtin.len_, hu', hx, size_mk, goInt]; rfl), by simp [VR]⟩
    · cases h
  · rename_i e hu
    have hu' := run_und (w := w) hu (by simp)
    simp only [lop] at h
    split at h
    · rename_i he
      rw [he] at hx
      cases h
      simp only [VR] at hx
      exact .inl ⟨rfl, _, key _ (by simp [Builtin.len_, hu', hx, goInt]; rfl), by simp [VR]⟩
    · rename_i id tot off n sz he
      rw [he] at hx
      cases h
      obtain ⟨I, o2, cap, hI, hIt, hv, hcap, hpos⟩ := hH.sl hx hp
      exact .inl ⟨rfl, _, key _ (by simp [Builtin.len_, hu', hv, goInt]; rfl), by simp [VR]⟩
    · rename_i t' l n sz he
      rw [he] at hx
      cases h
      simp only [VR] at hx
      obtain ⟨_, _, a2, cap, hv, _⟩ := hx
      exact .inl ⟨rfl, _, key _ (by simp [Builtin.len_, hu', hv, goInt]; rfl), by simp [VR]⟩
    · cases h
  · rename_i n e hu
    have hu' := run_und (w := w) hu (by simp)
    simp only [lop, Option.some.injEq] at h
    subst h
    exact .inl ⟨rfl, _, key _ (by simp [Builtin.len_, hu', goInt]; rfl), by simp [VR]⟩
  · simp [lop] at h

theorem max_ok {k : IntKind} {m : M} : ∀ (l : List AV) (vs : List Value) (x : Int) (v : AV) (_ : VRL m l vs) (_ : maxL k x l = some v) (w : World), ∃ v', (vs.foldlM Builtin.max2 (.int k x)).run P w = .ok v' w ∧ VR m v v'
  | [], vs, x, v, h, hv, w => by
    rw [VRL_nil] at h
    subst h
    cases hv
    exact ⟨.int k x, by simp, by simp [VR]⟩
  | a :: l, vs, x, v, h, hv, w => by
    obtain ⟨u, vs', rfl, h1, h2⟩ := VRL_consL h
    cases a <;> simp only [maxL, imax] at hv <;> try cases hv
    rename_i k' y
    simp only [VR] at h1
    subst h1
    obtain ⟨v', h3, h4⟩ := max_ok l vs' _ v h2 hv w
    exact ⟨v', by simpa [Builtin.max2] using h3, h4⟩

theorem min_ok {k : IntKind} {m : M} : ∀ (l : List AV) (vs : List Value) (x : Int) (v : AV) (_ : VRL m l vs) (_ : minL k x l = some v) (w : World), ∃ v', (vs.foldlM Builtin.min2 (.int k x)).run P w = .ok v' w ∧ VR m v v'
  | [], vs, x, v, h, hv, w => by
    rw [VRL_nil] at h
    subst h
    cases hv
    exact ⟨.int k x, by simp, by simp [VR]⟩
  | a :: l, vs, x, v, h, hv, w => by
    obtain ⟨u, vs', rfl, h1, h2⟩ := VRL_consL h
    cases a <;> simp only [minL, imin] at hv <;> try cases hv
    rename_i k' y
    simp only [VR] at h1
    subst h1
    obtain ⟨v', h3, h4⟩ := min_ok l vs' _ v h2 hv w
    exact ⟨v', by simpa [Builtin.min2] using h3, h4⟩

theorem lop_max (hρ : ∀ x, VR m (ev (cO x)) (ρ x)) {o : Oper} {l : Array Operand} {ts : Array TypeId} (ho : o.op = .call { callee := .builtin .max, args := l, argTypes := ts }) (nid : Nat) {r : LR} {cu ca}
    (h : lop gl ev cu ca nid (cOp P o.op) = some r) : LopOk P m w ρ o nid r := by
  rw [ho] at h
  have e : cOp P (.call { callee := .builtin .max, args := l, argTypes := ts }) = .mx (l.toList.map cO) := by
    simp only [cOp]
  rw [e] at h
  simp only [lop] at h
  have hl := mapVRL hρ l.toList
  split at h
  · rename_i k x l' he
    rw [he] at hl
    split at h
    · rename_i v hv
      cases h
      obtain ⟨u, vs', hvs, h1, h2⟩ := VRL_consL hl
      simp only [VR] at h1
      subst h1
      obtain ⟨v', h3, h4⟩ := max_ok (P := P) l' vs' x v h2 hv w
      refine .inl ⟨rfl, v', ?_, h4⟩
      simp [execOp, ho, resolve, invoke, builtin, Builtin.max_, hvs, h3]
    · cases h
  · cases h

theorem lop_min (hρ : ∀ x, VR m (ev (cO x)) (ρ x)) {o : Oper} {l : Array Operand} {ts : Array TypeId} (ho : o.op = .call { callee := .builtin .min, args := l, argTypes := ts }) (nid : Nat) {r : LR} {cu ca}
    (h : lop gl ev cu ca nid (cOp P o.op) = some r) : LopOk P m w ρ o nid r := by
  rw [ho] at h
  have e : cOp P (.call { callee := .builtin .min, args := l, argTypes := ts }) = .mn (l.toList.map cO) := by
    simp only [cOp]
  rw [e] at h
  simp only [lop] at h
  have hl := mapVRL hρ l.toList
  split at h
  · rename_i k x l' he
    rw [he] at hl
    split at h
    · rename_i v hv
      cases h
      obtain ⟨u, vs', hvs, h1, h2⟩ := VRL_consL hl
      simp only [VR] at h1
      subst h1
      obtain ⟨v', h3, h4⟩ := min_ok (P := P) l' vs' x v h2 hv w
      refine .inl ⟨rfl, v', ?_, h4⟩
      simp [execOp, ho, resolve, invoke, builtin, Builtin.min_, hvs, h3]
    · cases h
  · cases h

theorem lop_s2a (hH : HR gl m H w) (hρ : ∀ x, VR m (ev (cO x)) (ρ x)) {o : Oper} {t : TypeId} {x : Operand} (ho : o.op = .sliceToArrayPointer t x) (nid : Nat) {r : LR}
    (h : lop gl ev (cur H) (cellsAt H) nid (cOp P o.op) = some r) (hp : r.pre = true) : LopOk P m w ρ o nid r := by
  rw [ho] at h
  simp only [cOp] at h
  have hx := hρ x
  split at h
  · rename_i n e hu
    have hu' := run_und (w := w) hu (by simp)
    simp only [lop] at h
    split at h
    · rename_i id tot off len sz he
      rw [he] at hx
      cases h
      simp only [Bool.and_eq_true, Nat.ble_eq, blt_iff] at hp
      obtain ⟨I, o2, cap, hI, hIt, hv, hcap, hpos⟩ := hH.sl hx hp.1.1
      rcases hpos with ⟨rfl, hpos⟩ | ⟨rfl, _⟩
      · refine .inl ⟨rfl, .pointer (some ⟨I.b, I.d + off, none⟩), ?_, ?_⟩
        · simp only [execOp, ho]
          have : ¬ len < n := by omega
          exact execV (by simp [Instr.arrayAt, hu', hv, this])
        · simp only [VR]
          exact ⟨rfl, I, hI, by omega, fun _ => rfl⟩
      · omega
    · cases h
  · simp [lop] at h
end
end Go.Proofs.YtafchcmemeinlaaDoor
