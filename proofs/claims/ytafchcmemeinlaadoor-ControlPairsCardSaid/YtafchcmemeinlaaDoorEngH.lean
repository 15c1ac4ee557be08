/-
  The engine, part H: structs and arrays that are built, slices that are made, conversions.
-/
import Derived.Test.YtafchcmemeinlaaDoorEngG
set_option linter.unusedSimpArgs false
set_option linter.unusedVariables false
namespace Go.Proofs.YtafchcmemeinlaaDoor
open Go.RowKit

theorem madeCells_list (z : Array Value) : ∀ n : Nat, (madeCells z (n * z.size)).toList = (List.replicate n z.toList).flatten
  | 0 => by simp [madeCells]
  | n + 1 => by
    have ih := madeCells_list z n
    simp only [madeCells, Array.toList_map, Array.toList_range] at ih ⊢
    rw [Nat.add_mul, Nat.one_mul, List.range_add, List.map_append, ih, List.replicate_succ', List.flatten_append]
    congr 1
    simp only [List.flatten_cons, List.flatten_nil, List.append_nil, List.map_map]
    apply List.ext_getElem
    · simp
    · intro i h1 h2
      simp at h1 h2
      simp [Nat.mod_eq_of_lt h1, Nat.add_mod, h1]

section
variable {P : Program} {gl : Nat → Option (List AV)} {m : M} {H : List Blk} {w : World} {ρ : Operand → Value} {ev : AO → AV}

theorem build_none (ρ : Operand → Value) (ps : Array (Nat × Operand)) : (ps.map fun (i, x) => (i, ρ x)).toList = ps.toList.map fun p => (p.1, ρ p.2) := by simp

theorem fillP_ne {cs : List AV} {ps : List (Nat × Nat × AO)} {b : Bool} {r : List AV} (h : fillP ev cs ps = some (b, r)) (hb : b = true) : r.length = cs.length := by
  induction ps generalizing cs b r with
  | nil => simp [fillP] at h; simp [h.2]
  | cons p ps ih =>
    obtain ⟨o, n, x⟩ := p
    simp only [fillP] at h
    split at h
    · cases h
    · rename_i v hv
      split at h
      · rename_i b' r' hf
        simp only [Option.some.injEq, Prod.mk.injEq] at h
        obtain ⟨rfl, rfl⟩ := h
        simp only [Bool.and_eq_true, nbeq, Nat.ble_eq] at hb
        rw [ih hf hb.1.1]
        simp [setRange]
        omega
      · cases h

theorem lop_build (hρ : ∀ x, VR m (ev (cO x)) (ρ x)) {o : Oper} {t : TypeId} {ps : Array (Nat × Operand)} (ho : o.op = .build t ps) (nid : Nat) {r : LR} {cu ca}
    (h : lop gl ev cu ca nid (cOp P o.op) = some r) (hp : r.pre = true) : LopOk P m w ρ o nid r := by
  rw [ho] at h
  simp only [cOp] at h
  by_cases hz0 : (cellsO (zeroT P t)).isNone = true
  · rw [if_pos hz0] at h
    simp [lop] at h
  rw [if_neg hz0] at h
  have hz : cellsO (zeroT P t) ≠ none := by
    intro e
    rw [e] at hz0
    exact hz0 rfl
  obtain ⟨i, z, hi, hzz, hR, hzr⟩ := zero_ok (P := P) (m := m) (w := w) hz
  have hzc : VRL m (zeroC P t) z.cells.toList := by
    unfold zeroC
    cases hc : cellsO (zeroT P t) with
    | none => exact absurd hc hz
    | some l => exact cellsO_agg hc hR
  split at h
  · rename_i fs hu
    have hu' := run_und (w := w) hu (by simp)
    split at h
    · rename_i hk
      simp only [Bool.and_eq_true, List.all_eq_true] at hk
      simp only [lop] at h
      split at h
      · rename_i b cs hf
        cases h
        obtain ⟨cells', h1, h2⟩ := fill_ok hρ (fun j => (fs.map fun (f : Field) => (f.offset, szT P f.type))[j]?) _ ps.toList _ z.cells _ _ (by
          intro p hpm
          have hlt := hk.2 p hpm
          rw [blt_iff] at hlt
          have hg : fs[p.1]? = some fs[p.1] := by simp [hlt]
          simp [hg]) hzc hf hp
        refine .inl ⟨rfl, .agg cells', ?_, by simp only [VR]; exact ⟨_, rfl, h2⟩⟩
        simp only [execOp, ho]
        refine execV ?_
        have hpl := run_places (P := P) (w := w) fs hk.1
        simp only [Instr.build, Sem.run_bind, hzr, Result.andThen_ok, hu', hpl, build_none, h1]
        rfl
      · cases h
    · simp [lop] at h
  · rename_i k e hu
    have hu' := run_und (w := w) hu (by simp)
    split at h
    · rename_i hk
      simp only [lop] at h
      split at h
      · rename_i b cs hf
        cases h
        obtain ⟨cells', h1, h2⟩ := fill_ok hρ (fun j => some (j * szT P e, szT P e)) _ ps.toList _ z.cells _ _ (by intro p hpm; exact ⟨rfl, rfl⟩) hzc hf hp
        refine .inl ⟨rfl, .agg cells', ?_, by simp only [VR]; exact ⟨_, rfl, h2⟩⟩
        simp only [execOp, ho]
        refine execV ?_
        simp only [Instr.build, Sem.run_bind, hzr, Result.andThen_ok, hu', run_size hk, build_none, h1]
        rfl
      · cases h
    · simp [lop] at h
  · simp [lop] at h

theorem lop_bsl (hρ : ∀ x, VR m (ev (cO x)) (ρ x)) {o : Oper} {t : TypeId} {n : Nat} {ps : Array (Nat × Operand)} (ho : o.op = .buildSlice t n ps) (nid : Nat) {r : LR} {cu ca}
    (h : lop gl ev cu ca nid (cOp P o.op) = some r) (hp : r.pre = true) : LopOk P m w ρ o nid r := by
  rw [ho] at h
  simp only [cOp] at h
  split at h
  · rename_i e hu
    have hu' := run_und (w := w) hu (by simp)
    split at h
    · rename_i hk
      simp only [Bool.and_eq_true, beq_iff_eq, blt_iff, Nat.ble_eq] at hk
      obtain ⟨⟨⟨hk1, hk2⟩, hk3⟩, hk4⟩ := hk
      obtain ⟨i, z, hi, hzz, hR, hzr⟩ := zeroC_ok (P := P) (m := m) (w := w) (t := e) (by omega)
      have hzs : z.cells.size = szT P e := by rw [← hk2]; simpa using hR.len.symm
      simp only [lop] at h
      split at h
      · rename_i b cs hf
        cases h
        have hrep : VRL m ((List.replicate n (zeroC P e)).flatten) (madeCells z.cells (n * szT P e)).toList := by
          rw [← hzs, madeCells_list]
          clear hf hp hk4 ho
          induction n with
          | zero => simp
          | succ n ih => simp only [List.replicate_succ, List.flatten_cons]; exact hR.append ih
        obtain ⟨cells', h1, h2⟩ := fill_ok hρ (fun j => some (j * szT P e, szT P e)) _ ps.toList _ (madeCells z.cells (n * szT P e)) _ _ (by intro p hpm; exact ⟨rfl, rfl⟩) hrep hf hp
        have hlen := fillP_ne hf hp
        refine .inr ⟨_, .slice (some ⟨w.heap.size, 0, none⟩) n n, _, ⟨w.heap.size, 0, cs.length, cs.length⟩, rfl, ?_, newB_exact h2 w e .exact (by simp), fun m' hm' => ?_⟩
        · simp only [execOp, ho]
          refine execV ?_
          have hn : ¬ n * szT P e > 2 ^ 24 := by omega
          by_cases h0 : n * szT P e = 0
          · have hm0 : madeCells z.cells (n * szT P e) = #[] := by rw [h0]; simp [madeCells]
            rw [hm0] at h1
            have hn0 : n = 0 := by
              rcases Nat.mul_eq_zero.1 h0 with h | h
              · exact h
              · omega
            subst hn0
            simp [Instr.buildSlice, hu', run_size hk1, newRow, Array.range_zero']
            simp [h1]
          · have hm1 : (Array.range (n * szT P e)).map (fun x => z.cells[x % z.cells.size]!) = madeCells z.cells (n * szT P e) := rfl
            simp only [Instr.buildSlice, Sem.run_bind, hu', Result.andThen_ok, run_size hk1, hn, h0, if_false, hzr, Sem.run_pure, build_none, hm1, h1]
            simp [newRow]
        · simp only [VR]
          refine ⟨rfl, _, hm', Nat.le_refl _, fun _ => ⟨0, n, rfl, Nat.le_refl _, .inl ⟨rfl, ?_⟩⟩⟩
          have : (List.replicate n (zeroC P e)).flatten.length = n * szT P e := by simp [hk2]
          show 0 + n * szT P e ≤ cs.length
          omega
      · cases h
    · simp [lop] at h
  · simp [lop] at h

theorem replicate_VRL {zs : List AV} {z : List Value} (h : VRL m zs z) : ∀ n : Nat, VRL m ((List.replicate n zs).flatten) ((List.replicate n z).flatten)
  | 0 => by simp
  | n + 1 => by simp only [List.replicate_succ, List.flatten_cons]; exact h.append (replicate_VRL h n)

theorem lop_mksl (hρ : ∀ x, VR m (ev (cO x)) (ρ x)) {o : Oper} {t : TypeId} {l c : Operand} (ho : o.op = .makeSlice t l c) (nid : Nat) {r : LR} {cu ca}
    (h : lop gl ev cu ca nid (cOp P o.op) = some r) (hp : r.pre = true) : LopOk P m w ρ o nid r := by
  rw [ho] at h
  simp only [cOp] at h
  split at h
  · rename_i e hu
    split at h
    · rename_i hk
      simp only [Bool.and_eq_true, beq_iff_eq, blt_iff] at hk
      obtain ⟨⟨hk1, hk2⟩, hk3⟩ := hk
      obtain ⟨i, z, hi, hzz, hR, hzr⟩ := zeroC_ok (P := P) (m := m) (w := w) (t := e) (by omega)
      have hzs : z.cells.size = szT P e := by rw [← hk2]; simpa using hR.len.symm
      have his : i.size = szT P e := by simp [szT, Program.cellsOf, hi]
      have hib : i.bytes = P.bytesOf e := by simp [Program.bytesOf, hi]
      simp only [lop] at h
      split at h
      · rename_i k1 lv k2 cv hl hc
        have hl2 := hρ l
        have hc2 := hρ c
        rw [hl] at hl2
        rw [hc] at hc2
        simp only [VR] at hl2 hc2
        cases h
        simp only [Bool.and_eq_true, decide_eq_true_eq] at hp
        obtain ⟨⟨⟨hp1, hp2⟩, hp3⟩, hp4⟩ := hp
        have hrun := run_make (P := P) w t e i z (und_some hu (by simp)) hi hzz k1 k2 lv cv hp1 hp2 (by rw [hib, Int.mul_comm]; omega) (by omega)
        rw [his, ← hzs] at hrun
        have hlc : lv.toNat ≤ cv.toNat := by omega
        have hlim : lv.toNat * szT P e ≤ cv.toNat * szT P e := Nat.mul_le_mul_right _ hlc
        generalize hsame : (match l, c with | Operand.tmp a, Operand.tmp b => Nat.beq a b | _, _ => false) = same
        have hs2 : same = true → lv = cv := by
          intro hs
          rw [hs] at hsame
          cases l <;> cases c <;> simp only at hsame <;> try cases hsame
          rw [nbeq] at hsame
          subst hsame
          rw [hl2] at hc2
          cases hc2
          rfl
        refine .inr ⟨mkBlk (bif same then .exact else .grow) ((List.replicate lv.toNat (zeroC P e)).flatten), .slice (some ⟨w.heap.size, 0, none⟩) lv.toNat cv.toNat, w.alloc (.cells (madeCells z.cells (cv.toNat * z.cells.size)) e), ⟨w.heap.size, 0, lv.toNat * szT P e, bif same then lv.toNat * szT P e else cv.toNat * szT P e⟩, by subst hsame; rfl, ?_, ?_, fun m' hm' => ?_⟩
        · simp only [execOp, ho, hl2, hc2]
          exact execV hrun
        · have hflen : ((List.replicate lv.toNat (zeroC P e)).flatten).length = lv.toNat * szT P e := by simp [hk2]
          refine ⟨rfl, rfl, rfl, id, by simp only [mkBlk, hflen], rfl, rfl, _, e, 0, 0, rfl, ?_, ?_, ?_, ?_, .inl rfl, ?_⟩
          · cases same <;> simp [hlim]
          · rw [size_madeCells, hzs]
            cases same <;> simp [hlim]
          · cases same <;> simp [mkBlk]
          · cases same <;> simp [mkBlk]
          · simp only [mkBlk]
            rw [madeCells_list]
            have e1 : (List.replicate cv.toNat z.cells.toList).flatten.take (lv.toNat * szT P e) = (List.replicate lv.toNat z.cells.toList).flatten := by
              have : cv.toNat = lv.toNat + (cv.toNat - lv.toNat) := by omega
              rw [this, ← List.replicate_append_replicate, List.flatten_append]
              exact List.take_left' (by simp [hzs])
            rw [e1]
            exact replicate_VRL hR _
        · simp only [VR]
          refine ⟨rfl, _, hm', Nat.le_refl _, fun _ => ⟨0, cv.toNat, rfl, hlc, .inl ⟨rfl, ?_⟩⟩⟩
          cases hsm : same
          · simp
          · have := hs2 hsm
            simp [this]
      · cases h
    · simp [lop] at h
  · simp [lop] at h

theorem toB_cells : ∀ {l : List AV} {vs : List Value} (_ : VRL m l vs) (_ : allU8 l = true), ∃ ns : List Int, vs = ns.map (Value.int .u8) ∧ l.map toB = ns.map fun n => UInt8.ofNat n.toNat
  | [], vs, h, _ => by
    rw [VRL_nil] at h
    exact ⟨[], by simp [h], rfl⟩
  | a :: l, vs, h, hu => by
    obtain ⟨v, vs', rfl, h1, h2⟩ := VRL_consL h
    match a, hu, h1 with
    | .int .u8 n, hu, h1 =>
      simp only [allU8] at hu
      simp only [VR] at h1
      obtain ⟨ns, e1, e2⟩ := toB_cells h2 hu
      exact ⟨n :: ns, by simp [h1, e1], by simp [toB, e2]⟩

theorem push_all : ∀ (ns : List Int) (r : ByteArray), ns.foldl (fun r n => r.push (UInt8.ofNat n.toNat)) r = ⟨r.data ++ (ns.map fun n => UInt8.ofNat n.toNat).toArray⟩
  | [], r => by simp
  | n :: ns, r => by
    simp only [List.foldl_cons]
    rw [push_all ns]
    simp [ByteArray.push]

theorem lop_conv (hH : HR gl m H w) (hρ : ∀ x, VR m (ev (cO x)) (ρ x)) {o : Oper} {s d : TypeId} {x : Operand} (ho : o.op = .convert s d x) (nid : Nat) {r : LR}
    (h : lop gl ev (cur H) (cellsAt H) nid (cOp P o.op) = some r) (hp : r.pre = true) : LopOk P m w ρ o nid r := by
  rw [ho] at h
  simp only [cOp] at h
  have hx := hρ x
  split at h
  · rename_i hk
    simp only [Bool.and_eq_true] at hk
    obtain ⟨_, hs⟩ := knownT_iff hk.1
    obtain ⟨_, hd⟩ := knownT_iff hk.2
    split at h
    · rename_i k' k e1 e2
      rw [e1] at hs
      rw [e2] at hd
      simp only [lop] at h
      cases he : ev (cO x) <;> simp only [he] at h hx <;> try cases h
      rename_i k2 n
      simp only [VR] at hx
      refine .inl ⟨rfl, .int k (k.wrap n), ?_, by simp only [VR]⟩
      simp only [execOp, ho]
      exact execV (by simp [convert, run_underlying hs, run_underlying hd, hx, Conv.intToInt])
    · rename_i e e1 e2
      rw [e1] at hs
      rw [e2] at hd
      split at h
      · rename_i e3
        have he3 := und_some e3 (by simp)
        simp only [lop] at h
        cases he : ev (cO x) <;> simp only [he] at h hx <;> try cases h
        rename_i b
        simp only [VR] at hx
        have hrun := run_bytes_of_string (P := P) w s d e ⟨b.toArray⟩ hs hd he3
        have hge := grownCap_ge w b.length 0 e
        simp only [size_mk] at hrun
        have hsz : (bytesRow ⟨b.toArray⟩ (grownCap w b.length 0 e)).size = grownCap w b.length 0 e := by
          simp [bytesRow, size_mk]; omega
        refine .inr ⟨mkBlk .grow (ofBytes b), .slice (some ⟨w.heap.size, 0, none⟩) b.length (grownCap w b.length 0 e), w.drew.alloc (.cells (bytesRow ⟨b.toArray⟩ (grownCap w b.length 0 e)) e ((bytesRow ⟨b.toArray⟩ (grownCap w b.length 0 e)).size, (bytesRow ⟨b.toArray⟩ (grownCap w b.length 0 e)).size + 1)), ⟨w.heap.size, 0, b.length, grownCap w b.length 0 e⟩, rfl, ?_, ?_, fun m' hm' => ?_⟩
        · simp only [execOp, ho, hx]
          exact execV hrun
        · refine ⟨rfl, rfl, rfl, id, by simp [mkBlk, ofBytes], rfl, rfl, _, e, _, _, rfl, hge, by rw [hsz]; exact Nat.le_refl _, by simp [mkBlk], by simp [mkBlk], .inr (Nat.le_refl _), ?_⟩
          simp only [mkBlk, bytesRow, Array.toList_append]
          rw [List.take_append_of_le_length (by simp), List.take_of_length_le (by simp)]
          simp only [ofBytes, Array.toList_map]
          clear hrun hge hsz he hx hp
          induction b with
          | nil => simp
          | cons c b ih => simp only [List.map_cons, VRL_cons]; exact ⟨by simp [VR], ih⟩
        · simp only [VR]
          exact ⟨rfl, _, hm', Nat.le_refl _, fun _ => ⟨0, _, rfl, hge, .inl ⟨rfl, by simp⟩⟩⟩
      · simp [lop] at h
    · rename_i e e1 e2
      rw [e1] at hs
      rw [e2] at hd
      split at h
      · rename_i e3
        have he3 := und_some e3 (by simp)
        simp only [lop] at h
        cases he : ev (cO x) <;> simp only [he] at h hx <;> try cases h
        · simp only [VR] at hx
          refine .inl ⟨rfl, .string ByteArray.empty, ?_, by simp only [VR]; rfl⟩
          simp only [execOp, ho, hx]
          refine execV ?_
          rw [run_convert_bytes_string w s d e none 0 0 hs he3 hd]
          simp [Conv.bytesToString]
        · rename_i id tot off n sz
          simp only [Bool.and_eq_true, Nat.ble_eq, nbeq] at hp
          obtain ⟨⟨⟨hc, hle⟩, rfl⟩, hu8⟩ := hp
          obtain ⟨I, o2, cap, hI, hIt, hv, hcap, hpos⟩ := hH.sl hx hc
          obtain ⟨vs, v1, v2, v3⟩ := hH.cells (n := n) hc hI hle
          obtain ⟨ns, n1, n2⟩ := toB_cells v3 hu8
          refine .inl ⟨rfl, .string ⟨((cellsAt H id off n).map toB).toArray⟩, ?_, by simp only [VR]⟩
          simp only [execOp, ho, hv]
          refine execV ?_
          rw [run_convert_bytes_string w s d e _ _ _ hs he3 hd]
          have hload : (loadCells ⟨I.b, o2, none⟩ n).run P w = .ok (ns.map (Value.int .u8)).toArray w := by
            rcases hpos with ⟨rfl, _⟩ | ⟨rfl, _⟩
            · rw [← v1, run_cells vs v2, n1]
            · have : vs = [] := List.eq_nil_of_length_eq_zero v1
              rw [this] at n1
              rw [← n1]
              simp [loadCells, loadCellsFrom]
          rw [run_bytesToString w _ n cap ns hload, push_all, n2]
          have he0 : ByteArray.empty.data = #[] := rfl
          simp [he0]
        · rename_i t' l n sz
          simp only [Bool.and_eq_true, nbeq] at hp
          obtain ⟨⟨rfl, hu8⟩, hln⟩ := hp
          obtain ⟨_, a2, cap, hv, hcap, vs, v1, v3, v2⟩ := hH.lst hx
          cases a2 with
          | none =>
            obtain ⟨rfl, rfl, h3⟩ : n = 0 ∧ vs = [] ∧ (none = none → cap = 0) := by
              rcases v2 with ⟨b2, o2, h, _⟩ | h
              · cases h
              · exact h
            obtain rfl := h3 rfl
            obtain rfl : l = [] := List.eq_nil_of_length_eq_zero (by simpa using v1.symm)
            refine .inl ⟨rfl, .string ByteArray.empty, ?_, by simp only [VR]; rfl⟩
            simp only [execOp, ho, hv]
            refine execV ?_
            rw [run_convert_bytes_string w s d e none 0 0 hs he3 hd]
            simp [Conv.bytesToString]
          | some a2 =>
          obtain ⟨ns, n1, n2⟩ := toB_cells v3 hu8
          refine .inl ⟨rfl, .string ⟨(l.map toB).toArray⟩, ?_, by simp only [VR]⟩
          simp only [execOp, ho, hv]
          refine execV ?_
          rw [run_convert_bytes_string w s d e _ _ _ hs he3 hd]
          have hload : (loadCells a2 n).run P w = .ok (ns.map (Value.int .u8)).toArray w := by
            rcases v2 with ⟨b2, o2, ha2, v2⟩ | ⟨h0, v2, _⟩
            · cases ha2
              rw [← hln, ← v1, run_cells vs v2, n1]
            · rw [v2] at n1
              rw [← n1, h0]
              simp [loadCells, loadCellsFrom]
          rw [run_bytesToString w _ n cap ns hload, push_all, n2]
          have he0 : ByteArray.empty.data = #[] := rfl
          simp [he0]
      · simp [lop] at h
    · rename_i e1 e2
      rw [e1] at hs
      rw [e2] at hd
      simp only [lop] at h
      cases he : ev (cO x) <;> simp only [he] at h hx <;> try cases h
      rename_i b
      refine .inl ⟨rfl, ρ x, ?_, hx⟩
      simp only [VR] at hx
      simp only [execOp, ho]
      exact execV (by simp [convert, run_underlying hs, run_underlying hd, hx])
    · rename_i e1 e2 _ _
      split at h
      · split at h <;> simp [lop] at h
      · simp [lop] at h
    · simp [lop] at h
  · simp [lop] at h
end
end Go.Proofs.YtafchcmemeinlaaDoor
