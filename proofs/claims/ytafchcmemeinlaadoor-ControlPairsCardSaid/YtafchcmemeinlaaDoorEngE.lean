/-
  The engine, part E: operations that write nothing, one after the other.
-/
import Derived.Test.YtafchcmemeinlaaDoorEngD
set_option linter.unusedSimpArgs false
set_option linter.unusedVariables false
namespace Go.Proofs.YtafchcmemeinlaaDoor
open Go.RowKit

theorem asNat_ok {m : M} {a : AV} {b : Bool} {i : Nat} {v : Value} (h : asNat a = some (b, i)) (hb : b = true) (hv : VR m a v) : ∃ k n, v = .int k n ∧ 0 ≤ n ∧ i = n.toNat := by
  match a, h, hv with
  | .int k n, h, hv =>
    simp only [asNat, Option.some.injEq, Prod.mk.injEq] at h
    obtain ⟨rfl, rfl⟩ := h
    simp only [VR] at hv
    exact ⟨k, n, hv, by simpa using hb, rfl⟩

section
variable {P : Program} {gl : Nat → Option (List AV)} {m : M} {H : List Blk} {w : World} {ρ : Operand → Value} {ev : AO → AV}

theorem bnd_ok (hρ : ∀ x, VR m (ev (cO x)) (ρ x)) {lo : Option Operand} {d l : Nat} {p : Bool} (h : bnd ev (lo.map cO) d = some (p, l)) (hp : p = true) :
    (lo = none ∧ l = d) ∨ (∃ x k n, lo = some x ∧ ρ x = .int k n ∧ 0 ≤ n ∧ l = n.toNat) := by
  cases lo with
  | none => simp only [Option.map_none, bnd] at h; cases h; exact .inl ⟨rfl, rfl⟩
  | some x =>
    simp only [Option.map_some, bnd] at h
    obtain ⟨k, n, h1, h2, h3⟩ := asNat_ok h hp (hρ x)
    exact .inr ⟨x, k, n, rfl, h1, h2, h3⟩

theorem bounds_ok (hρ : ∀ x, VR m (ev (cO x)) (ρ x)) {lo hi : Option Operand} {d l h : Nat} {p : Bool} (hb : pairOf (bnd ev (lo.map cO) 0) (bnd ev (hi.map cO) d) = some (p, l, h)) (hp : p = true)
    (isSlice : Bool) (cap : Nat) (hl : l ≤ h) (hh : h ≤ cap) : (Instr.sliceBounds isSlice d cap (lo.map ρ) (hi.map ρ) none).run P w = .ok (l, h, cap) w := by
  unfold pairOf at hb
  split at hb
  · rename_i p1 l1 p2 h1 e1 e2
    cases hb
    simp only [Bool.and_eq_true] at hp
    have b1 := bnd_ok hρ e1 hp.1
    have b2 := bnd_ok hρ e2 hp.2
    rcases b1 with ⟨rfl, rfl⟩ | ⟨x, k, n, rfl, hx, hn, rfl⟩ <;> rcases b2 with ⟨rfl, rfl⟩ | ⟨y, k', n', rfl, hy, hn', rfl⟩
    · simp [Instr.sliceBounds]
    · have : 0 ≤ n' ∧ n' ≤ (cap : Int) := ⟨hn', by omega⟩
      cases isSlice <;> simp [Instr.sliceBounds, Instr.sliceBound, asIntOf, hy, this]
    · have : 0 ≤ n ∧ n ≤ (h : Int) := ⟨hn, by omega⟩
      simp [Instr.sliceBounds, Instr.sliceBound, asIntOf, hx, this]
    · have h1 : 0 ≤ n' ∧ n' ≤ (cap : Int) := ⟨hn', by omega⟩
      have h2 : 0 ≤ n ∧ n ≤ n' := ⟨hn, by omega⟩
      have h3 : (n'.toNat : Int) = n' := by omega
      cases isSlice <;> simp [Instr.sliceBounds, Instr.sliceBound, asIntOf, hx, hy, h1, h2, h3]
  · cases hb

theorem lop_move (hρ : ∀ x, VR m (ev (cO x)) (ρ x)) {o : Oper} {x : Operand} (ho : o.op = .move x ∨ o.op = .assign x) (nid : Nat) : LopOk P m w ρ o nid { v := ev (cO x) } := by
  refine .inl ⟨rfl, ρ x, ?_, hρ x⟩
  rcases ho with h | h <;> simp [execOp, h]

theorem Ext.of_strip (m : M) : Ext m.strip m := ⟨fun _ _ h => (by cases h), rfl, fun _ _ h => (by cases h), fun _ _ _ h => h⟩

/-- the cells behind a pointer into a frozen block -/
theorem HR.lptr (hH : HR gl m H w) {t : Nat} {l : List AV} {off : Nat} {v : Value} (h : VR m (.lptr t l off) v) {n : Nat} (hn : off + n ≤ l.length) :
    ∃ b o, v = .pointer (some ⟨b, o + off, none⟩) ∧ ∃ us : List Value, us.length = n ∧ (∀ (j : Nat) u, us[j]? = some u → w.cell? ⟨b, o + off + j, none⟩ = some u) ∧ VRL m ((l.drop off).take n) us := by
  simp only [VR] at h
  obtain ⟨_, b, o, cs, h1, h2, h3, h4⟩ := h
  obtain ⟨cu, e, fr, h5, h6⟩ := hH.frz _ _ _ h2
  refine ⟨b, o, h1, (((cs.drop o).take l.length).drop off).take n, by simp; omega, fun j u hj => ?_, VRL.mono (Ext.of_strip m) _ _ ((h4.drop off).take n)⟩
  rw [cell_of_row w b (o + off + j) cu e fr h5]
  simp only [List.getElem?_take, List.getElem?_drop] at hj
  split at hj
  · split at hj
    · rw [← h6, List.getElem?_take] at hj
      split at hj
      · rw [← Array.getElem?_toList, Nat.add_assoc]; exact hj
      · cases hj
    · cases hj
  · cases hj

/-- the cells of a frozen slice -/
theorem HR.lst (hH : HR gl m H w) {t : Nat} {l : List AV} {len sz : Nat} {v : Value} (h : VR m (.lst t l len sz) v) :
    l.length = len * sz ∧ ∃ oa cap, v = .slice oa len cap ∧ len ≤ cap ∧ ∃ us : List Value, us.length = l.length ∧ VRL m l us ∧
      ((∃ b o, oa = some ⟨b, o, none⟩ ∧ ∀ (j : Nat) u, us[j]? = some u → w.cell? ⟨b, o + j, none⟩ = some u) ∨ (len = 0 ∧ us = [] ∧ (oa = none → cap = 0))) := by
  simp only [VR] at h
  obtain ⟨_, hl, a, cap, h1, h2, h3⟩ := h
  refine ⟨hl, a, cap, h1, h2, ?_⟩
  rcases h3 with ⟨a, cs, rfl, f0, f1, f2, f3⟩ | ⟨h0, rfl, h4⟩
  · obtain ⟨cu, e, fr, h5, h6⟩ := hH.frz _ _ _ f1
    obtain ⟨b, o, sp⟩ := a
    simp only at f0 f1 f2 f3 h5
    subst f0
    refine ⟨(cs.drop o).take l.length, by simp; omega, VRL.mono (Ext.of_strip m) _ _ f3, .inl ⟨b, o, rfl, fun j u hj => ?_⟩⟩
    rw [cell_of_row w b (o + j) cu e fr h5]
    simp only [List.getElem?_take, List.getElem?_drop] at hj
    split at hj
    · rw [← h6, List.getElem?_take] at hj
      split at hj
      · rw [← Array.getElem?_toList]; exact hj
      · cases hj
    · cases hj
  · exact ⟨[], rfl, by simp, .inr ⟨h0, rfl, h4⟩⟩

theorem lop_load (hH : HR gl m H w) (hρ : ∀ x, VR m (ev (cO x)) (ρ x)) {o : Oper} {t : TypeId} {x : Operand} (ho : o.op = .load t x) (nid : Nat) {r : LR}
    (h : lop gl ev (cur H) (cellsAt H) nid (cOp P o.op) = some r) (hp : r.pre = true) : LopOk P m w ρ o nid r := by
  rw [ho] at h
  simp only [cOp] at h
  split at h
  · rename_i hk
    simp only [lop] at h
    have hx := hρ x
    have key : ∀ (b o2 : Nat) (vs : List Value), ρ x = .pointer (some ⟨b, o2, none⟩) → (∀ j v, vs[j]? = some v → w.cell? ⟨b, o2 + j, none⟩ = some v) → vs.length = (if aggT P t then szT P t else 1) →
        ∃ v, (execOp ρ o).run P w = .ok (.value v) w ∧ (if aggT P t then v = .agg vs.toArray else vs = [v]) := by
      intro b o2 vs he hc hn
      obtain ⟨v, hv, hv2⟩ := run_loadVar (w := w) hk b o2 vs hc hn
      refine ⟨v, ?_, hv2⟩
      simp only [execOp, ho]
      exact execV (by simp [Instr.loadAt, Instr.sureAddr, he, hv])
    split at h
    · rename_i id tot off he
      rw [he] at hx
      cases ha : aggT P t
      · rw [ha] at h
        simp only [cond_false, Option.some.injEq] at h
        subst h
        simp only [Bool.and_eq_true, blt_iff] at hp
        obtain ⟨I, hI, hIt, hv⟩ := hH.ptr hx hp.1
        obtain ⟨vs, h1, h2, h3⟩ := hH.cells (n := 1) hp.1 hI (by omega : off + 1 ≤ tot)
        obtain ⟨v, hr, hv2⟩ := key _ _ vs hv h2 (by simp [ha, h1])
        simp only [ha, Bool.false_eq_true, if_false] at hv2
        refine .inl ⟨rfl, v, hr, ?_⟩
        subst hv2
        cases hc : cellsAt H id off 1 with
        | nil => rw [hc] at h3; simp at h3
        | cons a l =>
          rw [hc] at h3
          simp only [VRL_cons] at h3
          exact h3.1
      · rw [ha] at h
        simp only [cond_true, Option.some.injEq] at h
        subst h
        simp only [Bool.and_eq_true, Nat.ble_eq] at hp
        obtain ⟨I, hI, hIt, hv⟩ := hH.ptr hx hp.1
        obtain ⟨vs, h1, h2, h3⟩ := hH.cells (n := szT P t) hp.1 hI hp.2
        obtain ⟨v, hr, hv2⟩ := key _ _ vs hv h2 (by simp [ha, h1])
        simp only [ha, if_true] at hv2
        refine .inl ⟨rfl, v, hr, ?_⟩
        subst hv2
        simp only [VR]
        exact ⟨_, rfl, by simpa using h3⟩
    · rename_i g off he
      rw [he] at hx
      simp only [VR] at hx
      split at h
      · rename_i cs hg
        obtain ⟨cu, e, fr, hrow, hcs⟩ := hH.glb g cs hg
        have hlen : cs.length = cu.size := by simpa using hcs.len
        cases ha : aggT P t
        · rw [ha] at h
          simp only [cond_false, Option.some.injEq] at h
          subst h
          simp only [blt_iff] at hp
          obtain ⟨v, hr, hv2⟩ := key g off [cu.toList.getD off default] hx (by
            intro j v hj
            cases j with
            | zero =>
              simp at hj
              have ho : off < cu.size := by omega
              rw [cell_of_row w g (off + 0) cu e fr hrow, ← hj]
              simp [ho]
            | succ j => simp at hj) (by simp [ha])
          simp only [ha, Bool.false_eq_true, if_false] at hv2
          refine .inl ⟨rfl, v, hr, ?_⟩
          have ha2 : cs[off]? = some (cs.getD off .undef) := by simp [hp]
          obtain ⟨v', hv', hR⟩ := hcs.get ha2
          have : v' = v := by
            have e1 : cu.toList.getD off default = v := by simpa using hv2
            rw [← e1]
            simp only [List.getD_eq_getElem?_getD, hv', Option.getD_some]
          subst this
          exact hR
        · rw [ha] at h
          simp only [cond_true, Option.some.injEq] at h
          subst h
          simp only [Nat.ble_eq] at hp
          obtain ⟨v, hr, hv2⟩ := key g off ((cu.toList.drop off).take (szT P t)) hx (by
            intro j v hj
            rw [cell_of_row w g (off + j) cu e fr hrow]
            simp only [List.getElem?_take, List.getElem?_drop] at hj
            split at hj
            · rw [← Array.getElem?_toList]; exact hj
            · cases hj) (by simp [ha]; omega)
          simp only [ha, if_true] at hv2
          refine .inl ⟨rfl, v, hr, ?_⟩
          subst hv2
          simp only [VR]
          exact ⟨_, rfl, by simpa using (hcs.drop off).take (szT P t)⟩
      · cases h
    · rename_i t' l off he
      rw [he] at hx
      cases ha : aggT P t
      · rw [ha] at h
        simp only [cond_false, Option.some.injEq] at h
        subst h
        simp only [blt_iff] at hp
        obtain ⟨b, o2, hv, us, h1, h2, h3⟩ := hH.lptr hx (n := 1) (by omega)
        obtain ⟨v, hr, hv2⟩ := key _ _ us hv h2 (by simp [ha, h1])
        simp only [ha, Bool.false_eq_true, if_false] at hv2
        refine .inl ⟨rfl, v, hr, ?_⟩
        subst hv2
        have e1 : (l.drop off).take 1 = [l.getD off .undef] := by
          rw [List.take_one, List.head?_drop]
          simp [hp]
        rw [e1] at h3
        simp only [VRL_cons] at h3
        exact h3.1
      · rw [ha] at h
        simp only [cond_true, Option.some.injEq] at h
        subst h
        simp only [Nat.ble_eq] at hp
        obtain ⟨b, o2, hv, us, h1, h2, h3⟩ := hH.lptr hx (n := szT P t) hp
        obtain ⟨v, hr, hv2⟩ := key _ _ us hv h2 (by simp [ha, h1])
        simp only [ha, if_true] at hv2
        refine .inl ⟨rfl, v, hr, ?_⟩
        subst hv2
        simp only [VR]
        exact ⟨_, rfl, by simpa using h3⟩
    · cases h
  · simp [lop] at h

theorem lop_nilck (hH : HR gl m H w) (hρ : ∀ x, VR m (ev (cO x)) (ρ x)) {o : Oper} {x : Operand} (ho : o.op = .nilCheck x) (nid : Nat) {r : LR}
    (h : lop gl ev (cur H) (cellsAt H) nid (cOp P o.op) = some r) (hp : r.pre = true) : LopOk P m w ρ o nid r := by
  rw [ho] at h
  simp only [cOp, lop] at h
  have hx := hρ x
  split at h
  · rename_i id tot off he
    rw [he] at hx
    cases h
    obtain ⟨I, hI, hIt, hv⟩ := hH.ptr hx hp
    exact .inl ⟨rfl, ρ x, by simp [execOp, ho, hv], hx⟩
  · rename_i g off he
    rw [he] at hx
    cases h
    have hv := hx
    simp only [VR] at hv
    exact .inl ⟨rfl, ρ x, by simp [execOp, ho, hv], hx⟩
  · rename_i f a b he
    rw [he] at hx
    cases h
    have hv := hx
    simp only [VR] at hv
    obtain ⟨x', y', hv, _⟩ := hv
    exact .inl ⟨rfl, ρ x, by simp [execOp, ho, hv], hx⟩
  · rename_i t v he
    rw [he] at hx
    cases h
    have hv := hx
    simp only [VR] at hv
    obtain ⟨x', hv, _⟩ := hv
    exact .inl ⟨rfl, ρ x, by simp [execOp, ho, hv], hx⟩
  · rename_i t l off he
    rw [he] at hx
    cases h
    have hv := hx
    simp only [VR] at hv
    obtain ⟨_, b, o2, cs, hv, _⟩ := hv
    exact .inl ⟨rfl, ρ x, by simp [execOp, ho, hv], hx⟩
  · cases h

theorem lop_pick (hρ : ∀ x, VR m (ev (cO x)) (ρ x)) {o : Oper} {c a b : Operand} (ho : o.op = .pick c a b) (nid : Nat) {r : LR} {cu ca}
    (h : lop gl ev cu ca nid (cOp P o.op) = some r) : LopOk P m w ρ o nid r := by
  rw [ho] at h
  simp only [cOp, lop] at h
  have hc := hρ c
  split at h
  · rename_i t he
    rw [he] at hc
    cases h
    simp only [VR] at hc
    refine .inl ⟨rfl, if t then ρ a else ρ b, by simp [execOp, ho, hc, asBool], ?_⟩
    cases t
    · exact hρ b
    · exact hρ a
  · cases h

theorem lop_un (hρ : ∀ x, VR m (ev (cO x)) (ρ x)) {o : Oper} {op : UnOp} {t : TypeId} {x : Operand} (ho : o.op = .unOp op t x) (nid : Nat) {r : LR} {cu ca}
    (bits : ∀ op k a b v, intBits op k a b = some v → ∀ w : World, ∃ v', (Op.intBits op k a b).run P w = .ok v' w ∧ VR m v v')
    (h : lop gl ev cu ca nid (cOp P o.op) = some r) : LopOk P m w ρ o nid r := by
  rw [ho] at h
  simp only [cOp, lop] at h
  have hx := hρ x
  split at h
  · rename_i v he
    cases h
    unfold unop at he
    split at he
    · rename_i k n hn
      rw [hn] at hx
      simp only [VR] at hx
      cases he
      exact .inl ⟨rfl, _, by simp only [execOp, ho]; exact execV (by simp [Op.unary, hx, Op.intArith]; rfl), by simp [VR]⟩
    · rename_i k n hn
      rw [hn] at hx
      simp only [VR] at hx
      obtain ⟨v', hv', hR⟩ := bits _ _ _ _ _ he w
      exact .inl ⟨rfl, v', by simp only [execOp, ho]; exact execV (by simp only [Op.unary, hx]; exact hv'), hR⟩
    · rename_i b hn
      rw [hn] at hx
      simp only [VR] at hx
      cases he
      exact .inl ⟨rfl, .bool !b, by simp only [execOp, ho]; exact execV (by simp [Op.unary, hx]), by simp [VR]⟩
    · cases he
  · cases h

theorem lop_mkif (hρ : ∀ x, VR m (ev (cO x)) (ρ x)) {o : Oper} {t : TypeId} {x : Operand} (ho : o.op = .makeInterface t x) (nid : Nat) {r : LR} {cu ca}
    (h : lop gl ev cu ca nid (cOp P o.op) = some r) : LopOk P m w ρ o nid r := by
  rw [ho] at h
  simp only [cOp] at h
  split at h
  · simp [lop] at h
  · simp [lop] at h
  · rename_i d h1 h2
    simp only [lop, Option.some.injEq] at h
    subst h
    refine .inl ⟨rfl, .iface t (ρ x), ?_, by simp only [VR]; exact ⟨_, rfl, hρ x⟩⟩
    simp only [execOp, ho]
    refine execV ?_
    have hu : P.underlying t = some (und P t) := und_some rfl (fun e => h2 e)
    simp only [Instr.makeInterface, Sem.run_bind, run_underlying hu, Result.andThen_ok]
    revert h1
    cases und P t <;> intro h1 <;> first | rfl | exact absurd rfl (h1 _)

theorem mapVRL (hρ : ∀ x, VR m (ev (cO x)) (ρ x)) (l : List Operand) : VRL m ((l.map cO).map ev) (l.map ρ) := by
  induction l with
  | nil => simp
  | cons x l ih => simp only [List.map_cons, VRL_cons]; exact ⟨hρ x, ih⟩

theorem lop_mkfn (hρ : ∀ x, VR m (ev (cO x)) (ρ x)) {o : Oper} {f : Fn} {a b : Array Operand} (ho : o.op = .makeFunc f a b) (nid : Nat) {r : LR} {cu ca}
    (h : lop gl ev cu ca nid (cOp P o.op) = some r) : LopOk P m w ρ o nid r := by
  rw [ho] at h
  simp only [cOp, lop, Option.some.injEq] at h
  subst h
  refine .inl ⟨rfl, .func f (a.map ρ) (b.map ρ), by simp [execOp, ho, Instr.makeFunc], ?_⟩
  simp only [VR]
  exact ⟨_, _, rfl, by simpa using mapVRL hρ a.toList, by simpa using mapVRL hρ b.toList⟩

theorem lop_ext (hρ : ∀ x, VR m (ev (cO x)) (ρ x)) {o : Oper} {x : Operand} {i : Nat} (ho : o.op = .extract x i) (nid : Nat) {r : LR} {cu ca}
    (h : lop gl ev cu ca nid (cOp P o.op) = some r) (hp : r.pre = true) : LopOk P m w ρ o nid r := by
  rw [ho] at h
  simp only [cOp, lop] at h
  have hx := hρ x
  split at h
  · rename_i vs he
    rw [he] at hx
    cases h
    simp only [blt_iff] at hp
    simp only [VR] at hx
    obtain ⟨cs, hv, hl⟩ := hx
    obtain ⟨v, hv1, hv2⟩ := hl.get (i := i) (a := vs.getD i .undef) (by simp [hp])
    refine .inl ⟨rfl, v, ?_, hv2⟩
    rw [Array.getElem?_toList] at hv1
    simp [execOp, ho, Instr.extract, hv, hv1]
  · cases h

theorem part_ok {t : TypeId} (ht : knownT P t = true) {off : Nat} {l : List AV} {cs : Array Value} (hl : VRL m l cs.toList) (hp : aggT P t = true ∨ off < l.length) :
    ∃ v, (part t cs off).run P w = .ok v w ∧ VR m (partOf (ptT P t off) l) v := by
  by_cases ha : aggT P t = true
  · refine ⟨.agg (cs.extract off (off + szT P t)), by simp [part, run_isAgg ht, ha, run_size ht], ?_⟩
    simp only [partOf, ptT, ha, cond_true, VR]
    refine ⟨_, rfl, ?_⟩
    have := (hl.drop off).take (szT P t)
    simpa [Array.toList_extract, List.extract] using this
  · have ha' : aggT P t = false := by simpa using ha
    have ho : off < l.length := hp.resolve_left ha
    obtain ⟨v, hv1, hv2⟩ := hl.get (i := off) (a := l.getD off .undef) (by simp [ho])
    rw [Array.getElem?_toList] at hv1
    exact ⟨v, by simp [part, run_isAgg ht, ha', hv1], by simpa [partOf, ptT, ha'] using hv2⟩

theorem lop_field (hρ : ∀ x, VR m (ev (cO x)) (ρ x)) {o : Oper} {t : TypeId} {x : Operand} {i : Nat} (ho : o.op = .field t x i) (nid : Nat) {r : LR} {cu ca}
    (h : lop gl ev cu ca nid (cOp P o.op) = some r) (hp : r.pre = true) : LopOk P m w ρ o nid r := by
  rw [ho] at h
  simp only [cOp] at h
  split at h
  · rename_i fs hu
    split at h
    · rename_i f hf
      split at h
      · rename_i hk
        simp only [lop] at h
        have hx := hρ x
        split at h
        · rename_i l he
          rw [he] at hx
          cases h
          simp only [VR] at hx
          obtain ⟨cs, hv, hl⟩ := hx
          simp only [Bool.or_eq_true, blt_iff] at hp
          obtain ⟨v, hv1, hv2⟩ := part_ok (P := P) (w := w) hk hl hp
          refine .inl ⟨rfl, v, ?_, hv2⟩
          simp only [execOp, ho]
          exact execV (by simp [Instr.field, run_und hu (by simp), hf, hv, asAgg]; exact hv1)
        · cases h
      · simp [lop] at h
    · simp [lop] at h
  · simp [lop] at h

theorem lop_fa (hH : HR gl m H w) (hρ : ∀ x, VR m (ev (cO x)) (ρ x)) {o : Oper} {t : TypeId} {x : Operand} {i : Nat} (ho : o.op = .fieldAddr t x i) (nid : Nat) {r : LR}
    (h : lop gl ev (cur H) (cellsAt H) nid (cOp P o.op) = some r) (hp : r.pre = true) : LopOk P m w ρ o nid r := by
  rw [ho] at h
  simp only [cOp] at h
  split at h
  · rename_i fs hu
    split at h
    · rename_i f hf
      split at h
      · rename_i hk
        simp only [Bool.and_eq_true, blt_iff] at hk
        have hs : szT P f.type ≠ 0 := by omega
        simp only [lop] at h
        have hx := hρ x
        have key : ∀ b d, ρ x = .pointer (some ⟨b, d, none⟩) → (execOp ρ o).run P w = .ok (.value (.pointer (some ⟨b, d + f.offset, none⟩))) w := by
          intro b d hv
          simp only [execOp, ho]
          exact execV (by simp [Instr.fieldAt, run_und hu (by simp), hf, Instr.sureAddr, hv, fieldPlace, run_size hk.1, hs, Addr.add_lit])
        split at h
        · rename_i id tot off he
          rw [he] at hx
          cases h
          obtain ⟨I, hI, hIt, hv⟩ := hH.ptr hx hp
          refine .inl ⟨rfl, _, key _ _ hv, ?_⟩
          simp only [VR]
          exact ⟨rfl, I, hI, by omega, fun _ => by rw [Nat.add_assoc]⟩
        · rename_i g off he
          rw [he] at hx
          cases h
          simp only [VR] at hx
          exact .inl ⟨rfl, _, key _ _ hx, by simp [VR]⟩
        · rename_i t' l off he
          rw [he] at hx
          cases h
          simp only [VR] at hx
          obtain ⟨_, b, o2, cs, hv, h2, h3, h4⟩ := hx
          refine .inl ⟨rfl, _, key _ _ hv, ?_⟩
          simp only [VR]
          exact ⟨rfl, b, o2, cs, by rw [Nat.add_assoc], h2, h3, h4⟩
        · cases h
      · simp [lop] at h
    · simp [lop] at h
  · simp [lop] at h
end
end Go.Proofs.YtafchcmemeinlaaDoor
