/-
  A small library of this claim's own, over any program: slices that a call owns or reads, as lists of cells; append, make, the conversions between strings and octets, as laws for the walk.
-/
import Derived.WalkKit
import Derived.WalkSpells
import Derived.WalkLawsBesides
import Derived.Test.YtlfbaakndklncaaRows
namespace Go.Proofs.Ytlfbaakndklncaa
open Go.RowKit

theorem hid {p : Prop} (h : p) : Hid p := h

theorem ret2 {a b c d : Value} (h : a = b) (h' : c = d) : Ending.returned (.tuple #[a, c]) = .returned (.tuple #[b, d]) := by rw [h, h']
theorem vint {k : IntKind} {a b : Int} (h : a = b) : Value.int k a = .int k b := by rw [h]
theorem vstr {a b : List UInt8} (h : a = b) : Value.string ⟨a.toArray⟩ = .string ⟨b.toArray⟩ := by rw [h]

theorem b_alloc {B : Nat} {a w : World} {o : Obj} (hB : B ≤ w.heap.size) (h : Below B a w) : Below B a (w.alloc o) := h.alloc hB o
theorem b_set {B : Nat} {a w : World} {p : Addr} {u : Value} (hp : B ≤ p.block) (h : Below B a w) : Below B a (w.setCell p u) := h.setCell hp u
theorem b_drew {B : Nat} {a w : World} (h : Below B a w) : Below B a w.drew := h.drew
theorem b_drewN {B n : Nat} {a w : World} (h : Below B a w) : Below B a (w.drewN n) := below_drewN h n
theorem b_call {B : Nat} {a w w1 : World} (hb : Below w.heap.size w w1) (hB : B ≤ w.heap.size) (h : Below B a w) : Below B a w1 := h.trans (hb.mono hB)
theorem b_grown {B : Nat} {a w w1 : World} {row : Option Nat} (hg : w.grownBy w1 row) (hB : B ≤ w.heap.size) (hr : ∀ k, row = some k → B ≤ k) (h : Below B a w) : Below B a w1 := h.grown hg hB hr
/-- a mark that freezes none of n cells -/
def MkS (lo hi n : Nat) : Prop := hi ≤ lo ∨ n ≤ lo

theorem storeCells_mk (P : Program) (g o : Nat) (t : TypeId) (lo hi : Nat) : ∀ (vs : List Value) (i : Nat) (cur : Array Value) (w : World), w.heap[g]? = some (.cells cur t (lo, hi)) → MkS lo hi cur.size → o + i + vs.length ≤ cur.size → (∀ v ∈ vs, v.oneCell' = true) →
    (storeCells ⟨g, o, none⟩ vs i).run P w = .ok () (w.setRow g (cur.toList.take (o + i) ++ vs ++ cur.toList.drop (o + i + vs.length)).toArray)
  | [], i, cur, w, hg, _, _, _ => by
    simp only [storeCells, List.append_nil, List.length_nil, Nat.add_zero, List.take_append_drop, Array.toArray_toList]
    rw [setRow_self w g cur t _ hg]
    rfl
  | v :: rest, i, cur, w, hg, hm, hl, h1 => by
    have hi' : o + i < cur.size := by simp at hl; omega
    have hadd : (⟨g, o, none⟩ : Addr).add i = ⟨g, o + i, none⟩ := by unfold Addr.add; split <;> simp_all
    have hcell : w.cell? ⟨g, o + i, none⟩ = some cur[o + i] := by simp [World.cell?, hg, hi']
    have hfro : w.frozen? ⟨g, o + i, none⟩ = false := by
      simp only [World.frozen?, hg, Bool.and_eq_false_iff, decide_eq_false_iff_not]
      rcases hm with h | h <;> omega
    have hst : (store ((⟨g, o, none⟩ : Addr).add i) v).run P w = .ok () (w.setRow g (cur.setIfInBounds (o + i) v)) := by
      rw [hadd, run_store P w _ v _ (h1 v (by simp)), hcell]
      simp [hfro, setCell_eq_setRow w g (o + i) cur t (lo, hi) v hg]
    have ih := storeCells_mk P g o t lo hi rest (i + 1) (cur.setIfInBounds (o + i) v) (w.setRow g (cur.setIfInBounds (o + i) v)) (setRow_heap w g cur _ t _ hg) (by simpa using hm) (by simp at hl ⊢; omega) (fun x hx => h1 x (by simp [hx]))
    simp only [storeCells, Sem.run_bind, hst, Result.andThen_ok, ih, setRow_setRow]
    congr 3
    have e := list_seg_step cur.toList (o + i) v rest (by simp at hl ⊢; omega)
    simpa [Array.toList_setIfInBounds, Nat.add_assoc] using e

/-- the slice (ao, n, cap), of elements of type e of 'size' cells each, holds the cells xs, in a block from 'base' on that nothing is frozen in -/
def Sl (w : World) (base : Nat) (e : TypeId) (size : Nat) (ao : Option Addr) (n cap : Nat) (xs : List Value) : Prop :=
  xs.length = n * size ∧ n ≤ cap ∧ cap ≤ maxLen ∧
  ((ao = none ∧ n = 0 ∧ cap = 0) ∨
   ∃ g off cur lo hi, ao = some ⟨g, off, none⟩ ∧ base ≤ g ∧ w.heap[g]? = some (.cells cur e (lo, hi)) ∧ MkS lo hi cur.size ∧ off + cap * size ≤ cur.size ∧ (cur.toList.drop off).take (n * size) = xs)

/-- what can be read through (ao, n): the cells xs -/
def Rd (w : World) (ao : Option Addr) (xs : List Value) : Prop :=
  0 < xs.length → ∃ g off, ao = some ⟨g, off, none⟩ ∧ g < w.heap.size ∧ ∀ j, j < xs.length → w.cell? ⟨g, off + j, none⟩ = some (xs.getD j undef)

section
variable {w w' : World} {base : Nat} {e : TypeId} {size : Nat} {ao : Option Addr} {n cap : Nat} {xs : List Value}

theorem Sl.nil (w : World) (base : Nat) (e : TypeId) (size : Nat) : Sl w base e size none 0 0 [] := ⟨by simp, Nat.le_refl _, Nat.zero_le _, .inl ⟨rfl, rfl, rfl⟩⟩

theorem Sl.rd (h : Sl w base e size ao n cap xs) : Rd w ao xs := by
  intro h0
  obtain ⟨hl, hn, hc, h⟩ := h
  rcases h with ⟨rfl, rfl, rfl⟩ | ⟨g, off, cur, lo, hi, rfl, hb, hg, hm, hs, ht⟩
  · simp at hl; simp [hl] at h0
  · refine ⟨g, off, rfl, (Array.getElem?_eq_some_iff.1 hg).1, fun j hj => ?_⟩
    have h1 : n * size ≤ cap * size := Nat.mul_le_mul_right _ hn
    have hj2 : off + j < cur.size := by omega
    rw [cell_of_row w g (off + j) cur e (lo, hi) hg]
    have e1 : xs[j]? = cur.toList[off + j]? := by
      rw [← ht, List.getElem?_take, if_pos (by omega), List.getElem?_drop]
    simp only [List.getD_eq_getElem?_getD, e1]
    simp [hj2]

/-- one block of the world is as it was -/
theorem Sl.keep (h : Sl w base e size ao n cap xs) (hk : ∀ a, ao = some a → w'.heap[a.block]? = w.heap[a.block]?) : Sl w' base e size ao n cap xs := by
  obtain ⟨hl, hn, hc, h⟩ := h
  refine ⟨hl, hn, hc, ?_⟩
  rcases h with h | ⟨g, off, cur, lo, hi, rfl, hb, hg, r⟩
  · exact .inl h
  · exact .inr ⟨g, off, cur, lo, hi, rfl, hb, (hk _ rfl).trans hg, r⟩

theorem Sl.lt (h : Sl w base e size ao n cap xs) : ∀ a, ao = some a → base ≤ a.block ∧ a.block < w.heap.size := by
  intro a ha
  rcases h.2.2.2 with ⟨rfl, _⟩ | ⟨g, off, cur, lo, hi, rfl, hb, hg, _⟩
  · cases ha
  · cases ha; exact ⟨hb, (Array.getElem?_eq_some_iff.1 hg).1⟩

theorem Sl.below (h : Sl w base e size ao n cap xs) (hb : Below w.heap.size w w') : Sl w' base e size ao n cap xs :=
  h.keep fun a ha => hb.block _ (h.lt a ha).2

theorem Sl.alloc (h : Sl w base e size ao n cap xs) (o : Obj) : Sl (w.alloc o) base e size ao n cap xs :=
  h.keep fun a ha => Below.heap_alloc _ _ _ (h.lt a ha).2

theorem Sl.drew (h : Sl w base e size ao n cap xs) : Sl w.drew base e size ao n cap xs := h

theorem Sl.mono {base' : Nat} (h : Sl w base e size ao n cap xs) (hb : base' ≤ base) : Sl w base' e size ao n cap xs := by
  obtain ⟨hl, hn, hc, h⟩ := h
  refine ⟨hl, hn, hc, ?_⟩
  rcases h with h | ⟨g, off, cur, lo, hi, rfl, hb', r⟩
  · exact .inl h
  · exact .inr ⟨g, off, cur, lo, hi, rfl, by omega, r⟩

theorem Sl.lit (w : World) (cs : Array Value) (n : Nat) (hb : base ≤ w.heap.size) (hm : n ≤ maxLen) (hs : cs.size = n * size) :
    Sl (w.alloc (.cells cs e)) base e size (some ⟨w.heap.size, 0, none⟩) n n cs.toList :=
  ⟨by simpa using hs, Nat.le_refl _, hm, .inr ⟨w.heap.size, 0, cs, 0, 0, rfl, hb, heap_alloc_new w _, .inl (Nat.le_refl _), by omega, by rw [← hs, List.drop_zero, ← Array.length_toList, List.take_length]⟩⟩

theorem Rd.keep (h : Rd w ao xs) (hk : ∀ a, ao = some a → a.block < w.heap.size → w'.heap[a.block]? = w.heap[a.block]?) (hs : w.heap.size ≤ w'.heap.size) : Rd w' ao xs := by
  intro h0
  obtain ⟨g, off, rfl, hg, hc⟩ := h h0
  exact ⟨g, off, rfl, by omega, fun j hj => (World.cell?_of_block (w := w) (a := ⟨g, off + j, none⟩) (by have := hk ⟨g, off, none⟩ rfl hg; exact this)).trans (hc j hj)⟩

theorem Rd.below (h : Rd w ao xs) (hb : Below w.heap.size w w') : Rd w' ao xs := h.keep (fun _ _ hl => hb.block _ hl) hb.size
theorem Rd.alloc (h : Rd w ao xs) (o : Obj) : Rd (w.alloc o) ao xs := h.keep (fun _ _ hl => Below.heap_alloc _ _ _ hl) (by simp)
theorem Rd.drew (h : Rd w ao xs) : Rd w.drew ao xs := h

/-- a cell of what is read -/
theorem Rd.cell (h : Rd w ao xs) {j : Nat} (hj : j < xs.length) : ∃ g off, ao = some ⟨g, off, none⟩ ∧ g < w.heap.size ∧ w.cell? ⟨g, off + j, none⟩ = some (xs.getD j undef) := by
  obtain ⟨g, off, h1, h2, h3⟩ := h (by omega)
  exact ⟨g, off, h1, h2, h3 j hj⟩
end

theorem szL (s : ByteArray) : s.data.toList.length = s.size := by rw [Array.length_toList]; rfl

/-- octets as cells -/
def cellsOf (l : List UInt8) : List Value := l.map fun c => .int .u8 (c.toNat : Int)
@[simp] theorem length_cellsOf (l : List UInt8) : (cellsOf l).length = l.length := by simp [cellsOf]
theorem cellsOf_append (a b : List UInt8) : cellsOf (a ++ b) = cellsOf a ++ cellsOf b := by simp [cellsOf]
theorem cellsOf_getD (l : List UInt8) (j : Nat) (hj : j < l.length) : (cellsOf l).getD j undef = .int .u8 ((l[j]'hj).toNat : Int) := by
  simp [cellsOf, List.getD_eq_getElem?_getD, hj]
/-- an octet of what is read -/
theorem Rd.byte {w : World} {ao : Option Addr} {l : List UInt8} (h : Rd w ao (cellsOf l)) {j : Nat} (hj : j < l.length) : ∃ g off, ao = some ⟨g, off, none⟩ ∧ g < w.heap.size ∧ w.cell? ⟨g, off + j, none⟩ = some (.int .u8 ((l[j]'hj).toNat : Int)) := by
  obtain ⟨g, off, h1, h2, h3⟩ := h.cell (j := j) (by simpa using hj)
  exact ⟨g, off, h1, h2, by rw [h3, cellsOf_getD l j hj]⟩
/-- integers as cells -/
def intsOf (k : IntKind) (l : List Int) : List Value := l.map (Value.int k)
@[simp] theorem length_intsOf (k : IntKind) (l : List Int) : (intsOf k l).length = l.length := by simp [intsOf]
section
variable {P : Program} (w : World)

theorem loadCells_rd {w : World} {g off : Nat} (xs : List Value) (h : ∀ j, j < xs.length → w.cell? ⟨g, off + j, none⟩ = some (xs.getD j undef)) : ∀ j v, xs[j]? = some v → w.cell? ((⟨g, off, none⟩ : Addr).add j) = some v := by
  intro j v hv
  have hj : j < xs.length := (List.getElem?_eq_some_iff.1 hv).1
  rw [Addr.add_lit, h j hj]
  simp [List.getD_eq_getElem?_getD, hv]

/-- 'string(b)' of octets -/
theorem run_string_rd (src dst e : TypeId) (hs : P.underlying src = some (.slice e)) (he : P.underlying e = some (.int .u8)) (hd : P.underlying dst = some .string)
    (ao : Option Addr) (cap : Nat) (l : List UInt8) (h : Rd w ao (cellsOf l)) :
    (convert src dst (.slice ao l.length cap)).run P w = .ok (.string ⟨l.toArray⟩) w := by
  rw [run_convert_bytes_string w src dst e ao l.length cap hs he hd]
  by_cases h0 : l.length = 0
  · have : l = [] := List.eq_nil_of_length_eq_zero h0
    subst this
    cases ao with
    | none => simp [Conv.bytesToString]; rfl
    | some a =>
      have := run_bytesToString (P := P) w a 0 cap [] (by simp [loadCells, loadCellsFrom])
      exact this
  · obtain ⟨g, off, rfl, _, hc⟩ := h (by simp; omega)
    have hl := run_loadCells_list (P := P) w ⟨g, off, none⟩ ((l.map (fun b => (b.toNat : Int))).map (Value.int .u8)) (by
      have := loadCells_rd (cellsOf l) hc
      simpa [cellsOf, List.map_map, Function.comp_def] using this)
    simp only [List.length_map] at hl
    rw [run_bytesToString w _ l.length cap _ hl, foldl_push_byteCells]
    have he0 : ByteArray.empty.data = #[] := rfl
    rw [he0]
    simp

theorem wpList_string {P : Program} {ops : Array Oper} {rest : List Oper} {o : Oper} {a : Act} {Q : Exit → Act → World → Prop}
    (hg : o.guard = none) (x : Operand) (src dst e : TypeId) (hop : o.op = Op.convert src dst x) (hs : P.underlying src = some (.slice e)) (he : P.underlying e = some (.int .u8)) (hd : P.underlying dst = some .string)
    (ao : Option Addr) (n cap : Nat) (hx : a.eval x = .slice ao n cap) (l : List UInt8) (hn : l.length = n) (h : Rd w ao (cellsOf l))
    (hK : wpList P ops Q rest (a.put o.dst (.string ⟨l.toArray⟩)) w) : wpList P ops Q (o :: rest) a w := by
  refine wpList_plain hg fun K hK' => ?_
  subst hn
  have hrun := run_string_rd (P := P) w src dst e hs he hd ao cap l h
  unfold Oper.wp
  simp [execOp, hop, hx, hrun, Result.andThen]
  exact hK' _ _ hK

/-- where an append may have written: the row that it was given, or a new one -/
def blockOf (ao : Option Addr) : Option Nat := ao.map (·.block)

theorem Sl.blk {w : World} {base : Nat} {e : TypeId} {size : Nat} {ao : Option Addr} {n cap : Nat} {xs : List Value} (h : Sl w base e size ao n cap xs) : ∀ k, blockOf ao = some k → base ≤ k := by
  intro k hk
  cases ao with
  | none => cases hk
  | some a => cases hk; exact (h.lt a rfl).1

/-- what lies in a new block can be read -/
theorem Rd.new (w : World) (cs : List Value) (e : TypeId) (fr : Nat × Nat) : Rd (w.alloc (.cells cs.toArray e fr)) (some ⟨w.heap.size, 0, none⟩) cs := by
  intro _
  refine ⟨w.heap.size, 0, rfl, by simp, fun j hj => ?_⟩
  rw [Nat.zero_add, World.cell?_alloc_mark]
  simp [List.getD_eq_getElem?_getD, hj]

/-- 'append' onto a slice that the call owns, from whatever can be read -/
theorem run_append_sl (base : Nat) (t ty e : TypeId) (i : TypeInfo) (z : Value) (size bytes : Nat) (ht : P.underlying t = some (.slice e)) (hi : P.info? e = some i) (hz : i.zero = some z)
    (hsize : i.size = size) (hby : i.bytes = bytes) (hzs : z.cells.size = size)
    (ao : Option Addr) (n cap : Nat) (xs : List Value) (hown : Sl w base e size ao n cap xs)
    (ad : Option Addr) (m c : Nat) (news : List Value) (hl : news.length = m * size) (hsz : 0 < size) (hrd : Rd w ad news) (had : ad = none → m = 0) (h1 : ∀ u ∈ news, u.oneCell' = true)
    (hbytes : (n + m) * bytes ≤ 140737488355328) (h63 : n + m ≤ maxLen) (hbase : base ≤ w.heap.size) :
    ∃ ao' cap' w', (Builtin.append_ #[t, t] ty #[.slice ao n cap, .slice ad m c]).run P w = .ok (.slice ao' (n + m) cap') w' ∧ Sl w' base e size ao' (n + m) cap' (xs ++ news) ∧ w.grownBy w' (blockOf ao) ∧
      (ao' = none → ao = none ∧ m = 0) := by
  subst hsize
  subst hby
  have hsmall : n + m ≤ 9223372036854775807 := by simp only [maxLen] at h63; omega
  obtain ⟨hxl, hnc, hcm, hown⟩ := hown
  have hlen : (xs ++ news).length = (n + m) * i.size := by rw [List.length_append, hxl, hl, Nat.add_mul]
  -- the new row
  have grown : ∀ (old : Nat), old < n + m → ∀ (row : Option Nat),
      Sl (w.drew.alloc (.cells (xs.toArray ++ news.toArray ++ Builtin.zeroCells z.cells (grownCap w (n + m) old e - (n + m))) e)) base e i.size
        (some ⟨w.heap.size, 0, none⟩) (n + m) (grownCap w (n + m) old e) (xs ++ news) ∧
      w.grownBy (w.drew.alloc (.cells (xs.toArray ++ news.toArray ++ Builtin.zeroCells z.cells (grownCap w (n + m) old e - (n + m))) e)) row := by
    intro old ho row
    have hge := grownCap_ge w (n + m) old e
    have hcm : grownCap w (n + m) old e ≤ maxLen := grownCap_le_maxLen w (n + m) old e h63
    refine ⟨⟨hlen, hge, hcm, .inr ⟨w.heap.size, 0, _, 0, 0, rfl, hbase, heap_alloc_new w.drew _, .inl (Nat.le_refl _), ?_, ?_⟩⟩, ⟨rfl, rfl, rfl, by simp, fun _ hk _ => Below.heap_alloc w.drew _ _ hk⟩⟩
    · simp only [Array.size_append, List.size_toArray, size_zeroCells, hzs, hxl, hl, ← Nat.add_mul]
      rw [Nat.zero_add]
      apply Nat.mul_le_mul_right
      omega
    · simp only [Array.toList_append, List.append_assoc, List.drop_zero]
      rw [← List.append_assoc, ← hlen]
      exact List.take_left
  by_cases hm : m = 0
  · -- nothing is appended
    subst hm
    have hn : news = [] := List.eq_nil_of_length_eq_zero (by simpa using hl)
    subst hn
    have hf : ∀ w : World, (Builtin.firstCells i.size 0 (.slice ad 0 c)).run P w = .ok #[] w := by
      intro w
      cases ad <;> simp [Builtin.firstCells, loadCells, loadCellsFrom]
    refine ⟨ao, cap, w, ?_, ⟨by simpa using hxl, hnc, hcm, by simpa using hown⟩, ⟨rfl, rfl, rfl, Nat.le_refl _, fun _ _ _ => rfl⟩, fun h => ⟨h, rfl⟩⟩
    cases ao <;> simp [Builtin.append_, run_underlying ht, sizeOf, typeInfo, hi, Builtin.lenOf, hf, hnc, storeCells]
  · cases ad with
    | none => exact absurd (had rfl) hm
    | some a =>
    have hpos : 0 < news.length := by rw [hl]; exact Nat.mul_pos (by omega) hsz
    obtain ⟨ga, oa, hae, _, hca⟩ := hrd hpos
    have hnews : ∀ j u, news[j]? = some u → w.cell? (a.add j) = some u := by
      cases hae
      exact loadCells_rd news hca
    rcases hown with ⟨rfl, rfl, rfl⟩ | ⟨g, off, cur, lo, hi', rfl, hbg, hg, hmk, hcs, htake⟩
    · have hx : xs = [] := List.eq_nil_of_length_eq_zero (by simpa using hxl)
      subst hx
      have hr := run_append_nil (P := P) w t ty e i z ht hi hz a m c news hl hnews (by omega) (by omega) (by have hb := hbytes; simp only [Nat.zero_add] at hb; omega)
      have hgr := grown 0 (by omega) (blockOf none)
      simp only [Nat.zero_add, List.nil_append, Array.empty_append] at hgr ⊢
      exact ⟨_, _, _, hr, hgr.1, hgr.2, by simp⟩
    · by_cases hroom : n + m ≤ cap
      · have e1 : (n + m) * i.size ≤ cap * i.size := Nat.mul_le_mul_right _ hroom
        rw [Nat.add_mul] at e1
        have hf := run_firstCells_some (P := P) w i.size m a m c news hl hnews
        have hst := storeCells_mk P g (off + n * i.size) e lo hi' news 0 cur w hg hmk (by rw [hl]; omega) h1
        simp only [Nat.add_zero] at hst
        refine ⟨some ⟨g, off, none⟩, cap, w.setRow g (cur.toList.take (off + n * i.size) ++ news ++ cur.toList.drop (off + n * i.size + news.length)).toArray, ?_, ⟨hlen, hroom, hcm, .inr ⟨g, off, _, lo, hi', rfl, hbg, setRow_heap w g cur _ e _ hg, ?_, ?_, ?_⟩⟩, ⟨rfl, rfl, rfl, by simp, fun k _ hk => setRow_other w g k _ (fun e => hk (by simp [blockOf, e]))⟩, by simp⟩
        · simp [Builtin.append_, run_underlying ht, sizeOf, typeInfo, hi, Builtin.lenOf, hroom, hf, Addr.add_lit, hst]
        · have e2 : (cur.toList.take (off + n * i.size) ++ news ++ cur.toList.drop (off + n * i.size + news.length)).toArray.size = cur.size := by
            simp; omega
          rw [e2]; exact hmk
        · simp; omega
        · have e3 : (cur.toList.take (off + n * i.size)).drop off = xs := by
            rw [← htake, List.drop_take]
            congr 1
            omega
          simp only [List.append_assoc]
          rw [List.drop_append_of_le_length (by simp; omega), e3, ← List.append_assoc, ← hlen]
          exact List.take_left
      · have holds : ∀ j u, xs[j]? = some u → w.cell? ((⟨g, off, none⟩ : Addr).add j) = some u := by
          have hrd' : Rd w (some ⟨g, off, none⟩) xs := Sl.rd (n := n) (cap := cap) (size := i.size) (base := base) (e := e) ⟨hxl, hnc, hcm, .inr ⟨g, off, cur, lo, hi', rfl, hbg, hg, hmk, hcs, htake⟩⟩
          intro j u hu
          have hj : j < xs.length := (List.getElem?_eq_some_iff.1 hu).1
          obtain ⟨g2, o2, he2, _, hc2⟩ := hrd' (by omega)
          cases he2
          exact loadCells_rd xs hc2 j u hu
        have hr := run_append_grow (P := P) w t ty e i z ht hi hz ⟨g, off, none⟩ n cap xs hxl holds a m c news hl hnews (by omega) (by omega) (growslice_fits (by omega) hbytes)
        have hgr := grown cap (by omega) (blockOf (some ⟨g, off, none⟩))
        exact ⟨_, _, _, hr, hgr.1, hgr.2, by simp⟩

theorem wpList_append {P : Program} {ops : Array Oper} {rest : List Oper} {o : Oper} {a : Act} {Q : Exit → Act → World → Prop} (hgd : o.guard = none) (s x : Operand) (t : TypeId)
    (ho : o.op = .call { callee := .builtin .append, args := #[s, x], argTypes := #[t, t] })
    (base : Nat) (e : TypeId) (z : Value) (size bytes : Nat) (hinfo : (P.info? e).map (fun i => (i.zero, i.size, i.bytes)) = some (some z, size, bytes)) (ht : P.underlying t = some (.slice e)) (hzs : z.cells.size = size) (hsz : 0 < size)
    (ao : Option Addr) (n cap : Nat) (xs : List Value) (hs : a.eval s = .slice ao n cap) (hown : Sl w base e size ao n cap xs)
    (ad : Option Addr) (m c : Nat) (news : List Value) (hx : a.eval x = .slice ad m c) (hl : news.length = m * size) (hrd : Rd w ad news) (had : ad = none → m = 0) (h1 : ∀ u ∈ news, u.oneCell' = true)
    (hbytes : (n + m) * bytes ≤ 140737488355328) (h63 : n + m ≤ maxLen) (hbase : base ≤ w.heap.size)
    (h : ∀ ao' cap' w', Sl w' base e size ao' (n + m) cap' (xs ++ news) → w.grownBy w' (blockOf ao) → (ao' = none → ao = none ∧ m = 0) → wpList P ops Q rest (a.put o.dst (.slice ao' (n + m) cap')) w') : wpList P ops Q (o :: rest) a w := by
  refine wpList_plain hgd fun K hK => ?_
  obtain ⟨i, hi, hz, hsize, hby⟩ := info_parts hinfo
  obtain ⟨ao', cap', w', hr, h2, h3, h4⟩ := run_append_sl (P := P) w base t o.type e i z size bytes ht hi hz hsize hby hzs ao n cap xs hown ad m c news hl hsz hrd had h1 hbytes h63 hbase
  unfold Oper.wp execOp
  simp only [ho, resolve, invoke, builtin, Sem.run_bind, Sem.run_pure, Result.andThen_ok, List.map_toArray, List.map_cons, List.map_nil, hs, hx, hr]
  exact hK _ _ (h ao' cap' w' h2 h3 h4)

end

theorem heap_setCell_same_mk (w : World) (g i : Nat) (cs : Array Value) (t : TypeId) (fr : Nat × Nat) (v : Value) (hg : w.heap[g]? = some (.cells cs t fr)) :
    (w.setCell ⟨g, i, none⟩ v).heap[g]? = some (.cells (cs.setIfInBounds i v) t fr) := by
  rw [setCell_eq_setRow w g i cs t fr v hg]
  exact setRow_heap w g cs _ t fr hg

/-- a store into a row that the call owns -/
theorem Sl.store {w : World} {base : Nat} {e : TypeId} {size g off n cap : Nat} {xs : List Value} (h : Sl w base e size (some ⟨g, off, none⟩) n cap xs) (j : Nat) (u : Value) :
    Sl (w.setCell ⟨g, off + j, none⟩ u) base e size (some ⟨g, off, none⟩) n cap (xs.set j u) := by
  obtain ⟨hl, hn, hc, h⟩ := h
  refine ⟨by simpa using hl, hn, hc, ?_⟩
  rcases h with ⟨h', _⟩ | ⟨g', off', cur, lo, hi, h', hb, hg, hm, hs, ht⟩
  · cases h'
  · cases h'
    refine .inr ⟨g, off, cur.setIfInBounds (off + j) u, lo, hi, rfl, hb, heap_setCell_same_mk w g (off + j) cur e (lo, hi) u hg, by simpa using hm, by simpa using hs, ?_⟩
    rw [Array.toList_setIfInBounds, ← ht]
    rw [List.drop_set]
    simp only [show ¬ (off + j < off) by omega, if_false, Nat.add_sub_cancel_left]
    rw [List.take_set]

theorem Sl.frozen {w : World} {base : Nat} {e : TypeId} {size g off n cap : Nat} {xs : List Value} (h : Sl w base e size (some ⟨g, off, none⟩) n cap xs) (j : Nat) (hj : j < cap * size) : w.frozen? ⟨g, off + j, none⟩ = false := by
  rcases h.2.2.2 with ⟨h', _⟩ | ⟨g', off', cur, lo, hi, h', hb, hg, hm, hs, ht⟩
  · cases h'
  · cases h'
    simp only [World.frozen?, hg, Bool.and_eq_false_iff, decide_eq_false_iff_not]
    rcases hm with h | h <;> omega

end Go.Proofs.Ytlfbaakndklncaa
