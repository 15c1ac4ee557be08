/-
  The engine, part C: how its values and blocks stand for the model's.
-/
import Derived.Test.YtafchcmemeinlaaDoorEngB
set_option linter.unusedSimpArgs false
set_option linter.unusedVariables false
namespace Go.Proofs.YtafchcmemeinlaaDoor
open Go.RowKit

/-- a mark that freezes none of n cells -/
def Mk (lo hi n : Nat) : Prop := lo = hi ∨ n ≤ lo

/-- where a block stands: the model's block, where its cells begin, how many they are, behind which cell a slice's capacity ends -/
structure Inf where
  b : Nat
  d : Nat
  tot : Nat
  lim : Nat

structure M where
  blk : Nat → Option Inf
  opq : Nat → Value
  lp : Nat → Option Nat
  frz : Nat → Nat → Option (List Value)

/-- what is known of frozen blocks alone -/
def M.strip (m : M) : M := ⟨fun _ => none, m.opq, fun _ => none, m.frz⟩

mutual
def VR : M → AV → Value → Prop
  | _, .undef, _ => True
  | m, .opq i, v => v = m.opq i ∧ v.oneCell' = true
  | m, .bool b, v => v = .bool b
  | m, .int k n, v => v = .int k n
  | m, .str s, v => v = .string ⟨s.toArray⟩
  | m, .nilp, v => v = .pointer none
  | m, .ptr id tot off, v => v.oneCell' = true ∧ ∃ I, m.blk id = some I ∧ tot ≤ I.tot ∧ (tot = I.tot → v = .pointer (some ⟨I.b, I.d + off, none⟩))
  | m, .gptr g off, v => v = .pointer (some ⟨g, off, none⟩)
  | m, .nils, v => v = .slice none 0 0
  | m, .sl id tot off len sz, v => v.oneCell' = true ∧ ∃ I, m.blk id = some I ∧ tot ≤ I.tot ∧ (tot = I.tot → ∃ o cap, v = .slice (some ⟨I.b, o, none⟩) len cap ∧ len ≤ cap ∧ ((o = I.d + off ∧ o + cap * sz ≤ I.lim) ∨ (len = 0 ∧ cap = 0)))
  | m, .nilf, v => v = .nilFunc
  | m, .fn f x y, v => ∃ x' y', v = .func f x' y' ∧ VRL m x x'.toList ∧ VRL m y y'.toList
  | m, .yld u, v => ∃ l, m.lp u = some l ∧ v = .func (.yield l) #[] #[]
  | m, .nili, v => v = .nilIface
  | m, .iface t a, v => ∃ x, v = .iface t x ∧ VR m a x
  | m, .agg l, v => ∃ cs, v = .agg cs ∧ VRL m l cs.toList
  | m, .tup l, v => ∃ cs, v = .tuple cs ∧ VRL m l cs.toList
  | m, .lst t l len sz, v => v.oneCell' = true ∧ l.length = len * sz ∧ ∃ oa cap, v = .slice oa len cap ∧ len ≤ cap ∧ ((∃ a cs, oa = some a ∧ a.spot = none ∧ m.frz t a.block = some cs ∧ a.off + l.length ≤ cs.length ∧ VRL m.strip l ((cs.drop a.off).take l.length)) ∨ (len = 0 ∧ l = [] ∧ (oa = none → cap = 0)))
  | m, .lptr t l off, v => v.oneCell' = true ∧ ∃ b o cs, v = .pointer (some ⟨b, o + off, none⟩) ∧ m.frz t b = some cs ∧ o + l.length ≤ cs.length ∧ VRL m.strip l ((cs.drop o).take l.length)
def VRL : M → List AV → List Value → Prop
  | _, [], vs => vs = []
  | m, a :: l, vs => ∃ v vs', vs = v :: vs' ∧ VR m a v ∧ VRL m l vs'
end

@[simp] theorem VRL_nil {m : M} {vs : List Value} : VRL m [] vs ↔ vs = [] := by simp [VRL]
@[simp] theorem VRL_cons {m : M} {a : AV} {l : List AV} {v : Value} {vs : List Value} : VRL m (a :: l) (v :: vs) ↔ VR m a v ∧ VRL m l vs := by
  simp only [VRL]
  constructor
  · rintro ⟨v', vs', h, h1, h2⟩
    cases h
    exact ⟨h1, h2⟩
  · intro h
    exact ⟨v, vs, rfl, h.1, h.2⟩
theorem VRL_consL {m : M} {a : AV} {l : List AV} {vs : List Value} (h : VRL m (a :: l) vs) : ∃ v vs', vs = v :: vs' ∧ VR m a v ∧ VRL m l vs' := by
  simpa only [VRL] using h

theorem VRL_iff {m : M} : ∀ {l : List AV} {vs : List Value}, VRL m l vs ↔ l.length = vs.length ∧ ∀ (i : Nat) (a : AV) (v : Value), l[i]? = some a → vs[i]? = some v → VR m a v
  | [], vs => by
    cases vs <;> simp
  | a :: l, [] => by
    constructor
    · intro h
      obtain ⟨v, vs', e, _⟩ := VRL_consL h
      cases e
    · intro h
      simp at h
  | a :: l, v :: vs => by
    rw [VRL_cons, VRL_iff (l := l) (vs := vs)]
    constructor
    · rintro ⟨h1, h2, h3⟩
      refine ⟨by simp [h2], fun i a' v' ha hv => ?_⟩
      cases i with
      | zero => simp at ha hv; subst ha; subst hv; exact h1
      | succ i => simp at ha hv; exact h3 i a' v' ha hv
    · rintro ⟨h1, h2⟩
      refine ⟨h2 0 a v rfl rfl, by simpa using h1, fun i a' v' ha hv => h2 (i + 1) a' v' (by simpa using ha) (by simpa using hv)⟩

theorem VRL.len {m : M} {l : List AV} {vs : List Value} (h : VRL m l vs) : l.length = vs.length := (VRL_iff.1 h).1

theorem VRL.get {m : M} {l : List AV} {vs : List Value} (h : VRL m l vs) {i : Nat} {a : AV} (ha : l[i]? = some a) : ∃ v, vs[i]? = some v ∧ VR m a v := by
  obtain ⟨h1, h2⟩ := VRL_iff.1 h
  have hi : i < l.length := (List.getElem?_eq_some_iff.1 ha).1
  obtain ⟨v, hv⟩ : ∃ v, vs[i]? = some v := ⟨vs[i]'(by omega), List.getElem?_eq_getElem _⟩
  exact ⟨v, hv, h2 i a v ha hv⟩

theorem VRL.take {m : M} {l : List AV} {vs : List Value} (h : VRL m l vs) (n : Nat) : VRL m (l.take n) (vs.take n) := by
  obtain ⟨h1, h2⟩ := VRL_iff.1 h
  refine VRL_iff.2 ⟨by simp [h1], fun i a v ha hv => ?_⟩
  simp only [List.getElem?_take] at ha hv
  split at ha
  · rename_i hi
    rw [if_pos hi] at hv
    exact h2 i a v ha hv
  · cases ha

theorem VRL.drop {m : M} {l : List AV} {vs : List Value} (h : VRL m l vs) (n : Nat) : VRL m (l.drop n) (vs.drop n) := by
  obtain ⟨h1, h2⟩ := VRL_iff.1 h
  refine VRL_iff.2 ⟨by simp [h1], fun i a v ha hv => ?_⟩
  simp only [List.getElem?_drop] at ha hv
  exact h2 _ a v ha hv

theorem VRL.append {m : M} : ∀ {l l' : List AV} {vs vs' : List Value}, VRL m l vs → VRL m l' vs' → VRL m (l ++ l') (vs ++ vs')
  | [], l', vs, vs', h, h' => by
    rw [VRL_nil] at h
    subst h
    exact h'
  | a :: l, l', vs, vs', h, h' => by
    obtain ⟨v, vs1, rfl, h1, h2⟩ := VRL_consL h
    simp only [List.cons_append, VRL_cons]
    exact ⟨h1, h2.append h'⟩

theorem VRL.one {m : M} {a : AV} {v : Value} (h : VR m a v) : VRL m [a] [v] := by simp [h]

/-- what is known of one map holds of a later one -/
structure Ext (m m' : M) : Prop where
  blk : ∀ id I, m.blk id = some I → ∃ I', m'.blk id = some I' ∧ I.tot ≤ I'.tot ∧ (I.tot = I'.tot → I' = I)
  opq : m'.opq = m.opq
  lp : ∀ u l, m.lp u = some l → m'.lp u = some l
  frz : ∀ t b cs, m.frz t b = some cs → m'.frz t b = some cs

theorem Ext.strip {m m' : M} (h : Ext m m') : Ext m.strip m'.strip := ⟨fun _ _ h => (by cases h), h.opq, fun _ _ h => (by cases h), h.frz⟩

theorem Ext.refl (m : M) : Ext m m := ⟨fun _ I h => ⟨I, h, Nat.le_refl _, fun _ => rfl⟩, rfl, fun _ _ h => h, fun _ _ _ h => h⟩
theorem Ext.trans {a b c : M} (h : Ext a b) (k : Ext b c) : Ext a c := by
  refine ⟨fun id I hi => ?_, k.opq.trans h.opq, fun u l hl => k.lp u l (h.lp u l hl), fun t b cs hc => k.frz t b cs (h.frz t b cs hc)⟩
  obtain ⟨J, hJ, h1, h2⟩ := h.blk id I hi
  obtain ⟨K, hK, k1, k2⟩ := k.blk id J hJ
  refine ⟨K, hK, by omega, fun e => ?_⟩
  have e1 : J = I := h2 (by omega)
  subst e1
  exact k2 e

theorem Ext.stale {m m' : M} (h : Ext m m') {id tot : Nat} {p : Inf → Prop} (hp : ∃ I, m.blk id = some I ∧ tot ≤ I.tot ∧ (tot = I.tot → p I)) : ∃ I, m'.blk id = some I ∧ tot ≤ I.tot ∧ (tot = I.tot → p I) := by
  obtain ⟨I, hI, h1, h2⟩ := hp
  obtain ⟨J, hJ, h3, h4⟩ := h.blk id I hI
  refine ⟨J, hJ, by omega, fun e => ?_⟩
  have : J = I := h4 (by omega)
  subst this
  exact h2 e

mutual
theorem VR.mono {m m' : M} (h : Ext m m') : ∀ (a : AV) (v : Value), VR m a v → VR m' a v
  | .undef, _, _ => by simp [VR]
  | .opq i, v, k => by simp only [VR] at k ⊢; rw [h.opq]; exact k
  | .bool _, _, k => by simpa only [VR] using k
  | .int _ _, _, k => by simpa only [VR] using k
  | .str _, _, k => by simpa only [VR] using k
  | .nilp, _, k => by simpa only [VR] using k
  | .ptr id tot off, v, k => by simp only [VR] at k ⊢; exact ⟨k.1, h.stale k.2⟩
  | .gptr _ _, _, k => by simpa only [VR] using k
  | .nils, _, k => by simpa only [VR] using k
  | .sl id tot off len sz, v, k => by simp only [VR] at k ⊢; exact ⟨k.1, h.stale k.2⟩
  | .nilf, _, k => by simpa only [VR] using k
  | .fn f x y, v, k => by
    simp only [VR] at k ⊢
    obtain ⟨x', y', h1, h2, h3⟩ := k
    exact ⟨x', y', h1, VRL.mono h x _ h2, VRL.mono h y _ h3⟩
  | .yld u, v, k => by
    simp only [VR] at k ⊢
    obtain ⟨l, h1, h2⟩ := k
    exact ⟨l, h.lp u l h1, h2⟩
  | .nili, _, k => by simpa only [VR] using k
  | .iface t a, v, k => by
    simp only [VR] at k ⊢
    obtain ⟨x, h1, h2⟩ := k
    exact ⟨x, h1, VR.mono h a x h2⟩
  | .agg l, v, k => by
    simp only [VR] at k ⊢
    obtain ⟨x, h1, h2⟩ := k
    exact ⟨x, h1, VRL.mono h l _ h2⟩
  | .tup l, v, k => by
    simp only [VR] at k ⊢
    obtain ⟨x, h1, h2⟩ := k
    exact ⟨x, h1, VRL.mono h l _ h2⟩
  | .lst t l len sz, v, k => by
    simp only [VR] at k ⊢
    obtain ⟨h1, h2, a, cap, h3, h4, h5⟩ := k
    exact ⟨h1, h2, a, cap, h3, h4, h5.imp (fun ⟨a, cs, ka, k0, k1, k2, k3⟩ => ⟨a, cs, ka, k0, h.frz _ _ _ k1, k2, VRL.mono h.strip l _ k3⟩) id⟩
  | .lptr t l off, v, k => by
    simp only [VR] at k ⊢
    obtain ⟨h1, b, o, cs, h3, h4, h5, h6⟩ := k
    exact ⟨h1, b, o, cs, h3, h.frz _ _ _ h4, h5, VRL.mono h.strip l _ h6⟩
theorem VRL.mono {m m' : M} (h : Ext m m') : ∀ (l : List AV) (vs : List Value), VRL m l vs → VRL m' l vs
  | [], vs, k => by simpa only [VRL] using k
  | a :: l, vs, k => by
    obtain ⟨v, vs', rfl, h1, h2⟩ := VRL_consL k
    rw [VRL_cons]
    exact ⟨VR.mono h a v h1, VRL.mono h l vs' h2⟩
end

/-- the map below a block's number -/
def M.below (m : M) (k : Nat) : M := ⟨fun id => if id < k then m.blk id else none, m.opq, m.lp, m.frz⟩

theorem blt_iff {a b : Nat} : (Nat.blt a b = true) = (a < b) := by
  simp [Nat.blt, Nat.ble_eq]
  omega

theorem nbeq {a b : Nat} : (Nat.beq a b = true) = (a = b) := propext ⟨Nat.eq_of_beq_eq_true, fun h => h ▸ Nat.beq_refl a⟩

mutual
theorem VR.below {m : M} {k : Nat} : ∀ (a : AV) (v : Value), old k a = true → VR m a v → VR (m.below k) a v
  | .undef, _, _, _ => by simp [VR]
  | .opq i, v, _, h => by simpa only [VR, M.below] using h
  | .bool _, _, _, h => by simpa only [VR] using h
  | .int _ _, _, _, h => by simpa only [VR] using h
  | .str _, _, _, h => by simpa only [VR] using h
  | .nilp, _, _, h => by simpa only [VR] using h
  | .ptr id tot off, v, o, h => by
    simp only [old, blt_iff] at o
    simp only [VR, M.below, if_pos o] at h ⊢
    exact h
  | .gptr _ _, _, _, h => by simpa only [VR] using h
  | .nils, _, _, h => by simpa only [VR] using h
  | .sl id tot off len sz, v, o, h => by
    simp only [old, blt_iff] at o
    simp only [VR, M.below, if_pos o] at h ⊢
    exact h
  | .nilf, _, _, h => by simpa only [VR] using h
  | .fn f x y, v, o, h => by
    simp only [old, Bool.and_eq_true] at o
    simp only [VR] at h ⊢
    obtain ⟨x', y', h1, h2, h3⟩ := h
    exact ⟨x', y', h1, VRL.below x _ o.1 h2, VRL.below y _ o.2 h3⟩
  | .yld u, v, _, h => by simpa only [VR, M.below] using h
  | .nili, _, _, h => by simpa only [VR] using h
  | .iface t a, v, o, h => by
    simp only [old] at o
    simp only [VR] at h ⊢
    obtain ⟨x, h1, h2⟩ := h
    exact ⟨x, h1, VR.below a x o h2⟩
  | .agg l, v, o, h => by
    simp only [old] at o
    simp only [VR] at h ⊢
    obtain ⟨x, h1, h2⟩ := h
    exact ⟨x, h1, VRL.below l _ o h2⟩
  | .tup l, v, o, h => by
    simp only [old] at o
    simp only [VR] at h ⊢
    obtain ⟨x, h1, h2⟩ := h
    exact ⟨x, h1, VRL.below l _ o h2⟩
  | .lst t l len sz, v, _, h => by simp only [VR] at h ⊢; exact h
  | .lptr t l off, v, _, h => by simp only [VR] at h ⊢; exact h
theorem VRL.below {m : M} {k : Nat} : ∀ (l : List AV) (vs : List Value), oldL k l = true → VRL m l vs → VRL (m.below k) l vs
  | [], vs, _, h => by simpa only [VRL] using h
  | a :: l, vs, o, h => by
    simp only [oldL, Bool.and_eq_true] at o
    obtain ⟨v, vs', rfl, h1, h2⟩ := VRL_consL h
    rw [VRL_cons]
    exact ⟨VR.below a v o.1 h1, VRL.below l vs' o.2 h2⟩
end

mutual
theorem old_mono {a b : Nat} (h : a ≤ b) : ∀ v, old a v = true → old b v = true
  | .undef, _ => rfl
  | .opq _, _ => rfl
  | .bool _, _ => rfl
  | .int _ _, _ => rfl
  | .str _, _ => rfl
  | .nilp, _ => rfl
  | .ptr id _ _, o => by simp only [old, blt_iff] at o ⊢; omega
  | .gptr _ _, _ => rfl
  | .nils, _ => rfl
  | .sl id _ _ _ _, o => by simp only [old, blt_iff] at o ⊢; omega
  | .nilf, _ => rfl
  | .fn _ x y, o => by
    simp only [old, Bool.and_eq_true] at o ⊢
    exact ⟨oldL_mono h x o.1, oldL_mono h y o.2⟩
  | .yld _, _ => rfl
  | .nili, _ => rfl
  | .iface _ v, o => by simp only [old] at o ⊢; exact old_mono h v o
  | .agg l, o => by simp only [old] at o ⊢; exact oldL_mono h l o
  | .tup l, o => by simp only [old] at o ⊢; exact oldL_mono h l o
  | .lst _ _ _ _, _ => rfl
  | .lptr _ _ _, _ => rfl
theorem oldL_mono {a b : Nat} (h : a ≤ b) : ∀ l, oldL a l = true → oldL b l = true
  | [], _ => rfl
  | v :: l, o => by
    simp only [oldL, Bool.and_eq_true] at o ⊢
    exact ⟨old_mono h v o.1, oldL_mono h l o.2⟩
end

/-- a block and what it stands for -/
structure BR (m : M) (I : Inf) (b : Blk) (w : World) : Prop where
  tot : I.tot = b.cs.length
  lf : b.lf = true → oldL 0 b.cs = true
  row : ∃ cu e lo hi, w.heap[I.b]? = some (.cells cu e (lo, hi)) ∧ I.d + I.tot ≤ I.lim ∧ I.lim ≤ cu.size ∧ (b.k = .exact → I.lim = I.d + I.tot) ∧ (b.k ≠ .ro → I.d = 0 ∧ Mk lo hi cu.size) ∧ VRL m b.cs ((cu.toList.drop I.d).take I.tot)

theorem BR.mono {m m' : M} {I : Inf} {b : Blk} {w w' : World} (h : BR m I b w) (hm : Ext m m') (hw : w'.heap[I.b]? = w.heap[I.b]?) : BR m' I b w' := by
  obtain ⟨cu, e, lo, hi, h1, h2, h3, h4, h5, h6⟩ := h.row
  exact ⟨h.tot, h.lf, cu, e, lo, hi, hw.trans h1, h2, h3, h4, h5, VRL.mono hm _ _ h6⟩

structure HR (gl : Nat → Option (List AV)) (m : M) (H : List Blk) (w : World) : Prop where
  dom : ∀ id I, m.blk id = some I → id < H.length
  blk : ∀ id I b, m.blk id = some I → H[id]? = some b → BR m I b w
  inj : ∀ id id' I I' b, m.blk id = some I → m.blk id' = some I' → H[id]? = some b → b.k ≠ .ro → I.b = I'.b → id = id'
  glb : ∀ g cs, gl g = some cs → ∃ cu e fr, w.heap[g]? = some (.cells cu e fr) ∧ VRL m cs cu.toList
  gld : ∀ g cs, gl g = some cs → oldL 0 cs = true
  frz : ∀ t k cs, m.frz t k = some cs → ∃ cu e fr, w.heap[k]? = some (.cells cu e fr) ∧ cu.toList.take cs.length = cs
  fow : ∀ t k cs id I b, m.frz t k = some cs → m.blk id = some I → H[id]? = some b → b.k ≠ .ro → I.b ≠ k
  gow : ∀ g cs id I b, gl g = some cs → m.blk id = some I → H[id]? = some b → b.k ≠ .ro → I.b ≠ g

/-- the call may write this block -/
def Owned (m : M) (H : List Blk) (k : Nat) : Prop := ∃ id I b, m.blk id = some I ∧ H[id]? = some b ∧ b.k ≠ .ro ∧ I.b = k

/-- what a part of a run does: old knowledge holds, blocks that are not its own are as they were, what it owns it made or owned -/
structure Mw (m : M) (H : List Blk) (w : World) (m' : M) (H' : List Blk) (w' : World) : Prop where
  ext : Ext m m'
  os : w'.os = w.os
  tape : w'.tape = w.tape
  output : w'.output = w.output
  size : w.heap.size ≤ w'.heap.size
  keep : ∀ k, k < w.heap.size → ¬ Owned m H k → w'.heap[k]? = w.heap[k]?
  own : ∀ k, Owned m' H' k → w.heap.size ≤ k ∨ Owned m H k
  nl : ∀ u l, m'.lp u = some l → m.lp u = some l
  fz : ∀ t k cs, m'.frz t k = some cs → m.frz t k = some cs ∨ w.heap.size ≤ k ∨ Owned m H k

/-- .. and no old number gets a new meaning -/
structure Mv (m : M) (H : List Blk) (w : World) (m' : M) (H' : List Blk) (w' : World) : Prop extends Mw m H w m' H' w' where
  len : H.length ≤ H'.length
  nw : ∀ id, id < H.length → m.blk id = none → m'.blk id = none

theorem Mw.trans {m1 m2 m3 : M} {H1 H2 H3 : List Blk} {w1 w2 w3 : World} (h : Mw m1 H1 w1 m2 H2 w2) (k : Mw m2 H2 w2 m3 H3 w3) : Mw m1 H1 w1 m3 H3 w3 := by
  refine ⟨h.ext.trans k.ext, k.os.trans h.os, k.tape.trans h.tape, k.output.trans h.output, Nat.le_trans h.size k.size, fun b hb ho => ?_, fun b hb => ?_, fun u l hl => h.nl u l (k.nl u l hl), fun t b cs hc => ?_⟩
  · refine (k.keep b (Nat.lt_of_lt_of_le hb h.size) fun ho' => ?_).trans (h.keep b hb ho)
    rcases h.own b ho' with h1 | h1
    · omega
    · exact ho h1
  · rcases k.own b hb with h1 | h1
    · exact .inl (Nat.le_trans h.size h1)
    · exact h.own b h1
  · rcases k.fz t b cs hc with h1 | h1 | h1
    · exact h.fz t b cs h1
    · exact .inr (.inl (Nat.le_trans h.size h1))
    · rcases h.own b h1 with h2 | h2
      · exact .inr (.inl h2)
      · exact .inr (.inr h2)

theorem Mv.refl (m : M) (H : List Blk) (w : World) : Mv m H w m H w := ⟨⟨Ext.refl m, rfl, rfl, rfl, Nat.le_refl _, fun _ _ _ => rfl, fun _ h => .inr h, fun _ _ h => h, fun _ _ _ h => .inl h⟩, Nat.le_refl _, fun _ _ h => h⟩
theorem Mv.trans {m1 m2 m3 : M} {H1 H2 H3 : List Blk} {w1 w2 w3 : World} (h : Mv m1 H1 w1 m2 H2 w2) (k : Mv m2 H2 w2 m3 H3 w3) : Mv m1 H1 w1 m3 H3 w3 :=
  ⟨h.toMw.trans k.toMw, Nat.le_trans h.len k.len, fun id hi hn => k.nw id (Nat.lt_of_lt_of_le hi h.len) (h.nw id hi hn)⟩

theorem Mv.below {m m' : M} {H H' : List Blk} {w w' : World} (h : Mv m H w m' H' w') {B : Nat} (hB : B ≤ w.heap.size) (ho : ∀ k, Owned m H k → B ≤ k) : Below B w w' :=
  ⟨h.os, h.tape, h.output, h.size, fun k hk => h.keep k (by omega) fun hk' => by have := ho k hk'; omega⟩
mutual
/-- what refers to nothing means the same under all maps -/
theorem VR.flat {m m' : M} (ho : m'.opq = m.opq) (hs : Ext m.strip m'.strip) : ∀ (a : AV) (v : Value), old 0 a = true → noY a = true → VR m a v → VR m' a v
  | .undef, _, _, _, _ => by simp [VR]
  | .opq i, v, _, _, h => by simpa only [VR, ho] using h
  | .bool _, _, _, _, h => by simpa only [VR] using h
  | .int _ _, _, _, _, h => by simpa only [VR] using h
  | .str _, _, _, _, h => by simpa only [VR] using h
  | .nilp, _, _, _, h => by simpa only [VR] using h
  | .ptr id tot off, v, o, _, h => by simp [old] at o
  | .gptr _ _, _, _, _, h => by simpa only [VR] using h
  | .nils, _, _, _, h => by simpa only [VR] using h
  | .sl id tot off len sz, v, o, _, h => by simp [old] at o
  | .nilf, _, _, _, h => by simpa only [VR] using h
  | .fn f x y, v, o, q, h => by
    simp only [old, noY, Bool.and_eq_true] at o q
    simp only [VR] at h ⊢
    obtain ⟨x', y', h1, h2, h3⟩ := h
    exact ⟨x', y', h1, VRL.flat ho hs x _ o.1 q.1 h2, VRL.flat ho hs y _ o.2 q.2 h3⟩
  | .yld u, _, _, q, _ => by simp [noY] at q
  | .nili, _, _, _, h => by simpa only [VR] using h
  | .iface t v, _, o, q, h => by
    simp only [old, noY] at o q
    simp only [VR] at h ⊢
    obtain ⟨x, h1, h2⟩ := h
    exact ⟨x, h1, VR.flat ho hs v x o q h2⟩
  | .agg l, _, o, q, h => by
    simp only [old, noY] at o q
    simp only [VR] at h ⊢
    obtain ⟨x, h1, h2⟩ := h
    exact ⟨x, h1, VRL.flat ho hs l _ o q h2⟩
  | .tup l, _, o, q, h => by
    simp only [old, noY] at o q
    simp only [VR] at h ⊢
    obtain ⟨x, h1, h2⟩ := h
    exact ⟨x, h1, VRL.flat ho hs l _ o q h2⟩
  | .lst t l len sz, v, _, _, h => by
    simp only [VR] at h ⊢
    obtain ⟨h1, h2, a, cap, h3, h4, h5⟩ := h
    exact ⟨h1, h2, a, cap, h3, h4, h5.imp (fun ⟨a, cs, ka, k0, k1, k2, k3⟩ => ⟨a, cs, ka, k0, hs.frz _ _ _ k1, k2, VRL.mono hs _ _ k3⟩) id⟩
  | .lptr t l off, v, _, _, h => by
    simp only [VR] at h ⊢
    obtain ⟨h1, b, o, cs, h3, h4, h5, h6⟩ := h
    exact ⟨h1, b, o, cs, h3, hs.frz _ _ _ h4, h5, VRL.mono hs _ _ h6⟩
theorem VRL.flat {m m' : M} (ho : m'.opq = m.opq) (hs : Ext m.strip m'.strip) : ∀ (l : List AV) (vs : List Value), oldL 0 l = true → noYL l = true → VRL m l vs → VRL m' l vs
  | [], vs, _, _, h => by simpa only [VRL] using h
  | a :: l, vs, o, q, h => by
    simp only [oldL, noYL, Bool.and_eq_true] at o q
    obtain ⟨v, vs', rfl, h1, h2⟩ := VRL_consL h
    rw [VRL_cons]
    exact ⟨VR.flat ho hs a v o.1 q.1 h1, VRL.flat ho hs l vs' o.2 q.2 h2⟩
end

end Go.Proofs.YtafchcmemeinlaaDoor
