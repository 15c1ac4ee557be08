/-
  The engine, part P: a region that draws its order does what its one canonical order does.
-/
import Derived.Test.YtafchcmemeinlaaDoorEngO
set_option linter.unusedSimpArgs false
set_option linter.unusedVariables false
namespace Go.Proofs.YtafchcmemeinlaaDoor
open Go.RowKit

/-- what happened at a place of the canonical order: an operation that writes, one that was passed over, one that is quiet (with the slots and the heap that it was reckoned at, and its result) -/
inductive Kd where
  | heavy
  | skip (tm : T)
  | quiet (tm : T) (H : List Blk) (r : LR)

structure Rcd where
  x : AOper
  v : AV
  kd : Kd

def all1 : Nat → Bool := fun _ => true

/-- what a slot holds when those operations have run that S names -/
def tv (S : Nat → Bool) (t : Nat) : List Rcd → AV → AV
  | [], acc => acc
  | r :: D, acc => tv S t D (bif S r.x.ix && (r.x.dst == some t) then r.v else acc)

theorem tv_append (S : Nat → Bool) (t : Nat) : ∀ (D D' : List Rcd) (acc : AV), tv S t (D ++ D') acc = tv S t D' (tv S t D acc)
  | [], _, _ => rfl
  | r :: D, D', acc => by simp only [List.cons_append, tv]; exact tv_append S t D D' _

theorem tv_congr {S S' : Nat → Bool} (t : Nat) : ∀ (D : List Rcd) (acc : AV), (∀ r ∈ D, r.x.dst = some t → S r.x.ix = S' r.x.ix) → tv S t D acc = tv S' t D acc
  | [], _, _ => rfl
  | r :: D, acc, h => by
    simp only [tv]
    have e : (S r.x.ix && (r.x.dst == some t)) = (S' r.x.ix && (r.x.dst == some t)) := by
      by_cases hd : r.x.dst = some t
      · rw [h r (by simp) hd]
      · have : (r.x.dst == some t) = false := by simpa using hd
        rw [this, Bool.and_false, Bool.and_false]
    rw [e]
    exact tv_congr t D _ fun r' hr' => h r' (by simp [hr'])

theorem tv_none {S : Nat → Bool} (t : Nat) : ∀ (D : List Rcd) (acc : AV), (∀ r ∈ D, r.x.dst = some t → S r.x.ix = false) → tv S t D acc = acc
  | [], _, _ => rfl
  | r :: D, acc, h => by
    simp only [tv]
    have e : (S r.x.ix && (r.x.dst == some t)) = false := by
      by_cases hd : r.x.dst = some t
      · rw [h r (by simp) hd, Bool.false_and]
      · have : (r.x.dst == some t) = false := by simpa using hd
        rw [this, Bool.and_false]
    rw [e, cond_false]
    exact tv_none t D _ fun r' hr' => h r' (by simp [hr'])

def nidOf (r : Rcd) : Option Nat := match r.kd with
  | .quiet _ H lr => if lr.nb.isSome then some H.length else none
  | _ => none

theorem flOk_ok {E : Env} {H H' : List Blk} {bf : Nat} : ∀ {fl : List Fl} {c : Prop}, flOk E H H' bf fl c → c ∧ (∀ ix r, Fl.rd ix r ∈ fl → Nat.testBit bf ix = false → cellsAt H r.id r.off r.size = cellsAt H' r.id r.off r.size ∧ lenAt H r.id = lenAt H' r.id) ∧ (∀ ix id, Fl.nb ix id ∈ fl → Nat.testBit bf ix = false → H[id]? = H'[id]?)
  | [], c, h => ⟨h, by simp, by simp⟩
  | .rd ix r :: l, c, h => by
    simp only [flOk] at h
    cases hb : Nat.testBit bf ix
    · rw [hb, cond_false] at h
      have key : (cellsAt H r.id r.off r.size = cellsAt H' r.id r.off r.size ∧ lenAt H r.id = lenAt H' r.id) ∧ flOk E H H' bf l c := by
        cases hc : (eqAVL (cellsAt H r.id r.off r.size) (cellsAt H' r.id r.off r.size) && (lenAt H r.id == lenAt H' r.id))
        · rw [hc, cond_false] at h; exact h.elim
        · rw [hc, cond_true] at h
          simp only [Bool.and_eq_true, beq_iff_eq] at hc
          exact ⟨⟨eqAVL_ok _ _ hc.1, hc.2⟩, h⟩
      obtain ⟨h1, h2, h3⟩ := flOk_ok key.2
      refine ⟨h1, fun ix' r' hm hb' => ?_, fun ix' id hm hb' => ?_⟩
      · rcases List.mem_cons.1 hm with e | hm
        · cases e; exact key.1
        · exact h2 ix' r' hm hb'
      · rcases List.mem_cons.1 hm with e | hm
        · cases e
        · exact h3 ix' id hm hb'
    · rw [hb, cond_true] at h
      obtain ⟨h1, h2, h3⟩ := flOk_ok h
      refine ⟨h1, fun ix' r' hm hb' => ?_, fun ix' id hm hb' => ?_⟩
      · rcases List.mem_cons.1 hm with e | hm
        · cases e; rw [hb] at hb'; cases hb'
        · exact h2 ix' r' hm hb'
      · rcases List.mem_cons.1 hm with e | hm
        · cases e
        · exact h3 ix' id hm hb'
  | .nb ix id :: l, c, h => by
    simp only [flOk] at h
    cases hb : Nat.testBit bf ix
    · rw [hb, cond_false] at h
      have key : H[id]? = H'[id]? ∧ flOk E H H' bf l c := by
        cases hc : eqBlk H[id]? H'[id]?
        · rw [hc, cond_false] at h; exact h.elim
        · rw [hc, cond_true] at h
          exact ⟨eqBlk_ok hc, h⟩
      obtain ⟨h1, h2, h3⟩ := flOk_ok key.2
      refine ⟨h1, fun ix' r' hm hb' => ?_, fun ix' id' hm hb' => ?_⟩
      · rcases List.mem_cons.1 hm with e | hm
        · cases e
        · exact h2 ix' r' hm hb'
      · rcases List.mem_cons.1 hm with e | hm
        · cases e; exact key.1
        · exact h3 ix' id' hm hb'
    · rw [hb, cond_true] at h
      obtain ⟨h1, h2, h3⟩ := flOk_ok h
      refine ⟨h1, fun ix' r' hm hb' => ?_, fun ix' id' hm hb' => ?_⟩
      · rcases List.mem_cons.1 hm with e | hm
        · cases e
        · exact h2 ix' r' hm hb'
      · rcases List.mem_cons.1 hm with e | hm
        · cases e; rw [hb] at hb'; cases hb'
        · exact h3 ix' id' hm hb'

/-- the canonical order of a region's operations -/
structure Canon (P : Program) (nt : Nat) (ops : Array Oper) (l : List AOper) : Prop where
  pairs : l.Pairwise fun x y => pairOk x y = true
  mem : ∀ x ∈ l, ∃ o, ops[x.ix]? = some o ∧ x.dst = (cOper P nt ops o).dst ∧ x.op = (cOper P nt ops o).op ∧ x.guard = (cOper P nt ops o).guard ∧ (befores ops.toList [])[x.ix]? = some x.bf
  self : ∀ x ∈ l, x.bf.testBit x.ix = false ∧ x.bf < 2 ^ ops.size
  cov : ∀ i, i < ops.size → ∃ x ∈ l, x.ix = i

theorem takeOut_mem {p : AOper → Bool} : ∀ {l : List AOper} {x : AOper} {r : List AOper}, takeOut p l = some (x, r) → x ∈ l ∧ ∀ y ∈ r, y ∈ l
  | [], x, r, h => by cases h
  | o :: l, x, r, h => by
    simp only [takeOut] at h
    cases hp : p o
    · rw [hp, cond_false] at h
      split at h
      · rename_i x' r' ht
        cases h
        obtain ⟨h1, h2⟩ := takeOut_mem ht
        refine ⟨by simp [h1], fun y hy => ?_⟩
        rcases List.mem_cons.1 hy with rfl | hy
        · simp
        · simp [h2 y hy]
      · cases h
    · rw [hp, cond_true] at h
      cases h
      exact ⟨by simp, fun y hy => by simp [hy]⟩

theorem canon_mem : ∀ (n done : Nat) (l : List AOper), ∀ x ∈ canon n done l, x ∈ l
  | 0, _, _, x, h => by cases h
  | n + 1, done, l, x, h => by
    simp only [canon] at h
    split at h
    · rename_i o r ht
      obtain ⟨h1, h2⟩ := takeOut_mem ht
      rcases List.mem_cons.1 h with rfl | h
      · exact h1
      · exact h2 x (canon_mem n _ r x h)
    · split at h
      · rename_i o r ht
        obtain ⟨h1, h2⟩ := takeOut_mem ht
        rcases List.mem_cons.1 h with rfl | h
        · exact h1
        · exact h2 x (canon_mem n _ r x h)
      · cases h

theorem number_mem : ∀ (i : Nat) (bs : List Nat) (os : List AOper) (x : AOper), x ∈ number i bs os → ∃ j, x.ix = i + j ∧ bs[j]? = some x.bf ∧ ∃ o, os[j]? = some o ∧ x.dst = o.dst ∧ x.op = o.op ∧ x.guard = o.guard
  | i, [], os, x, h => by cases os <;> cases h
  | i, b :: bs, [], x, h => by cases h
  | i, b :: bs, o :: os, x, h => by
    simp only [number] at h
    rcases List.mem_cons.1 h with rfl | h
    · exact ⟨0, rfl, rfl, o, rfl, rfl, rfl, rfl⟩
    · obtain ⟨j, h1, h2, o', h3, h4⟩ := number_mem (i + 1) bs os x h
      exact ⟨j + 1, by omega, by simpa using h2, o', by simpa using h3, h4⟩

theorem allPairs_ok : ∀ {l : List AOper}, allPairs l = true → l.Pairwise fun x y => pairOk x y = true
  | [], _ => List.Pairwise.nil
  | x :: l, h => by
    simp only [allPairs, Bool.and_eq_true, List.all_eq_true] at h
    exact List.Pairwise.cons h.1 (allPairs_ok h.2)

theorem canon_of {P : Program} {nt : Nat} {ops : Array Oper} {l : List AOper} (h : drawnOf P nt ops = .drawn l) : Canon P nt ops l := by
  unfold drawnOf at h
  simp only at h
  generalize hc : canon ops.size 0 (number 0 (befores ops.toList []) (ops.toList.map (cOper P nt ops))) = l' at h
  cases hb : (Nat.beq l'.length ops.size && allPairs l' && l'.all (fun o => Nat.blt o.ix ops.size && Nat.blt o.bf (2 ^ ops.size) && !(o.bf.testBit o.ix)) && (List.range ops.size).all (fun i => l'.any fun o => Nat.beq o.ix i))
  · rw [hb, cond_false] at h; cases h
  rw [hb, cond_true] at h
  cases h
  simp only [Bool.and_eq_true, List.all_eq_true, blt_iff, Bool.not_eq_true', List.any_eq_true, nbeq, List.mem_range] at hb
  obtain ⟨⟨⟨_, h2⟩, h3⟩, h4⟩ := hb
  refine ⟨allPairs_ok h2, fun x hx => ?_, fun x hx => ⟨(h3 x hx).2, (h3 x hx).1.2⟩, fun i hi => ?_⟩
  · have hm := canon_mem ops.size 0 _ x (by rw [hc]; exact hx)
    obtain ⟨j, e1, e2, o, e3, e4, e5, e6⟩ := number_mem 0 _ _ x hm
    simp only [Nat.zero_add] at e1
    subst e1
    simp only [List.getElem?_map, Option.map_eq_some_iff] at e3
    obtain ⟨o', e7, rfl⟩ := e3
    exact ⟨o', by simpa using e7, e4, e5, e6, e2⟩
  · obtain ⟨x, h5, h6⟩ := h4 i hi
    exact ⟨x, h5, h6⟩

theorem HR.push {gl : Nat → Option (List AV)} {m : M} {H : List Blk} {w : World} (hH : HR gl m H w) (l : List Blk) : HR gl m (H ++ l) w := by
  have hg : ∀ id I, m.blk id = some I → (H ++ l)[id]? = H[id]? := fun id I h => List.getElem?_append_left (hH.dom id I h)
  refine ⟨fun id I h => by have := hH.dom id I h; simp; omega, fun id I b h hb => hH.blk id I b h (by rw [← hg id I h]; exact hb), fun i j I J b h1 h2 h3 h4 h5 => hH.inj i j I J b h1 h2 (by rw [← hg i I h1]; exact h3) h4 h5, hH.glb, hH.gld, hH.frz, fun t k cs id I b h1 h2 h3 h4 => hH.fow t k cs id I b h1 h2 (by rw [← hg id I h2]; exact h3) h4, fun g cs id I b h1 h2 h3 h4 => hH.gow g cs id I b h1 h2 (by rw [← hg id I h2]; exact h3) h4⟩

theorem Mx.push {X : List Nat} {gl : Nat → Option (List AV)} {m0 m : M} {H0 H : List Blk} {w0 w : World} (hH : HR gl m H w) (h : Mx X m0 H0 w0 m H w) (l : List Blk) : Mx X m0 H0 w0 m (H ++ l) w := by
  refine ⟨h.ext, h.os, h.tape, h.output, h.size, h.keep, fun k hk => ?_, by have := h.len; simp; omega, h.nw, h.fz⟩
  obtain ⟨id, I, b, h1, h2, h3, h4⟩ := hk
  exact h.own k ⟨id, I, b, h1, by rw [List.getElem?_append_left (hH.dom id I h1)] at h2; exact h2, h3, h4⟩

/-- a block that is made late -/
theorem Mx.late {X : List Nat} {m0 m : M} {H0 H : List Blk} {w0 w w' : World} {id : Nat} {I : Inf} (h : Mx X m0 H0 w0 m H w) (k : Mw m H w (m.set id I) H w') (hid : H0.length ≤ id) : Mx X m0 H0 w0 (m.set id I) H w' := by
  refine ⟨h.ext.trans k.ext, k.os.trans h.os, k.tape.trans h.tape, k.output.trans h.output, Nat.le_trans h.size k.size, fun b hb ho hx => ?_, fun b hb => ?_, h.len, fun j hj hn => by rw [M.set_other _ _ (by omega)]; exact h.nw j hj hn, fun t b cs hc => ?_⟩
  · refine (k.keep b (Nat.lt_of_lt_of_le hb h.size) fun ho' => ?_).trans (h.keep b hb ho hx)
    rcases h.own b ho' with h1 | h1
    · omega
    · exact ho h1
  · rcases k.own b hb with h1 | h1
    · exact .inl (Nat.le_trans h.size h1)
    · exact h.own b h1
  · rcases k.fz t b cs hc with h1 | h1 | h1
    · exact h.fz t b cs h1
    · exact .inr (.inl (Nat.le_trans h.size h1))
    · rcases h.own b h1 with h2 | h2
      · exact .inr (.inl h2)
      · exact .inr (.inr h2)

theorem Lps.push {P : Program} {gl : Nat → Option (List AV)} {m : M} {H : List Blk} {w : World} (l : List Blk) : ∀ {X : List Ls} {ps : List Lp}, Lps P gl m H w X ps → Lps P gl m (H ++ l) w X ps
  | [], [], _ => trivial
  | [], _ :: _, h => h.elim
  | _ :: _, [], h => h.elim
  | x :: X, p :: ps, h => ⟨⟨h.1.u, h.1.lp, h.1.row, h.1.ext, h.1.dom, by have := h.1.le; simp; omega, h.1.tm, h.1.nt, h.1.ps, h.1.ca, h.1.cb, h.1.ok⟩, Lps.push l h.2⟩

theorem LpR.push {P : Program} {gl : Nat → Option (List AV)} {X : List Ls} {g : Gh} {m : M} {H : List Blk} {w : World} (h : LpR P gl X g m H w) (l : List Blk) : LpR P gl X g m (H ++ l) w :=
  ⟨Lps.push l h.all, h.key, h.us, h.ls⟩

theorem guard_same2 {nt : Nat} {m : M} {tm : T} {a : Act} (hn : nt ≤ a.tmps.size) {ops : Array Oper} {o : Oper} {ag : Option (Nat × Bool)} (ht : ∀ g b, ag = some (g, b) → VR m (tm.get g) (a.tmps.getD g undef))
    (hg : (o.guard = none ∧ ag = none) ∨ ∃ j b g, o.guard = some (j, b) ∧ (ops[j]?).bind (·.dst) = some g ∧ g < nt ∧ ag = some (g, b))
    {H : List Blk} {r : Bool} (hr : gd ⟨tm, H⟩ ag = some r) : Region.wanted o (yielded ops a.tmps) = r := by
  rcases hg with ⟨h1, rfl⟩ | ⟨j, b, g, h1, h2, h3, rfl⟩
  · simp only [gd, Option.some.injEq] at hr
    subst hr
    simp [Region.wanted, h1]
  · have ht := ht g b rfl
    have hget : a.tmps[g]? = some (a.tmps.getD g undef) := by
      have : g < a.tmps.size := Nat.lt_of_lt_of_le h3 hn
      simp [this]
    simp only [gd] at hr
    simp only [Region.wanted, h1, yielded, h2, Option.bind_some, hget]
    split at hr
    · rename_i x hx
      rw [hx] at ht
      simp only [VR] at ht
      rw [ht]
      simp only [Option.some.injEq] at hr
      subst hr
      cases b <;> cases x <;> rfl
    · rename_i hx
      rw [hx] at ht
      simp only [VR] at ht
      obtain ⟨cs, e1, e2⟩ := ht
      rw [e1]
      simp only [Option.some.injEq] at hr
      subst hr
      rfl
    · cases hr

theorem hop_heavy {E : Env} {ev : AO → AV} {H : List Blk} {k : Nat} {op : AOp} {K : AV → List Blk → Prop} (h : hop E ev H k op K) : heavy op = true := by
  cases op <;> first | rfl | exact h.elim

theorem lop_light {gl : Nat → Option (List AV)} {ev : AO → AV} {cu : Nat → Nat → Bool} {ca : Nat → Nat → Nat → List AV} {nid : Nat} {op : AOp} {r : LR} (h : lop gl ev cu ca nid op = some r) : heavy op = false := by
  cases op <;> first | rfl | cases h
end Go.Proofs.YtafchcmemeinlaaDoor
