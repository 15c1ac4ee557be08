/-
  Chapter 18: BadgeLists' run.
-/
import Derived.Test.YtifjpcdpmimccaaGreatDoorB18GA
import Derived.Test.YtifjpcdpmimccaaGreatDoorBmG
import Derived.Test.YtifjpcdpmimccaaGreatDoorBmE
set_option linter.unusedSimpArgs false
set_option linter.unusedVariables false
set_option linter.unusedSectionVars false
namespace Go.Proofs.YtifjpcdpmimccaaGreatDoor
open Go.RowKit
set_option maxRecDepth 1000000

theorem frzSM (t : Nat) (H : List Blk) : ∀ l : List (List UInt8), List.map (fun x => frzV t H 8 x) (cellsSM l) = cellsSM l
 | [] => rfl
 | s :: l => by
  have := frzSM t H l
  simp only [cellsSM, List.map_cons] at this ⊢
  rw [this]; rfl
theorem cutS (l : List (List UInt8)) {c : Nat} (hc : c = l.length) : ((cellsSM l).drop 0).take (c * 1) = cellsSM l := by
 rw [List.drop_zero, Nat.mul_one, hc]
 exact List.take_of_length_le (by rw [cellsS_len]; exact Nat.le_refl _)
theorem imax_ge (a b : Int) : a ≤ imax a b ∧ b ≤ imax a b ∧ (imax a b = a ∨ imax a b = b) := by
 unfold imax
 split <;> omega
theorem match_in {n k : List UInt8} {f u m : Int} {l : List (List UInt8)} (hr : rightBM n k f u m = true) (h8 : l.length ≤ 8) (hf : ∀ s ∈ l, fingM s = true) (hp : shB n k f u m ∈ l) :
  matchM n k f u m l = (idxLM l (shB n k f u m), 0) ∧ 0 ≤ idxLM l (shB n k f u m) := by
 rw [matchM, if_pos hr, if_neg (by omega), if_pos (List.all_eq_true.2 hf), idxLM]
 cases h : l.findIdx? (fun s => eqB (shB n k f u m) s) with
 | some i => exact ⟨rfl, Int.natCast_nonneg i⟩
 | none =>
  rw [List.findIdx?_eq_none_iff] at h
  have := h _ hp
  rw [eqB_refl] at this
  cases this
theorem match_out {n k : List UInt8} {f u m : Int} {l : List (List UInt8)} (hr : rightBM n k f u m = true) (h8 : l.length ≤ 8) (hf : ∀ s ∈ l, fingM s = true) (hp : shB n k f u m ∉ l) :
  matchM n k f u m l = (0, 4) ∧ idxLM l (shB n k f u m) = -1 := by
 have h : l.findIdx? (fun s => eqB (shB n k f u m) s) = none := List.findIdx?_eq_none_iff.2 fun s hs => by
  cases hb : eqB (shB n k f u m) s with
  | false => rfl
  | true =>
   rw [eqB_iff, beq_iff_eq] at hb
   exact absurd (hb ▸ hs) hp
 rw [matchM, if_pos hr, if_neg (by omega), if_pos (List.all_eq_true.2 hf), idxLM, h]
 exact ⟨rfl, rfl⟩
theorem acc_in {n k : List UInt8} {f u m t : Int} {l : List (List UInt8)} (h : (matchM n k f u m l).2 = 0) (h0 : 0 ≤ t) (h1 : t ≤ 65535) : accM n k f u m l t = 0 ↔ f ≤ t ∧ t ≤ u := by
 rw [accM, if_neg (by simp [h]), if_neg (by omega)]
 split
 ·simp; omega
 ·simp; omega
theorem leaf_ok {e x y f u : Int} {Q : Out → List Blk → Gh → Prop} (hx : 0 ≤ x ∧ x ≤ 65535) (hy : 0 ≤ y ∧ y ≤ 65535) (he : e = 0 ↔ f ≤ (x + y) / 2 ∧ (x + y) / 2 ≤ u) (hT : Q (.ret (.bool true)) [] {}) : leafLs e x y f u Q := by
 unfold leafLs
 have et : Int.tdiv (x + y) 2 = (x + y) / 2 := Int.tdiv_eq_ediv_of_nonneg (by omega)
 refine splitE (fun h => ?_) (fun h => ?_)
 ·obtain ⟨h1, h2⟩ := he.1 h
  refine wrapI (by omega) (by omega) ?_
  rw [et]
  refine wrapI (by omega) (by omega) (splitD (fun _ => wrapI (by omega) (by omega) ?_) (fun h => by omega))
  rw [et]
  exact wrapI (by omega) (by omega) (splitD (fun _ => hT) (fun h => by omega))
 ·refine wrapI (by omega) (by omega) ?_
  rw [et]
  refine wrapI (by omega) (by omega) (splitD (fun h1 => wrapI (by omega) (by omega) ?_) (fun _ => hT))
  rw [et]
  exact wrapI (by omega) (by omega) (splitD (fun h2 => absurd (he.2 ⟨by omega, by omega⟩) h) (fun _ => hT))
theorem times_ok {a b : Int} (ha : 0 ≤ a ∧ a ≤ 65535) (hb : 0 ≤ b ∧ b ≤ 65535) : (0 ≤ imin a b ∧ imin a b ≤ 65535) ∧ (0 ≤ imax a b ∧ imax a b ≤ 65535) := by
 have h1 := imin_le a b
 have h2 := imax_ge a b
 omega
theorem tailN_ok {a b : Int} {s n k : List UInt8} {f u m : Int} {Q : Out → List Blk → Gh → Prop} (ha : 0 ≤ a ∧ a ≤ 65535) (hb : 0 ≤ b ∧ b ≤ 65535) (hn : n.length ≤ 1000) (hs : s.length = 103) (hm : (matchM n k f u m [s]).2 = 0) (hT : Q (.ret (.bool true)) [] {}) : tailNs a b s n k f u m Q := by
 unfold tailNs
 obtain ⟨hx, hy⟩ := times_ok ha hb
 generalize imin a b = x at *
 generalize imax a b = y at *
 have et : Int.tdiv (x + y) 2 = (x + y) / 2 := Int.tdiv_eq_ediv_of_nonneg (by omega)
 have hL : Lf (([AV.str s] = cellsSM [s] ∧ 1 = [s].length) ∧ n.length ≤ 9223372036854775807 ∧ ∀ t : List UInt8, t ∈ [s] → t.length ≤ 9223372036854775807) := ⟨⟨rfl, rfl⟩, by omega, fun t ht => by rw [List.mem_singleton] at ht; subst ht; omega⟩
 refine ⟨x, rfl, wrapI (by omega) (by omega) ⟨y, rfl, wrapI (by omega) (by omega) (wrapI (by omega) (by omega) ?_)⟩⟩
 rw [et]
 refine wrapI (by omega) (by omega) ⟨[s], hL, ?_⟩
 rintro e ⟨he⟩
 have i1 := acc_in (f := f) (u := u) (t := (x + y) / 2) hm (by omega) (by omega)
 have i2 := acc_in (f := f) (u := u) (t := x) hm (by omega) (by omega)
 have i3 := acc_in (f := f) (u := u) (t := y) hm (by omega) (by omega)
 rw [← he] at i1
 have lf := leaf_ok (Q := Q) hx hy i1 hT
 refine ⟨[s], hL, ?_⟩
 rintro e2 ⟨he2⟩
 rw [← he2] at i2
 refine splitNE (fun _ => lf) (fun h2 => ⟨[s], hL, ?_⟩)
 rintro e3 ⟨he3⟩
 rw [← he3] at i3
 refine splitNE (fun _ => lf) (fun h3 => splitE (fun _ => lf) (fun h => absurd (i1.2 ?_) h))
 have := i2.1 h2
 have := i3.1 h3
 omega
theorem lfL_ok {d : List UInt8} {ky fr af nu a b : Int} {n k : List UInt8} {f u m : Int} {x : List (List UInt8) × List AV} {s : List UInt8} {j : Nat} {l : List (List UInt8)} (hn : n.length ≤ 1000) (hj : j ≤ l.length) (hl : ∀ t ∈ l.take j ++ s :: l.drop j, t.length = 103) :
  lfLs d ky fr af nu a b n k f u m x s j l (l.take j ++ s :: l.drop j) := by
 have hc : l.length + 1 = (l.take j ++ s :: l.drop j).length := by simp; omega
 refine ⟨⟨?_, hc⟩, by omega, fun t ht => by have := hl t ht; omega⟩
 rw [cutS _ hc]
 exact frzSM 1 _ _
theorem tailL_ok {a b : Int} {j : Nat} {l : List (List UInt8)} {s d : List UInt8} {ky fr af nu : Int} {n k : List UInt8} {f u m : Int} {x0 : List (List UInt8) × List AV} {Q : Out → List Blk → Gh → Prop} (ha : 0 ≤ a ∧ a ≤ 65535) (hb : 0 ≤ b ∧ b ≤ 65535) (hn : n.length ≤ 1000) (hj : j ≤ l.length)
  (hl : ∀ t ∈ l.take j ++ s :: l.drop j, t.length = 103) (hm : (matchM n k f u m (l.take j ++ s :: l.drop j)).2 = 0) (hT : Q (.ret (.bool true)) [] {}) : tailLs a b j l s d ky fr af nu n k f u m x0 Q := by
 unfold tailLs
 obtain ⟨hx, hy⟩ := times_ok ha hb
 generalize imin a b = x at *
 generalize imax a b = y at *
 have et : Int.tdiv (x + y) 2 = (x + y) / 2 := Int.tdiv_eq_ediv_of_nonneg (by omega)
 have hL := lfL_ok (d := d) (ky := ky) (fr := fr) (af := af) (nu := nu) (a := a) (b := b) (k := k) (f := f) (u := u) (m := m) (x := x0) hn hj hl
 have hc : l.length + 1 = (l.take j ++ s :: l.drop j).length := by simp; omega
 have hG : (Nat.beq (cellsSM (l.take j ++ s :: l.drop j)).length (l.length + 1) && Nat.ble (0 + (l.length + 1) * 1) (l.length + 1) && true) = true := by
  rw [cellsS_len, ← hc]
  simp
 refine ⟨x, rfl, wrapI (by omega) (by omega) ⟨y, rfl, wrapI (by omega) (by omega) (wrapI (by omega) (by omega) ?_)⟩⟩
 rw [et]
 refine wrapI (by omega) (by omega) (ckI hG ⟨_, hL, ?_⟩)
 rintro e ⟨he⟩
 have i1 := acc_in (f := f) (u := u) (t := (x + y) / 2) hm (by omega) (by omega)
 have i2 := acc_in (f := f) (u := u) (t := x) hm (by omega) (by omega)
 have i3 := acc_in (f := f) (u := u) (t := y) hm (by omega) (by omega)
 rw [← he] at i1
 have lf := leaf_ok (Q := Q) hx hy i1 hT
 refine ckI hG ⟨_, hL, ?_⟩
 rintro e2 ⟨he2⟩
 rw [← he2] at i2
 refine splitNE (fun _ => lf) (fun h2 => ckI hG ⟨_, hL, ?_⟩)
 rintro e3 ⟨he3⟩
 rw [← he3] at i3
 refine splitNE (fun _ => lf) (fun h3 => splitE (fun _ => lf) (fun h => absurd (i1.2 ?_) h))
 have := i2.1 h2
 have := i3.1 h3
 omega
theorem prt_right {n k : List UInt8} {f u m : Int} {s : List UInt8} {e : Int} (hr : rightBM n k f u m = true) (h : prtM n k f u m = (s, e)) : s = shB n k f u m ∧ e = 0 ∧ fingM s = true ∧ s.length = 103 := by
 rw [prtM, if_pos hr] at h
 obtain ⟨h1, h2⟩ := Prod.mk.inj h
 refine ⟨h1.symm, h2.symm, ?_, ?_⟩
 ·rw [← h1]; exact shown_fing (sumS_len _)
 ·rw [← h1]; exact shown_len (sumS_len _)
theorem lists9_run (d : List UInt8) (ky fr af nu : Int) (l : List Dr) (at' a b : Int) (hd : d.length ≤ 9223372036854775807) (hf : 0 ≤ fr ∧ fr ≤ 65535) (hf2 : 0 ≤ af ∧ af ≤ 65535) (hnu : 0 ≤ nu ∧ nu ≤ 4294967295) (hl : ∀ x ∈ l, okDr x)
  (hat : 0 ≤ at' ∧ at' ≤ 255) (ha : 0 ≤ a ∧ a ≤ 65535) (hb : 0 ≤ b ∧ b ≤ 65535) (Q : Out → List Blk → Gh → Prop) (hq : Q (.ret (.bool true)) [] {}) : ∃ hv hb, goal_9 hv hb d ky fr af nu l at' a b Q := by
 obtain ⟨hv', hb', e'⟩ : ∃ hv hb, goal_9 hv hb d ky fr af nu l at' a b Q = _ := ⟨_, _, vc_9 d ky fr af nu l at' a b Q⟩
 refine ⟨hv', hb', e'.mpr ?_⟩
 clear e'
 obtain ⟨m, hm, hml, hm7⟩ : ∃ m : Nat, imin (l.length : Int) 7 = (m : Int) ∧ m ≤ l.length ∧ m ≤ 7 := by
  have := imin_le (l.length : Int) 7
  exact ⟨(imin (l.length : Int) 7).toNat, by omega, by omega, by omega⟩
 refine ⟨⟨d, ky, fr, af, nu⟩, ⟨rfl, hd, hf, hf2, hnu⟩, ?_⟩
 rintro n k f u mm ⟨hr⟩
 have hn := ((name_iff n).1 ((right_iff _ _ _ _ _).1 hr).1).2.1
 refine ⟨⟨by omega⟩, ?_⟩
 rintro p e ⟨hp⟩
 obtain ⟨ep, rfl, pf, pl⟩ := prt_right hr hp
 refine ⟨_, rfl, (m : Int), congrArg _ hm, ckI (by simp; omega) ?_⟩
 have em : (m : Int).toNat - 0 = m := by omega
 rw [em]
 refine ⟨_, rfl, .inl ⟨0, ⟨rfl⟩, rfl, rfl, rfl, rfl, rfl, rfl, rfl, rfl, rfl, rfl, rfl, rfl, trivial⟩, ?_, ?_⟩
 ·rintro _ ⟨rfl⟩
  refine splitD (fun h => ?_) (fun h => ?_)
  ·have h1 : 0 < m := by omega
   have e0 := drs_sub hml h1
   rw [Nat.zero_mul] at e0
   have hx := hl _ (List.getElem_mem (show 0 < l.length by omega))
   rw [e0]
   generalize l[0]'(by omega) = x at *
   refine ckI (by simp; omega) (ckI (by rw [List.length_take, List.drop_zero, drs_len]; simp; omega) (ckI rfl (ckI rfl ⟨x, ⟨rfl, hx⟩, ?_⟩)))
   rintro n5 k6 f7 u8 m9 ⟨hr5⟩
   have hn5 := ((name_iff n5).1 ((right_iff _ _ _ _ _).1 hr5).1).2.1
   refine ⟨⟨by omega⟩, ?_⟩
   rintro s e ⟨hs⟩
   obtain ⟨_, rfl, sf, sl⟩ := prt_right hr5 hs
   refine splitNE (fun h => absurd rfl h) (fun _ => ⟨_, rfl, ⟨trivial, rfl⟩, .inr ⟨([s], drC x), ⟨Nat.le_refl _, by show (1 : Int) ≤ m; omega, by show 1 ≤ 7; decide, fun t ht => by rw [List.mem_singleton] at ht; subst ht; exact ⟨sf, sl⟩⟩, by show 10 - 1 < 1000; decide, rfl, rfl, rfl, ckI rfl ⟨rfl, rfl, rfl, rfl, rfl, rfl, rfl, rfl, rfl, rfl, rfl, trivial⟩⟩⟩)
  ·refine wrapI (by omega) (by omega) ⟨_, rfl, wrapI (by omega) (by omega) (ckI (by decide) ⟨_, rfl, ckI (by simp [eqAVL, eqAV, eqB_refl]) ⟨⟨by show Int.tmod at' (0 + 1) = 0; exact Int.tmod_one _, ⟨rfl, rfl, rfl, rfl⟩, rfl⟩, ?_⟩⟩)⟩
   have hs1 : ∀ t ∈ [p], t.length = 103 := fun t ht => by rw [List.mem_singleton] at ht; subst ht; exact pl
   have m1 := match_in (l := [p]) hr (by show 1 ≤ 8; omega) (fun t ht => by rw [List.mem_singleton] at ht; subst ht; exact pf) (by rw [← ep]; exact List.mem_singleton.2 rfl)
   have m0 := match_out (l := []) hr (by decide) (fun t ht => by cases ht) (by simp)
   rw [← ep] at m1 m0
   refine ⟨[p], ⟨⟨rfl, rfl⟩, by omega, fun t ht => by have := hs1 t ht; omega⟩, ?_⟩
   rintro i1 e1 ⟨h1⟩
   obtain ⟨rfl, rfl⟩ := Prod.mk.inj (m1.1.symm.trans h1)
   refine ⟨[], ⟨⟨rfl, rfl⟩, by omega, fun t ht => by cases ht⟩, ?_⟩
   rintro i2 e2 ⟨h2⟩
   obtain ⟨rfl, rfl⟩ := Prod.mk.inj (m0.1.symm.trans h2)
   refine splitNE (fun h => absurd rfl h) (fun _ => splitNE (fun h => absurd rfl h) (fun _ => ⟨[p], ⟨⟨rfl, rfl⟩, by show 1 ≤ 100000; omega⟩, ?_⟩))
   rintro i3 ⟨rfl⟩
   refine splitNE (fun h => absurd rfl h) (fun _ => ⟨[], ⟨⟨rfl, rfl⟩, by decide⟩, ?_⟩)
   rintro i4 ⟨rfl⟩
   refine splitD (fun h => by rw [m0.2] at h; omega) (fun _ => splitNE (fun h => absurd rfl h) (fun _ => tailN_ok ha hb (by omega) pl ?_ hq))
   rw [m1.1]
 ·rintro ⟨P, dc⟩ ⟨p1, p2, p3, p4⟩
  dsimp only at p1 p2 p3 p4
  dsimp only
  have hcl := cellsS_len P
  refine splitD (fun h => ?_) (fun h => ?_)
  ·have hi : P.length < m := by omega
   have e0 := drs_sub hml hi
   have hx := hl _ (List.getElem_mem (show P.length < l.length by omega))
   rw [Int.toNat_natCast, e0]
   generalize l[P.length]'(by omega) = x at *
   refine ckI (by simp; omega) (ckI (by rw [List.length_take, List.drop_zero, drs_len]; simp; omega) (ckI rfl (ckI rfl ⟨x, ⟨rfl, hx⟩, ?_⟩)))
   rintro n5 k6 f7 u8 m9 ⟨hr5⟩
   have hn5 := ((name_iff n5).1 ((right_iff _ _ _ _ _).1 hr5).1).2.1
   refine ⟨⟨by omega⟩, ?_⟩
   rintro s e ⟨hs⟩
   obtain ⟨_, rfl, sf, sl⟩ := prt_right hr5 hs
   refine splitNE (fun h => absurd rfl h) (fun _ => ckI (by rw [hcl]; simp; omega) (wrapI (by omega) (by omega) ⟨⟨trivial, rfl⟩, .inr ⟨(P ++ [s], dc), ⟨?_, ?_, ?_, ?_⟩, ?_, rfl, rfl, rfl, rfl, cS_snoc _ _, rfl, rfl, rfl, rfl, rfl, ?_, ?_, rfl, rfl, trivial⟩⟩))
   ·rw [List.length_append]; omega
   ·rw [List.length_append, List.length_singleton]; omega
   ·rw [List.length_append, List.length_singleton]; omega
   ·intro t ht
    rw [List.mem_append, List.mem_singleton] at ht
    rcases ht with ht | rfl
    ·exact p4 t ht
    ·exact ⟨sf, sl⟩
   ·rw [List.length_append, List.length_singleton]; omega
   ·rw [List.length_append, List.length_singleton]; exact congrArg _ (by omega)
   ·rw [List.length_append, List.length_singleton]
  ·obtain ⟨j, hj, hjl⟩ : ∃ j : Nat, Int.tmod at' ((P.length : Int) + 1) = (j : Int) ∧ j ≤ P.length := ⟨(Int.tmod at' ((P.length : Int) + 1)).toNat, by have := Int.tmod_nonneg ((P.length : Int) + 1) hat.1; omega, by have := Int.tmod_lt_of_pos at' (show (0 : Int) < (P.length : Int) + 1 by omega); omega⟩
   have hcut := cutS P rfl
   have hP : (Nat.beq (cellsSM P).length P.length && Nat.ble (0 + P.length * 1) P.length && true) = true := by rw [hcl]; simp
   have hc : P.length + 1 = (P.take j ++ p :: P.drop j).length := by simp; omega
   have hG : (Nat.beq (cellsSM (P.take j ++ p :: P.drop j)).length (P.length + 1) && Nat.ble (0 + (P.length + 1) * 1) (P.length + 1) && true) = true := by
    rw [cellsS_len, ← hc]
    simp
   have hw : ∀ t ∈ P.take j ++ p :: P.drop j, fingM t = true ∧ t.length = 103 := fun t ht => by
    rw [List.mem_append, List.mem_cons] at ht
    rcases ht with ht | rfl | ht
    ·exact p4 t (List.mem_of_mem_take ht)
    ·exact ⟨pf, pl⟩
    ·exact p4 t (List.mem_of_mem_drop ht)
   have hw3 : ∀ t ∈ P.take j ++ p :: P.drop j, t.length = 103 := fun t ht => (hw t ht).2
   have m1 := match_in (l := P.take j ++ p :: P.drop j) hr (by omega) (fun t ht => (hw t ht).1) (by rw [← ep]; simp)
   rw [← ep] at m1
   have hlP : (List.map (fun x => frzV 1 [⟨BK.exact, true, [.lst 0 (ofBytes d) d.length 1, .int .u8 ky, .int .u16 fr, .int .u16 af, .int .u32 nu]⟩, ⟨BK.exact, true, [.int .u16 a, .int .u16 b]⟩, ⟨BK.exact, true, [.str n, .str k, .int .i64 f, .int .i64 u, .int .i64 mm]⟩, ⟨BK.exact, true, dc⟩, ⟨BK.grow, true, cellsSM P⟩, ⟨BK.exact, true, [.str p]⟩, ⟨BK.exact, true, []⟩, ⟨BK.grow, true, cellsSM (P.take j ++ p :: P.drop j)⟩] 8 x) (((cellsSM P).drop 0).take (P.length * 1)) = cellsSM P) := by
    rw [hcut]; exact frzSM 1 _ P
   refine wrapI (by omega) (by omega) (ckI (by rw [hcl]; simp) ⟨_, rfl, wrapI (by omega) (by omega) (ckI (by rw [Bool.and_true, bne_iff_ne]; omega) ⟨(j : Int), congrArg _ hj, ckI (by rw [hcl]; simp) (ckI ?_ (bF ?_ (ckI ?_ (ckI ?_ (ckI ?_ (ckI ?_ ⟨P, j, ?_, ckI hG ⟨_, lfL_ok (by omega) hjl hw3, ?_⟩⟩))))))⟩)⟩)
   ·rw [hcut, hcl, cellsSM]
    have : ∀ L : List (List UInt8), oneL (L.map AV.str) = true := by
     intro L
     induction L with
     | nil => rfl
     | cons x L ih => simp only [List.map_cons, oneL, one, Bool.true_and]; exact ih
    rw [this]
    simp
    omega
   ·cases hz : Nat.beq P.length 0 with
    | false => rfl
    | true => rw [nbeq] at hz; omega
   ·rw [blt_iff]; omega
   ·simp; omega
   ·simp [eqAVL, eqAV, eqB_refl]
   ·simp
   ·refine ⟨?_, ?_, rfl, by omega, rfl, ⟨rfl, rfl, rfl, rfl⟩, rfl, hjl, p1, by omega, rfl, rfl⟩
    ·rw [hcut]; rfl
    ·rw [hcut, hcl, Nat.zero_add]
   rintro i1 e1 ⟨h1⟩
   obtain ⟨rfl, rfl⟩ := Prod.mk.inj (m1.1.symm.trans h1)
   refine ckI hP ⟨P, ⟨⟨hlP, rfl⟩, by omega, fun t ht => by have := (p4 t ht).2; omega⟩, ?_⟩
   rintro i2 e2 ⟨h2⟩
   refine splitNE (fun h => absurd rfl h) (fun _ => splitNE (fun h => absurd rfl h) (fun _ => ckI hG ⟨P.take j ++ p :: P.drop j, ⟨⟨?_, hc⟩, by omega⟩, ?_⟩))
   ·rw [cutS _ hc]; exact frzSM 1 _ _
   rintro i3 ⟨rfl⟩
   refine splitNE (fun h => absurd rfl h) (fun _ => ckI hP ⟨P, ⟨⟨hlP, rfl⟩, by omega⟩, ?_⟩)
   rintro i4 ⟨rfl⟩
   have hT := tailL_ok (d := d) (ky := ky) (fr := fr) (af := af) (nu := nu) (x0 := (P, dc)) ha hb (by omega : n.length ≤ 1000) hjl hw3 (by rw [m1.1]) hq
   by_cases hin : shB n k f u mm ∈ P
   ·have m2 := match_in hr (by omega) (fun t ht => (p4 t ht).1) hin
    rw [← ep] at m2
    obtain ⟨rfl, rfl⟩ := Prod.mk.inj (m2.1.symm.trans h2)
    refine splitD (fun _ => splitNE (fun h => absurd rfl h) (fun _ => ckI hP ⟨P, ⟨⟨hlP, rfl⟩, by omega⟩, ?_⟩)) (fun h => by omega)
    rintro i5 ⟨rfl⟩
    exact splitNE (fun h => absurd rfl h) (fun _ => hT)
   ·have m2 := match_out hr (by omega) (fun t ht => (p4 t ht).1) hin
    rw [← ep] at m2
    obtain ⟨rfl, rfl⟩ := Prod.mk.inj (m2.1.symm.trans h2)
    exact splitD (fun h => by omega) (fun _ => splitNE (fun h => absurd rfl h) (fun _ => hT))
end Go.Proofs.YtifjpcdpmimccaaGreatDoor
