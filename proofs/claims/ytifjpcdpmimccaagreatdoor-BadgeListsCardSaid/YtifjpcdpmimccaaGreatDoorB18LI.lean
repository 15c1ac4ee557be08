/-
  Chapter 18: slices.Insert of one text, as a contract of the engine (over the library's four laws).
-/
import Derived.Test.YtifjpcdpmimccaaGreatDoorEnH
import Derived.Test.YtifjpcdpmimccaaGreatDoorBnG
import Derived.Shelf.Spec.SlicesInsert
import Derived.Shelf.Spec.SlicesInsertGrow
set_option linter.unusedSimpArgs false
set_option linter.unusedVariables false
set_option linter.unusedSectionVars false
namespace Go.Proofs.YtifjpcdpmimccaaGreatDoor
open Go.RowKit Go.Shelf
set_option maxRecDepth 1000000

theorem setCells_row (g : Nat) (t : TypeId) (fr : Nat × Nat) : ∀ (vs : List Value) (o : Nat) (cur : Array Value) (w : World), w.heap[g]? = some (.cells cur t fr) → o + vs.length ≤ cur.size →
  w.setCells g o vs = w.setRow g (cur.toList.take o ++ vs ++ cur.toList.drop (o + vs.length)).toArray
 | [], o, cur, w, hg, _ => by
  simp only [World.setCells, List.append_nil, List.length_nil, Nat.add_zero, List.take_append_drop, Array.toArray_toList]
  rw [setRow_self w g cur t _ hg]
 | v :: rest, o, cur, w, hg, hl => by
  have hi' : o < cur.size := by simp at hl; omega
  rw [World.setCells, setCell_eq_setRow w g o cur t fr v hg, setCells_row g t fr rest (o + 1) (cur.setIfInBounds o v) _ (setRow_heap w g cur _ t _ hg) (by simp at hl ⊢; omega), setRow_setRow]
  congr 1
  have e := list_seg_step cur.toList o v rest (by simp at hl ⊢; omega)
  simpa [Array.toList_setIfInBounds, Nat.add_assoc] using e
def strV (l : List (List UInt8)) : List Value := l.map fun s => Value.string ⟨s.toArray⟩
theorem strV_len (l : List (List UInt8)) : (strV l).length = l.length := by simp [strV]
theorem strV_app (a b : List (List UInt8)) : strV (a ++ b) = strV a ++ strV b := by simp [strV]
theorem strV_cons (a : List UInt8) (b : List (List UInt8)) : strV (a :: b) = Value.string ⟨a.toArray⟩ :: strV b := rfl
theorem strV_take (k : Nat) (l : List (List UInt8)) : (strV l).take k = strV (l.take k) := by simp [strV, List.map_take]
theorem strV_drop (k : Nat) (l : List (List UInt8)) : (strV l).drop k = strV (l.drop k) := by simp [strV, List.map_drop]
theorem strV_one (l : List (List UInt8)) : ∀ v ∈ strV l, v.oneCell' = true := by
 intro v hv
 simp only [strV, List.mem_map] at hv
 obtain ⟨s, _, rfl⟩ := hv
 rfl
theorem VRL_S {m : M} : ∀ (l : List (List UInt8)) (vs : List Value), VRL m (cellsSM l) vs ↔ vs = strV l
 | [], vs => by simp [cellsSM, strV]
 | s :: l, vs => by
  constructor
  ·intro h
   obtain ⟨v, vs', rfl, h1, h2⟩ := VRL_consL h
   simp only [VR] at h1
   rw [strV_cons, ← (VRL_S l vs').1 h2, h1]
  ·rintro rfl
   rw [strV_cons]
   exact VRL_cons.2 ⟨by simp [VR], (VRL_S l _).2 rfl⟩
theorem cellsSM_old : ∀ l : List (List UInt8), oldL 0 (cellsSM l) = true
 | [] => rfl
 | s :: l => by simp only [cellsSM, List.map_cons, oldL, old, Bool.true_and]; exact cellsSM_old l
theorem ins_upd {gl : Nat → Option (List AV)} {m : M} {H : List Blk} {w w' : World} (hH : HR gl m H w) {id : Nat} {I : Inf} {b : Blk} (hI : m.blk id = some I) (hb : H[id]? = some b) (hk : b.k = .grow) {n : Nat} (hn : I.tot = n)
  {l' : List (List UInt8)} (hl' : l'.length = n + 1) {cu' : Array Value} {e : TypeId} {lo hi b' lim cap : Nat} (hrow : w'.heap[b']? = some (.cells cu' e (lo, hi))) (hM : Mk .grow lo hi cu'.size) (hlim : lim ≤ cu'.size) (hcap : n + 1 ≤ cap) (hcl : cap ≤ lim)
  (hcells : cu'.toList.take (n + 1) = strV l') (hfr : b' = I.b ∨ w.heap.size ≤ b') (hsz : w.heap.size ≤ w'.heap.size) (ho : ∀ k, k ≠ I.b → k < w.heap.size → w'.heap[k]? = w.heap[k]?) (hos : w'.os = w.os) (htp : w'.tape = w.tape) (hout : w'.output = w.output)
  (h63 : n ≤ 9223372036854775807 → cap ≤ 9223372036854775807) :
  ∃ m', VR m' (.sl id (n + 1) 0 (n + 1) 1) (.slice (some ⟨b', 0, none⟩) (n + 1) cap) ∧ HR gl m' (H.set id ⟨.grow, true, cellsSM l'⟩) w' ∧ Mv m H w m' (H.set id ⟨.grow, true, cellsSM l'⟩) w' := by
 have hkn : b.k ≠ .ro := by rw [hk]; simp
 have hcl' : (cellsSM l').length = n + 1 := by simp [cellsSM, hl']
 have hup := hH.upd (w' := w') (I' := ⟨b', 0, n + 1, lim⟩) (b' := ⟨.grow, true, cellsSM l'⟩) hI hb hkn (by rw [hk]) (by simp only; omega) (fun h => by simp only at h; omega) hfr hsz ho hos htp hout (by
  refine ⟨hcl'.symm, fun _ => cellsSM_old l', cu', e, lo, hi, hrow, by simp only; omega, hlim, fun h => (by cases h), fun _ => ⟨rfl, hM⟩, ?_⟩
  simp only [List.drop_zero]
  rw [hcells]
  exact (VRL_S l' _).2 rfl)
 refine ⟨_, ?_, hup.1, hup.2⟩
 simp only [VR]
 exact ⟨rfl, _, M.set_same _ _ _, Nat.le_refl _, fun _ => ⟨0, cap, rfl, hcap, .inl ⟨rfl, by simp only; omega⟩, fun _ h => h63 (by omega)⟩⟩
def cIns : Con
 | [.sl id tot off len sz, .int .i64 i, .sl id2 tot2 off2 len2 sz2], H, K => match H.getD id ⟨.ro, false, []⟩, H.getD id2 ⟨.ro, false, []⟩ with
  | ⟨.grow, _, cs⟩, ⟨.exact, _, [.str s]⟩ => ∃ (l : List (List UInt8)) (k : Nat), Lf (cs = cellsSM l ∧ tot = l.length ∧ off = 0 ∧ len = l.length ∧ sz = 1 ∧ (tot2 = 1 ∧ off2 = 0 ∧ len2 = 1 ∧ sz2 = 1) ∧ i = (k : Nat) ∧ k ≤ l.length ∧ 1 ≤ l.length ∧ l.length ≤ 100000 ∧ Nat.blt id H.length = true ∧ Nat.blt id2 H.length = true) ∧
    K (.ret (.sl id (l.length + 1) 0 (l.length + 1) 1)) (H.set id ⟨.grow, true, cellsSM (l.take k ++ s :: l.drop k)⟩)
  | _, _ => False
 | [.nils, .int .i64 i, .sl id2 tot2 off2 len2 sz2], H, K => match H.getD id2 ⟨.ro, false, []⟩ with
  | ⟨.exact, _, [.str s]⟩ => Lf (i = 0 ∧ (tot2 = 1 ∧ off2 = 0 ∧ len2 = 1 ∧ sz2 = 1) ∧ Nat.blt id2 H.length = true) ∧ K (.ret (.sl H.length 1 0 1 1)) (H ++ [⟨.grow, true, cellsSM [s]⟩])
  | _ => False
 | _, _, _ => False
theorem getD_some {H : List Blk} {i : Nat} {d b : Blk} (h : H.getD i d = b) (hi : Nat.blt i H.length = true) : H[i]? = some b := by
 rw [blt_iff] at hi
 rw [List.getD_eq_getElem?_getD, List.getElem?_eq_getElem hi] at h
 rw [List.getElem?_eq_getElem hi]
 exact congrArg some h
theorem ins_arg {gl : Nat → Option (List AV)} {m : M} {H : List Blk} {w : World} (hH : HR gl m H w) {id2 : Nat} {lf : Bool} {s : List UInt8} (hb : H[id2]? = some ⟨.exact, lf, [.str s]⟩) {v : Value} (hv : VR m (.sl id2 1 0 1 1) v) :
  ∃ I cap cu e lo, m.blk id2 = some I ∧ v = .slice (some ⟨I.b, 0, none⟩) 1 cap ∧ w.heap[I.b]? = some (.cells cu e (lo, lo)) ∧ cu[0]? = some (.string ⟨s.toArray⟩) := by
 have hcur : Go.Proofs.YtifjpcdpmimccaaGreatDoor.cur H id2 1 = true := by simp [Go.Proofs.YtifjpcdpmimccaaGreatDoor.cur, hb]
 obtain ⟨I, o, cap, hI, ht, rfl, hc, hpos⟩ := hH.sl hv hcur
 obtain ⟨cu, e, lo, hi, q1, q2, q3, q4, q5, q6⟩ := (hH.blk id2 I _ hI hb).row
 obtain ⟨hd, hm⟩ := q5 (by simp)
 rcases hpos with ⟨rfl, hpos⟩ | ⟨h, _⟩
 ·have hlo : lo = hi := by
   rcases hm with h | ⟨_, h⟩
   ·exact h
   ·exact absurd rfl h
  subst hlo
  rw [hd, ht, List.drop_zero] at q6
  obtain ⟨v0, vs', e1, h1, h2⟩ := VRL_consL q6
  refine ⟨I, cap, cu, e, lo, hI, by rw [hd], q1, ?_⟩
  simp only [VR] at h1
  have : (cu.toList.take 1)[0]? = some v0 := by rw [e1]; rfl
  rw [List.getElem?_take_of_lt (by omega)] at this
  rw [← h1, ← this]
  simp
 ·cases h
theorem ins_ok {P : Program} {ρ : Ren} (L : Lays2.n22 P ρ) {gl : Nat → Option (List AV)} (he : Enters P (ρ.f 22)) : ValidF P gl (ρ.f 22) cIns := by
 refine ⟨he, fun args H Q hc m w vs hv hH => ?_⟩
 unfold cIns at hc
 split at hc
 ·rename_i id tot off len sz i id2 tot2 off2 len2 sz2
  split at hc
  ·rename_i lf1 cs lf2 s hb1 hb2
   obtain ⟨l, k, ⟨rfl, rfl, rfl, rfl, rfl, ⟨rfl, rfl, rfl, rfl⟩, rfl, hkl, hl1, hl2, hi1, hi2⟩, hq⟩ := hc
   have g1 := getD_some hb1 hi1
   have g2 := getD_some hb2 hi2
   obtain ⟨v1, _, e1, hv1, hv⟩ := VRL_consL hv
   obtain ⟨v2, _, rfl, hv2, hv⟩ := VRL_consL hv
   obtain ⟨v3, _, rfl, hv3, hv⟩ := VRL_consL hv
   rw [VRL_nil] at hv
   subst hv
   have evs : vs = #[v1, v2, v3] := by apply Array.ext'; simpa using e1
   subst evs
   have hcur : Go.Proofs.YtifjpcdpmimccaaGreatDoor.cur H id l.length = true := by simp [Go.Proofs.YtifjpcdpmimccaaGreatDoor.cur, g1, cellsSM]
   obtain ⟨I, o, cap, hI, hIt, rfl, hcap, hpos, hcb⟩ := hH.slc hv1 hcur
   simp only [VR] at hv2
   subst hv2
   obtain ⟨I2, cap2, cu2, e2, lo2, hI2, rfl, r1, r2⟩ := ins_arg hH g2 hv3
   obtain ⟨cu, e, lo, hi, q1, q2, q3, q4, q5, q6⟩ := (hH.blk id I _ hI g1).row
   obtain ⟨hd, hm⟩ := q5 (by simp)
   have hne : I2.b ≠ I.b := by
    intro h
    have := hH.inj id id2 I I2 _ hI hI2 g1 (by simp) h.symm
    subst this
    rw [g1] at g2
    cases g2
   rcases hpos with ⟨rfl, hpos⟩ | ⟨h, _⟩
   ·have hc63 := hcb (by simp) (by omega)
    rw [hd, hIt, List.drop_zero] at q6
    rw [hd, hIt, Nat.zero_add] at q2
    simp only [hd, Nat.zero_add, Nat.mul_one] at hpos
    rw [hd]
    show Calls P (ρ.f 22) #[.slice (some ⟨I.b, 0, none⟩) l.length cap, .int .i64 (k : Nat), .slice (some ⟨I2.b, 0, none⟩) 1 cap2] w _
    rw [VRL_S] at q6
    have hcs : ∀ (j : Nat) v, (strV l)[j]? = some v → w.cell? ⟨I.b, 0 + j, none⟩ = some v := by
     intro j v hj
     rw [← q6] at hj
     rw [List.getElem?_take] at hj
     split at hj
     ·simpa [World.cell?, q1] using hj
     ·cases hj
    have hvs : ∀ (j : Nat) v, [Value.string ⟨s.toArray⟩][j]? = some v → w.cell? ⟨I2.b, 0 + j, none⟩ = some v := by
     intro j v hj
     cases j with
     | zero => simp only [List.getElem?_cons_zero, Option.some.injEq] at hj; subst hj; simpa [World.cell?, r1] using r2
     | succ j => cases hj
    have hsp : ∀ j, j < cu.size → (w.cell? ⟨I.b, j, none⟩).isSome = true := by
     intro j hj
     simp [World.cell?, q1, Array.getElem?_eq_getElem hj]
    have hfz : ∀ j, j < cu.size → w.frozen? ⟨I.b, j, none⟩ = false := by
     intro j hj
     simp only [World.frozen?, q1, Bool.and_eq_false_iff, decide_eq_false_iff_not]
     rcases hm with h | h <;> omega
    have h1v : ∀ v ∈ [Value.string ⟨s.toArray⟩], v.oneCell' = true := by
     intro v hv
     simp only [List.mem_singleton] at hv
     subst hv
     rfl
    have hl' : (l.take k ++ s :: l.drop k).length = l.length + 1 := by simp; omega
    have hsk : strV (l.take k ++ s :: l.drop k) = (strV l).take k ++ Value.string ⟨s.toArray⟩ :: (strV l).drop k := by
     rw [strV_app, strV_cons, strV_take, strV_drop]
    have hsl := strV_len l
    by_cases hroom : l.length + 1 ≤ cap
    ·have hcz : l.length + 1 ≤ cu.size := by omega
     obtain ⟨R, hR⟩ : ∃ R : List Value, R = (strV l).take k ++ Value.string ⟨s.toArray⟩ :: (strV l).drop k ++ cu.toList.drop (l.length + 1) := ⟨_, rfl⟩
     have hRs : R.length = cu.size := by rw [hR]; simp [strV_len]; omega
     have hRt : R.toArray.toList.take (l.length + 1) = strV (l.take k ++ s :: l.drop k) := by
      rw [hsk, List.toList_toArray, hR]
      exact List.take_left' (by simp [strV_len]; omega)
     have hfin : ∀ w' : World, w' = w.setRow I.b R.toArray ∨ w' = w.drew.setRow I.b R.toArray → ∃ o H' m', Q o H' ∧ OutR m' o (.returned (.slice (some ⟨I.b, 0, none⟩) (l.length + 1) cap)) ∧ HR gl m' H' w' ∧ Mv m H w m' H' w' := by
      intro w' hw'
      obtain ⟨m', z1, z2, z3⟩ := ins_upd (w' := w') (b' := I.b) (cu' := R.toArray) (e := e) (lo := lo) (hi := hi) (lim := I.lim) (cap := cap) (l' := l.take k ++ s :: l.drop k) hH hI g1 rfl hIt hl'
       (by rcases hw' with rfl | rfl <;> exact setRow_heap _ I.b cu _ e _ q1) (by simpa [hRs] using hm) (by simpa [hRs] using q3) hroom (by omega) hRt (.inl rfl) (by rcases hw' with rfl | rfl <;> simp [World.setRow])
       (fun k hk _ => by rcases hw' with rfl | rfl <;> exact setRow_other _ I.b k _ hk) (by rcases hw' with rfl | rfl <;> rfl) (by rcases hw' with rfl | rfl <;> rfl) (by rcases hw' with rfl | rfl <;> rfl) (fun _ => hc63)
      exact ⟨_, _, m', hq, z1, z2, z3⟩
     by_cases hkn : k = l.length
     ·subst hkn
      refine (Any2.slices_Insert_string_end_room L I.b 0 l.length cap I2.b 0 1 cap2 [Value.string ⟨s.toArray⟩] w (by omega) hroom hc63 rfl (fun j hj => hsp _ (by omega)) (fun j hj => hfz _ (by omega)) hvs h1v).mono ?_
      rintro x w' ⟨rfl, rfl⟩
      refine hfin _ (.inl ?_)
      rw [setCells_row I.b e (lo, hi) _ _ cu w q1 (by simp; omega)]
      congr 1
      have t1 : (strV l).take l.length = strV l := List.take_of_length_le (by omega)
      have t2 : (strV l).drop l.length = [] := List.drop_of_length_le (by omega)
      rw [hR, Nat.zero_add, q6, t1, t2]
      simp
     ·refine (Any2.slices_Insert_string_shift L I.b 0 l.length cap k I2.b 0 1 cap2 (strV l) [Value.string ⟨s.toArray⟩] w (by omega) (by omega) hroom hc63 hne hsl rfl hcs (fun j hj => by rw [Nat.zero_add]; exact hsp _ (by omega)) (fun j hj => by rw [Nat.zero_add]; exact hfz _ (by omega)) hvs (strV_one l) h1v
       e2 e cu2.size cu.size (by simp [World.shape?, r1]) (by simp [World.shape?, q1]) (by omega) (by simp [World.frozen?, r1]) (by simp [World.frozen?, r1])).mono ?_
      rintro x w' ⟨rfl, rfl⟩
      refine hfin _ (.inr ?_)
      have hdl : ((strV l).drop k).length = l.length - k := by simp [hsl]
      rw [setCells_row I.b e (lo, hi) ((strV l).drop k) (0 + (k + 1)) cu w.drew q1 (by rw [hdl]; omega)]
      generalize hA : (cu.toList.take (0 + (k + 1)) ++ (strV l).drop k ++ cu.toList.drop (0 + (k + 1) + ((strV l).drop k).length)).toArray = A
      have hAs : A.size = cu.size := by rw [← hA]; simp [hsl]; omega
      rw [setCells_row I.b e (lo, hi) [Value.string ⟨s.toArray⟩] (0 + k) A (w.drew.setRow I.b A) (setRow_heap w.drew I.b cu A e _ q1) (by rw [hAs]; simp; omega), setRow_setRow, ← hA]
      congr 1
      apply Array.ext'
      simp only [List.toList_toArray, Nat.zero_add, List.length_singleton, hdl]
      have ec : cu.toList = strV l ++ cu.toList.drop l.length := by rw [← q6, List.take_append_drop]
      have hlen2 : k + 1 + (l.length - k) = l.length + 1 := by omega
      rw [hlen2]
      generalize hD : cu.toList.drop (l.length + 1) = D
      have a1 : (cu.toList.take (k + 1)).take k = (strV l).take k := by
       rw [List.take_take, Nat.min_eq_left (by omega), ← q6, List.take_take, Nat.min_eq_left (by omega)]
      have a2 : (cu.toList.take (k + 1) ++ (strV l).drop k ++ D).take k = (strV l).take k := by
       rw [List.append_assoc, List.take_append_of_le_length (by simp; omega)]
       exact a1
      have a3 : (cu.toList.take (k + 1) ++ (strV l).drop k ++ D).drop (k + 1) = (strV l).drop k ++ D := by
       rw [List.append_assoc]
       exact List.drop_left' (by simp; omega)
      rw [a2, a3, hR, hD]
      simp
    ·have hgm : ∀ w1 : World, grownCap w1 (l.length + 1) cap (ρ.t 9) ≤ 9223372036854775807 := fun w1 => grownCap_le_maxLen w1 (l.length + 1) cap _ (by simp only [maxLen]; omega)
     have hge := grownCap_ge w (l.length + 1) cap (ρ.t 9)
     have hbw : I.b < w.heap.size := (Array.getElem?_eq_some_iff.1 q1).1
     have hnew : ∀ (w' : World) (R : List Value), w'.heap[w.heap.size]? = some (.cells R.toArray (ρ.t 9) (0, 0)) → R.length = grownCap w (l.length + 1) cap (ρ.t 9) → R.take (l.length + 1) = strV (l.take k ++ s :: l.drop k) → w.heap.size ≤ w'.heap.size → (∀ k, k < w.heap.size → w'.heap[k]? = w.heap[k]?) → w'.os = w.os → w'.tape = w.tape → w'.output = w.output →
       ∃ o H' m', Q o H' ∧ OutR m' o (.returned (.slice (some ⟨w.heap.size, 0, none⟩) (l.length + 1) (grownCap w (l.length + 1) cap (ρ.t 9)))) ∧ HR gl m' H' w' ∧ Mv m H w m' H' w' := by
      intro w' R y1 y2 y3 y4 y5 y6 y7 y8
      obtain ⟨m', z1, z2, z3⟩ := ins_upd (w' := w') (b' := w.heap.size) (cu' := R.toArray) (e := ρ.t 9) (lo := 0) (hi := 0) (lim := grownCap w (l.length + 1) cap (ρ.t 9)) (cap := grownCap w (l.length + 1) cap (ρ.t 9)) (l' := l.take k ++ s :: l.drop k) hH hI g1 rfl hIt hl'
       y1 (.inl rfl) (by simp [y2]) hge (Nat.le_refl _) (by simpa using y3) (.inr (Nat.le_refl _)) y4 (fun k _ hk => y5 k hk) y6 y7 y8 (fun _ => hgm w)
      exact ⟨_, _, m', hq, z1, z2, z3⟩
     have hzc : (Value.string ⟨#[]⟩).cells.size = 1 := rfl
     by_cases hkn : k = l.length
     ·subst hkn
      refine (Any2.slices_Insert_string_end_grow L (some ⟨I.b, 0, none⟩) l.length cap I2.b 0 1 cap2 (strV l) [Value.string ⟨s.toArray⟩] w (by omega) hcap (by omega) (by omega) hsl rfl (fun h => by cases h) (fun a ha j v hj => by cases ha; rw [Addr.add_lit]; exact hcs j v hj) hvs h1v).mono ?_
      rintro x w' ⟨rfl, rfl⟩
      have hz := size_zeroCells (Value.string ⟨#[]⟩).cells (grownCap w (l.length + 1) cap (ρ.t 9) - (l.length + 1))
      rw [hzc, Nat.mul_one] at hz
      refine hnew _ (strV l ++ [Value.string ⟨s.toArray⟩] ++ (Builtin.zeroCells (Value.string ⟨#[]⟩).cells (grownCap w (l.length + 1) cap (ρ.t 9) - (l.length + 1))).toList) ?_ ?_ ?_ (by simp) (fun k hk => Below.heap_alloc w.drew _ _ hk) rfl rfl rfl
      ·rw [show (strV l ++ [Value.string ⟨s.toArray⟩] ++ (Builtin.zeroCells (Value.string ⟨#[]⟩).cells (grownCap w (l.length + 1) cap (ρ.t 9) - (l.length + 1))).toList).toArray = (strV l ++ [Value.string ⟨s.toArray⟩]).toArray ++ Builtin.zeroCells (Value.string ⟨#[]⟩).cells (grownCap w (l.length + 1) cap (ρ.t 9) - (l.length + 1)) by apply Array.ext'; simp]
       exact heap_alloc_new w.drew _
      ·simp only [List.length_append, List.length_singleton, Array.length_toList, hz, hsl]; omega
      ·rw [hsk, List.take_left' (by simp [hsl]), List.take_of_length_le (by omega), List.drop_of_length_le (by omega)]
     ·refine (Any2.slices_Insert_string_grow L I.b 0 l.length cap k I2.b 0 1 cap2 (strV l) [Value.string ⟨s.toArray⟩] w (by omega) (by omega) hcap (by omega) (by omega) hsl rfl hcs hvs (strV_one l) h1v).mono ?_
      rintro x w' ⟨rfl, rfl⟩
      generalize hG : grownCap w (l.length + 1) cap (ρ.t 9) = G at *
      have hz1 := size_zeroCells (Value.string ⟨#[]⟩).cells (l.length + 1 - k)
      have hz2 := size_zeroCells (Value.string ⟨#[]⟩).cells (G - (l.length + 1))
      rw [hzc, Nat.mul_one] at hz1 hz2
      generalize Builtin.zeroCells (Value.string ⟨#[]⟩).cells (l.length + 1 - k) = Z1 at *
      generalize Builtin.zeroCells (Value.string ⟨#[]⟩).cells (G - (l.length + 1)) = Z2 at *
      obtain ⟨w1, hw1⟩ : ∃ w1, w1 = w.alloc (.cells (((strV l).take k).toArray ++ Z1 ++ Z2) (ρ.t 9)) := ⟨_, rfl⟩
      have hh1 : w1.heap[w.heap.size]? = some (.cells (((strV l).take k).toArray ++ Z1 ++ Z2) (ρ.t 9) (0, 0)) := by rw [hw1]; exact heap_alloc_new w _
      have hs1 : (((strV l).take k).toArray ++ Z1 ++ Z2).size = G := by simp [hz1, hz2, hsl]; omega
      have hkd : ((strV l).drop k).length = l.length - k := by simp [hsl]
      rw [← hw1]
      rw [setCells_row w.heap.size (ρ.t 9) (0, 0) [Value.string ⟨s.toArray⟩] k (((strV l).take k).toArray ++ Z1 ++ Z2) w1.drew hh1 (by rw [hs1]; simp; omega)]
      obtain ⟨R1, hR1⟩ : ∃ R1 : List Value, R1 = (((strV l).take k).toArray ++ Z1 ++ Z2).toList.take k ++ [Value.string ⟨s.toArray⟩] ++ (((strV l).take k).toArray ++ Z1 ++ Z2).toList.drop (k + [Value.string ⟨s.toArray⟩].length) := ⟨_, rfl⟩
      rw [← hR1]
      have hR1l : R1.length = G := by rw [hR1]; simp only [List.length_append, List.length_take, List.length_drop, Array.length_toList, hs1, List.length_singleton]; omega
      have hR1t : R1.take (k + 1) = (strV l).take k ++ [Value.string ⟨s.toArray⟩] := by
       rw [hR1]
       have : (((strV l).take k).toArray ++ Z1 ++ Z2).toList.take k = (strV l).take k := by
        simp only [Array.toList_append, List.append_assoc]
        rw [List.take_append_of_le_length (by simp [hsl]; omega), List.take_of_length_le (by simp; omega)]
       rw [this]
       exact List.take_left' (by simp [hsl]; omega)
      have hh2 := setRow_heap w1.drew w.heap.size _ R1.toArray _ _ hh1
      rw [show ((w1.drew.setRow w.heap.size R1.toArray).drew).setCells w.heap.size (k + 1) ((strV l).drop k) = (w1.drew.setRow w.heap.size R1.toArray).drew.setRow w.heap.size (R1.toArray.toList.take (k + 1) ++ (strV l).drop k ++ R1.toArray.toList.drop (k + 1 + ((strV l).drop k).length)).toArray from
       setCells_row w.heap.size (ρ.t 9) (0, 0) ((strV l).drop k) (k + 1) R1.toArray (w1.drew.setRow w.heap.size R1.toArray).drew hh2 (by rw [hkd]; simp [hR1l]; omega)]
      rw [List.toList_toArray, hR1t, hkd]
      refine hnew _ ((strV l).take k ++ [Value.string ⟨s.toArray⟩] ++ (strV l).drop k ++ R1.drop (k + 1 + (l.length - k))) (setRow_heap _ _ _ _ _ _ hh2) ?_ ?_ ?_ ?_ (by rw [hw1]; rfl) (by rw [hw1]; rfl) (by rw [hw1]; rfl)
      ·simp only [List.length_append, List.length_take, List.length_drop, List.length_singleton, hR1l, hsl]; omega
      ·rw [hsk, List.take_left' (by simp [hsl]; omega)]; simp
      ·rw [hw1]; simp [World.setRow]
      ·intro j hj
       rw [setRow_other _ _ _ _ (by omega)]
       show (w1.drew.setRow w.heap.size R1.toArray).heap[j]? = _
       rw [setRow_other _ _ _ _ (by omega), hw1]
       exact Below.heap_alloc w _ _ hj
   ·omega
  ·exact hc.elim
 ·rename_i i id2 tot2 off2 len2 sz2
  split at hc
  ·rename_i lf2 s hb2
   obtain ⟨⟨rfl, ⟨rfl, rfl, rfl, rfl⟩, hi2⟩, hq⟩ := hc
   have g2 := getD_some hb2 hi2
   obtain ⟨v1, _, e1, hv1, hv⟩ := VRL_consL hv
   obtain ⟨v2, _, rfl, hv2, hv⟩ := VRL_consL hv
   obtain ⟨v3, _, rfl, hv3, hv⟩ := VRL_consL hv
   rw [VRL_nil] at hv
   subst hv
   have evs : vs = #[v1, v2, v3] := by apply Array.ext'; simpa using e1
   subst evs
   simp only [VR] at hv1 hv2
   subst hv1 hv2
   obtain ⟨I2, cap2, cu2, e2, lo2, hI2, rfl, r1, r2⟩ := ins_arg hH g2 hv3
   have hvs : ∀ (j : Nat) v, [Value.string ⟨s.toArray⟩][j]? = some v → w.cell? ⟨I2.b, 0 + j, none⟩ = some v := by
    intro j v hj
    cases j with
    | zero => simp only [List.getElem?_cons_zero, Option.some.injEq] at hj; subst hj; simpa [World.cell?, r1] using r2
    | succ j => cases hj
   have h1v : ∀ v ∈ [Value.string ⟨s.toArray⟩], v.oneCell' = true := by
    intro v hv
    simp only [List.mem_singleton] at hv
    subst hv
    rfl
   refine (Any2.slices_Insert_string_end_grow L none 0 0 I2.b 0 1 cap2 [] [Value.string ⟨s.toArray⟩] w (by omega) (by omega) (by omega) (by omega) rfl rfl (fun _ => rfl) (fun a ha => by cases ha) hvs h1v).mono ?_
   rintro x w' ⟨rfl, rfl⟩
   have hz := size_zeroCells (Value.string ⟨#[]⟩).cells (grownCap w (0 + 1) 0 (ρ.t 9) - (0 + 1))
   rw [show (Value.string ⟨#[]⟩).cells.size = 1 from rfl, Nat.mul_one] at hz
   have hge := grownCap_ge w (0 + 1) 0 (ρ.t 9)
   have hN := (newB_grow (m := m) (olds := []) (news := [Value.string ⟨s.toArray⟩]) (xs := []) (vs := [.str s]) (by simp) (by simp [VR]) w (ρ.t 9) (Builtin.zeroCells (Value.string ⟨#[]⟩).cells (grownCap w (0 + 1) 0 (ρ.t 9) - (0 + 1))).toList 0).1
   obtain ⟨q2, q3⟩ := hH.new hN
   refine ⟨_, _, _, hq, ?_, by simpa [mkBlk, cellsSM, oldL, old] using q2, by simpa [mkBlk, cellsSM, oldL, old] using q3⟩
   simp only [OutR, VR]
   refine ⟨rfl, _, M.set_same _ _ _, Nat.le_refl _, fun _ => ⟨0, _, rfl, hge, .inl ⟨rfl, ?_⟩, fun _ _ => grownCap_le_maxLen w (0 + 1) 0 _ (by simp only [maxLen]; omega)⟩⟩
   simp only [List.length_nil, List.length_singleton, Array.length_toList, hz]
   omega
  ·exact hc.elim
 ·exact hc.elim
end Go.Proofs.YtifjpcdpmimccaaGreatDoor
