/-
  The engine, part J: operations that write.
-/
import Derived.Test.YtafchcmemeinlaaDoorEngI
set_option linter.unusedSimpArgs false
set_option linter.unusedVariables false
namespace Go.Proofs.YtafchcmemeinlaaDoor
open Go.RowKit

def M.set (m : M) (id : Nat) (I : Inf) : M := ⟨fun j => if j = id then some I else m.blk j, m.opq, m.lp, m.frz⟩
theorem M.set_same (m : M) (id : Nat) (I : Inf) : (m.set id I).blk id = some I := by simp [M.set]
theorem M.set_other (m : M) {id j : Nat} (I : Inf) (h : j ≠ id) : (m.set id I).blk j = m.blk j := by simp [M.set, h]

section
variable {P : Program} {gl : Nat → Option (List AV)} {m : M} {H : List Blk} {w w' : World}

theorem HR.lt (hH : HR gl m H w) {id : Nat} {I : Inf} (hI : m.blk id = some I) : I.b < w.heap.size := by
  have hd := hH.dom id I hI
  obtain ⟨cu, e, lo, hi, h, _⟩ := (hH.blk id I H[id] hI (by simp [hd])).row
  exact (Array.getElem?_eq_some_iff.1 h).1

theorem Ext.set_old {id : Nat} {I I' : Inf} (hI : m.blk id = some I) (ht : I.tot ≤ I'.tot) (he : I.tot = I'.tot → I' = I) : Ext m (m.set id I') := by
  refine ⟨fun j J hJ => ?_, rfl, fun _ _ h => h, fun _ _ _ h => h⟩
  by_cases hj : j = id
  · subst hj
    rw [hI] at hJ
    cases hJ
    exact ⟨I', M.set_same _ _ _, ht, he⟩
  · exact ⟨J, by rw [M.set_other _ _ hj]; exact hJ, Nat.le_refl _, fun _ => rfl⟩

theorem Ext.set_new {id : Nat} {I : Inf} (h : m.blk id = none) : Ext m (m.set id I) := by
  refine ⟨fun j J hJ => ⟨J, ?_, Nat.le_refl _, fun _ => rfl⟩, rfl, fun _ _ h => h, fun _ _ _ h => h⟩
  rw [M.set_other]
  · exact hJ
  · intro e
    subst e
    rw [h] at hJ
    cases hJ

/-- a block is written, or grows -/
theorem HR.upd (hH : HR gl m H w) {id : Nat} {I I' : Inf} {b b' : Blk} (hI : m.blk id = some I) (hb : H[id]? = some b) (hk : b.k ≠ .ro) (hk' : b'.k = b.k) (ht : I.tot ≤ I'.tot) (he : I.tot = I'.tot → I' = I)
    (hfr : I'.b = I.b ∨ w.heap.size ≤ I'.b) (hsz : w.heap.size ≤ w'.heap.size) (ho : ∀ k, k ≠ I.b → k < w.heap.size → w'.heap[k]? = w.heap[k]?) (hos : w'.os = w.os) (htp : w'.tape = w.tape) (hout : w'.output = w.output)
    (hB : BR (m.set id I') I' b' w') : HR gl (m.set id I') (H.set id b') w' ∧ Mv m H w (m.set id I') (H.set id b') w' := by
  have hid : id < H.length := hH.dom id I hI
  have hext := Ext.set_old (m := m) hI ht he
  have hne : ∀ j J, j ≠ id → m.blk j = some J → J.b ≠ I.b ∧ J.b ≠ I'.b := by
    intro j J hj hJ
    have h1 : J.b ≠ I.b := fun e => hj ((hH.inj id j I J b hI hJ hb hk e.symm).symm)
    refine ⟨h1, fun e => ?_⟩
    rcases hfr with h2 | h2
    · exact h1 (e.trans h2)
    · have := hH.lt hJ
      omega
  have hnw : ∀ j, j < H.length → m.blk j = none → (m.set id I').blk j = none := by
    intro j _ hn
    rw [M.set_other]
    · exact hn
    · intro e
      subst e
      rw [hI] at hn
      cases hn
  refine ⟨⟨?_, ?_, ?_, ?_, hH.gld, ?_, ?_, ?_⟩, ⟨hext, hos, htp, hout, hsz, ?_, ?_, fun _ _ h => h, fun _ _ _ h => .inl h⟩, by simp, hnw⟩
  · intro j J hJ
    by_cases hj : j = id
    · subst hj; simpa using hid
    · rw [M.set_other _ _ hj] at hJ; simpa using hH.dom j J hJ
  · intro j J c hJ hc
    by_cases hj : j = id
    · subst hj
      rw [M.set_same] at hJ
      cases hJ
      rw [List.getElem?_set_self hid] at hc
      cases hc
      exact hB
    · rw [M.set_other _ _ hj] at hJ
      rw [List.getElem?_set_ne (by omega)] at hc
      have hn := hne j J hj hJ
      exact (hH.blk j J c hJ hc).mono hext (ho J.b hn.1 (hH.lt hJ))
  · intro i j J K c hJ hK hc hck hJK
    by_cases hi : i = id <;> by_cases hj : j = id
    · rw [hi, hj]
    · subst hi
      rw [M.set_same] at hJ
      rw [M.set_other _ _ hj] at hK
      cases hJ
      exact absurd hJK.symm (hne j K hj hK).2
    · subst hj
      rw [M.set_same] at hK
      rw [M.set_other _ _ hi] at hJ
      cases hK
      exact absurd hJK (hne i J hi hJ).2
    · rw [M.set_other _ _ hi] at hJ
      rw [M.set_other _ _ hj] at hK
      rw [List.getElem?_set_ne (by omega)] at hc
      exact hH.inj i j J K c hJ hK hc hck hJK
  · intro g cs hg
    obtain ⟨cu, e, fr, h1, h2⟩ := hH.glb g cs hg
    have hgs : g < w.heap.size := (Array.getElem?_eq_some_iff.1 h1).1
    have hgn : g ≠ I.b := fun e => hH.gow g cs id I b hg hI hb hk e.symm
    exact ⟨cu, e, fr, (ho g hgn hgs).trans h1, VRL.mono hext _ _ h2⟩
  · intro t g cs hg
    obtain ⟨cu, e, fr, h1, h2⟩ := hH.frz t g cs hg
    have hgs : g < w.heap.size := (Array.getElem?_eq_some_iff.1 h1).1
    have hgn : g ≠ I.b := fun e => hH.fow t g cs id I b hg hI hb hk e.symm
    exact ⟨cu, e, fr, (ho g hgn hgs).trans h1, h2⟩
  · intro t g cs j J c hg hJ hc hck
    by_cases hj : j = id
    · subst hj
      rw [M.set_same] at hJ
      cases hJ
      rcases hfr with h2 | h2
      · rw [h2]; exact hH.fow t g cs j I b hg hI hb hk
      · obtain ⟨cu, e, fr, h1, _⟩ := hH.frz t g cs hg
        have hgs : g < w.heap.size := (Array.getElem?_eq_some_iff.1 h1).1
        omega
    · rw [M.set_other _ _ hj] at hJ
      rw [List.getElem?_set_ne (by omega)] at hc
      exact hH.fow t g cs j J c hg hJ hc hck
  · intro g cs j J c hg hJ hc hck
    by_cases hj : j = id
    · subst hj
      rw [M.set_same] at hJ
      cases hJ
      rcases hfr with h2 | h2
      · rw [h2]; exact hH.gow g cs j I b hg hI hb hk
      · obtain ⟨cu, e, fr, h1, _⟩ := hH.glb g cs hg
        have hgs : g < w.heap.size := (Array.getElem?_eq_some_iff.1 h1).1
        omega
    · rw [M.set_other _ _ hj] at hJ
      rw [List.getElem?_set_ne (by omega)] at hc
      exact hH.gow g cs j J c hg hJ hc hck
  · intro k hk1 hk2
    exact ho k (fun e => hk2 ⟨id, I, b, hI, hb, hk, e.symm⟩) hk1
  · rintro k ⟨j, J, c, hJ, hc, hck, rfl⟩
    by_cases hj : j = id
    · subst hj
      rw [M.set_same] at hJ
      cases hJ
      rcases hfr with h2 | h2
      · exact .inr ⟨j, I, b, hI, hb, hk, h2.symm⟩
      · exact .inl h2
    · rw [M.set_other _ _ hj] at hJ
      rw [List.getElem?_set_ne (by omega)] at hc
      exact .inr ⟨j, J, c, hJ, hc, hck, rfl⟩

/-- a block is made -/
theorem HR.map (hH : HR gl m H w) {id : Nat} {I : Inf} {nb : Blk} {H' : List Blk} (hid : m.blk id = none) (hnb : H'[id]? = some nb) (hHH : ∀ j, j ≠ id → j < H.length → H'[j]? = H[j]?) (hlen : H.length ≤ H'.length) (hN : NewB m nb I w w') :
    HR gl (m.set id I) H' w' ∧ Mw m H w (m.set id I) H' w' := by
  have hext : Ext m (m.set id I) := Ext.set_new hid
  obtain ⟨cu, e, lo, hi, q1, q2, q3, q4, q5, q6, q7⟩ := hN.row
  have ho : ∀ k, k < w.heap.size → w'.heap[k]? = w.heap[k]? := by
    intro k hk
    rw [q1, Array.getElem?_push, if_neg (by omega)]
  have hnew : w'.heap[I.b]? = some (.cells cu e (lo, hi)) := by
    rw [q1, hN.b]
    simp
  have hsz : w'.heap.size = w.heap.size + 1 := by rw [q1]; simp
  refine ⟨⟨?_, ?_, ?_, ?_, hH.gld, ?_, ?_, ?_⟩, hext, hN.os, hN.tape, hN.output, by omega, ?_, ?_, fun _ _ h => h, fun _ _ _ h => .inl h⟩
  · intro j J hJ
    by_cases hj : j = id
    · subst hj
      exact (List.getElem?_eq_some_iff.1 hnb).1
    · rw [M.set_other _ _ hj] at hJ
      have := hH.dom j J hJ
      omega
  · intro j J c hJ hc
    by_cases hj : j = id
    · subst hj
      rw [M.set_same] at hJ
      cases hJ
      rw [hnb] at hc
      cases hc
      refine ⟨hN.tot, hN.lf, cu, e, lo, hi, hnew, by rw [hN.d]; omega, q3, fun h => by rw [hN.d, q4 h]; omega, fun _ => ⟨hN.d, q6⟩, ?_⟩
      rw [hN.d, List.drop_zero]
      exact VRL.mono hext _ _ q7
    · rw [M.set_other _ _ hj] at hJ
      rw [hHH j hj (hH.dom j J hJ)] at hc
      exact (hH.blk j J c hJ hc).mono hext (ho J.b (hH.lt hJ))
  · intro i j J K c hJ hK hc hck hJK
    by_cases hi : i = id <;> by_cases hj : j = id
    · rw [hi, hj]
    · subst hi
      rw [M.set_same] at hJ
      rw [M.set_other _ _ hj] at hK
      cases hJ
      have := hH.lt hK
      have := hN.b
      omega
    · subst hj
      rw [M.set_same] at hK
      rw [M.set_other _ _ hi] at hJ
      cases hK
      have := hH.lt hJ
      have := hN.b
      omega
    · rw [M.set_other _ _ hi] at hJ
      rw [M.set_other _ _ hj] at hK
      rw [hHH i hi (hH.dom i J hJ)] at hc
      exact hH.inj i j J K c hJ hK hc hck hJK
  · intro g cs hg
    obtain ⟨cu, e, fr, h1, h2⟩ := hH.glb g cs hg
    have hgs : g < w.heap.size := (Array.getElem?_eq_some_iff.1 h1).1
    exact ⟨cu, e, fr, (ho g hgs).trans h1, VRL.mono hext _ _ h2⟩
  · intro t g cs hg
    obtain ⟨cu, e, fr, h1, h2⟩ := hH.frz t g cs hg
    have hgs : g < w.heap.size := (Array.getElem?_eq_some_iff.1 h1).1
    exact ⟨cu, e, fr, (ho g hgs).trans h1, h2⟩
  · intro t g cs j J c hg hJ hc hck
    by_cases hj : j = id
    · subst hj
      rw [M.set_same] at hJ
      cases hJ
      obtain ⟨cu, e, fr, h1, _⟩ := hH.frz t g cs hg
      have hgs : g < w.heap.size := (Array.getElem?_eq_some_iff.1 h1).1
      have := hN.b
      omega
    · rw [M.set_other _ _ hj] at hJ
      rw [hHH j hj (hH.dom j J hJ)] at hc
      exact hH.fow t g cs j J c hg hJ hc hck
  · intro g cs j J c hg hJ hc hck
    by_cases hj : j = id
    · subst hj
      rw [M.set_same] at hJ
      cases hJ
      obtain ⟨cu, e, fr, h1, _⟩ := hH.glb g cs hg
      have hgs : g < w.heap.size := (Array.getElem?_eq_some_iff.1 h1).1
      have := hN.b
      omega
    · rw [M.set_other _ _ hj] at hJ
      rw [hHH j hj (hH.dom j J hJ)] at hc
      exact hH.gow g cs j J c hg hJ hc hck
  · intro k hk1 _
    exact ho k hk1
  · rintro k ⟨j, J, c, hJ, hc, hck, rfl⟩
    by_cases hj : j = id
    · subst hj
      rw [M.set_same] at hJ
      cases hJ
      exact .inl (by rw [hN.b]; exact Nat.le_refl _)
    · rw [M.set_other _ _ hj] at hJ
      rw [hHH j hj (hH.dom j J hJ)] at hc
      exact .inr ⟨j, J, c, hJ, hc, hck, rfl⟩

theorem HR.new (hH : HR gl m H w) {I : Inf} {nb : Blk} (hN : NewB m nb I w w') : HR gl (m.set H.length I) (H ++ [nb]) w' ∧ Mv m H w (m.set H.length I) (H ++ [nb]) w' := by
  have hn : m.blk H.length = none := by
    cases h : m.blk H.length with
    | none => rfl
    | some J => have := hH.dom _ _ h; omega
  obtain ⟨h1, h2⟩ := hH.map (H' := H ++ [nb]) hn (by simp) (fun j hj hl => by rw [List.getElem?_append_left hl]) (by simp) hN
  exact ⟨h1, h2, by simp, fun j hj hnj => by rw [M.set_other _ _ (by omega)]; exact hnj⟩
end

theorem storeCells_row (P : Program) (g o : Nat) (t : TypeId) (lo hi : Nat) : ∀ (vs : List Value) (i : Nat) (cur : Array Value) (w : World), w.heap[g]? = some (.cells cur t (lo, hi)) → Mk lo hi cur.size → o + i + vs.length ≤ cur.size → (∀ v ∈ vs, v.oneCell' = true) →
    (storeCells ⟨g, o, none⟩ vs i).run P w = .ok () (w.setRow g (cur.toList.take (o + i) ++ vs ++ cur.toList.drop (o + i + vs.length)).toArray)
  | [], i, cur, w, hg, _, _, _ => by
    simp only [storeCells, List.append_nil, List.length_nil, Nat.add_zero, List.take_append_drop, Array.toArray_toList]
    rw [setRow_self w g cur t _ hg]
    rfl
  | v :: rest, i, cur, w, hg, hm, hl, h1 => by
    have hi' : o + i < cur.size := by simp at hl; omega
    have hadd : (⟨g, o, none⟩ : Addr).add i = ⟨g, o + i, none⟩ := by unfold Addr.add; split <;> simp_all
    have hcell : w.cell? ⟨g, o + i, none⟩ = some cur[o + i] := by simp [World.cell?, hg, hi']
    have hfro : w.frozen? ⟨g, o + i, none⟩ = false := by
      simp only [World.frozen?, hg, Bool.and_eq_false_iff, decide_eq_false_iff_not]
      rcases hm with h | h <;> omega
    have hst : (store ((⟨g, o, none⟩ : Addr).add i) v).run P w = .ok () (w.setRow g (cur.setIfInBounds (o + i) v)) := by
      rw [hadd, run_store P w _ v _ (h1 v (by simp)), hcell]
      simp [hfro, setCell_eq_setRow w g (o + i) cur t (lo, hi) v hg]
    have ih := storeCells_row P g o t lo hi rest (i + 1) (cur.setIfInBounds (o + i) v) (w.setRow g (cur.setIfInBounds (o + i) v)) (setRow_heap w g cur _ t _ hg) (by simpa using hm) (by simp at hl ⊢; omega) (fun x hx => h1 x (by simp [hx]))
    simp only [storeCells, Sem.run_bind, hst, Result.andThen_ok, ih, setRow_setRow]
    congr 3
    have e := list_seg_step cur.toList (o + i) v rest (by simp at hl ⊢; omega)
    simpa [Array.toList_setIfInBounds, Nat.add_assoc] using e

section
variable {P : Program} {gl : Nat → Option (List AV)} {m : M} {H : List Blk} {w : World}

theorem old_setRange {a : Nat} {l vs : List AV} {off : Nat} (h1 : oldL a l = true) (h2 : oldL a vs = true) : oldL a (setRange l off vs) = true := by
  have app : ∀ x y : List AV, oldL a x = true → oldL a y = true → oldL a (x ++ y) = true := by
    intro x
    induction x with
    | nil => intro y _ h; exact h
    | cons v x ih => intro y hx hy; simp only [List.cons_append, oldL, Bool.and_eq_true] at hx ⊢; exact ⟨hx.1, ih y hx.2 hy⟩
  have tk : ∀ (x : List AV) (n : Nat), oldL a x = true → oldL a (x.take n) = true := by
    intro x
    induction x with
    | nil => intro n h; simpa using h
    | cons v x ih => intro n h; simp only [oldL, Bool.and_eq_true] at h; cases n with
      | zero => rfl
      | succ n => simp only [List.take_succ_cons, oldL, Bool.and_eq_true]; exact ⟨h.1, ih n h.2⟩
  have dr : ∀ (x : List AV) (n : Nat), oldL a x = true → oldL a (x.drop n) = true := by
    intro x
    induction x with
    | nil => intro n h; simpa using h
    | cons v x ih => intro n h; cases n with
      | zero => exact h
      | succ n => simp only [oldL, Bool.and_eq_true] at h; simp only [List.drop_succ_cons]; exact ih n h.2
  exact app _ _ (app _ _ (tk _ _ h1) h2) (dr _ _ h1)

theorem old_append {a : Nat} : ∀ {x y : List AV}, oldL a x = true → oldL a y = true → oldL a (x ++ y) = true
  | [], _, _, h => h
  | v :: x, y, hx, hy => by
    simp only [List.cons_append, oldL, Bool.and_eq_true] at hx ⊢
    exact ⟨hx.1, old_append hx.2 hy⟩

theorem take_seg {α : Type} (l us : List α) (off n : Nat) (h : off + us.length ≤ n) (hn : n ≤ l.length) : (l.take off ++ us ++ l.drop (off + us.length)).take n = (l.take n).take off ++ us ++ (l.take n).drop (off + us.length) := by
  have len : (l.take off ++ us).length = off + us.length := by simp; omega
  rw [List.take_append, List.take_of_length_le (l := l.take off ++ us) (by rw [len]; exact h), len, List.drop_take, List.take_take, show min off n = off by omega]

/-- cells are stored into a block -/
theorem set_ok (hH : HR gl m H w) {id tot off : Nat} (hc : cur H id tot = true) {I : Inf} (hI : m.blk id = some I) (hk : kindAt H id ≠ .ro) {vs : List AV} {us : List Value} (hv : VRL m vs us) (h1 : oneL vs = true) (hle : off + vs.length ≤ tot) :
    ∃ w' m', (storeCells ⟨I.b, I.d + off, none⟩ us).run P w = .ok () w' ∧ HR gl m' (setB H id off vs) w' ∧ Mv m H w m' (setB H id off vs) w' := by
  obtain ⟨b, hb, hbl⟩ := cur_iff hc
  have hk2 : b.k ≠ .ro := by simpa [kindAt, hb] using hk
  have hB := hH.blk id I b hI hb
  obtain ⟨cu, e, lo, hi, q1, q2, q3, q4, q5, q6⟩ := hB.row
  obtain ⟨hd, hm⟩ := q5 hk2
  have hlen : vs.length = us.length := hv.len
  have ht : I.tot = tot := by rw [hB.tot, hbl]
  have hst := storeCells_row P I.b (I.d + off) e lo hi us 0 cu w q1 hm (by omega) (oneL_of h1 hv)
  simp only [Nat.add_zero, hd, Nat.zero_add] at hst
  rw [hd, Nat.zero_add]
  refine ⟨_, m.set id I, hst, ?_⟩
  have hsetB : setB H id off vs = H.set id ⟨b.k, b.lf && oldL 0 vs, setRange b.cs off vs⟩ := by simp [setB, hb]
  rw [hsetB]
  refine hH.upd hI hb hk2 rfl (Nat.le_refl _) (fun _ => rfl) (.inl rfl) (by simp [World.setRow]) (fun k hk _ => setRow_other w I.b k _ hk) rfl rfl rfl ?_
  have hext := Ext.set_old (m := m) hI (Nat.le_refl _) (fun _ => rfl)
  have hsz : ((cu.toList.take off ++ us ++ cu.toList.drop (off + us.length)).toArray).size = cu.size := by simp; omega
  refine ⟨by simp [setRange]; omega, fun h => ?_, (cu.toList.take off ++ us ++ cu.toList.drop (off + us.length)).toArray, e, lo, hi, setRow_heap w I.b cu _ e _ q1, q2, by rw [hsz]; exact q3, q4, fun _ => ⟨hd, by rw [hsz]; exact hm⟩, ?_⟩
  · simp only [Bool.and_eq_true] at h
    exact old_setRange (hB.lf h.1) h.2
  · rw [hd, List.drop_zero] at q6 ⊢
    have e1 : (cu.toList.take off ++ us ++ cu.toList.drop (off + us.length)).toArray.toList.take I.tot = (cu.toList.take I.tot).take off ++ us ++ (cu.toList.take I.tot).drop (off + us.length) :=
      take_seg _ _ _ _ (by omega) (by simp; omega)
    rw [e1]
    simp only [setRange, hlen]
    exact VRL.mono hext _ _ (VRL.append (VRL.append (q6.take off) hv) (q6.drop _))
end
end Go.Proofs.YtafchcmemeinlaaDoor
