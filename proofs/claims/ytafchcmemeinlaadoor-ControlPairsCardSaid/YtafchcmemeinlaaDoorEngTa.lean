/-
  The engine, part Ta: a slice that is frozen at a round's end.
-/
import Derived.Test.YtafchcmemeinlaaDoorEngS
set_option linter.unusedSimpArgs false
set_option linter.unusedVariables false
namespace Go.Proofs.YtafchcmemeinlaaDoor
open Go.RowKit

mutual
theorem VR.nor {m m' : M} {i : Nat} (hb : ∀ j, j ≠ i → m'.blk j = m.blk j) (ho : m'.opq = m.opq) (hl : m'.lp = m.lp) (hs : Ext m.strip m'.strip) : ∀ (a : AV) (v : Value), nor i a = true → VR m a v → VR m' a v
  | .undef, _, _, _ => by simp [VR]
  | .opq i, v, _, h => by simpa only [VR, ho] using h
  | .bool _, _, _, h => by simpa only [VR] using h
  | .int _ _, _, _, h => by simpa only [VR] using h
  | .str _, _, _, h => by simpa only [VR] using h
  | .nilp, _, _, h => by simpa only [VR] using h
  | .ptr id tot off, v, o, h => by
    have e : id ≠ i := fun e => by subst e; simp [nor] at o
    simp only [VR, hb id e] at h ⊢
    exact h
  | .gptr _ _, _, _, h => by simpa only [VR] using h
  | .nils, _, _, h => by simpa only [VR] using h
  | .sl id tot off len sz, v, o, h => by
    have e : id ≠ i := fun e => by subst e; simp [nor] at o
    simp only [VR, hb id e] at h ⊢
    exact h
  | .nilf, _, _, h => by simpa only [VR] using h
  | .fn f x y, v, o, h => by
    simp only [nor, Bool.and_eq_true] at o
    simp only [VR] at h ⊢
    obtain ⟨x', y', h1, h2, h3⟩ := h
    exact ⟨x', y', h1, VRL.nor hb ho hl hs x _ o.1 h2, VRL.nor hb ho hl hs y _ o.2 h3⟩
  | .yld u, _, _, h => by simpa only [VR, hl] using h
  | .nili, _, _, h => by simpa only [VR] using h
  | .iface t v, _, o, h => by
    simp only [nor] at o
    simp only [VR] at h ⊢
    obtain ⟨x, h1, h2⟩ := h
    exact ⟨x, h1, VR.nor hb ho hl hs v x o h2⟩
  | .agg l, _, o, h => by
    simp only [nor] at o
    simp only [VR] at h ⊢
    obtain ⟨x, h1, h2⟩ := h
    exact ⟨x, h1, VRL.nor hb ho hl hs l _ o h2⟩
  | .tup l, _, o, h => by
    simp only [nor] at o
    simp only [VR] at h ⊢
    obtain ⟨x, h1, h2⟩ := h
    exact ⟨x, h1, VRL.nor hb ho hl hs l _ o h2⟩
  | .lst t l len sz, v, _, h => by
    simp only [VR] at h ⊢
    obtain ⟨h1, h2, a, cap, h3, h4, h5⟩ := h
    exact ⟨h1, h2, a, cap, h3, h4, h5.imp (fun ⟨a, cs, ka, k0, k1, k2, k3⟩ => ⟨a, cs, ka, k0, hs.frz _ _ _ k1, k2, VRL.mono hs _ _ k3⟩) id⟩
  | .lptr t l off, v, _, h => by
    simp only [VR] at h ⊢
    obtain ⟨h1, b, o, cs, h3, h4, h5, h6⟩ := h
    exact ⟨h1, b, o, cs, h3, hs.frz _ _ _ h4, h5, VRL.mono hs _ _ h6⟩
theorem VRL.nor {m m' : M} {i : Nat} (hb : ∀ j, j ≠ i → m'.blk j = m.blk j) (ho : m'.opq = m.opq) (hl : m'.lp = m.lp) (hs : Ext m.strip m'.strip) : ∀ (l : List AV) (vs : List Value), norL i l = true → VRL m l vs → VRL m' l vs
  | [], vs, _, h => by simpa only [VRL] using h
  | a :: l, vs, o, h => by
    simp only [norL, Bool.and_eq_true] at o
    obtain ⟨v, vs', rfl, h1, h2⟩ := VRL_consL h
    rw [VRL_cons]
    exact ⟨VR.nor hb ho hl hs a v o.1 h1, VRL.nor hb ho hl hs l vs' o.2 h2⟩
end

mutual
theorem nor_old {i : Nat} : ∀ a, old 0 a = true → nor i a = true
  | .undef, _ | .opq _, _ | .bool _, _ | .int _ _, _ | .str _, _ | .nilp, _ | .gptr _ _, _ | .nils, _ | .nilf, _ | .yld _, _ | .nili, _ | .lst _ _ _ _, _ | .lptr _ _ _, _ => rfl
  | .ptr _ _ _, h => by simp [old] at h
  | .sl _ _ _ _ _, h => by simp [old] at h
  | .fn _ x y, h => by
    simp only [old, Bool.and_eq_true] at h
    simp only [nor, norL_old x h.1, norL_old y h.2, Bool.and_self]
  | .iface _ v, h => by simp only [old] at h; simp only [nor, nor_old v h]
  | .agg l, h => by simp only [old] at h; simp only [nor, norL_old l h]
  | .tup l, h => by simp only [old] at h; simp only [nor, norL_old l h]
theorem norL_old {i : Nat} : ∀ l, oldL 0 l = true → norL i l = true
  | [], _ => rfl
  | v :: l, h => by
    simp only [oldL, Bool.and_eq_true] at h
    simp only [norL, nor_old v h.1, norL_old l h.2, Bool.and_self]
end

theorem T.nor_get {i : Nat} : ∀ (t : T) (j : Nat), t.nor i = true → YtafchcmemeinlaaDoor.nor i (t.get j) = true
  | .e, j, _ => by rw [T.get_e]; rfl
  | .n l v r, j, h => by
    simp only [T.nor, Bool.and_eq_true] at h
    cases j with
    | zero => exact h.1.1
    | succ j =>
      simp only [T.get]
      split
      · exact T.nor_get l _ h.1.2
      · exact T.nor_get r _ h.2
theorem norH_get {i : Nat} : ∀ {H : List Blk} {id : Nat} {x : Blk}, norH i H = true → H[id]? = some x → x.lf = true ∨ norL i x.cs = true
  | [], id, x, _, h => by simp at h
  | y :: H, 0, x, ho, h => by
    simp at h
    subst h
    simp only [norH, Bool.and_eq_true, Bool.or_eq_true] at ho
    exact ho.1
  | y :: H, id + 1, x, ho, h => by
    simp only [norH, Bool.and_eq_true] at ho
    exact norH_get ho.2 (by simpa using h)

section
variable {P : Program} {gl : Nat → Option (List AV)} {nt B : Nat} {X : List Ls} {m : M} {s : S} {g : Gh} {a : Act} {w : World}

theorem frzS_ok {m0 : M} {H0 : List Blk} {w0 : World} (h : SR gl nt B m s a w) (hX : LpR P gl X g m s.hp w) (hm : Mx (X.map (·.l)) m0 H0 w0 m s.hp w) {b0 f z : Nat} (hd : ∀ id I, m0.blk id = some I → id < b0) (hb : H0.length ≤ b0) (hlow : Low X b0) {K : S → Prop} (hK : frzS b0 f z s K) :
    ∃ s' m', K s' ∧ SR gl nt B m' s' a w ∧ LpR P gl X g m' s'.hp w ∧ Mx (X.map (·.l)) m0 H0 w0 m' s'.hp w ∧ s'.hp.length = s.hp.length := by
  unfold frzS at hK
  cases hf : (!Nat.blt f 4000)
  case true =>
    rw [hf] at hK
    exact ⟨s, m, hK, h, hX, hm, rfl⟩
  rw [hf, cond_false] at hK
  have hf' : f < 4000 := by
    have : Nat.blt f 4000 = true := by simpa using hf
    rwa [blt_iff] at this
  split at hK
  · rename_i id tot off len sz hv
    split at hK
    · rename_i b hbk
      cases hc : (Nat.ble b0 id && Nat.beq b.cs.length tot && Nat.ble (off + len * sz) tot && b.k != .ro && b.lf && noYL b.cs && (T.put 12 s.tm f .undef).nor id && norH id (s.hp.set id deadB))
      · rw [hc] at hK; exact hK.elim
      rw [hc, cond_true] at hK
      simp only [Bool.and_eq_true, Nat.ble_eq, nbeq, bne_iff_ne, ne_eq] at hc
      obtain ⟨⟨⟨⟨⟨⟨⟨c1, c2⟩, c3⟩, c4⟩, c5⟩, c6⟩, c7⟩, c8⟩ := hc
      have hvr := h.tm f
      rw [hv] at hvr
      have hcur : cur s.hp id tot = true := by simp [cur, hbk, c2]
      obtain ⟨I, o2, cap, hI, hIt, hvv, hcap, hpos⟩ := h.hp.sl hvr hcur
      have hB := h.hp.blk id I b hI hbk
      obtain ⟨cu, e, lo, hi, q1, q2, q3, q4, q5, q6⟩ := hB.row
      obtain ⟨hd0, hmk⟩ := q5 c4
      have hown : Owned m s.hp I.b := ⟨id, I, b, hI, hbk, c4, rfl⟩
      obtain ⟨m', hm'⟩ : ∃ m' : M, m' = ⟨fun j => if j = id then none else m.blk j, m.opq, m.lp, fun t k => if t = 0 ∧ k = I.b then some cu.toList else m.frz t k⟩ := ⟨_, rfl⟩
      have hnf : ∀ t cs, m.frz t I.b = some cs → False := fun t cs hc => h.hp.fow t _ cs id I b hc hI hbk c4 rfl
      have hblk : ∀ j, j ≠ id → m'.blk j = m.blk j := fun j hj => by subst hm'; simp [hj]
      have hbn : ∀ j J, m'.blk j = some J → j ≠ id ∧ m.blk j = some J := fun j J hJ => by
        subst hm'
        simp only at hJ
        split at hJ
        · cases hJ
        · rename_i hne; exact ⟨hne, hJ⟩
      have hfr : ∀ t k cs, m.frz t k = some cs → m'.frz t k = some cs := fun t k cs hc => by
        subst hm'
        simp only
        rw [if_neg]
        · exact hc
        · rintro ⟨_, rfl⟩; exact hnf _ _ hc
      have hop : m'.opq = m.opq := by subst hm'; rfl
      have hlp : m'.lp = m.lp := by subst hm'; rfl
      have hs : Ext m.strip m'.strip := ⟨fun _ _ h => (by cases h), hop, fun _ _ h => (by cases h), fun t k cs hc => hfr t k cs hc⟩
      have hget : ∀ j, j ≠ id → (s.hp.set id deadB)[j]? = s.hp[j]? := fun j hj => by rw [List.getElem?_set_ne (Ne.symm hj)]
      have hext : ∀ {m1 : M} {n : Nat}, Ext m1 m → (∀ j J, m1.blk j = some J → j < n) → n ≤ id → Ext m1 m' := fun {m1 n} he hdm hn => by
        refine ⟨fun j J hJ => ?_, hop.trans he.opq, fun u l hu => by rw [hlp]; exact he.lp u l hu, fun t k cs hc => hfr t k cs (he.frz t k cs hc)⟩
        have := hdm j J hJ
        obtain ⟨J', r1, r2, r3⟩ := he.blk j J hJ
        exact ⟨J', by rw [hblk j (by omega)]; exact r1, r2, r3⟩
      refine ⟨_, m', hK, ⟨fun k => ?_, h.nt, h.df, ⟨fun j J hJ => ?_, fun j J b' hJ hb' => ?_, fun i j J J' b' h1 h2 h3 => ?_, fun gg cs hg => ?_, h.hp.gld, fun t k cs hg => ?_, fun t k cs j J b' hg hJ hb' hk => ?_, fun gg cs j J b' hg hJ hb' hk => ?_⟩⟩, ⟨?_, fun u l hu => hX.key u l (by rw [← hlp]; exact hu), hX.us, hX.ls⟩,
        ⟨hext hm.ext hd c1, hm.os, hm.tape, hm.output, hm.size, hm.keep, fun k hk => ?_, by simp only [List.length_set]; exact hm.len, fun j hj hn => ?_, fun t k cs hg => ?_⟩, by simp⟩
      · show VR m' ((T.put 12 s.tm f _).get k) _
        rw [T.get_put 12 _ _ _ _ (by omega)]
        split
        · rename_i hk
          subst hk
          rw [hvv]
          simp only [VR]
          have hln : ((b.cs.drop off).take (len * sz)).length = len * sz := by simp; omega
          refine ⟨rfl, hln, some ⟨I.b, o2, none⟩, cap, rfl, hcap, ?_⟩
          rcases hpos with ⟨rfl, hpos⟩ | ⟨rfl, _⟩
          · left
            have ht := hB.tot
            refine ⟨_, cu.toList, rfl, rfl, by subst hm'; simp [M.strip], ?_, ?_⟩
            · rw [hln, hd0]; simp; omega
            · rw [hln]
              rw [hd0, List.drop_zero] at q6
              have e1 : (cu.toList.drop (I.d + off)).take (len * sz) = ((cu.toList.take I.tot).drop off).take (len * sz) := by
                rw [hd0, Nat.zero_add, List.drop_take, List.take_take, Nat.min_eq_left (by omega)]
              show VRL m'.strip _ ((cu.toList.drop (I.d + off)).take (len * sz))
              rw [e1]
              have q7 : VRL m'.strip b.cs (cu.toList.take I.tot) := VRL.flat (m := m) (m' := m'.strip) hop hs _ _ (hB.lf c5) c6 q6
              exact (q7.drop off).take (len * sz)
          · right
            exact ⟨rfl, List.eq_nil_of_length_eq_zero (by rw [hln]; simp), fun h => by cases h⟩
        · rename_i hk
          have := T.nor_get (T.put 12 s.tm f .undef) k c7
          rw [T.get_put 12 _ _ _ _ (by omega), if_neg hk] at this
          exact VR.nor hblk hop hlp hs _ _ this (h.tm k)
      · simp only [List.length_set]; exact h.hp.dom j J (hbn j J hJ).2
      · obtain ⟨hj, hJ'⟩ := hbn j J hJ
        rw [hget j hj] at hb'
        have hBj := h.hp.blk j J b' hJ' hb'
        obtain ⟨cu', e', lo', hi', r1, r2, r3, r4, r5, r6⟩ := hBj.row
        refine ⟨hBj.tot, hBj.lf, cu', e', lo', hi', r1, r2, r3, r4, r5, ?_⟩
        refine VRL.nor hblk hop hlp hs _ _ ?_ r6
        rcases norH_get (id := j) (x := b') c8 (by rw [hget j hj]; exact hb') with h1 | h1
        · exact norL_old _ (hBj.lf h1)
        · exact h1
      · obtain ⟨e1, h1'⟩ := hbn i J h1
        obtain ⟨e2, h2'⟩ := hbn j J' h2
        rw [hget i e1] at h3
        exact h.hp.inj i j J J' b' h1' h2' h3
      · obtain ⟨cu', e', fr', r1, r2⟩ := h.hp.glb gg cs hg
        exact ⟨cu', e', fr', r1, VRL.nor hblk hop hlp hs _ _ (norL_old _ (h.hp.gld gg cs hg)) r2⟩
      · subst hm'
        simp only at hg
        split at hg
        · rename_i hc
          cases hg
          rw [hc.2]
          exact ⟨cu, e, _, q1, by rw [List.take_of_length_le (by simp)]⟩
        · exact h.hp.frz t k cs hg
      · obtain ⟨hj, hJ'⟩ := hbn j J hJ
        rw [hget j hj] at hb'
        subst hm'
        simp only at hg
        split at hg
        · rename_i hc
          rw [hc.2]
          intro e1
          exact hj (h.hp.inj j id J I b' hJ' hI hb' hk e1)
        · exact h.hp.fow t k cs j J b' hg hJ' hb' hk
      · obtain ⟨hj, hJ'⟩ := hbn j J hJ
        rw [hget j hj] at hb'
        exact h.hp.gow gg cs j J b' hg hJ' hb' hk
      · have aux : ∀ {Y : List Ls} {l : List Lp}, Low Y b0 → Lps P gl m s.hp w Y l → Lps P gl m' (s.hp.set id deadB) w Y l := by
          intro Y
          induction Y with
          | nil => intro l _ hl; cases l <;> exact hl
          | cons x Y ih =>
            intro l hlo hl
            cases l with
            | nil => exact hl.elim
            | cons p l =>
              obtain ⟨h1, h2⟩ := hl
              have hx := hlo x (by simp)
              exact ⟨⟨h1.u, by rw [hlp]; exact h1.lp, h1.row, hext h1.ext (fun j J hJ => Nat.lt_of_lt_of_le (h1.dom j J hJ) hx) c1, h1.dom, by simp only [List.length_set]; exact h1.le, h1.tm, h1.nt, h1.ps, h1.ca, h1.cb, h1.ok⟩, ih (fun y hy => hlo y (by simp [hy])) h2⟩
        exact aux hlow hX.all
      · refine hm.own k ?_
        obtain ⟨j, J, b', r1, r2, r3, r4⟩ := hk
        obtain ⟨hj, hJ'⟩ := hbn j J r1
        exact ⟨j, J, b', hJ', by rw [← hget j hj]; exact r2, r3, r4⟩
      · have := hm.nw j hj hn
        rw [hblk j (by omega)]
        exact this
      · subst hm'
        simp only at hg
        split at hg
        · rename_i hc
          rw [hc.2]
          exact .inr (hm.own _ hown)
        · exact hm.fz t k cs hg
    · exact hK.elim
  · rename_i hv
    cases hz : Nat.blt 0 z
    · rw [hz] at hK
      exact ⟨s, m, hK, h, hX, hm, rfl⟩
    · rw [hz, cond_true] at hK
      refine ⟨_, m, hK, ⟨fun k => ?_, h.nt, h.df, h.hp⟩, hX, hm, rfl⟩
      show VR m ((T.put 12 s.tm f _).get k) _
      rw [T.get_put 12 _ _ _ _ (by omega)]
      split
      · rename_i hk
        subst hk
        have := h.tm k
        rw [hv] at this
        simp only [VR] at this ⊢
        rw [this]
        exact ⟨rfl, by simp, none, 0, rfl, Nat.le_refl _, .inr ⟨by simp, by simp⟩⟩
      · exact h.tm k
  · exact ⟨s, m, hK, h, hX, hm, rfl⟩

theorem frzAll_ok {m0 : M} {H0 : List Blk} {w0 : World} {b0 : Nat} (hd : ∀ id I, m0.blk id = some I → id < b0) (hb : H0.length ≤ b0) (hlow : Low X b0) : ∀ (l : List (Nat × Nat)) (s : S) (m : M) {K : S → Prop}, SR gl nt B m s a w → LpR P gl X g m s.hp w → Mx (X.map (·.l)) m0 H0 w0 m s.hp w → frzAll b0 l s K →
    ∃ s' m', K s' ∧ SR gl nt B m' s' a w ∧ LpR P gl X g m' s'.hp w ∧ Mx (X.map (·.l)) m0 H0 w0 m' s'.hp w ∧ s'.hp.length = s.hp.length
  | [], s, m, K, h, hX, hm, hK => ⟨s, m, hK, h, hX, hm, rfl⟩
  | (f, z) :: l, s, m, K, h, hX, hm, hK => by
    obtain ⟨s1, m1, k1, k2, k3, k4, k5⟩ := frzS_ok h hX hm hd hb hlow hK
    obtain ⟨s2, m2, r1, r2, r3, r4, r5⟩ := frzAll_ok hd hb hlow l s1 m1 k2 k3 k4 k1
    exact ⟨s2, m2, r1, r2, r3, r4, r5.trans k5⟩
end
end Go.Proofs.YtafchcmemeinlaaDoor
