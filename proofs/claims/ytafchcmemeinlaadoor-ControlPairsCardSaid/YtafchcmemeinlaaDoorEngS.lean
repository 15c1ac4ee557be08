/-
  The engine, part S: regions that draw their order, ended.
-/
import Derived.Test.YtafchcmemeinlaaDoorEngR
set_option linter.unusedSimpArgs false
set_option linter.unusedVariables false
namespace Go.Proofs.YtafchcmemeinlaaDoor
open Go.RowKit

section
variable {P : Program} {E : Env} {nt B : Nat} {ops : Array Oper} {l0 : List AOper} {t0 : Nat → AV} {X : List Ls} {r0 : Option Nat} {m0 : M} {H0 : List Blk} {w0 : World} {rec : Rec} {Q : Ex → S → Gh → Prop}

theorem listed_set {listed : Array Bool} {i : Nat} (hi : listed.getD i true = false) : listed[i]? = some false ∧ (∀ j, (listed.setIfInBounds i true).getD j false = (listed.getD j false || j == i)) ∧ (listed.setIfInBounds i true).toList.count false + 1 = listed.toList.count false := by
  have hlt : i < listed.size := by
    rcases Nat.lt_or_ge i listed.size with h | h
    · exact h
    · rw [Array.getD_eq_getD_getElem?, Array.getElem?_eq_none h] at hi; cases hi
  have hf : listed[i] = false := by simpa [hlt] using hi
  refine ⟨by simp [hlt, hf], fun j => ?_, ?_⟩
  · by_cases hj : j = i
    · subst hj; simp [hlt]
    · simp [Array.getElem?_setIfInBounds_ne (Ne.symm hj), hj]
  · rw [Array.toList_setIfInBounds, List.count_set (by simpa using hlt)]
    have h1 : listed.toList[i] = false := by simpa using hf
    have h2 : 0 < listed.toList.count false := List.count_pos_iff.2 (h1 ▸ List.getElem_mem _)
    have h3 : (true == false) = false := rfl
    simp only [h1, h3, beq_self_eq_true, if_true, Bool.false_eq_true, if_false]
    omega

theorem any_ok (hE : EnvOk P E) (hrec : RecOk P E rec) (C : Canon P nt ops l0) (hnt : nt ≤ 4000) : ∀ (fuel : Nat) (listed : Array Bool) (L : Nat → Bool) (D : List Rcd) (l : List AOper) (s : S) (k : Gh) (fl : List Fl) (m : M) (a : Act) (w : World),
    listed.size = ops.size → (∀ j, L j = listed.getD j false) → listed.toList.count false ≤ fuel → Inv P E nt B ops l0 t0 X m0 H0 w0 L D l s k fl m a w → dOps E rec l s k fl Q → wpAnyIn (Wd r0) 0 P .any ops (Post P E.gl nt B X m0 H0 w0 Q) fuel listed a w
  | 0, listed, L, D, l, s, k, fl, m, a, w, hsz, hL, hc, h, hd => by
    obtain ⟨D, l, s, k, fl, h, hs⟩ := Inv.advance C hnt l D s k fl h hd
    have hr : Region.ready .any ops listed = [] := by
      cases hr : Region.ready .any ops listed with
      | nil => rfl
      | cons i r =>
        have hi : i ∈ Region.ready .any ops listed := by rw [hr]; simp
        rw [mem_ready] at hi
        have := (listed_set hi.1).2.2
        omega
    exact ⟨hr, h.fin hs (h.all C hsz hL hr)⟩
  | fuel + 1, listed, L, D, l, s, k, fl, m, a, w, hsz, hL, hc, h, hd => by
    obtain ⟨D, l, s, k, fl, h, hs⟩ := Inv.advance C hnt l D s k fl h hd
    refine ⟨fun hr => h.fin hs (h.all C hsz hL hr), fun i hi => ?_⟩
    rw [mem_ready] at hi
    obtain ⟨hi1, o, ho, he⟩ := hi
    obtain ⟨s1, s2, s3⟩ := listed_set hi1
    have hLi : L i = false := by rw [hL]; simp [s1]
    have he : ∀ e ∈ o.after, Region.binds .any e = true → L e.on = true := fun e h1 h2 => by rw [hL]; exact he e h1 h2
    obtain ⟨x, hxl, hxi⟩ := C.cov i (Array.getElem?_eq_some_iff.1 ho).1
    subst hxi
    have hb := C.bits h.cls hxl ho he
    have ih : ∀ {D : List Rcd} {l : List AOper} {s : S} {k : Gh} {fl : List Fl} {m : M} {a : Act} {w : World}, Inv P E nt B ops l0 t0 X m0 H0 w0 (fun j => L j || j == x.ix) D l s k fl m a w → dOps E rec l s k fl Q → wpAnyIn (Wd r0) 0 P .any ops (Post P E.gl nt B X m0 H0 w0 Q) fuel (listed.setIfInBounds x.ix true) a w :=
      fun {D l s k fl m a w} h hd => any_ok hE hrec C hnt fuel _ _ D l s k fl m a w (by simpa using hsz) (fun j => by rw [s2, hL]) (by omega) h hd
    have hpre : dOps E rec l s k fl Q := by
      rcases hs with ⟨rfl, hQ⟩ | ⟨y, l', rfl, _, _, hd⟩
      · exact hQ
      · exact hd
    simp only [wpOpIn, ho]
    have hmem := hxl
    rw [← h.ord] at hmem
    rcases List.mem_append.1 hmem with hmem | hmem
    · -- an operation that the abstract run has passed
      obtain ⟨r, hrD, hrx⟩ := List.mem_map.1 hmem
      obtain ⟨i, hi⟩ := List.getElem?_of_mem hrD
      have hLr : L r.x.ix = false := by rw [hrx]; exact hLi
      have hf := h.fact i r hi
      have hlv := h.live r hrD hLr
      have hbr : ∀ j, r.x.bf.testBit j = true → L j = true := by rw [hrx]; exact hb
      unfold Fact at hf
      split at hf
      · rename_i hk
        have := h.hv r hrD hk
        rw [hLr] at this
        cases this
      · rename_i tm hk
        obtain ⟨f1, f2, f3⟩ := hf
        have hsl : ∀ t ∈ uses r.x, VR m (tm.get t) (a.tmps.getD t undef) := fun t ht => by rw [f1]; exact h.slots C hi hLr hbr ht
        rw [hrx] at f2 hsl
        rcases C.cases hxl with hB | ⟨hgn, _⟩
        · obtain ⟨o', o1, o2, o3, o4, o5⟩ := hB
          rw [ho] at o1
          cases o1
          have hw := guard_same2 (m := m) (tm := tm) h.sz (fun g b hg => hsl g (by simp [uses, hg])) o5 f2
          rw [hw]
          simp only [Bool.false_eq_true, if_false]
          refine ⟨fun _ _ => trivial, ?_⟩
          have h' := h.run C (o := o) hi hLr (by rw [hrx]; exact ho) (by rw [hrx]; exact o2) o3 he (Ext.refl m) (w' := w) (v := undef) (by rw [f3]; simp [VR, undef]) h.hr h.mv h.df h.lps (fun id _ h => h)
          rw [hrx] at h'
          exact ih h' hpre
        · rw [hgn] at f2; cases f2
      · rename_i tm H lr hk
        obtain ⟨f1, f2, f3, f4, f5⟩ := hf
        have hsl : ∀ t ∈ uses r.x, VR m (tm.get t) (a.tmps.getD t undef) := fun t ht => by rw [f1]; exact h.slots C hi hLr hbr ht
        rcases C.cases hxl with hB | ⟨_, why, hbad⟩
        · obtain ⟨o', o1, o2, o3, o4, o5⟩ := hB
          rw [ho] at o1
          cases o1
          rw [hrx] at f2 hsl f3
          have hw := guard_same2 (m := m) (tm := tm) h.sz (fun g b hg => hsl g (by simp [uses, hg])) o5 f2
          rw [hw]
          simp only [if_true]
          unfold Live at hlv
          rw [hk] at hlv
          simp only at hlv
          have hρ : ∀ y, VR m (evu (usesOp x.op) tm (cO y)) (a.eval y) := ev_of fun t ht => hsl t (by unfold uses; exact List.mem_append_right _ ht)
          have hl2 := lop_congr (cu' := cur s.hp) (ca' := cellsAt s.hp) f3 fun y hy => by
            obtain ⟨⟨q1, q2⟩, _⟩ := hlv.1 y hy
            exact ⟨fun tot => cur_len q2 tot, q1⟩
          rw [o4] at hl2 hρ
          have hl := lop_ok (P := P) h.hr hρ (fun v => rfl) o H.length hl2 f4
          have hnd : ∀ c, o.op ≠ .defer c := fun c hc => by rw [cOp_nodefer hc] at hl2; cases hl2
          unfold Oper.wpIn
          refine ⟨fun _ _ => trivial, ?_⟩
          rw [semAt_call hnd]
          rcases hl with ⟨hnb, v, hrun, hv⟩ | ⟨nb, v, w', I, hnb, hrun, hN, hv⟩
          · rw [hrun, Oper.uponIn_value]
            have h' := h.run C (o := o) hi hLr (by rw [hrx]; exact ho) (by rw [hrx]; exact o2) o3 he (Ext.refl m) (w' := w) (v := v) (by rw [f5]; exact hv) h.hr h.mv h.df h.lps (fun id _ h => h)
            rw [hrx] at h'
            exact ih h' hpre
          · rw [hrun, Oper.uponIn_value]
            obtain ⟨n1, n2, n3, n4⟩ := hlv.2 nb hnb
            obtain ⟨q1, q2⟩ := h.hr.map n2 n1 (fun j _ _ => rfl) (Nat.le_refl _) hN
            have h' := h.run C (o := o) hi hLr (by rw [hrx]; exact ho) (by rw [hrx]; exact o2) o3 he q2.ext (w' := w') (v := v) (by rw [f5]; exact hv _ (M.set_same _ _ _)) q1 (h.mv.late q2 n3) (h.df.step h.hr q2) (h.lps.stepw h.hr q2 (Nat.le_refl _) rfl (Nat.le_refl _)) (fun id hid hn => by
              rw [M.set_other _ _ ?_]
              · exact hn
              · intro e
                refine hid ?_
                simp [nidOf, hk, hnb, e])
            rw [hrx] at h'
            exact ih h' hpre
        · rw [hrx, hbad] at f3; cases f3
    · -- the operation that is next
      rcases hs with ⟨rfl, _⟩ | ⟨y, l', rfl, hg, hhv, hd⟩
      · cases hmem
      · rcases List.mem_cons.1 hmem with e | hmem
        · subst e
          rcases C.cases hxl with hB | ⟨_, why, hbad⟩
          · obtain ⟨o', o1, o2, o3, o4, o5⟩ := hB
            rw [ho] at o1
            cases o1
            have hsl : ∀ t ∈ uses x, VR m (s.tm.get t) (a.tmps.getD t undef) := fun t ht => h.slots_head C hb ht
            have hw := guard_same2 (m := m) (tm := s.tm) (H := s.hp) h.sz (fun g b hg => hsl g (by simp [uses, hg])) o5 hg
            rw [hw]
            simp only [if_true]
            have hρ : ∀ y, VR m (evu (usesOp (cOp P o.op)) s.tm (cO y)) (a.eval y) := ev_of fun t ht => hsl t (by unfold uses; rw [o4]; exact List.mem_append_right _ ht)
            obtain ⟨p1, p2⟩ := op_ok hE hrec (X := X) (r := r0) h.hr hρ (o := o) (next := wpAnyIn (Wd r0) 0 P .any ops (Post P E.gl nt B X m0 H0 w0 Q) fuel (listed.setIfInBounds x.ix true)) (QQ := Post P E.gl nt B X m0 H0 w0 Q)
            rw [dOps, hg] at hd
            simp only at hd
            rw [o4] at hd
            split at hd
            · rename_i f args hop
              refine p2 f args k _ h.lps hop hd fun m' w' ov H' k' hq hH' hX' hmv' => ⟨fun av v e hv => ?_, fun av v e hv => ?_⟩
              · subst e
                obtain ⟨c1, c2, c3⟩ := flOk_ok hq
                exact ih (h.writes C hnt ho o2 o3 he hv hH' hmv' (h.df.stepx h.hr h.lps hmv') hX' c2 c3) (hint_ok c1)
              · subst e
                exact ⟨.pan av, _, k', m', hq, ⟨v, rfl, hv⟩, ⟨fun j => by rw [T.get_e]; simp [VR], h.sz, h.df.stepx h.hr h.lps hmv', hH'⟩, hX', h.mv.trans hmv'⟩
            · rename_i hne
              split at hd
              · rename_i r hl
                have := lop_light hl
                rw [← o4, hhv] at this
                cases this
              · refine p1 _ _ hd fun m' w' av H' v hq hH' hmv' hv => ?_
                obtain ⟨c1, c2, c3⟩ := flOk_ok hq
                exact ih (h.writes C hnt ho o2 o3 he hv hH' (hmv'.mx _) (h.df.step h.hr hmv'.toMw) (h.lps.step (g' := k) h.hr hmv' rfl (Nat.le_refl _)) c2 c3) (hint_ok c1)
          · rw [dOps, hg] at hd
            simp only at hd
            rw [hbad] at hd
            exact hd.elim
        · obtain ⟨_, hpl, _⟩ := h.pairs C
          rw [List.pairwise_cons] at hpl
          have := hb _ (pair_heavy (hpl.1 x hmem) hhv)
          rw [h.unl y (by simp)] at this
          cases this

theorem drawn_ok (hE : EnvOk P E) (hrec : RecOk P E rec) (hnt : nt ≤ 4000) {id : Nat} (hl : drawnOf P nt ops = .drawn l0) {s : S} {k : Gh} {m : M} {a : Act} {w : World} (h : SR E.gl nt B m s a w) (hX : LpR P E.gl X k m s.hp w) (hd : dOps E rec l0 s k [] Q) :
    (Code.region id ops true).wpIn (Wd r0) 0 P (Post P E.gl nt B X m s.hp w Q) a w := by
  refine wpIn_region_any hE.mixed (any_ok (t0 := fun t => s.tm.get t) hE hrec (canon_of hl) hnt ops.size _ (fun _ => false) [] l0 s k [] m a _ (by simp) (fun j => ?_) (by simp [List.count_replicate]) ?_ hd)
  · by_cases hj : j < ops.size <;> simp [hj]
  · have hm : Mv m s.hp w m s.hp { w with drawn := w.drawn + 1 } := ⟨⟨Ext.refl m, rfl, rfl, rfl, Nat.le_refl _, fun _ _ _ => rfl, fun _ h => .inr h, fun _ _ h => h, fun _ _ _ h => .inl h⟩, Nat.le_refl _, fun _ _ h => h⟩
    refine ⟨rfl, fun t => rfl, fun t => h.tm t, h.nt, h.df, hX.step (g' := k) h.hp hm rfl (Nat.le_refl _), ⟨h.hp.dom, fun id I b h1 h2 => ?_, h.hp.inj, h.hp.glb, h.hp.gld, h.hp.frz, h.hp.fow, h.hp.gow⟩, hm.mx _, fun r hr => (by cases hr), fun _ _ => rfl, fun i r hi => (by simp at hi), fun r hr => (by cases hr), List.Pairwise.nil, fun r hr => (by cases hr), fun i o ho hL => (by cases hL)⟩
    have := h.hp.blk id I b h1 h2
    exact ⟨this.tot, this.lf, this.row⟩
end
end Go.Proofs.YtafchcmemeinlaaDoor
