/-
  Chapter 4: SealBoxes, the proof of its run.
-/
import Derived.Test.YtlfbaakndklncaaS04RP
set_option linter.unusedSimpArgs false
set_option linter.unusedVariables false
set_option linter.unusedSectionVars false
namespace Go.Proofs.Ytlfbaakndklncaa
open Go.RowKit
set_option maxRecDepth 1000000

theorem rd0 (a b c d : List UInt8) (f : List UInt8 → Prop) : (ckQ (Nat.beq [AV.str a, .str b, .str c, .str d].length 4) (ckQ (Nat.beq [AV.str a, .str b, .str c, .str d].length 4 && true) (exS ((([AV.str a, .str b, .str c, .str d].drop 0).take 1).getD 0 .undef) f))) = f a :=
  propext ⟨fun h => by obtain ⟨s, h1, h2⟩ := h; cases h1; exact h2, fun h => ⟨a, rfl, h⟩⟩
theorem rd1 (a b c d : List UInt8) (f : List UInt8 → Prop) : (ckQ (Nat.beq [AV.str a, .str b, .str c, .str d].length 4) (ckQ (Nat.beq [AV.str a, .str b, .str c, .str d].length 4 && true) (exS ((([AV.str a, .str b, .str c, .str d].drop 1).take 1).getD 0 .undef) f))) = f b :=
  propext ⟨fun h => by obtain ⟨s, h1, h2⟩ := h; cases h1; exact h2, fun h => ⟨b, rfl, h⟩⟩
theorem rd2 (a b c d : List UInt8) (f : List UInt8 → Prop) : (ckQ (Nat.beq [AV.str a, .str b, .str c, .str d].length 4) (ckQ (Nat.beq [AV.str a, .str b, .str c, .str d].length 4 && true) (exS ((([AV.str a, .str b, .str c, .str d].drop 2).take 1).getD 0 .undef) f))) = f c :=
  propext ⟨fun h => by obtain ⟨s, h1, h2⟩ := h; cases h1; exact h2, fun h => ⟨c, rfl, h⟩⟩
theorem rd3 (a b c d : List UInt8) (f : List UInt8 → Prop) : (ckQ (Nat.beq [AV.str a, .str b, .str c, .str d].length 4) (ckQ (Nat.beq [AV.str a, .str b, .str c, .str d].length 4 && true) (exS ((([AV.str a, .str b, .str c, .str d].drop 3).take 1).getD 0 .undef) f))) = f d :=
  propext ⟨fun h => by obtain ⟨s, h1, h2⟩ := h; cases h1; exact h2, fun h => ⟨d, rfl, h⟩⟩
theorem row_set (a b c d : List UInt8) : setRange [.str [], .str [], .str [], .str []] 0 [AV.str a, .str b, .str c, .str d] = [AV.str a, .str b, .str c, .str d] := rfl
theorem row_ok (t0 t1 t2 t3 t4 t5 t13 L : List UInt8) (i : Nat) (hi : i < 5) : ∃ a b c d : List UInt8, rowQ t0 t1 t2 t3 t4 t5 t13 i L = [AV.str a, .str b, .str c, .str d] := by
  have : i = 0 ∨ i = 1 ∨ i = 2 ∨ i = 3 ∨ i = 4 := by omega
  rcases this with rfl | rfl | rfl | rfl | rfl <;> exact ⟨_, _, _, _, rfl⟩
theorem get4 (a b c d : List UInt8) (j : Nat) (hj : j < 4) : ∃ s : List UInt8, List.getD [AV.str a, .str b, .str c, .str d] ((j : Int).toNat * 1) .undef = .str s := by
  have : j = 0 ∨ j = 1 ∨ j = 2 ∨ j = 3 := by omega
  rcases this with rfl | rfl | rfl | rfl <;> exact ⟨_, rfl⟩
theorem told_no (n : Int) (w : List UInt8) (h : n ≠ 0) : toldM [] n n w = true := by rw [toldM, if_pos h, eqBB]; simp
theorem told_eq (w : List UInt8) : toldM w 0 0 w = true := by rw [toldM, if_neg (by simp), eqBB]; rfl
theorem open_not (k o x s : List UInt8) (h : ¬ (k.length = 32 ∧ o.length = 12)) : openM k o x s = ([], 2) := by
  rw [openM, if_pos]
  cases hb : rightM k o 0 with
  | false => rfl
  | true => exact absurd (by simpa [rightM] using hb) h
theorem seal_not (k o x s : List UInt8) (h : ¬ (k.length = 32 ∧ o.length = 12)) : sealM k o x s = ([], 2) := by
  rw [sealM, if_pos]
  cases hb : rightM k o 0 with
  | false => rfl
  | true => exact absurd (by simpa [rightM] using hb) h
theorem innerB (k o x s : List UInt8) (hk : k.length = 32) (ho : o.length = 12) {K QF : Prop} (hK : K) :
    exI .i64 (x.length : Int) fun n => bif decide (n > 4096) then ∀ (t : List UInt8) (e : Int), Lf (openM k o x s = (t, e)) → ∀ b : Bool, Lf (b = toldM t e 3 []) → bif b then K else QF
    else exI .i64 (s.length : Int) fun n => bif decide (n > 4112) then ∀ (t : List UInt8) (e : Int), Lf (openM k o x s = (t, e)) → ∀ b : Bool, Lf (b = toldM t e 3 []) → bif b then K else QF
    else exI .i64 (s.length : Int) fun n => bif decide (n < 16) then ∀ (t : List UInt8) (e : Int), Lf (openM k o x s = (t, e)) → ∀ b : Bool, Lf (b = toldM t e 7 []) → bif b then K else QF
    else Lf (k.length = 32 ∧ o.length = 12 ∧ x.length ≤ 4096 ∧ 16 ≤ s.length ∧ s.length ≤ 4112) ∧ ∀ t : List UInt8, ∀ b : Bool, Lf ((t = (openM k o x s).1 ∧ (openM k o x s).2 = ite (b = true) 0 9) ∧ (b = false → t = [])) →
      bif b then ∀ (t' : List UInt8) (e : Int), Lf (openM k o x s = (t', e)) → ∀ b : Bool, Lf (b = toldM t' e 0 t) → bif b then K else QF
      else ∀ (t' : List UInt8) (e : Int), Lf (openM k o x s = (t', e)) → ∀ b : Bool, Lf (b = toldM t' e 9 t) → bif b then K else QF := by
  have hr : rightM k o 0 = true := by simp [rightM, hk, ho]
  have e1 : 4096 < x.length ∨ 4112 < s.length → openM k o x s = ([], 3) := fun h => by rw [openM, if_neg (by rw [hr]; simp), if_pos h]
  have e2 : ¬ (4096 < x.length ∨ 4112 < s.length) → s.length < 16 → openM k o x s = ([], 7) := fun h h' => by rw [openM, if_neg (by rw [hr]; simp), if_neg h, if_pos h']
  have fin : ∀ (t : List UInt8) (e no : Int) (w : List UInt8), openM k o x s = (t, e) → toldM t e no w = true → ∀ (t' : List UInt8) (e' : Int), Lf (openM k o x s = (t', e')) → ∀ b : Bool, Lf (b = toldM t' e' no w) → bif b then K else QF := by
    rintro t e no w h h' t' e' ⟨h2⟩ b ⟨rfl⟩
    rw [h2, Prod.mk.injEq] at h
    obtain ⟨rfl, rfl⟩ := h
    rw [h']
    exact hK
  refine ⟨_, rfl, splitD (fun h1 => ?_) (fun h1 => ⟨_, rfl, splitD (fun h2 => ?_) (fun h2 => ⟨_, rfl, splitD (fun h3 => ?_) (fun h3 => ⟨⟨hk, ho, by omega, by omega, by omega⟩, ?_⟩)⟩)⟩)⟩
  · exact fin _ _ _ _ (e1 (by omega)) (told_no 3 _ (by decide))
  · exact fin _ _ _ _ (e1 (by omega)) (told_no 3 _ (by decide))
  · exact fin _ _ _ _ (e2 (by omega) (by omega)) (told_no 7 _ (by decide))
  · rintro t b ⟨⟨h4, h5⟩, h6⟩
    cases b with
    | true =>
      refine fin t 0 0 t ?_ (told_eq t)
      rw [h4]
      exact Prod.ext rfl h5
    | false =>
      refine fin t 9 9 t ?_ (by rw [h6 rfl]; exact told_no 9 _ (by decide))
      rw [h4]
      exact Prod.ext rfl h5
theorem inB0_ok (i : Nat) (L t0 t1 t2 t3 t4 t5 t13 : List UInt8) (a l : Int) (t12 p : List UInt8) (Q : Out → List Blk → Gh → Prop) (ha : 0 ≤ a ∧ a ≤ 65535) (hl : 0 ≤ l ∧ l ≤ 255) (h12 : t12.length ≤ 100000) (hL : L.length ≤ 4200)
    (r0 r1 r2 r3 : List UInt8) (hi : i < 5) (hrow : rowQ t0 t1 t2 t3 t4 t5 t13 i L = [AV.str r0, .str r1, .str r2, .str r3])
    (hk : r0.length = 32) (ho : r1.length = 12) (hs : sealM r0 r1 r2 r3 = ([], 3)) : inB0 (i, L) t0 t1 t2 t3 t4 t5 t13 a l t12 p Q := by
  unfold inB0
  dsimp only
  dsimp only [rowR]
  rw [hrow]
  rw [row_set]
  simp only [rd0, rd1, rd2, rd3, -eq_self]
  rintro t e ⟨h⟩ b ⟨rfl⟩
  rw [hs, Prod.mk.injEq] at h
  obtain ⟨rfl, rfl⟩ := h
  rw [told_no 3 _ (by decide)]
  refine ⟨⟨ha, hl, h12⟩, ?_⟩
  rintro t29 ⟨l29⟩
  refine ckI (by simp [eqAVL, eqAV, eqBB]) (ckI (by simp) ⟨⟨0, ⟨by omega⟩, rfl, ckI (by simp) ⟨rfl, rfl, rfl, rfl, rfl, rfl, rfl, rfl, rfl, trivial⟩⟩, ?_⟩)
  rintro j ⟨hj⟩
  refine splitD (fun h => ?_) (fun h => ?_)
  · obtain ⟨s, hs⟩ := get4 r3 t12 t29 [] j (by omega)
    refine ckI (by simp; omega) ⟨s, hs, innerB _ _ _ _ hk ho ?_⟩
    exact wrapI (by omega) (by omega) ⟨rfl, ⟨trivial, rfl⟩, j + 1, ⟨by omega⟩, by omega, rfl, ckI (by simp) ⟨rfl, rfl, rfl, rfl, rfl, rfl, rfl, rfl, rfl, trivial⟩⟩
  · exact wrapI (by omega) (by omega) ⟨⟨trivial, rfl⟩, (i + 1, L), ⟨by dsimp only; omega, hL⟩, by dsimp only; omega, rfl, rfl, rfl, rfl, rfl, trivial⟩
theorem inB1_ok (i : Nat) (L t0 t1 t2 t3 t4 t5 t13 : List UInt8) (a l : Int) (t12 p : List UInt8) (Q : Out → List Blk → Gh → Prop) (ha : 0 ≤ a ∧ a ≤ 65535) (hl : 0 ≤ l ∧ l ≤ 255) (h12 : t12.length ≤ 100000) (hL : L.length ≤ 4200)
    (r0 r1 r2 r3 : List UInt8) (hi : i < 5) (hrow : rowQ t0 t1 t2 t3 t4 t5 t13 i L = [AV.str r0, .str r1, .str r2, .str r3])
    (hn : ¬ (r0.length = 32 ∧ r1.length = 12)) : inB1 (i, L) t0 t1 t2 t3 t4 t5 t13 a l t12 p Q := by
  unfold inB1
  dsimp only
  dsimp only [rowR]
  rw [hrow]
  rw [row_set]
  simp only [rd0, rd1, rd2, rd3, -eq_self]
  rintro t e ⟨h⟩ b ⟨rfl⟩
  rw [seal_not _ _ _ _ hn, Prod.mk.injEq] at h
  obtain ⟨rfl, rfl⟩ := h
  rw [told_no 2 _ (by decide)]
  refine ⟨⟨ha, hl, h12⟩, ?_⟩
  rintro t29 ⟨l29⟩
  refine ckI (by simp [eqAVL, eqAV, eqBB]) (ckI (by simp) ⟨⟨0, ⟨by omega⟩, rfl, ckI (by simp) ⟨rfl, rfl, rfl, rfl, rfl, rfl, rfl, rfl, rfl, trivial⟩⟩, ?_⟩)
  rintro j ⟨hj⟩
  refine splitD (fun h => ?_) (fun h => ?_)
  · obtain ⟨s, hs⟩ := get4 r3 t12 t29 [] j (by omega)
    refine ckI (by simp; omega) ⟨s, hs, ?_⟩
    rintro t e ⟨h⟩ b ⟨rfl⟩
    rw [open_not _ _ _ _ hn, Prod.mk.injEq] at h
    obtain ⟨rfl, rfl⟩ := h
    rw [told_no 2 _ (by decide)]
    exact wrapI (by omega) (by omega) ⟨rfl, ⟨trivial, rfl⟩, j + 1, ⟨by omega⟩, by omega, rfl, ckI (by simp) ⟨rfl, rfl, rfl, rfl, rfl, rfl, rfl, rfl, rfl, trivial⟩⟩
  · exact wrapI (by omega) (by omega) ⟨⟨trivial, rfl⟩, (i + 1, L), ⟨by dsimp only; omega, hL⟩, by dsimp only; omega, rfl, rfl, rfl, rfl, rfl, trivial⟩
theorem rest0_ok (t4 t5 t2 t3 : List UInt8) (a l : Int) (p t0 t1 t11 : List UInt8) (Q : Out → List Blk → Gh → Prop) (ha : 0 ≤ a ∧ a ≤ 65535) (hl : 0 ≤ l ∧ l ≤ 255) (h4 : t4.length = 32) (h5 : t5.length = 12) (h2 : t2.length ≤ 100) (h3 : t3.length ≤ 100) (h11 : t11.length ≤ 4200)
    (hq : Q (.ret (.bool true)) [] {}) : rest0 t4 t5 t2 t3 a l p t0 t1 t11 Q := by
  unfold rest0
  refine ⟨⟨h4, h5, by omega, by omega⟩, ?_⟩
  rintro t12 ⟨e12⟩
  have hr : rightM t4 t5 0 = true := by simp [rightM, h4, h5]
  have l12 : t12.length ≤ 100000 := by
    rw [e12, sealM, if_neg (by rw [hr]; simp), if_neg (by omega)]
    have := app_len (firstM t4 t5) 70 1 t3 (by omega)
    simp only [List.length_append, this, checkM, leB_len, tagM]
    omega
  refine ⟨⟨ha, hl, by omega⟩, ?_⟩
  rintro t13 ⟨l13⟩
  refine ⟨⟨(0, t11), ⟨by dsimp only; omega, h11⟩, rfl, rfl, rfl, rfl, rfl, trivial⟩, ?_⟩
  rintro ⟨i, L⟩ ⟨hi, hL⟩
  dsimp only at hi hL ⊢
  refine splitD (fun h => ?_) (fun h => hq)
  obtain ⟨r0, r1, r2, r3, hrow⟩ := row_ok t0 t1 t2 t3 t4 t5 t13 L i (by omega)
  dsimp only [rowR]
  rw [hrow]
  rw [row_set]
  simp only [rd0, rd1, rd2, rd3, -eq_self]
  refine ckI (by simp; omega) (ckI rfl ⟨_, rfl, splitE (fun hk => ⟨_, rfl, splitE (fun ho => ⟨_, rfl, splitD (fun hx => ?_) (fun hx => ⟨_, rfl, splitD (fun hy => ?_) (fun hy => ?_)⟩)⟩) (fun ho => ?_)⟩) (fun hk => ?_)⟩)
  · have hk : r0.length = 32 := by omega
    have ho : r1.length = 12 := by omega
    exact inB0_ok i L _ _ _ _ _ _ _ a l _ _ Q ha hl l12 hL r0 r1 r2 r3 (by omega) hrow hk ho (by rw [sealM, if_neg (by simp [rightM, hk, ho]), if_pos (by omega)])
  · have hk : r0.length = 32 := by omega
    have ho : r1.length = 12 := by omega
    exact inB0_ok i L _ _ _ _ _ _ _ a l _ _ Q ha hl l12 hL r0 r1 r2 r3 (by omega) hrow hk ho (by rw [sealM, if_neg (by simp [rightM, hk, ho]), if_pos (by omega)])
  · have hk : r0.length = 32 := by omega
    have ho : r1.length = 12 := by omega
    refine ⟨⟨hk, ho, by omega, by omega⟩, ?_⟩
    rintro t27 ⟨e27⟩ t e ⟨he⟩ b ⟨rfl⟩
    have hsl : sealM r0 r1 r2 r3 = (t27, 0) := by
      rw [e27, sealM, if_neg (by simp [rightM, hk, ho]), if_neg (by omega)]
    rw [hsl, Prod.mk.injEq] at he
    obtain ⟨rfl, rfl⟩ := he
    rw [told_eq]
    refine ⟨⟨ha, hl, l12⟩, ?_⟩
    rintro t29 ⟨l29⟩
    refine ckI (by simp [eqAVL, eqAV, eqBB]) (ckI (by simp) ⟨⟨0, ⟨by omega⟩, rfl, ckI (by simp) ⟨rfl, rfl, rfl, rfl, rfl, rfl, rfl, rfl, rfl, trivial⟩⟩, ?_⟩)
    rintro j ⟨hj⟩
    refine splitD (fun h => ?_) (fun h => ?_)
    · obtain ⟨s, hs⟩ := get4 r3 t12 t29 t27 j (by omega)
      refine ckI (by simp; omega) ⟨s, hs, innerB _ _ _ _ hk ho ?_⟩
      exact wrapI (by omega) (by omega) ⟨rfl, ⟨trivial, rfl⟩, j + 1, ⟨by omega⟩, by omega, rfl, ckI (by simp) ⟨rfl, rfl, rfl, rfl, rfl, rfl, rfl, rfl, rfl, trivial⟩⟩
    · exact wrapI (by omega) (by omega) ⟨⟨trivial, rfl⟩, (i + 1, L), ⟨by dsimp only; omega, hL⟩, by dsimp only; omega, rfl, rfl, rfl, rfl, rfl, trivial⟩
  · exact inB1_ok i L _ _ _ _ _ _ _ a l _ _ Q ha hl l12 hL r0 r1 r2 r3 (by omega) hrow (by omega)
  · exact inB1_ok i L _ _ _ _ _ _ _ a l _ _ Q ha hl l12 hL r0 r1 r2 r3 (by omega) hrow (by omega)
theorem boxes_run (key nonce extra plain : List UInt8) (n a l : Int) (p : List UInt8) (wh : Int) (w0 : key.length ≤ 9223372036854775807) (w1 : nonce.length ≤ 9223372036854775807) (w2 : extra.length ≤ 9223372036854775807) (w3 : plain.length ≤ 9223372036854775807) (hn : 0 ≤ n ∧ n ≤ 65535) (ha : 0 ≤ a ∧ a ≤ 65535) (hl : 0 ≤ l ∧ l ≤ 255)
    (Q : Out → List Blk → Gh → Prop) (hq : Q (.ret (.bool true)) [] {}) : ∃ hv hb, goal_4 hv hb key nonce extra plain n a l p wh Q := by
  obtain ⟨hv, hb', e⟩ : ∃ hv hb, goal_4 hv hb key nonce extra plain n a l p wh Q = _ := ⟨_, _, vc_4 key nonce extra plain n a l p wh Q⟩
  refine ⟨hv, hb', e.mpr ?_⟩
  clear e
  have hm : 0 ≤ n.tmod 4200 ∧ n.tmod 4200 ≤ 4199 := by rw [Int.tmod_eq_emod_of_nonneg (by omega)]; omega
  refine ⟨⟨by decide, w0⟩, ?_⟩
  rintro t0 ⟨h0⟩
  have l0 : t0.length ≤ 40 := by rw [h0, List.length_take]; simp; omega
  refine ⟨⟨by decide, w1⟩, ?_⟩
  rintro t1 ⟨h1⟩
  have l1 : t1.length ≤ 40 := by rw [h1, List.length_take]; simp; omega
  refine ⟨⟨by decide, w2⟩, ?_⟩
  rintro t2 ⟨h2⟩
  have l2 : t2.length ≤ 100 := by rw [h2, List.length_take]; simp; omega
  refine ⟨⟨by decide, w3⟩, ?_⟩
  rintro t3 ⟨h3⟩
  have l3 : t3.length ≤ 100 := by rw [h3, List.length_take]; simp; omega
  refine ⟨⟨by decide, by decide, by omega⟩, ?_⟩
  rintro t4 ⟨h4⟩
  have l4 : t4.length = 32 := by rw [h4, sized_len]; rfl
  refine ⟨⟨by decide, by decide, by omega⟩, ?_⟩
  rintro t5 ⟨h5⟩
  have l5 : t5.length = 12 := by rw [h5, sized_len]; rfl
  refine wrapI (by omega) (by omega) ⟨_, rfl, ⟨hm.1, by omega, by omega⟩, ?_⟩
  rintro t8 ⟨h8⟩
  have l8 : t8.length ≤ 4199 := by rw [h8, sized_len]; omega
  refine ⟨_, rfl, splitD (fun h => ⟨_, rfl, splitD (fun h' => ⟨⟨by decide, by omega⟩, ?_⟩) (fun h' => ?_)⟩) (fun h => ?_)⟩
  · rintro t11 ⟨h11⟩
    have l11 : t11.length ≤ 4199 := by rw [h11, List.length_take]; omega
    exact rest0_ok _ _ _ _ a l p _ _ _ Q ha hl l4 l5 l2 l3 (by omega) hq
  · exact rest0_ok _ _ _ _ a l p _ _ _ Q ha hl l4 l5 l2 l3 (by omega) hq
  · exact rest0_ok _ _ _ _ a l p _ _ _ Q ha hl l4 l5 l2 l3 (by omega) hq
end Go.Proofs.Ytlfbaakndklncaa
