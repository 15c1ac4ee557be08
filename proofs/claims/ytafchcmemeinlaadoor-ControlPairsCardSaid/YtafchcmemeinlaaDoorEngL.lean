/-
  The engine, part L: the operations that write, put together.
-/
import Derived.Test.YtafchcmemeinlaaDoorEngK
set_option linter.unusedSimpArgs false
set_option linter.unusedVariables false
namespace Go.Proofs.YtafchcmemeinlaaDoor
open Go.RowKit

section
variable {P : Program} {gl : Nat → Option (List AV)} {m : M} {H : List Blk} {w : World} {ρ : Operand → Value} {ev : AO → AV}

theorem kindAt_ne {H : List Blk} {id : Nat} {b : Blk} (hb : H[id]? = some b) (h : kindAt H id ≠ .ro) : b.k ≠ .ro := by simpa [kindAt, hb] using h

theorem hop_mark (hH : HR gl m H w) (hρ : ∀ x, VR m (ev (cO x)) (ρ x)) {E : Env} {k : Nat} {K : AV → List Blk → Prop} {o : Oper} {s d : TypeId} {x : Operand} (ho : o.op = .convert s d x)
    (h : hop E ev H k (cOp P o.op) K) : HopOk P gl m H w ρ o K := by
  rw [ho] at h
  simp only [cOp] at h
  have hx := hρ x
  split at h
  · rename_i hk
    simp only [Bool.and_eq_true] at hk
    obtain ⟨_, hs⟩ := knownT_iff hk.1
    obtain ⟨_, hd⟩ := knownT_iff hk.2
    split at h
    · simp [hop] at h
    · split at h <;> simp [hop] at h
    · split at h <;> simp [hop] at h
    · simp [hop] at h
    · rename_i e0 e e1 e2
      rw [e1] at hs
      rw [e2] at hd
      split at h
      · rename_i hsd
        subst hsd
        split at h
        · rename_i e3
          have he3 := und_some e3 (by simp)
          have hee : e0 = e := by
            rw [e1] at e2
            cases e2
            rfl
          subst hee
          simp only [hop] at h
          split at h
          · rename_i id tot off len sz he
            rw [he] at hx
            obtain ⟨h1, h2⟩ := ck_ok h
            simp only [Bool.and_eq_true, bne_iff_ne, ne_eq] at h1
            obtain ⟨I, o2, cap, hI, hIt, hv, hcap, hpos⟩ := hH.sl hx h1.1
            obtain ⟨b, hb, hbl⟩ := cur_iff h1.1
            obtain ⟨w', m', q1, q2, q3⟩ := freeze_ok (P := P) hH hI hb (kindAt_ne hb h1.2)
            refine ⟨_, _, ρ x, w', m', h2, .inl ?_, VR.mono q3.ext _ _ hx, q2, q3⟩
            simp only [execOp, ho]
            exact execV (by simp [convert, run_underlying hs, run_underlying he3, hv, q1])
          · cases h
        · simp [hop] at h
      · simp [hop] at h
    · simp [hop] at h
  · simp [hop] at h

theorem hop_copy (hH : HR gl m H w) (hρ : ∀ x, VR m (ev (cO x)) (ρ x)) {E : Env} {k : Nat} {K : AV → List Blk → Prop} {o : Oper} {t u : TypeId} {x y : Operand} (ho : o.op = .call { callee := .builtin .copy, args := #[x, y], argTypes := #[t, u] })
    (h : hop E ev H k (cOp P o.op) K) : HopOk P gl m H w ρ o K := by
  rw [ho] at h
  simp only [cOp] at h
  have hx := hρ x
  have hy := hρ y
  have key : ∀ v w', (Builtin.copy_ #[t, u] o.type #[ρ x, ρ y]).run P w = .ok v w' → (execOp ρ o).run P w = .ok (.value v) w' := by
    intro v w' hv
    simp [execOp, ho, resolve, invoke, builtin, hv]
  split at h
  · rename_i e hu
    have hu' := run_und (w := w) hu (by simp)
    split at h
    · rename_i hk
      simp only [hop] at h
      split at h
      · cases h
      · rename_i b m' vs hs
        obtain ⟨h1, h2⟩ := ck_ok h
        simp only [Bool.and_eq_true] at h1
        obtain ⟨news, n1, n2, n3, n4⟩ := src_ok (P := P) hH hy hs h1.1
        split at h2
        · rename_i he
          rw [he] at hx
          simp only [VR] at hx
          refine ⟨_, _, .int .i64 0, w, m, h2, .inl (key _ _ ?_), by simp [VR], hH, Mv.refl _ _ _⟩
          have hf := n4 0 (Nat.zero_le _) w rfl
          simp only [Nat.zero_mul, List.take_zero] at hf
          simp [Builtin.copy_, hu', hx, n3 w, run_size hk, hf, goInt]
        · rename_i id tot off len sz he
          rw [he] at hx
          obtain ⟨h3, h4⟩ := ck_ok h2
          simp only [Bool.and_eq_true, bne_iff_ne, ne_eq, nbeq, Nat.ble_eq] at h3
          obtain ⟨⟨⟨hc, rfl⟩, hle⟩, hro⟩ := h3
          obtain ⟨I, o2, cap, hI, hIt, hv, hcap, hpos⟩ := hH.sl hx hc
          have hmin : min m' len * szT P e ≤ len * szT P e := Nat.mul_le_mul_right _ (Nat.min_le_right _ _)
          have hmin2 : min m' len * szT P e ≤ m' * szT P e := Nat.mul_le_mul_right _ (Nat.min_le_left _ _)
          have honeT : oneL (vs.take (min m' len * szT P e)) = true := by
            have : ∀ (l : List AV) (n : Nat), oneL l = true → oneL (l.take n) = true := by
              intro l
              induction l with
              | nil => intro n h; simpa using h
              | cons v l ih => intro n h; simp only [oneL, Bool.and_eq_true] at h; cases n with
                | zero => rfl
                | succ n => simp only [List.take_succ_cons, oneL, Bool.and_eq_true]; exact ⟨h.1, ih n h.2⟩
            exact this _ _ h1.2
          obtain ⟨w', m2, q1, q2, q3⟩ := set_ok (P := P) (off := off) hH hc hI hro (n1.take (min m' len * szT P e)) honeT (by simp; omega)
          have hf := n4 (min m' len) (Nat.min_le_left _ _) w rfl
          refine ⟨_, _, .int .i64 ((min m' len : Nat) : Int), w', m2, h4, .inl (key _ _ ?_), by simp [VR], q2, q3⟩
          rcases hpos with ⟨rfl, hpos⟩ | ⟨rfl, rfl⟩
          · simp [Builtin.copy_, hu', hv, n3 w, run_size hk, hf, goInt, q1]
          · simp only [Nat.min_zero, Nat.zero_mul, List.take_zero] at q1 hf ⊢
            simp only [storeCells, Sem.run_pure, Result.ok.injEq] at q1
            obtain ⟨_, rfl⟩ := q1
            simp [Builtin.copy_, hu', hv, n3 w, run_size hk, hf, goInt, storeCells]
        · cases h2
    · simp [hop] at h
  · simp [hop] at h

theorem hop_app (hH : HR gl m H w) (hρ : ∀ x, VR m (ev (cO x)) (ρ x)) {E : Env} {k : Nat} {K : AV → List Blk → Prop} {o : Oper} {t u e : TypeId} {x y : Operand} (ho : o.op = .call { callee := .builtin .append, args := #[x, y], argTypes := #[t, u] })
    (ht : P.underlying t = some (.slice e)) (hk : knownT P e = true) (hz : (zeroC P e).length = szT P e) (zs : Option (List AV))
    (hu : (zs = none ∧ ((∃ e', P.underlying u = some (.slice e')) ∨ P.underlying u = some .string)) ∨ (zs = some (zeroC P e) ∧ ∃ k, P.underlying u = some (.int k)))
    (h : hop E ev H k (.app (szT P e) (P.bytesOf e) zs (cO x) (cO y)) K) : HopOk P gl m H w ρ o K := by
  have hx := hρ x
  have hy := hρ y
  have key : ∀ v w', (Builtin.append_ #[t, u] o.type #[ρ x, ρ y]).run P w = .ok v w' → (execOp ρ o).run P w = .ok (.value v) w' := by
    intro v w' hv
    simp [execOp, ho, resolve, invoke, builtin, hv]
  obtain ⟨⟨i, hi⟩, _⟩ := knownT_iff hk
  have his : i.size = szT P e := by simp [szT, Program.cellsOf, hi]
  have hib : i.bytes = P.bytesOf e := by simp [Program.bytesOf, hi]
  simp only [hop] at h
  split at h
  · cases h
  rename_i b n vs hs
  obtain ⟨h1, h2⟩ := ck_ok h
  simp only [Bool.and_eq_true, blt_iff, Nat.ble_eq] at h1
  obtain ⟨⟨⟨hb, hone⟩, hsz⟩, hby⟩ := h1
  obtain ⟨i', z, hi', hzz, hzR, hzr⟩ := zeroC_ok (P := P) (m := m) (w := w) (t := e) (by omega)
  rw [hi] at hi'
  cases hi'
  have hzs : z.cells.size = szT P e := by rw [← hz]; simpa using hzR.len.symm
  obtain ⟨news, n1, n2, A⟩ : ∃ news : List Value, VRL m vs news ∧ news.length = n * szT P e ∧ Apps P w t u o.type e i z (ρ y) n news := by
    rcases hu with ⟨rfl, hu⟩ | ⟨rfl, ku, hu⟩
    · obtain ⟨news, n1, n2, n3, n4⟩ := src_ok (P := P) hH hy hs hb
      have hall : news.take (n * szT P e) = news := List.take_of_length_le (by omega)
      refine ⟨news, n1, n2, apps_of ht hu hi hzz n3 (fun w1 hw1 => ?_) (fun h => List.eq_nil_of_length_eq_zero (by rw [n2, h, Nat.zero_mul]))⟩
      have := n4 n (Nat.le_refl _) w1 hw1
      rw [hall] at this
      rw [his]
      exact this
    · simp only [srcA] at hs
      split at hs
      · rename_i kx l he
        simp only [Option.some.injEq, Prod.mk.injEq] at hs
        obtain ⟨rfl, rfl, rfl⟩ := hs
        simp only [Bool.and_eq_true, decide_eq_true_eq] at hb
        rw [he] at hy
        simp only [VR] at hy
        rw [hy]
        refine ⟨_, replicate_VRL hzR _, ?_, apps_zero ht hu hi hzz (by rw [hzs, his]) hb.1 hb.2 (by rw [hib]; exact hby)⟩
        simp [hzs]
      · cases hs
  have hnl := n1.len
  split at h2
  · cases h2
  · -- nothing is appended
    obtain ⟨h3, h4⟩ := ck_ok h2
    rw [nbeq] at h3
    subst h3
    have hne : news = [] := List.eq_nil_of_length_eq_zero (by rw [n2, Nat.zero_mul])
    split at h4
    · rename_i he
      rw [he] at hx
      have hv := hx
      simp only [VR] at hv
      refine ⟨_, _, ρ x, w, m, h4, .inl (key _ _ ?_), hx, hH, Mv.refl _ _ _⟩
      rw [hv]
      exact A.nil rfl
    · rename_i id tot off len sz he
      rw [he] at hx
      obtain ⟨h5, h6⟩ := ck_ok h4
      simp only [Bool.and_eq_true] at h5
      obtain ⟨I, o2, cap, hI, hIt, hv, hcap, hpos⟩ := hH.sl hx h5.1
      refine ⟨_, _, ρ x, w, m, h6, .inl (key _ _ ?_), hx, hH, Mv.refl _ _ _⟩
      rw [hv]
      have := A.room ⟨I.b, o2, none⟩ len cap w (by rw [hne]; simp [storeCells]) (by omega)
      simpa using this
    · cases h4
  · obtain ⟨hn0, h4⟩ := ck_ok h2
    rw [blt_iff] at hn0
    split at h4
    · -- onto nil
      rename_i he
      rw [he] at hx
      simp only [VR] at hx
      obtain ⟨h5, h6⟩ := ck_ok h4
      simp only [Bool.and_eq_true, Nat.ble_eq] at h5
      have hrun := A.grow none 0 0 [] (by simp [Builtin.firstCells]) (by omega) (by omega) (by rw [hib]; simpa using h5.2)
      simp only [Nat.zero_add] at hrun
      have hN := (newB_grow (m := m) (olds := []) (xs := []) (by simp) n1 w e (Builtin.zeroCells z.cells (grownCap w n 0 e - n)).toList 0).1
      have hge := grownCap_ge w n 0 e
      simp only [List.nil_append] at hN
      obtain ⟨q2, q3⟩ := hH.new hN
      refine ⟨_, _, _, _, _, h6, .inl (key _ _ (by rw [hx]; exact hrun)), ?_, by simpa using q2, by simpa using q3⟩
      simp only [VR]
      refine ⟨rfl, _, M.set_same _ _ _, Nat.le_refl _, fun _ => ⟨0, _, rfl, hge, .inl ⟨rfl, ?_⟩⟩⟩
      have hzc : (Builtin.zeroCells z.cells (grownCap w n 0 e - n)).toList.length = (grownCap w n 0 e - n) * szT P e := by rw [Array.length_toList, size_zeroCells, hzs]
      rw [Array.length_toList] at hzc
      show 0 + grownCap w n 0 e * szT P e ≤ _
      simp only [List.length_nil, Nat.zero_add, Array.length_toList, hzc, n2]
      have e1 : n * szT P e + (grownCap w n 0 e - n) * szT P e = grownCap w n 0 e * szT P e := by rw [← Nat.add_mul]; congr 1; omega
      omega
    · rename_i id tot off len sz he
      rw [he] at hx
      obtain ⟨h5, h6⟩ := ck_ok h4
      simp only [Bool.and_eq_true, Nat.ble_eq, nbeq] at h5
      obtain ⟨⟨⟨⟨hc, rfl⟩, htot⟩, hle1⟩, hle2⟩ := h5
      obtain ⟨I, o2, cap, hI, hIt, hv, hcap, hpos⟩ := hH.sl hx hc
      obtain ⟨b2, hb2, hbl⟩ := cur_iff hc
      have hB := hH.blk id I b2 hI hb2
      obtain ⟨cu, ety, lo, hi2, q1, q2, q3, q4, q5, q6⟩ := hB.row
      obtain ⟨us, v1, v2, v3⟩ := hH.cells (off := off) (n := len * szT P e) hc hI (by omega)
      have hold : ∀ w1 : World, w1.heap = w.heap → (Builtin.firstCells i.size len (.slice (some ⟨I.b, o2, none⟩) len cap)).run P w1 = .ok us.toArray w1 := by
        intro w1 hw1
        simp only [Builtin.firstCells, his]
        rcases hpos with ⟨rfl, _⟩ | ⟨rfl, _⟩
        · rw [← v1]
          exact run_cells us (by
            intro j v hj
            have e : w1.cell? ⟨I.b, I.d + off + j, none⟩ = w.cell? ⟨I.b, I.d + off + j, none⟩ := by simp [World.cell?, hw1]
            rw [e]; exact v2 j v hj)
        · have hu0 : us = [] := List.eq_nil_of_length_eq_zero (by simpa using v1)
          subst hu0
          simp [loadCells, loadCellsFrom]
      have hge := grownCap_ge w (len + n) cap e
      -- a new row
      have newrow : cap < len + n → (Builtin.append_ #[t, u] o.type #[ρ x, ρ y]).run P w = .ok (.slice (some ⟨w.heap.size, 0, none⟩) (len + n) (grownCap w (len + n) cap e)) (w.drew.alloc (.cells (us.toArray ++ news.toArray ++ Builtin.zeroCells z.cells (grownCap w (len + n) cap e - (len + n))) e)) := by
        intro hg
        rw [hv]
        exact A.grow _ len cap us (hold w.drew rfl) hg hle1 (by rw [hib]; exact hle2)
      have hN := (newB_grow (m := m) v3 n1 w e (Builtin.zeroCells z.cells (grownCap w (len + n) cap e - (len + n))).toList 0).1
      have hzc : (Builtin.zeroCells z.cells (grownCap w (len + n) cap e - (len + n))).toList.length = (grownCap w (len + n) cap e - (len + n)) * szT P e := by rw [Array.length_toList, size_zeroCells, hzs]
      have hlim : us.length + news.length + (Builtin.zeroCells z.cells (grownCap w (len + n) cap e - (len + n))).toList.length = grownCap w (len + n) cap e * szT P e := by
        rw [hzc, v1, n2, ← Nat.add_mul, ← Nat.add_mul]; congr 1; omega
      have hcl : (cellsAt H id off (len * szT P e)).length = len * szT P e := by rw [v3.len, v1]
      split at h6
      · -- a block that may grow
        rename_i hkind
        obtain ⟨h7, h8⟩ := ck_ok h6
        rw [nbeq] at h7
        subst h7
        have hkb : b2.k = .grow := by simpa [kindAt, hb2] using hkind
        have hkn : b2.k ≠ .ro := by rw [hkb]; simp
        obtain ⟨hd, hm⟩ := q5 hkn
        have hgrow : growB H id vs = H.set id ⟨b2.k, b2.lf && oldL 0 vs, b2.cs ++ vs⟩ := by simp [growB, hb2]
        have hlf : (b2.lf && oldL 0 vs) = true → oldL 0 (b2.cs ++ vs) = true := by
          intro h
          simp only [Bool.and_eq_true] at h
          exact old_append (hB.lf h.1) h.2
        have hca : cellsAt H id 0 (len * szT P e) = b2.cs := by
          simp only [cellsAt, hb2, List.drop_zero]
          exact List.take_of_length_le (by omega)
        rw [hca] at v3
        have htl : tot = b2.cs.length := hbl.symm
        have htn : tot < tot + vs.length := by
          have : 0 < n * szT P e := Nat.mul_pos hn0 hsz
          omega
        by_cases hroom : len + n ≤ cap
        · rcases hpos with ⟨rfl, hpos⟩ | ⟨_, rfl⟩
          · have hadd : ((⟨I.b, I.d + 0, none⟩ : Addr).add (len * szT P e)) = ⟨I.b, tot, none⟩ := by rw [Addr.add_lit, hd]; first | (congr 1; done) | (congr 1; omega)
            have hcapm : (len + n) * szT P e ≤ cap * szT P e := Nat.mul_le_mul_right _ hroom
            rw [Nat.add_mul] at hcapm
            have hst := storeCells_row P I.b tot ety lo hi2 news 0 cu w q1 hm (by omega) (oneL_of hone n1)
            simp only [Nat.add_zero] at hst
            have hrun := A.room ⟨I.b, I.d + 0, none⟩ len cap _ (by rw [his, hadd]; exact hst) hroom
            have hrsz : ((cu.toList.take tot ++ news ++ cu.toList.drop (tot + news.length)).toArray).size = cu.size := by simp; omega
            have hup := hH.upd (w' := w.setRow I.b (cu.toList.take tot ++ news ++ cu.toList.drop (tot + news.length)).toArray) (I' := ⟨I.b, 0, tot + vs.length, I.lim⟩) (b' := ⟨b2.k, b2.lf && oldL 0 vs, b2.cs ++ vs⟩) hI hb2 hkn rfl (by simp only; omega) (fun h => by simp only at h; omega) (.inl rfl)
              (by simp [World.setRow]) (fun k hk _ => setRow_other w I.b k _ hk) rfl rfl rfl (by
                have hext := Ext.set_old (m := m) (I' := ⟨I.b, 0, tot + vs.length, I.lim⟩) hI (by simp only; omega) (fun h => by simp only at h; omega)
                refine ⟨by simp; omega, hlf, _, ety, lo, hi2, setRow_heap w I.b cu _ ety _ q1, by simp only; omega, by rw [hrsz]; exact q3, fun h => (by rw [hkb] at h; cases h), fun _ => ⟨rfl, by rw [hrsz]; exact hm⟩, ?_⟩
                simp only [List.drop_zero]
                rw [List.take_append_of_le_length (by simp; omega), List.take_of_length_le (by simp; omega)]
                rw [hd, List.drop_zero, hIt] at q6
                exact VRL.mono hext _ _ (q6.append n1))
            rw [hgrow] at h8
            refine ⟨_, _, _, _, _, h8, .inl (key _ _ (by rw [hv]; exact hrun)), ?_, hup.1, hup.2⟩
            simp only [VR]
            refine ⟨rfl, _, M.set_same _ _ _, by simp, fun _ => ⟨I.d + 0, cap, rfl, hroom, .inl ⟨by rw [hd], ?_⟩⟩⟩
            simpa using hpos
          · omega
        · have hrun := newrow (by omega)
          rw [hca] at hN
          obtain ⟨cu', e', lo', hi', r1, r2, r3, r4, r5, r6, r7⟩ := hN.row
          have hup := hH.upd (w' := w.drew.alloc (.cells (us.toArray ++ news.toArray ++ Builtin.zeroCells z.cells (grownCap w (len + n) cap e - (len + n))) e)) (I' := ⟨w.heap.size, 0, tot + vs.length, grownCap w (len + n) cap e * szT P e⟩) (b' := ⟨b2.k, b2.lf && oldL 0 vs, b2.cs ++ vs⟩) hI hb2 hkn rfl (by simp only; omega) (fun h => by simp only at h; omega) (.inr (Nat.le_refl _))
              (by simp) (fun k _ hk => Below.heap_alloc w.drew _ _ hk) rfl rfl rfl (by
                have hext := Ext.set_old (m := m) (I' := ⟨w.heap.size, 0, tot + vs.length, grownCap w (len + n) cap e * szT P e⟩) hI (by simp only; omega) (fun h => by simp only at h; omega)
                refine ⟨by simp; omega, hlf, _, e, 0, 0, heap_alloc_new w.drew _, ?_, ?_, fun h => (by rw [hkb] at h; cases h), fun _ => ⟨rfl, .inl rfl⟩, ?_⟩
                · simp only [Nat.zero_add]; omega
                · have e5 : ∀ Z : Array Value, (us.toArray ++ news.toArray ++ Z).size = us.length + news.length + Z.size := by intro Z; simp
                  rw [e5]
                  exact Nat.le_of_eq hlim.symm
                · simp only [List.drop_zero]
                  rw [show (us.toArray ++ news.toArray ++ Builtin.zeroCells z.cells (grownCap w (len + n) cap e - (len + n))).toList = (us ++ news) ++ (Builtin.zeroCells z.cells (grownCap w (len + n) cap e - (len + n))).toList by simp]
                  rw [List.take_append_of_le_length (by simp; omega), List.take_of_length_le (by simp; omega)]
                  exact VRL.mono hext _ _ (v3.append n1))
          rw [hgrow] at h8
          refine ⟨_, _, _, _, _, h8, .inl (key _ _ hrun), ?_, hup.1, hup.2⟩
          simp only [VR]
          exact ⟨rfl, _, M.set_same _ _ _, by simp, fun _ => ⟨0, _, rfl, hge, .inl ⟨rfl, by simp⟩⟩⟩
      · -- a block of known end
        rename_i hkind
        have hkb : b2.k = .exact := by simpa [kindAt, hb2] using hkind
        have hend := q4 hkb
        have hg : cap < len + n := by
          rcases hpos with ⟨rfl, hpos⟩ | ⟨_, rfl⟩
          · have h1 : cap * szT P e ≤ len * szT P e := by omega
            have := Nat.le_of_mul_le_mul_right h1 hsz
            omega
          · omega
        have hrun := newrow hg
        rw [hlim] at hN
        rw [List.length_append, hcl] at hN
        obtain ⟨q7, q8⟩ := hH.new hN
        refine ⟨_, _, _, _, _, h6, .inl (key _ _ hrun), ?_, by simpa using q7, by simpa using q8⟩
        simp only [VR]
        exact ⟨rfl, _, M.set_same _ _ _, Nat.le_refl _, fun _ => ⟨0, _, rfl, hge, .inl ⟨rfl, by simp⟩⟩⟩
      · cases h6
    · cases h4

/-- every operation that writes -/
theorem hop_ok (hH : HR gl m H w) (hρ : ∀ x, VR m (ev (cO x)) (ρ x)) {E : Env} {k : Nat} {K : AV → List Blk → Prop} (o : Oper) (h : hop E ev H k (cOp P o.op) K) : HopOk P gl m H w ρ o K := by
  cases ho : o.op with
  | store t a x => exact hop_store hH hρ ho h
  | convert s d x => exact hop_mark hH hρ ho h
  | slice t x lo hi mx =>
    rw [ho] at h
    cases mx <;> simp only [cOp] at h
    · repeat' (first | (simp [hop] at h; done) | split at h)
    · simp [hop] at h
  | call c =>
    obtain ⟨callee, args, ts⟩ := c
    cases callee with
    | value f => rw [ho] at h; simp [cOp, hop] at h
    | invoke f n => rw [ho] at h; simp [cOp, hop] at h
    | builtin b =>
      have h0 := h
      rw [ho] at h
      simp only [cOp] at h
      split at h
      · split at h <;> simp [hop] at h
      · rename_i x y t u e1 e2
        obtain rfl : args = #[x, y] := Array.ext' (by simpa using e1)
        obtain rfl : ts = #[t, u] := Array.ext' (by simpa using e2)
        split at h
        · rename_i e e' hu1 hu2
          split at h
          · rename_i hk
            simp only [Bool.and_eq_true, beq_iff_eq] at hk
            exact hop_app hH hρ ho (und_some hu1 (by simp)) hk.1 hk.2 none (.inl ⟨rfl, .inl ⟨e', und_some hu2 (by simp)⟩⟩) h
          · simp [hop] at h
        · rename_i e hu1 hu2
          split at h
          · rename_i hk
            simp only [Bool.and_eq_true, beq_iff_eq] at hk
            exact hop_app hH hρ ho (und_some hu1 (by simp)) hk.1.1 hk.1.2 none (.inl ⟨rfl, .inr (und_some hu2 (by simp))⟩) h
          · simp [hop] at h
        · rename_i e ku hu1 hu2
          split at h
          · rename_i hk
            simp only [Bool.and_eq_true, beq_iff_eq] at hk
            exact hop_app hH hρ ho (und_some hu1 (by simp)) hk.1 hk.2 _ (.inr ⟨rfl, ku, und_some hu2 (by simp)⟩) h
          · simp [hop] at h
        · simp [hop] at h
      · rename_i x y t u e1 e2
        obtain rfl : args = #[x, y] := Array.ext' (by simpa using e1)
        obtain rfl : ts = #[t, u] := Array.ext' (by simpa using e2)
        exact hop_copy hH hρ ho h0
      · simp [hop] at h
      · simp [hop] at h
      · simp [hop] at h
  | _ =>
    rw [ho] at h
    simp only [cOp] at h
    repeat' (first | (simp [hop] at h; done) | split at h)
end
end Go.Proofs.YtafchcmemeinlaaDoor
