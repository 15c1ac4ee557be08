/-
  The engine, part Q: every order that may be drawn comes to what the canonical order comes to.
-/
import Derived.Test.YtafchcmemeinlaaDoorEngP
set_option linter.unusedSimpArgs false
set_option linter.unusedVariables false
namespace Go.Proofs.YtafchcmemeinlaaDoor
open Go.RowKit

theorem S.put_hp (s : S) (d : Option Nat) (v : AV) : (s.put d v).hp = s.hp := by cases d <;> rfl

theorem S.put_get (s : S) (d : Option Nat) (v : AV) (hd : ∀ k, d = some k → k < 4000) (t : Nat) : (s.put d v).tm.get t = bif d == some t then v else s.tm.get t := by
  cases d with
  | none => rfl
  | some k =>
    have hk := hd k rfl
    show (T.put 12 s.tm k v).get t = _
    rw [T.get_put 12 s.tm k v t (by omega)]
    by_cases e : t = k
    · subst e; simp
    · have : (some k == some t) = false := by simpa using fun h => e h.symm
      rw [if_neg e, this, cond_false]

theorem gd_tm (s : S) (g : Option (Nat × Bool)) : gd s g = gd ⟨s.tm, []⟩ g := by
  cases g with
  | none => rfl
  | some p => rfl

theorem pair_clash {x y : AOper} (h : pairOk x y = true) (hc : clash x y = true) : y.bf.testBit x.ix = true := by
  simp only [pairOk, hc, Bool.and_eq_true, Bool.or_eq_true, Bool.not_true, Bool.false_eq_true, false_and, false_or] at h
  exact h.2
theorem pair_heavy {x y : AOper} (h : pairOk x y = true) (hc : heavy x.op = true) : y.bf.testBit x.ix = true := by
  simp only [pairOk, hc, Bool.and_eq_true, Bool.or_eq_true, Bool.not_true, Bool.false_eq_true, and_false, false_or] at h
  exact h.2
theorem pair_ne {x y : AOper} (h : pairOk x y = true) : x.ix ≠ y.ix := by
  simp only [pairOk, Bool.and_eq_true, bne_iff_ne] at h
  exact h.1.2
theorem pair_not {x y : AOper} (h : pairOk x y = true) : x.bf.testBit y.ix = false := by
  simp only [pairOk, Bool.and_eq_true, Bool.not_eq_true'] at h
  exact h.1.1
theorem clash_out {x y : AOper} {d : Nat} (h : x.dst = some d) (hu : d ∈ uses y) : clash x y = true := by
  simp [clash, h, hu]
theorem clash_same {x y : AOper} {d : Nat} (h : x.dst = some d) (hu : y.dst = some d) : clash x y = true := by
  simp [clash, h, hu]
theorem clash_in {x y : AOper} {d : Nat} (h : y.dst = some d) (hu : d ∈ uses x) : clash x y = true := by
  simp [clash, h, hu]

def Fact (E : Env) (t0 : Nat → AV) (D1 : List Rcd) (r : Rcd) : Prop := match r.kd with
  | .heavy => True
  | .skip tm => (∀ t, tm.get t = tv all1 t D1 (t0 t)) ∧ gd ⟨tm, []⟩ r.x.guard = some false ∧ r.v = .tup []
  | .quiet tm H lr => (∀ t, tm.get t = tv all1 t D1 (t0 t)) ∧ gd ⟨tm, []⟩ r.x.guard = some true ∧ lop E.gl (evu (usesOp r.x.op) tm) (cur H) (cellsAt H) H.length r.x.op = some lr ∧ lr.pre = true ∧ r.v = lr.v

def Live (fl : List Fl) (m : M) (hp : List Blk) (n0 : Nat) (r : Rcd) : Prop := match r.kd with
  | .quiet _ H lr => (∀ x ∈ lr.rd, (cellsAt H x.id x.off x.size = cellsAt hp x.id x.off x.size ∧ lenAt H x.id = lenAt hp x.id) ∧ x.id < hp.length ∧ Fl.rd r.x.ix x ∈ fl) ∧
      (∀ b, lr.nb = some b → hp[H.length]? = some b ∧ m.blk H.length = none ∧ n0 ≤ H.length ∧ Fl.nb r.x.ix H.length ∈ fl)
  | _ => True

structure Inv (P : Program) (E : Env) (nt B : Nat) (ops : Array Oper) (l0 : List AOper) (t0 : Nat → AV) (X : List Ls) (m0 : M) (H0 : List Blk) (w0 : World) (L : Nat → Bool) (D : List Rcd) (l : List AOper) (s : S) (g : Gh) (fl : List Fl) (m : M) (a : Act) (w : World) : Prop where
  ord : D.map (·.x) ++ l = l0
  tms : ∀ t, s.tm.get t = tv all1 t D (t0 t)
  con : ∀ t, VR m (tv L t D (t0 t)) (a.tmps.getD t undef)
  sz : nt ≤ a.tmps.size
  df : DF B a.defers w
  lps : LpR P E.gl X g m s.hp w
  hr : HR E.gl m s.hp w
  mv : Mx (X.map (·.l)) m0 H0 w0 m s.hp w
  hv : ∀ r ∈ D, r.kd = .heavy → L r.x.ix = true
  unl : ∀ y ∈ l, L y.ix = false
  fact : ∀ i r, D[i]? = some r → Fact E t0 (D.take i) r
  live : ∀ r ∈ D, L r.x.ix = false → Live fl m s.hp H0.length r
  nid : D.Pairwise fun r r' => ∀ i j, nidOf r = some i → nidOf r' = some j → i ≠ j
  nlt : ∀ r ∈ D, ∀ i, nidOf r = some i → i < s.hp.length
  cls : Closed ops L

theorem split_at {α : Type _} {D : List α} {i : Nat} {r : α} (h : D[i]? = some r) : D = D.take i ++ r :: D.drop (i + 1) := by
  obtain ⟨hi, e⟩ := List.getElem?_eq_some_iff.1 h
  have : D.drop i = r :: D.drop (i + 1) := by rw [List.drop_eq_getElem_cons hi, e]
  rw [← this, List.take_append_drop]

section
variable {P : Program} {E : Env} {nt B : Nat} {ops : Array Oper} {l0 : List AOper} {t0 : Nat → AV} {X : List Ls} {g : Gh} {m0 : M} {H0 : List Blk} {w0 : World} {L : Nat → Bool} {D : List Rcd} {l : List AOper} {s : S} {fl : List Fl} {m : M} {a : Act} {w : World}

theorem Canon.bits (C : Canon P nt ops l0) (hL : Closed ops L) {y : AOper} (hy : y ∈ l0) {o : Oper} (ho : ops[y.ix]? = some o) (he : ∀ e ∈ o.after, Region.binds .any e = true → L e.on = true) : ∀ j, y.bf.testBit j = true → L j = true := by
  intro j hj
  obtain ⟨o', h1, _, _, _, h2⟩ := C.mem y hy
  exact closed_bits hL (y.ix + 1) y.ix o (by omega) ho he j y.bf h2 hj

theorem Canon.cl (C : Canon P nt ops l0) (hL : Closed ops L) {y : AOper} (hy : y ∈ l0) (hLy : L y.ix = true) : ∀ j, y.bf.testBit j = true → L j = true := by
  obtain ⟨o, h1, _⟩ := C.mem y hy
  exact C.bits hL hy h1 (hL y.ix o h1 hLy)

theorem Inv.pairs (C : Canon P nt ops l0) (h : Inv P E nt B ops l0 t0 X m0 H0 w0 L D l s g fl m a w) : D.Pairwise (fun r r' => pairOk r.x r'.x = true) ∧ l.Pairwise (fun x y => pairOk x y = true) ∧ ∀ r ∈ D, ∀ y ∈ l, pairOk r.x y = true := by
  have hp := C.pairs
  rw [← h.ord, List.pairwise_append] at hp
  refine ⟨?_, hp.2.1, fun r hr y hy => hp.2.2 r.x (List.mem_map.2 ⟨r, hr, rfl⟩) y hy⟩
  have := hp.1
  rw [List.pairwise_map] at this
  exact this

theorem Inv.memD (h : Inv P E nt B ops l0 t0 X m0 H0 w0 L D l s g fl m a w) {r : Rcd} (hr : r ∈ D) : r.x ∈ l0 := by
  rw [← h.ord]
  exact List.mem_append_left _ (List.mem_map.2 ⟨r, hr, rfl⟩)

/-- the slots of a pending operation that is ready -/
theorem Inv.slots (C : Canon P nt ops l0) (h : Inv P E nt B ops l0 t0 X m0 H0 w0 L D l s g fl m a w) {i : Nat} {r : Rcd} (hi : D[i]? = some r) (hL : L r.x.ix = false) (hb : ∀ j, r.x.bf.testBit j = true → L j = true) {t : Nat} (ht : t ∈ uses r.x) :
    VR m (tv all1 t (D.take i) (t0 t)) (a.tmps.getD t undef) := by
  have hc := h.con t
  obtain ⟨hp, _, _⟩ := h.pairs C
  have e := split_at hi
  have hmem : ∀ r' ∈ D.drop (i + 1), r' ∈ D := fun r' hr' => List.mem_of_mem_drop hr'
  rw [e, List.pairwise_append, List.pairwise_cons] at hp
  have key : tv L t D (t0 t) = tv all1 t (D.take i) (t0 t) := by
    conv => lhs; rw [e]
    rw [tv_append]
    simp only [tv, hL, Bool.false_and, cond_false]
    rw [tv_none t (D.drop (i + 1))]
    · refine tv_congr t _ _ fun r' hr' hd => ?_
      exact hb _ (pair_clash (hp.2.2 r' hr' r (by simp)) (clash_out hd ht))
    · intro r' hr' hd
      cases hLr : L r'.x.ix with
      | false => rfl
      | true =>
        have := C.cl h.cls (h.memD (hmem r' hr')) hLr _ (pair_clash (hp.2.1.1 r' hr') (clash_in hd ht))
        rw [hL] at this
        cases this
  rw [← key]
  exact hc

/-- the slots of the operation that is next -/
theorem Inv.slots_head (C : Canon P nt ops l0) {x : AOper} (h : Inv P E nt B ops l0 t0 X m0 H0 w0 L D (x :: l) s g fl m a w) (hb : ∀ j, x.bf.testBit j = true → L j = true) {t : Nat} (ht : t ∈ uses x) :
    VR m (s.tm.get t) (a.tmps.getD t undef) := by
  have hc := h.con t
  obtain ⟨_, _, hp⟩ := h.pairs C
  have key : tv L t D (t0 t) = s.tm.get t := by
    rw [h.tms t]
    exact tv_congr t _ _ fun r hr hd => hb _ (pair_clash (hp r hr x (by simp)) (clash_out hd ht))
  rw [← key]
  exact hc

theorem ev_of {us : List Nat} {tm : T} (hu : ∀ t ∈ us, VR m (tm.get t) (a.tmps.getD t undef)) (x : Operand) : VR m (evu us tm (cO x)) (a.eval x) := by
  cases x with
  | tmp t =>
    show VR m (bif us.contains t then tm.get t else .undef) (a.tmps.getD t undef)
    cases hc : us.contains t
    · simp [VR]
    · rw [cond_true]; exact hu t (by simpa using hc)
  | const v => exact ofV_ok m 4 v
  | global g => simp [cO, evu, Act.eval, VR]
  | func f => simp [cO, evu, Act.eval, VR]

theorem put_getD {a : Act} {d : Option Nat} {v : Value} (hn : nt ≤ a.tmps.size) (hd : ∀ k, d = some k → k < nt) (t : Nat) : (a.put d v).tmps.getD t undef = bif d == some t then v else a.tmps.getD t undef := by
  cases d with
  | none => rfl
  | some k =>
    have hk := hd k rfl
    simp only [Act.put]
    by_cases e : k = t
    · subst e
      have : k < a.tmps.size := by omega
      simp [this]
    · have : (some k == some t) = false := by simpa using e
      rw [this, cond_false]
      simp [Array.getElem?_setIfInBounds_ne e]

theorem put_sz {a : Act} {d : Option Nat} {v : Value} : (a.put d v).tmps.size = a.tmps.size ∧ (a.put d v).defers = a.defers := by
  cases d <;> simp [Act.put]

/-- a pending operation has run -/
theorem Inv.run (C : Canon P nt ops l0) (h : Inv P E nt B ops l0 t0 X m0 H0 w0 L D l s g fl m a w) {i : Nat} {r : Rcd} (hi : D[i]? = some r) (hL : L r.x.ix = false)
    {o : Oper} (ho : ops[r.x.ix]? = some o) (hod : o.dst = r.x.dst) (hd : ∀ k, o.dst = some k → k < nt) (he : ∀ e ∈ o.after, Region.binds .any e = true → L e.on = true) {m' : M} {w' : World} {v : Value} (hx : Ext m m') (hv : VR m' r.v v) (hH : HR E.gl m' s.hp w') (hm : Mx (X.map (·.l)) m0 H0 w0 m' s.hp w') (hdf : DF B a.defers w') (hX : LpR P E.gl X g m' s.hp w')
    (hn : ∀ id, nidOf r ≠ some id → m.blk id = none → m'.blk id = none) :
    Inv P E nt B ops l0 t0 X m0 H0 w0 (fun j => L j || j == r.x.ix) D l s g fl m' (a.put o.dst v) w' := by
  obtain ⟨hp, _, hpl⟩ := h.pairs C
  have e := split_at hi
  have hri : r ∈ D := List.mem_of_getElem? hi
  have hp' := hp
  rw [e, List.pairwise_append, List.pairwise_cons] at hp'
  have hni := h.nid
  rw [e, List.pairwise_append, List.pairwise_cons] at hni
  have hne : ∀ r' ∈ D.take i, r'.x.ix ≠ r.x.ix := fun r' hr' => pair_ne (hp'.2.2 r' hr' r (by simp))
  have hne2 : ∀ r' ∈ D.drop (i + 1), r'.x.ix ≠ r.x.ix := fun r' hr' => Ne.symm (pair_ne (hp'.2.1.1 r' hr'))
  refine ⟨h.ord, h.tms, fun t => ?_, by rw [put_sz.1]; exact h.sz, by rw [put_sz.2]; exact hdf, hX, hH, hm, fun r' hr' hk => by simp [h.hv r' hr' hk], fun y hy => ?_, h.fact, fun r' hr' hLr' => ?_, h.nid, h.nlt, fun j o' ho' hj e' he' hb => ?_⟩
  · rw [put_getD h.sz hd t, hod]
    by_cases hdt : r.x.dst = some t
    · have e1 : (r.x.dst == some t) = true := by simpa using hdt
      rw [e1, cond_true]
      have : tv (fun j => L j || j == r.x.ix) t D (t0 t) = r.v := by
        conv => lhs; rw [e]
        rw [tv_append]
        simp only [tv, hL, Bool.false_or, beq_self_eq_true, Bool.true_and, e1, cond_true]
        refine tv_none t _ _ fun r' hr' hd' => ?_
        have hne' := hne2 r' hr'
        cases hLr : L r'.x.ix with
        | false => simpa using hne'
        | true =>
          have := C.cl h.cls (h.memD (List.mem_of_mem_drop hr')) hLr _ (pair_clash (hp'.2.1.1 r' hr') (clash_same hdt hd'))
          rw [hL] at this
          cases this
      rw [this]
      exact hv
    · have e1 : (r.x.dst == some t) = false := by simpa using hdt
      rw [e1, cond_false]
      have : tv (fun j => L j || j == r.x.ix) t D (t0 t) = tv L t D (t0 t) := by
        refine tv_congr t _ _ fun r' hr' hd' => ?_
        have : r'.x.ix ≠ r.x.ix := by
          rw [e] at hr'
          rcases List.mem_append.1 hr' with h1 | h1
          · exact hne r' h1
          · rcases List.mem_cons.1 h1 with h1 | h1
            · rw [h1] at hd'; exact absurd hd' hdt
            · exact hne2 r' h1
        simp [this]
      rw [this]
      exact VR.mono hx _ _ (h.con t)
  · have : y.ix ≠ r.x.ix := Ne.symm (pair_ne (hpl r hri y hy))
    simp [h.unl y hy, this]
  · simp only [Bool.or_eq_false_iff, beq_eq_false_iff_ne] at hLr'
    have hlv := h.live r' hr' hLr'.1
    unfold Live at hlv ⊢
    split at hlv
    · rename_i tm H lr hk
      refine ⟨hlv.1, fun b hb => ?_⟩
      obtain ⟨q1, q2, q3, q4⟩ := hlv.2 b hb
      refine ⟨q1, hn _ ?_ q2, q3, q4⟩
      have hnid : nidOf r' = some H.length := by simp [nidOf, hk, hb]
      intro hc
      rw [e] at hr'
      rcases List.mem_append.1 hr' with h1 | h1
      · exact hni.2.2 r' h1 r (by simp) _ _ hnid hc rfl
      · rcases List.mem_cons.1 h1 with h1 | h1
        · rw [h1] at hLr'; exact hLr'.2 rfl
        · exact hni.2.1.1 r' h1 _ _ hc hnid rfl
    · trivial
  · simp only [Bool.or_eq_true, beq_iff_eq] at hj ⊢
    rcases hj with hj | hj
    · exact .inl (h.cls j o' ho' hj e' he' hb)
    · subst hj
      rw [ho] at ho'
      cases ho'
      exact .inl (he e' he' hb)

/-- the abstract run goes on by one operation that writes nothing -/
theorem Inv.quietly {x : AOper} (h : Inv P E nt B ops l0 t0 X m0 H0 w0 L D (x :: l) s g fl m a w) (hnt : nt ≤ 4000) (hd : ∀ k, x.dst = some k → k < nt) {v : AV} {kd : Kd} (hk : kd ≠ .heavy) (hf : Fact E t0 D ⟨x, v, kd⟩) (nb : List Blk) (fl' : List Fl) (hfl : ∀ f ∈ fl, f ∈ fl')
    (hlv : Live fl' m (s.hp ++ nb) H0.length ⟨x, v, kd⟩) (hn : ∀ i, nidOf ⟨x, v, kd⟩ = some i → i = s.hp.length ∧ 0 < nb.length) :
    Inv P E nt B ops l0 t0 X m0 H0 w0 L (D ++ [⟨x, v, kd⟩]) l (S.put ⟨s.tm, s.hp ++ nb⟩ x.dst v) g fl' m a w := by
  have hx : L x.ix = false := h.unl x (by simp)
  refine ⟨by rw [← h.ord]; simp, fun t => ?_, fun t => ?_, h.sz, h.df, by rw [S.put_hp]; exact h.lps.push nb, ?_, ?_, fun r hr hkr => ?_, fun y hy => h.unl y (by simp [hy]), fun i r hi => ?_, fun r hr hLr => ?_, ?_, fun r hr i hi => ?_, h.cls⟩
  · rw [S.put_get _ _ _ (fun k hk' => Nat.lt_of_lt_of_le (hd k hk') hnt), tv_append]
    simp only [tv, all1, Bool.true_and]
    rw [h.tms t]
  · rw [tv_append]
    simp only [tv, hx, Bool.false_and, cond_false]
    exact h.con t
  · rw [S.put_hp]; exact h.hr.push nb
  · rw [S.put_hp]; exact Mx.push h.hr h.mv nb
  · rcases List.mem_append.1 hr with h1 | h1
    · exact h.hv r h1 hkr
    · rw [List.mem_singleton] at h1; subst h1; exact absurd hkr hk
  · by_cases hlt : i < D.length
    · rw [List.getElem?_append_left hlt] at hi
      rw [List.take_append_of_le_length (by omega)]
      exact h.fact i r hi
    · rw [List.getElem?_append_right (by omega)] at hi
      have hi0 : i - D.length = 0 := by
        rcases Nat.eq_zero_or_pos (i - D.length) with h0 | h0
        · exact h0
        · rw [List.getElem?_eq_none (by simp; omega)] at hi; cases hi
      rw [hi0] at hi
      simp at hi
      subst hi
      have : i = D.length := by omega
      subst this
      simpa using hf
  · rw [S.put_hp]
    rcases List.mem_append.1 hr with h1 | h1
    · have hl := h.live r h1 hLr
      unfold Live at hl ⊢
      split at hl
      · refine ⟨fun y hy => ?_, fun b hb => ?_⟩
        · obtain ⟨⟨q1, q2⟩, q3, q4⟩ := hl.1 y hy
          have e1 : (s.hp ++ nb)[y.id]? = s.hp[y.id]? := List.getElem?_append_left q3
          refine ⟨⟨by rw [q1]; simp only [cellsAt, e1], by rw [q2]; simp only [lenAt, e1]⟩, by simp; omega, hfl _ q4⟩
        · obtain ⟨q1, q2, q3, q4⟩ := hl.2 b hb
          refine ⟨?_, q2, q3, hfl _ q4⟩
          rw [List.getElem?_append_left (List.getElem?_eq_some_iff.1 q1).1]
          exact q1
      · trivial
    · rw [List.mem_singleton] at h1; subst h1; exact hlv
  · rw [List.pairwise_append]
    refine ⟨h.nid, List.pairwise_singleton _ _, fun r hr r' hr' i j h1 h2 => ?_⟩
    rw [List.mem_singleton] at hr'; subst hr'
    have a1 := h.nlt r hr i h1
    have a2 := (hn j h2).1
    omega
  · rw [S.put_hp]
    rcases List.mem_append.1 hr with h1 | h1
    · have := h.nlt r h1 i hi
      simp; omega
    · rw [List.mem_singleton] at h1; subst h1
      have := hn i hi
      simp; omega

/-- the operation that is next, one that writes, has run -/
theorem Inv.writes (C : Canon P nt ops l0) {x : AOper} (h : Inv P E nt B ops l0 t0 X m0 H0 w0 L D (x :: l) s g fl m a w) (hnt : nt ≤ 4000) {o : Oper} (ho : ops[x.ix]? = some o) (hod : o.dst = x.dst) (hd : ∀ k, o.dst = some k → k < nt) (he : ∀ e ∈ o.after, Region.binds .any e = true → L e.on = true)
    {m' : M} {w' : World} {H' : List Blk} {av : AV} {v : Value} {g' : Gh} (hv : VR m' av v) (hH : HR E.gl m' H' w') (hm : Mx (X.map (·.l)) m s.hp w m' H' w') (hdf : DF B a.defers w') (hX : LpR P E.gl X g' m' H' w')
    (h1 : ∀ ix r, Fl.rd ix r ∈ fl → Nat.testBit x.bf ix = false → cellsAt s.hp r.id r.off r.size = cellsAt H' r.id r.off r.size ∧ lenAt s.hp r.id = lenAt H' r.id)
    (h2 : ∀ ix id, Fl.nb ix id ∈ fl → Nat.testBit x.bf ix = false → s.hp[id]? = H'[id]?) :
    Inv P E nt B ops l0 t0 X m0 H0 w0 (fun j => L j || j == x.ix) (D ++ [⟨x, av, .heavy⟩]) l (S.put ⟨s.tm, H'⟩ x.dst av) g' fl m' (a.put o.dst v) w' := by
  obtain ⟨_, hpl, hp⟩ := h.pairs C
  rw [List.pairwise_cons] at hpl
  have hx : L x.ix = false := h.unl x (by simp)
  have hxl : x ∈ l0 := by rw [← h.ord]; simp
  have hb := C.bits h.cls hxl ho he
  have hneD : ∀ r ∈ D, r.x.ix ≠ x.ix := fun r hr => pair_ne (hp r hr x (by simp))
  refine ⟨by rw [← h.ord]; simp, fun t => ?_, fun t => ?_, by rw [put_sz.1]; exact h.sz, by rw [put_sz.2]; exact hdf, by rw [S.put_hp]; exact hX, by rw [S.put_hp]; exact hH, by rw [S.put_hp]; exact h.mv.trans hm, fun r hr hkr => ?_, fun y hy => ?_, fun i r hi => ?_, fun r hr hLr => ?_, ?_, fun r hr i hi => ?_, fun j o' ho' hj e' he' hb' => ?_⟩
  · rw [S.put_get _ _ _ (fun k hk' => Nat.lt_of_lt_of_le (hd k (by rw [hod]; exact hk')) hnt), tv_append]
    simp only [tv, all1, Bool.true_and]
    rw [h.tms t]
  · rw [put_getD h.sz hd t, hod, tv_append]
    simp only [tv, hx, Bool.false_or, beq_self_eq_true, Bool.true_and]
    cases hdt : (x.dst == some t)
    · simp only [cond_false]
      have : tv (fun j => L j || j == x.ix) t D (t0 t) = tv L t D (t0 t) := tv_congr t _ _ fun r hr _ => by simp [hneD r hr]
      rw [this]
      exact VR.mono hm.ext _ _ (h.con t)
    · simp only [cond_true]; exact hv
  · rcases List.mem_append.1 hr with q | q
    · simp [h.hv r q hkr]
    · rw [List.mem_singleton] at q; subst q; simp
  · simp [h.unl y (by simp [hy]), Ne.symm (pair_ne (hpl.1 y hy))]
  · by_cases hlt : i < D.length
    · rw [List.getElem?_append_left hlt] at hi
      rw [List.take_append_of_le_length (by omega)]
      exact h.fact i r hi
    · rw [List.getElem?_append_right (by omega)] at hi
      have hi0 : i - D.length = 0 := by
        rcases Nat.eq_zero_or_pos (i - D.length) with h0 | h0
        · exact h0
        · rw [List.getElem?_eq_none (by simp; omega)] at hi; cases hi
      rw [hi0] at hi
      simp at hi
      subst hi
      trivial
  · rw [S.put_hp]
    simp only [Bool.or_eq_false_iff, beq_eq_false_iff_ne] at hLr
    rcases List.mem_append.1 hr with q | q
    · have hbit : Nat.testBit x.bf r.x.ix = false := by
        cases hc : Nat.testBit x.bf r.x.ix with
        | false => rfl
        | true =>
          have := hb _ hc
          rw [hLr.1] at this
          cases this
      have hl := h.live r q hLr.1
      unfold Live at hl ⊢
      split at hl
      · rename_i tm H lr hk
        refine ⟨fun y hy => ?_, fun b hbn => ?_⟩
        · obtain ⟨⟨q1, q2⟩, q3, q4⟩ := hl.1 y hy
          obtain ⟨c1, c2⟩ := h1 _ _ q4 hbit
          exact ⟨⟨q1.trans c1, q2.trans c2⟩, Nat.lt_of_lt_of_le q3 hm.len, q4⟩
        · obtain ⟨q1, q2, q3, q4⟩ := hl.2 b hbn
          have c1 := h2 _ _ q4 hbit
          exact ⟨by rw [← c1]; exact q1, hm.nw _ (List.getElem?_eq_some_iff.1 q1).1 q2, q3, q4⟩
      · trivial
    · rw [List.mem_singleton] at q; subst q; trivial
  · rw [List.pairwise_append]
    refine ⟨h.nid, List.pairwise_singleton _ _, fun r hr r' hr' i j h1 h2 => ?_⟩
    rw [List.mem_singleton] at hr'; subst hr'
    simp [nidOf] at h2
  · rw [S.put_hp]
    rcases List.mem_append.1 hr with q | q
    · exact Nat.lt_of_lt_of_le (h.nlt r q i hi) hm.len
    · rw [List.mem_singleton] at q; subst q
      simp [nidOf] at hi
  · simp only [Bool.or_eq_true, beq_iff_eq] at hj ⊢
    rcases hj with hj | hj
    · exact .inl (h.cls j o' ho' hj e' he' hb')
    · subst hj
      rw [ho] at ho'
      cases ho'
      exact .inl (he e' he' hb')
end
end Go.Proofs.YtafchcmemeinlaaDoor
