/-
  The engine, part R: regions that draw their order.
-/
import Derived.Test.YtafchcmemeinlaaDoorEngQ
set_option linter.unusedSimpArgs false
set_option linter.unusedVariables false
namespace Go.Proofs.YtafchcmemeinlaaDoor
open Go.RowKit

section
variable {P : Program} {E : Env} {nt B : Nat} {ops : Array Oper} {l0 : List AOper} {t0 : Nat → AV} {X : List Ls} {g : Gh} {m0 : M} {H0 : List Blk} {w0 : World} {L : Nat → Bool} {D : List Rcd} {l : List AOper} {s : S} {fl : List Fl} {m : M} {a : Act} {w : World} {rec : Rec} {Q : Ex → S → Gh → Prop}

theorem Canon.bound (C : Canon P nt ops l0) {x : AOper} (hx : x ∈ l0) (hb : ∀ why, x.op ≠ .bad why) : ∃ o, ops[x.ix]? = some o ∧ o.dst = x.dst ∧ (∀ d, o.dst = some d → d < nt) ∧ x.op = cOp P o.op ∧
    ((o.guard = none ∧ x.guard = none) ∨ ∃ j b g, o.guard = some (j, b) ∧ (ops[j]?).bind (·.dst) = some g ∧ g < nt ∧ x.guard = some (g, b)) := by
  obtain ⟨o, h1, h2, h3, h4, h5⟩ := C.mem x hx
  rcases cOper_cases P nt ops o with ⟨why, hbad⟩ | ⟨hd, c1, c2, c3⟩
  · rw [hbad] at h3; exact absurd h3 (hb why)
  · exact ⟨o, h1, by rw [h2, c1], hd, by rw [h3, c2], by rw [h4]; exact c3⟩

theorem Canon.bad (C : Canon P nt ops l0) {x : AOper} (hx : x ∈ l0) {why : String} (hb : x.op = .bad why) (hd : ¬ ∃ o, ops[x.ix]? = some o ∧ o.dst = x.dst ∧ (∀ d, o.dst = some d → d < nt) ∧ x.op = cOp P o.op ∧
    ((o.guard = none ∧ x.guard = none) ∨ ∃ j b g, o.guard = some (j, b) ∧ (ops[j]?).bind (·.dst) = some g ∧ g < nt ∧ x.guard = some (g, b))) : x.guard = none := by
  obtain ⟨o, h1, h2, h3, h4, h5⟩ := C.mem x hx
  rcases cOper_cases P nt ops o with ⟨why, hbad⟩ | ⟨hd', c1, c2, c3⟩
  · rw [hbad] at h4; exact h4
  · exact absurd ⟨o, h1, by rw [h2, c1], hd', by rw [h3, c2], by rw [h4]; exact c3⟩ hd

def Bound (P : Program) (nt : Nat) (ops : Array Oper) (x : AOper) : Prop := ∃ o, ops[x.ix]? = some o ∧ o.dst = x.dst ∧ (∀ d, o.dst = some d → d < nt) ∧ x.op = cOp P o.op ∧
    ((o.guard = none ∧ x.guard = none) ∨ ∃ j b g, o.guard = some (j, b) ∧ (ops[j]?).bind (·.dst) = some g ∧ g < nt ∧ x.guard = some (g, b))

/-- what is bad is without a guard, and stops the run -/
theorem Canon.cases (C : Canon P nt ops l0) {x : AOper} (hx : x ∈ l0) : Bound P nt ops x ∨ (x.guard = none ∧ ∃ why, x.op = .bad why) := by
  obtain ⟨o, h1, h2, h3, h4, h5⟩ := C.mem x hx
  rcases cOper_cases P nt ops o with ⟨why, hbad⟩ | ⟨hd', c1, c2, c3⟩
  · rw [hbad] at h4 h3; exact .inr ⟨h4, why, h3⟩
  · exact .inl ⟨o, h1, by rw [h2, c1], hd', by rw [h3, c2], by rw [h4]; exact c3⟩

def Stop (E : Env) (rec : Rec) (Q : Ex → S → Gh → Prop) (l : List AOper) (s : S) (k : Gh) (fl : List Fl) : Prop :=
  (l = [] ∧ Q .nrm s k) ∨ ∃ x l', l = x :: l' ∧ gd s x.guard = some true ∧ heavy x.op = true ∧ dOps E rec (x :: l') s k fl Q

/-- the abstract run goes on as far as it can -/
theorem Inv.advance (C : Canon P nt ops l0) (hnt : nt ≤ 4000) : ∀ (l : List AOper) (D : List Rcd) (s : S) (k : Gh) (fl : List Fl), Inv P E nt B ops l0 t0 X m0 H0 w0 L D l s k fl m a w → dOps E rec l s k fl Q →
    ∃ D' l' s' k' fl', Inv P E nt B ops l0 t0 X m0 H0 w0 L D' l' s' k' fl' m a w ∧ Stop E rec Q l' s' k' fl'
  | [], D, s, k, fl, h, hd => ⟨D, [], s, k, fl, h, .inl ⟨rfl, hd⟩⟩
  | x :: l, D, s, k, fl, h, hd => by
    have hxl : x ∈ l0 := by rw [← h.ord]; simp
    by_cases hhv : gd s x.guard = some true ∧ heavy x.op = true
    · exact ⟨D, x :: l, s, k, fl, h, .inr ⟨x, l, rfl, hhv.1, hhv.2, hd⟩⟩
    rw [dOps] at hd
    cases hg : gd s x.guard with
    | none => rw [hg] at hd; exact hd.elim
    | some t =>
      rw [hg] at hd
      have hB : Bound P nt ops x := by
        rcases C.cases hxl with hB | ⟨hgn, why, hbad⟩
        · exact hB
        · rw [hgn] at hg
          simp only [gd, Option.some.injEq] at hg
          subst hg
          exact absurd ⟨by rw [hgn]; rfl, by rw [hbad]; rfl⟩ hhv
      obtain ⟨o, o1, o2, o3, o4, o5⟩ := hB
      have hdn : ∀ k, x.dst = some k → k < nt := fun k hk => o3 k (by rw [o2]; exact hk)
      cases t with
      | false =>
        simp only at hd
        have hf : Fact E t0 D ⟨x, .tup [], .skip s.tm⟩ := ⟨h.tms, by rw [← gd_tm]; exact hg, rfl⟩
        have h' := h.quietly hnt hdn (v := .tup []) (kd := .skip s.tm) (by simp) hf [] fl (fun f hf => hf) trivial (fun i hi => by simp [nidOf] at hi)
        rw [List.append_nil] at h'
        exact Inv.advance C hnt l _ _ _ _ h' hd
      | true =>
        have hnh : heavy x.op = false := by
          cases hc : heavy x.op with
          | false => rfl
          | true => exact absurd ⟨hg, hc⟩ hhv
        simp only at hd
        split at hd
        · rename_i f args hop
          rw [hop] at hnh
          simp [heavy] at hnh
        · split at hd
          · rename_i r hl
            obtain ⟨hp, hd⟩ := ck_ok hd
            have hd := hint_ok hd
            have hf : Fact E t0 D ⟨x, r.v, .quiet s.tm s.hp r⟩ := ⟨h.tms, by rw [← gd_tm]; exact hg, hl, hp, rfl⟩
            have h' := h.quietly hnt hdn (v := r.v) (kd := .quiet s.tm s.hp r) (by simp) hf r.nb.toList (flNew x s.hp r ++ fl) (fun f hf => List.mem_append_right _ hf) ?_ ?_
            · exact Inv.advance C hnt l _ _ _ _ h' hd
            · refine ⟨fun y hy => ?_, fun b hb => ?_⟩
              · obtain ⟨tot, hc⟩ := lop_rd hl hp y hy
                have hlt : y.id < s.hp.length := by
                  unfold cur at hc
                  split at hc
                  · rename_i b hb; exact (List.getElem?_eq_some_iff.1 hb).1
                  · cases hc
                have e1 : (s.hp ++ r.nb.toList)[y.id]? = s.hp[y.id]? := List.getElem?_append_left hlt
                refine ⟨⟨by simp only [cellsAt, e1], by simp only [lenAt, e1]⟩, by simp; omega, ?_⟩
                refine List.mem_append_left _ ?_
                unfold flNew
                exact List.mem_append_left _ (List.mem_map.2 ⟨y, hy, rfl⟩)
              · refine ⟨by simp [hb], ?_, h.mv.len, ?_⟩
                · cases hc : m.blk s.hp.length with
                  | none => rfl
                  | some J => have := h.hr.dom _ _ hc; omega
                · refine List.mem_append_left _ ?_
                  unfold flNew
                  rw [hb]
                  exact List.mem_append_right _ (by simp)
            · intro i hi
              simp only [nidOf] at hi
              cases hb : r.nb with
              | none => rw [hb] at hi; simp at hi
              | some b => rw [hb] at hi; simp at hi; simp [hi]
          · exact absurd (hop_heavy hd) (by rw [hnh]; simp)

/-- all have run -/
theorem Inv.all (C : Canon P nt ops l0) (h : Inv P E nt B ops l0 t0 X m0 H0 w0 L D l s g fl m a w) {listed : Array Bool} (hsz : listed.size = ops.size) (hL : ∀ j, L j = listed.getD j false) (hr : Region.ready .any ops listed = []) : ∀ x ∈ l0, L x.ix = true := by
  have hno : ∀ i o, ops[i]? = some o → L i = false → (∀ e ∈ o.after, Region.binds .any e = true → L e.on = true) → False := by
    intro i o ho hLi he
    have hlt : i < ops.size := (Array.getElem?_eq_some_iff.1 ho).1
    have : i ∈ Region.ready .any ops listed := by
      rw [mem_ready]
      refine ⟨?_, o, ho, fun e h1 h2 => by rw [← hL]; exact he e h1 h2⟩
      have := hL i
      rw [hLi] at this
      have hlt' : i < listed.size := by omega
      simp [hlt'] at this ⊢
      exact this
    rw [hr] at this
    cases this
  have key : ∀ (p q : List AOper), p ++ q = l0 → (∀ x ∈ p, L x.ix = true) → ∀ x ∈ q, L x.ix = true := by
    intro p q
    induction q generalizing p with
    | nil => intro _ _ x hx; cases hx
    | cons y q ih =>
      intro hpq hp x hx
      have hy : y ∈ l0 := by rw [← hpq]; simp
      have hLy : L y.ix = true := by
        cases hc : L y.ix with
        | true => rfl
        | false =>
          obtain ⟨o, h1, _, _, _, h2⟩ := C.mem y hy
          exfalso
          refine hno y.ix o h1 hc fun e he hb => ?_
          have hg := befores_get ops.toList [] y.ix o (by simpa using h1)
          simp only [List.length_nil, Nat.zero_add] at hg
          rw [h2] at hg
          simp only [Option.some.injEq] at hg
          have hbit : y.bf.testBit e.on = true := by
            rw [hg]
            exact edgeMask_has _ _ _ e (by simpa using he) hb
          have hlt : e.on < ops.size := by
            rcases Nat.lt_or_ge e.on ops.size with h3 | h3
            · exact h3
            · have := Nat.testBit_lt_two_pow (Nat.lt_of_lt_of_le (C.self y hy).2 (Nat.pow_le_pow_right (by omega) h3))
              rw [this] at hbit
              cases hbit
          obtain ⟨z, z1, z2⟩ := C.cov e.on hlt
          rw [← z2] at hbit ⊢
          have hpw := C.pairs
          rw [← hpq, List.pairwise_append, List.pairwise_cons] at hpw
          rw [← hpq] at z1
          rcases List.mem_append.1 z1 with h4 | h4
          · exact hp z h4
          · rcases List.mem_cons.1 h4 with h4 | h4
            · rw [h4, (C.self y hy).1] at hbit; cases hbit
            · rw [pair_not (hpw.2.1.1 z h4)] at hbit; cases hbit
      rcases List.mem_cons.1 hx with h5 | h5
      · rw [h5]; exact hLy
      · exact ih (p ++ [y]) (by rw [← hpq]; simp) (fun z hz => by
          rcases List.mem_append.1 hz with h6 | h6
          · exact hp z h6
          · rw [List.mem_singleton] at h6; rw [h6]; exact hLy) x h5
  exact fun x hx => key [] l0 rfl (fun x hx => by cases hx) x hx

theorem Inv.fin (h : Inv P E nt B ops l0 t0 X m0 H0 w0 L D l s g fl m a w) (hs : Stop E rec Q l s g fl) (hall : ∀ x ∈ l0, L x.ix = true) : Post P E.gl nt B X m0 H0 w0 Q .normal a w := by
  rcases hs with ⟨hl, hQ⟩ | ⟨x, l', hl, _⟩
  · subst hl
    refine ⟨.nrm, s, g, m, hQ, trivial, ⟨fun t => ?_, h.sz, h.df, h.hr⟩, h.lps, h.mv⟩
    have := h.con t
    rw [tv_congr (S' := all1) t D _ fun r hr _ => hall r.x (by rw [← h.ord]; exact List.mem_append_left _ (List.mem_map.2 ⟨r, hr, rfl⟩)), ← h.tms t] at this
    exact this
  · subst hl
    have h1 := h.unl x (by simp)
    have h2 := hall x (by rw [← h.ord]; simp)
    rw [h1] at h2
    cases h2
end
end Go.Proofs.YtafchcmemeinlaaDoor
