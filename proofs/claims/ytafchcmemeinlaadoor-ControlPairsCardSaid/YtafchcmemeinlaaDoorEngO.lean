/-
  The engine, part O: what regions that draw their order need: where an operation's result depends on the heap, and which orders may be drawn.
-/
import Derived.Test.YtafchcmemeinlaaDoorEngV
import Derived.Orders
set_option linter.unusedSimpArgs false
set_option linter.unusedVariables false
namespace Go.Proofs.YtafchcmemeinlaaDoor
open Go.RowKit

/-! ## equality of values -/
mutual
theorem eqAV_ok : ∀ (a b : AV), eqAV a b = true → a = b
  | .undef, b, h => by cases b <;> simp [eqAV] at h; rfl
  | .opq i, b, h => by cases b <;> simp [eqAV] at h; rw [h]
  | .bool x, b, h => by cases b <;> simp [eqAV] at h; rw [h]
  | .int k n, b, h => by cases b <;> simp [eqAV] at h; rw [h.1, h.2]
  | .str s, b, h => by cases b <;> simp [eqAV, eqB_iff] at h; rw [h]
  | .nilp, b, h => by cases b <;> simp [eqAV] at h; rfl
  | .ptr x y z, b, h => by cases b <;> simp [eqAV] at h; rw [h.1.1, h.1.2, h.2]
  | .gptr x y, b, h => by cases b <;> simp [eqAV] at h; rw [h.1, h.2]
  | .nils, b, h => by cases b <;> simp [eqAV] at h; rfl
  | .sl x y z u v, b, h => by cases b <;> simp [eqAV] at h; rw [h.1.1.1.1, h.1.1.1.2, h.1.1.2, h.1.2, h.2]
  | .nilf, b, h => by cases b <;> simp [eqAV] at h; rfl
  | .fn f x y, b, h => by
    cases b <;> simp [eqAV] at h
    rw [h.1.1, eqAVL_ok x _ h.1.2, eqAVL_ok y _ h.2]
  | .yld u, b, h => by cases b <;> simp [eqAV] at h; rw [h]
  | .nili, b, h => by cases b <;> simp [eqAV] at h; rfl
  | .iface t v, b, h => by
    cases b <;> simp [eqAV] at h
    rw [h.1, eqAV_ok v _ h.2]
  | .agg l, b, h => by
    cases b <;> simp [eqAV] at h
    rw [eqAVL_ok l _ h]
  | .tup l, b, h => by
    cases b <;> simp [eqAV] at h
    rw [eqAVL_ok l _ h]
  | .lst t l n z, b, h => by
    cases b <;> simp [eqAV] at h
    rw [h.1.1.1, eqAVL_ok l _ h.1.1.2, h.1.2, h.2]
  | .lptr t l o, b, h => by
    cases b <;> simp [eqAV] at h
    rw [h.1.1, eqAVL_ok l _ h.1.2, h.2]
theorem eqAVL_ok : ∀ (a b : List AV), eqAVL a b = true → a = b
  | [], b, h => by cases b <;> simp [eqAVL] at h; rfl
  | x :: a, b, h => by
    cases b with
    | nil => simp [eqAVL] at h
    | cons y b =>
      simp only [eqAVL, Bool.and_eq_true] at h
      rw [eqAV_ok x y h.1, eqAVL_ok a b h.2]
end

theorem eqBlk_ok {a b : Option Blk} (h : eqBlk a b = true) : a = b := by
  cases a <;> cases b <;> simp [eqBlk] at h
  · rfl
  · rename_i x y
    obtain ⟨k, lf, cs⟩ := x
    obtain ⟨k', lf', cs'⟩ := y
    simp only at h
    rw [h.1.1, h.1.2, eqAVL_ok _ _ h.2]

/-! ## the cells that a quiet operation depends on -/
theorem cur_len {H H' : List Blk} {id : Nat} (h : lenAt H id = lenAt H' id) (tot : Nat) : cur H id tot = cur H' id tot := by
  unfold lenAt at h
  unfold cur
  cases h1 : H[id]? <;> cases h2 : H'[id]? <;> simp only [h1, h2] at h ⊢
  · cases h
  · cases h
  · simp only [Option.some.injEq] at h
    rw [h]

theorem allCur_congr {cu cu' : Nat → Nat → Bool} : ∀ {c : List (Nat × Nat)}, (∀ p ∈ c, ∀ tot, cu p.1 tot = cu' p.1 tot) → allCur cu c = allCur cu' c
  | [], _ => rfl
  | (a, b) :: c, h => by
    simp only [allCur]
    rw [h (a, b) (by simp) b, allCur_congr fun p hp => h p (by simp [hp])]

theorem lop_congr {gl : Nat → Option (List AV)} {ev : AO → AV} {cu cu' : Nat → Nat → Bool} {ca ca' : Nat → Nat → Nat → List AV} {nid : Nat} {op : AOp} {r : LR} (h : lop gl ev cu ca nid op = some r)
    (hrd : ∀ x ∈ r.rd, (∀ tot, cu x.id tot = cu' x.id tot) ∧ ca x.id x.off x.size = ca' x.id x.off x.size) : lop gl ev cu' ca' nid op = some r := by
  cases op <;> try exact h
  case ld agg n a =>
    simp only [lop] at h ⊢
    cases he : ev a <;> simp only [he] at h ⊢ <;> try exact h
    cases agg <;> simp only [cond_true, cond_false, Option.some.injEq] at h ⊢ <;> subst h
    · obtain ⟨h1, h2⟩ := hrd _ (List.mem_singleton.2 rfl)
      simp only at h1 h2
      rw [h1, h2]
    · obtain ⟨h1, h2⟩ := hrd _ (List.mem_singleton.2 rfl)
      simp only at h1 h2
      rw [h1, h2]
  case nilck a =>
    simp only [lop] at h ⊢
    cases he : ev a <;> simp only [he] at h ⊢ <;> first
      | exact h
      | (rename_i f x y; cases f <;> exact h)
      | (cases h; rw [(hrd _ (List.mem_singleton.2 rfl)).1])
  case bin op sh x y =>
    simp only [lop] at h ⊢
    cases hb : binop op sh (ev x) (ev y) with
    | none => rw [hb] at h; cases h
    | some p =>
      obtain ⟨b, c, v⟩ := p
      rw [hb] at h
      simp only [Option.some.injEq] at h ⊢
      subst h
      rw [allCur_congr (cu := cu) (cu' := cu') fun p hp => (hrd _ (List.mem_map.2 ⟨p, hp, rfl⟩)).1]
  case conv k a =>
    simp only [lop] at h ⊢
    cases k <;> cases he : ev a <;> simp only [he] at h ⊢ <;> try exact h
    simp only [Option.some.injEq] at h ⊢
    subst h
    obtain ⟨h1, h2⟩ := hrd _ (List.mem_singleton.2 rfl)
    simp only at h1 h2
    rw [h1, h2]
  case slL n a lo hi =>
    simp only [lop] at h ⊢
    cases he : ev a <;> simp only [he] at h ⊢ <;> try exact h
    generalize pairOf _ _ = q at h ⊢
    cases q with
    | none => exact h
    | some q =>
      obtain ⟨q1, q2, q3⟩ := q
      simp only [Option.some.injEq] at h ⊢
      subst h
      rw [(hrd _ (List.mem_singleton.2 rfl)).1]
  case slA k n a lo hi =>
    simp only [lop] at h ⊢
    cases he : ev a <;> simp only [he] at h ⊢ <;> try exact h
    generalize pairOf _ _ = q at h ⊢
    cases q with
    | none => exact h
    | some q =>
      obtain ⟨q1, q2, q3⟩ := q
      simp only [Option.some.injEq] at h ⊢
      subst h
      rw [(hrd _ (List.mem_singleton.2 rfl)).1]
  case fa n a =>
    simp only [lop] at h ⊢
    cases he : ev a <;> simp only [he] at h ⊢ <;> try exact h
    cases h
    rw [(hrd _ (List.mem_singleton.2 rfl)).1]
  case iaA k n a i =>
    simp only [lop] at h ⊢
    cases he : ev a <;> cases hi : asNat (ev i) <;> simp only [he, hi] at h ⊢ <;> try exact h
    cases h
    rw [(hrd _ (List.mem_singleton.2 rfl)).1]
  case iaL n a i =>
    simp only [lop] at h ⊢
    cases he : ev a <;> cases hi : asNat (ev i) <;> simp only [he, hi] at h ⊢ <;> try exact h
    cases h
    rw [(hrd _ (List.mem_singleton.2 rfl)).1]
  case lenL a =>
    simp only [lop] at h ⊢
    cases he : ev a <;> simp only [he] at h ⊢ <;> try exact h
    cases h
    rw [(hrd _ (List.mem_singleton.2 rfl)).1]
  case s2a n a =>
    simp only [lop] at h ⊢
    cases he : ev a <;> simp only [he] at h ⊢ <;> try exact h
    cases h
    rw [(hrd _ (List.mem_singleton.2 rfl)).1]

theorem lop_rd {gl : Nat → Option (List AV)} {ev : AO → AV} {cu : Nat → Nat → Bool} {ca : Nat → Nat → Nat → List AV} {nid : Nat} {op : AOp} {r : LR} (h : lop gl ev cu ca nid op = some r) (hp : r.pre = true) : ∀ x ∈ r.rd, ∃ tot, cu x.id tot = true := by
  have one : ∀ (y : Rdc) (tot : Nat), r.rd = [y] → cu y.id tot = true → ∀ x ∈ r.rd, ∃ tot, cu x.id tot = true := by
    intro y tot h1 h2 x hx
    rw [h1, List.mem_singleton] at hx
    subst hx
    exact ⟨tot, h2⟩
  have nil : r.rd = [] → ∀ x ∈ r.rd, ∃ tot, cu x.id tot = true := by
    intro h1 x hx
    rw [h1] at hx
    cases hx
  cases op
  case ld agg n a =>
    simp only [lop] at h
    cases he : ev a <;> simp only [he] at h <;> try (cases h; done)
    · cases agg <;> simp only [cond_true, cond_false, Option.some.injEq] at h <;> subst h <;> simp only [Bool.and_eq_true] at hp
      · exact one _ _ rfl hp.1
      · exact one _ _ rfl hp.1
    · split at h
      · cases agg <;> simp only [cond_true, cond_false, Option.some.injEq] at h <;> subst h <;> exact nil rfl
      · cases h
    · cases agg <;> simp only [cond_true, cond_false, Option.some.injEq] at h <;> subst h <;> exact nil rfl
  case nilck a =>
    simp only [lop] at h
    cases he : ev a <;> simp only [he] at h <;> try (cases h; done)
    all_goals first
      | (cases h; exact one _ _ rfl hp)
      | (cases h; exact nil rfl)
      | (rename_i f x y; cases f <;> simp only at h <;> first | (cases h; done) | (cases h; exact nil rfl))
  case bin op sh x y =>
    simp only [lop] at h
    cases hb : binop op sh (ev x) (ev y) with
    | none => rw [hb] at h; cases h
    | some p =>
      obtain ⟨b, c, v⟩ := p
      rw [hb] at h
      simp only [Option.some.injEq] at h
      subst h
      simp only [Bool.and_eq_true] at hp
      intro z hz
      simp only [List.mem_map] at hz
      obtain ⟨q, hq, rfl⟩ := hz
      exact ⟨q.2, allCur_mem hp.2 q hq⟩
  case conv k a =>
    simp only [lop] at h
    cases k <;> cases he : ev a <;> simp only [he] at h <;> first
      | (cases h; done)
      | (simp only [Option.some.injEq] at h; subst h; exact nil rfl)
      | (simp only [Option.some.injEq] at h; subst h; simp only [Bool.and_eq_true] at hp; exact one _ _ rfl hp.1.1.1)
  case slL n a lo hi =>
    simp only [lop] at h
    cases he : ev a <;> simp only [he] at h <;> try (cases h; done)
    all_goals
      generalize pairOf _ _ = q at h
      cases q with
      | none => cases h
      | some q =>
        obtain ⟨q1, q2, q3⟩ := q
        simp only [Option.some.injEq] at h
        subst h
        first
          | exact nil rfl
          | (simp only [Bool.and_eq_true] at hp; exact one _ _ rfl hp.1.2)
  case slA k n a lo hi =>
    simp only [lop] at h
    cases he : ev a <;> simp only [he] at h <;> try (cases h; done)
    generalize pairOf _ _ = q at h
    cases q with
    | none => cases h
    | some q =>
      obtain ⟨q1, q2, q3⟩ := q
      simp only [Option.some.injEq] at h
      subst h
      simp only [Bool.and_eq_true] at hp
      exact one _ _ rfl hp.1.2
  case fa n a =>
    simp only [lop] at h
    cases he : ev a <;> simp only [he] at h <;> try (cases h; done)
    · cases h; exact one _ _ rfl hp
    · cases h; exact nil rfl
    · cases h; exact nil rfl
  case iaA k n a i =>
    simp only [lop] at h
    cases he : ev a <;> cases hi : asNat (ev i) <;> simp only [he, hi] at h <;> try (cases h; done)
    · cases h; simp only [Bool.and_eq_true] at hp; exact one _ _ rfl hp.2
    · cases h; exact nil rfl
    · cases h; exact nil rfl
  case iaL n a i =>
    simp only [lop] at h
    cases he : ev a <;> cases hi : asNat (ev i) <;> simp only [he, hi] at h <;> try (cases h; done)
    · cases h
      simp only [Bool.and_eq_true] at hp
      exact one _ _ rfl hp.1.2
    · cases h; exact nil rfl
  case lenL a =>
    simp only [lop] at h
    cases he : ev a <;> simp only [he] at h <;> try (cases h; done)
    · cases h; exact nil rfl
    · cases h; exact one _ _ rfl hp
    · cases h; exact nil rfl
  case s2a n a =>
    simp only [lop] at h
    cases he : ev a <;> simp only [he] at h <;> try (cases h; done)
    cases h
    simp only [Bool.and_eq_true] at hp
    exact one _ _ rfl hp.1.1
  all_goals
    simp only [lop] at h
    repeat' (first | (cases h; done) | split at h)
    all_goals first
      | (simp only [Option.some.injEq] at h; subst h; exact nil rfl)

/-! ## the marks of what must come before -/
theorem testBit_two_pow' (a b : Nat) : (2 ^ a).testBit b = decide (a = b) := by
  rw [Nat.testBit_two_pow]

def edgeMask (acc : List Nat) (m : Nat) (l : List Edge) : Nat := l.foldl (fun m e => if Region.binds .any e then m ||| 2 ^ e.on ||| acc.getD e.on 0 else m) m

theorem edgeMask_bit (acc : List Nat) (j : Nat) : ∀ (l : List Edge) (m : Nat), (edgeMask acc m l).testBit j = true → m.testBit j = true ∨ ∃ e ∈ l, Region.binds .any e = true ∧ (e.on = j ∨ (acc.getD e.on 0).testBit j = true)
  | [], m, h => .inl h
  | e :: l, m, h => by
    simp only [edgeMask, List.foldl_cons] at h
    rcases edgeMask_bit acc j l _ h with h1 | ⟨e', h1, h2⟩
    · by_cases hb : Region.binds .any e = true
      · rw [if_pos hb] at h1
        simp only [Nat.testBit_or, Bool.or_eq_true, testBit_two_pow', decide_eq_true_eq] at h1
        rcases h1 with (h1 | h1) | h1
        · exact .inl h1
        · exact .inr ⟨e, by simp, hb, .inl h1⟩
        · exact .inr ⟨e, by simp, hb, .inr h1⟩
      · rw [if_neg hb] at h1
        exact .inl h1
    · exact .inr ⟨e', by simp [h1], h2⟩

theorem edgeMask_keep (acc : List Nat) (j : Nat) : ∀ (l : List Edge) (m : Nat), m.testBit j = true → (edgeMask acc m l).testBit j = true
  | [], m, h => h
  | e :: l, m, h => by
    simp only [edgeMask, List.foldl_cons]
    refine edgeMask_keep acc j l _ ?_
    split
    · simp [Nat.testBit_or, h]
    · exact h

theorem edgeMask_has (acc : List Nat) : ∀ (l : List Edge) (m : Nat) (e : Edge), e ∈ l → Region.binds .any e = true → (edgeMask acc m l).testBit e.on = true
  | e' :: l, m, e, h, hb => by
    simp only [edgeMask, List.foldl_cons]
    rcases List.mem_cons.1 h with rfl | h
    · refine edgeMask_keep acc _ l _ ?_
      rw [if_pos hb]
      simp [Nat.testBit_or, testBit_two_pow']
    · exact edgeMask_has acc l _ e h hb

theorem befores_pre : ∀ (os : List Oper) (acc : List Nat), ∃ t, befores os acc = acc ++ t ∧ t.length = os.length
  | [], acc => ⟨[], by simp [befores], rfl⟩
  | o :: os, acc => by
    obtain ⟨t, h1, h2⟩ := befores_pre os (acc ++ [edgeMask acc 0 o.after.toList])
    exact ⟨edgeMask acc 0 o.after.toList :: t, by
      have : befores (o :: os) acc = befores os (acc ++ [edgeMask acc 0 o.after.toList]) := rfl
      rw [this, h1]; simp, by simp [h2]⟩

theorem befores_get (os : List Oper) : ∀ (acc : List Nat) (i : Nat) (o : Oper), os[i]? = some o → (befores os acc)[acc.length + i]? = some (edgeMask ((befores os acc).take (acc.length + i)) 0 o.after.toList) := by
  induction os with
  | nil => intro acc i o h; simp at h
  | cons o' os ih =>
    intro acc i o h
    have e : befores (o' :: os) acc = befores os (acc ++ [edgeMask acc 0 o'.after.toList]) := rfl
    cases i with
    | zero =>
      simp at h
      subst h
      obtain ⟨t, h1, h2⟩ := befores_pre os (acc ++ [edgeMask acc 0 o'.after.toList])
      have h3 : (acc ++ [edgeMask acc 0 o'.after.toList] ++ t).take acc.length = acc := by simp
      rw [e, h1, Nat.add_zero, h3]
      simp
    | succ i =>
      have ih' := ih (acc ++ [edgeMask acc 0 o'.after.toList]) i o (by simpa using h)
      rw [e]
      have e2 : (acc ++ [edgeMask acc 0 o'.after.toList]).length + i = acc.length + (i + 1) := by simp; omega
      rw [e2] at ih'
      exact ih'

/-- what was listed is closed under what must come before -/
def Closed (ops : Array Oper) (S : Nat → Bool) : Prop := ∀ i o, ops[i]? = some o → S i = true → ∀ e ∈ o.after, Region.binds .any e = true → S e.on = true

theorem closed_bits {ops : Array Oper} {S : Nat → Bool} (hS : Closed ops S) : ∀ (n i : Nat) (o : Oper), i < n → ops[i]? = some o → (∀ e ∈ o.after, Region.binds .any e = true → S e.on = true) → ∀ j b, (befores ops.toList [])[i]? = some b → b.testBit j = true → S j = true
  | 0, i, o, hn, _, _, _, _, _, _ => by omega
  | n + 1, i, o, hn, ho, he, j, b, hb, hj => by
    have hg := befores_get ops.toList [] i o (by simpa using ho)
    simp only [List.length_nil, Nat.zero_add] at hg
    rw [hg] at hb
    cases hb
    rcases edgeMask_bit _ j _ _ hj with h | ⟨e, h1, h2, h3⟩
    · simp at h
    · have hSe := he e (by simpa using h1) h2
      rcases h3 with rfl | h3
      · exact hSe
      · by_cases hlt : e.on < i
        · obtain ⟨t, t1, t2⟩ := befores_pre ops.toList []
          have hi : i < ops.size := (Array.getElem?_eq_some_iff.1 ho).1
          have hlen : (befores ops.toList []).length = ops.size := by rw [t1]; simp [t2]
          obtain ⟨b', hb'⟩ : ∃ b', (befores ops.toList [])[e.on]? = some b' := ⟨_, List.getElem?_eq_getElem (by omega)⟩
          have hget : ((befores ops.toList []).take i).getD e.on 0 = b' := by
            simp [List.getD_eq_getElem?_getD, List.getElem?_take, hlt, hb']
          rw [hget] at h3
          obtain ⟨o', ho'⟩ : ∃ o', ops[e.on]? = some o' := ⟨_, Array.getElem?_eq_getElem (by omega)⟩
          exact closed_bits hS n e.on o' (by omega) ho' (fun e' he' hb2 => hS e.on o' ho' hSe e' he' hb2) j b' hb' h3
        · have : ((befores ops.toList []).take i).getD e.on 0 = 0 := by
            simp [List.getD_eq_getElem?_getD, List.getElem?_take, hlt]
          rw [this] at h3
          simp at h3
end Go.Proofs.YtafchcmemeinlaaDoor
