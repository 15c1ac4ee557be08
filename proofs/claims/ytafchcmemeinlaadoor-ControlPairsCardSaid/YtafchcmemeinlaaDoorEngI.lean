/-
  The engine, part I: binary operations; then every operation that writes nothing.
-/
import Derived.Test.YtafchcmemeinlaaDoorEngH
import Derived.Laws.StructEq
set_option linter.unusedSimpArgs false
set_option linter.unusedVariables false
namespace Go.Proofs.YtafchcmemeinlaaDoor
open Go.RowKit

theorem eqB_iff : ∀ {a b : List UInt8}, eqB a b = (a == b)
  | [], [] => rfl
  | [], _ :: _ => rfl
  | _ :: _, [] => rfl
  | x :: a, y :: b => by
    simp only [eqB, eqB_iff (a := a) (b := b), List.cons_beq_cons]
    congr 1
    rw [Bool.eq_iff_iff, nbeq, beq_iff_eq]
    exact ⟨fun h => UInt8.toNat_inj.1 h, fun h => by rw [h]⟩

theorem ltB_eq : ∀ {a b : List UInt8}, ltB a b = Op.bytesLess a b
  | _, [] => by simp [ltB, Op.bytesLess]
  | [], _ :: _ => rfl
  | x :: a, y :: b => by
    simp only [ltB, Op.bytesLess, ltB_eq (a := a) (b := b)]
    congr 1
    congr 1
    rw [Bool.eq_iff_iff, beq_iff_eq, beq_iff_eq]
    exact ⟨fun h => UInt8.toNat_inj.1 h, fun h => by rw [h]⟩

section
variable {P : Program} {gl : Nat → Option (List AV)} {m : M} {H : List Blk} {w : World} {ρ : Operand → Value} {ev : AO → AV}

theorem bits_ok (op : BinOp) (k : IntKind) (a b : Int) (v : AV) (h : intBits op k a b = some v) (w : World) : ∃ v', (Op.intBits op k a b).run P w = .ok v' w ∧ VR m v v' := by
  have e : ∀ x : Int, (BitVec.ofInt k.bits x).toNat = (x % (2 ^ k.bits : Int)).toNat := by
    intro x
    rw [BitVec.toNat_ofInt]
    cases k <;> rfl
  cases op <;> simp only [intBits] at h <;> try cases h
  · exact ⟨.int k (k.wrap ((((a % (2 ^ k.bits : Int)).toNat &&& (b % (2 ^ k.bits : Int)).toNat : Nat)) : Int)), by simp [Op.intBits, e], by simp [VR]⟩
  · exact ⟨.int k (k.wrap ((((a % (2 ^ k.bits : Int)).toNat ||| (b % (2 ^ k.bits : Int)).toNat : Nat)) : Int)), by simp [Op.intBits, e], by simp [VR]⟩
  · exact ⟨.int k (k.wrap ((((a % (2 ^ k.bits : Int)).toNat ^^^ (b % (2 ^ k.bits : Int)).toNat : Nat)) : Int)), by simp [Op.intBits, e], by simp [VR]⟩
  · exact ⟨.int k (k.wrap ((((a % (2 ^ k.bits : Int)).toNat &&& (2 ^ k.bits - 1 - (b % (2 ^ k.bits : Int)).toNat) : Nat)) : Int)), by simp [Op.intBits, e, BitVec.toNat_not], by simp [VR]⟩

theorem allCur_mem {cu : Nat → Nat → Bool} : ∀ {l : List (Nat × Nat)}, allCur cu l = true → ∀ p ∈ l, cu p.1 p.2 = true
  | [], _, p, hp => by simp at hp
  | (a, b) :: l, h, p, hp => by
    simp only [allCur, Bool.and_eq_true] at h
    rcases List.mem_cons.1 hp with rfl | hp
    · exact h.1
    · exact allCur_mem h.2 p hp

theorem allCur1 {cu : Nat → Nat → Bool} {a b : Nat} (h : allCur cu [(a, b)] = true) : cu a b = true := by
  simp only [allCur, Bool.and_eq_true] at h
  exact h.1

/-- what a shape says of a type -/
def ShOk (P : Program) (t : TypeId) : Sh → Prop
  | .bl => P.underlying t = some .bool
  | .it => ∃ k, P.underlying t = some (.int k)
  | .st => P.underlying t = some .string
  | .ptr => ∃ e, P.underlying t = some (.pointer e)
  | .slc => ∃ e, P.underlying t = some (.slice e)
  | .fnc => ∃ a b c, P.underlying t = some (.func a b c)
  | .ifc => ∃ ms, P.underlying t = some (.interface ms)
  | _ => True

theorem shT_ok (P : Program) (d : Nat) (t : TypeId) : ShOk P t (shT P d t) := by
  cases d with
  | zero => simp [shT, ShOk]
  | succ d =>
    simp only [shT]
    split <;> rename_i h <;> try (have h' := und_some h (by simp))
    all_goals try (simp only [ShOk]; first | exact h' | exact ⟨_, h'⟩ | exact ⟨_, _, _, h'⟩)
    · split <;> simp [ShOk]
    · split <;> simp [ShOk]
    · simp [ShOk]

theorem eqV_ok (hH : HR gl m H w) {sh : Sh} {t : TypeId} (hs : ShOk P t sh) (hna : ∀ fs, sh ≠ .agg fs) {x y : AV} {x' y' : Value} (hx : VR m x x') (hy : VR m y y') {c : List (Nat × Nat)} {r : Bool} (h : eqV sh x y = some (c, r))
    (hc : allCur (cur H) c = true) (d : Nat) : (Op.equalIn (d + 1) t x' y').run P w = .ok r w := by
  unfold eqV at h
  split at h
  · simp only [ShOk] at hs
    simp only [VR] at hx hy
    simp only [Option.some.injEq, Prod.mk.injEq] at h
    obtain ⟨_, rfl⟩ := h
    subst hx; subst hy
    simp [Op.equalIn, run_underlying hs]
  · simp only [ShOk] at hs
    obtain ⟨k, hs⟩ := hs
    simp only [VR] at hx hy
    split at h
    · rename_i hk
      simp only [Option.some.injEq, Prod.mk.injEq] at h
      obtain ⟨_, rfl⟩ := h
      subst hk; subst hx; subst hy
      simp [Op.equalIn, run_underlying hs]
    · cases h
  · simp only [ShOk] at hs
    simp only [VR] at hx hy
    simp only [Option.some.injEq, Prod.mk.injEq] at h
    obtain ⟨_, rfl⟩ := h
    subst hx; subst hy
    rw [run_equalIn_string w d t _ _ hs, eqB_iff]
    simp
  · obtain ⟨e, hs⟩ := hs
    simp only [VR] at hx hy
    simp only [Option.some.injEq, Prod.mk.injEq] at h
    obtain ⟨_, rfl⟩ := h
    subst hx; subst hy
    simp [Op.equalIn, run_underlying hs]
  · obtain ⟨e, hs⟩ := hs
    simp only [Option.some.injEq, Prod.mk.injEq] at h
    obtain ⟨rfl, rfl⟩ := h
    obtain ⟨I, hI, _, hv⟩ := hH.ptr hy (allCur1 hc)
    simp only [VR] at hx
    subst hx; subst hv
    simp [Op.equalIn, run_underlying hs]
  · obtain ⟨e, hs⟩ := hs
    simp only [Option.some.injEq, Prod.mk.injEq] at h
    obtain ⟨rfl, rfl⟩ := h
    obtain ⟨I, hI, _, hv⟩ := hH.ptr hx (allCur1 hc)
    simp only [VR] at hy
    subst hy; subst hv
    simp [Op.equalIn, run_underlying hs]
  · obtain ⟨e, hs⟩ := hs
    simp only [VR] at hx hy
    simp only [Option.some.injEq, Prod.mk.injEq] at h
    obtain ⟨_, rfl⟩ := h
    subst hx; subst hy
    simp [Op.equalIn, run_underlying hs]
  · obtain ⟨e, hs⟩ := hs
    simp only [Option.some.injEq, Prod.mk.injEq] at h
    obtain ⟨rfl, rfl⟩ := h
    obtain ⟨I, o, cap, hI, _, hv, _⟩ := hH.sl hy (allCur1 hc)
    simp only [VR] at hx
    subst hx; subst hv
    simp [Op.equalIn, run_underlying hs]
  · obtain ⟨e, hs⟩ := hs
    simp only [Option.some.injEq, Prod.mk.injEq] at h
    obtain ⟨rfl, rfl⟩ := h
    obtain ⟨I, o, cap, hI, _, hv, _⟩ := hH.sl hx (allCur1 hc)
    simp only [VR] at hy
    subst hy; subst hv
    simp [Op.equalIn, run_underlying hs]
  all_goals try (
    first
      | obtain ⟨_, _, _, hs⟩ := hs
      | obtain ⟨_, hs⟩ := hs
    simp only [VR] at hx hy
    simp only [Option.some.injEq, Prod.mk.injEq] at h
    obtain ⟨_, rfl⟩ := h
    first
      | (subst hx; subst hy; simp [Op.equalIn, run_underlying hs]; done)
      | (subst hx; obtain ⟨_, _, rfl, _⟩ := hy; simp [Op.equalIn, run_underlying hs]; done)
      | (subst hy; obtain ⟨_, _, rfl, _⟩ := hx; simp [Op.equalIn, run_underlying hs]; done)
      | (subst hx; obtain ⟨_, rfl, _⟩ := hy; simp [Op.equalIn, run_underlying hs]; done)
      | (subst hy; obtain ⟨_, rfl, _⟩ := hx; simp [Op.equalIn, run_underlying hs]; done))
  · exact absurd rfl (hna _)
  cases h

theorem allCur_app {cu : Nat → Nat → Bool} : ∀ {a b : List (Nat × Nat)}, allCur cu (a ++ b) = true → allCur cu a = true ∧ allCur cu b = true
  | [], b, h => ⟨rfl, h⟩
  | (p1, p2) :: a, b, h => by
    simp only [List.cons_append, allCur, Bool.and_eq_true] at h ⊢
    have := allCur_app h.2
    exact ⟨⟨h.1, this.1⟩, this.2⟩

/-- values of a type are compared as its shape says -/
def EqOk (P : Program) (m : M) (H : List Blk) (w : World) (d : Nat) (t : TypeId) : Prop :=
  ∀ (x y : AV) (x' y' : Value) (c : List (Nat × Nat)) (r : Bool) (D : Nat), d ≤ D → VR m x x' → VR m y y' → eqV (shT P d t) x y = some (c, r) → allCur (cur H) c = true → (Op.equalIn (D + 1) t x' y').run P w = .ok r w

theorem eqF_ok {d D : Nat} (hD : d ≤ D) {xs ys : Array Value} {x y : List AV} (hx : VRL m x xs.toList) (hy : VRL m y ys.toList) : ∀ (fs : List Field) (_ : ∀ f ∈ fs, EqOk P m H w d f.type) (b : Bool) (c : List (Nat × Nat)) (r : Bool),
    (∀ f ∈ fs, knownT P f.type = true) → eqF (Fs.of ((fs.filter fun f => f.name != "_").map fun f => (ptT P f.type f.offset, shT P d f.type))) x y = some (b, c, r) → b = true → allCur (cur H) c = true →
    (Op.eqFields (D + 1) xs ys fs).run P w = .ok r w
  | [], _, b, c, r, _, h, _, _ => by
    simp only [List.filter_nil, List.map_nil, Fs.of, eqF, Option.some.injEq, Prod.mk.injEq] at h
    obtain ⟨_, _, rfl⟩ := h
    simp [Op.eqFields]
  | f :: fs, he, b, c, r, hk, h, hb, hc => by
    by_cases hn : f.name = "_"
    · have e : (List.filter (fun f : Field => f.name != "_") (f :: fs)) = List.filter (fun f : Field => f.name != "_") fs := by simp [hn]
      rw [e] at h
      have := eqF_ok hD hx hy fs (fun g hg => he g (by simp [hg])) b c r (fun g hg => hk g (by simp [hg])) h hb hc
      simp only [Op.eqFields, hn, ne_eq, not_true_eq_false, if_false]
      exact this
    · have e : (List.filter (fun f : Field => f.name != "_") (f :: fs)) = f :: List.filter (fun f : Field => f.name != "_") fs := by simp [hn]
      rw [e] at h
      simp only [List.map_cons, Fs.of, eqF] at h
      split at h
      · rename_i c1 r1 b2 c2 r2 h1 h2
        simp only [Option.some.injEq, Prod.mk.injEq] at h
        obtain ⟨rfl, rfl, rfl⟩ := h
        simp only [Bool.and_eq_true, Bool.or_eq_true, blt_iff] at hb
        obtain ⟨hb1, hb2⟩ := hb
        obtain ⟨hc1, hc2⟩ := allCur_app hc
        obtain ⟨vx, q1, q2⟩ := part_ok (P := P) (w := w) (off := f.offset) (hk f (by simp)) hx (hb2.imp id (fun h => h.1))
        obtain ⟨vy, q3, q4⟩ := part_ok (P := P) (w := w) (off := f.offset) (hk f (by simp)) hy (hb2.imp id (fun h => h.2))
        have q5 := he f (by simp) _ _ _ _ _ _ D hD q2 q4 h1 hc1
        have ih := eqF_ok hD hx hy fs (fun g hg => he g (by simp [hg])) b2 c2 r2 (fun g hg => hk g (by simp [hg])) h2 hb1 hc2
        simp only [Op.eqFields, ne_eq, hn, not_false_eq_true, if_true, Sem.run_bind, q1, Result.andThen_ok, q3, q5]
        cases r1
        · simp
        · simpa using ih
      · cases h

theorem eqI_ok {d D : Nat} (hD : d ≤ D) {e : TypeId} (hk : knownT P e = true) (he : EqOk P m H w d e) {xs ys : Array Value} {x y : List AV} (hx : VRL m x xs.toList) (hy : VRL m y ys.toList) : ∀ (is : List Nat) (b : Bool) (c : List (Nat × Nat)) (r : Bool),
    eqF (Fs.of (is.map fun i => (ptT P e (i * szT P e), shT P d e))) x y = some (b, c, r) → b = true → allCur (cur H) c = true →
    (Op.eqItems (D + 1) e (P.cellsOf e) xs ys is).run P w = .ok r w
  | [], b, c, r, h, _, _ => by
    simp only [List.map_nil, Fs.of, eqF, Option.some.injEq, Prod.mk.injEq] at h
    obtain ⟨_, _, rfl⟩ := h
    simp [Op.eqItems]
  | i :: is, b, c, r, h, hb, hc => by
    simp only [List.map_cons, Fs.of, eqF] at h
    split at h
    · rename_i c1 r1 b2 c2 r2 h1 h2
      simp only [Option.some.injEq, Prod.mk.injEq] at h
      obtain ⟨rfl, rfl, rfl⟩ := h
      simp only [Bool.and_eq_true, Bool.or_eq_true, blt_iff] at hb
      obtain ⟨hb1, hb2⟩ := hb
      obtain ⟨hc1, hc2⟩ := allCur_app hc
      obtain ⟨vx, q1, q2⟩ := part_ok (P := P) (w := w) (off := i * szT P e) hk hx (hb2.imp id (fun h => h.1))
      obtain ⟨vy, q3, q4⟩ := part_ok (P := P) (w := w) (off := i * szT P e) hk hy (hb2.imp id (fun h => h.2))
      have q5 := he _ _ _ _ _ _ D hD q2 q4 h1 hc1
      have ih := eqI_ok hD hk he hx hy is b2 c2 r2 h2 hb1 hc2
      have e1 : P.cellsOf e = szT P e := rfl
      rw [e1] at ih ⊢
      simp only [Op.eqItems, Sem.run_bind, q1, Result.andThen_ok, q3, q5]
      cases r1
      · simp
      · simpa using ih
    · cases h

/-- the shape of a type of several cells -/
theorem eqAgg_ok {d : Nat} (ih : ∀ t, EqOk P m H w d t) {t : TypeId} {fs : Fs} (h : shT P (d + 1) t = .agg fs) {xs ys : Array Value} {x y : List AV} (hx : VRL m x xs.toList) (hy : VRL m y ys.toList) {c : List (Nat × Nat)} {r : Bool}
    (he : eqF fs x y = some (true, c, r)) (hc : allCur (cur H) c = true) : P.eqGuardType P.depth t = false ∧ ∀ D, d ≤ D → (Op.equalIn (D + 2) t (.agg xs) (.agg ys)).run P w = .ok r w := by
  simp only [shT] at h
  split at h <;> try cases h
  · rename_i fl hu
    have hu' := und_some hu (by simp)
    split at h
    · cases h
    · rename_i hn
      cases h
      simp only [Bool.or_eq_true, Bool.not_eq_true', not_or, Bool.not_eq_true, Bool.not_eq_false] at hn
      have h4 := hn.2
      rw [List.all_eq_true] at h4
      have h2 : P.fieldsOf t = fl := by simp [Program.fieldsOf, hu']
      refine ⟨hn.1.2, fun D hD => ?_⟩
      have hrun := eqF_ok (P := P) hD hx hy fl.toList (fun f _ => ih f.type) true c r h4 he rfl hc
      have heq := run_equalIn_struct (P := P) w (D + 1) t xs ys (by rw [h2]; exact hu') hn.1.1
      rw [h2] at heq
      rw [heq, hrun]
  · rename_i n e hu
    have hu' := und_some hu (by simp)
    split at h
    · cases h
    · rename_i hn
      cases h
      simp only [Bool.or_eq_true, Bool.not_eq_true', not_or, Bool.not_eq_true, Bool.not_eq_false] at hn
      refine ⟨hn.1, fun D hD => ?_⟩
      have hrun := eqI_ok (P := P) hD hn.2 (ih e) hx hy (List.range n) true c r he rfl hc
      obtain ⟨i, hi⟩ : ∃ i, P.info? e = some i := by
        have := hn.2
        unfold knownT at this
        simp only [Bool.and_eq_true, Option.isSome_iff_exists] at this
        exact this.1
      rw [run_equalIn_array (P := P) w (D + 1) xs ys hu' hi, hrun]

theorem eqOk (hH : HR gl m H w) : ∀ (d : Nat) (t : TypeId), EqOk P m H w d t
  | 0, t => by
    intro x y x' y' c r D _ _ _ h _
    simp [shT, eqV] at h
  | d + 1, t => by
    intro x y x' y' c r D hD hx hy h hc
    cases hsh : shT P (d + 1) t with
    | agg fs =>
      rw [hsh] at h
      unfold eqV at h
      split at h <;> try cases h
      all_goals try (rename_i he; cases he; done)
      rename_i fs' a b he
      cases he
      split at h <;> try cases h
      rename_i c' r' hq
      simp only [VR] at hx hy
      obtain ⟨xs, rfl, hxs⟩ := hx
      obtain ⟨ys, rfl, hys⟩ := hy
      obtain ⟨D', rfl⟩ : ∃ D', D = D' + 1 := ⟨D - 1, by omega⟩
      exact (eqAgg_ok (eqOk hH d) hsh hxs hys hq hc).2 D' (by omega)
    | _ => exact eqV_ok hH (by have := shT_ok P (d + 1) t; exact this) (by rw [hsh]; intro fs; simp) hx hy h hc D

/-- the comparison of two values is let by -/
theorem guard_ok {op : BinOp} {t : TypeId} {x y : Operand} {a b : Value} (hn : ¬ (a = .nilIface ∧ b = .nilIface)) (hag : ∀ c e, a = .agg c → b = .agg e → P.eqGuardType P.depth t = false ∨ (op ≠ .eql ∧ op ≠ .neq)) :
    (eqGuard op t x y a b).run P w = .ok () w := by
  by_cases hop : op = .eql ∨ op = .neq
  · have hm : (match op with | .eql => true | .neq => true | _ => false) = true := by rcases hop with rfl | rfl <;> rfl
    rcases hop with rfl | rfl
    all_goals
      cases a <;> cases b <;> first
        | (exfalso; exact hn ⟨rfl, rfl⟩)
        | (have := (hag _ _ rfl rfl).resolve_right (by simp); simp [eqGuard, this]; done)
        | (simp [eqGuard]; done)
  · cases op <;> simp [eqGuard] <;> simp at hop

theorem eqV_bin (hH : HR gl m H w) {sh : Sh} {t : TypeId} (hs : ShOk P t sh) (hna : ∀ fs, sh ≠ .agg fs) {x y : AV} {x' y' : Value} (hx : VR m x x') (hy : VR m y y') {c : List (Nat × Nat)} {r : Bool} (h : eqV sh x y = some (c, r))
    (hc : allCur (cur H) c = true) : (binOp .eql t x' y').run P w = .ok (.bool r) w ∧ (binOp .neq t x' y').run P w = .ok (.bool !r) w ∧ (∀ c e, x' = .agg c → y' = .agg e → False) ∧ (x' = .nilIface ∧ y' = .nilIface → sh = .ifc) := by
  have he := eqV_ok (P := P) hH hs hna hx hy h hc 9999
  unfold eqV at h
  split at h
  · simp only [VR] at hx hy
    subst hx; subst hy
    exact ⟨by simp [binOp, Op.equal, Op.maxDepth, he], by simp [binOp, Op.equal, Op.maxDepth, he], by simp, by simp⟩
  · simp only [VR] at hx hy
    split at h
    · rename_i hk
      simp only [Option.some.injEq, Prod.mk.injEq] at h
      obtain ⟨_, rfl⟩ := h
      subst hk; subst hx; subst hy
      exact ⟨by simp [binOp, Op.intCmp], by simp [binOp, Op.intCmp, bne], by simp, by simp⟩
    · cases h
  · simp only [VR] at hx hy
    simp only [Option.some.injEq, Prod.mk.injEq] at h
    obtain ⟨_, rfl⟩ := h
    subst hx; subst hy
    exact ⟨by simp [binOp, Op.stringOp, eqB_iff], by simp [binOp, Op.stringOp, eqB_iff], by simp, by simp⟩
  · simp only [VR] at hx hy
    subst hx; subst hy
    exact ⟨by simp [binOp, Op.equal, Op.maxDepth, he], by simp [binOp, Op.equal, Op.maxDepth, he], by simp, by simp⟩
  · simp only [Option.some.injEq, Prod.mk.injEq] at h
    obtain ⟨rfl, _⟩ := h
    obtain ⟨I, hI, _, hv⟩ := hH.ptr hy (allCur1 hc)
    simp only [VR] at hx
    subst hx; subst hv
    exact ⟨by simp [binOp, Op.equal, Op.maxDepth, he], by simp [binOp, Op.equal, Op.maxDepth, he], by simp, by simp⟩
  · simp only [Option.some.injEq, Prod.mk.injEq] at h
    obtain ⟨rfl, _⟩ := h
    obtain ⟨I, hI, _, hv⟩ := hH.ptr hx (allCur1 hc)
    simp only [VR] at hy
    subst hy; subst hv
    exact ⟨by simp [binOp, Op.equal, Op.maxDepth, he], by simp [binOp, Op.equal, Op.maxDepth, he], by simp, by simp⟩
  · simp only [VR] at hx hy
    subst hx; subst hy
    exact ⟨by simp [binOp, Op.equal, Op.maxDepth, he], by simp [binOp, Op.equal, Op.maxDepth, he], by simp, by simp⟩
  · simp only [Option.some.injEq, Prod.mk.injEq] at h
    obtain ⟨rfl, _⟩ := h
    obtain ⟨I, o, cap, hI, _, hv, _⟩ := hH.sl hy (allCur1 hc)
    simp only [VR] at hx
    subst hx; subst hv
    exact ⟨by simp [binOp, Op.equal, Op.maxDepth, he], by simp [binOp, Op.equal, Op.maxDepth, he], by simp, by simp⟩
  · simp only [Option.some.injEq, Prod.mk.injEq] at h
    obtain ⟨rfl, _⟩ := h
    obtain ⟨I, o, cap, hI, _, hv, _⟩ := hH.sl hx (allCur1 hc)
    simp only [VR] at hy
    subst hy; subst hv
    exact ⟨by simp [binOp, Op.equal, Op.maxDepth, he], by simp [binOp, Op.equal, Op.maxDepth, he], by simp, by simp⟩
  all_goals try (
    simp only [VR] at hx hy
    first
      | (subst hx; subst hy; exact ⟨by simp [binOp, Op.equal, Op.maxDepth, he], by simp [binOp, Op.equal, Op.maxDepth, he], by simp, by simp⟩)
      | (subst hx; obtain ⟨_, _, rfl, _⟩ := hy; exact ⟨by simp [binOp, Op.equal, Op.maxDepth, he], by simp [binOp, Op.equal, Op.maxDepth, he], by simp, by simp⟩)
      | (subst hy; obtain ⟨_, _, rfl, _⟩ := hx; exact ⟨by simp [binOp, Op.equal, Op.maxDepth, he], by simp [binOp, Op.equal, Op.maxDepth, he], by simp, by simp⟩)
      | (subst hx; obtain ⟨_, rfl, _⟩ := hy; exact ⟨by simp [binOp, Op.equal, Op.maxDepth, he], by simp [binOp, Op.equal, Op.maxDepth, he], by simp, by simp⟩)
      | (subst hy; obtain ⟨_, rfl, _⟩ := hx; exact ⟨by simp [binOp, Op.equal, Op.maxDepth, he], by simp [binOp, Op.equal, Op.maxDepth, he], by simp, by simp⟩))
  · exact absurd rfl (hna _)
  cases h

theorem eqV_nagg {sh : Sh} {x y : AV} {q : List (Nat × Nat) × Bool} (h : eqV sh x y = some q) (hn : ∀ a b, x = .agg a → y = .agg b → False) : ∀ fs, sh ≠ .agg fs := by
  rintro fs rfl
  unfold eqV at h
  split at h <;> try cases h
  all_goals first
    | (rename_i he; cases he; done)
    | exact hn _ _ rfl rfl

/-- the two runs of a comparison or a computation -/
theorem binop_ok (hH : HR gl m H w) {op : BinOp} {sh : Sh} {t : TypeId} (hsh : ShOk P t sh) (hagg : ∀ fs, sh = .agg fs → shT P 8 t = .agg fs) {x y : Operand} (hifc : sh = .ifc → isConstO x = true ∨ isConstO y = true)
    {X Y : AV} {x' y' : Value} (hx : VR m X x') (hy : VR m Y y') {b : Bool} {c : List (Nat × Nat)} {v : AV} (h : binop op sh X Y = some (b, c, v)) (hb : b = true) (hc : allCur (cur H) c = true) :
    ∃ v', (eqGuard op t x y x' y').run P w = .ok () w ∧ (binOp op t x' y').run P w = .ok v' w ∧ VR m v v' := by
  unfold binop at h
  split at h
  · simp only [Option.some.injEq, Prod.mk.injEq] at h
    obtain ⟨rfl, _, rfl⟩ := h
    simp only [VR] at hx hy
    subst hx; subst hy
    have : ¬ (_ : Int) < 0 := Int.not_lt.2 (of_decide_eq_true hb)
    exact ⟨_, by simp [eqGuard], by simp [binOp, Op.shift, this]; rfl, by simp [VR]⟩
  · simp only [Option.some.injEq, Prod.mk.injEq] at h
    obtain ⟨rfl, _, rfl⟩ := h
    simp only [VR] at hx hy
    subst hx; subst hy
    have : ¬ (_ : Int) < 0 := Int.not_lt.2 (of_decide_eq_true hb)
    exact ⟨_, by simp [eqGuard], by simp [binOp, Op.shift, this]; rfl, by simp [VR]⟩
  · rename_i k a k' b2 n1 n2
    simp only [VR] at hx hy
    subst hx; subst hy
    split at h
    · rename_i hk
      subst hk
      have hg : (eqGuard op t x y (.int k a) (.int k b2)).run P w = .ok () w := by cases op <;> simp [eqGuard]
      cases op <;> simp only at h <;> try cases h
      all_goals first
        | exact ⟨_, hg, by simp [binOp, Op.intArith]; rfl, by simp [VR]⟩
        | exact ⟨_, hg, by simp [binOp, Op.intCmp]; rfl, by simp [VR]⟩
        | (refine ⟨_, hg, by simp [binOp, Op.intCmp]; rfl, ?_⟩; simp [VR, bne]; done)
        | (have hb' : b2 ≠ 0 := by simpa using hb
           exact ⟨_, hg, by simp [binOp, Op.intDiv, hb']; rfl, by simp [VR]⟩)
        | (obtain ⟨v', h2, h3⟩ := bits_ok (P := P) (m := m) .and k a b2 _ rfl w; exact ⟨v', hg, by simpa [binOp] using h2, h3⟩)
        | (obtain ⟨v', h2, h3⟩ := bits_ok (P := P) (m := m) .or k a b2 _ rfl w; exact ⟨v', hg, by simpa [binOp] using h2, h3⟩)
        | (obtain ⟨v', h2, h3⟩ := bits_ok (P := P) (m := m) .xor k a b2 _ rfl w; exact ⟨v', hg, by simpa [binOp] using h2, h3⟩)
        | (obtain ⟨v', h2, h3⟩ := bits_ok (P := P) (m := m) .andNot k a b2 _ rfl w; exact ⟨v', hg, by simpa [binOp] using h2, h3⟩)
    · cases h
  · rename_i a b2
    simp only [VR] at hx hy
    subst hx; subst hy
    have hg : (eqGuard op t x y (.string ⟨a.toArray⟩) (.string ⟨b2.toArray⟩)).run P w = .ok () w := by cases op <;> simp [eqGuard]
    cases op <;> simp only at h <;> try cases h
    case' h_4.add.refl =>
      have hle := of_decide_eq_true hb
      refine ⟨.string ⟨(a ++ b2).toArray⟩, hg, ?_, by simp [VR]⟩
      have := run_string_add_sum (P := P) w ⟨a.toArray⟩ ⟨b2.toArray⟩ (by rw [size_mk, size_mk]; exact hle)
      simp only [binOp]
      rw [this]
      congr 2
    all_goals exact ⟨_, hg, by simp [binOp, Op.stringOp]; rfl, by simp [VR, eqB_iff, ltB_eq]⟩
  · rename_i a b2
    split at h
    · rename_i fs
      simp only [VR] at hx hy
      obtain ⟨xs, rfl, hxs⟩ := hx
      obtain ⟨ys, rfl, hys⟩ := hy
      split at h
      · rename_i p c' r hq
        simp only [Option.some.injEq, Prod.mk.injEq] at h
        obtain ⟨rfl, rfl, rfl⟩ := h
        subst hb
        obtain ⟨h4, heq⟩ := eqAgg_ok (P := P) (d := 7) (fun t => eqOk hH 7 t) (hagg _ rfl) hxs hys hq hc
        exact ⟨_, guard_ok (by simp) (fun _ _ _ _ => .inl h4), by rw [run_eql_struct]; rw [heq 9998 (by omega)]; rfl, by simp [VR]⟩
      · cases h
    · cases h
  · rename_i a b2
    split at h
    · rename_i fs
      simp only [VR] at hx hy
      obtain ⟨xs, rfl, hxs⟩ := hx
      obtain ⟨ys, rfl, hys⟩ := hy
      split at h
      · rename_i p c' r hq
        simp only [Option.some.injEq, Prod.mk.injEq] at h
        obtain ⟨rfl, rfl, rfl⟩ := h
        subst hb
        obtain ⟨h4, heq⟩ := eqAgg_ok (P := P) (d := 7) (fun t => eqOk hH 7 t) (hagg _ rfl) hxs hys hq hc
        exact ⟨_, guard_ok (by simp) (fun _ _ _ _ => .inl h4), by rw [run_neq_struct]; rw [heq 9998 (by omega)]; rfl, by simp [VR]⟩
      · cases h
    · cases h
  · split at h
    · rename_i c' r hq
      simp only [Option.some.injEq, Prod.mk.injEq] at h
      obtain ⟨_, rfl, rfl⟩ := h
      obtain ⟨q1, q2, q3, q4⟩ := eqV_bin (P := P) hH hsh (eqV_nagg hq (by assumption)) hx hy hq hc
      refine ⟨.bool r, ?_, q1, by simp [VR]⟩
      by_cases hn : x' = .nilIface ∧ y' = .nilIface
      · obtain ⟨rfl, rfl⟩ := hn
        rcases hifc (q4 ⟨rfl, rfl⟩) with h | h
        · cases x <;> simp [isConstO] at h; simp [eqGuard]
        · cases y <;> simp [isConstO] at h; simp [eqGuard]
      · exact guard_ok hn fun _ _ e1 e2 => (q3 _ _ e1 e2).elim
    · cases h
  · split at h
    · rename_i c' r hq
      simp only [Option.some.injEq, Prod.mk.injEq] at h
      obtain ⟨_, rfl, rfl⟩ := h
      obtain ⟨q1, q2, q3, q4⟩ := eqV_bin (P := P) hH hsh (eqV_nagg hq (by assumption)) hx hy hq hc
      refine ⟨.bool !r, ?_, q2, by simp [VR]⟩
      by_cases hn : x' = .nilIface ∧ y' = .nilIface
      · obtain ⟨rfl, rfl⟩ := hn
        rcases hifc (q4 ⟨rfl, rfl⟩) with h | h
        · cases x <;> simp [isConstO] at h; simp [eqGuard]
        · cases y <;> simp [isConstO] at h; simp [eqGuard]
      · exact guard_ok hn fun _ _ e1 e2 => (q3 _ _ e1 e2).elim
    · cases h
  · cases h

theorem lop_bin (hH : HR gl m H w) (hρ : ∀ x, VR m (ev (cO x)) (ρ x)) {o : Oper} {op : BinOp} {t ty : TypeId} {x y : Operand} (ho : o.op = .binOp op t x y ty) (nid : Nat) {r : LR}
    (h : lop gl ev (cur H) (cellsAt H) nid (cOp P o.op) = some r) (hp : r.pre = true) : LopOk P m w ρ o nid r := by
  have key : ∀ sh, ShOk P t sh → (∀ fs, sh = .agg fs → shT P 8 t = .agg fs) → (sh = .ifc → isConstO x = true ∨ isConstO y = true) → lop gl ev (cur H) (cellsAt H) nid (.bin op sh (cO x) (cO y)) = some r → LopOk P m w ρ o nid r := by
    intro sh hsh hagg hifc h
    simp only [lop] at h
    split at h
    · rename_i b c v hb
      cases h
      simp only [Bool.and_eq_true] at hp
      obtain ⟨v', h1, h2, h3⟩ := binop_ok (P := P) hH hsh hagg hifc (hρ x) (hρ y) hb hp.1 hp.2
      refine .inl ⟨rfl, v', ?_, h3⟩
      simp only [execOp, ho]
      exact execV (by simp [h1, h2])
    · cases h
  rw [ho] at h
  simp only [cOp] at h
  have hok := shT_ok P 8 t
  split at h
  · rename_i hs
    split at h
    · rename_i hcst
      rw [hs] at hok
      exact key .ifc hok (by simp) (fun _ => by simpa using hcst) h
    · simp [lop] at h
  · rename_i sh hs
    exact key _ hok (fun fs hfs => hfs) (fun hi => absurd hi hs) h
theorem toArr1 {α : Type} {a : Array α} {x : α} (h : a.toList = [x]) : a = #[x] := by
  apply Array.ext'
  simpa using h

/-- every operation that writes nothing -/
theorem lop_ok (hH : HR gl m H w) (hρ : ∀ x, VR m (ev (cO x)) (ρ x)) (hev : ∀ v, ev (.c v) = v) (o : Oper) (nid : Nat) {r : LR}
    (h : lop gl ev (cur H) (cellsAt H) nid (cOp P o.op) = some r) (hp : r.pre = true) : LopOk P m w ρ o nid r := by
  cases ho : o.op with
  | move x => rw [ho] at h; simp only [cOp, lop, Option.some.injEq] at h; subst h; exact lop_move hρ (.inl ho) nid
  | assign x => rw [ho] at h; simp only [cOp, lop, Option.some.injEq] at h; subst h; exact lop_move hρ (.inr ho) nid
  | pick c a b => exact lop_pick hρ ho nid h
  | alloc t => exact lop_alloc ho nid hev h
  | box t x => exact lop_box hρ ho nid h
  | build t ps => exact lop_build hρ ho nid h hp
  | buildSlice t n ps => exact lop_bsl hρ ho nid h hp
  | load t x => exact lop_load hH hρ ho nid h hp
  | nilCheck x => exact lop_nilck hH hρ ho nid h hp
  | binOp op t x y ty => exact lop_bin hH hρ ho nid h hp
  | unOp op t x => exact lop_un hρ ho nid (fun op k a b v hv w => bits_ok op k a b v hv w) h
  | convert s d x => exact lop_conv hH hρ ho nid h hp
  | sliceToArrayPointer t x => exact lop_s2a hH hρ ho nid h hp
  | makeInterface t x => exact lop_mkif hρ ho nid h
  | makeFunc f a b => exact lop_mkfn hρ ho nid h
  | makeSlice t l c => exact lop_mksl hρ ho nid h hp
  | slice t x lo hi mx =>
    cases mx with
    | none => exact lop_slice hH hρ ho nid h hp
    | some y => rw [ho] at h; simp [cOp, lop] at h
  | fieldAddr t x i => exact lop_fa hH hρ ho nid h hp
  | field t x i => exact lop_field hρ ho nid h hp
  | indexAddr t x i => exact lop_ia hH hρ ho nid h hp
  | index t x i => exact lop_ix hρ ho nid h hp
  | extract x i => exact lop_ext hρ ho nid h hp
  | store t a x =>
    rw [ho] at h
    simp only [cOp] at h
    split at h <;> simp [lop] at h
  | call c =>
    obtain ⟨callee, args, ts⟩ := c
    cases callee with
    | value f => rw [ho] at h; simp [cOp, lop] at h
    | invoke f n => rw [ho] at h; simp [cOp, lop] at h
    | builtin b =>
      rw [ho] at h
      simp only [cOp] at h
      split at h
      · rename_i x t e1 e2
        obtain rfl := toArr1 e1
        obtain rfl := toArr1 e2
        exact lop_len hH hρ ho nid (by rw [ho]; simpa only [cOp] using h) hp
      · split at h <;> first | (split at h <;> simp [lop] at h; done) | (simp [lop] at h; done)
      · split at h <;> first | (split at h <;> simp [lop] at h; done) | (simp [lop] at h; done)
      · exact lop_max hρ ho nid (cu := cur H) (ca := cellsAt H) (by rw [ho]; simpa only [cOp] using h)
      · exact lop_min hρ ho nid (cu := cur H) (ca := cellsAt H) (by rw [ho]; simpa only [cOp] using h)
      · simp [lop] at h
  | _ => rw [ho] at h; simp [cOp, lop] at h
end
end Go.Proofs.YtafchcmemeinlaaDoor
