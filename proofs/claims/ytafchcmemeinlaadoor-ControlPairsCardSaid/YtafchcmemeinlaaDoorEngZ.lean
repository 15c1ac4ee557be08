/-
  The engine, part Z: what a reading of plain data says of its cells.
-/
import Derived.Test.YtafchcmemeinlaaDoorEngY
import Derived.ChangeReads
set_option linter.unusedSimpArgs false
set_option linter.unusedVariables false
namespace Go.Proofs.YtafchcmemeinlaaDoor
open Go.RowKit

/-- the cells of plain data: bools, integers, strings, structs and arrays of them -/
def flatD {H : Type} : DataW H → List AV
  | .lit (.bool b) => [.bool b]
  | .lit (.int k n) => [.int k n]
  | .lit (.string s) => [.str s]
  | .agg l => flatDL l
  | _ => []
where flatDL : List (DataW H) → List AV
  | [] => []
  | d :: l => flatD d ++ flatDL l

section
variable (P : Program)
def tileT : List Field → Nat → Nat → Bool
  | [], o, n => o == n
  | f :: fs, o, n => f.offset == o && tileT fs (o + P.cellsOf f.type) n

/-- types of plain data -/
def flatT : Nat → TypeId → Bool
  | 0, _ => false
  | d + 1, t => match P.underlying t with
    | some .bool => P.cellsOf t == 1
    | some (.int _) => P.cellsOf t == 1
    | some .string => P.cellsOf t == 1
    | some (.struct fs) => tileT P fs.toList 0 (P.cellsOf t) && fs.toList.all fun f => flatT d f.type
    | some (.array n e) => n * P.cellsOf e == P.cellsOf t && flatT d e
    | _ => false
end

theorem mapM_cons_some {α β : Type} {f : α → Option β} {a : α} {l : List α} {r : List β} (h : (a :: l).mapM f = some r) : ∃ b r', f a = some b ∧ l.mapM f = some r' ∧ r = b :: r' := by
  rw [List.mapM_cons] at h
  cases hx : f a with
  | none => simp [hx] at h
  | some y =>
    cases hxs : l.mapM f with
    | none => simp [hx, hxs] at h
    | some ys =>
      simp [hx, hxs] at h
      exact ⟨y, ys, rfl, rfl, h.symm⟩

section
variable {P : Program} {H : Type} {enc : TypeId × Value → H} {w : World} {base : Nat} {spare : Nat → Bool} {held : Bool}

theorem flat_fields (m : M) {r : TypeId → List Value → Option (DataW H × List MemPlace)} {cs : List Value} {n : Nat} (hn : cs.length = n) : ∀ (fs : List Field) (o : Nat) (xs : List (DataW H × List MemPlace)),
    (∀ f ∈ fs, ∀ cs x, r f.type cs = some x → VRL m (flatD x.1) cs ∧ cs.length = P.cellsOf f.type) → tileT P fs o n = true → o ≤ n →
    (fs.mapM fun f => r f.type ((cs.drop f.offset).take (P.cellsOf f.type))) = some xs → VRL m (flatD.flatDL (xs.map (·.1))) (cs.drop o)
  | [], o, xs, _, ht, _, h => by
    simp at h
    subst h
    simp only [tileT, beq_iff_eq] at ht
    rw [List.drop_of_length_le (by omega)]
    simp [flatD.flatDL]
  | f :: fs, o, xs, hr, ht, ho, h => by
    obtain ⟨x, xs', h1, h2, rfl⟩ := mapM_cons_some h
    simp only [tileT, Bool.and_eq_true, beq_iff_eq] at ht
    obtain ⟨rfl, ht⟩ := ht
    obtain ⟨q1, q2⟩ := hr f (by simp) _ _ h1
    have hlt : f.offset + P.cellsOf f.type ≤ n := by
      simp at q2
      omega
    have ih := flat_fields m hn fs (f.offset + P.cellsOf f.type) xs' (fun g hg => hr g (by simp [hg])) ht hlt h2
    simp only [List.map_cons, flatD.flatDL]
    have e : cs.drop f.offset = (cs.drop f.offset).take (P.cellsOf f.type) ++ cs.drop (f.offset + P.cellsOf f.type) := by
      rw [← List.drop_drop, List.take_append_drop]
    rw [e]
    exact q1.append ih

theorem flat_items (m : M) {r : List Value → Option (DataW H × List MemPlace)} {cs : List Value} {z : Nat} (hr : ∀ cs x, r cs = some x → VRL m (flatD x.1) cs ∧ cs.length = z) : ∀ (n i : Nat) (xs : List (DataW H × List MemPlace)),
    cs.length = (i + n) * z → ((List.range' i n).mapM fun i => r ((cs.drop (i * z)).take z)) = some xs → VRL m (flatD.flatDL (xs.map (·.1))) (cs.drop (i * z))
  | 0, i, xs, hl, h => by
    simp at h
    subst h
    rw [List.drop_of_length_le (by rw [hl, Nat.add_zero]; exact Nat.le_refl _)]
    simp [flatD.flatDL]
  | n + 1, i, xs, hl, h => by
    rw [List.range'_succ] at h
    obtain ⟨x, xs', h1, h2, rfl⟩ := mapM_cons_some h
    obtain ⟨q1, q2⟩ := hr _ _ h1
    have ih := flat_items m hr n (i + 1) xs' (by rw [hl]; congr 1; omega) h2
    simp only [List.map_cons, flatD.flatDL]
    have e : cs.drop (i * z) = (cs.drop (i * z)).take z ++ cs.drop ((i + 1) * z) := by
      rw [Nat.add_mul, Nat.one_mul, ← List.drop_drop, List.take_append_drop]
    rw [e]
    exact q1.append ih

/-- what is read of cells of plain data -/
theorem flat_ok (m : M) : ∀ (d : Nat) (t : TypeId) (fuel : Nat) (cs : List Value) (x : DataW H × List MemPlace), flatT P d t = true → DataW.trod enc P w base spare held fuel t cs = some x → VRL m (flatD x.1) cs ∧ cs.length = P.cellsOf t
  | 0, t, _, _, _, ht, _ => by simp [flatT] at ht
  | d + 1, t, 0, cs, x, _, h => by simp [DataW.trod] at h
  | d + 1, t, fuel + 1, cs, x, ht, h => by
    rw [DataW.trod_step] at h
    simp only [flatT] at ht
    unfold DataW.trodStep at h
    split at ht
    · rename_i hu
      simp only [beq_iff_eq] at ht
      rw [hu] at h
      simp only at h
      split at h <;> simp at *
      all_goals first
        | (rename_i hh; cases hh; cases h; simp [flatD, VR, ht])
        | skip
    · rename_i k hu
      simp only [beq_iff_eq] at ht
      rw [hu] at h
      simp only at h
      split at h <;> simp at *
      all_goals first
        | (rename_i hh; cases hh; obtain ⟨⟨rfl, _⟩, rfl⟩ := h; simp [flatD, VR, ht])
        | skip
    · rename_i hu
      simp only [beq_iff_eq] at ht
      rw [hu] at h
      simp only at h
      split at h <;> simp at *
      all_goals first
        | (rename_i hh; cases hh; obtain ⟨_, rfl⟩ := h; simp [flatD, VR, ht])
        | skip
    · rename_i fs hu
      simp only [Bool.and_eq_true, List.all_eq_true] at ht
      rw [hu] at h
      simp only at h
      split at h
      · rename_i hl
        cases hm : (fs.toList.mapM fun f => DataW.trod enc P w base spare held fuel f.type ((cs.drop f.offset).take (P.cellsOf f.type))) with
        | none => rw [hm] at h; simp at h
        | some xs =>
          rw [hm] at h
          simp only [Option.map_some, Option.some.injEq] at h
          subst h
          have := flat_fields (P := P) m hl fs.toList 0 xs (fun f hf cs x hx => flat_ok m d f.type fuel cs x (ht.2 f hf) hx) ht.1 (Nat.zero_le _) hm
          exact ⟨by simpa [flatD] using this, hl⟩
      · cases h
    · rename_i n e hu
      simp only [Bool.and_eq_true, beq_iff_eq] at ht
      rw [hu] at h
      simp only at h
      split at h
      · rename_i hl
        cases hm : ((List.range n).mapM fun i => DataW.trod enc P w base spare held fuel e ((cs.drop (i * P.cellsOf e)).take (P.cellsOf e))) with
        | none => rw [hm] at h; simp at h
        | some xs =>
          rw [hm] at h
          simp only [Option.map_some, Option.some.injEq] at h
          subst h
          rw [List.range_eq_range'] at hm
          have := flat_items m (fun cs x hx => flat_ok m d e fuel cs x ht.2 hx) n 0 xs (by rw [hl, ← ht.1]; simp) hm
          exact ⟨by simpa [flatD] using this, hl⟩
      · cases h
    · cases ht
end

mutual
theorem ren_flat (ρ : Nat → Nat) : ∀ a, old 0 a = true → noY a = true → ren ρ a = a
  | .undef, _, _ => rfl
  | .opq _, _, _ => rfl
  | .bool _, _, _ => rfl
  | .int _ _, _, _ => rfl
  | .str _, _, _ => rfl
  | .nilp, _, _ => rfl
  | .ptr _ _ _, h, _ => by simp [old] at h
  | .gptr _ _, _, _ => rfl
  | .nils, _, _ => rfl
  | .sl _ _ _ _ _, h, _ => by simp [old] at h
  | .nilf, _, _ => rfl
  | .fn _ x y, h, k => by
    simp only [old, noY, Bool.and_eq_true] at h k
    simp only [ren, renL_flat ρ x h.1 k.1, renL_flat ρ y h.2 k.2]
  | .yld _, _, k => by simp [noY] at k
  | .nili, _, _ => rfl
  | .iface _ v, h, k => by simp only [old, noY] at h k; simp only [ren, ren_flat ρ v h k]
  | .agg l, h, k => by simp only [old, noY] at h k; simp only [ren, renL_flat ρ l h k]
  | .tup l, h, k => by simp only [old, noY] at h k; simp only [ren, renL_flat ρ l h k]
  | .lst _ _ _ _, _, _ => rfl
  | .lptr _ _ _, _, _ => rfl
theorem renL_flat (ρ : Nat → Nat) : ∀ l, oldL 0 l = true → noYL l = true → renL ρ l = l
  | [], _, _ => rfl
  | v :: l, h, k => by
    simp only [oldL, noYL, Bool.and_eq_true] at h k
    simp only [renL, ren_flat ρ v h.1 k.1, renL_flat ρ l h.2 k.2]
end

theorem Fr.nil (H : List Blk) : Fr id [] H := ⟨fun j b0 h => by simp at h, fun j j' b0 h => by simp at h⟩
theorem FrEnd.nil (H : List Blk) : FrEnd id [] [] H H := ⟨by simp, fun j b0 h => by simp at h, fun j b0 h => by simp at h, fun j b0 _ h => by simp at h, by simp, fun _ _ _ => rfl, fun j b h => by simp at h⟩

/-- a contract of a function of plain values -/
theorem valid_flat {P : Program} {gl : Nat → Option (List AV)} {f : FuncId} {c : List AV → List Blk → (Out → List Blk → Prop) → Prop} (he : Enters P f) (hgl : ∀ g cs, gl g = some cs → noYL cs = true)
    (h : ∀ args H Q, c args H Q → oldL 0 args = true ∧ noYL args = true ∧ ∃ (E : Env) (n : Nat), EnvFor P E ∧ E.gl = gl ∧ callx E (wpx E n) f args [] {} fun o H' _ => H' = [] ∧ (∃ v, o = .ret v ∧ old 0 v = true ∧ noY v = true) ∧ Q o H) : ValidF P gl f c := by
  refine valid_of he hgl fun args H Q hc => ?_
  obtain ⟨h1, h2, E, n, h3, h4, h5⟩ := h args H Q hc
  refine ⟨E, n, id, args, [], _, h3, h4, (renL_flat id args h1 h2).symm, h1, h2, Fr.nil H, h5, ?_⟩
  rintro o H0' g' ⟨rfl, ⟨v, rfl, q1, q2⟩, q3⟩
  refine ⟨H, FrEnd.nil H, ?_⟩
  simp only [renO, ren_flat _ v q1 q2]
  exact q3

theorem lookF_ok {P : Program} : ∀ (l : List (Nat × AFn)), (∀ p, p ∈ l → fnOf P p.1 = some p.2) → ∀ f g, lookF f l = some g → fnOf P f = some g
  | [], _, f, g, h => by simp [lookF] at h
  | (k, x) :: l, hl, f, g, h => by
    simp only [lookF] at h
    cases hk : Nat.beq f k
    · rw [hk] at h
      exact lookF_ok l (fun p hp => hl p (by simp [hp])) f g h
    · rw [hk] at h
      simp only [cond_true, Option.some.injEq] at h
      subst h
      obtain rfl := Nat.eq_of_beq_eq_true hk
      exact hl (f, x) (by simp)

/-- 'true', and no block is left -/
def isT0 (o : Out) (H : List Blk) (_ : Gh) : Prop := match H, o with
  | [], .ret (.bool true) => True
  | _, _ => False

def cTrue : List AV → List Blk → (Out → List Blk → Prop) → Prop
  | [], H, K => K (.ret (.bool true)) H
  | _, _, _ => False

theorem isT_of {o : Out} {H : List Blk} {g : Gh} (h : isT0 o H g) : H = [] ∧ o = .ret (.bool true) := by
  unfold isT0 at h
  split at h
  · exact ⟨rfl, rfl⟩
  · cases h

/-- a function without arguments that says 'true' -/
theorem valid_true {P : Program} {gl : Nat → Option (List AV)} {f : FuncId} (he : Enters P f) (hgl : ∀ g cs, gl g = some cs → noYL cs = true) {E : Env} {n : Nat} (hE : EnvFor P E) (hg : E.gl = gl) (h : callx E (wpx E n) f [] [] {} isT0 = True) : ValidF P gl f cTrue := by
  refine valid_of he hgl fun args H Q hc => ?_
  unfold cTrue at hc
  split at hc
  · refine ⟨E, n, id, [], [], _, hE, hg, rfl, rfl, rfl, Fr.nil _, of_eq_true h, ?_⟩
    intro o H0' g' hq
    obtain ⟨rfl, rfl⟩ := isT_of (g := g') hq
    exact ⟨_, FrEnd.nil _, hc⟩
  · exact hc.elim

/-- the function may be entered -/
def entersB (P : Program) (f : FuncId) : Bool := match P.funcs[f]? with
  | some fn => !fn.body.isNone && !(fn.name == "runtime.NumGoroutine")
  | none => false
theorem enters_of {P : Program} {f : FuncId} (h : entersB P f = true) : Enters P f := by
  unfold entersB at h
  split at h
  · rename_i fn hf
    simp only [Bool.and_eq_true, Bool.not_eq_true'] at h
    exact ⟨fn, hf, h.1, h.2⟩
  · cases h
end Go.Proofs.YtafchcmemeinlaaDoor
