/-
  The engine, part Z: what a reading of plain data says of its cells.
-/
import Derived.Test.YthaapjfnadfmgaaDoorEnG
import Derived.ChangeReads
import Derived.Deep.Slices
set_option linter.unusedSimpArgs false
set_option linter.unusedVariables false
namespace Go.Proofs.YthaapjfnadfmgaaDoor
open Go.RowKit

section
variable (P : Program)
end

section
variable {P : Program} {H : Type} {enc : TypeId × Value → H} {w : World} {base : Nat} {spare : Nat → Bool} {held : Bool}

end

mutual
theorem ren_flat (ρ : Nat → Nat) : ∀ a, old 0 a = true → noY a = true → ren ρ a = a
  | .undef, _, _ => rfl
  | .opq _, _, _ => rfl
  | .bool _, _, _ => rfl
  | .int _ _, _, _ => rfl
  | .str _, _, _ => rfl
  | .nilp, _, _ => rfl
  | .ptr _ _ _, h, _ => by simp [old] at h
  | .gptr _ _, _, _ => rfl
  | .nils, _, _ => rfl
  | .sl _ _ _ _ _, h, _ => by simp [old] at h
  | .nilf, _, _ => rfl
  | .fn _ x y, h, k => by
    simp only [old, noY, Bool.and_eq_true] at h k
    simp only [ren, renL_flat ρ x h.1 k.1, renL_flat ρ y h.2 k.2]
  | .yld _, _, k => by simp [noY] at k
  | .nili, _, _ => rfl
  | .iface _ v, h, k => by simp only [old, noY] at h k; simp only [ren, ren_flat ρ v h k]
  | .agg l, h, k => by simp only [old, noY] at h k; simp only [ren, renL_flat ρ l h k]
  | .tup l, h, k => by simp only [old, noY] at h k; simp only [ren, renL_flat ρ l h k]
  | .lst _ _ _ _, _, _ => rfl
  | .lptr _ _ _, _, _ => rfl
theorem renL_flat (ρ : Nat → Nat) : ∀ l, oldL 0 l = true → noYL l = true → renL ρ l = l
  | [], _, _ => rfl
  | v :: l, h, k => by
    simp only [oldL, noYL, Bool.and_eq_true] at h k
    simp only [renL, ren_flat ρ v h.1 k.1, renL_flat ρ l h.2 k.2]
end

theorem Fr.nil (H : List Blk) : Fr id [] H := ⟨fun j b0 h => by simp at h, fun j j' b0 h => by simp at h⟩
theorem FrEnd.nil (H : List Blk) : FrEnd id [] [] H H := ⟨by simp, fun j b0 h => by simp at h, fun j b0 h => by simp at h, fun j b0 _ h => by simp at h, by simp, fun _ _ _ => rfl, fun j b h => by simp at h⟩

/-- a contract of a function of plain values -/
theorem valid_flat {P : Program} {gl : Nat → Option (List AV)} {f : FuncId} {c : List AV → List Blk → (Out → List Blk → Prop) → Prop} (he : Enters P f) (hgl : ∀ g cs, gl g = some cs → noYL cs = true)
    (h : ∀ args H Q, c args H Q → oldL 0 args = true ∧ noYL args = true ∧ ∃ (E : Env) (n : Nat), EnvFor P E ∧ E.gl = gl ∧ callx E (wpx E n) f args [] {} fun o H' _ => H' = [] ∧ (∃ v, o = .ret v ∧ old 0 v = true ∧ noY v = true) ∧ Q o H) : ValidF P gl f c := by
  refine valid_of he hgl fun args H Q hc => ?_
  obtain ⟨h1, h2, E, n, h3, h4, h5⟩ := h args H Q hc
  refine ⟨E, n, id, args, [], _, h3, h4, (renL_flat id args h1 h2).symm, h1, h2, Fr.nil H, h5, ?_⟩
  rintro o H0' g' ⟨rfl, ⟨v, rfl, q1, q2⟩, q3⟩
  refine ⟨H, FrEnd.nil H, ?_⟩
  simp only [renO, ren_flat _ v q1 q2]
  exact q3

theorem lookF_ok {P : Program} : ∀ (l : List (Nat × AFn)), (∀ p, p ∈ l → fnOf P p.1 = some p.2) → ∀ f g, lookF f l = some g → fnOf P f = some g
  | [], _, f, g, h => by simp [lookF] at h
  | (k, x) :: l, hl, f, g, h => by
    simp only [lookF] at h
    cases hk : Nat.beq f k
    · rw [hk] at h
      exact lookF_ok l (fun p hp => hl p (by simp [hp])) f g h
    · rw [hk] at h
      simp only [cond_true, Option.some.injEq] at h
      subst h
      obtain rfl := Nat.eq_of_beq_eq_true hk
      exact hl (f, x) (by simp)

/-- 'true', and no block is left -/
def isT0 (o : Out) (H : List Blk) (_ : Gh) : Prop := match H, o with
  | [], .ret (.bool true) => True
  | _, _ => False

def cTrue : List AV → List Blk → (Out → List Blk → Prop) → Prop
  | [], H, K => K (.ret (.bool true)) H
  | _, _, _ => False

theorem isT_of {o : Out} {H : List Blk} {g : Gh} (h : isT0 o H g) : H = [] ∧ o = .ret (.bool true) := by
  unfold isT0 at h
  split at h
  · exact ⟨rfl, rfl⟩
  · cases h

/-- a function without arguments that says 'true' -/
theorem valid_true {P : Program} {gl : Nat → Option (List AV)} {f : FuncId} (he : Enters P f) (hgl : ∀ g cs, gl g = some cs → noYL cs = true) {E : Env} {n : Nat} (hE : EnvFor P E) (hg : E.gl = gl) (h : callx E (wpx E n) f [] [] {} isT0 = True) : ValidF P gl f cTrue := by
  refine valid_of he hgl fun args H Q hc => ?_
  unfold cTrue at hc
  split at hc
  · refine ⟨E, n, id, [], [], _, hE, hg, rfl, rfl, rfl, Fr.nil _, of_eq_true h, ?_⟩
    intro o H0' g' hq
    obtain ⟨rfl, rfl⟩ := isT_of (g := g') hq
    exact ⟨_, FrEnd.nil _, hc⟩
  · exact hc.elim

/-- the function may be entered -/
def entersB (P : Program) (f : FuncId) : Bool := match P.funcs[f]? with
  | some fn => !fn.body.isNone && !(fn.name == "runtime.NumGoroutine")
  | none => false
theorem enters_of {P : Program} {f : FuncId} (h : entersB P f = true) : Enters P f := by
  unfold entersB at h
  split at h
  · rename_i fn hf
    simp only [Bool.and_eq_true, Bool.not_eq_true'] at h
    exact ⟨fn, hf, h.1, h.2⟩
  · cases h
end Go.Proofs.YthaapjfnadfmgaaDoor

/-
  The engine, part X: the arguments of a law, of whatever shape, as values by content: all blocks that are there when the call begins are frozen.
-/
set_option linter.unusedSimpArgs false
set_option linter.unusedVariables false
namespace Go.Proofs.YthaapjfnadfmgaaDoor
open Go.RowKit

/-- everything that is there is frozen -/
def mAll (W : World) : M := ⟨fun _ => none, fun _ => undef, fun _ => none, fun _ b => match W.heap[b]? with
  | some (.cells cu _ _) => some cu.toList
  | _ => none⟩

theorem HR.all {gl : Nat → Option (List AV)} {W : World} (h : Glob gl W) : HR gl (mAll W) [] W := by
  refine ⟨fun id I h => (by cases h), fun id I b h => (by cases h), fun i j I J b h => (by cases h), fun g cs hg => ?_, fun g cs hg => (h g cs hg).1, fun t k cs hf => ?_, fun t k cs id I b _ h => (by cases h), fun g cs id I b _ h => (by cases h)⟩
  · obtain ⟨_, cu, e, fr, h1, h2⟩ := h g cs hg
    exact ⟨cu, e, fr, h1, VRL.mono (m := m00) (m' := mAll W) ⟨fun _ _ h => (by simp [m00] at h), rfl, fun _ _ h => (by simp [m00] at h), fun _ _ _ h => (by simp [m00] at h)⟩ _ _ h2⟩
  · simp only [mAll] at hf
    split at hf
    · rename_i cu e fr hh
      cases hf
      exact ⟨cu, e, fr, hh, by rw [Array.length_toList]; exact List.take_of_length_le (by simp)⟩
    · cases hf

section
variable (P : Program)

end

section
variable {P : Program} {H : Type} {enc : TypeId × Value → H} {W : World} {base : Nat} {spare : Nat → Bool} {held : Bool}

end
end Go.Proofs.YthaapjfnadfmgaaDoor

/-
  The engine, part X2: what a function made is frozen when it is handed out.
-/
set_option linter.unusedSimpArgs false
set_option linter.unusedVariables false
namespace Go.Proofs.YthaapjfnadfmgaaDoor
open Go.RowKit

section
variable {P : Program} {gl : Nat → Option (List AV)} {m : M} {H : List Blk} {w : World}

open Classical in
end

section
variable {P : Program} {gl : Nat → Option (List AV)} {m : M} {H : List Blk} {w : World}



/-- a law: its arguments by content -/
theorem call_all {E : Env} (hE : EnvFor P E) {n : Nat} {f : FuncId} {args : List AV} (h : callx E (wpx E n) f args [] {} isT) {vs : Array Value} (w : World) (hg : Glob E.gl w) (hv : VRL (mAll w) args vs.toList) :
    Calls P f vs w fun e w' => e = .returned (.bool true) ∧ Below w.heap.size w w' := by
  refine (call_ok hE h hv (HR.all hg) rfl).mono fun e w' hp => ?_
  obtain ⟨o, H', k', m', q1, q2, q3, _, q4⟩ := hp
  refine ⟨?_, Mx.below (by simpa using q4) (Nat.le_refl _) fun b hb => ?_⟩
  · unfold isT at q1
    split at q1
    · cases e <;> simp only [OutR, VR] at q2
      rw [q2]
    · cases q1
  · obtain ⟨id, I, x, h1, _⟩ := hb
    cases h1
end
end Go.Proofs.YthaapjfnadfmgaaDoor

/-
  The engine, part X3: what is weaker to know: contracts over values by content serve for nil too.
-/
set_option linter.unusedSimpArgs false
set_option linter.unusedVariables false
namespace Go.Proofs.YthaapjfnadfmgaaDoor
open Go.RowKit

end Go.Proofs.YthaapjfnadfmgaaDoor

/-
  The engine, part X4: a contract out of a proof by hand.
-/
set_option linter.unusedSimpArgs false
set_option linter.unusedVariables false
namespace Go.Proofs.YthaapjfnadfmgaaDoor
open Go.RowKit

theorem valid_below {P : Program} {gl : Nat → Option (List AV)} {f : FuncId} {c : List AV → List Blk → (Out → List Blk → Prop) → Prop} (he : Enters P f)
    (h : ∀ args H Q, c args H Q → ∀ (m : M) (w : World) (vs : Array Value), VRL m args vs.toList → ∃ a v, Q (.ret a) H ∧ VR m a v ∧ Calls P f vs w fun e w' => e = .returned v ∧ Below w.heap.size w w') : ValidF P gl f c := by
  refine ⟨he, fun args H Q hc m w vs hv hH => ?_⟩
  obtain ⟨a, v, hq, ha, hr⟩ := h args H Q hc m w vs hv
  refine hr.mono ?_
  rintro e w' ⟨rfl, bel⟩
  exact ⟨.ret a, H, m, hq, ha, hH.same (Ext.refl m) rfl rfl fun j hj => bel.block j hj,
    ⟨Ext.refl m, bel.os, bel.tape, bel.output, bel.size, fun k hk _ => bel.block k hk, fun _ h => .inr h, fun _ _ h => h, fun _ _ _ h => .inl h⟩, Nat.le_refl _, fun _ _ h => h⟩
end Go.Proofs.YthaapjfnadfmgaaDoor

/-
  The engine, part X5: a contract of a function that hands out one new block.
-/
set_option linter.unusedSimpArgs false
set_option linter.unusedVariables false
namespace Go.Proofs.YthaapjfnadfmgaaDoor
open Go.RowKit

end Go.Proofs.YthaapjfnadfmgaaDoor
