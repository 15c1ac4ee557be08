/-
  Chapter 01 (OctetsReads): the environment of runs; the chapter's examples hold.
-/
import Derived.Test.YthaapjfnadfmgaaO1T
import Derived.Test.YthaapjfnadfmgaaEnJ
import Derived.Test.YthaapjfnadfmgaaEnH
import Derived.MakeChecks
set_option linter.unusedSimpArgs false
set_option linter.unusedVariables false
namespace Go.Proofs.Ythaapjfnadfmgaa
open Go.RowKit
set_option maxRecDepth 1000000

abbrev SM := Nat → Option (List AV → List Blk → (Out → List Blk → Prop) → Prop)
abbrev Con := List AV → List Blk → (Out → List Blk → Prop) → Prop
def gl0 : Nat → Option (List AV) := fun _ => none
theorem gl0_noY : ∀ g cs, gl0 g = some cs → noYL cs = true := fun _ _ h => by cases h
noncomputable def e01 (sm : SM) (inv : Nat → Option (S → List (List LInv))) (hv : Nat → Option Pa) (hb : Nat → Option Bool) : Env :=
  { fn := fun f => lookF f tabA, sm := sm, gl := gl0, inv := inv, hv := hv, hb := hb, hz := fun _ => false }
theorem names01 : namesOk Try.prog = true := by kernel_rfl
theorem mixed01 : Try.prog.follows .mixedOrders = true := by kernel_rfl
theorem envFor01 {sm : SM} (h : ∀ f g, sm f = some g → ValidF Try.prog gl0 f g) (inv : Nat → Option (S → List (List LInv))) (hv : Nat → Option Pa) (hb : Nat → Option Bool) : EnvFor Try.prog (e01 sm inv hv hb) :=
  ⟨mixed01, names01, tabA_ok, h⟩
/-- a table of contracts -/
def lookS : List (Nat × Con) → SM
  | [], _ => none
  | (k, c) :: l, f => bif Nat.beq f k then some c else lookS l f
theorem lookS_ok : ∀ (l : List (Nat × Con)), (∀ p, p ∈ l → ValidF Try.prog gl0 p.1 p.2) → ∀ f g, lookS l f = some g → ValidF Try.prog gl0 f g
  | [], _, f, g, h => by simp [lookS] at h
  | (k, c) :: l, hl, f, g, h => by
    simp only [lookS] at h
    cases hk : Nat.beq f k
    · rw [hk] at h
      exact lookS_ok l (fun p hp => hl p (by simp [hp])) f g h
    · rw [hk] at h
      simp only [cond_true, Option.some.injEq] at h
      subst h
      obtain rfl := Nat.eq_of_beq_eq_true hk
      exact hl (f, c) (by simp)
def sm0 : SM := fun _ => none
theorem sm0_ok : ∀ f g, sm0 f = some g → ValidF Try.prog gl0 f g := fun _ _ h => by cases h
def qW : QE := { fn := fun f => lookF f tabA, sm := fun _ => none, gl := gl0 }
theorem envForQW : EnvFor Try.prog (qenv qW) := ⟨mixed01, names01, tabA_ok, fun f g h => by cases h⟩
theorem works_run : callxQ qW (wpQ qW 1000000) 9 [] [] {} isTQ = true := by kernel_rfl
theorem works_ok : ValidF Try.prog gl0 9 cTrue := valid_quick (q := qW) (enters_of (by kernel_rfl)) gl0_noY envForQW works_run
end Go.Proofs.Ythaapjfnadfmgaa
