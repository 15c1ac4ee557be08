/-
  Chapter 23: the environment of runs; strings.Repeat; the chapter's examples hold.
-/
import Derived.Test.YtbchmkhliehbfaaDoorM23T
import Derived.Test.YtbchmkhliehbfaaDoorM23P
import Derived.Test.YtbchmkhliehbfaaDoorEnJ
import Derived.Test.YtbchmkhliehbfaaDoorEnH
import Derived.MakeChecks
set_option linter.unusedSimpArgs false
set_option linter.unusedVariables false
namespace Go.Proofs.YtbchmkhliehbfaaDoor
open Go.RowKit
set_option maxRecDepth 1000000

abbrev SM := Nat → Option (List AV → List Blk → (Out → List Blk → Prop) → Prop)
abbrev Con := List AV → List Blk → (Out → List Blk → Prop) → Prop
def gl0 : Nat → Option (List AV) := fun _ => none
theorem gl0_noY : ∀ g cs, gl0 g = some cs → noYL cs = true := fun _ _ h => by cases h
noncomputable def e23 (sm : SM) (inv : Nat → Option (S → List (List LInv))) (hv : Nat → Option Pa) (hb : Nat → Option Bool) : Env :=
  { fn := fun f => lookF f tabA, sm := sm, gl := gl0, inv := inv, hv := hv, hb := hb, hz := fun _ => false }
theorem names23 : namesOk Tryd.prog = true := by kernel_rfl
theorem mixed23 : Tryd.prog.follows .mixedOrders = true := by kernel_rfl
theorem envFor23 {sm : SM} (h : ∀ f g, sm f = some g → ValidF Tryd.prog gl0 f g) (inv : Nat → Option (S → List (List LInv))) (hv : Nat → Option Pa) (hb : Nat → Option Bool) : EnvFor Tryd.prog (e23 sm inv hv hb) :=
  ⟨mixed23, names23, tabA_ok, h⟩
/-- a table of contracts -/
def lookS : List (Nat × Con) → SM
  | [], _ => none
  | (k, c) :: l, f => bif Nat.beq f k then some c else lookS l f
theorem lookS_ok : ∀ (l : List (Nat × Con)), (∀ p, p ∈ l → ValidF Tryd.prog gl0 p.1 p.2) → ∀ f g, lookS l f = some g → ValidF Tryd.prog gl0 f g
  | [], _, f, g, h => by simp [lookS] at h
  | (k, c) :: l, hl, f, g, h => by
    simp only [lookS] at h
    cases hk : Nat.beq f k
    · rw [hk] at h
      exact lookS_ok l (fun p hp => hl p (by simp [hp])) f g h
    · rw [hk] at h
      simp only [cond_true, Option.some.injEq] at h
      subst h
      obtain rfl := Nat.eq_of_beq_eq_true hk
      exact hl (f, c) (by simp)
def sm0 : SM := fun _ => none
theorem sm0_ok : ∀ f g, sm0 f = some g → ValidF Tryd.prog gl0 f g := fun _ _ h => by cases h

def repM (s : List UInt8) (n : Nat) : List UInt8 := Lib.repeatL s n
def cRepeat : Con
  | [.str s, .int .i64 c], H, K => bif decide (0 ≤ c) && Nat.ble c.toNat 9223372036854775807 && Nat.ble (s.length * c.toNat) 140737488355328 then K (.ret (.str (repM s c.toNat))) H else False
  | _, _, _ => False
theorem repeat_ok : ValidF Tryd.prog gl0 30 cRepeat := by
  refine valid_below (enters_of (by kernel_rfl)) fun args H Q hc m w vs hv => ?_
  unfold cRepeat at hc
  split at hc
  · rename_i s c
    cases hb : decide (0 ≤ c) && Nat.ble c.toNat 9223372036854775807 && Nat.ble (s.length * c.toNat) 140737488355328
    · rw [hb] at hc; exact hc.elim
    · rw [hb] at hc
      simp only [Bool.and_eq_true, decide_eq_true_eq, Nat.ble_eq] at hb
      obtain ⟨v1, l1, e1, h1, r1⟩ := VRL_consL hv
      obtain ⟨v2, l2, e2, h2, r2⟩ := VRL_consL r1
      rw [VRL_nil] at r2
      subst r2
      simp only [VR] at h1 h2
      subst h1
      subst h2
      have ev : vs = #[.string ⟨s.toArray⟩, .int .i64 c] := by
        cases vs
        simp only at e1
        rw [e1, e2]
      subst ev
      obtain ⟨n, rfl⟩ : ∃ n : Nat, c = n := ⟨c.toNat, by omega⟩
      have hr := Tryd.strings_Repeat ⟨s.toArray⟩ n w (by simpa using hb.1.2) (by have := hb.2; simpa [ByteArray.size] using this)
      exact ⟨_, _, hc, by simp [VR, repM], hr⟩
  · exact hc.elim
/-- .. as it is computed -/
def cRepeatQ : ConQ
  | [.str s, .int .i64 c], H => bif decide (0 ≤ c) && Nat.ble c.toNat 9223372036854775807 && Nat.ble (s.length * c.toNat) 140737488355328 then some (.ret (.str (repM s c.toNat)), H) else none
  | _, _ => none
theorem repeatQ_ok : ValidF Tryd.prog gl0 30 (toP cRepeatQ) := valid_to repeat_ok fun args H o H' K ho hk => by
  unfold cRepeatQ at ho
  split at ho
  · rename_i s c
    show (bif decide (0 ≤ c) && Nat.ble c.toNat 9223372036854775807 && Nat.ble (s.length * c.toNat) 140737488355328 then K (.ret (.str (repM s c.toNat))) H else False)
    cases hb : decide (0 ≤ c) && Nat.ble c.toNat 9223372036854775807 && Nat.ble (s.length * c.toNat) 140737488355328 <;> rw [hb] at ho
    · cases ho
    · cases ho; exact hk
  · cases ho
def qW : QE := { fn := fun f => lookF f tabA, sm := lookQ [(30, cRepeatQ)], gl := gl0 }
theorem envForQW : EnvFor Tryd.prog (qenv qW) := ⟨mixed23, names23, tabA_ok, lookQ_ok _ (by simp only [List.mem_cons, List.not_mem_nil, or_false, forall_eq]; exact repeatQ_ok)⟩
theorem works_run : callxQ qW (wpQ qW 1000000) 19 [] [] {} isTQ = true := by kernel_rfl
theorem works_ok : ValidF Tryd.prog gl0 19 cTrue := valid_quick (q := qW) (enters_of (by kernel_rfl)) gl0_noY envForQW works_run
end Go.Proofs.YtbchmkhliehbfaaDoor
