/-
  The engine, part X3: what is weaker to know: contracts over values by content serve for nil too.
-/
import Derived.Test.YtafchcmemeinlaaDoorEngX2
set_option linter.unusedSimpArgs false
set_option linter.unusedVariables false
namespace Go.Proofs.YtafchcmemeinlaaDoor
open Go.RowKit

/-- a contract from a contract that asks less, or says more -/
theorem valid_wk {P : Program} {gl : Nat → Option (List AV)} {f : FuncId} {c c' : List AV → List Blk → (Out → List Blk → Prop) → Prop} (hc : ValidF P gl f c)
    (hp : ∀ args H Q, c' args H Q → ∃ args', wkL args args' ∧ c args' H fun o H' => ∃ o', wkO o o' ∧ Q o' H') : ValidF P gl f c' := by
  refine ⟨hc.1, fun args H Q h m w vs hv hH => ?_⟩
  obtain ⟨args', h1, h2⟩ := hp args H Q h
  refine (hc.2 _ _ _ h2 m w vs (h1 m _ hv) hH).mono fun e w' hq => ?_
  obtain ⟨o, H', m', ⟨o', q0, q1⟩, q2, q3, q5⟩ := hq
  refine ⟨o', H', m', q1, ?_, q3, q5⟩
  cases o with
  | ret a =>
    cases o' with
    | ret b => cases e <;> simp only [OutR] at q2 ⊢; exact q0 _ _ q2
    | pan b => exact q0.elim
  | pan a =>
    cases o' with
    | ret b => exact q0.elim
    | pan b =>
      cases e <;> simp only [OutR] at q2 ⊢
      obtain ⟨cv, e1, e2⟩ := q2
      exact ⟨cv, e1, q0 _ _ e2⟩

theorem valid_wkA {P : Program} {gl : Nat → Option (List AV)} {f : FuncId} {c c' : List AV → List Blk → (Out → List Blk → Prop) → Prop} (hc : ValidF P gl f c)
    (hp : ∀ args H Q, c' args H Q → ∃ args', wkL args args' ∧ c args' H Q) : ValidF P gl f c' := by
  refine ⟨hc.1, fun args H Q h m w vs hv hH => ?_⟩
  obtain ⟨args', h1, h2⟩ := hp args H Q h
  exact hc.2 _ _ _ h2 m w vs (h1 m _ hv) hH

/-- nil is a slice of no cells -/
def nlV : Nat → AV → AV
  | z + 1, .nils => .lst 0 [] 0 (z + 1)
  | _, v => v
def nlL : List Nat → List AV → List AV
  | z :: zs, v :: l => nlV z v :: nlL zs l
  | _, l => l
/-- .. in results -/
def nlR (zs : List Nat) : AV → AV
  | .tup l => .tup (nlL zs l)
  | v => match zs with | z :: _ => nlV z v | [] => v
theorem wk_nl (z : Nat) (v : AV) : wk v (nlV z v) := by
  cases z with
  | zero => exact wk_refl _
  | succ z => cases v <;> first | exact wk_nils _ _ | exact wk_refl _
theorem wk_nlL : ∀ (zs : List Nat) (l : List AV), wkL l (nlL zs l)
  | [], l => wkL_refl _
  | _ :: _, [] => wkL_refl _
  | z :: zs, v :: l => wkL_cons (wk_nl z v) (wk_nlL zs l)
theorem wk_nlR (zs : List Nat) (v : AV) : wk v (nlR zs v) := by
  cases v with
  | tup l => exact wk_tup (wk_nlL zs l)
  | _ => cases zs with
    | nil => exact wk_refl _
    | cons z zs => exact wk_nl z _

/-- an argument is lent: what that asks -/
def lendV (H : List Blk) (z : Nat) (v : AV) (K : AV → Prop) : Prop := match v with
  | .sl id tot off len sz => match H[id]? with
    | some b => bif Nat.beq b.cs.length tot && Nat.ble (off + len * sz) tot && b.k != .ro then K (.lst 1 (((b.cs.drop off).take (len * sz)).map fun x => frzV 1 H 8 x) len sz) else False
    | none => False
  | v => K (nlV z (frzV 1 H 9 v))
def lendL : List Nat → List Blk → List AV → (List AV → Prop) → Prop
  | _, _, [], K => K []
  | [], H, v :: l, K => lendV H 0 v fun v' => lendL [] H l fun l' => K (v' :: l')
  | z :: zs, H, v :: l, K => lendV H z v fun v' => lendL zs H l fun l' => K (v' :: l')
theorem lendV_ok {H : List Blk} {z : Nat} {v : AV} {K : AV → Prop} (h : lendV H z v K) : K (nlV z (frzV 1 H 9 v)) := by
  unfold lendV at h
  split at h
  · rename_i id tot off len sz
    split at h
    · rename_i b hb
      cases hc : (Nat.beq b.cs.length tot && Nat.ble (off + len * sz) tot && b.k != .ro)
      · rw [hc] at h; exact h.elim
      · rw [hc] at h
        have e : nlV z (frzV 1 H 9 (.sl id tot off len sz)) = .lst 1 (((b.cs.drop off).take (len * sz)).map fun x => frzV 1 H 8 x) len sz := by
          rw [frzV]
          simp only [hb, hc, cond_true]
          cases z <;> rfl
        rw [e]
        exact h
    · exact h.elim
  · exact h
theorem nlV_zero (v : AV) : nlV 0 v = v := by cases v <;> rfl
theorem lendL_ok : ∀ {zs : List Nat} {H : List Blk} {l : List AV} {K : List AV → Prop}, lendL zs H l K → K (nlL zs (frzL 1 H 9 l))
  | [], H, [], K, h => h
  | _ :: _, H, [], K, h => h
  | [], H, v :: l, K, h => by
    have h1 := lendV_ok h
    have h2 := lendL_ok h1
    simpa [nlL, frzL, nlV_zero] using h2
  | z :: zs, H, v :: l, K, h => by
    have h1 := lendV_ok h
    have h2 := lendL_ok h1
    simpa [nlL, frzL] using h2

/-- a contract over values by content serves for slices of one's own and for nil too -/
theorem valid_view {P : Program} {gl : Nat → Option (List AV)} {f : FuncId} {c : List AV → List Blk → (Out → List Blk → Prop) → Prop} (hc : ValidF P gl f c) (hgl : ∀ g cs, gl g = some cs → noYL cs = true) (zs : List Nat)
    (hp : ∀ args H Q, c args H Q → c args [] fun o H' => H' = [] ∧ (∃ v, o = .ret v ∧ noT v = true) ∧ Q o H) : ValidF P gl f fun args H Q => lendL zs H args fun a => c a H Q :=
  valid_wkA (c := fun args H Q => c (nlL zs (frzL 1 H 9 args)) H Q) (valid_lend (valid_wkA (c' := fun args H Q => c (nlL zs args) H Q) hc fun args H Q h => ⟨_, wk_nlL zs args, h⟩) hgl 9 fun args H Q h => hp _ _ _ h)
    fun args H Q h => ⟨args, wkL_refl _, lendL_ok h⟩
end Go.Proofs.YtafchcmemeinlaaDoor
