/-
  Chapter 18: Encode; the reference's Right and Octets, proved.
-/
import Derived.Test.YtifjpcdpmimccaaGreatDoorB18Q
set_option linter.unusedSimpArgs false
set_option linter.unusedVariables false
set_option linter.unusedSectionVars false
namespace Go.Proofs.YtifjpcdpmimccaaGreatDoor
open Go.RowKit
set_option maxRecDepth 1000000

theorem asI {α : Type} {p : Prop} {x : α} {K : α → Prop} (h : p) (hk : K x) : Lf p ∧ ∀ s, Lf (s = x) → K s := ⟨⟨h⟩, fun s hs => by rw [hs.h]; exact hk⟩
def octBM (n k : List UInt8) (f u m : Int) : List UInt8 := ((((([UInt8.ofNat 102, UInt8.ofNat 100, UInt8.ofNat 1] ++ beBM 6 m.toNat) ++ beBM 6 f.toNat) ++ beBM 6 u.toNat) ++ beBM 1 n.length) ++ n) ++ k
def encBM (n k : List UInt8) (f u m : Int) : List UInt8 × Int := if rightBM n k f u m = true then (octBM n k f u m, 0) else ([], 180)
theorem be_len : ∀ n v, (beBM n v).length = n
  | 0, _ => rfl
  | n + 1, v => by rw [beBM, List.length_cons, be_len n]
theorem octB_len (n k : List UInt8) (f u m : Int) : (octBM n k f u m).length = 22 + n.length + k.length := by
  simp only [octBM, List.length_append, be_len]
  simp
theorem enc22_run (n k : List UInt8) (f u m : Int) (hn : n.length ≤ 9223372036854775807) (Q : Out → List Blk → Gh → Prop) (hq : Q (.ret (.tup [.str (encBM n k f u m).1, .int .i64 (encBM n k f u m).2])) [] {}) : ∃ hv hb, goal_22 hv hb n k f u m Q := by
  obtain ⟨hv', hb', e'⟩ : ∃ hv hb, goal_22 hv hb n k f u m Q = _ := ⟨_, _, vc_22 n k f u m Q⟩
  refine ⟨hv', hb', e'.mpr ?_⟩
  clear e'
  refine asI hn ?_
  cases hr : rightBM n k f u m with
  | false =>
    rw [encBM, hr] at hq
    exact hq
  | true =>
    rw [encBM, hr] at hq
    obtain ⟨h1, h2, h3, h4, h5, h6, h7⟩ := (right_iff n k f u m).1 hr
    have h8 := ((name_iff n).1 h1).2.1
    have hl : ∀ v, (beBM (Int.toNat 6) v).length = 6 := fun v => be_len 6 v
    have hl1 : ∀ v, (beBM (Int.toNat 1) v).length = 1 := fun v => be_len 1 v
    refine ⟨_, rfl, ?_⟩
    repeat (first
      | ((with_reducible refine ckI ?_ ?_); (focus (first | (simp [eqAVL, eqAV, eqB_refl]; done) | (simp [be_len]; done) | (simp [be_len]; omega))))
      | ((with_reducible refine asI ?_ ?_); (focus (first | exact ⟨by omega, .inr (.inr ⟨rfl, by omega⟩)⟩ | exact ⟨by omega, .inl ⟨rfl, by omega⟩⟩)))
      | with_reducible refine ⟨_, rfl, ?_⟩)
    exact hq
def cEncB : Con
  | [.agg [.str n, .str k, .int .i64 f, .int .i64 u, .int .i64 m]], H, K => Lf (n.length ≤ 9223372036854775807) ∧ ∀ s e, Lf (encBM n k f u m = (s, e)) → K (.ret (.tup [.str s, .int .i64 e])) H
  | _, _, _ => False
theorem encB_ok : ValidF Tryz.prog gl0 22 cEncB := by
  refine valid_flat (enters_of (by kernel_rfl)) gl0_noY fun args H Q hc => ?_
  unfold cEncB at hc
  split at hc
  · rename_i n k f u m
    obtain ⟨⟨h1⟩, hq⟩ := hc
    obtain ⟨hv, hb', h⟩ := enc22_run n k f u m h1 (Q := fun o H' _ => H' = [] ∧ (∃ v, o = .ret v ∧ old 0 v = true ∧ noY v = true) ∧ Q o H) ⟨rfl, ⟨_, rfl, rfl, rfl⟩, hq _ _ ⟨rfl⟩⟩
    exact ⟨rfl, rfl, _, 1000, envFor18 smE_ok _ hv hb', rfl, h⟩
  · exact hc.elim
end Go.Proofs.YtifjpcdpmimccaaGreatDoor
