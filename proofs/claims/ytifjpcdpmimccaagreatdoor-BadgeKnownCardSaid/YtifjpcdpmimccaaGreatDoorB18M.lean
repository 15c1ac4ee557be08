/-
  Chapter 18: Sum of digests.
-/
import Derived.Test.YtifjpcdpmimccaaGreatDoorB18L
set_option linter.unusedSimpArgs false
set_option linter.unusedVariables false
set_option linter.unusedSectionVars false
namespace Go.Proofs.YtifjpcdpmimccaaGreatDoor
open Go.RowKit
set_option maxRecDepth 1000000

def smU : SM := lookS [(114, cMade), (115, cSum)]
theorem smU_ok : ∀ f g, smU f = some g → ValidF Tryz.prog gl0 f g := lookS_ok _ (by simp only [List.mem_cons, List.not_mem_nil, or_false, forall_eq_or_imp, forall_eq]; exact ⟨made_ok, sum18_raw⟩)
noncomputable def env_82 (hv : Nat → Option Pa) (hb : Nat → Option Bool) : Env := { e18 smU (fun _ => none) hv hb with hz := fun k => Nat.beq k 335877 || Nat.beq k 335881 }
theorem envFor_82 (hv : Nat → Option Pa) (hb : Nat → Option Bool) : EnvFor Tryz.prog (env_82 hv hb) := ⟨mixed18, names18, tabA_ok, smU_ok⟩
noncomputable def goal_82 (hv : Nat → Option Pa) (hb : Nat → Option Bool) (s : List UInt8) (Q : Out → List Blk → Gh → Prop) : Prop :=
  callx (env_82 hv hb) (wpx (env_82 hv hb) 1000) 82 [.str s] [] {} Q
theorem vc_82 (s : List UInt8) (Q : Out → List Blk → Gh → Prop) : goal_82 (lookV [(462860, .int .i64)]) (lookB []) s Q = (
(∃ n_0 : Int, (((AV.int .i64 (Nat.cast (List.length s) : Int)) = (AV.int .i64 n_0)) ∧
 (bif (decide (n_0 > (4096 : Int))) then (Q (Out.ret (AV.tup ((AV.str []) :: ((AV.int .i64 (3 : Int)) :: [])))) [] (Gh.mk (0 : Nat) (0 : Nat) []))
else (∀ ks_1 : (List Nat), ((Lf (ks_1 = (startM ++ kkM))) →
(∃ st_2 : W8, (∃ kk_3 : (List Nat), (∃ l_4 : (List (List UInt8)), ((Lf (((cells32M ks_1) = ((AV.int .u32 (Nat.cast (st_2).1 : Int)) :: ((AV.int .u32 (Nat.cast (st_2).2 : Int)) :: ((AV.int .u32 (Nat.cast (st_2).3 : Int)) :: ((AV.int .u32 (Nat.cast (st_2).4 : Int)) :: ((AV.int .u32 (Nat.cast (st_2).5 : Int)) :: ((AV.int .u32 (Nat.cast (st_2).6 : Int)) :: ((AV.int .u32 (Nat.cast (st_2).7 : Int)) :: ((AV.int .u32 (Nat.cast (st_2).8 : Int)) :: (cells32M kk_3)))))))))) ∧
 ((((AV.str s) :: []) = (cellsSM l_4)) ∧
 (((1 : Nat) = (List.length l_4)) ∧
 ((okW8 st_2) ∧
 ((okK kk_3) ∧
 (((List.length l_4) ≤ (1000 : Nat)) ∧
 (∀ s_5 : (List UInt8), ((Membership.mem l_4 s_5) →
((List.length s_5) ≤ (100000 : Nat))))))))))) ∧
 (∀ x_5 : (List UInt8), ((Lf (x_5 = (sumLM kk_3 st_2 l_4))) →
(Q (Out.ret (AV.tup ((AV.str x_5) :: ((AV.int .i64 (0 : Int)) :: [])))) [] (Gh.mk (0 : Nat) (0 : Nat) [])))))))))))))) := by kernel_rfl

def startW : W8 := ⟨1779033703, 3144134277, 1013904242, 2773480762, 1359893119, 2600822924, 528734635, 1541459225⟩
def sumSM (s : List UInt8) : List UInt8 := sumLM kkM startW [s]
theorem kk_ok : okK kkM := ⟨rfl, fun i => by
  by_cases h : i < 64
  · have : ∀ j : Fin 64, kkM.getD j 0 < 4294967296 := by decide
    exact this ⟨i, h⟩
  · rw [List.getD_eq_getElem?_getD, List.getElem?_eq_none (by show 64 ≤ i; omega)]
    decide⟩
theorem sumS_run (s : List UInt8) (hs : s.length ≤ 9223372036854775807) (Q : Out → List Blk → Gh → Prop) (h1 : 4096 < s.length → Q (.ret (.tup [.str [], .int .i64 3])) [] {}) (h2 : s.length ≤ 4096 → Q (.ret (.tup [.str (sumSM s), .int .i64 0])) [] {}) : ∃ hv hb, goal_82 hv hb s Q := by
  obtain ⟨hv', hb', e'⟩ : ∃ hv hb, goal_82 hv hb s Q = _ := ⟨_, _, vc_82 s Q⟩
  refine ⟨hv', hb', e'.mpr ?_⟩
  clear e'
  refine ⟨_, rfl, splitD (fun h => h1 (by omega)) (fun h => ?_)⟩
  rintro ks ⟨e⟩
  refine ⟨startW, kkM, [s], ⟨by rw [e]; rfl, rfl, rfl, by unfold startW; decide, kk_ok, by simp, fun x hx => by simp at hx; subst hx; omega⟩, ?_⟩
  rintro x ⟨ex⟩
  rw [ex]
  exact h2 (by omega)
def cSum82 : Con
  | [.str s], H, K => Lf (s.length ≤ 4096) ∧ ∀ x, Lf (x = sumSM s) → K (.ret (.tup [.str x, .int .i64 0])) H
  | _, _, _ => False
theorem sum82_ok : ValidF Tryz.prog gl0 82 cSum82 := by
  refine valid_flat (enters_of (by kernel_rfl)) gl0_noY fun args H Q hc => ?_
  unfold cSum82 at hc
  split at hc
  · rename_i s
    obtain ⟨⟨h1⟩, hq⟩ := hc
    obtain ⟨hv, hb', h⟩ := sumS_run s (by omega) (Q := fun o H' _ => H' = [] ∧ (∃ v, o = .ret v ∧ old 0 v = true ∧ noY v = true) ∧ Q o H) (fun h => absurd h (by omega)) (fun _ => ⟨rfl, ⟨_, rfl, rfl, rfl⟩, hq _ ⟨rfl⟩⟩)
    exact ⟨rfl, rfl, _, 1000, envFor_82 hv hb', rfl, h⟩
  · exact hc.elim
theorem octs_len (v : W8) : (octs8 v).length = 32 := rfl
theorem sumS_len (s : List UInt8) : (sumSM s).length = 32 := octs_len _
end Go.Proofs.YtifjpcdpmimccaaGreatDoor
