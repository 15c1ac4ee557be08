/-
  Chapter 18: CheckPrint, Check, Print.
-/
import Derived.Test.YtifjpcdpmimccaaGreatDoorB18ZA
set_option linter.unusedSimpArgs false
set_option linter.unusedVariables false
set_option linter.unusedSectionVars false
namespace Go.Proofs.YtifjpcdpmimccaaGreatDoor
open Go.RowKit
set_option maxRecDepth 1000000

def smCk : SM := lookS [(50, cValid), (53, cFing), (56, cPrintB)]
theorem smCk_ok : ∀ f g, smCk f = some g → ValidF Tryz.prog gl0 f g := lookS_ok _ (by simp only [List.mem_cons, List.not_mem_nil, or_false, forall_eq_or_imp, forall_eq]; exact ⟨valid50_ok, fing_ok, printB_ok⟩)
noncomputable def goal_17 (hv : Nat → Option Pa) (hb : Nat → Option Bool) (s : List UInt8) (Q : Out → List Blk → Gh → Prop) : Prop :=
  callx (e18 smCk (fun _ => none) hv hb) (wpx (e18 smCk (fun _ => none) hv hb) 1000) 17 [.str s] [] {} Q
theorem vc_17 (s : List UInt8) (Q : Out → List Blk → Gh → Prop) : goal_17 (lookV []) (lookB []) s Q = (
((Lf ((List.length s) ≤ (9223372036854775807 : Nat))) ∧
 (∀ b_0 : Bool, ((Lf (b_0 = (fingM s))) →
(bif b_0 then (Q (Out.ret (AV.int .i64 (0 : Int))) [] (Gh.mk (0 : Nat) (0 : Nat) []))
else (Q (Out.ret (AV.int .i64 (5 : Int))) [] (Gh.mk (0 : Nat) (0 : Nat) []))))))) := by kernel_rfl

noncomputable def goal_21 (hv : Nat → Option Pa) (hb : Nat → Option Bool) (n k : List UInt8) (f u m : Int) (Q : Out → List Blk → Gh → Prop) : Prop :=
  callx (e18 smCk (fun _ => none) hv hb) (wpx (e18 smCk (fun _ => none) hv hb) 1000) 21 [.agg (bdg n k f u m)] [] {} Q
theorem vc_21 (n : List UInt8) (k : List UInt8) (f : Int) (u : Int) (m : Int) (Q : Out → List Blk → Gh → Prop) : goal_21 (lookV []) (lookB []) n k f u m Q = (
((Lf ((List.length n) ≤ (9223372036854775807 : Nat))) ∧
 (∀ b_0 : Bool, ((Lf (b_0 = (rightBM n k f u m))) →
(bif b_0 then (Q (Out.ret (AV.int .i64 (0 : Int))) [] (Gh.mk (0 : Nat) (0 : Nat) []))
else (Q (Out.ret (AV.int .i64 (180 : Int))) [] (Gh.mk (0 : Nat) (0 : Nat) []))))))) := by kernel_rfl

noncomputable def goal_23 (hv : Nat → Option Pa) (hb : Nat → Option Bool) (n k : List UInt8) (f u m : Int) (Q : Out → List Blk → Gh → Prop) : Prop :=
  callx (e18 smCk (fun _ => none) hv hb) (wpx (e18 smCk (fun _ => none) hv hb) 1000) 23 [.agg (bdg n k f u m)] [] {} Q
theorem vc_23 (n : List UInt8) (k : List UInt8) (f : Int) (u : Int) (m : Int) (Q : Out → List Blk → Gh → Prop) : goal_23 (lookV []) (lookB []) n k f u m Q = (
((Lf ((List.length n) ≤ (9223372036854775807 : Nat))) ∧
 (∀ b_0 : Bool, ((Lf (b_0 = (rightBM n k f u m))) →
(bif b_0 then ((Lf ((List.length n) ≤ (9223372036854775807 : Nat))) ∧
 (∀ s_1 : (List UInt8), ((Lf (s_1 = (shownM (sumSM (Prod.fst (encBM n k f u m)))))) →
(Q (Out.ret (AV.tup ((AV.str s_1) :: ((AV.int .i64 (0 : Int)) :: [])))) [] (Gh.mk (0 : Nat) (0 : Nat) [])))))
else (Q (Out.ret (AV.tup ((AV.str []) :: ((AV.int .i64 (180 : Int)) :: [])))) [] (Gh.mk (0 : Nat) (0 : Nat) []))))))) := by kernel_rfl

def ckpM (s : List UInt8) : Int := if fingM s = true then 0 else 5
def cCkp : Con
  | [.str s], H, K => Lf (s.length ≤ 9223372036854775807) ∧ ∀ e, Lf (e = ckpM s) → K (.ret (.int .i64 e)) H
  | _, _, _ => False
def chkM (n k : List UInt8) (f u m : Int) : Int := if rightBM n k f u m = true then 0 else 180
def cChk : Con
  | [.agg [.str n, .str k, .int .i64 f, .int .i64 u, .int .i64 m]], H, K => Lf (n.length ≤ 9223372036854775807) ∧ ∀ e, Lf (e = chkM n k f u m) → K (.ret (.int .i64 e)) H
  | _, _, _ => False
def prtM (n k : List UInt8) (f u m : Int) : List UInt8 × Int := if rightBM n k f u m = true then (shownM (sumSM (octBM n k f u m)), 0) else ([], 180)
def cPrt : Con
  | [.agg [.str n, .str k, .int .i64 f, .int .i64 u, .int .i64 m]], H, K => Lf (n.length ≤ 9223372036854775807) ∧ ∀ s e, Lf (prtM n k f u m = (s, e)) → K (.ret (.tup [.str s, .int .i64 e])) H
  | _, _, _ => False
theorem ckp_run (s : List UInt8) (hs : s.length ≤ 9223372036854775807) (Q : Out → List Blk → Gh → Prop) (hq : ∀ g, Q (.ret (.int .i64 (ckpM s))) [] g) : ∃ hv hb, goal_17 hv hb s Q := by
  obtain ⟨hv', hb', e'⟩ : ∃ hv hb, goal_17 hv hb s Q = _ := ⟨_, _, vc_17 s Q⟩
  refine ⟨hv', hb', e'.mpr ?_⟩
  clear e'
  refine ⟨⟨hs⟩, ?_⟩
  rintro b ⟨hb⟩
  cases b with
  | false => have := hq {}; rwa [show ckpM s = 5 by rw [ckpM, ← hb]; rfl] at this
  | true => have := hq {}; rwa [show ckpM s = 0 by rw [ckpM, ← hb]; rfl] at this
theorem chk_run (n k : List UInt8) (f u m : Int) (hn : n.length ≤ 9223372036854775807) (Q : Out → List Blk → Gh → Prop) (hq : ∀ g, Q (.ret (.int .i64 (chkM n k f u m))) [] g) : ∃ hv hb, goal_21 hv hb n k f u m Q := by
  obtain ⟨hv', hb', e'⟩ : ∃ hv hb, goal_21 hv hb n k f u m Q = _ := ⟨_, _, vc_21 n k f u m Q⟩
  refine ⟨hv', hb', e'.mpr ?_⟩
  clear e'
  refine ⟨⟨hn⟩, ?_⟩
  rintro b ⟨hb⟩
  cases b with
  | false => have := hq {}; rwa [show chkM n k f u m = 180 by rw [chkM, ← hb]; rfl] at this
  | true => have := hq {}; rwa [show chkM n k f u m = 0 by rw [chkM, ← hb]; rfl] at this
theorem prt_run (n k : List UInt8) (f u m : Int) (hn : n.length ≤ 9223372036854775807) (Q : Out → List Blk → Gh → Prop) (hq : ∀ g, Q (.ret (.tup [.str (prtM n k f u m).1, .int .i64 (prtM n k f u m).2])) [] g) : ∃ hv hb, goal_23 hv hb n k f u m Q := by
  obtain ⟨hv', hb', e'⟩ : ∃ hv hb, goal_23 hv hb n k f u m Q = _ := ⟨_, _, vc_23 n k f u m Q⟩
  refine ⟨hv', hb', e'.mpr ?_⟩
  clear e'
  refine ⟨⟨hn⟩, ?_⟩
  rintro b ⟨hb⟩
  cases b with
  | false => have := hq {}; rwa [show prtM n k f u m = ([], 180) by rw [prtM, ← hb]; rfl] at this
  | true =>
    refine ⟨⟨hn⟩, ?_⟩
    rintro x ⟨rfl⟩
    have := hq {}
    rwa [show prtM n k f u m = (shownM (sumSM (encBM n k f u m).1), 0) by rw [prtM, encBM, ← hb]; rfl] at this
theorem ckp_ok : ValidF Tryz.prog gl0 17 cCkp := by
  refine valid_flat (enters_of (by kernel_rfl)) gl0_noY fun args H Q hc => ?_
  unfold cCkp at hc
  split at hc
  · rename_i s
    obtain ⟨⟨h1⟩, hq⟩ := hc
    obtain ⟨hv, hb', h⟩ := ckp_run s h1 (Q := fun o H' _ => H' = [] ∧ (∃ v, o = .ret v ∧ old 0 v = true ∧ noY v = true) ∧ Q o H) (fun _ => ⟨rfl, ⟨_, rfl, rfl, rfl⟩, hq _ ⟨rfl⟩⟩)
    exact ⟨rfl, rfl, _, 1000, envFor18 smCk_ok _ _ _, rfl, h⟩
  · exact hc.elim
theorem chk_ok : ValidF Tryz.prog gl0 21 cChk := by
  refine valid_flat (enters_of (by kernel_rfl)) gl0_noY fun args H Q hc => ?_
  unfold cChk at hc
  split at hc
  · rename_i n k f u m
    obtain ⟨⟨h1⟩, hq⟩ := hc
    obtain ⟨hv, hb', h⟩ := chk_run n k f u m h1 (Q := fun o H' _ => H' = [] ∧ (∃ v, o = .ret v ∧ old 0 v = true ∧ noY v = true) ∧ Q o H) (fun _ => ⟨rfl, ⟨_, rfl, rfl, rfl⟩, hq _ ⟨rfl⟩⟩)
    exact ⟨rfl, rfl, _, 1000, envFor18 smCk_ok _ _ _, rfl, h⟩
  · exact hc.elim
theorem prt_ok : ValidF Tryz.prog gl0 23 cPrt := by
  refine valid_flat (enters_of (by kernel_rfl)) gl0_noY fun args H Q hc => ?_
  unfold cPrt at hc
  split at hc
  · rename_i n k f u m
    obtain ⟨⟨h1⟩, hq⟩ := hc
    obtain ⟨hv, hb', h⟩ := prt_run n k f u m h1 (Q := fun o H' _ => H' = [] ∧ (∃ v, o = .ret v ∧ old 0 v = true ∧ noY v = true) ∧ Q o H) (fun _ => ⟨rfl, ⟨_, rfl, rfl, rfl⟩, hq _ _ ⟨rfl⟩⟩)
    exact ⟨rfl, rfl, _, 1000, envFor18 smCk_ok _ _ _, rfl, h⟩
  · exact hc.elim
end Go.Proofs.YtifjpcdpmimccaaGreatDoor
