/-
  Chapter 18: CheckPrint, Check, Print.
-/
import Derived.Test.YtifjpcdpmimccaaGreatDoorBmB
set_option linter.unusedSimpArgs false
set_option linter.unusedVariables false
set_option linter.unusedSectionVars false
namespace Go.Proofs.YtifjpcdpmimccaaGreatDoor
open Go.RowKit
set_option maxRecDepth 1000000

def smCk : SM := lookS [(50, cValid), (53, cFing), (56, cPrintB)]
theorem smCk_ok : ∀ f g, smCk f = some g → ValidF Tryz.prog gl0 f g := lookS_ok _ (by simp only [List.mem_cons, List.not_mem_nil, or_false, forall_eq_or_imp, forall_eq]; exact ⟨valid50_ok, fing_ok, printB_ok⟩)
noncomputable def goal_17 (hv : Nat → Option Pa) (hb : Nat → Option Bool) (s : List UInt8) (Q : Out → List Blk → Gh → Prop) : Prop :=
  callx (e18 smCk (fun _ => none) hv hb) (wpx (e18 smCk (fun _ => none) hv hb) 1000) 17 [.str s] [] {} Q
theorem vc_17 (s : List UInt8) (Q : Out → List Blk → Gh → Prop) : goal_17 (lookV []) (lookB []) s Q = (
((Lf ((List.length s) ≤ (9223372036854775807 : Nat))) ∧
 (∀ b_0 : Bool, ((Lf (b_0 = (fingM s))) →
(bif b_0 then (Q (Out.ret (AV.int .i64 (0 : Int))) [] (Gh.mk (0 : Nat) (0 : Nat) []))
else (Q (Out.ret (AV.int .i64 (5 : Int))) [] (Gh.mk (0 : Nat) (0 : Nat) []))))))) := by kernel_rfl

noncomputable def goal_21 (hv : Nat → Option Pa) (hb : Nat → Option Bool) (n k : List UInt8) (f u m : Int) (Q : Out → List Blk → Gh → Prop) : Prop :=
  callx (e18 smCk (fun _ => none) hv hb) (wpx (e18 smCk (fun _ => none) hv hb) 1000) 21 [.agg (bdg n k f u m)] [] {} Q
theorem vc_21 (n : List UInt8) (k : List UInt8) (f : Int) (u : Int) (m : Int) (Q : Out → List Blk → Gh → Prop) : goal_21 (lookV []) (lookB []) n k f u m Q = (
((Lf ((List.length n) ≤ (9223372036854775807 : Nat))) ∧
 (∀ b_0 : Bool, ((Lf (b_0 = (rightBM n k f u m))) →
(bif b_0 then (Q (Out.ret (AV.int .i64 (0 : Int))) [] (Gh.mk (0 : Nat) (0 : Nat) []))
else (Q (Out.ret (AV.int .i64 (180 : Int))) [] (Gh.mk (0 : Nat) (0 : Nat) []))))))) := by kernel_rfl

noncomputable def goal_23 (hv : Nat → Option Pa) (hb : Nat → Option Bool) (n k : List UInt8) (f u m : Int) (Q : Out → List Blk → Gh → Prop) : Prop :=
  callx (e18 smCk (fun _ => none) hv hb) (wpx (e18 smCk (fun _ => none) hv hb) 1000) 23 [.agg (bdg n k f u m)] [] {} Q
theorem vc_23 (n : List UInt8) (k : List UInt8) (f : Int) (u : Int) (m : Int) (Q : Out → List Blk → Gh → Prop) : goal_23 (lookV []) (lookB []) n k f u m Q = (
((Lf ((List.length n) ≤ (9223372036854775807 : Nat))) ∧
 (∀ b_0 : Bool, ((Lf (b_0 = (rightBM n k f u m))) →
(bif b_0 then ((Lf ((List.length n) ≤ (9223372036854775807 : Nat))) ∧
 (∀ s_1 : (List UInt8), ((Lf (s_1 = (shownM (sumSM (Prod.fst (encBM n k f u m)))))) →
(Q (Out.ret (AV.tup ((AV.str s_1) :: ((AV.int .i64 (0 : Int)) :: [])))) [] (Gh.mk (0 : Nat) (0 : Nat) [])))))
else (Q (Out.ret (AV.tup ((AV.str []) :: ((AV.int .i64 (180 : Int)) :: [])))) [] (Gh.mk (0 : Nat) (0 : Nat) []))))))) := by kernel_rfl

def ckpM (s : List UInt8) : Int := if fingM s = true then 0 else 5
def cCkp : Con
  | [.str s], H, K => Lf (s.length ≤ 9223372036854775807) ∧ ∀ e, Lf (e = ckpM s) → K (.ret (.int .i64 e)) H
  | _, _, _ => False
def chkM (n k : List UInt8) (f u m : Int) : Int := if rightBM n k f u m = true then 0 else 180
def cChk : Con
  | [.agg [.str n, .str k, .int .i64 f, .int .i64 u, .int .i64 m]], H, K => Lf (n.length ≤ 9223372036854775807) ∧ ∀ e, Lf (e = chkM n k f u m) → K (.ret (.int .i64 e)) H
  | _, _, _ => False
def prtM (n k : List UInt8) (f u m : Int) : List UInt8 × Int := if rightBM n k f u m = true then (shownM (sumSM (octBM n k f u m)), 0) else ([], 180)
def cPrt : Con
  | [.agg [.str n, .str k, .int .i64 f, .int .i64 u, .int .i64 m]], H, K => Lf (n.length ≤ 9223372036854775807) ∧ ∀ s e, Lf (prtM n k f u m = (s, e)) → K (.ret (.tup [.str s, .int .i64 e])) H
  | _, _, _ => False
theorem ckp_run (s : List UInt8) (hs : s.length ≤ 9223372036854775807) (Q : Out → List Blk → Gh → Prop) (hq : ∀ g, Q (.ret (.int .i64 (ckpM s))) [] g) : ∃ hv hb, goal_17 hv hb s Q := by
  obtain ⟨hv', hb', e'⟩ : ∃ hv hb, goal_17 hv hb s Q = _ := ⟨_, _, vc_17 s Q⟩
  refine ⟨hv', hb', e'.mpr ?_⟩
  clear e'
  refine ⟨⟨hs⟩, ?_⟩
  rintro b ⟨hb⟩
  cases b with
  | false => have := hq {}; rwa [show ckpM s = 5 by rw [ckpM, ← hb]; rfl] at this
  | true => have := hq {}; rwa [show ckpM s = 0 by rw [ckpM, ← hb]; rfl] at this
theorem chk_run (n k : List UInt8) (f u m : Int) (hn : n.length ≤ 9223372036854775807) (Q : Out → List Blk → Gh → Prop) (hq : ∀ g, Q (.ret (.int .i64 (chkM n k f u m))) [] g) : ∃ hv hb, goal_21 hv hb n k f u m Q := by
  obtain ⟨hv', hb', e'⟩ : ∃ hv hb, goal_21 hv hb n k f u m Q = _ := ⟨_, _, vc_21 n k f u m Q⟩
  refine ⟨hv', hb', e'.mpr ?_⟩
  clear e'
  refine ⟨⟨hn⟩, ?_⟩
  rintro b ⟨hb⟩
  cases b with
  | false => have := hq {}; rwa [show chkM n k f u m = 180 by rw [chkM, ← hb]; rfl] at this
  | true => have := hq {}; rwa [show chkM n k f u m = 0 by rw [chkM, ← hb]; rfl] at this
theorem prt_run (n k : List UInt8) (f u m : Int) (hn : n.length ≤ 9223372036854775807) (Q : Out → List Blk → Gh → Prop) (hq : ∀ g, Q (.ret (.tup [.str (prtM n k f u m).1, .int .i64 (prtM n k f u m).2])) [] g) : ∃ hv hb, goal_23 hv hb n k f u m Q := by
  obtain ⟨hv', hb', e'⟩ : ∃ hv hb, goal_23 hv hb n k f u m Q = _ := ⟨_, _, vc_23 n k f u m Q⟩
  refine ⟨hv', hb', e'.mpr ?_⟩
  clear e'
  refine ⟨⟨hn⟩, ?_⟩
  rintro b ⟨hb⟩
  cases b with
  | false => have := hq {}; rwa [show prtM n k f u m = ([], 180) by rw [prtM, ← hb]; rfl] at this
  | true =>
    refine ⟨⟨hn⟩, ?_⟩
    rintro x ⟨rfl⟩
    have := hq {}
    rwa [show prtM n k f u m = (shownM (sumSM (encBM n k f u m).1), 0) by rw [prtM, encBM, ← hb]; rfl] at this
theorem ckp_ok : ValidF Tryz.prog gl0 17 cCkp := by
  refine valid_flat (enters_of (by kernel_rfl)) gl0_noY fun args H Q hc => ?_
  unfold cCkp at hc
  split at hc
  · rename_i s
    obtain ⟨⟨h1⟩, hq⟩ := hc
    obtain ⟨hv, hb', h⟩ := ckp_run s h1 (Q := fun o H' _ => H' = [] ∧ (∃ v, o = .ret v ∧ old 0 v = true ∧ noY v = true) ∧ Q o H) (fun _ => ⟨rfl, ⟨_, rfl, rfl, rfl⟩, hq _ ⟨rfl⟩⟩)
    exact ⟨rfl, rfl, _, 1000, envFor18 smCk_ok _ _ _, rfl, h⟩
  · exact hc.elim
theorem chk_ok : ValidF Tryz.prog gl0 21 cChk := by
  refine valid_flat (enters_of (by kernel_rfl)) gl0_noY fun args H Q hc => ?_
  unfold cChk at hc
  split at hc
  · rename_i n k f u m
    obtain ⟨⟨h1⟩, hq⟩ := hc
    obtain ⟨hv, hb', h⟩ := chk_run n k f u m h1 (Q := fun o H' _ => H' = [] ∧ (∃ v, o = .ret v ∧ old 0 v = true ∧ noY v = true) ∧ Q o H) (fun _ => ⟨rfl, ⟨_, rfl, rfl, rfl⟩, hq _ ⟨rfl⟩⟩)
    exact ⟨rfl, rfl, _, 1000, envFor18 smCk_ok _ _ _, rfl, h⟩
  · exact hc.elim
theorem prt_ok : ValidF Tryz.prog gl0 23 cPrt := by
  refine valid_flat (enters_of (by kernel_rfl)) gl0_noY fun args H Q hc => ?_
  unfold cPrt at hc
  split at hc
  · rename_i n k f u m
    obtain ⟨⟨h1⟩, hq⟩ := hc
    obtain ⟨hv, hb', h⟩ := prt_run n k f u m h1 (Q := fun o H' _ => H' = [] ∧ (∃ v, o = .ret v ∧ old 0 v = true ∧ noY v = true) ∧ Q o H) (fun _ => ⟨rfl, ⟨_, rfl, rfl, rfl⟩, hq _ _ ⟨rfl⟩⟩)
    exact ⟨rfl, rfl, _, 1000, envFor18 smCk_ok _ _ _, rfl, h⟩
  · exact hc.elim
end Go.Proofs.YtifjpcdpmimccaaGreatDoor

set_option linter.unusedSimpArgs false
set_option linter.unusedVariables false
set_option linter.unusedSectionVars false
namespace Go.Proofs.YtifjpcdpmimccaaGreatDoor
open Go.RowKit
set_option maxRecDepth 1000000

def inv_89 (l : List (List UInt8)) (s : S) : List (List LInv) := [[{ α := Nat, pre := fun i => Lf (i ≤ l.length ∧ ∀ j, j < i → fingM (l.getD j []) = true), st := fun i => ⟨mkT [(0, s.tm.get 0), (1, s.tm.get 1), (7, s.tm.get 7), (8, .int .i64 (i : Nat))], s.hp⟩, mu := fun i => l.length - i }]]
def inv_36 (l : List (List UInt8)) (s : S) : List (List LInv) := match s.tm.get 1 with
  | .str x => [[{ α := Nat, pre := fun i => Lf (i ≤ l.length ∧ ∀ j, j < i → eqB x (l.getD j []) = false), st := fun i => ⟨mkT [(0, s.tm.get 0), (1, s.tm.get 1), (7, s.tm.get 7), (8, .int .i64 (i : Nat))], s.hp⟩, mu := fun i => l.length - i }]]
  | _ => []
noncomputable def env_28 (hv : Nat → Option Pa) (hb : Nat → Option Bool) (l : List (List UInt8)) : Env := e18 smCk (fun i => bif Nat.beq i 89000 then some (inv_89 l) else bif Nat.beq i 36000 then some (inv_36 l) else none) hv hb
noncomputable def goal_28 (hv : Nat → Option Pa) (hb : Nat → Option Bool) (tg : Nat) (l : List (List UInt8)) (n k : List UInt8) (f u m : Int) (Q : Out → List Blk → Gh → Prop) : Prop :=
  callx (env_28 hv hb l) (wpx (env_28 hv hb l) 1000) 28 [.agg (bdg n k f u m), .lst tg (cellsSM l) l.length 1] [] {} Q
def vc_28_1 (tg : Nat) (l : List (List UInt8)) (n : List UInt8) (k : List UInt8) (f : Int) (u : Int) (m : Int) (Q : Out → List Blk → Gh → Prop) : Prop :=
Lf (n.length ≤ 9223372036854775807) ∧ ∀ s_0 : List UInt8, Lf (s_0 = shownM (sumSM (encBM n k f u m).1)) → exI .i64 (l.length : Int) fun n_1 => (∃ x_2 : Nat, Lf (x_2 ≤ l.length ∧ ∀ j_3 : Nat, j_3 < x_2 → eqB s_0 (l.getD j_3 []) = false) ∧
 eqqQ [AV.str n, .str k, .int .i64 f, .int .i64 u, .int .i64 m] ∧ eqqQ (AV.lst tg (cellsSM l) l.length 1) ∧ eqqQ (AV.str s_0) ∧ eqqQ (AV.int .i64 n_1) ∧ AV.int .i64 0 = AV.int .i64 (x_2 : Int) ∧ True) ∧ ∀ x_2 : Nat, Lf (x_2 ≤ l.length ∧ ∀
 j_3 : Nat, j_3 < x_2 → eqB s_0 (l.getD j_3 []) = false) → bif decide ((x_2 : Int) < n_1) then exI .i64 (x_2 : Int) fun n_3 => ckQ (decide (0 ≤ n_3) && Nat.blt n_3.toNat l.length && true) (ckQ (Nat.blt (n_3.toNat * 1) (cellsSM l).length)
 (exS ((cellsSM l).getD (n_3.toNat * 1) AV.undef) fun s_4 => bif eqB s_0 s_4 then bif decide (n_3 < 0) then Q (.ret (.tup [.int .i64 0, .int .i64 4])) [] {} else Q (.ret (.tup [.int .i64 n_3, .int .i64 0])) [] {} else exW .i64 ((x_2 : Int)
 + 1) fun n_5 => (True ∧ (0 : Nat) = (0 : Nat)) ∧ ∃ y_6 : Nat, Lf (y_6 ≤ l.length ∧ ∀ j_7 : Nat, j_7 < y_6 → eqB s_0 (l.getD j_7 []) = false) ∧ l.length - y_6 < l.length - x_2 ∧ eqqQ [AV.str n, .str k, .int .i64 f, .int .i64 u, .int .i64 m]
 ∧ eqqQ (AV.lst tg (cellsSM l) l.length 1) ∧ eqqQ (AV.str s_0) ∧ eqqQ (AV.int .i64 n_1) ∧ AV.int .i64 n_5 = AV.int .i64 (y_6 : Int) ∧ True)) else Q (.ret (.tup [.int .i64 0, .int .i64 4])) [] {}
theorem vc_28 (tg : Nat) (l : List (List UInt8)) (n : List UInt8) (k : List UInt8) (f : Int) (u : Int) (m : Int) (Q : Out → List Blk → Gh → Prop) : goal_28 (lookV [(114699, .int .i64), (364551, .int .i64), (364554, .int .i64), (364559,
 .str), (364562, .int .i64), (147463, .int .i64), (147466, .int .i64), (147471, .str), (147474, .int .i64)]) (lookB []) tg l n k f u m Q = (Lf (n.length ≤ 9223372036854775807) ∧ ∀ b_0 : Bool, Lf (b_0 = rightBM n k f u m) → bif b_0 then exI
 .i64 (l.length : Int) fun n_1 => bif decide (n_1 > 8) then Q (.ret (.tup [.int .i64 0, .int .i64 3])) [] {} else exI .i64 (l.length : Int) fun n_2 => (∃ x_3 : Nat, Lf (x_3 ≤ l.length ∧ ∀ j_4 : Nat, j_4 < x_3 → fingM (l.getD j_4 []) = true)
 ∧ eqqQ [AV.str n, .str k, .int .i64 f, .int .i64 u, .int .i64 m] ∧ eqqQ (AV.lst tg (cellsSM l) l.length 1) ∧ eqqQ (AV.fn (Fn.func 61) [] []) ∧ eqqQ (AV.int .i64 n_2) ∧ AV.int .i64 0 = AV.int .i64 (x_3 : Int) ∧ True) ∧ ∀ x_3 : Nat, Lf (x_3
 ≤ l.length ∧ ∀ j_4 : Nat, j_4 < x_3 → fingM (l.getD j_4 []) = true) → bif decide ((x_3 : Int) < n_2) then exI .i64 (x_3 : Int) fun n_4 => ckQ (decide (0 ≤ n_4) && Nat.blt n_4.toNat l.length && true) (ckQ (Nat.blt (n_4.toNat * 1) (cellsSM
 l).length) (exS ((cellsSM l).getD (n_4.toNat * 1) AV.undef) fun s_5 => Lf (s_5.length ≤ 9223372036854775807) ∧ ∀ b_6 : Bool, Lf (b_6 = fingM s_5) → bif b_6 then exW .i64 ((x_3 : Int) + 1) fun n_7 => (True ∧ (0 : Nat) = (0 : Nat)) ∧ ∃ y_8 :
 Nat, Lf (y_8 ≤ l.length ∧ ∀ j_9 : Nat, j_9 < y_8 → fingM (l.getD j_9 []) = true) ∧ l.length - y_8 < l.length - x_3 ∧ eqqQ [AV.str n, .str k, .int .i64 f, .int .i64 u, .int .i64 m] ∧ eqqQ (AV.lst tg (cellsSM l) l.length 1) ∧ eqqQ (AV.fn
 (Fn.func 61) [] []) ∧ eqqQ (AV.int .i64 n_2) ∧ AV.int .i64 n_7 = AV.int .i64 (y_8 : Int) ∧ True else bif decide (n_4 ≥ 0) then Q (.ret (.tup [.int .i64 0, .int .i64 5])) [] {} else vc_28_1 tg l n k f u m Q)) else vc_28_1 tg l n k f u m Q
 else Q (.ret (.tup [.int .i64 0, .int .i64 180])) [] {}) := by kernel_rfl

end Go.Proofs.YtifjpcdpmimccaaGreatDoor

set_option linter.unusedSimpArgs false
set_option linter.unusedVariables false
set_option linter.unusedSectionVars false
namespace Go.Proofs.YtifjpcdpmimccaaGreatDoor
open Go.RowKit
set_option maxRecDepth 1000000

def shB (n k : List UInt8) (f u m : Int) : List UInt8 := shownM (sumSM (octBM n k f u m))
def matchM (n k : List UInt8) (f u m : Int) (l : List (List UInt8)) : Int × Int :=
  if rightBM n k f u m = true then (if 8 < l.length then (0, 3) else if l.all fingM = true then (match l.findIdx? (fun s => eqB (shB n k f u m) s) with | some i => ((i : Nat), 0) | none => (0, 4)) else (0, 5)) else (0, 180)
theorem getD_of {l : List (List UInt8)} {i : Nat} (hi : i < l.length) : l.getD i [] = l[i] := by
  rw [List.getD_eq_getElem?_getD, List.getElem?_eq_getElem hi]; rfl
theorem match_run (tg : Nat) (n k : List UInt8) (f u m : Int) (l : List (List UInt8)) (hn : n.length ≤ 9223372036854775807) (hl : ∀ s ∈ l, s.length ≤ 9223372036854775807) (Q : Out → List Blk → Gh → Prop) (hq : ∀ g, Q (.ret (.tup [.int .i64 (matchM n k f u m l).1, .int .i64 (matchM n k f u m l).2])) [] g) : ∃ hv hb, goal_28 hv hb tg l n k f u m Q := by
  obtain ⟨hv', hb', e'⟩ : ∃ hv hb, goal_28 hv hb tg l n k f u m Q = _ := ⟨_, _, vc_28 tg l n k f u m Q⟩
  refine ⟨hv', hb', e'.mpr ?_⟩
  clear e'
  refine ⟨⟨hn⟩, ?_⟩
  rintro b ⟨hb⟩
  cases b with
  | false => have := hq {}; rwa [show matchM n k f u m l = (0, 180) by rw [matchM, ← hb]; rfl] at this
  | true =>
    have hr : rightBM n k f u m = true := hb.symm
    refine ⟨_, rfl, splitD (fun h1 => ?_) (fun h1 => ⟨_, rfl, ⟨0, ⟨by omega, fun j hj => by omega⟩, rfl, rfl, rfl, rfl, rfl, trivial⟩, ?_⟩)⟩
    · have := hq {}
      rwa [show matchM n k f u m l = (0, 3) by rw [matchM, if_pos hr, if_pos (by omega)]] at this
    have h8 : ¬ 8 < l.length := by omega
    have p2 : l.all fingM = true → vc_28_1 tg l n k f u m Q := fun ha => by
      unfold vc_28_1
      have hm : matchM n k f u m l = (match l.findIdx? (fun s => eqB (shB n k f u m) s) with | some i => ((i : Nat), 0) | none => (0, 4)) := by rw [matchM, if_pos hr, if_neg h8, if_pos ha]
      refine ⟨⟨hn⟩, ?_⟩
      rintro x ⟨hx0⟩
      have hx1 : shB n k f u m = x := by rw [hx0, shB, encBM, if_pos hr]
      rw [hx1] at hm
      refine ⟨_, rfl, ⟨0, ⟨by omega, fun j hj => by omega⟩, rfl, rfl, rfl, rfl, rfl, trivial⟩, ?_⟩
      rintro i ⟨i1, i2⟩
      refine splitD (fun h3 => ⟨_, rfl, ckI (by rw [Bool.and_true]; exact idxOk (by omega) (by omega)) (ckI (by rw [cellsS_len, Nat.blt_eq]; omega) (getS (by omega) (by omega : (Int.toNat (i : Int)) * 1 = i) ?_))⟩) (fun h3 => ?_)
      · have hi : i < l.length := by omega
        show (bif eqB x l[i] then _ else _)
        cases he : eqB x l[i] with
        | true =>
          rw [cond_true]
          have hf : l.findIdx? (fun s => eqB x s) = some i := List.findIdx?_eq_some_iff_getElem.2 ⟨hi, he, fun j hj => by
            have := i2 j hj
            rw [getD_of (by omega)] at this
            exact fun h => by
              have h' : eqB x l[j] = true := h
              rw [this] at h'
              cases h'⟩
          rw [hf] at hm
          refine splitD (fun h => by omega) (fun _ => ?_)
          have := hq (Gh.mk 0 0 [])
          rwa [hm] at this
        | false =>
          refine wrapI (by omega) (by omega) ⟨⟨trivial, rfl⟩, i + 1, ⟨by omega, fun j hj => ?_⟩, by omega, rfl, rfl, rfl, rfl, rfl, trivial⟩
          rcases Nat.lt_or_ge j i with g | g
          · exact i2 j g
          · obtain rfl : j = i := by omega
            rw [getD_of hi]; exact he
      · have hf : l.findIdx? (fun s => eqB x s) = none := List.findIdx?_eq_none_iff.2 fun s hs => by
          obtain ⟨j, hj, rfl⟩ := List.getElem_of_mem hs
          have := i2 j (by omega)
          rwa [getD_of hj] at this
        rw [hf] at hm
        have := hq (Gh.mk 0 0 [])
        rwa [hm] at this
    rintro i ⟨i1, i2⟩
    refine splitD (fun h3 => ⟨_, rfl, ckI (by rw [Bool.and_true]; exact idxOk (by omega) (by omega)) (ckI (by rw [cellsS_len, Nat.blt_eq]; omega) (getS (by omega) (by omega : (Int.toNat (i : Int)) * 1 = i) ?_))⟩) (fun h3 => ?_)
    · have hi : i < l.length := by omega
      refine ⟨⟨hl _ (List.getElem_mem hi)⟩, ?_⟩
      rintro b ⟨hb2⟩
      cases b with
      | true =>
        refine wrapI (by omega) (by omega) ⟨⟨trivial, rfl⟩, i + 1, ⟨by omega, fun j hj => ?_⟩, by omega, rfl, rfl, rfl, rfl, rfl, trivial⟩
        rcases Nat.lt_or_ge j i with g | g
        · exact i2 j g
        · obtain rfl : j = i := by omega
          rw [getD_of hi]; exact hb2.symm
      | false =>
        rw [cond_false]
        refine splitD (fun _ => ?_) (fun h => absurd (show (0 : Int) ≤ (i : Int) by omega) h)
        have ha : ¬ l.all fingM = true := fun h => by
          rw [List.all_eq_true] at h
          have := h _ (List.getElem_mem hi)
          rw [← hb2] at this
          cases this
        have := hq {}
        rwa [show matchM n k f u m l = (0, 5) by rw [matchM, if_pos hr, if_neg h8, if_neg ha]] at this
    · refine p2 (List.all_eq_true.2 fun s hs => ?_)
      obtain ⟨j, hj, rfl⟩ := List.getElem_of_mem hs
      have := i2 j (by omega)
      rwa [getD_of hj] at this
def cMatch : Con
  | [.agg [.str n, .str k, .int .i64 f, .int .i64 u, .int .i64 m], .lst _ ss c 1], H, K => ∃ l : List (List UInt8), Lf ((ss = cellsSM l ∧ c = l.length) ∧ n.length ≤ 9223372036854775807 ∧ ∀ s ∈ l, s.length ≤ 9223372036854775807) ∧ ∀ i e, Lf (matchM n k f u m l = (i, e)) → K (.ret (.tup [.int .i64 i, .int .i64 e])) H
  | _, _, _ => False
theorem match_ok : ValidF Tryz.prog gl0 28 cMatch := by
  refine valid_flat (enters_of (by kernel_rfl)) gl0_noY fun args H Q hc => ?_
  unfold cMatch at hc
  split at hc
  · rename_i n k f u m tg ss c
    obtain ⟨l, ⟨⟨rfl, rfl⟩, h1, h2⟩, hq⟩ := hc
    obtain ⟨hv, hb', h⟩ := match_run tg n k f u m l h1 h2 (Q := fun o H' _ => H' = [] ∧ (∃ v, o = .ret v ∧ old 0 v = true ∧ noY v = true) ∧ Q o H) (fun _ => ⟨rfl, ⟨_, rfl, rfl, rfl⟩, hq _ _ ⟨rfl⟩⟩)
    exact ⟨by simp [oldL, old], by simp [noYL, noY], _, 1000, envFor18 smCk_ok _ _ _, rfl, h⟩
  · exact hc.elim
end Go.Proofs.YtifjpcdpmimccaaGreatDoor
