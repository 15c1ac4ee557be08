/-
  Chapter 24: what is valid for the reference; Check and Right.
-/
import Derived.Test.YtafchcmemeinlaaDoorC24XB
set_option linter.unusedSimpArgs false
set_option linter.unusedVariables false
set_option linter.unusedSectionVars false
namespace Go.Proofs.YtafchcmemeinlaaDoor
open Go.RowKit
set_option maxRecDepth 1000000

def okC (c : Ctl) : Prop := c.rs.length ≤ 1000000 ∧ c.lo.length ≤ 1000000 ∧ c.ti.length ≤ 1000000
def cValid : Con
 | [.agg cs], H, K => ∃ c : Ctl, Lf (cs = ctC c ∧ okC c) ∧ K (.ret (.bool (validM c))) H
 | _, _, _ => False
theorem noY_cellsR (l : List Rc) : noYL (cellsRM l) = true ∧ oldL 0 (cellsRM l) = true := by
 induction l with
 | nil => exact ⟨rfl, rfl⟩
 | cons p ps ih => exact ⟨by simpa [cellsRM, rcCM, noYL, noY] using ih.1, by simpa [cellsRM, rcCM, oldL, old] using ih.2⟩
theorem valid_run (c : Ctl) (h : okC c) (Q : Out → List Blk → Gh → Prop) (hq : Q (.ret (.bool (validM c))) [] {}) : ∃ hv hb, go49 hv hb c.k c.f c.a c.s1 c.s2 c.s3 c.s4 c.s5 c.rs c.lo c.ba c.ro c.ti Q := by
 obtain ⟨k, f, a, s1, s2, s3, s4, s5, rs, lo, ba, ro, ti⟩ := c
 obtain ⟨h1, h2, h3⟩ := h
 dsimp only at h1 h2 h3 ⊢
 cases k with
 | negSucc m => exact valid_runn m f a s1 s2 s3 s4 s5 rs lo ba ro ti h1 h2 h3 Q hq
 | ofNat k =>
  match k with
  | 0 => exact valid_run0 f a s1 s2 s3 s4 s5 rs lo ba ro ti h1 h2 h3 Q hq
  | 1 => exact valid_run1 f a s1 s2 s3 s4 s5 rs lo ba ro ti h1 h2 h3 Q hq
  | 2 => exact valid_run2 f a s1 s2 s3 s4 s5 rs lo ba ro ti h1 h2 h3 Q hq
  | 3 => exact valid_run3 f a s1 s2 s3 s4 s5 rs lo ba ro ti h1 h2 h3 Q hq
  | 4 => exact valid_run4 f a s1 s2 s3 s4 s5 rs lo ba ro ti h1 h2 h3 Q hq
  | 5 => exact valid_run5 f a s1 s2 s3 s4 s5 rs lo ba ro ti h1 h2 h3 Q hq
  | 6 => exact valid_run6 f a s1 s2 s3 s4 s5 rs lo ba ro ti h1 h2 h3 Q hq
  | m + 7 => exact valid_runh m f a s1 s2 s3 s4 s5 rs lo ba ro ti h1 h2 h3 Q hq
theorem valid_ok : ValidF Tryd.prog glC 49 cValid := by
 refine valid_flat (enters_of (by kernel_rfl)) glC_noY fun args H Q hc => ?_
 unfold cValid at hc
 split at hc
 ·obtain ⟨c, ⟨rfl, h⟩, hq⟩ := hc
  obtain ⟨hv, hb', h⟩ := valid_run c h (fun o H' _ => H' = [] ∧ (∃ v, o = .ret v ∧ old 0 v = true ∧ noY v = true) ∧ Q o H) ⟨rfl, ⟨_, rfl, rfl, rfl⟩, hq⟩
  refine ⟨by simp [ctC, oldL, old], by simp [ctC, noYL, noY], _, 1000, envFor24 sm49_ok _ _ _, rfl, h⟩
 ·exact hc.elim
def cellsCM (l : List Ctl) : List AV := l.flatMap ctC
theorem ctC_len (c : Ctl) : (ctC c).length = 13 := rfl
theorem cellsC_len : ∀ l : List Ctl, (cellsCM l).length = 13 * l.length
 | [] => rfl
 | r :: l => by
  have := cellsC_len l
  simp only [cellsCM, List.flatMap_cons, List.length_append, ctC_len, List.length_cons] at this ⊢
  omega
theorem cellsC_get {l : List Ctl} {i j : Nat} (hi : i < l.length) (hj : j = 13 * i) : ∃ r, l[i]? = some r ∧ (cellsCM l |>.drop j).take 13 = ctC r := by
 subst hj
 induction l generalizing i with
 | nil => simp at hi
 | cons x l ih =>
  cases i with
  | zero => exact ⟨x, rfl, rfl⟩
  | succ i =>
   obtain ⟨r, h1, h2⟩ := ih (i := i) (by simpa using hi)
   refine ⟨r, by simpa using h1, ?_⟩
   have e : cellsCM (x :: l) = ctC x ++ cellsCM l := rfl
   rw [e, show 13 * (i + 1) = (ctC x).length + 13 * i by rw [ctC_len]; omega, ← List.drop_drop, List.drop_left]
   exact h2
def headOkM (l : List Ctl) : Bool := match l with
 | [] => false
 | c :: _ => decide (c.k = 1 ∨ c.k = 2)
def checkM (l : List Ctl) : Bool := decide (1 ≤ l.length ∧ l.length ≤ 8) && headOkM l && l.all validM
def sm25 : SM := lookS [(49, cValid)]
theorem sm25_ok : ∀ f g, sm25 f = some g → ValidF Tryd.prog glC f g := lookS_ok _ (by simp only [List.mem_cons, List.not_mem_nil, or_false, forall_eq]; exact valid_ok)
def inv_69 (t : Nat) (l : List Ctl) : LInv where
 α := Nat
 pre i := Lf (i ≤ l.length ∧ (l.take i).all validM = true)
 st i := ⟨mkT [(0, .lst t (cellsCM l) l.length 13), (1, .fn (.func 48) [] []), (7, .int .i64 l.length), (8, .int .i64 i)], []⟩
 mu i := l.length - i
noncomputable def env_25 (hv : Nat → Option Pa) (hb : Nat → Option Bool) (t : Nat) (l : List Ctl) : Env := e24 sm25 (fun i => bif Nat.beq i 69000 then some (fun _ => [[inv_69 t l]]) else none) hv hb
noncomputable def goal_25 (hv : Nat → Option Pa) (hb : Nat → Option Bool) (t : Nat) (l : List Ctl) (Q : Out → List Blk → Gh → Prop) : Prop :=
 callx (env_25 hv hb t l) (wpx (env_25 hv hb t l) 1000) 25 [.lst t (cellsCM l) l.length 13] [] {} Q
def vc_25_1 (t : Nat) (l : List Ctl) (Q : Out → List Blk → Gh → Prop) : Prop :=
exI .i64 (l.length : Int) fun n_0 => (∃ x_1 : Nat, Lf (x_1 ≤ l.length ∧ List.all (l.take x_1) validM = true) ∧ eqqQ (AV.lst t (cellsCM l) l.length 13) ∧ eqqQ (AV.fn (Fn.func 48) [] []) ∧ AV.int .i64 n_0 = AV.int .i64 (l.length : Int) ∧
 AV.int .i64 0 = AV.int .i64 (x_1 : Int) ∧ True) ∧ ∀ x_1 : Nat, Lf (x_1 ≤ l.length ∧ List.all (l.take x_1) validM = true) → bif decide ((x_1 : Int) < (l.length : Int)) then exI .i64 (x_1 : Int) fun n_2 => ckQ (decide (0 ≤ n_2) && Nat.blt
 n_2.toNat l.length && true) (ckQ (Nat.ble (n_2.toNat * 13 + 13) (cellsCM l).length) (ckQ (Nat.beq (((cellsCM l).drop (n_2.toNat * 13)).take 13).length (((cellsCM l).drop (n_2.toNat * 13)).take 13).length && Nat.ble 13 (((cellsCM l).drop
 (n_2.toNat * 13)).take 13).length) (∃ c_3 : Ctl, Lf (((((cellsCM l).drop (n_2.toNat * 13)).take 13).drop 0).take 13 = [AV.int .i64 c_3.1, .int .i64 c_3.2, .int .i64 c_3.3, .int .i64 c_3.4, .int .i64 c_3.5, .int .i64 c_3.6, .int .i64 c_3.7,
 .int .i64 c_3.8, .lst 0 (cellsRM c_3.9) c_3.9.length 7, .lst 0 (cellsI c_3.10) c_3.10.length 1, .int .i64 c_3.11, .int .i64 c_3.12, .lst 0 (cellsI c_3.13) c_3.13.length 1] ∧ okC c_3) ∧ bif validM c_3 then exW .i64 ((x_1 : Int) + 1) fun n_4
 => (True ∧ (0 : Nat) = (0 : Nat)) ∧ ∃ y_5 : Nat, Lf (y_5 ≤ l.length ∧ List.all (l.take y_5) validM = true) ∧ l.length - y_5 < l.length - x_1 ∧ eqqQ (AV.lst t (cellsCM l) l.length 13) ∧ eqqQ (AV.fn (Fn.func 48) [] []) ∧ eqqQ (AV.int .i64
 (l.length : Int)) ∧ AV.int .i64 n_4 = AV.int .i64 (y_5 : Int) ∧ True else bif decide (n_2 ≥ 0) then Q (.ret (.int .i64 240)) [] {} else Q (.ret (.int .i64 0)) [] {}))) else Q (.ret (.int .i64 0)) [] {}
theorem vc_25 (t : Nat) (l : List Ctl) (Q : Out → List Blk → Gh → Prop) : goal_25 (lookV [(102404, .int .i64), (102408, .int .i64), (102415, .int .i64), (102421, .int .i64), (282631, .int .i64), (282634, .int .i64), (282642, .int .i64)]) (lookB []) t l Q = (
(∃ n_0 : Int, (((AV.int .i64 (Nat.cast (List.length l) : Int)) = (AV.int .i64 n_0)) ∧
 (bif (decide (n_0 < (1 : Int))) then (Q (Out.ret (AV.int .i64 (240 : Int))) [] (Gh.mk (0 : Nat) (0 : Nat) []))
else (∃ n_1 : Int, (((AV.int .i64 (Nat.cast (List.length l) : Int)) = (AV.int .i64 n_1)) ∧
 (bif (decide (n_1 > (8 : Int))) then (Q (Out.ret (AV.int .i64 (240 : Int))) [] (Gh.mk (0 : Nat) (0 : Nat) []))
else (bif ((Nat.blt (0 : Nat) (List.length l)) && true) then (bif (Nat.blt (0 : Nat) (List.length (cellsCM l))) then (∃ n_2 : Int, (((List.getD (cellsCM l) (0 : Nat) AV.undef) = (AV.int .i64 n_2)) ∧
 (bif (n_2 != (1 : Int)) then (bif ((Nat.blt (0 : Nat) (List.length l)) && true) then (bif (Nat.blt (0 : Nat) (List.length (cellsCM l))) then (∃ n_3 : Int, (((List.getD (cellsCM l) (0 : Nat) AV.undef) = (AV.int .i64 n_3)) ∧
 (bif (n_3 != (2 : Int)) then (Q (Out.ret (AV.int .i64 (240 : Int))) [] (Gh.mk (0 : Nat) (0 : Nat) []))
else (vc_25_1 t l Q))))
else False)
else False)
else (vc_25_1 t l Q))))
else False)
else False)))))))) := by kernel_rfl

theorem splitB {b : Bool} {A B : Prop} (h : b = true → A) (k : b = false → B) : bif b then A else B := by
 cases b
 ·exact k rfl
 ·exact h rfl
theorem tail25 (t : Nat) (l : List Ctl) (hok : ∀ c ∈ l, okC c) (hl : l.length ≤ 1000000) (Q : Out → List Blk → Gh → Prop) (no : l.all validM = false → Q (.ret (.int .i64 240)) [] {}) (yes : l.all validM = true → Q (.ret (.int .i64 0)) [] {}) : vc_25_1 t l Q := by
 unfold vc_25_1
 refine ⟨_, rfl, ⟨0, ⟨by omega, by simp⟩, rfl, rfl, rfl, rfl, trivial⟩, ?_⟩
 rintro i ⟨g1, g2⟩
 refine splitD (fun h => ?_) (fun h => ?_)
 ·have hi : i < l.length := by omega
  obtain ⟨c, hr, hc⟩ := cellsC_get hi (Nat.mul_comm 13 i ▸ rfl : i * 13 = 13 * i)
  have hm := List.mem_of_getElem? hr
  have ge : (decide ((i : Int) ≥ 0)) = true := by simp
  refine ⟨_, rfl, ckI (by simp; omega) (ckI (by simp [cellsC_len]; omega) ?_)⟩
  rw [Int.toNat_natCast, hc]
  refine ckI rfl ⟨c, ⟨rfl, hok c hm⟩, splitB (fun hv => ?_) (fun hv => ?_)⟩
  ·exact wrapI (by omega) (by omega) ⟨⟨trivial, rfl⟩, i + 1, ⟨hi, by rw [all_take hr, g2, hv]; rfl⟩, by omega, rfl, rfl, rfl, rfl, trivial⟩
  ·rw [ge]
   exact no (by rw [List.all_eq_false]; exact ⟨c, hm, by simp [hv]⟩)
 ·rw [List.take_of_length_le (by omega)] at g2
  exact yes g2
def hdM (l : List Ctl) : Int := match l with
 | [] => 0
 | c :: _ => c.k
theorem headOk_eq {l : List Ctl} (h : 1 ≤ l.length) : headOkM l = decide (hdM l = 1 ∨ hdM l = 2) := by
 cases l with
 | nil => simp at h
 | cons c l => rfl
theorem cellsC_head {l : List Ctl} (h : 1 ≤ l.length) {K : Int → Prop} (hk : ∀ n, n = hdM l → K n) : ∃ n : Int, (cellsCM l).getD 0 AV.undef = AV.int .i64 n ∧ K n := by
 cases l with
 | nil => simp at h
 | cons c l => exact ⟨c.k, rfl, hk _ rfl⟩
theorem check_run (t : Nat) (l : List Ctl) (hok : ∀ c ∈ l, okC c) (hl : l.length ≤ 1000000) (Q : Out → List Blk → Gh → Prop) (hq : ∀ e : Int, e = (if checkM l = true then 0 else 240) → Q (.ret (.int .i64 e)) [] {}) : ∃ hv hb, goal_25 hv hb t l Q := by
 obtain ⟨hv, hb', e⟩ : ∃ hv hb, goal_25 hv hb t l Q = _ := ⟨_, _, vc_25 t l Q⟩
 refine ⟨hv, hb', e.mpr ?_⟩
 clear e
 have no : checkM l = false → Q (.ret (.int .i64 240)) [] {} := fun h => hq _ (by simp [h])
 have yes : checkM l = true → Q (.ret (.int .i64 0)) [] {} := fun h => hq _ (by simp [h])
 refine ⟨_, rfl, splitD (fun h1 => no ?_) (fun h1 => ⟨_, rfl, splitD (fun h2 => no ?_) (fun h2 => ?_)⟩)⟩
 ·simp only [checkM, decide_eq_false (show ¬ (1 ≤ l.length ∧ l.length ≤ 8) by omega), Bool.false_and]
 ·simp only [checkM, decide_eq_false (show ¬ (1 ≤ l.length ∧ l.length ≤ 8) by omega), Bool.false_and]
 ·have hc : checkM l = (headOkM l && l.all validM) := by simp only [checkM, decide_eq_true (show (1 ≤ l.length ∧ l.length ≤ 8) by omega), Bool.true_and]
  have go : headOkM l = true → vc_25_1 t l Q := fun hh => tail25 t l hok hl Q (fun h => no (by rw [hc, hh, h]; rfl)) (fun h => yes (by rw [hc, hh, h]; rfl))
  refine ckI (by simp; omega) (ckI (by simp [cellsC_len]; omega) (cellsC_head (by omega) fun n hn => splitNE (fun k1 => ?_) (fun k1 => ?_)))
  ·refine ckI (by simp; omega) (ckI (by simp [cellsC_len]; omega) (cellsC_head (by omega) fun n' hn' => splitNE (fun k2 => ?_) (fun k2 => ?_)))
   ·refine no ?_
    rw [hc, headOk_eq (by omega), decide_eq_false (by omega)]; rfl
   ·exact go (by rw [headOk_eq (by omega)]; exact decide_eq_true (by omega))
  ·exact go (by rw [headOk_eq (by omega)]; exact decide_eq_true (by omega))
def cCheck : Con
 | [.lst _ cs n 13], H, K => ∃ l : List Ctl, Lf (cs = cellsCM l ∧ n = l.length ∧ l.length ≤ 1000000 ∧ ∀ c ∈ l, okC c) ∧ ∀ e : Int, Lf (e = (if checkM l = true then 0 else 240)) → K (.ret (.int .i64 e)) H
 | _, _, _ => False
theorem check_raw : ValidF Tryd.prog glC 25 cCheck := by
 refine valid_flat (enters_of (by kernel_rfl)) glC_noY fun args H Q hc => ?_
 unfold cCheck at hc
 split at hc
 ·obtain ⟨l, ⟨rfl, rfl, h1, h2⟩, hq⟩ := hc
  obtain ⟨hv, hb', h⟩ := check_run _ l h2 h1 (fun o H' _ => H' = [] ∧ (∃ v, o = .ret v ∧ old 0 v = true ∧ noY v = true) ∧ Q o H) (fun e he => ⟨rfl, ⟨_, rfl, rfl, rfl⟩, hq e ⟨he⟩⟩)
  exact ⟨rfl, rfl, _, 1000, envFor24 sm25_ok _ _ _, rfl, h⟩
 ·exact hc.elim
end Go.Proofs.YtafchcmemeinlaaDoor
