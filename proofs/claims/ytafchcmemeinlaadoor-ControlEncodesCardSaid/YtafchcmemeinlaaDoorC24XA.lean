/-
  Chapter 24: receptions; steps of times.
-/
import Derived.Test.YtafchcmemeinlaaDoorC24H
set_option linter.unusedSimpArgs false
set_option linter.unusedVariables false
set_option linter.unusedSectionVars false
namespace Go.Proofs.YtafchcmemeinlaaDoor
open Go.RowKit
set_option maxRecDepth 1000000

abbrev Rc := Int × Int × Int × Int × Int × Int × Int
def rcCM (r : Rc) : List AV := [.int .i64 r.1, .int .i64 r.2.1, .int .i64 r.2.2.1, .int .i64 r.2.2.2.1, .int .i64 r.2.2.2.2.1, .int .i64 r.2.2.2.2.2.1, .int .i64 r.2.2.2.2.2.2]
def cellsRM (l : List Rc) : List AV := l.flatMap rcCM
def rcOkM (r : Rc) : Bool := decide ((0 ≤ r.1 ∧ r.1 < 4294967296) ∧ (0 ≤ r.2.1 ∧ r.2.1 < 256) ∧ (-8388608 ≤ r.2.2.1 ∧ r.2.2.1 < 8388608) ∧ (0 ≤ r.2.2.2.1 ∧ r.2.2.2.1 < 4294967296) ∧ (0 ≤ r.2.2.2.2.1 ∧ r.2.2.2.2.1 < 4294967296) ∧ (0 ≤ r.2.2.2.2.2.1 ∧ r.2.2.2.2.2.1 < 4294967296) ∧ (0 ≤ r.2.2.2.2.2.2 ∧ r.2.2.2.2.2.2 < 4294967296))
def rcsOkM (l : List Rc) : Bool := decide (l.length ≤ 6) && l.all rcOkM
theorem rcC_len (r : Rc) : (rcCM r).length = 7 := rfl
theorem cellsR_len : ∀ l : List Rc, (cellsRM l).length = 7 * l.length
 | [] => rfl
 | r :: l => by
  have := cellsR_len l
  simp only [cellsRM, List.flatMap_cons, List.length_append, rcC_len, List.length_cons] at this ⊢
  omega
theorem cellsR_get {l : List Rc} {i j : Nat} (hi : i < l.length) (hj : j = 7 * i) : ∃ r, l[i]? = some r ∧ (cellsRM l |>.drop j).take 7 = rcCM r := by
 subst hj
 induction l generalizing i with
 | nil => simp at hi
 | cons x l ih =>
  cases i with
  | zero => exact ⟨x, rfl, rfl⟩
  | succ i =>
   obtain ⟨r, h1, h2⟩ := ih (i := i) (by simpa using hi)
   refine ⟨r, by simpa using h1, ?_⟩
   have e : cellsRM (x :: l) = rcCM x ++ cellsRM l := rfl
   rw [e, show 7 * (i + 1) = (rcCM x).length + 7 * i by rw [rcC_len]; omega, ← List.drop_drop, List.drop_left]
   exact h2
def inv_80 (t : Nat) (l : List Rc) : LInv where
 α := Nat
 pre i := Lf (i ≤ l.length ∧ l.length ≤ 6 ∧ (l.take i).all rcOkM = true)
 st i := ⟨mkT [(0, .lst t (cellsRM l) l.length 7), (1, .fn (.func 78) [] []), (7, .int .i64 l.length), (8, .int .i64 i)], []⟩
 mu i := l.length - i
noncomputable def goal_71 (hv : Nat → Option Pa) (hb : Nat → Option Bool) (t : Nat) (l : List Rc) (Q : Out → List Blk → Gh → Prop) : Prop :=
 callx (e24 smE (fun i => bif Nat.beq i 80000 then some (fun _ => [[inv_80 t l]]) else none) hv hb) (wpx (e24 smE (fun i => bif Nat.beq i 80000 then some (fun _ => [[inv_80 t l]]) else none) hv hb) 1000) 71 [.lst t (cellsRM l) l.length 7] [] {} Q
abbrev zXA6 (x_2 : Nat) (l : List Rc) : Prop := Lf (x_2 ≤ l.length ∧ l.length ≤ 6 ∧ List.all (l.take x_2) rcOkM = true)
abbrev zXA8 (xs_11 : List Int) : Prop := (0 : Int) ≤ (32 : Int) ∧ xs_11.length ≤ 4611686018427387904
abbrev zXA4 (n_3 : Int) (Q : Out → List Blk → Gh → Prop) : Prop := bif decide (n_3 ≥ 0) then Q (.ret (.bool false)) [] {} else Q (.ret (.bool true)) [] {}
abbrev zXA5 : Prop := True ∧ (0 : Nat) = (0 : Nat)
theorem vc_71 (t : Nat) (l : List Rc) (Q : Out → List Blk → Gh → Prop) : goal_71 (lookV [(290820, .int .i64), (327687, .int .i64), (327690, .int .i64), (327695, .agg [.int .i64, .int .i64, .int .i64, .int .i64, .int .i64, .int .i64, .int
 .i64]), (327698, .int .i64)]) (lookB []) t l Q = (exI .i64 (l.length : Int) (fun n_0 => bif decide (n_0 ≤ 6) then exI .i64 (l.length : Int) (fun n_1 => (∃ x_2 : Nat, zXA6 x_2 l ∧ eqqQ (AV.lst t (cellsRM l) l.length 7) ∧ eqqQ (AV.fn
 (Fn.func 78) [] []) ∧ AV.int .i64 n_1 = AV.int .i64 (l.length : Int) ∧ AV.int .i64 0 = AV.int .i64 (x_2 : Int) ∧ True) ∧ ∀ x_2 : Nat, zXA6 x_2 l → bif decide ((x_2 : Int) < (l.length : Int)) then exI .i64 (x_2 : Int) (fun n_3 => ckQ
 (decide (0 ≤ n_3) && Nat.blt n_3.toNat l.length && true) (ckQ (Nat.ble (n_3.toNat * 7 + 7) (cellsRM l).length) (∃ n_4 n_5 n_6 n_7 n_8 n_9 n_10, AV.agg (((cellsRM l).drop (n_3.toNat * 7)).take 7) = AV.agg [.int .i64 n_4, .int .i64 n_5, .int
 .i64 n_6, .int .i64 n_7, .int .i64 n_8, .int .i64 n_9, .int .i64 n_10] ∧ ∃ xs_11 : List Int, Lf ([AV.int .i64 n_4, .int .i64 n_7, .int .i64 n_8, .int .i64 n_9, .int .i64 n_10] = cellsI xs_11 ∧ 5 = xs_11.length ∧ zXA8 xs_11) ∧ bif !List.any
 xs_11 (badM 32) then ∃ xs_12 : List Int, Lf ([AV.int .i64 n_5] = cellsI xs_12 ∧ 1 = xs_12.length ∧ (0 : Int) ≤ (8 : Int) ∧ xs_12.length ≤ 4611686018427387904) ∧ bif !List.any xs_12 (badM 8) then bif decide (n_6 < -8388608) then zXA4 n_3 Q
 else bif decide (n_6 ≥ 8388608) then zXA4 n_3 Q else exW .i64 ((x_2 : Int) + 1) (fun n_13 => zXA5 ∧ ∃ y_14 : Nat, zXA6 y_14 l ∧ l.length - y_14 < l.length - x_2 ∧ eqqQ (AV.lst t (cellsRM l) l.length 7) ∧ eqqQ (AV.fn (Fn.func 78) [] []) ∧
 eqqQ (AV.int .i64 (l.length : Int)) ∧ AV.int .i64 n_13 = AV.int .i64 (y_14 : Int) ∧ True) else zXA4 n_3 Q else zXA4 n_3 Q))) else Q (.ret (.bool true)) [] {}) else Q (.ret (.bool false)) [] {})) := by kernel_rfl

def stepsGoM (ref last : Int) (first : Bool) : List Int → List Int → Option (Int × List Int)
 | [], acc => some (ref, acc)
 | t :: l, acc =>
  if t = -1 then stepsGoM ref last first l acc
  else if t < 0 ∨ 4294967296 ≤ t then none
  else if first then
   stepsGoM (t / 256) t false l (acc ++ [t % 256])
  else if t - last < -32768 ∨ 32768 ≤ t - last then none else stepsGoM ref t false l (acc ++ [t - last])
def stepsM (l : List Int) : Option (Int × List Int) := stepsGoM 0 0 true l []
def inv_70 (t : Nat) (xs : List Int) : List LInv := [
 { α := Nat, pre := fun i => Lf (i ≤ xs.length ∧ stepsM xs = stepsGoM 0 0 true (xs.drop i) []), st := fun i => ⟨mkT [(0, .lst t (cellsI xs) xs.length 1), (2, .int .i64 0), (3, .nils), (5, .int .i64 0), (6, .bool true), (9, .lst t (cellsI xs) xs.length 1), (10, .int .i64 xs.length), (11, .int .i64 i)], []⟩, mu := fun i => xs.length - i },
 { α := Nat × Int × Int × List Int, pre := fun p => Lf (p.1 ≤ xs.length ∧ 1 ≤ p.2.2.2.length ∧ p.2.2.2.length ≤ p.1 ∧ 0 ≤ p.2.2.1 ∧ p.2.2.1 < 4294967296 ∧ stepsM xs = stepsGoM p.2.1 p.2.2.1 false (xs.drop p.1) p.2.2.2), st := fun p => ⟨mkT [(0, .lst t (cellsI xs) xs.length 1), (2, .int .i64 p.2.1), (3, .sl 0 p.2.2.2.length 0 p.2.2.2.length 1), (5, .int .i64 p.2.2.1), (6, .bool false), (9, .lst t (cellsI xs) xs.length 1), (10, .int .i64 xs.length), (11, .int .i64 (p.1 : Nat))], [⟨.grow, true, cellsI p.2.2.2⟩]⟩, mu := fun p => xs.length - p.1 }]
noncomputable def env_70 (hv : Nat → Option Pa) (hb : Nat → Option Bool) (t : Nat) (xs : List Int) : Env := e24 smE (fun i => bif Nat.beq i 70000 then some (fun _ => [inv_70 t xs]) else none) hv hb
noncomputable def goal_70 (hv : Nat → Option Pa) (hb : Nat → Option Bool) (t : Nat) (xs : List Int) (Q : Out → List Blk → Gh → Prop) : Prop :=
 callx (env_70 hv hb t xs) (wpx (env_70 hv hb t xs) 1000) 70 [.lst t (cellsI xs) xs.length 1] [] {} Q
abbrev zXA2 (x_1 : Nat) (xs : List Int) : Prop := Lf (x_1 ≤ xs.length ∧ stepsM xs = stepsGoM 0 0 true (xs.drop x_1) [])
abbrev zXA3 (t : Nat) (xs : List Int) : Prop := eqqQ (AV.lst t (cellsI xs) xs.length 1)
abbrev zXA11 : Prop := eqqQ (AV.int .i64 0)
abbrev zXA9 (xs : List Int) : AV := .int .i64 (xs.length : Int)
abbrev zXA0 (x_1 : Nat × Int × Int × List Int) (xs : List Int) : Prop := Lf (x_1.1 ≤ xs.length ∧ 1 ≤ x_1.2.2.2.length ∧ x_1.2.2.2.length ≤ x_1.1 ∧ 0 ≤ x_1.2.2.1 ∧ x_1.2.2.1 < 4294967296 ∧ stepsM xs = stepsGoM x_1.2.1 x_1.2.2.1 false (xs.drop x_1.1) x_1.2.2.2)
abbrev zXA1 : Out := .ret (.tup [.int .i64 0, .nils, .bool false])
abbrev zXA10 (y_10 : Nat × Int × Int × List Int) : AV := .sl 0 y_10.2.2.2.length 0 y_10.2.2.2.length 1
abbrev zXA7 (xs : List Int) : Prop := eqqQ (AV.bool false) ∧ eqqQ (AV.int .i64 (xs.length : Int)) ∧ True
theorem vc_70 (t : Nat) (xs : List Int) (Q : Out → List Blk → Gh → Prop) : goal_70 (lookV [(286730, .int .i64), (286734, .int .i64), (286763, .int .i64), (286743, .int .i64), (286745, .int .i64), (286748, .int .i64), (286753, .int .i64),
 (286759, .int .i64), (286767, .int .i64), (286771, .int .i64)]) (lookB []) t xs Q = (exI .i64 (xs.length : Int) (fun n_0 => ((∃ x_1 : Nat, zXA2 x_1 xs ∧ zXA3 t xs ∧ AV.nils = AV.nils ∧ AV.int .i64 0 = AV.int .i64 (x_1 : Int) ∧ zXA11 ∧ zXA3
 t xs ∧ zXA11 ∧ eqqQ (AV.bool true) ∧ AV.int .i64 n_0 = zXA9 xs ∧ True) ∨ ∃ x_1 : Nat × Int × Int × List Int, zXA0 x_1 xs ∧ False) ∧ (∀ x_1 : Nat, zXA2 x_1 xs → bif decide ((x_1 : Int) < (xs.length : Int)) then ckQ (Nat.blt (x_1 :
 Int).toNat xs.length && true) (ckQ (Nat.blt ((x_1 : Int).toNat * 1) (cellsI xs).length) (exV .i64 ((cellsI xs).getD ((x_1 : Int).toNat * 1) AV.undef) (fun n_2 => bif n_2 == -1 then exW .i64 ((x_1 : Int) + 1) (fun n_3 => zXA5 ∧ ((∃ y_4 :
 Nat, zXA2 y_4 xs ∧ xs.length - y_4 < xs.length - x_1 ∧ zXA3 t xs ∧ AV.nils = AV.nils ∧ AV.int .i64 n_3 = AV.int .i64 (y_4 : Int) ∧ zXA11 ∧ zXA3 t xs ∧ zXA11 ∧ eqqQ (AV.bool true) ∧ eqqQ (zXA9 xs) ∧ True) ∨ ∃ y_4 : Nat × Int × Int × List
 Int, zXA0 y_4 xs ∧ xs.length - y_4.1 < xs.length - x_1 ∧ False)) else ∃ xs_3 : List Int, Lf ([AV.int .i64 n_2] = cellsI xs_3 ∧ 1 = xs_3.length ∧ zXA8 xs_3) ∧ bif !List.any xs_3 (badM 32) then exI .i64 (Int.fdiv n_2 256) (fun n_4 => exW
 .i64 (n_4 * 256) (fun n_5 => exW .i64 (n_2 - n_5) (fun n_6 => bif decide (n_6 < -32768) then Q zXA1 [] {} else exW .i64 (n_2 - n_5) (fun n_7 => bif decide (n_7 ≥ 32768) then Q zXA1 [] {} else exW .i64 (n_2 - n_5) (fun n_8 => exW .i64 ((x_1
 : Int) + 1) (fun n_9 => zXA5 ∧ ((∃ y_10 : Nat, zXA2 y_10 xs ∧ xs.length - y_10 < xs.length - x_1 ∧ False) ∨ ∃ y_10 : Nat × Int × Int × List Int, zXA0 y_10 xs ∧ xs.length - y_10.1 < xs.length - x_1 ∧ [AV.int .i64 n_8] = cellsI y_10.2.2.2 ∧
 zXA3 t xs ∧ AV.sl 0 1 0 1 1 = zXA10 y_10 ∧ AV.int .i64 n_9 = AV.int .i64 (y_10.1 : Int) ∧ AV.int .i64 n_2 = AV.int .i64 y_10.2.2.1 ∧ zXA3 t xs ∧ AV.int .i64 n_4 = AV.int .i64 y_10.2.1 ∧ zXA7 xs))))))) else Q zXA1 [] {}))) else exI .i64
 (xs.length : Int) (fun n_2 => bif decide (n_2 ≥ 1) then exI .i64 (xs.length : Int) (fun n_3 => bif decide (n_3 ≤ 64) then Q (.ret (.tup [.int .i64 0, .nils, .bool true])) [] {} else Q zXA1 [] {}) else Q zXA1 [] {})) ∧ ∀ x_1 : Nat × Int ×
 Int × List Int, zXA0 x_1 xs → bif decide ((x_1.1 : Int) < (xs.length : Int)) then ckQ (Nat.blt (x_1.1 : Int).toNat xs.length && true) (ckQ (Nat.blt ((x_1.1 : Int).toNat * 1) (cellsI xs).length) (exV .i64 ((cellsI xs).getD ((x_1.1 :
 Int).toNat * 1) AV.undef) (fun n_2 => bif n_2 == -1 then exW .i64 ((x_1.1 : Int) + 1) (fun n_3 => zXA5 ∧ ((∃ y_4 : Nat, zXA2 y_4 xs ∧ xs.length - y_4 < xs.length - x_1.1 ∧ False) ∨ ∃ y_4 : Nat × Int × Int × List Int, zXA0 y_4 xs ∧
 xs.length - y_4.1 < xs.length - x_1.1 ∧ cellsI x_1.2.2.2 = cellsI y_4.2.2.2 ∧ zXA3 t xs ∧ zXA10 x_1 = zXA10 y_4 ∧ AV.int .i64 n_3 = AV.int .i64 (y_4.1 : Int) ∧ AV.int .i64 x_1.2.2.1 = AV.int .i64 y_4.2.2.1 ∧ zXA3 t xs ∧ AV.int .i64 x_1.2.1
 = AV.int .i64 y_4.2.1 ∧ zXA7 xs)) else ∃ xs_3 : List Int, Lf ([AV.int .i64 n_2] = cellsI xs_3 ∧ 1 = xs_3.length ∧ zXA8 xs_3) ∧ bif !List.any xs_3 (badM 32) then exW .i64 (n_2 - x_1.2.2.1) (fun n_4 => bif decide (n_4 < -32768) then Q zXA1
 [] {} else exW .i64 (n_2 - x_1.2.2.1) (fun n_5 => bif decide (n_5 ≥ 32768) then Q zXA1 [] {} else exW .i64 (n_2 - x_1.2.2.1) (fun n_6 => ckQ (Nat.beq (cellsI x_1.2.2.2).length x_1.2.2.2.length && true && Nat.beq (0 + x_1.2.2.2.length * 1)
 x_1.2.2.2.length && Nat.ble (x_1.2.2.2.length + 1) 1099511627776 && Nat.ble ((x_1.2.2.2.length + 1) * 8) 1099511627776) (exW .i64 ((x_1.1 : Int) + 1) (fun n_7 => zXA5 ∧ ((∃ y_8 : Nat, zXA2 y_8 xs ∧ xs.length - y_8 < xs.length - x_1.1 ∧
 False) ∨ ∃ y_8 : Nat × Int × Int × List Int, zXA0 y_8 xs ∧ xs.length - y_8.1 < xs.length - x_1.1 ∧ cellsI x_1.2.2.2 ++ [AV.int .i64 n_6] = cellsI y_8.2.2.2 ∧ zXA3 t xs ∧ AV.sl 0 (x_1.2.2.2.length + 1) 0 (x_1.2.2.2.length + 1) 1 = zXA10 y_8
 ∧ AV.int .i64 n_7 = AV.int .i64 (y_8.1 : Int) ∧ AV.int .i64 n_2 = AV.int .i64 y_8.2.2.1 ∧ zXA3 t xs ∧ AV.int .i64 x_1.2.1 = AV.int .i64 y_8.2.1 ∧ zXA7 xs)))))) else Q zXA1 [] {}))) else exI .i64 (xs.length : Int) (fun n_2 => bif decide
 (n_2 ≥ 1) then exI .i64 (xs.length : Int) (fun n_3 => bif decide (n_3 ≤ 64) then Q (.ret (.tup [.int .i64 x_1.2.1, .sl 0 x_1.2.2.2.length 0 x_1.2.2.2.length 1, .bool true])) [Blk.mk BK.grow true (cellsI x_1.2.2.2)] {} else Q (.ret (.tup
 [.int .i64 x_1.2.1, .sl 0 x_1.2.2.2.length 0 x_1.2.2.2.length 1, .bool false])) [Blk.mk BK.grow true (cellsI x_1.2.2.2)] {}) else Q (.ret (.tup [.int .i64 x_1.2.1, .sl 0 x_1.2.2.2.length 0 x_1.2.2.2.length 1, .bool false])) [Blk.mk BK.grow
 true (cellsI x_1.2.2.2)] {}))) := by kernel_rfl


theorem badM32 (x : Int) : badM 32 x = decide (x < 0 ∨ 4294967296 ≤ x) := by
 have e : (2 : Int) ^ min (32 : Int).toNat 64 = 4294967296 := rfl
 rw [badM, e, Int.fdiv_eq_ediv_of_nonneg _ (by omega)]
 rw [Bool.eq_iff_iff]
 simp only [Bool.or_eq_true, decide_eq_true_eq, bne_iff_ne, ne_eq]
 omega
theorem badM8 (x : Int) : badM 8 x = decide (x < 0 ∨ 256 ≤ x) := by
 have e : (2 : Int) ^ min (8 : Int).toNat 64 = 256 := rfl
 rw [badM, e, Int.fdiv_eq_ediv_of_nonneg _ (by omega)]
 rw [Bool.eq_iff_iff]
 simp only [Bool.or_eq_true, decide_eq_true_eq, bne_iff_ne, ne_eq]
 omega
theorem badM16d (x : Int) : badM 16 x = decide (x < 0 ∨ 65536 ≤ x) := by
 rw [Bool.eq_iff_iff, badM16, decide_eq_true_eq]
theorem splitF {b : Bool} {A B : Prop} (h : b = false → A) (k : b = true → B) : bif !b then A else B := by
 cases b
 ·exact h rfl
 ·exact k rfl
theorem all_take {α : Type} {p : α → Bool} {l : List α} {i : Nat} {r : α} (h : l[i]? = some r) : (l.take (i + 1)).all p = ((l.take i).all p && p r) := by
 rw [List.take_add_one, h, List.all_append]
 simp
theorem recs_run (t : Nat) (l : List Rc) (hl : l.length ≤ 1000000) (Q : Out → List Blk → Gh → Prop) (hq : Q (.ret (.bool (rcsOkM l))) [] {}) : ∃ hv hb, goal_71 hv hb t l Q := by
 obtain ⟨hv, hb', e⟩ : ∃ hv hb, goal_71 hv hb t l Q = _ := ⟨_, _, vc_71 t l Q⟩
 refine ⟨hv, hb', e.mpr ?_⟩
 delta zXA6 zXA8 zXA4 zXA5
 clear e
 refine ⟨_, rfl, splitD (fun h6 => ⟨_, rfl, ⟨0, ⟨by omega, by omega, by simp⟩, rfl, rfl, rfl, rfl, trivial⟩, ?_⟩) (fun h6 => ?_)⟩
 ·rintro i ⟨g1, g2, g3⟩
  refine splitD (fun h => ?_) (fun h => ?_)
  ·have hi : i < l.length := by omega
   obtain ⟨r, hr, hc⟩ := cellsR_get hi (Nat.mul_comm 7 i ▸ rfl : i * 7 = 7 * i)
   have bad : rcOkM r = false → Q (.ret (.bool false)) [] {} := fun hb => by
    have : rcsOkM l = false := by
     have hall : l.all rcOkM = false := by
      rw [List.all_eq_false]
      exact ⟨r, List.mem_of_getElem? hr, by simp [hb]⟩
     simp [rcsOkM, hall]
    rwa [this] at hq
   have ge : (decide ((i : Int) ≥ 0)) = true := by simp
   refine ⟨_, rfl, ckI (by simp; omega) (ckI (by simp [cellsR_len]; omega) ⟨r.1, r.2.1, r.2.2.1, r.2.2.2.1, r.2.2.2.2.1, r.2.2.2.2.2.1, r.2.2.2.2.2.2, by rw [Int.toNat_natCast, hc]; rfl, [r.1, r.2.2.2.1, r.2.2.2.2.1, r.2.2.2.2.2.1, r.2.2.2.2.2.2], ⟨rfl, rfl, by decide, by simp⟩, splitF (fun f1 => ⟨[r.2.1], ⟨rfl, rfl, by decide, by simp⟩, splitF (fun f2 => splitD (fun f3 => ?_) (fun f3 => splitD (fun f4 => ?_) (fun f4 => ?_))) (fun f2 => ?_)⟩) (fun f1 => ?_)⟩)⟩
   all_goals simp only [List.any_cons, List.any_nil, Bool.or_false, badM32, badM8, Bool.or_eq_false_iff, Bool.or_eq_true, decide_eq_true_eq, decide_eq_false_iff_not] at f1
   all_goals try simp only [List.any_cons, List.any_nil, Bool.or_false, badM32, badM8, Bool.or_eq_false_iff, Bool.or_eq_true, decide_eq_true_eq, decide_eq_false_iff_not] at f2
   ·rw [ge]; exact bad (by simp only [rcOkM, decide_eq_false_iff_not]; omega)
   ·rw [ge]; exact bad (by simp only [rcOkM, decide_eq_false_iff_not]; omega)
   ·have hok : rcOkM r = true := by simp only [rcOkM, decide_eq_true_eq]; omega
    refine wrapI (by omega) (by omega) ⟨⟨trivial, rfl⟩, i + 1, ⟨hi, g2, by rw [all_take hr, g3, hok]; rfl⟩, by omega, rfl, rfl, rfl, rfl, trivial⟩
   ·rw [ge]; exact bad (by simp only [rcOkM, decide_eq_false_iff_not]; omega)
   ·rw [ge]; exact bad (by simp only [rcOkM, decide_eq_false_iff_not]; omega)
  ·have : rcsOkM l = true := by
    rw [List.take_of_length_le (by omega)] at g3
    simp only [rcsOkM, g3, Bool.and_true, decide_eq_true_eq]; omega
   rwa [this] at hq
 ·have : rcsOkM l = false := by
   simp only [rcsOkM, Bool.and_eq_false_iff, decide_eq_false_iff_not]; left; omega
  rwa [this] at hq
def cRecs : Con
 | [.lst _ cs n 7], H, K => ∃ l : List Rc, Lf (cs = cellsRM l ∧ n = l.length ∧ l.length ≤ 1000000) ∧ K (.ret (.bool (rcsOkM l))) H
 | _, _, _ => False
theorem recs_ok : ValidF Tryd.prog glC 71 cRecs := by
 refine valid_flat (enters_of (by kernel_rfl)) glC_noY fun args H Q hc => ?_
 unfold cRecs at hc
 split at hc
 ·obtain ⟨l, ⟨rfl, rfl, hl⟩, hq⟩ := hc
  obtain ⟨hv, hb', h⟩ := recs_run _ l hl (fun o H' _ => H' = [] ∧ (∃ v, o = .ret v ∧ old 0 v = true ∧ noY v = true) ∧ Q o H) ⟨rfl, ⟨_, rfl, rfl, rfl⟩, hq⟩
  exact ⟨rfl, rfl, _, 1000, envFor24 smE_ok _ _ _, rfl, h⟩
 ·exact hc.elim
def stepsRM (xs : List Int) : Int × List Int × Bool := match stepsM xs with
 | some p => (p.1, p.2, decide (1 ≤ xs.length ∧ xs.length ≤ 64))
 | none => (0, [], false)
theorem steps_run (t : Nat) (xs : List Int) (hl : xs.length ≤ 1000000) (Q : Out → List Blk → Gh → Prop)
  (hq0 : (stepsRM xs).2.1 = [] → Q (.ret (.tup [.int .i64 (stepsRM xs).1, .nils, .bool (stepsRM xs).2.2])) [] {})
  (hq : ∀ r l b, stepsRM xs = (r, l, b) → Q (.ret (.tup [.int .i64 r, .sl 0 l.length 0 l.length 1, .bool b])) [⟨.grow, true, cellsI l⟩] {}) : ∃ hv hb, goal_70 hv hb t xs Q := by
 obtain ⟨hv, hb', e⟩ : ∃ hv hb, goal_70 hv hb t xs Q = _ := ⟨_, _, vc_70 t xs Q⟩
 refine ⟨hv, hb', e.mpr ?_⟩
 delta zXA2 zXA3 zXA11 zXA9 zXA0 zXA5 zXA8 zXA1 zXA10 zXA7
 clear e
 have no : stepsM xs = none → Q (.ret (.tup [.int .i64 0, .nils, .bool false])) [] {} := fun h => by
  have e : stepsRM xs = (0, [], false) := by simp [stepsRM, h]
  rw [e] at hq0
  exact hq0 rfl
 refine ⟨_, rfl, .inl ⟨0, ⟨by omega, rfl⟩, rfl, rfl, rfl, rfl, rfl, rfl, rfl, rfl, trivial⟩, ?_, ?_⟩
 ·rintro i ⟨g1, g2⟩
  refine splitD (fun h => ?_) (fun h => ?_)
  ·have hi : i < xs.length := by omega
   rw [drop_getD hi, stepsGoM] at g2
   refine ckI (by simp; omega) (ckI (by simp [cellsI_len]; omega) (getI (i := i) hi (by simp) (splitE (fun he => ?_) (fun he => ?_))))
   ·rw [if_pos he] at g2
    refine wrapI (by omega) (by omega) ⟨⟨trivial, rfl⟩, .inl ⟨i + 1, ⟨hi, g2⟩, by omega, rfl, rfl, rfl, rfl, rfl, rfl, rfl, rfl, trivial⟩⟩
   ·rw [if_neg he] at g2
    refine ⟨[xs.getD i 0], ⟨rfl, rfl, by decide, by simp⟩, splitF (fun f1 => ?_) (fun f1 => ?_)⟩
    all_goals simp only [List.any_cons, List.any_nil, Bool.or_false, badM32, decide_eq_true_eq, decide_eq_false_iff_not] at f1
    ·rw [if_neg f1, if_pos rfl, List.nil_append] at g2
     refine ⟨_, rfl, ?_⟩
     rw [Int.fdiv_eq_ediv_of_nonneg _ (by omega)]
     have e3 : xs.getD i 0 - xs.getD i 0 / 256 * 256 = xs.getD i 0 % 256 := by omega
     refine wrapI (by omega) (by omega) (wrapI (by omega) (by omega) (splitD (fun h => by exfalso; omega) (fun _ => wrapI (by omega) (by omega) (splitD (fun h => by exfalso; omega) (fun _ => wrapI (by omega) (by omega) (wrapI (by omega) (by omega) ⟨⟨trivial, rfl⟩, .inr ⟨(i + 1, xs.getD i 0 / 256, xs.getD i 0, [xs.getD i 0 % 256]), ⟨hi, by simp, by simp, by dsimp only; omega, by dsimp only; omega, g2⟩, by dsimp only; omega, by rw [e3]; rfl, rfl, rfl, rfl, rfl, rfl, rfl, rfl, rfl, trivial⟩⟩))))))
    ·rw [if_pos f1] at g2
     exact no g2
  ·rw [List.drop_of_length_le (by omega), stepsGoM] at g2
   have e : stepsRM xs = (0, [], decide (1 ≤ xs.length ∧ xs.length ≤ 64)) := by simp [stepsRM, g2]
   rw [e] at hq0
   have hq1 := hq0 rfl
   dsimp only at hq1
   refine ⟨_, rfl, splitD (fun h1 => ⟨_, rfl, splitD (fun h2 => ?_) (fun h2 => ?_)⟩) (fun h1 => ?_)⟩
   ·rwa [decide_eq_true (by omega)] at hq1
   ·rwa [decide_eq_false (by omega)] at hq1
   ·rwa [decide_eq_false (by omega)] at hq1
 ·rintro ⟨i, ref, last, acc⟩ ⟨g1, g2, g3, g4, g5, g6⟩
  dsimp only at g1 g2 g3 g4 g5 g6 ⊢
  refine splitD (fun h => ?_) (fun h => ?_)
  ·have hi : i < xs.length := by omega
   rw [drop_getD hi, stepsGoM] at g6
   refine ckI (by simp; omega) (ckI (by simp [cellsI_len]; omega) (getI (i := i) hi (by simp) (splitE (fun he => ?_) (fun he => ?_))))
   ·rw [if_pos he] at g6
    refine wrapI (by omega) (by omega) ⟨⟨trivial, rfl⟩, .inr ⟨(i + 1, ref, last, acc), ⟨hi, g2, by dsimp only; omega, g4, g5, g6⟩, by dsimp only; omega, rfl, rfl, rfl, rfl, rfl, rfl, rfl, rfl, rfl, trivial⟩⟩
   ·rw [if_neg he] at g6
    refine ⟨[xs.getD i 0], ⟨rfl, rfl, by decide, by simp⟩, splitF (fun f1 => ?_) (fun f1 => ?_)⟩
    all_goals simp only [List.any_cons, List.any_nil, Bool.or_false, badM32, decide_eq_true_eq, decide_eq_false_iff_not] at f1
    ·rw [if_neg f1, if_neg (by simp)] at g6
     refine wrapI (by omega) (by omega) (splitD (fun h3 => ?_) (fun h3 => wrapI (by omega) (by omega) (splitD (fun h4 => ?_) (fun h4 => ?_))))
     ·rw [if_pos (.inl h3)] at g6; exact no g6
     ·rw [if_pos (.inr h4)] at g6; exact no g6
     ·rw [if_neg (by omega)] at g6
      refine wrapI (by omega) (by omega) (ckI (by simp [cellsI_len]; omega) (wrapI (by omega) (by omega) ⟨⟨trivial, rfl⟩, .inr ⟨(i + 1, ref, xs.getD i 0, acc ++ [xs.getD i 0 - last]), ⟨hi, by simp, by simp; omega, by dsimp only; omega, by dsimp only; omega, g6⟩, by dsimp only; omega, by simp [cellsI], rfl, by simp, rfl, rfl, rfl, rfl, rfl, rfl, trivial⟩⟩))
    ·rw [if_pos f1] at g6
     exact no g6
  ·rw [List.drop_of_length_le (by omega), stepsGoM] at g6
   have hq1 := hq ref acc (decide (1 ≤ xs.length ∧ xs.length ≤ 64)) (by simp [stepsRM, g6])
   refine ⟨_, rfl, splitD (fun h1 => ⟨_, rfl, splitD (fun h2 => ?_) (fun h2 => ?_)⟩) (fun h1 => ?_)⟩
   ·rwa [decide_eq_true (by omega)] at hq1
   ·rwa [decide_eq_false (by omega)] at hq1
   ·rwa [decide_eq_false (by omega)] at hq1
def cSteps : Con
 | [.lst _ cs n 1], H, K => ∃ xs : List Int, Lf (cs = cellsI xs ∧ n = xs.length ∧ xs.length ≤ 1000000) ∧ ∀ r l b, Lf (stepsRM xs = (r, l, b)) → K (.ret (.tup [.int .i64 r, .lst 0 (cellsI l) l.length 1, .bool b])) H
 | _, _, _ => False
theorem plain_cellsI (xs : List Int) : ∀ x ∈ cellsI xs, plainB x = true := by
 intro x hx
 simp only [cellsI, List.mem_map] at hx
 obtain ⟨p, _, rfl⟩ := hx
 rfl
theorem frz_ints (l : List Int) : frzV 0 [⟨.grow, true, cellsI l⟩] 5 (.sl 0 l.length 0 l.length 1) = .lst 0 (cellsI l) l.length 1 :=
 frz_sl (b := ⟨.grow, true, cellsI l⟩) rfl (cellsI_len l) (by omega) (by simp) (by simp [cellsI_len, List.take_of_length_le]) (plain_cellsI l)
theorem steps_ok : ValidF Tryd.prog glC 70 cSteps := by
 refine valid_frz (enters_of (by kernel_rfl)) glC_noY 6 (nlR [0, 1, 0]) (wk_nlR _) fun args H Q hc => ?_
 unfold cSteps at hc
 split at hc
 ·obtain ⟨xs, ⟨rfl, rfl, hl⟩, hq⟩ := hc
  obtain ⟨hv, hb', h⟩ := steps_run _ xs hl (fun o H' _ => ∃ v, o = .ret v ∧ Q (.ret (nlR [0, 1, 0] (frzV 0 H' 6 v))) H) (fun h => ⟨_, rfl, by
   have := hq _ _ _ ⟨(by rw [← h] : stepsRM xs = ((stepsRM xs).1, [], (stepsRM xs).2.2))⟩
   exact this⟩) (fun r l b h => ⟨_, rfl, by
   have := hq _ _ _ ⟨h⟩
   have e : frzV 0 [⟨.grow, true, cellsI l⟩] 6 (.tup [.int .i64 r, .sl 0 l.length 0 l.length 1, .bool b]) = .tup [.int .i64 r, frzV 0 [⟨.grow, true, cellsI l⟩] 5 (.sl 0 l.length 0 l.length 1), .bool b] := rfl
   rw [e, frz_ints]
   exact this⟩)
  exact ⟨rfl, rfl, _, 1000, envFor24 smE_ok _ _ _, rfl, h⟩
 ·exact hc.elim
end Go.Proofs.YtafchcmemeinlaaDoor
