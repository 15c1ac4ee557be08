/-
  Chapter 24: what is valid for the reference; Check and Right.
-/
import Derived.Test.YtafchcmemeinlaaDoorC24XB
set_option linter.unusedSimpArgs false
set_option linter.unusedVariables false
set_option linter.unusedSectionVars false
namespace Go.Proofs.YtafchcmemeinlaaDoor
open Go.RowKit
set_option maxRecDepth 1000000

def okC (c : Ctl) : Prop := c.rs.length ≤ 1000000 ∧ c.lo.length ≤ 1000000 ∧ c.ti.length ≤ 1000000
def cValid : Con
 | [.agg cs], H, K => ∃ c : Ctl, Lf (cs = ctC c ∧ okC c) ∧ K (.ret (.bool (validM c))) H
 | _, _, _ => False
theorem valid_run (c : Ctl) (h : okC c) (Q : Out → List Blk → Gh → Prop) (hq : Q (.ret (.bool (validM c))) [] {}) : ∃ hv hb, go49 hv hb c.k c.f c.a c.s1 c.s2 c.s3 c.s4 c.s5 c.rs c.lo c.ba c.ro c.ti Q := by
 obtain ⟨k, f, a, s1, s2, s3, s4, s5, rs, lo, ba, ro, ti⟩ := c
 obtain ⟨h1, h2, h3⟩ := h
 dsimp only at h1 h2 h3 ⊢
 cases k with
 | negSucc m => exact valid_runn m f a s1 s2 s3 s4 s5 rs lo ba ro ti h1 h2 h3 Q hq
 | ofNat k =>
  match k with
  | 0 => exact valid_run0 f a s1 s2 s3 s4 s5 rs lo ba ro ti h1 h2 h3 Q hq
  | 1 => exact valid_run1 f a s1 s2 s3 s4 s5 rs lo ba ro ti h1 h2 h3 Q hq
  | 2 => exact valid_run2 f a s1 s2 s3 s4 s5 rs lo ba ro ti h1 h2 h3 Q hq
  | 3 => exact valid_run3 f a s1 s2 s3 s4 s5 rs lo ba ro ti h1 h2 h3 Q hq
  | 4 => exact valid_run4 f a s1 s2 s3 s4 s5 rs lo ba ro ti h1 h2 h3 Q hq
  | 5 => exact valid_run5 f a s1 s2 s3 s4 s5 rs lo ba ro ti h1 h2 h3 Q hq
  | 6 => exact valid_run6 f a s1 s2 s3 s4 s5 rs lo ba ro ti h1 h2 h3 Q hq
  | m + 7 => exact valid_runh m f a s1 s2 s3 s4 s5 rs lo ba ro ti h1 h2 h3 Q hq
theorem valid_ok : ValidF Tryd.prog glC 49 cValid := by
 refine valid_flat (enters_of (by kernel_rfl)) glC_noY fun args H Q hc => ?_
 unfold cValid at hc
 split at hc
 ·obtain ⟨c, ⟨rfl, h⟩, hq⟩ := hc
  obtain ⟨hv, hb', h⟩ := valid_run c h (fun o H' _ => H' = [] ∧ (∃ v, o = .ret v ∧ old 0 v = true ∧ noY v = true) ∧ Q o H) ⟨rfl, ⟨_, rfl, rfl, rfl⟩, hq⟩
  refine ⟨by simp [ctC, oldL, old], by simp [ctC, noYL, noY], _, 1000, envFor24 sm49_ok _ _ _, rfl, h⟩
 ·exact hc.elim
def cellsCM (l : List Ctl) : List AV := l.flatMap ctC
theorem ctC_len (c : Ctl) : (ctC c).length = 13 := rfl
theorem cellsC_len : ∀ l : List Ctl, (cellsCM l).length = 13 * l.length
 | [] => rfl
 | r :: l => by
  have := cellsC_len l
  simp only [cellsCM, List.flatMap_cons, List.length_append, ctC_len, List.length_cons] at this ⊢
  omega
theorem cellsC_get {l : List Ctl} {i j : Nat} (hi : i < l.length) (hj : j = 13 * i) : ∃ r, l[i]? = some r ∧ (cellsCM l |>.drop j).take 13 = ctC r := by
 subst hj
 induction l generalizing i with
 | nil => simp at hi
 | cons x l ih =>
  cases i with
  | zero => exact ⟨x, rfl, rfl⟩
  | succ i =>
   obtain ⟨r, h1, h2⟩ := ih (i := i) (by simpa using hi)
   refine ⟨r, by simpa using h1, ?_⟩
   have e : cellsCM (x :: l) = ctC x ++ cellsCM l := rfl
   rw [e, show 13 * (i + 1) = (ctC x).length + 13 * i by rw [ctC_len]; omega, ← List.drop_drop, List.drop_left]
   exact h2
def headOkM (l : List Ctl) : Bool := match l with
 | [] => false
 | c :: _ => decide (c.k = 1 ∨ c.k = 2)
def checkM (l : List Ctl) : Bool := decide (1 ≤ l.length ∧ l.length ≤ 8) && headOkM l && l.all validM
def sm25 : SM := lookS [(49, cValid)]
theorem sm25_ok : ∀ f g, sm25 f = some g → ValidF Tryd.prog glC f g := lookS_ok _ (by simp only [List.mem_cons, List.not_mem_nil, or_false, forall_eq]; exact valid_ok)
def inv_69 (t : Nat) (l : List Ctl) : LInv where
 α := Nat
 pre i := Lf (i ≤ l.length ∧ (l.take i).all validM = true)
 st i := ⟨mkT [(0, .lst t (cellsCM l) l.length 13), (1, .fn (.func 48) [] []), (7, .int .i64 l.length), (8, .int .i64 i)], []⟩
 mu i := l.length - i
noncomputable def env_25 (hv : Nat → Option Pa) (hb : Nat → Option Bool) (t : Nat) (l : List Ctl) : Env := e24 sm25 (fun i => bif Nat.beq i 69000 then some (fun _ => [[inv_69 t l]]) else none) hv hb
noncomputable def goal_25 (hv : Nat → Option Pa) (hb : Nat → Option Bool) (t : Nat) (l : List Ctl) (Q : Out → List Blk → Gh → Prop) : Prop :=
 callx (env_25 hv hb t l) (wpx (env_25 hv hb t l) 1000) 25 [.lst t (cellsCM l) l.length 13] [] {} Q
def vc_25_1 (t : Nat) (l : List Ctl) (Q : Out → List Blk → Gh → Prop) : Prop :=
exI .i64 (l.length : Int) fun n_0 => (∃ x_1 : Nat, Lf (x_1 ≤ l.length ∧ List.all (l.take x_1) validM = true) ∧ eqqQ (AV.lst t (cellsCM l) l.length 13) ∧ eqqQ (AV.fn (Fn.func 48) [] []) ∧ AV.int .i64 n_0 = AV.int .i64 (l.length : Int) ∧
 AV.int .i64 0 = AV.int .i64 (x_1 : Int) ∧ True) ∧ ∀ x_1 : Nat, Lf (x_1 ≤ l.length ∧ List.all (l.take x_1) validM = true) → bif decide ((x_1 : Int) < (l.length : Int)) then exI .i64 (x_1 : Int) fun n_2 => ckQ (decide (0 ≤ n_2) && Nat.blt
 n_2.toNat l.length && true) (ckQ (Nat.ble (n_2.toNat * 13 + 13) (cellsCM l).length) (ckQ (Nat.beq (((cellsCM l).drop (n_2.toNat * 13)).take 13).length (((cellsCM l).drop (n_2.toNat * 13)).take 13).length && Nat.ble 13 (((cellsCM l).drop
 (n_2.toNat * 13)).take 13).length) (∃ c_3 : Ctl, Lf (((((cellsCM l).drop (n_2.toNat * 13)).take 13).drop 0).take 13 = [AV.int .i64 c_3.1, .int .i64 c_3.2, .int .i64 c_3.3, .int .i64 c_3.4, .int .i64 c_3.5, .int .i64 c_3.6, .int .i64 c_3.7,
 .int .i64 c_3.8, .lst 0 (cellsRM c_3.9) c_3.9.length 7, .lst 0 (cellsI c_3.10) c_3.10.length 1, .int .i64 c_3.11, .int .i64 c_3.12, .lst 0 (cellsI c_3.13) c_3.13.length 1] ∧ okC c_3) ∧ bif validM c_3 then exW .i64 ((x_1 : Int) + 1) fun n_4
 => (True ∧ (0 : Nat) = (0 : Nat)) ∧ ∃ y_5 : Nat, Lf (y_5 ≤ l.length ∧ List.all (l.take y_5) validM = true) ∧ l.length - y_5 < l.length - x_1 ∧ eqqQ (AV.lst t (cellsCM l) l.length 13) ∧ eqqQ (AV.fn (Fn.func 48) [] []) ∧ eqqQ (AV.int .i64
 (l.length : Int)) ∧ AV.int .i64 n_4 = AV.int .i64 (y_5 : Int) ∧ True else bif decide (n_2 ≥ 0) then Q (.ret (.int .i64 240)) [] {} else Q (.ret (.int .i64 0)) [] {}))) else Q (.ret (.int .i64 0)) [] {}
theorem vc_25 (t : Nat) (l : List Ctl) (Q : Out → List Blk → Gh → Prop) : goal_25 (lookV [(102404, .int .i64), (102408, .int .i64), (102415, .int .i64), (102421, .int .i64), (282631, .int .i64), (282634, .int .i64), (282642, .int .i64)]) (lookB []) t l Q = (
(∃ n_0 : Int, (((AV.int .i64 (Nat.cast (List.length l) : Int)) = (AV.int .i64 n_0)) ∧
 (bif (decide (n_0 < (1 : Int))) then (Q (Out.ret (AV.int .i64 (240 : Int))) [] (Gh.mk (0 : Nat) (0 : Nat) []))
else (∃ n_1 : Int, (((AV.int .i64 (Nat.cast (List.length l) : Int)) = (AV.int .i64 n_1)) ∧
 (bif (decide (n_1 > (8 : Int))) then (Q (Out.ret (AV.int .i64 (240 : Int))) [] (Gh.mk (0 : Nat) (0 : Nat) []))
else (bif ((Nat.blt (0 : Nat) (List.length l)) && true) then (bif (Nat.blt (0 : Nat) (List.length (cellsCM l))) then (∃ n_2 : Int, (((List.getD (cellsCM l) (0 : Nat) AV.undef) = (AV.int .i64 n_2)) ∧
 (bif (n_2 != (1 : Int)) then (bif ((Nat.blt (0 : Nat) (List.length l)) && true) then (bif (Nat.blt (0 : Nat) (List.length (cellsCM l))) then (∃ n_3 : Int, (((List.getD (cellsCM l) (0 : Nat) AV.undef) = (AV.int .i64 n_3)) ∧
 (bif (n_3 != (2 : Int)) then (Q (Out.ret (AV.int .i64 (240 : Int))) [] (Gh.mk (0 : Nat) (0 : Nat) []))
else (vc_25_1 t l Q))))
else False)
else False)
else (vc_25_1 t l Q))))
else False)
else False)))))))) := by kernel_rfl

def inM (x b : Int) : Bool := decide (0 ≤ x ∧ x < 2 ^ b.toNat)
noncomputable def goal_45 (hv : Nat → Option Pa) (hb : Nat → Option Bool) (x b : Int) (Q : Out → List Blk → Gh → Prop) : Prop :=
 callx (e24 sm0 (fun _ => none) hv hb) (wpx (e24 sm0 (fun _ => none) hv hb) 1000) 45 [.int .i64 x, .int .i64 b] [] {} Q
theorem vc_45 (x : Int) (b : Int) (Q : Out → List Blk → Gh → Prop) : goal_45 (lookV [(184330, .int .i64)]) (lookB []) x b Q = (
(bif (decide (x ≥ (0 : Int))) then (bif ((decide ((0 : Int) ≤ b)) && true) then (∃ n_0 : Int, (((AV.int .i64 (IntKind.wrap .i64 ((1 : Int) * ((2 : Int) ^ (Min.min (Int.toNat b) (64 : Nat)))))) = (AV.int .i64 n_0)) ∧
 (bif (decide (x < n_0)) then (Q (Out.ret (AV.bool true)) [] (Gh.mk (0 : Nat) (0 : Nat) []))
else (Q (Out.ret (AV.bool false)) [] (Gh.mk (0 : Nat) (0 : Nat) [])))))
else False)
else (Q (Out.ret (AV.bool false)) [] (Gh.mk (0 : Nat) (0 : Nat) [])))) := by kernel_rfl

def cIn : Con
 | [.int .i64 x, .int .i64 b], H, K => Lf (b = 8 ∨ b = 16 ∨ b = 32) ∧ K (.ret (.bool (inM x b))) H
 | _, _, _ => False
def sm72 : SM := lookS [(45, cIn)]
def inv_72 (t : Nat) (l : List Rc) : LInv where
 α := Nat
 pre i := Lf (i ≤ l.length ∧ l.length ≤ 6 ∧ (l.take i).all rcOkM = true)
 st i := ⟨mkT [(0, .lst t (cellsRM l) l.length 7), (3, .int .i64 i)], []⟩
 mu i := l.length - i
noncomputable def env_72 (hv : Nat → Option Pa) (hb : Nat → Option Bool) (t : Nat) (l : List Rc) : Env := e24 sm72 (fun i => bif Nat.beq i 72000 then some (fun _ => [[inv_72 t l]]) else none) hv hb
noncomputable def goal_72 (hv : Nat → Option Pa) (hb : Nat → Option Bool) (t : Nat) (l : List Rc) (Q : Out → List Blk → Gh → Prop) : Prop :=
 callx (env_72 hv hb t l) (wpx (env_72 hv hb t l) 1000) 72 [.lst t (cellsRM l) l.length 7] [] {} Q
abbrev zXC2 (Q : Out → List Blk → Gh → Prop) : Prop := Q (.ret (.bool false)) [] {}
abbrev zXC5 (x_1 : Nat) (l : List Rc) : Prop := Lf (x_1 ≤ l.length ∧ l.length ≤ 6 ∧ List.all (l.take x_1) rcOkM = true)
abbrev zXC11 (x_1 : Nat) : AV := .int .i64 (x_1 : Int)
abbrev zXC1 : Prop := Lf ((32 : Int) = (8 : Int) ∨ (32 : Int) = (16 : Int) ∨ eqqQ (32 : Int))
abbrev zXC6 : Prop := True ∧ (0 : Nat) = (0 : Nat)
abbrev zXC10 (n_13 : Int) (y_14 : Nat) : Prop := AV.int .i64 n_13 = AV.int .i64 (y_14 : Int) ∧ True
theorem vc_72 (t : Nat) (l : List Rc) (Q : Out → List Blk → Gh → Prop) : goal_72 (lookV [(294918, .int .i64), (294920, .int .i64), (294922, .int .i64), (294927, .int .i64), (294929, .agg [.int .i64, .int .i64, .int .i64, .int .i64, .int
 .i64, .int .i64, .int .i64]), (294924, .int .i64), (294925, .int .i64)]) (lookB []) t l Q = (exI .i64 (l.length : Int) (fun n_0 => bif decide (n_0 > 6) then zXC2 Q else (∃ x_1 : Nat, zXC5 x_1 l ∧ eqqQ (AV.lst t (cellsRM l) l.length 7) ∧
 AV.int .i64 0 = zXC11 x_1 ∧ True) ∧ ∀ x_1 : Nat, zXC5 x_1 l → exI .i64 (x_1 : Int) (fun n_2 => exI .i64 (l.length : Int) (fun n_3 => bif decide (n_2 < n_3) then exI .i64 (x_1 : Int) (fun n_4 => ckQ (decide (0 ≤ n_4) && Nat.blt n_4.toNat
 l.length && true) (ckQ (Nat.ble (n_4.toNat * 7 + 7) (cellsRM l).length) (∃ n_5 n_6 n_7 n_8 n_9 n_10 n_11, AV.agg (((cellsRM l).drop (n_4.toNat * 7)).take 7) = AV.agg [.int .i64 n_5, .int .i64 n_6, .int .i64 n_7, .int .i64 n_8, .int .i64
 n_9, .int .i64 n_10, .int .i64 n_11] ∧ zXC1 ∧ bif inM n_5 32 then Lf ((8 : Int) = (8 : Int) ∨ (8 : Int) = (16 : Int) ∨ (8 : Int) = (32 : Int)) ∧ bif inM n_6 8 then bif decide (n_7 < -8388608) then zXC2 Q else bif decide (n_7 > 8388607)
 then zXC2 Q else zXC1 ∧ bif inM n_8 32 then zXC1 ∧ bif inM n_9 32 then zXC1 ∧ bif inM n_10 32 then zXC1 ∧ bif inM n_11 32 then exI .i64 (x_1 : Int) (fun n_12 => exW .i64 (n_12 + 1) (fun n_13 => zXC6 ∧ ∃ y_14 : Nat, zXC5 y_14 l ∧ l.length -
 y_14 < l.length - x_1 ∧ eqqQ (AV.lst t (cellsRM l) l.length 7) ∧ zXC10 n_13 y_14)) else zXC2 Q else zXC2 Q else zXC2 Q else zXC2 Q else zXC2 Q else zXC2 Q))) else Q (.ret (.bool true)) [] {})))) := by kernel_rfl

def inv_73 (t : Nat) (xs : List Int) : List LInv := [
 { α := Nat, pre := fun i => Lf (i ≤ xs.length ∧ stepsM xs = stepsGoM 0 0 true (xs.drop i) []), st := fun i => ⟨mkT [(0, .lst t (cellsI xs) xs.length 1), (3, .int .i64 (-1)), (4, .int .i64 i)], []⟩, mu := fun i => xs.length - i },
 { α := Nat × Int, pre := fun p => Lf (p.1 ≤ xs.length ∧ 0 ≤ p.2 ∧ p.2 < 4294967296 ∧ ∃ ref acc, stepsM xs = stepsGoM ref p.2 false (xs.drop p.1) acc), st := fun p => ⟨mkT [(0, .lst t (cellsI xs) xs.length 1), (3, .int .i64 p.2), (4, .int .i64 (p.1 : Nat))], []⟩, mu := fun p => xs.length - p.1 }]
noncomputable def env_73 (hv : Nat → Option Pa) (hb : Nat → Option Bool) (t : Nat) (xs : List Int) : Env := e24 sm72 (fun i => bif Nat.beq i 73000 then some (fun _ => [inv_73 t xs]) else none) hv hb
noncomputable def goal_73 (hv : Nat → Option Pa) (hb : Nat → Option Bool) (t : Nat) (xs : List Int) (Q : Out → List Blk → Gh → Prop) : Prop :=
 callx (env_73 hv hb t xs) (wpx (env_73 hv hb t xs) 1000) 73 [.lst t (cellsI xs) xs.length 1] [] {} Q
abbrev q4XC_73_0 (x_2 : Nat × Int) (xs : List Int) (t : Nat) : Prop :=
ckQ (Nat.blt (x_2.1 : Int).toNat xs.length && true) (ckQ (Nat.blt ((x_2.1 : Int).toNat * 1) (cellsI xs).length) (exV .i64 ((cellsI xs).getD ((x_2.1 : Int).toNat * 1) AV.undef) fun n_10 => exW .i64 ((x_2.1 : Int) + 1) fun n_11 => (True ∧ (0
 : Nat) = (0 : Nat)) ∧ ((∃ y_12 : Nat, Lf (y_12 ≤ xs.length ∧ stepsM xs = stepsGoM 0 0 true (xs.drop y_12) []) ∧ xs.length - y_12 < xs.length - x_2.1 ∧ eqqQ (AV.lst t (cellsI xs) xs.length 1) ∧ AV.int .i64 n_10 = AV.int .i64 (-1) ∧ AV.int
 .i64 n_11 = AV.int .i64 (y_12 : Int) ∧ True) ∨ ∃ y_12 : Nat × Int, Lf (y_12.1 ≤ xs.length ∧ 0 ≤ y_12.2 ∧ y_12.2 < 4294967296 ∧ ∃ ref_13 : Int, ∃ acc_14 : List Int, stepsM xs = stepsGoM ref_13 y_12.2 false (xs.drop y_12.1) acc_14) ∧
 xs.length - y_12.1 < xs.length - x_2.1 ∧ eqqQ (AV.lst t (cellsI xs) xs.length 1) ∧ AV.int .i64 n_10 = AV.int .i64 y_12.2 ∧ AV.int .i64 n_11 = AV.int .i64 (y_12.1 : Int) ∧ True)))
abbrev zXC3 (x_2 : Nat) (xs : List Int) : Prop := Lf (x_2 ≤ xs.length ∧ stepsM xs = stepsGoM 0 0 true (xs.drop x_2) [])
abbrev zXC4 (t : Nat) (xs : List Int) : Prop := eqqQ (AV.lst t (cellsI xs) xs.length 1)
abbrev zXC9 : AV := .int .i64 (-1)
abbrev zXC0 (x_2 : Nat × Int) (xs : List Int) : Prop := Lf (x_2.1 ≤ xs.length ∧ 0 ≤ x_2.2 ∧ x_2.2 < 4294967296 ∧ ∃ ref_3 : Int, ∃ acc_4 : List Int, stepsM xs = stepsGoM ref_3 x_2.2 false (xs.drop x_2.1) acc_4)
abbrev zXC8 (x_2 : Nat × Int) : Nat := (x_2.1 : Int).toNat
abbrev zXC7 (x_2 : Nat × Int) : Nat := (x_2.1 : Int).toNat * 1
theorem vc_73 (t : Nat) (xs : List Int) (Q : Out → List Blk → Gh → Prop) : goal_73 (lookV [(299014, .int .i64), (299018, .int .i64), (299023, .int .i64), (299030, .int .i64), (299026, .int .i64), (299035, .int .i64), (299063, .int .i64),
 (299045, .int .i64), (299047, .int .i64), (299053, .int .i64), (299055, .int .i64)]) (lookB []) t xs Q = (exI .i64 (xs.length : Int) (fun n_0 => bif decide (n_0 < 1) then zXC2 Q else exI .i64 (xs.length : Int) (fun n_1 => bif decide (n_1 >
 64) then zXC2 Q else ((∃ x_2 : Nat, zXC3 x_2 xs ∧ zXC4 t xs ∧ eqqQ zXC9 ∧ AV.int .i64 0 = zXC11 x_2 ∧ True) ∨ ∃ x_2 : Nat × Int, zXC0 x_2 xs ∧ zXC4 t xs ∧ zXC9 = AV.int .i64 x_2.2 ∧ AV.int .i64 0 = AV.int .i64 (x_2.1 : Int) ∧ True) ∧ (∀
 x_2 : Nat, zXC3 x_2 xs → exI .i64 (xs.length : Int) (fun n_3 => bif decide ((x_2 : Int) < n_3) then ckQ (Nat.blt (x_2 : Int).toNat xs.length && true) (ckQ (Nat.blt ((x_2 : Int).toNat * 1) (cellsI xs).length) (exV .i64 ((cellsI xs).getD
 ((x_2 : Int).toNat * 1) AV.undef) (fun n_4 => bif n_4 == -1 then exW .i64 ((x_2 : Int) + 1) (fun n_5 => zXC6 ∧ ((∃ y_6 : Nat, zXC3 y_6 xs ∧ xs.length - y_6 < xs.length - x_2 ∧ zXC4 t xs ∧ eqqQ zXC9 ∧ zXC10 n_5 y_6) ∨ ∃ y_6 : Nat × Int,
 zXC0 y_6 xs ∧ xs.length - y_6.1 < xs.length - x_2 ∧ zXC4 t xs ∧ zXC9 = AV.int .i64 y_6.2 ∧ AV.int .i64 n_5 = AV.int .i64 (y_6.1 : Int) ∧ True)) else ckQ (Nat.blt (x_2 : Int).toNat xs.length && true) (ckQ (Nat.blt ((x_2 : Int).toNat * 1)
 (cellsI xs).length) (exV .i64 ((cellsI xs).getD ((x_2 : Int).toNat * 1) AV.undef) (fun n_5 => zXC1 ∧ bif inM n_5 32 then ckQ (Nat.blt (x_2 : Int).toNat xs.length && true) (ckQ (Nat.blt ((x_2 : Int).toNat * 1) (cellsI xs).length) (exV .i64
 ((cellsI xs).getD ((x_2 : Int).toNat * 1) AV.undef) (fun n_6 => exW .i64 ((x_2 : Int) + 1) (fun n_7 => zXC6 ∧ ((∃ y_8 : Nat, zXC3 y_8 xs ∧ xs.length - y_8 < xs.length - x_2 ∧ zXC4 t xs ∧ AV.int .i64 n_6 = zXC9 ∧ zXC10 n_7 y_8) ∨ ∃ y_8 :
 Nat × Int, zXC0 y_8 xs ∧ xs.length - y_8.1 < xs.length - x_2 ∧ zXC4 t xs ∧ AV.int .i64 n_6 = AV.int .i64 y_8.2 ∧ AV.int .i64 n_7 = AV.int .i64 (y_8.1 : Int) ∧ True))))) else zXC2 Q)))))) else Q (.ret (.bool true)) [] {})) ∧ ∀ x_2 : Nat ×
 Int, zXC0 x_2 xs → exI .i64 (xs.length : Int) (fun n_3 => bif decide ((x_2.1 : Int) < n_3) then ckQ (Nat.blt (zXC8 x_2) xs.length && true) (ckQ (Nat.blt (zXC7 x_2) (cellsI xs).length) (exV .i64 ((cellsI xs).getD (zXC7 x_2) AV.undef) (fun
 n_4 => bif n_4 == -1 then exW .i64 ((x_2.1 : Int) + 1) (fun n_5 => zXC6 ∧ ((∃ y_6 : Nat, zXC3 y_6 xs ∧ xs.length - y_6 < xs.length - x_2.1 ∧ zXC4 t xs ∧ AV.int .i64 x_2.2 = zXC9 ∧ zXC10 n_5 y_6) ∨ ∃ y_6 : Nat × Int, zXC0 y_6 xs ∧ xs.length
 - y_6.1 < xs.length - x_2.1 ∧ zXC4 t xs ∧ AV.int .i64 x_2.2 = AV.int .i64 y_6.2 ∧ AV.int .i64 n_5 = AV.int .i64 (y_6.1 : Int) ∧ True)) else ckQ (Nat.blt (zXC8 x_2) xs.length && true) (ckQ (Nat.blt (zXC7 x_2) (cellsI xs).length) (exV .i64
 ((cellsI xs).getD (zXC7 x_2) AV.undef) (fun n_5 => zXC1 ∧ bif inM n_5 32 then bif decide (x_2.2 ≥ 0) then ckQ (Nat.blt (zXC8 x_2) xs.length && true) (ckQ (Nat.blt (zXC7 x_2) (cellsI xs).length) (exV .i64 ((cellsI xs).getD (zXC7 x_2)
 AV.undef) (fun n_6 => exW .i64 (n_6 - x_2.2) (fun n_7 => bif decide (n_7 < -32768) then zXC2 Q else ckQ (Nat.blt (zXC8 x_2) xs.length && true) (ckQ (Nat.blt (zXC7 x_2) (cellsI xs).length) (exV .i64 ((cellsI xs).getD (zXC7 x_2) AV.undef)
 (fun n_8 => exW .i64 (n_8 - x_2.2) (fun n_9 => bif decide (n_9 > 32767) then zXC2 Q else q4XC_73_0 x_2 xs t)))))))) else q4XC_73_0 x_2 xs t else zXC2 Q)))))) else Q (.ret (.bool true)) [] {})))) := by kernel_rfl

def cTimes : Con
 | [.lst _ cs n 1], H, K => ∃ xs : List Int, Lf (cs = cellsI xs ∧ n = xs.length ∧ xs.length ≤ 1000000) ∧ ∀ b, Lf (b = (stepsRM xs).2.2) → K (.ret (.bool b)) H
 | _, _, _ => False

theorem splitB {b : Bool} {A B : Prop} (h : b = true → A) (k : b = false → B) : bif b then A else B := by
 cases b
 ·exact k rfl
 ·exact h rfl
theorem in_run (x b : Int) (hb : b = 8 ∨ b = 16 ∨ b = 32) (Q : Out → List Blk → Gh → Prop) (hq : Q (.ret (.bool (inM x b))) [] {}) : ∃ hv hb, goal_45 hv hb x b Q := by
 obtain ⟨hv, hb', e⟩ : ∃ hv hb, goal_45 hv hb x b Q = _ := ⟨_, _, vc_45 x b Q⟩
 refine ⟨hv, hb', e.mpr ?_⟩
 clear e
 rcases hb with rfl | rfl | rfl <;> refine splitD (fun h => ckI (by simp) ⟨_, rfl, ?_⟩) (fun h => ?_)
 ·refine splitD (fun k => ?_) (fun k => ?_)
  ·rwa [inM, decide_eq_true ⟨by omega, k⟩] at hq
  ·rwa [inM, decide_eq_false (fun h => k h.2)] at hq
 ·rwa [inM, decide_eq_false (fun k => h k.1)] at hq
 ·refine splitD (fun k => ?_) (fun k => ?_)
  ·rwa [inM, decide_eq_true ⟨by omega, k⟩] at hq
  ·rwa [inM, decide_eq_false (fun h => k h.2)] at hq
 ·rwa [inM, decide_eq_false (fun k => h k.1)] at hq
 ·refine splitD (fun k => ?_) (fun k => ?_)
  ·rwa [inM, decide_eq_true ⟨by omega, k⟩] at hq
  ·rwa [inM, decide_eq_false (fun h => k h.2)] at hq
 ·rwa [inM, decide_eq_false (fun k => h k.1)] at hq
theorem in_ok : ValidF Tryd.prog glC 45 cIn := by
 refine valid_flat (enters_of (by kernel_rfl)) glC_noY fun args H Q hc => ?_
 unfold cIn at hc
 split at hc
 ·rename_i x b
  obtain ⟨⟨hb⟩, hq⟩ := hc
  obtain ⟨hv, hb', h⟩ := in_run x b hb (fun o H' _ => H' = [] ∧ (∃ v, o = .ret v ∧ old 0 v = true ∧ noY v = true) ∧ Q o H) ⟨rfl, ⟨_, rfl, rfl, rfl⟩, hq⟩
  exact ⟨rfl, rfl, _, 1000, envFor24 sm0_ok _ _ _, rfl, h⟩
 ·exact hc.elim
theorem sm72_ok : ∀ f g, sm72 f = some g → ValidF Tryd.prog glC f g := lookS_ok _ (by simp only [List.mem_cons, List.not_mem_nil, or_false, forall_eq]; exact in_ok)
theorem in32_iff (x : Int) : inM x 32 = true ↔ 0 ≤ x ∧ x < 4294967296 := by
 rw [inM, decide_eq_true_eq]; exact Iff.rfl
theorem in16_iff (x : Int) : inM x 16 = true ↔ 0 ≤ x ∧ x < 65536 := by
 rw [inM, decide_eq_true_eq]; exact Iff.rfl
theorem in8_iff (x : Int) : inM x 8 = true ↔ 0 ≤ x ∧ x < 256 := by
 rw [inM, decide_eq_true_eq]; exact Iff.rfl
theorem in32_no (x : Int) : inM x 32 = false ↔ ¬ (0 ≤ x ∧ x < 4294967296) := by
 rw [inM, decide_eq_false_iff_not]; exact Iff.rfl
theorem in16_no (x : Int) : inM x 16 = false ↔ ¬ (0 ≤ x ∧ x < 65536) := by
 rw [inM, decide_eq_false_iff_not]; exact Iff.rfl
theorem in8_no (x : Int) : inM x 8 = false ↔ ¬ (0 ≤ x ∧ x < 256) := by
 rw [inM, decide_eq_false_iff_not]; exact Iff.rfl
theorem rrecs_run (t : Nat) (l : List Rc) (hl : l.length ≤ 1000000) (Q : Out → List Blk → Gh → Prop) (hq : Q (.ret (.bool (rcsOkM l))) [] {}) : ∃ hv hb, goal_72 hv hb t l Q := by
 obtain ⟨hv, hb', e⟩ : ∃ hv hb, goal_72 hv hb t l Q = _ := ⟨_, _, vc_72 t l Q⟩
 refine ⟨hv, hb', e.mpr ?_⟩
 delta zXC2 zXC5 zXC11 zXC1 zXC6 zXC10
 clear e
 refine ⟨_, rfl, splitD (fun h6 => ?_) (fun h6 => ⟨⟨0, ⟨by omega, by omega, by simp⟩, rfl, rfl, trivial⟩, ?_⟩)⟩
 ·have : rcsOkM l = false := by
   simp only [rcsOkM, Bool.and_eq_false_iff, decide_eq_false_iff_not]; left; omega
  rwa [this] at hq
 ·rintro i ⟨g1, g2, g3⟩
  refine ⟨_, rfl, _, rfl, splitD (fun h => ?_) (fun h => ?_)⟩
  ·have hi : i < l.length := by omega
   obtain ⟨r, hr, hc⟩ := cellsR_get hi (Nat.mul_comm 7 i ▸ rfl : i * 7 = 7 * i)
   have bad : rcOkM r = false → Q (.ret (.bool false)) [] {} := fun hb => by
    have : rcsOkM l = false := by
     have hall : l.all rcOkM = false := by
      rw [List.all_eq_false]
      exact ⟨r, List.mem_of_getElem? hr, by simp [hb]⟩
     simp [rcsOkM, hall]
    rwa [this] at hq
   refine ⟨_, rfl, ckI (by simp; omega) (ckI (by simp [cellsR_len]; omega) ⟨r.1, r.2.1, r.2.2.1, r.2.2.2.1, r.2.2.2.2.1, r.2.2.2.2.2.1, r.2.2.2.2.2.2, by rw [Int.toNat_natCast, hc]; rfl, ?_⟩)⟩
   repeat' (first | (with_reducible refine ⟨⟨(by decide : (32 : Int) = 8 ∨ (32 : Int) = 16 ∨ (32 : Int) = 32)⟩, ?_⟩) | (with_reducible refine ⟨⟨(by decide : (8 : Int) = 8 ∨ (8 : Int) = 16 ∨ (8 : Int) = 32)⟩, ?_⟩) | (with_reducible refine splitNot ?_) | (with_reducible refine splitD (fun hd => ?_) (fun hd => ?_)) | (with_reducible refine splitB (fun hd => ?_) (fun hd => ?_)))
   all_goals first
    | (refine bad ?_; simp only [rcOkM, decide_eq_false_iff_not]; simp only [in32_iff, in16_iff, in8_iff, in32_no, in16_no, in8_no] at *; omega)
    | (have hok : rcOkM r = true := by simp only [rcOkM, decide_eq_true_eq]; simp only [in32_iff, in16_iff, in8_iff, in32_no, in16_no, in8_no] at *; omega
       refine ⟨_, rfl, wrapI (by omega) (by omega) ⟨⟨trivial, rfl⟩, i + 1, ⟨hi, g2, by rw [all_take hr, g3, hok]; rfl⟩, by omega, rfl, rfl, trivial⟩⟩)
  ·have : rcsOkM l = true := by
    rw [List.take_of_length_le (by omega)] at g3
    simp only [rcsOkM, g3, Bool.and_true, decide_eq_true_eq]; omega
   rwa [this] at hq
theorem rrecs_ok : ValidF Tryd.prog glC 72 cRecs := by
 refine valid_flat (enters_of (by kernel_rfl)) glC_noY fun args H Q hc => ?_
 unfold cRecs at hc
 split at hc
 ·obtain ⟨l, ⟨rfl, rfl, hl⟩, hq⟩ := hc
  obtain ⟨hv, hb', h⟩ := rrecs_run _ l hl (fun o H' _ => H' = [] ∧ (∃ v, o = .ret v ∧ old 0 v = true ∧ noY v = true) ∧ Q o H) ⟨rfl, ⟨_, rfl, rfl, rfl⟩, hq⟩
  exact ⟨rfl, rfl, _, 1000, envFor24 sm72_ok _ _ _, rfl, h⟩
 ·exact hc.elim
theorem tail25 (t : Nat) (l : List Ctl) (hok : ∀ c ∈ l, okC c) (hl : l.length ≤ 1000000) (Q : Out → List Blk → Gh → Prop) (no : l.all validM = false → Q (.ret (.int .i64 240)) [] {}) (yes : l.all validM = true → Q (.ret (.int .i64 0)) [] {}) : vc_25_1 t l Q := by
 unfold vc_25_1
 refine ⟨_, rfl, ⟨0, ⟨by omega, by simp⟩, rfl, rfl, rfl, rfl, trivial⟩, ?_⟩
 rintro i ⟨g1, g2⟩
 refine splitD (fun h => ?_) (fun h => ?_)
 ·have hi : i < l.length := by omega
  obtain ⟨c, hr, hc⟩ := cellsC_get hi (Nat.mul_comm 13 i ▸ rfl : i * 13 = 13 * i)
  have hm := List.mem_of_getElem? hr
  have ge : (decide ((i : Int) ≥ 0)) = true := by simp
  refine ⟨_, rfl, ckI (by simp; omega) (ckI (by simp [cellsC_len]; omega) ?_)⟩
  rw [Int.toNat_natCast, hc]
  refine ckI rfl ⟨c, ⟨rfl, hok c hm⟩, splitB (fun hv => ?_) (fun hv => ?_)⟩
  ·exact wrapI (by omega) (by omega) ⟨⟨trivial, rfl⟩, i + 1, ⟨hi, by rw [all_take hr, g2, hv]; rfl⟩, by omega, rfl, rfl, rfl, rfl, trivial⟩
  ·rw [ge]
   exact no (by rw [List.all_eq_false]; exact ⟨c, hm, by simp [hv]⟩)
 ·rw [List.take_of_length_le (by omega)] at g2
  exact yes g2
def hdM (l : List Ctl) : Int := match l with
 | [] => 0
 | c :: _ => c.k
theorem headOk_eq {l : List Ctl} (h : 1 ≤ l.length) : headOkM l = decide (hdM l = 1 ∨ hdM l = 2) := by
 cases l with
 | nil => simp at h
 | cons c l => rfl
theorem cellsC_head {l : List Ctl} (h : 1 ≤ l.length) {K : Int → Prop} (hk : ∀ n, n = hdM l → K n) : ∃ n : Int, (cellsCM l).getD 0 AV.undef = AV.int .i64 n ∧ K n := by
 cases l with
 | nil => simp at h
 | cons c l => exact ⟨c.k, rfl, hk _ rfl⟩
theorem check_run (t : Nat) (l : List Ctl) (hok : ∀ c ∈ l, okC c) (hl : l.length ≤ 1000000) (Q : Out → List Blk → Gh → Prop) (hq : ∀ e : Int, e = (if checkM l = true then 0 else 240) → Q (.ret (.int .i64 e)) [] {}) : ∃ hv hb, goal_25 hv hb t l Q := by
 obtain ⟨hv, hb', e⟩ : ∃ hv hb, goal_25 hv hb t l Q = _ := ⟨_, _, vc_25 t l Q⟩
 refine ⟨hv, hb', e.mpr ?_⟩
 clear e
 have no : checkM l = false → Q (.ret (.int .i64 240)) [] {} := fun h => hq _ (by simp [h])
 have yes : checkM l = true → Q (.ret (.int .i64 0)) [] {} := fun h => hq _ (by simp [h])
 refine ⟨_, rfl, splitD (fun h1 => no ?_) (fun h1 => ⟨_, rfl, splitD (fun h2 => no ?_) (fun h2 => ?_)⟩)⟩
 ·simp only [checkM, decide_eq_false (show ¬ (1 ≤ l.length ∧ l.length ≤ 8) by omega), Bool.false_and]
 ·simp only [checkM, decide_eq_false (show ¬ (1 ≤ l.length ∧ l.length ≤ 8) by omega), Bool.false_and]
 ·have hc : checkM l = (headOkM l && l.all validM) := by simp only [checkM, decide_eq_true (show (1 ≤ l.length ∧ l.length ≤ 8) by omega), Bool.true_and]
  have go : headOkM l = true → vc_25_1 t l Q := fun hh => tail25 t l hok hl Q (fun h => no (by rw [hc, hh, h]; rfl)) (fun h => yes (by rw [hc, hh, h]; rfl))
  refine ckI (by simp; omega) (ckI (by simp [cellsC_len]; omega) (cellsC_head (by omega) fun n hn => splitNE (fun k1 => ?_) (fun k1 => ?_)))
  ·refine ckI (by simp; omega) (ckI (by simp [cellsC_len]; omega) (cellsC_head (by omega) fun n' hn' => splitNE (fun k2 => ?_) (fun k2 => ?_)))
   ·refine no ?_
    rw [hc, headOk_eq (by omega), decide_eq_false (by omega)]; rfl
   ·exact go (by rw [headOk_eq (by omega)]; exact decide_eq_true (by omega))
  ·exact go (by rw [headOk_eq (by omega)]; exact decide_eq_true (by omega))
def cCheck : Con
 | [.lst _ cs n 13], H, K => ∃ l : List Ctl, Lf (cs = cellsCM l ∧ n = l.length ∧ l.length ≤ 1000000 ∧ ∀ c ∈ l, okC c) ∧ ∀ e : Int, Lf (e = (if checkM l = true then 0 else 240)) → K (.ret (.int .i64 e)) H
 | _, _, _ => False
theorem check_raw : ValidF Tryd.prog glC 25 cCheck := by
 refine valid_flat (enters_of (by kernel_rfl)) glC_noY fun args H Q hc => ?_
 unfold cCheck at hc
 split at hc
 ·obtain ⟨l, ⟨rfl, rfl, h1, h2⟩, hq⟩ := hc
  obtain ⟨hv, hb', h⟩ := check_run _ l h2 h1 (fun o H' _ => H' = [] ∧ (∃ v, o = .ret v ∧ old 0 v = true ∧ noY v = true) ∧ Q o H) (fun e he => ⟨rfl, ⟨_, rfl, rfl, rfl⟩, hq e ⟨he⟩⟩)
  exact ⟨rfl, rfl, _, 1000, envFor24 sm25_ok _ _ _, rfl, h⟩
 ·exact hc.elim
def cCheckV : Con := fun args H Q => lendL [13] H args fun a => cCheck a H Q
theorem check_ok : ValidF Tryd.prog glC 25 cCheckV := valid_view check_raw glC_noY [13] fun args H Q hc => by
 unfold cCheck at hc
 split at hc
 ·obtain ⟨xs, h, hq⟩ := hc
  exact ⟨xs, h, fun e he => ⟨rfl, ⟨_, rfl, rfl⟩, hq e he⟩⟩
 ·exact hc.elim
theorem rtimes_run (t : Nat) (xs : List Int) (hl : xs.length ≤ 1000000) (Q : Out → List Blk → Gh → Prop) (hq : Q (.ret (.bool (stepsRM xs).2.2)) [] {}) : ∃ hv hb, goal_73 hv hb t xs Q := by
 obtain ⟨hv, hb', e⟩ : ∃ hv hb, goal_73 hv hb t xs Q = _ := ⟨_, _, vc_73 t xs Q⟩
 refine ⟨hv, hb', e.mpr ?_⟩
 delta zXC2 zXC3 zXC4 zXC9 zXC11 zXC0 zXC6 zXC10 zXC1 zXC8 zXC7
 unfold q4XC_73_0
 clear e
 have no : stepsM xs = none → Q (.ret (.bool false)) [] {} := fun h => by
  have e : stepsRM xs = (0, [], false) := by simp [stepsRM, h]
  rwa [e] at hq
 have yes : ∀ p, stepsM xs = some p → Q (.ret (.bool (decide (1 ≤ xs.length ∧ xs.length ≤ 64)))) [] {} := fun p h => by
  have e : stepsRM xs = (p.1, p.2, decide (1 ≤ xs.length ∧ xs.length ≤ 64)) := by simp [stepsRM, h]
  rwa [e] at hq
 have bad : ¬ (1 ≤ xs.length ∧ xs.length ≤ 64) → Q (.ret (.bool false)) [] {} := fun h => by
  cases e : stepsM xs with
  | none => exact no e
  | some p => have := yes p e; rwa [decide_eq_false h] at this
 refine ⟨_, rfl, splitD (fun h1 => bad (by omega)) (fun h1 => ⟨_, rfl, splitD (fun h2 => bad (by omega)) (fun h2 => ⟨.inl ⟨0, ⟨by omega, rfl⟩, rfl, rfl, rfl, trivial⟩, ?_, ?_⟩)⟩)⟩
 ·rintro i ⟨g1, g2⟩
  refine ⟨_, rfl, splitD (fun h => ?_) (fun h => ?_)⟩
  ·have hi : i < xs.length := by omega
   rw [drop_getD hi, stepsGoM] at g2
   refine ckI (by simp; omega) (ckI (by simp [cellsI_len]; omega) (getI (i := i) hi (by simp) (splitE (fun he => ?_) (fun he => ?_))))
   ·rw [if_pos he] at g2
    exact wrapI (by omega) (by omega) ⟨⟨trivial, rfl⟩, .inl ⟨i + 1, ⟨hi, g2⟩, by omega, rfl, rfl, rfl, trivial⟩⟩
   ·rw [if_neg he] at g2
    refine ckI (by simp; omega) (ckI (by simp [cellsI_len]; omega) (getI (i := i) hi (by simp) ⟨⟨.inr (.inr rfl)⟩, splitB (fun f1 => ?_) (fun f1 => ?_)⟩))
    ·rw [in32_iff] at f1
     rw [if_neg (by omega), if_pos rfl] at g2
     exact ckI (by simp; omega) (ckI (by simp [cellsI_len]; omega) (getI (i := i) hi (by simp) (wrapI (by omega) (by omega) ⟨⟨trivial, rfl⟩, .inr ⟨(i + 1, xs.getD i 0), ⟨hi, f1.1, f1.2, _, _, g2⟩, by dsimp only; omega, rfl, rfl, rfl, trivial⟩⟩)))
    ·rw [in32_no] at f1
     rw [if_pos (by omega)] at g2
     exact no g2
  ·rw [List.drop_of_length_le (by omega), stepsGoM] at g2
   have := yes _ g2
   rwa [decide_eq_true (by omega)] at this
 ·rintro ⟨i, last⟩ ⟨g1, g3, g4, ref, acc, g2⟩
  dsimp only at g1 g2 g3 g4 ⊢
  refine ⟨_, rfl, splitD (fun h => ?_) (fun h => ?_)⟩
  ·have hi : i < xs.length := by omega
   rw [drop_getD hi, stepsGoM] at g2
   refine ckI (by simp; omega) (ckI (by simp [cellsI_len]; omega) (getI (i := i) hi (by simp) (splitE (fun he => ?_) (fun he => ?_))))
   ·rw [if_pos he] at g2
    exact wrapI (by omega) (by omega) ⟨⟨trivial, rfl⟩, .inr ⟨(i + 1, last), ⟨hi, g3, g4, _, _, g2⟩, by dsimp only; omega, rfl, rfl, rfl, trivial⟩⟩
   ·rw [if_neg he] at g2
    refine ckI (by simp; omega) (ckI (by simp [cellsI_len]; omega) (getI (i := i) hi (by simp) ⟨⟨.inr (.inr rfl)⟩, splitB (fun f1 => ?_) (fun f1 => ?_)⟩))
    ·rw [in32_iff] at f1
     rw [if_neg (by omega), if_neg (by simp)] at g2
     refine splitD (fun _ => ckI (by simp; omega) (ckI (by simp [cellsI_len]; omega) (getI (i := i) hi (by simp) (wrapI (by omega) (by omega) (splitD (fun k1 => ?_) (fun k1 => ckI (by simp; omega) (ckI (by simp [cellsI_len]; omega) (getI (i := i) hi (by simp) (wrapI (by omega) (by omega) (splitD (fun k2 => ?_) (fun k2 => ckI (by simp; omega) (ckI (by simp [cellsI_len]; omega) (getI (i := i) hi (by simp) (wrapI (by omega) (by omega) ⟨⟨trivial, rfl⟩, .inr ⟨(i + 1, xs.getD i 0), ⟨hi, f1.1, f1.2, ref, acc ++ [xs.getD i 0 - last], ?_⟩, by dsimp only; omega, rfl, rfl, rfl, trivial⟩⟩)))))))))))))) (fun hc => absurd g3 (by simpa using hc))
     ·rw [if_pos (.inl k1)] at g2; exact no g2
     ·rw [if_pos (.inr (by omega))] at g2; exact no g2
     ·rw [if_neg (by omega)] at g2; exact g2
    ·rw [in32_no] at f1
     rw [if_pos (by omega)] at g2
     exact no g2
  ·rw [List.drop_of_length_le (by omega), stepsGoM] at g2
   have := yes _ g2
   rwa [decide_eq_true (by omega)] at this
theorem rtimes_ok : ValidF Tryd.prog glC 73 cTimes := by
 refine valid_flat (enters_of (by kernel_rfl)) glC_noY fun args H Q hc => ?_
 unfold cTimes at hc
 split at hc
 ·obtain ⟨xs, ⟨rfl, rfl, hl⟩, hq⟩ := hc
  obtain ⟨hv, hb', h⟩ := rtimes_run _ xs hl (fun o H' _ => H' = [] ∧ (∃ v, o = .ret v ∧ old 0 v = true ∧ noY v = true) ∧ Q o H) ⟨rfl, ⟨_, rfl, rfl, rfl⟩, hq _ ⟨rfl⟩⟩
  exact ⟨rfl, rfl, _, 1000, envFor24 sm72_ok _ _ _, rfl, h⟩
 ·exact hc.elim
def sm32 : SM := lookS [(51, cValid)]
def inv_32 (t : Nat) (l : List Ctl) : LInv where
 α := Nat
 pre i := Lf (i ≤ l.length ∧ (l.take i).all validM = true)
 st i := ⟨mkT [(0, .lst t (cellsCM l) l.length 13), (3, .int .i64 i)], []⟩
 mu i := l.length - i
noncomputable def env_32 (hv : Nat → Option Pa) (hb : Nat → Option Bool) (t : Nat) (l : List Ctl) : Env := e24 sm32 (fun i => bif Nat.beq i 32000 then some (fun _ => [[inv_32 t l]]) else none) hv hb
noncomputable def goal_32 (hv : Nat → Option Pa) (hb : Nat → Option Bool) (t : Nat) (l : List Ctl) (Q : Out → List Blk → Gh → Prop) : Prop :=
 callx (env_32 hv hb t l) (wpx (env_32 hv hb t l) 1000) 32 [.lst t (cellsCM l) l.length 13] [] {} Q
def vc_32_1 (t : Nat) (l : List Ctl) (Q : Out → List Blk → Gh → Prop) : Prop :=
(∃ x_0 : Nat, Lf (x_0 ≤ l.length ∧ List.all (l.take x_0) validM = true) ∧ eqqQ (AV.lst t (cellsCM l) l.length 13) ∧ AV.int .i64 0 = AV.int .i64 (x_0 : Int) ∧ True) ∧ ∀ x_0 : Nat, Lf (x_0 ≤ l.length ∧ List.all (l.take x_0) validM = true) →
 exI .i64 (x_0 : Int) fun n_1 => exI .i64 (l.length : Int) fun n_2 => bif decide (n_1 < n_2) then exI .i64 (x_0 : Int) fun n_3 => ckQ (decide (0 ≤ n_3) && Nat.blt n_3.toNat l.length && true) (ckQ (Nat.ble (n_3.toNat * 13 + 13) (cellsCM
 l).length) (∃ c_4 : Ctl, Lf (((cellsCM l).drop (n_3.toNat * 13)).take 13 = [AV.int .i64 c_4.1, .int .i64 c_4.2, .int .i64 c_4.3, .int .i64 c_4.4, .int .i64 c_4.5, .int .i64 c_4.6, .int .i64 c_4.7, .int .i64 c_4.8, .lst 0 (cellsRM c_4.9)
 c_4.9.length 7, .lst 0 (cellsI c_4.10) c_4.10.length 1, .int .i64 c_4.11, .int .i64 c_4.12, .lst 0 (cellsI c_4.13) c_4.13.length 1] ∧ okC c_4) ∧ bif validM c_4 then exI .i64 (x_0 : Int) fun n_5 => exW .i64 (n_5 + 1) fun n_6 => (True ∧ (0 :
 Nat) = (0 : Nat)) ∧ ∃ y_7 : Nat, Lf (y_7 ≤ l.length ∧ List.all (l.take y_7) validM = true) ∧ l.length - y_7 < l.length - x_0 ∧ eqqQ (AV.lst t (cellsCM l) l.length 13) ∧ AV.int .i64 n_6 = AV.int .i64 (y_7 : Int) ∧ True else Q (.ret (.bool
 false)) [] {})) else Q (.ret (.bool true)) [] {}
theorem vc_32 (t : Nat) (l : List Ctl) (Q : Out → List Blk → Gh → Prop) : goal_32 (lookV [(131077, .int .i64), (131081, .int .i64), (131088, .int .i64), (131094, .int .i64), (131098, .int .i64), (131100, .int .i64), (131105, .int .i64), (131102, .int .i64), (131103, .int .i64)]) (lookB []) t l Q = (
(∃ n_0 : Int, (((AV.int .i64 (Nat.cast (List.length l) : Int)) = (AV.int .i64 n_0)) ∧
 (bif (decide (n_0 < (1 : Int))) then (Q (Out.ret (AV.bool false)) [] (Gh.mk (0 : Nat) (0 : Nat) []))
else (∃ n_1 : Int, (((AV.int .i64 (Nat.cast (List.length l) : Int)) = (AV.int .i64 n_1)) ∧
 (bif (decide (n_1 > (8 : Int))) then (Q (Out.ret (AV.bool false)) [] (Gh.mk (0 : Nat) (0 : Nat) []))
else (bif ((Nat.blt (0 : Nat) (List.length l)) && true) then (bif (Nat.blt (0 : Nat) (List.length (cellsCM l))) then (∃ n_2 : Int, (((List.getD (cellsCM l) (0 : Nat) AV.undef) = (AV.int .i64 n_2)) ∧
 (bif (n_2 != (1 : Int)) then (bif ((Nat.blt (0 : Nat) (List.length l)) && true) then (bif (Nat.blt (0 : Nat) (List.length (cellsCM l))) then (∃ n_3 : Int, (((List.getD (cellsCM l) (0 : Nat) AV.undef) = (AV.int .i64 n_3)) ∧
 (bif (n_3 != (2 : Int)) then (Q (Out.ret (AV.bool false)) [] (Gh.mk (0 : Nat) (0 : Nat) []))
else (vc_32_1 t l Q))))
else False)
else False)
else (vc_32_1 t l Q))))
else False)
else False)))))))) := by kernel_rfl

theorem tail32 (t : Nat) (l : List Ctl) (hok : ∀ c ∈ l, okC c) (hl : l.length ≤ 1000000) (Q : Out → List Blk → Gh → Prop) (no : l.all validM = false → Q (.ret (.bool false)) [] {}) (yes : l.all validM = true → Q (.ret (.bool true)) [] {}) : vc_32_1 t l Q := by
 unfold vc_32_1
 refine ⟨⟨0, ⟨by omega, by simp⟩, rfl, rfl, trivial⟩, ?_⟩
 rintro i ⟨g1, g2⟩
 refine ⟨_, rfl, _, rfl, splitD (fun h => ?_) (fun h => ?_)⟩
 ·have hi : i < l.length := by omega
  obtain ⟨c, hr, hc⟩ := cellsC_get hi (Nat.mul_comm 13 i ▸ rfl : i * 13 = 13 * i)
  have hm := List.mem_of_getElem? hr
  refine ⟨_, rfl, ckI (by simp; omega) (ckI (by simp [cellsC_len]; omega) ?_)⟩
  rw [Int.toNat_natCast, hc]
  refine ⟨c, ⟨rfl, hok c hm⟩, splitB (fun hv => ?_) (fun hv => ?_)⟩
  ·exact ⟨_, rfl, wrapI (by omega) (by omega) ⟨⟨trivial, rfl⟩, i + 1, ⟨hi, by rw [all_take hr, g2, hv]; rfl⟩, by omega, rfl, rfl, trivial⟩⟩
  ·exact no (by rw [List.all_eq_false]; exact ⟨c, hm, by simp [hv]⟩)
 ·rw [List.take_of_length_le (by omega)] at g2
  exact yes g2
theorem right_run (t : Nat) (l : List Ctl) (hok : ∀ c ∈ l, okC c) (hl : l.length ≤ 1000000) (Q : Out → List Blk → Gh → Prop) (hq : Q (.ret (.bool (checkM l))) [] {}) : ∃ hv hb, goal_32 hv hb t l Q := by
 obtain ⟨hv, hb', e⟩ : ∃ hv hb, goal_32 hv hb t l Q = _ := ⟨_, _, vc_32 t l Q⟩
 refine ⟨hv, hb', e.mpr ?_⟩
 clear e
 have no : checkM l = false → Q (.ret (.bool false)) [] {} := fun h => by rwa [h] at hq
 have yes : checkM l = true → Q (.ret (.bool true)) [] {} := fun h => by rwa [h] at hq
 refine ⟨_, rfl, splitD (fun h1 => no ?_) (fun h1 => ⟨_, rfl, splitD (fun h2 => no ?_) (fun h2 => ?_)⟩)⟩
 ·simp only [checkM, decide_eq_false (show ¬ (1 ≤ l.length ∧ l.length ≤ 8) by omega), Bool.false_and]
 ·simp only [checkM, decide_eq_false (show ¬ (1 ≤ l.length ∧ l.length ≤ 8) by omega), Bool.false_and]
 ·have hc : checkM l = (headOkM l && l.all validM) := by simp only [checkM, decide_eq_true (show (1 ≤ l.length ∧ l.length ≤ 8) by omega), Bool.true_and]
  have go : headOkM l = true → vc_32_1 t l Q := fun hh => tail32 t l hok hl Q (fun h => no (by rw [hc, hh, h]; rfl)) (fun h => yes (by rw [hc, hh, h]; rfl))
  refine ckI (by simp; omega) (ckI (by simp [cellsC_len]; omega) (cellsC_head (by omega) fun n hn => splitNE (fun k1 => ?_) (fun k1 => ?_)))
  ·refine ckI (by simp; omega) (ckI (by simp [cellsC_len]; omega) (cellsC_head (by omega) fun n' hn' => splitNE (fun k2 => ?_) (fun k2 => ?_)))
   ·refine no ?_
    rw [hc, headOk_eq (by omega), decide_eq_false (by omega)]; rfl
   ·exact go (by rw [headOk_eq (by omega)]; exact decide_eq_true (by omega))
  ·exact go (by rw [headOk_eq (by omega)]; exact decide_eq_true (by omega))
def cRightC : Con
 | [.lst _ cs n 13], H, K => ∃ l : List Ctl, Lf (cs = cellsCM l ∧ n = l.length ∧ l.length ≤ 1000000 ∧ ∀ c ∈ l, okC c) ∧ K (.ret (.bool (checkM l))) H
 | _, _, _ => False
def cRightCV : Con := fun args H Q => lendL [13] H args fun a => cRightC a H Q
theorem right_of (h51 : ValidF Tryd.prog glC 51 cValid) : ValidF Tryd.prog glC 32 cRightCV := by
 have sm32_ok : ∀ f g, sm32 f = some g → ValidF Tryd.prog glC f g := lookS_ok _ (by simp only [List.mem_cons, List.not_mem_nil, or_false, forall_eq]; exact h51)
 refine valid_view (c := cRightC) (valid_flat (enters_of (by kernel_rfl)) glC_noY fun args H Q hc => ?_) glC_noY [13] fun args H Q hc => ?_
 ·unfold cRightC at hc
  split at hc
  ·obtain ⟨l, ⟨rfl, rfl, h1, h2⟩, hq⟩ := hc
   obtain ⟨hv, hb', h⟩ := right_run _ l h2 h1 (fun o H' _ => H' = [] ∧ (∃ v, o = .ret v ∧ old 0 v = true ∧ noY v = true) ∧ Q o H) ⟨rfl, ⟨_, rfl, rfl, rfl⟩, hq⟩
   exact ⟨rfl, rfl, _, 1000, envFor24 sm32_ok _ _ _, rfl, h⟩
  ·exact hc.elim
 ·unfold cRightC at hc
  split at hc
  ·obtain ⟨xs, h, hq⟩ := hc
   exact ⟨xs, h, rfl, ⟨_, rfl, rfl⟩, hq⟩
  ·exact hc.elim
end Go.Proofs.YtafchcmemeinlaaDoor
