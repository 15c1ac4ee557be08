/-
  Chapter 24: valid control packets.
-/
import Derived.Test.YtafchcmemeinlaaDoorC24XA
set_option linter.unusedSimpArgs false
set_option linter.unusedVariables false
set_option linter.unusedSectionVars false
namespace Go.Proofs.YtafchcmemeinlaaDoor
open Go.RowKit
set_option maxRecDepth 1000000

structure Ctl where
 k : Int
 f : Int
 a : Int
 s1 : Int
 s2 : Int
 s3 : Int
 s4 : Int
 s5 : Int
 rs : List Rc
 lo : List Int
 ba : Int
 ro : Int
 ti : List Int
def ctC (c : Ctl) : List AV := [.int .i64 c.k, .int .i64 c.f, .int .i64 c.a, .int .i64 c.s1, .int .i64 c.s2, .int .i64 c.s3, .int .i64 c.s4, .int .i64 c.s5, .lst 0 (cellsRM c.rs) c.rs.length 7, .lst 0 (cellsI c.lo) c.lo.length 1, .int .i64 c.ba, .int .i64 c.ro, .lst 0 (cellsI c.ti) c.ti.length 1]
abbrev in32 (x : Int) : Prop := 0 ≤ x ∧ x < 4294967296
def validM (c : Ctl) : Bool :=
 decide ((1 ≤ c.k ∧ c.k ≤ 6) ∧ in32 c.f ∧ in32 c.a ∧ in32 c.s1 ∧ in32 c.s2 ∧ in32 c.s3 ∧ in32 c.s4 ∧ in32 c.s5 ∧ (0 ≤ c.ba ∧ c.ba < 65536) ∧ (0 ≤ c.ro ∧ c.ro < 256)
  ∧ (c.k ≤ 3 → c.a = 0) ∧ (c.k ≠ 1 → c.s1 = 0 ∧ c.s2 = 0 ∧ c.s3 = 0 ∧ c.s4 = 0 ∧ c.s5 = 0) ∧ (c.k ≠ 6 → c.ba = 0 ∧ c.ro = 0 ∧ c.ti.length = 0) ∧ (3 ≤ c.k → c.rs.length = 0) ∧ (c.k ≠ 4 → c.lo.length = 0)
  ∧ (c.k = 6 → (stepsRM c.ti).2.2 = true) ∧ rcsOkM c.rs = true ∧ (c.k = 4 → nacksM c.lo = true))
def sm49 : SM := lookS [(65, cFitsV), (70, cSteps), (71, cRecs), (43, cNacksV)]
theorem sm49_ok : ∀ f g, sm49 f = some g → ValidF Tryd.prog glC f g := lookS_ok _ (by simp only [List.mem_cons, List.not_mem_nil, or_false, forall_eq_or_imp, forall_eq]; exact ⟨fits_ok, steps_ok, recs_ok, nacks_ok⟩)
noncomputable def go49 (hv : Nat → Option Pa) (hb : Nat → Option Bool) (k f a s1 s2 s3 s4 s5 : Int) (rs : List Rc) (lo : List Int) (ba ro : Int) (ti : List Int) (Q : Out → List Blk → Gh → Prop) : Prop :=
 callx (e24 sm49 (fun _ => none) hv hb) (wpx (e24 sm49 (fun _ => none) hv hb) 1000) 49 [.agg (ctC ⟨k, f, a, s1, s2, s3, s4, s5, rs, lo, ba, ro, ti⟩)] [] {} Q
noncomputable def goal_49n (hv : Nat → Option Pa) (hb : Nat → Option Bool) (m : Nat) (f a s1 s2 s3 s4 s5 : Int) (rs : List Rc) (lo : List Int) (ba ro : Int) (ti : List Int) (Q : Out → List Blk → Gh → Prop) : Prop := go49 hv hb (Int.negSucc m) f a s1 s2 s3 s4 s5 rs lo ba ro ti Q
theorem vc_49n (m : Nat) (f : Int) (a : Int) (s1 : Int) (s2 : Int) (s3 : Int) (s4 : Int) (s5 : Int) (rs : List Rc) (lo : List Int) (ba : Int) (ro : Int) (ti : List Int) (Q : Out → List Blk → Gh → Prop) : goal_49n (lookV [(200712, .int .i64), (200713, .lit (.bool true))]) (lookB []) m f a s1 s2 s3 s4 s5 rs lo ba ro ti Q = (
(∃ n_0 : Int, (((AV.int .i64 (Int.negSucc m)) = (AV.int .i64 n_0)) ∧
 (((AV.bool (decide (n_0 < (1 : Int)))) = (AV.bool true)) ∧
 (Q (Out.ret (AV.bool false)) [] (Gh.mk (0 : Nat) (0 : Nat) [])))))) := by kernel_rfl

noncomputable def goal_49h (hv : Nat → Option Pa) (hb : Nat → Option Bool) (m : Nat) (f a s1 s2 s3 s4 s5 : Int) (rs : List Rc) (lo : List Int) (ba ro : Int) (ti : List Int) (Q : Out → List Blk → Gh → Prop) : Prop := go49 hv hb (Int.ofNat (m + 7)) f a s1 s2 s3 s4 s5 rs lo ba ro ti Q
theorem vc_49h (m : Nat) (f : Int) (a : Int) (s1 : Int) (s2 : Int) (s3 : Int) (s4 : Int) (s5 : Int) (rs : List Rc) (lo : List Int) (ba : Int) (ro : Int) (ti : List Int) (Q : Out → List Blk → Gh → Prop) : goal_49h (lookV [(200712, .int .i64), (200713, .lit (.bool false)), (200716, .int .i64), (200717, .lit (.bool true))]) (lookB []) m f a s1 s2 s3 s4 s5 rs lo ba ro ti Q = (
(∃ n_0 : Int, (((AV.int .i64 (Int.ofNat (m + (7 : Nat)))) = (AV.int .i64 n_0)) ∧
 (((AV.bool (decide (n_0 < (1 : Int)))) = (AV.bool false)) ∧
 (∃ n_1 : Int, (((AV.int .i64 (Int.ofNat (m + (7 : Nat)))) = (AV.int .i64 n_1)) ∧
 (((AV.bool (decide (n_1 ≥ (7 : Int)))) = (AV.bool true)) ∧
 (Q (Out.ret (AV.bool false)) [] (Gh.mk (0 : Nat) (0 : Nat) []))))))))) := by kernel_rfl

noncomputable def goal_490 (hv : Nat → Option Pa) (hb : Nat → Option Bool) (f a s1 s2 s3 s4 s5 : Int) (rs : List Rc) (lo : List Int) (ba ro : Int) (ti : List Int) (Q : Out → List Blk → Gh → Prop) : Prop := go49 hv hb 0 f a s1 s2 s3 s4 s5 rs lo ba ro ti Q
theorem vc_490 (f : Int) (a : Int) (s1 : Int) (s2 : Int) (s3 : Int) (s4 : Int) (s5 : Int) (rs : List Rc) (lo : List Int) (ba : Int) (ro : Int) (ti : List Int) (Q : Out → List Blk → Gh → Prop) : goal_490 (lookV []) (lookB []) f a s1 s2 s3 s4 s5 rs lo ba ro ti Q = (
(Q (Out.ret (AV.bool false)) [] (Gh.mk (0 : Nat) (0 : Nat) []))) := by kernel_rfl

noncomputable def goal_491 (hv : Nat → Option Pa) (hb : Nat → Option Bool) (f a s1 s2 s3 s4 s5 : Int) (rs : List Rc) (lo : List Int) (ba ro : Int) (ti : List Int) (Q : Out → List Blk → Gh → Prop) : Prop := go49 hv hb 1 f a s1 s2 s3 s4 s5 rs lo ba ro ti Q
abbrev zXB3 (f a s1 s2 s3 s4 s5 : Int) (xs_0 : List Int) : Prop := Lf ([AV.int .i64 f, .int .i64 a, .int .i64 s1, .int .i64 s2, .int .i64 s3, .int .i64 s4, .int .i64 s5] = cellsI xs_0 ∧ 7 = xs_0.length ∧ (0 : Int) ≤ (32 : Int) ∧ xs_0.length ≤ 4611686018427387904)
abbrev zXB10 (xs_0 : List Int) : Bool := !List.any xs_0 (badM 32)
abbrev zXB4 (ba : Int) (xs_1 : List Int) : Prop := Lf ([AV.int .i64 ba] = cellsI xs_1 ∧ 1 = xs_1.length ∧ (0 : Int) ≤ (16 : Int) ∧ xs_1.length ≤ 4611686018427387904)
abbrev zXB9 (xs_1 : List Int) : Bool := !List.any xs_1 (badM 16)
abbrev zXB5 (ro : Int) (xs_2 : List Int) : Prop := Lf ([AV.int .i64 ro] = cellsI xs_2 ∧ 1 = xs_2.length ∧ (0 : Int) ≤ (8 : Int) ∧ xs_2.length ≤ 4611686018427387904)
abbrev zXB12 (xs_2 : List Int) : Bool := !List.any xs_2 (badM 8)
abbrev zXB11 : Out := .ret (.bool false)
abbrev zXB2 (Q : Out → List Blk → Gh → Prop) : Prop := Q zXB11 [] {}
abbrev zXB1 (ba ro : Int) : Int := (((ba % 18446744073709551616).toNat ||| (ro % 18446744073709551616).toNat : Nat) : Int)
abbrev zXB8 (ti xs_10 : List Int) : Prop := Lf (cellsI ti = cellsI xs_10 ∧ ti.length = xs_10.length ∧ xs_10.length ≤ 1000000)
abbrev zXB13 (rs l_13 : List Rc) : Prop := Lf (cellsRM rs = cellsRM l_13 ∧ rs.length = l_13.length ∧ l_13.length ≤ 1000000)
abbrev zXB7 (rs : List Rc) (Q : Out → List Blk → Gh → Prop) : Prop := ∃ l_10 : List Rc, zXB13 rs l_10 ∧ bif rcsOkM l_10 then Q (.ret (.bool true)) [] {} else Q zXB11 [] {}
abbrev zXB0 (n_4 : Int) (Q : Out → List Blk → Gh → Prop) (lo ti : List Int) (rs : List Rc) : Prop := bif decide (n_4 > 0) then Q zXB11 [] {} else exI .i64 (lo.length : Int) (fun n_5 => bif decide (n_5 > 0) then Q zXB11 [] {} else ∃ xs_6 : List Int, zXB8 ti xs_6 ∧ ∀ r_7 : Int, ∀ l_8 : List Int, ∀ b_9 : Bool, Lf (stepsRM xs_6 = Prod.mk r_7 (Prod.mk l_8 b_9)) → bif b_9 then zXB7 rs Q else zXB7 rs Q)
theorem vc_491 (f : Int) (a : Int) (s1 : Int) (s2 : Int) (s3 : Int) (s4 : Int) (s5 : Int) (rs : List Rc) (lo : List Int) (ba : Int) (ro : Int) (ti : List Int) (Q : Out → List Blk → Gh → Prop) : goal_491 (lookV [(200795, .int .i64), (200800, .int .i64), (200823, .int .i64)]) (lookB []) f a s1 s2 s3 s4 s5 rs lo ba ro ti Q = (∃ xs_0 : List Int, zXB3 f a s1 s2 s3 s4 s5 xs_0 ∧ bif zXB10 xs_0 then ∃ xs_1 : List Int, zXB4 ba xs_1 ∧ bif zXB9 xs_1 then ∃ xs_2 : List Int, zXB5 ro xs_2 ∧ bif zXB12 xs_2 then bif a != 0 then zXB2 Q else exW .i64 (zXB1 ba ro) (fun n_3 => bif n_3 != 0 then zXB2 Q else exI .i64 (ti.length : Int) (fun n_4 => zXB0 n_4 Q lo ti rs)) else zXB2 Q else zXB2 Q else zXB2 Q) := by kernel_rfl

noncomputable def goal_492 (hv : Nat → Option Pa) (hb : Nat → Option Bool) (f a s1 s2 s3 s4 s5 : Int) (rs : List Rc) (lo : List Int) (ba ro : Int) (ti : List Int) (Q : Out → List Blk → Gh → Prop) : Prop := go49 hv hb 2 f a s1 s2 s3 s4 s5 rs lo ba ro ti Q
theorem vc_492 (f : Int) (a : Int) (s1 : Int) (s2 : Int) (s3 : Int) (s4 : Int) (s5 : Int) (rs : List Rc) (lo : List Int) (ba : Int) (ro : Int) (ti : List Int) (Q : Out → List Blk → Gh → Prop) : goal_492 (lookV [(200773, .int .i64), (200776, .int .i64), (200779, .int .i64), (200782, .int .i64), (200795, .int .i64), (200800, .int .i64), (200823, .int .i64)]) (lookB []) f a s1 s2 s3 s4 s5 rs lo ba ro ti Q = (∃ xs_0 : List Int, zXB3 f a s1 s2 s3 s4 s5 xs_0 ∧ bif zXB10 xs_0 then ∃ xs_1 : List Int, zXB4 ba xs_1 ∧ bif zXB9 xs_1 then ∃ xs_2 : List Int, zXB5 ro xs_2 ∧ bif zXB12 xs_2 then bif a != 0 then zXB2 Q else exW .i64 (zXB1 s1 s2) (fun n_3 => exW .i64 (zXB1 n_3 s3) (fun n_4 => exW .i64 (zXB1 n_4 s4) (fun n_5 => exW .i64 (zXB1 n_5 s5) (fun n_6 => bif n_6 != 0 then zXB2 Q else exW .i64 (zXB1 ba ro) (fun n_7 => bif n_7 != 0 then zXB2 Q else exI .i64 (ti.length : Int) (fun n_8 => zXB0 n_8 Q lo ti rs)))))) else zXB2 Q else zXB2 Q else zXB2 Q) := by kernel_rfl

noncomputable def goal_493 (hv : Nat → Option Pa) (hb : Nat → Option Bool) (f a s1 s2 s3 s4 s5 : Int) (rs : List Rc) (lo : List Int) (ba ro : Int) (ti : List Int) (Q : Out → List Blk → Gh → Prop) : Prop := go49 hv hb 3 f a s1 s2 s3 s4 s5 rs lo ba ro ti Q
abbrev zXB6 (s1 s2 s3 s4 s5 : Int) (Q : Out → List Blk → Gh → Prop) (ba ro : Int) (ti : List Int) (rs : List Rc) (lo : List Int) : Prop := exW .i64 (zXB1 s1 s2) (fun n_3 => exW .i64 (zXB1 n_3 s3) (fun n_4 => exW .i64 (zXB1 n_4 s4) (fun n_5 => exW .i64 (zXB1 n_5 s5) (fun n_6 => bif n_6 != 0 then zXB2 Q else exW .i64 (zXB1 ba ro) (fun n_7 => bif n_7 != 0 then zXB2 Q else exI .i64 (ti.length : Int) (fun n_8 => bif decide (n_8 > 0) then zXB2 Q else exI .i64 (rs.length : Int) (fun n_9 => zXB0 n_9 Q lo ti rs)))))))
theorem vc_493 (f : Int) (a : Int) (s1 : Int) (s2 : Int) (s3 : Int) (s4 : Int) (s5 : Int) (rs : List Rc) (lo : List Int) (ba : Int) (ro : Int) (ti : List Int) (Q : Out → List Blk → Gh → Prop) : goal_493 (lookV [(200773, .int .i64), (200776, .int .i64), (200779, .int .i64), (200782, .int .i64), (200795, .int .i64), (200800, .int .i64), (200812, .int .i64), (200823, .int .i64)]) (lookB []) f a s1 s2 s3 s4 s5 rs lo ba ro ti Q = (∃ xs_0 : List Int, zXB3 f a s1 s2 s3 s4 s5 xs_0 ∧ bif zXB10 xs_0 then ∃ xs_1 : List Int, zXB4 ba xs_1 ∧ bif zXB9 xs_1 then ∃ xs_2 : List Int, zXB5 ro xs_2 ∧ bif zXB12 xs_2 then bif a != 0 then zXB2 Q else zXB6 s1 s2 s3 s4 s5 Q ba ro ti rs lo else zXB2 Q else zXB2 Q else zXB2 Q) := by kernel_rfl

noncomputable def goal_494 (hv : Nat → Option Pa) (hb : Nat → Option Bool) (f a s1 s2 s3 s4 s5 : Int) (rs : List Rc) (lo : List Int) (ba ro : Int) (ti : List Int) (Q : Out → List Blk → Gh → Prop) : Prop := go49 hv hb 4 f a s1 s2 s3 s4 s5 rs lo ba ro ti Q
def vc_494_1 (rs : List Rc) (lo : List Int) (Q : Out → List Blk → Gh → Prop) : Prop := (
(∃ l_0 : (List Rc), ((Lf (((cellsRM rs) = (cellsRM l_0)) ∧
 (((List.length rs) = (List.length l_0)) ∧
 ((List.length l_0) ≤ (1000000 : Nat))))) ∧
 (bif (rcsOkM l_0) then (∃ xs_1 : (List Int), ((Lf (((cellsI lo) = (cellsI xs_1)) ∧
 (((List.length lo) = (List.length xs_1)) ∧
 ((List.length xs_1) ≤ (4611686018427387904 : Nat))))) ∧
 (bif (nacksM xs_1) then (Q (Out.ret (AV.bool true)) [] (Gh.mk (0 : Nat) (0 : Nat) []))
else (Q (Out.ret (AV.bool false)) [] (Gh.mk (0 : Nat) (0 : Nat) [])))))
else (Q (Out.ret (AV.bool false)) [] (Gh.mk (0 : Nat) (0 : Nat) []))))))
theorem vc_494 (f : Int) (a : Int) (s1 : Int) (s2 : Int) (s3 : Int) (s4 : Int) (s5 : Int) (rs : List Rc) (lo : List Int) (ba : Int) (ro : Int) (ti : List Int) (Q : Out → List Blk → Gh → Prop) : goal_494 (lookV [(200773, .int .i64), (200776, .int .i64), (200779, .int .i64), (200782, .int .i64), (200795, .int .i64), (200800, .int .i64), (200812, .int .i64)]) (lookB []) f a s1 s2 s3 s4 s5 rs lo ba ro ti Q = (∃ xs_0 : List Int, zXB3 f a s1 s2 s3 s4 s5 xs_0 ∧ bif zXB10 xs_0 then ∃ xs_1 : List Int, zXB4 ba xs_1 ∧ bif zXB9 xs_1 then ∃ xs_2 : List Int, zXB5 ro xs_2 ∧ bif zXB12 xs_2 then exW .i64 (zXB1 s1 s2) (fun n_3 => exW .i64 (zXB1 n_3 s3) (fun n_4 => exW .i64 (zXB1 n_4 s4) (fun n_5 => exW .i64 (zXB1 n_5 s5) (fun n_6 => bif n_6 != 0 then zXB2 Q else exW .i64 (zXB1 ba ro) (fun n_7 => bif n_7 != 0 then zXB2 Q else exI .i64 (ti.length : Int) (fun n_8 => bif decide (n_8 > 0) then zXB2 Q else exI .i64 (rs.length : Int) (fun n_9 => bif decide (n_9 > 0) then zXB2 Q else ∃ xs_10 : List Int, zXB8 ti xs_10 ∧ ∀ r_11 : Int, ∀ l_12 : List Int, ∀ b_13 : Bool, Lf (stepsRM xs_10 = Prod.mk r_11 (Prod.mk l_12 b_13)) → bif b_13 then vc_494_1 rs lo Q else vc_494_1 rs lo Q))))))) else zXB2 Q else zXB2 Q else zXB2 Q) := by kernel_rfl

noncomputable def goal_495 (hv : Nat → Option Pa) (hb : Nat → Option Bool) (f a s1 s2 s3 s4 s5 : Int) (rs : List Rc) (lo : List Int) (ba ro : Int) (ti : List Int) (Q : Out → List Blk → Gh → Prop) : Prop := go49 hv hb 5 f a s1 s2 s3 s4 s5 rs lo ba ro ti Q
theorem vc_495 (f : Int) (a : Int) (s1 : Int) (s2 : Int) (s3 : Int) (s4 : Int) (s5 : Int) (rs : List Rc) (lo : List Int) (ba : Int) (ro : Int) (ti : List Int) (Q : Out → List Blk → Gh → Prop) : goal_495 (lookV [(200773, .int .i64), (200776, .int .i64), (200779, .int .i64), (200782, .int .i64), (200795, .int .i64), (200800, .int .i64), (200812, .int .i64), (200823, .int .i64)]) (lookB []) f a s1 s2 s3 s4 s5 rs lo ba ro ti Q = (∃ xs_0 : List Int, zXB3 f a s1 s2 s3 s4 s5 xs_0 ∧ bif zXB10 xs_0 then ∃ xs_1 : List Int, zXB4 ba xs_1 ∧ bif zXB9 xs_1 then ∃ xs_2 : List Int, zXB5 ro xs_2 ∧ bif zXB12 xs_2 then zXB6 s1 s2 s3 s4 s5 Q ba ro ti rs lo else zXB2 Q else zXB2 Q else zXB2 Q) := by kernel_rfl

noncomputable def goal_496 (hv : Nat → Option Pa) (hb : Nat → Option Bool) (f a s1 s2 s3 s4 s5 : Int) (rs : List Rc) (lo : List Int) (ba ro : Int) (ti : List Int) (Q : Out → List Blk → Gh → Prop) : Prop := go49 hv hb 6 f a s1 s2 s3 s4 s5 rs lo ba ro ti Q
theorem vc_496 (f : Int) (a : Int) (s1 : Int) (s2 : Int) (s3 : Int) (s4 : Int) (s5 : Int) (rs : List Rc) (lo : List Int) (ba : Int) (ro : Int) (ti : List Int) (Q : Out → List Blk → Gh → Prop) : goal_496 (lookV [(200773, .int .i64), (200776, .int .i64), (200779, .int .i64), (200782, .int .i64), (200812, .int .i64), (200823, .int .i64)]) (lookB []) f a s1 s2 s3 s4 s5 rs lo ba ro ti Q = (∃ xs_0 : List Int, zXB3 f a s1 s2 s3 s4 s5 xs_0 ∧ bif zXB10 xs_0 then ∃ xs_1 : List Int, zXB4 ba xs_1 ∧ bif zXB9 xs_1 then ∃ xs_2 : List Int, zXB5 ro xs_2 ∧ bif zXB12 xs_2 then exW .i64 (zXB1 s1 s2) (fun n_3 => exW .i64 (zXB1 n_3 s3) (fun n_4 => exW .i64 (zXB1 n_4 s4) (fun n_5 => exW .i64 (zXB1 n_5 s5) (fun n_6 => bif n_6 != 0 then zXB2 Q else exI .i64 (rs.length : Int) (fun n_7 => bif decide (n_7 > 0) then zXB2 Q else exI .i64 (lo.length : Int) (fun n_8 => bif decide (n_8 > 0) then zXB2 Q else ∃ xs_9 : List Int, zXB8 ti xs_9 ∧ ∀ r_10 : Int, ∀ l_11 : List Int, ∀ b_12 : Bool, Lf (stepsRM xs_9 = Prod.mk r_10 (Prod.mk l_11 b_12)) → bif b_12 then ∃ l_13 : List Rc, zXB13 rs l_13 ∧ bif rcsOkM l_13 then Q (.ret (.bool true)) [] {} else zXB2 Q else zXB2 Q)))))) else zXB2 Q else zXB2 Q else zXB2 Q) := by kernel_rfl


theorem orZ {x y : Int} {K : Int → Prop} (hx : in32 x) (hy : in32 y) (h : ∀ z : Int, in32 z → (z = 0 ↔ x = 0 ∧ y = 0) → K z) :
  ∃ n, AV.int .i64 (IntKind.wrap .i64 (((x % 18446744073709551616).toNat ||| (y % 18446744073709551616).toNat : Nat) : Int)) = AV.int .i64 n ∧ K n := by
 obtain ⟨x, rfl⟩ := Int.eq_ofNat_of_zero_le hx.1
 obtain ⟨y, rfl⟩ := Int.eq_ofNat_of_zero_le hy.1
 have e1 : (((x : Nat) : Int) % 18446744073709551616).toNat = x := by omega
 have e2 : (((y : Nat) : Int) % 18446744073709551616).toNat = y := by omega
 rw [e1, e2]
 have h3 : x ||| y < 2 ^ 32 := Nat.or_lt_two_pow (by omega) (by omega)
 refine wrapI (by omega) (by omega) (h _ ⟨by omega, by omega⟩ ?_)
 have h4 : x ||| y = 0 ↔ x = 0 ∧ y = 0 := Nat.or_eq_zero_iff
 omega
theorem valid_f {c : Ctl} {Q : Bool → Prop} (hq : Q (validM c)) (h : validM c = true → False) : Q false := by
 have : validM c = false := by
  cases e : validM c
  ·rfl
  ·exact (h e).elim
 rwa [this] at hq
theorem valid_t {c : Ctl} {Q : Bool → Prop} (hq : Q (validM c)) (h : validM c = true) : Q true := by rwa [h] at hq
theorem valid_runn (m : Nat) (f a s1 s2 s3 s4 s5 : Int) (rs : List Rc) (lo : List Int) (ba ro : Int) (ti : List Int) (hrs : rs.length ≤ 1000000) (hlo : lo.length ≤ 1000000) (hti : ti.length ≤ 1000000) (Q : Out → List Blk → Gh → Prop) (hq : Q (.ret (.bool (validM ⟨(Int.negSucc m), f, a, s1, s2, s3, s4, s5, rs, lo, ba, ro, ti⟩))) [] {}) : ∃ hv hb, goal_49n hv hb m f a s1 s2 s3 s4 s5 rs lo ba ro ti Q := by
 obtain ⟨hv, hb', e⟩ : ∃ hv hb, goal_49n hv hb m f a s1 s2 s3 s4 s5 rs lo ba ro ti Q = _ := ⟨_, _, vc_49n m f a s1 s2 s3 s4 s5 rs lo ba ro ti Q⟩
 refine ⟨hv, hb', e.mpr ?_⟩
 clear e
 have kf := valid_f (Q := fun b => Q (.ret (.bool b)) [] {}) hq
 have kt := valid_t (Q := fun b => Q (.ret (.bool b)) [] {}) hq
 have := kf fun h => by
  have := (of_decide_eq_true h).1
  dsimp only at this
  try simp only [Int.ofNat_eq_natCast] at this
  omega
 exact ⟨_, rfl, by rw [decide_eq_true (by omega)], this⟩
theorem valid_runh (m : Nat) (f a s1 s2 s3 s4 s5 : Int) (rs : List Rc) (lo : List Int) (ba ro : Int) (ti : List Int) (hrs : rs.length ≤ 1000000) (hlo : lo.length ≤ 1000000) (hti : ti.length ≤ 1000000) (Q : Out → List Blk → Gh → Prop) (hq : Q (.ret (.bool (validM ⟨(Int.ofNat (m + 7)), f, a, s1, s2, s3, s4, s5, rs, lo, ba, ro, ti⟩))) [] {}) : ∃ hv hb, goal_49h hv hb m f a s1 s2 s3 s4 s5 rs lo ba ro ti Q := by
 obtain ⟨hv, hb', e⟩ : ∃ hv hb, goal_49h hv hb m f a s1 s2 s3 s4 s5 rs lo ba ro ti Q = _ := ⟨_, _, vc_49h m f a s1 s2 s3 s4 s5 rs lo ba ro ti Q⟩
 refine ⟨hv, hb', e.mpr ?_⟩
 clear e
 have kf := valid_f (Q := fun b => Q (.ret (.bool b)) [] {}) hq
 have kt := valid_t (Q := fun b => Q (.ret (.bool b)) [] {}) hq
 have := kf fun h => by
  have := (of_decide_eq_true h).1
  dsimp only at this
  try simp only [Int.ofNat_eq_natCast] at this
  omega
 exact ⟨_, rfl, by rw [decide_eq_false (by simp only [Int.ofNat_eq_natCast]; omega)], _, rfl, by rw [decide_eq_true (by simp only [Int.ofNat_eq_natCast]; omega)], this⟩
theorem valid_run0 (f a s1 s2 s3 s4 s5 : Int) (rs : List Rc) (lo : List Int) (ba ro : Int) (ti : List Int) (hrs : rs.length ≤ 1000000) (hlo : lo.length ≤ 1000000) (hti : ti.length ≤ 1000000) (Q : Out → List Blk → Gh → Prop) (hq : Q (.ret (.bool (validM ⟨0, f, a, s1, s2, s3, s4, s5, rs, lo, ba, ro, ti⟩))) [] {}) : ∃ hv hb, goal_490 hv hb f a s1 s2 s3 s4 s5 rs lo ba ro ti Q := by
 obtain ⟨hv, hb', e⟩ : ∃ hv hb, goal_490 hv hb f a s1 s2 s3 s4 s5 rs lo ba ro ti Q = _ := ⟨_, _, vc_490 f a s1 s2 s3 s4 s5 rs lo ba ro ti Q⟩
 refine ⟨hv, hb', e.mpr ?_⟩
 clear e
 have kf := valid_f (Q := fun b => Q (.ret (.bool b)) [] {}) hq
 have kt := valid_t (Q := fun b => Q (.ret (.bool b)) [] {}) hq
 have := kf fun h => by
  have := (of_decide_eq_true h).1
  dsimp only at this
  try simp only [Int.ofNat_eq_natCast] at this
  omega
 exact this
theorem valid_run1 (f a s1 s2 s3 s4 s5 : Int) (rs : List Rc) (lo : List Int) (ba ro : Int) (ti : List Int) (hrs : rs.length ≤ 1000000) (hlo : lo.length ≤ 1000000) (hti : ti.length ≤ 1000000) (Q : Out → List Blk → Gh → Prop) (hq : Q (.ret (.bool (validM ⟨1, f, a, s1, s2, s3, s4, s5, rs, lo, ba, ro, ti⟩))) [] {}) : ∃ hv hb, goal_491 hv hb f a s1 s2 s3 s4 s5 rs lo ba ro ti Q := by
 obtain ⟨hv, hb', e⟩ : ∃ hv hb, goal_491 hv hb f a s1 s2 s3 s4 s5 rs lo ba ro ti Q = _ := ⟨_, _, vc_491 f a s1 s2 s3 s4 s5 rs lo ba ro ti Q⟩
 refine ⟨hv, hb', e.mpr ?_⟩
 delta zXB3 zXB10 zXB4 zXB9 zXB5 zXB12 zXB11 zXB2 zXB1 zXB8 zXB13 zXB7 zXB0
 clear e
 have kf := valid_f (Q := fun b => Q (.ret (.bool b)) [] {}) hq
 have kt := valid_t (Q := fun b => Q (.ret (.bool b)) [] {}) hq
 rw [validM, decide_eq_true_eq] at kf kt
 dsimp only at kf kt
 refine ⟨[f, a, s1, s2, s3, s4, s5], ⟨rfl, rfl, by decide, by simp⟩, splitF (fun f1 => ⟨[ba], ⟨rfl, rfl, by decide, by simp⟩, splitF (fun f2 => ⟨[ro], ⟨rfl, rfl, by decide, by simp⟩, splitF (fun f3 => ?_) (fun f3 => kf fun h => ?_)⟩) (fun f2 => kf fun h => ?_)⟩) (fun f1 => kf fun h => ?_)⟩
 all_goals simp only [List.any_cons, List.any_nil, Bool.or_false, badM32, badM8, badM16d, Bool.or_eq_false_iff, Bool.or_eq_true, decide_eq_true_eq, decide_eq_false_iff_not] at f1
 all_goals try simp only [List.any_cons, List.any_nil, Bool.or_false, badM32, badM8, badM16d, Bool.or_eq_false_iff, Bool.or_eq_true, decide_eq_true_eq, decide_eq_false_iff_not] at f2
 all_goals try simp only [List.any_cons, List.any_nil, Bool.or_false, badM32, badM8, badM16d, Bool.or_eq_false_iff, Bool.or_eq_true, decide_eq_true_eq, decide_eq_false_iff_not] at f3
 any_goals (exfalso; omega)
 repeat' (first | (with_reducible refine orZ (by omega) (by omega) (fun z hz h0 => ?_)) | (with_reducible refine splitNE (fun hn => ?_) (fun hn => ?_)) | (with_reducible refine ⟨_, rfl, ?_⟩) | (with_reducible refine splitD (fun hd => ?_) (fun hd => ?_)) | (with_reducible refine ⟨ti, ⟨rfl, rfl, hti⟩, ?_⟩) | (with_reducible refine ⟨rs, ⟨rfl, rfl, hrs⟩, ?_⟩) | (with_reducible refine ⟨lo, ⟨rfl, rfl, by omega⟩, ?_⟩) | (rintro r l b ⟨hs⟩) | (with_reducible refine splitNot ?_) | (with_reducible refine splitI (fun hd => ?_) (fun hd => ?_)))
 all_goals first
  | (refine kf fun h => ?_; first | (exfalso; omega) | (simp_all; done) | (exfalso; simp_all; omega))
  | (refine kt ?_; first | (simp_all; done) | (simp_all; omega) | (refine ⟨by omega, by omega, by omega, by omega, by omega, by omega, by omega, by omega, by omega, by omega, by omega, by omega, by omega, by omega, by omega, ?_, ?_, ?_⟩ <;> first | (simp_all; done) | (intros; omega)))
theorem valid_run2 (f a s1 s2 s3 s4 s5 : Int) (rs : List Rc) (lo : List Int) (ba ro : Int) (ti : List Int) (hrs : rs.length ≤ 1000000) (hlo : lo.length ≤ 1000000) (hti : ti.length ≤ 1000000) (Q : Out → List Blk → Gh → Prop) (hq : Q (.ret (.bool (validM ⟨2, f, a, s1, s2, s3, s4, s5, rs, lo, ba, ro, ti⟩))) [] {}) : ∃ hv hb, goal_492 hv hb f a s1 s2 s3 s4 s5 rs lo ba ro ti Q := by
 obtain ⟨hv, hb', e⟩ : ∃ hv hb, goal_492 hv hb f a s1 s2 s3 s4 s5 rs lo ba ro ti Q = _ := ⟨_, _, vc_492 f a s1 s2 s3 s4 s5 rs lo ba ro ti Q⟩
 refine ⟨hv, hb', e.mpr ?_⟩
 delta zXB3 zXB10 zXB4 zXB9 zXB5 zXB12 zXB11 zXB2 zXB1 zXB8 zXB13 zXB7 zXB0
 clear e
 have kf := valid_f (Q := fun b => Q (.ret (.bool b)) [] {}) hq
 have kt := valid_t (Q := fun b => Q (.ret (.bool b)) [] {}) hq
 rw [validM, decide_eq_true_eq] at kf kt
 dsimp only at kf kt
 refine ⟨[f, a, s1, s2, s3, s4, s5], ⟨rfl, rfl, by decide, by simp⟩, splitF (fun f1 => ⟨[ba], ⟨rfl, rfl, by decide, by simp⟩, splitF (fun f2 => ⟨[ro], ⟨rfl, rfl, by decide, by simp⟩, splitF (fun f3 => ?_) (fun f3 => kf fun h => ?_)⟩) (fun f2 => kf fun h => ?_)⟩) (fun f1 => kf fun h => ?_)⟩
 all_goals simp only [List.any_cons, List.any_nil, Bool.or_false, badM32, badM8, badM16d, Bool.or_eq_false_iff, Bool.or_eq_true, decide_eq_true_eq, decide_eq_false_iff_not] at f1
 all_goals try simp only [List.any_cons, List.any_nil, Bool.or_false, badM32, badM8, badM16d, Bool.or_eq_false_iff, Bool.or_eq_true, decide_eq_true_eq, decide_eq_false_iff_not] at f2
 all_goals try simp only [List.any_cons, List.any_nil, Bool.or_false, badM32, badM8, badM16d, Bool.or_eq_false_iff, Bool.or_eq_true, decide_eq_true_eq, decide_eq_false_iff_not] at f3
 any_goals (exfalso; omega)
 repeat' (first | (with_reducible refine orZ (by omega) (by omega) (fun z hz h0 => ?_)) | (with_reducible refine splitNE (fun hn => ?_) (fun hn => ?_)) | (with_reducible refine ⟨_, rfl, ?_⟩) | (with_reducible refine splitD (fun hd => ?_) (fun hd => ?_)) | (with_reducible refine ⟨ti, ⟨rfl, rfl, hti⟩, ?_⟩) | (with_reducible refine ⟨rs, ⟨rfl, rfl, hrs⟩, ?_⟩) | (with_reducible refine ⟨lo, ⟨rfl, rfl, by omega⟩, ?_⟩) | (rintro r l b ⟨hs⟩) | (with_reducible refine splitNot ?_) | (with_reducible refine splitI (fun hd => ?_) (fun hd => ?_)))
 all_goals first
  | (refine kf fun h => ?_; first | (exfalso; omega) | (simp_all; done) | (exfalso; simp_all; omega))
  | (refine kt ?_; first | (simp_all; done) | (simp_all; omega) | (refine ⟨by omega, by omega, by omega, by omega, by omega, by omega, by omega, by omega, by omega, by omega, by omega, by omega, by omega, by omega, by omega, ?_, ?_, ?_⟩ <;> first | (simp_all; done) | (intros; omega)))
theorem valid_run3 (f a s1 s2 s3 s4 s5 : Int) (rs : List Rc) (lo : List Int) (ba ro : Int) (ti : List Int) (hrs : rs.length ≤ 1000000) (hlo : lo.length ≤ 1000000) (hti : ti.length ≤ 1000000) (Q : Out → List Blk → Gh → Prop) (hq : Q (.ret (.bool (validM ⟨3, f, a, s1, s2, s3, s4, s5, rs, lo, ba, ro, ti⟩))) [] {}) : ∃ hv hb, goal_493 hv hb f a s1 s2 s3 s4 s5 rs lo ba ro ti Q := by
 obtain ⟨hv, hb', e⟩ : ∃ hv hb, goal_493 hv hb f a s1 s2 s3 s4 s5 rs lo ba ro ti Q = _ := ⟨_, _, vc_493 f a s1 s2 s3 s4 s5 rs lo ba ro ti Q⟩
 refine ⟨hv, hb', e.mpr ?_⟩
 delta zXB3 zXB10 zXB4 zXB9 zXB5 zXB12 zXB11 zXB2 zXB1 zXB8 zXB13 zXB7 zXB0 zXB6
 clear e
 have kf := valid_f (Q := fun b => Q (.ret (.bool b)) [] {}) hq
 have kt := valid_t (Q := fun b => Q (.ret (.bool b)) [] {}) hq
 rw [validM, decide_eq_true_eq] at kf kt
 dsimp only at kf kt
 refine ⟨[f, a, s1, s2, s3, s4, s5], ⟨rfl, rfl, by decide, by simp⟩, splitF (fun f1 => ⟨[ba], ⟨rfl, rfl, by decide, by simp⟩, splitF (fun f2 => ⟨[ro], ⟨rfl, rfl, by decide, by simp⟩, splitF (fun f3 => ?_) (fun f3 => kf fun h => ?_)⟩) (fun f2 => kf fun h => ?_)⟩) (fun f1 => kf fun h => ?_)⟩
 all_goals simp only [List.any_cons, List.any_nil, Bool.or_false, badM32, badM8, badM16d, Bool.or_eq_false_iff, Bool.or_eq_true, decide_eq_true_eq, decide_eq_false_iff_not] at f1
 all_goals try simp only [List.any_cons, List.any_nil, Bool.or_false, badM32, badM8, badM16d, Bool.or_eq_false_iff, Bool.or_eq_true, decide_eq_true_eq, decide_eq_false_iff_not] at f2
 all_goals try simp only [List.any_cons, List.any_nil, Bool.or_false, badM32, badM8, badM16d, Bool.or_eq_false_iff, Bool.or_eq_true, decide_eq_true_eq, decide_eq_false_iff_not] at f3
 any_goals (exfalso; omega)
 repeat' (first | (with_reducible refine orZ (by omega) (by omega) (fun z hz h0 => ?_)) | (with_reducible refine splitNE (fun hn => ?_) (fun hn => ?_)) | (with_reducible refine ⟨_, rfl, ?_⟩) | (with_reducible refine splitD (fun hd => ?_) (fun hd => ?_)) | (with_reducible refine ⟨ti, ⟨rfl, rfl, hti⟩, ?_⟩) | (with_reducible refine ⟨rs, ⟨rfl, rfl, hrs⟩, ?_⟩) | (with_reducible refine ⟨lo, ⟨rfl, rfl, by omega⟩, ?_⟩) | (rintro r l b ⟨hs⟩) | (with_reducible refine splitNot ?_) | (with_reducible refine splitI (fun hd => ?_) (fun hd => ?_)))
 all_goals first
  | (refine kf fun h => ?_; first | (exfalso; omega) | (simp_all; done) | (exfalso; simp_all; omega))
  | (refine kt ?_; first | (simp_all; done) | (simp_all; omega) | (refine ⟨by omega, by omega, by omega, by omega, by omega, by omega, by omega, by omega, by omega, by omega, by omega, by omega, by omega, by omega, by omega, ?_, ?_, ?_⟩ <;> first | (simp_all; done) | (intros; omega)))
theorem valid_run4 (f a s1 s2 s3 s4 s5 : Int) (rs : List Rc) (lo : List Int) (ba ro : Int) (ti : List Int) (hrs : rs.length ≤ 1000000) (hlo : lo.length ≤ 1000000) (hti : ti.length ≤ 1000000) (Q : Out → List Blk → Gh → Prop) (hq : Q (.ret (.bool (validM ⟨4, f, a, s1, s2, s3, s4, s5, rs, lo, ba, ro, ti⟩))) [] {}) : ∃ hv hb, goal_494 hv hb f a s1 s2 s3 s4 s5 rs lo ba ro ti Q := by
 obtain ⟨hv, hb', e⟩ : ∃ hv hb, goal_494 hv hb f a s1 s2 s3 s4 s5 rs lo ba ro ti Q = _ := ⟨_, _, vc_494 f a s1 s2 s3 s4 s5 rs lo ba ro ti Q⟩
 refine ⟨hv, hb', e.mpr ?_⟩
 delta zXB3 zXB10 zXB4 zXB9 zXB5 zXB12 zXB1 zXB11 zXB2 zXB8
 clear e
 have kf := valid_f (Q := fun b => Q (.ret (.bool b)) [] {}) hq
 have kt := valid_t (Q := fun b => Q (.ret (.bool b)) [] {}) hq
 rw [validM, decide_eq_true_eq] at kf kt
 dsimp only at kf kt
 refine ⟨[f, a, s1, s2, s3, s4, s5], ⟨rfl, rfl, by decide, by simp⟩, splitF (fun f1 => ⟨[ba], ⟨rfl, rfl, by decide, by simp⟩, splitF (fun f2 => ⟨[ro], ⟨rfl, rfl, by decide, by simp⟩, splitF (fun f3 => ?_) (fun f3 => kf fun h => ?_)⟩) (fun f2 => kf fun h => ?_)⟩) (fun f1 => kf fun h => ?_)⟩
 all_goals simp only [List.any_cons, List.any_nil, Bool.or_false, badM32, badM8, badM16d, Bool.or_eq_false_iff, Bool.or_eq_true, decide_eq_true_eq, decide_eq_false_iff_not] at f1
 all_goals try simp only [List.any_cons, List.any_nil, Bool.or_false, badM32, badM8, badM16d, Bool.or_eq_false_iff, Bool.or_eq_true, decide_eq_true_eq, decide_eq_false_iff_not] at f2
 all_goals try simp only [List.any_cons, List.any_nil, Bool.or_false, badM32, badM8, badM16d, Bool.or_eq_false_iff, Bool.or_eq_true, decide_eq_true_eq, decide_eq_false_iff_not] at f3
 any_goals (exfalso; omega)
 repeat' (first | (with_reducible refine orZ (by omega) (by omega) (fun z hz h0 => ?_)) | (with_reducible refine splitNE (fun hn => ?_) (fun hn => ?_)) | (with_reducible refine ⟨_, rfl, ?_⟩) | (with_reducible refine splitD (fun hd => ?_) (fun hd => ?_)) | (with_reducible refine ⟨ti, ⟨rfl, rfl, hti⟩, ?_⟩) | (with_reducible refine ⟨rs, ⟨rfl, rfl, hrs⟩, ?_⟩) | (with_reducible refine ⟨lo, ⟨rfl, rfl, by omega⟩, ?_⟩) | (rintro r l b ⟨hs⟩) | (with_reducible refine splitNot ?_) | (with_reducible refine splitI (fun hd => ?_) (fun hd => ?_)))
 all_goals try simp only [vc_494_1]
 all_goals (repeat' (first | (with_reducible refine orZ (by omega) (by omega) (fun z hz h0 => ?_)) | (with_reducible refine splitNE (fun hn => ?_) (fun hn => ?_)) | (with_reducible refine ⟨_, rfl, ?_⟩) | (with_reducible refine splitD (fun hd => ?_) (fun hd => ?_)) | (with_reducible refine ⟨ti, ⟨rfl, rfl, hti⟩, ?_⟩) | (with_reducible refine ⟨rs, ⟨rfl, rfl, hrs⟩, ?_⟩) | (with_reducible refine ⟨lo, ⟨rfl, rfl, by omega⟩, ?_⟩) | (rintro r l b ⟨hs⟩) | (with_reducible refine splitNot ?_) | (with_reducible refine splitI (fun hd => ?_) (fun hd => ?_))))
 all_goals first
  | (refine kf fun h => ?_; first | (exfalso; omega) | (simp_all; done) | (exfalso; simp_all; omega))
  | (refine kt ?_; first | (simp_all; done) | (simp_all; omega) | (refine ⟨by omega, by omega, by omega, by omega, by omega, by omega, by omega, by omega, by omega, by omega, by omega, by omega, by omega, by omega, by omega, ?_, ?_, ?_⟩ <;> first | (simp_all; done) | (intros; omega)))
theorem valid_run5 (f a s1 s2 s3 s4 s5 : Int) (rs : List Rc) (lo : List Int) (ba ro : Int) (ti : List Int) (hrs : rs.length ≤ 1000000) (hlo : lo.length ≤ 1000000) (hti : ti.length ≤ 1000000) (Q : Out → List Blk → Gh → Prop) (hq : Q (.ret (.bool (validM ⟨5, f, a, s1, s2, s3, s4, s5, rs, lo, ba, ro, ti⟩))) [] {}) : ∃ hv hb, goal_495 hv hb f a s1 s2 s3 s4 s5 rs lo ba ro ti Q := by
 obtain ⟨hv, hb', e⟩ : ∃ hv hb, goal_495 hv hb f a s1 s2 s3 s4 s5 rs lo ba ro ti Q = _ := ⟨_, _, vc_495 f a s1 s2 s3 s4 s5 rs lo ba ro ti Q⟩
 refine ⟨hv, hb', e.mpr ?_⟩
 delta zXB3 zXB10 zXB4 zXB9 zXB5 zXB12 zXB1 zXB11 zXB2 zXB8 zXB13 zXB7 zXB0 zXB6
 clear e
 have kf := valid_f (Q := fun b => Q (.ret (.bool b)) [] {}) hq
 have kt := valid_t (Q := fun b => Q (.ret (.bool b)) [] {}) hq
 rw [validM, decide_eq_true_eq] at kf kt
 dsimp only at kf kt
 refine ⟨[f, a, s1, s2, s3, s4, s5], ⟨rfl, rfl, by decide, by simp⟩, splitF (fun f1 => ⟨[ba], ⟨rfl, rfl, by decide, by simp⟩, splitF (fun f2 => ⟨[ro], ⟨rfl, rfl, by decide, by simp⟩, splitF (fun f3 => ?_) (fun f3 => kf fun h => ?_)⟩) (fun f2 => kf fun h => ?_)⟩) (fun f1 => kf fun h => ?_)⟩
 all_goals simp only [List.any_cons, List.any_nil, Bool.or_false, badM32, badM8, badM16d, Bool.or_eq_false_iff, Bool.or_eq_true, decide_eq_true_eq, decide_eq_false_iff_not] at f1
 all_goals try simp only [List.any_cons, List.any_nil, Bool.or_false, badM32, badM8, badM16d, Bool.or_eq_false_iff, Bool.or_eq_true, decide_eq_true_eq, decide_eq_false_iff_not] at f2
 all_goals try simp only [List.any_cons, List.any_nil, Bool.or_false, badM32, badM8, badM16d, Bool.or_eq_false_iff, Bool.or_eq_true, decide_eq_true_eq, decide_eq_false_iff_not] at f3
 any_goals (exfalso; omega)
 repeat' (first | (with_reducible refine orZ (by omega) (by omega) (fun z hz h0 => ?_)) | (with_reducible refine splitNE (fun hn => ?_) (fun hn => ?_)) | (with_reducible refine ⟨_, rfl, ?_⟩) | (with_reducible refine splitD (fun hd => ?_) (fun hd => ?_)) | (with_reducible refine ⟨ti, ⟨rfl, rfl, hti⟩, ?_⟩) | (with_reducible refine ⟨rs, ⟨rfl, rfl, hrs⟩, ?_⟩) | (with_reducible refine ⟨lo, ⟨rfl, rfl, by omega⟩, ?_⟩) | (rintro r l b ⟨hs⟩) | (with_reducible refine splitNot ?_) | (with_reducible refine splitI (fun hd => ?_) (fun hd => ?_)))
 all_goals first
  | (refine kf fun h => ?_; first | (exfalso; omega) | (simp_all; done) | (exfalso; simp_all; omega))
  | (refine kt ?_; first | (simp_all; done) | (simp_all; omega) | (refine ⟨by omega, by omega, by omega, by omega, by omega, by omega, by omega, by omega, by omega, by omega, by omega, by omega, by omega, by omega, by omega, ?_, ?_, ?_⟩ <;> first | (simp_all; done) | (intros; omega)))
theorem valid_run6 (f a s1 s2 s3 s4 s5 : Int) (rs : List Rc) (lo : List Int) (ba ro : Int) (ti : List Int) (hrs : rs.length ≤ 1000000) (hlo : lo.length ≤ 1000000) (hti : ti.length ≤ 1000000) (Q : Out → List Blk → Gh → Prop) (hq : Q (.ret (.bool (validM ⟨6, f, a, s1, s2, s3, s4, s5, rs, lo, ba, ro, ti⟩))) [] {}) : ∃ hv hb, goal_496 hv hb f a s1 s2 s3 s4 s5 rs lo ba ro ti Q := by
 obtain ⟨hv, hb', e⟩ : ∃ hv hb, goal_496 hv hb f a s1 s2 s3 s4 s5 rs lo ba ro ti Q = _ := ⟨_, _, vc_496 f a s1 s2 s3 s4 s5 rs lo ba ro ti Q⟩
 refine ⟨hv, hb', e.mpr ?_⟩
 delta zXB3 zXB10 zXB4 zXB9 zXB5 zXB12 zXB1 zXB11 zXB2 zXB8 zXB13
 clear e
 have kf := valid_f (Q := fun b => Q (.ret (.bool b)) [] {}) hq
 have kt := valid_t (Q := fun b => Q (.ret (.bool b)) [] {}) hq
 rw [validM, decide_eq_true_eq] at kf kt
 dsimp only at kf kt
 refine ⟨[f, a, s1, s2, s3, s4, s5], ⟨rfl, rfl, by decide, by simp⟩, splitF (fun f1 => ⟨[ba], ⟨rfl, rfl, by decide, by simp⟩, splitF (fun f2 => ⟨[ro], ⟨rfl, rfl, by decide, by simp⟩, splitF (fun f3 => ?_) (fun f3 => kf fun h => ?_)⟩) (fun f2 => kf fun h => ?_)⟩) (fun f1 => kf fun h => ?_)⟩
 all_goals simp only [List.any_cons, List.any_nil, Bool.or_false, badM32, badM8, badM16d, Bool.or_eq_false_iff, Bool.or_eq_true, decide_eq_true_eq, decide_eq_false_iff_not] at f1
 all_goals try simp only [List.any_cons, List.any_nil, Bool.or_false, badM32, badM8, badM16d, Bool.or_eq_false_iff, Bool.or_eq_true, decide_eq_true_eq, decide_eq_false_iff_not] at f2
 all_goals try simp only [List.any_cons, List.any_nil, Bool.or_false, badM32, badM8, badM16d, Bool.or_eq_false_iff, Bool.or_eq_true, decide_eq_true_eq, decide_eq_false_iff_not] at f3
 any_goals (exfalso; omega)
 repeat' (first | (with_reducible refine orZ (by omega) (by omega) (fun z hz h0 => ?_)) | (with_reducible refine splitNE (fun hn => ?_) (fun hn => ?_)) | (with_reducible refine ⟨_, rfl, ?_⟩) | (with_reducible refine splitD (fun hd => ?_) (fun hd => ?_)) | (with_reducible refine ⟨ti, ⟨rfl, rfl, hti⟩, ?_⟩) | (with_reducible refine ⟨rs, ⟨rfl, rfl, hrs⟩, ?_⟩) | (with_reducible refine ⟨lo, ⟨rfl, rfl, by omega⟩, ?_⟩) | (rintro r l b ⟨hs⟩) | (with_reducible refine splitNot ?_) | (with_reducible refine splitI (fun hd => ?_) (fun hd => ?_)))
 all_goals first
  | (refine kf fun h => ?_; first | (exfalso; omega) | (simp_all; done) | (exfalso; simp_all; omega))
  | (refine kt ?_; first | (simp_all; done) | (simp_all; omega) | (refine ⟨by omega, by omega, by omega, by omega, by omega, by omega, by omega, by omega, by omega, by omega, by omega, by omega, by omega, by omega, by omega, ?_, ?_, ?_⟩ <;> first | (simp_all; done) | (intros; omega)))
end Go.Proofs.YtafchcmemeinlaaDoor
