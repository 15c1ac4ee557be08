/-
  Chapter 24, the reference: times of arrival as octets.
-/
import Derived.Test.YtafchcmemeinlaaDoorC24ZB
set_option linter.unusedSimpArgs false
set_option linter.unusedVariables false
set_option linter.unusedSectionVars false
namespace Go.Proofs.YtafchcmemeinlaaDoor
open Go.RowKit
set_option maxRecDepth 1000000

def seenM (xs : List Int) (i : Nat) (R la : Int) (acc : List Int) : Prop := ∃ f b, stepsM xs = stepsGoM R b f (xs.drop i) acc ∧ cntM (xs.take i) = acc.length ∧ (f = true → la = -1 ∧ R = 0 ∧ acc = []) ∧ (f = false → la = b ∧ 0 ≤ b ∧ b < 4294967296 ∧ 0 ≤ R ∧ R < 16777216)
def wdgM (S : List Int) (j : Nat) : Nat → Int
 | 0 => 3
 | k + 1 => 4 * wdgM S j k + S.getD (7 * j + k) 0
def inv_55a (c : Ctl) : List LInv := [
 { α := Nat, pre := fun i => Lf (i = 0), st := fun _ => ⟨mkT [(1, .ptr 0 13 0), (3, .int .i64 0), (4, .int .i64 (-1)), (5, .str []), (6, .nils), (7, .int .i64 0)], [⟨.exact, true, ctC c⟩]⟩, mu := fun _ => c.ti.length },
 { α := Nat × Int × Int × List Int, pre := fun x => Lf (1 ≤ x.1 ∧ x.1 ≤ c.ti.length ∧ seenM c.ti x.1 x.2.1 x.2.2.1 x.2.2.2), st := fun x => ⟨mkT [(1, .ptr 0 13 0), (3, .int .i64 x.2.1), (4, .int .i64 x.2.2.1), (5, .str (tailM x.2.2.2)), (6, .sl 1 x.1 0 x.1 1), (7, .int .i64 (x.1 : Nat))], [⟨.exact, true, ctC c⟩, ⟨.grow, true, cellsI (sgsM (c.ti.take x.1) x.2.2.2)⟩]⟩, mu := fun x => c.ti.length - x.1 }]
def padSM (S : List Int) (m : Nat) : List Int := S ++ List.replicate m 0
def inv_55b (c : Ctl) (ref : Int) (l : List Int) : LInv where
 α := Nat × List AV × List AV × List AV
 pre x := Lf (x.1 ≤ (7 - c.ti.length % 7) % 7)
 st x := ⟨mkT [(5, .str (tailM l)), (6, .sl 1 (c.ti.length + x.1) 0 (c.ti.length + x.1) 1), (10, .str (hdrM c.ti ref c.ro))], [⟨.exact, true, ctC c⟩, ⟨.grow, true, cellsI (padSM (sgsM c.ti l) x.1)⟩, ⟨.exact, true, x.2.1⟩, ⟨.exact, true, x.2.2.1⟩, ⟨.exact, true, x.2.2.2⟩]⟩
 mu x := 7 - x.1
def inv_55c (c : Ctl) (ref : Int) (l : List Int) (m : Nat) (s : S) : List (List LInv) := match s.hp with
 | b0 :: b1 :: r => [[{ α := Nat, pre := fun j => Lf (7 * j ≤ c.ti.length + m), st := fun j => ⟨mkT [(5, .str (tailM l)), (6, .sl 1 (c.ti.length + m) 0 (c.ti.length + m) 1), (10, .str (hdrM c.ti ref c.ro ++ bitsM (sgsM c.ti l) (7 * j))), (11, .int .i64 (7 * (j : Nat) : Int))], b0 :: ⟨.grow, true, cellsI (padSM (sgsM c.ti l) m)⟩ :: r⟩, mu := fun j => c.ti.length + m - 7 * j }]]
 | _ => []
def inv_55d (c : Ctl) (ref : Int) (l : List Int) (m : Nat) (s : S) : List (List LInv) := match s.tm.get 11, s.hp with
 | .int _ n, b0 :: b1 :: r => [[{ α := Nat, pre := fun k => Lf (k ≤ 7), st := fun k => ⟨mkT [(5, .str (tailM l)), (6, .sl 1 (c.ti.length + m) 0 (c.ti.length + m) 1), (10, .str (hdrM c.ti ref c.ro ++ bitsM (sgsM c.ti l) (7 * (n / 7).toNat))), (11, .int .i64 n), (12, .int .i64 (wdgM (sgsM c.ti l) (n / 7).toNat k)), (13, .int .i64 (k : Nat))], b0 :: ⟨.grow, true, cellsI (padSM (sgsM c.ti l) m)⟩ :: r⟩, mu := fun k => 7 - k }]]
 | _, _ => []
noncomputable def env_55 (hv : Nat → Option Pa) (hb : Nat → Option Bool) (c : Ctl) (ref : Int) (l : List Int) : Env := { e24 sm54 (fun i => bif Nat.beq i 55000 then some (fun _ => [inv_55a c]) else bif Nat.beq i 55002 then some (fun _ => [[inv_55b c ref l]]) else bif Nat.beq i 55004 then some (inv_55c c ref l ((7 - c.ti.length % 7) % 7)) else bif Nat.beq i 55006 then some (inv_55d c ref l ((7 - c.ti.length % 7) % 7)) else none) hv hb with hz := fun k => [225309, 225328, 225332, 225336, 225342, 225348, 225351, 225356, 225364, 225387].any (Nat.beq k) }
noncomputable def goal_55 (hv : Nat → Option Pa) (hb : Nat → Option Bool) (c : Ctl) (ref : Int) (l : List Int) (Q : Out → List Blk → Gh → Prop) : Prop :=
 callx (env_55 hv hb c ref l) (wpx (env_55 hv hb c ref l) 1000) 55 [.agg (ctC c)] [] {} Q
def vc_55_1 (c : Ctl) : Prop := (
((((AV.int .i64 (c).1) :: ((AV.int .i64 (c).2) :: ((AV.int .i64 (c).3) :: ((AV.int .i64 (c).4) :: ((AV.int .i64 (c).5) :: ((AV.int .i64 (c).6) :: ((AV.int .i64 (c).7) :: ((AV.int .i64 (c).8) :: ((AV.lst (0 : Nat) (cellsRM (c).9) (List.length (c).9) (7 : Nat)) :: ((AV.lst (0 : Nat) (cellsI (c).10) (List.length (c).10) (1 : Nat)) :: ((AV.int .i64 (c).11) :: ((AV.int .i64 (c).12) :: ((AV.lst (0 : Nat) (cellsI (c).13) (List.length (c).13) (1 : Nat)) :: []))))))))))))) = ((AV.int .i64 (c).1) :: ((AV.int .i64 (c).2) :: ((AV.int .i64 (c).3) :: ((AV.int .i64 (c).4) :: ((AV.int .i64 (c).5) :: ((AV.int .i64 (c).6) :: ((AV.int .i64 (c).7) :: ((AV.int .i64 (c).8) :: ((AV.lst (0 : Nat) (cellsRM (c).9) (List.length (c).9) (7 : Nat)) :: ((AV.lst (0 : Nat) (cellsI (c).10) (List.length (c).10) (1 : Nat)) :: ((AV.int .i64 (c).11) :: ((AV.int .i64 (c).12) :: ((AV.lst (0 : Nat) (cellsI (c).13) (List.length (c).13) (1 : Nat)) :: [])))))))))))))) ∧
 False))
def vc_55_2 (c : Ctl) : Prop := (
(∃ y_0 : Nat, ((Lf (y_0 = (0 : Nat))) ∧
 (((List.length (c).13) < (List.length (c).13)) ∧
 (vc_55_1 c)))))
def vc_55_3 (c : Ctl) (ref : Int) (l : List Int) (Q : Out → List Blk → Gh → Prop) : Prop :=
∀ x_0 : Nat × List AV × List AV × List AV, Lf (x_0.1 ≤ (7 - (Ctl.ti c).length % 7) % 7) → ckQ (Nat.beq (cellsI (padSM (sgsM c.13 l) x_0.1)).length (c.13.length + x_0.1)) (exI .i64 ((c.13.length + x_0.1 : Nat) : Int) fun n_1 => exI .i64
 (n_1.tmod 7) fun n_2 => bif n_2 != 0 then ckQ (Nat.beq (cellsI (padSM (sgsM c.13 l) x_0.1)).length (c.13.length + x_0.1) && true && Nat.beq (0 + (c.13.length + x_0.1) * 1) (c.13.length + x_0.1) && Nat.ble (c.13.length + x_0.1 + 1)
 1099511627776 && Nat.ble ((c.13.length + x_0.1 + 1) * 8) 1099511627776) ((True ∧ (0 : Nat) = (0 : Nat)) ∧ ∃ y_3 : Nat × List AV × List AV × List AV, Lf (y_3.1 ≤ (7 - (Ctl.ti c).length % 7) % 7) ∧ 7 - y_3.1 < 7 - x_0.1 ∧ eqqQ [AV.int .i64
 c.1, .int .i64 c.2, .int .i64 c.3, .int .i64 c.4, .int .i64 c.5, .int .i64 c.6, .int .i64 c.7, .int .i64 c.8, .lst 0 (cellsRM c.9) c.9.length 7, .lst 0 (cellsI c.10) c.10.length 1, .int .i64 c.11, .int .i64 c.12, .lst 0 (cellsI c.13)
 c.13.length 1] ∧ cellsI (padSM (sgsM c.13 l) x_0.1) ++ [AV.int .i64 0] = cellsI (padSM (sgsM c.13 l) y_3.1) ∧ x_0.2.1 = y_3.2.1 ∧ x_0.2.2.1 = y_3.2.2.1 ∧ x_0.2.2.2 = y_3.2.2.2 ∧ eqqQ (AV.str (tailM l)) ∧ AV.sl 1 (c.13.length + x_0.1 + 1) 0
 (c.13.length + x_0.1 + 1) 1 = AV.sl 1 (c.13.length + y_3.1) 0 (c.13.length + y_3.1) 1 ∧ eqqQ (AV.str (hdrM c.13 ref c.12)) ∧ True) else (∃ x_3 : Nat, Lf (7 * x_3 ≤ (Ctl.ti c).length + (7 - (Ctl.ti c).length % 7) % 7) ∧ eqqQ [AV.int .i64
 c.1, .int .i64 c.2, .int .i64 c.3, .int .i64 c.4, .int .i64 c.5, .int .i64 c.6, .int .i64 c.7, .int .i64 c.8, .lst 0 (cellsRM c.9) c.9.length 7, .lst 0 (cellsI c.10) c.10.length 1, .int .i64 c.11, .int .i64 c.12, .lst 0 (cellsI c.13)
 c.13.length 1] ∧ cellsI (padSM (sgsM c.13 l) x_0.1) = cellsI (padSM (sgsM c.13 l) ((7 - c.13.length % 7) % 7)) ∧ x_0.2.1 = x_0.2.1 ∧ x_0.2.2.1 = x_0.2.2.1 ∧ x_0.2.2.2 = x_0.2.2.2 ∧ AV.int .i64 0 = AV.int .i64 (7 * (x_3 : Int)) ∧ eqqQ
 (AV.str (tailM l)) ∧ AV.sl 1 (c.13.length + x_0.1) 0 (c.13.length + x_0.1) 1 = AV.sl 1 (c.13.length + (7 - c.13.length % 7) % 7) 0 (c.13.length + (7 - c.13.length % 7) % 7) 1 ∧ AV.str (hdrM c.13 ref c.12) = AV.str (hdrM c.13 ref c.12 ++
 bitsM (sgsM c.13 l) (7 * x_3)) ∧ True) ∧ ∀ x_3 : Nat, Lf (7 * x_3 ≤ (Ctl.ti c).length + (7 - (Ctl.ti c).length % 7) % 7) → exI .i64 (7 * (x_3 : Int)) fun n_4 => ckQ (Nat.beq (cellsI (padSM (sgsM c.13 l) ((7 - c.13.length % 7) % 7))).length
 (c.13.length + (7 - c.13.length % 7) % 7)) (exI .i64 ((c.13.length + (7 - c.13.length % 7) % 7 : Nat) : Int) fun n_5 => bif decide (n_4 < n_5) then (∃ x_6 : Nat, Lf (x_6 ≤ 7) ∧ eqqQ [AV.int .i64 c.1, .int .i64 c.2, .int .i64 c.3, .int .i64
 c.4, .int .i64 c.5, .int .i64 c.6, .int .i64 c.7, .int .i64 c.8, .lst 0 (cellsRM c.9) c.9.length 7, .lst 0 (cellsI c.10) c.10.length 1, .int .i64 c.11, .int .i64 c.12, .lst 0 (cellsI c.13) c.13.length 1] ∧ eqqQ (cellsI (padSM (sgsM c.13 l)
 ((7 - c.13.length % 7) % 7))) ∧ x_0.2.1 = x_0.2.1 ∧ x_0.2.2.1 = x_0.2.2.1 ∧ x_0.2.2.2 = x_0.2.2.2 ∧ eqqQ (AV.int .i64 (7 * (x_3 : Int))) ∧ eqqQ (AV.str (tailM l)) ∧ AV.int .i64 0 = AV.int .i64 (x_6 : Int) ∧ AV.int .i64 3 = AV.int .i64
 (wdgM (sgsM c.13 l) (7 * (x_3 : Int) / 7).toNat x_6) ∧ eqqQ (AV.sl 1 (c.13.length + (7 - c.13.length % 7) % 7) 0 (c.13.length + (7 - c.13.length % 7) % 7) 1) ∧ AV.str (hdrM c.13 ref c.12 ++ bitsM (sgsM c.13 l) (7 * x_3)) = AV.str (hdrM
 c.13 ref c.12 ++ bitsM (sgsM c.13 l) (7 * (7 * (x_3 : Int) / 7).toNat)) ∧ True) ∧ ∀ x_6 : Nat, Lf (x_6 ≤ 7) → exI .i64 (x_6 : Int) fun n_7 => bif decide (n_7 < 7) then exI .i64 (wdgM (sgsM c.13 l) (7 * (x_3 : Int) / 7).toNat x_6) fun n_8
 => exW .i64 (4 * n_8) fun n_9 => exI .i64 (7 * (x_3 : Int)) fun n_10 => exI .i64 (x_6 : Int) fun n_11 => exW .i64 (n_10 + n_11) fun n_12 => ckQ (decide (0 ≤ n_12) && Nat.blt n_12.toNat (c.13.length + (7 - c.13.length % 7) % 7) && Nat.beq
 (cellsI (padSM (sgsM c.13 l) ((7 - c.13.length % 7) % 7))).length (c.13.length + (7 - c.13.length % 7) % 7) && true) (ckQ (Nat.beq (cellsI (padSM (sgsM c.13 l) ((7 - c.13.length % 7) % 7))).length (c.13.length + (7 - c.13.length % 7) % 7)
 && Nat.blt (0 + n_12.toNat * 1) (c.13.length + (7 - c.13.length % 7) % 7)) (exV .i64 ((((cellsI (padSM (sgsM c.13 l) ((7 - c.13.length % 7) % 7))).drop (0 + n_12.toNat * 1)).take 1).getD 0 AV.undef) fun n_13 => exW .i64 (n_9 + n_13) fun
 n_14 => exI .i64 (x_6 : Int) fun n_15 => exW .i64 (n_15 + 1) fun n_16 => (True ∧ (0 : Nat) = (0 : Nat)) ∧ ∃ y_17 : Nat, Lf (y_17 ≤ 7) ∧ 7 - y_17 < 7 - x_6 ∧ eqqQ [AV.int .i64 c.1, .int .i64 c.2, .int .i64 c.3, .int .i64 c.4, .int .i64 c.5,
 .int .i64 c.6, .int .i64 c.7, .int .i64 c.8, .lst 0 (cellsRM c.9) c.9.length 7, .lst 0 (cellsI c.10) c.10.length 1, .int .i64 c.11, .int .i64 c.12, .lst 0 (cellsI c.13) c.13.length 1] ∧ eqqQ (cellsI (padSM (sgsM c.13 l) ((7 - c.13.length %
 7) % 7))) ∧ x_0.2.1 = x_0.2.1 ∧ x_0.2.2.1 = x_0.2.2.1 ∧ x_0.2.2.2 = x_0.2.2.2 ∧ eqqQ (AV.int .i64 (7 * (x_3 : Int))) ∧ eqqQ (AV.str (tailM l)) ∧ AV.int .i64 n_16 = AV.int .i64 (y_17 : Int) ∧ AV.int .i64 n_14 = AV.int .i64 (wdgM (sgsM c.13
 l) (7 * (x_3 : Int) / 7).toNat y_17) ∧ eqqQ (AV.sl 1 (c.13.length + (7 - c.13.length % 7) % 7) 0 (c.13.length + (7 - c.13.length % 7) % 7) 1) ∧ eqqQ (AV.str (hdrM c.13 ref c.12 ++ bitsM (sgsM c.13 l) (7 * (7 * (x_3 : Int) / 7).toNat))) ∧
 True)) else exS (.str (hdrM c.13 ref c.12 ++ bitsM (sgsM c.13 l) (7 * (7 * (x_3 : Int) / 7).toNat))) fun s_8 => exI .i64 (wdgM (sgsM c.13 l) (7 * (x_3 : Int) / 7).toNat x_6) fun n_9 => ∃ xs_10 : List Int, Lf ([AV.int .i64 n_9] = cellsI
 xs_10 ∧ 1 = xs_10.length ∧ xs_10.length ≤ 1000 ∧ ((0 : Int) ≤ (2 : Int) ∧ (2 : Int) ≤ (8 : Int)) ∧ ∀ x_11 : Int, Membership.mem xs_10 x_11 → 0 ≤ x_11 ∧ x_11 ≤ 9223372036854775807) ∧ exS (.str (putM 2 xs_10)) fun s_11 => ckQ (decide
 (s_8.length + s_11.length ≤ 9223372036854775807) && true) (exS (.str (s_8 ++ s_11)) fun s_12 => exI .i64 (7 * (x_3 : Int)) fun n_13 => exW .i64 (n_13 + 7) fun n_14 => (True ∧ (0 : Nat) = (0 : Nat)) ∧ ∃ y_15 : Nat, Lf (7 * y_15 ≤ (Ctl.ti
 c).length + (7 - (Ctl.ti c).length % 7) % 7) ∧ c.13.length + (7 - c.13.length % 7) % 7 - 7 * y_15 < c.13.length + (7 - c.13.length % 7) % 7 - 7 * x_3 ∧ eqqQ [AV.int .i64 c.1, .int .i64 c.2, .int .i64 c.3, .int .i64 c.4, .int .i64 c.5, .int
 .i64 c.6, .int .i64 c.7, .int .i64 c.8, .lst 0 (cellsRM c.9) c.9.length 7, .lst 0 (cellsI c.10) c.10.length 1, .int .i64 c.11, .int .i64 c.12, .lst 0 (cellsI c.13) c.13.length 1] ∧ eqqQ (cellsI (padSM (sgsM c.13 l) ((7 - c.13.length % 7) %
 7))) ∧ x_0.2.1 = x_0.2.1 ∧ x_0.2.2.1 = x_0.2.2.1 ∧ x_0.2.2.2 = x_0.2.2.2 ∧ AV.int .i64 n_14 = AV.int .i64 (7 * (y_15 : Int)) ∧ eqqQ (AV.str (tailM l)) ∧ eqqQ (AV.sl 1 (c.13.length + (7 - c.13.length % 7) % 7) 0 (c.13.length + (7 -
 c.13.length % 7) % 7) 1) ∧ AV.str s_12 = AV.str (hdrM c.13 ref c.12 ++ bitsM (sgsM c.13 l) (7 * y_15)) ∧ True) else exS (.str (hdrM c.13 ref c.12 ++ bitsM (sgsM c.13 l) (7 * x_3))) fun s_6 => exS (.str (tailM l)) fun s_7 => ckQ (decide
 (s_6.length + s_7.length ≤ 9223372036854775807) && true) (exS (.str (s_6 ++ s_7)) fun s_8 => Q (.ret (.str s_8)) [] {})))
abbrev zZC0 (c : Ctl) : Prop := eqqQ [AV.int .i64 c.1, .int .i64 c.2, .int .i64 c.3, .int .i64 c.4, .int .i64 c.5, .int .i64 c.6, .int .i64 c.7, .int .i64 c.8, .lst 0 (cellsRM c.9) c.9.length 7, .lst 0 (cellsI c.10) c.10.length 1, .int .i64 c.11, .int .i64 c.12, .lst 0 (cellsI c.13) c.13.length 1]
abbrev zZC17 : Prop := eqqQ (AV.ptr 0 13 0)
abbrev zZC2 (x_0 : Nat × Int × Int × List Int) (c : Ctl) : Prop := Lf (1 ≤ x_0.1 ∧ x_0.1 ≤ (Ctl.ti c).length ∧ seenM (Ctl.ti c) x_0.1 x_0.2.1 x_0.2.2.1 x_0.2.2.2)
abbrev zZC15 : Prop := True ∧ (0 : Nat) = (0 : Nat)
abbrev zZC24 (c : Ctl) (y_7 : Nat × Int × Int × List Int) : Nat := c.13.length - y_7.1
abbrev zZC16 (x_0 : Nat × Int × Int × List Int) (c : Ctl) : List AV := cellsI (sgsM (c.13.take x_0.1) x_0.2.2.2)
abbrev zZC9 (y_7 : Nat × Int × Int × List Int) (c : Ctl) : List AV := zZC16 y_7 c
abbrev zZC21 (y_7 : Nat × Int × Int × List Int) : AV := .int .i64 y_7.2.1
abbrev zZC18 (n_6 : Int) (y_7 : Nat × Int × Int × List Int) : Prop := AV.int .i64 n_6 = AV.int .i64 (y_7.1 : Int)
abbrev zZC26 (y_7 : Nat × Int × Int × List Int) : AV := .str (tailM y_7.2.2.2)
abbrev zZC27 (xs_9 : List Int) : Prop := ∀ x_10 : Int, Membership.mem xs_9 x_10 → 0 ≤ x_10 ∧ x_10 ≤ 9223372036854775807
abbrev zZC6 (n_7 : Int) (xs_9 : List Int) : Prop := Lf ([AV.int .i64 n_7] = cellsI xs_9 ∧ 1 = xs_9.length ∧ xs_9.length ≤ 1000 ∧ ((0 : Int) ≤ (1 : Int) ∧ (1 : Int) ≤ (8 : Int)) ∧ zZC27 xs_9)
abbrev zZC19 (s_6 s_10 : List UInt8) : Bool := decide (s_6.length + s_10.length ≤ 9223372036854775807) && true
abbrev zZC10 (s_8 s_10 : List UInt8) : Bool := zZC19 s_8 s_10
abbrev zZC25 (n_5 : Int) (y_14 : Nat × Int × Int × List Int) (n_13 : Int) (s_11 : List UInt8) (n_4 : Int) : Prop := zZC17 ∧ AV.int .i64 n_5 = zZC21 y_14 ∧ zZC18 n_13 y_14 ∧ AV.str s_11 = AV.str (tailM y_14.2.2.2) ∧ AV.int .i64 n_4 = AV.int .i64 y_14.2.2.1 ∧ AV.sl 1 1 0 1 1 = AV.sl 1 y_14.1 0 y_14.1 1 ∧ True
abbrev zZC11 (xs_7 : List Int) : Prop := zZC27 xs_7
abbrev zZC1 (n_10 : Int) (xs_11 : List Int) : Prop := Lf ([AV.int .i64 n_10] = cellsI xs_11 ∧ 1 = xs_11.length ∧ xs_11.length ≤ 1000 ∧ ((0 : Int) ≤ (2 : Int) ∧ (2 : Int) ≤ (8 : Int)) ∧ zZC11 xs_11)
abbrev zZC8 (n_7 : Int) (c : Ctl) (n_5 n_4 : Int) : Prop := exS (.str []) (fun s_8 => exW .i64 (n_7 + 65536) (fun n_9 => exI .i64 (n_9.tmod 65536) (fun n_10 => ∃ xs_11 : List Int, zZC1 n_10 xs_11 ∧ exS (.str (putM 2 xs_11)) (fun s_12 => ckQ (zZC19 s_8 s_12) (exS (.str (s_8 ++ s_12)) (fun s_13 => exI .i64 0 (fun n_14 => exW .i64 (n_14 + 1) (fun n_15 => zZC15 ∧ (vc_55_2 c ∨ ∃ y_16 : Nat × Int × Int × List Int, zZC2 y_16 c ∧ zZC24 c y_16 < c.13.length ∧ zZC0 c ∧ [AV.int .i64 2] = zZC16 y_16 c ∧ zZC25 n_5 y_16 n_15 s_13 n_4)))))))))
abbrev zZC23 (n_4 : Int) : Bool := eqAVL [.int .i64 n_4] [.int .i64 n_4]
abbrev zZC20 (c : Ctl) : Bool := eqAVL [.int .i64 c.12] [.int .i64 c.12] && true
abbrev zZC22 (xs_7 : List Int) : Prop := 1 = xs_7.length ∧ xs_7.length ≤ 1000 ∧ ((0 : Int) ≤ (3 : Int) ∧ (3 : Int) ≤ (8 : Int)) ∧ zZC11 xs_7
abbrev zZC12 (x_0 : Nat × Int × Int × List Int) (c : Ctl) : Bool := Nat.beq (cellsI (sgsM (c.13.take x_0.1) x_0.2.2.2)).length x_0.1 && true && Nat.beq (0 + x_0.1 * 1) x_0.1 && Nat.ble (x_0.1 + 1) 1099511627776 && Nat.ble ((x_0.1 + 1) * 8) 1099511627776
abbrev zZC5 (x_0 : Nat × Int × Int × List Int) (c : Ctl) : Bool := zZC12 x_0 c
abbrev zZC13 (c : Ctl) (x_0 : Nat × Int × Int × List Int) : Prop := ∃ y_7 : Nat, Lf (y_7 = 0) ∧ c.13.length < zZC24 c x_0 ∧ vc_55_1 c
abbrev zZC14 (n_13 : Int) (y_14 : Nat × Int × Int × List Int) (s_11 : List UInt8) (n_4 : Int) (x_0 : Nat × Int × Int × List Int) : Prop := AV.int .i64 n_13 = AV.int .i64 (y_14.1 : Int) ∧ AV.str s_11 = zZC26 y_14 ∧ AV.int .i64 n_4 = AV.int .i64 y_14.2.2.1 ∧ AV.sl 1 (x_0.1 + 1) 0 (x_0.1 + 1) 1 = AV.sl 1 y_14.1 0 y_14.1 1 ∧ True
abbrev zZC7 (n_13 : Int) (y_14 : Nat × Int × Int × List Int) (s_11 : List UInt8) (n_4 : Int) (x_0 : Nat × Int × Int × List Int) : Prop := zZC14 n_13 y_14 s_11 n_4 x_0
abbrev zZC4 (x_0 : Nat × Int × Int × List Int) (c : Ctl) (n_7 n_5 n_4 : Int) : Prop := ckQ (zZC12 x_0 c) (exS (.str (tailM x_0.2.2.2)) (fun s_8 => exW .i64 (n_7 + 65536) (fun n_9 => exI .i64 (n_9.tmod 65536) (fun n_10 => ∃ xs_11 : List Int, zZC1 n_10 xs_11 ∧ exS (.str (putM 2 xs_11)) (fun s_12 => ckQ (zZC19 s_8 s_12) (exS (.str (s_8 ++ s_12)) (fun s_13 => exI .i64 (x_0.1 : Int) (fun n_14 => exW .i64 (n_14 + 1) (fun n_15 => zZC15 ∧ (zZC13 c x_0 ∨ ∃ y_16 : Nat × Int × Int × List Int, zZC2 y_16 c ∧ zZC24 c y_16 < zZC24 c x_0 ∧ zZC0 c ∧ zZC16 x_0 c ++ [AV.int .i64 2] = zZC16 y_16 c ∧ zZC17 ∧ AV.int .i64 n_5 = zZC21 y_16 ∧ zZC14 n_15 y_16 s_13 n_4 x_0))))))))))
abbrev zZC3 (x_0 : Nat × Int × Int × List Int) (c : Ctl) (n_5 n_4 : Int) : Prop := ckQ (zZC12 x_0 c) (exS (.str (tailM x_0.2.2.2)) (fun s_6 => exW .i64 (n_5 + 65536) (fun n_7 => exI .i64 (n_7.tmod 65536) (fun n_8 => ∃ xs_9 : List Int, zZC1 n_8 xs_9 ∧ exS (.str (putM 2 xs_9)) (fun s_10 => ckQ (zZC19 s_6 s_10) (exS (.str (s_6 ++ s_10)) (fun s_11 => exI .i64 (x_0.1 : Int) (fun n_12 => exW .i64 (n_12 + 1) (fun n_13 => zZC15 ∧ (zZC13 c x_0 ∨ ∃ y_14 : Nat × Int × Int × List Int, zZC2 y_14 c ∧ zZC24 c y_14 < zZC24 c x_0 ∧ zZC0 c ∧ zZC16 x_0 c ++ [AV.int .i64 2] = zZC16 y_14 c ∧ zZC17 ∧ zZC21 x_0 = zZC21 y_14 ∧ zZC14 n_13 y_14 s_11 n_4 x_0))))))))))
theorem vc_55 (c : Ctl) (ref : Int) (l : List Int) (Q : Out → List Blk → Gh → Prop) : goal_55 (lookV [(225297, .int .i64), (225305, .int .i64), (225314, .int .i64), (225316, .int .i64), (225319, .int .i64), (225333, .str), (225334, .str),
 (225340, .int .i64), (225341, .int .i64), (225343, .str), (225344, .str), (225347, .int .i64), (225355, .int .i64), (225349, .str), (225352, .str), (225353, .str), (225357, .str), (225358, .str), (225360, .int .i64), (225361, .int .i64),
 (225366, .int .i64), (225368, .int .i64), (225372, .int .i64), (225376, .int .i64), (225377, .int .i64), (225379, .int .i64), (225380, .int .i64), (225381, .int .i64), (225383, .int .i64), (225384, .int .i64), (225374, .int .i64), (225375,
 .int .i64), (225385, .str), (225386, .int .i64), (225388, .str), (225389, .str), (225370, .int .i64), (225371, .int .i64), (225390, .str), (225391, .str), (225392, .str), (225294, .int .i64), (225303, .int .i64), (225299, .int .i64),
 (225300, .int .i64), (225330, .str), (225338, .str)]) (lookB []) c ref l Q = (((∃ x_0 : Nat, Lf (x_0 = 0) ∧ zZC0 c ∧ zZC17 ∧ eqqQ (AV.int .i64 0) ∧ eqqQ (AV.int .i64 0) ∧ eqqQ (AV.str []) ∧ eqqQ (AV.int .i64 (-1)) ∧ AV.nils = AV.nils ∧
 True) ∨ ∃ x_0 : Nat × Int × Int × List Int, zZC2 x_0 c ∧ vc_55_1 c) ∧ (∀ x_0 : Nat, Lf (x_0 = 0) → exI .i64 0 (fun n_1 => exI .i64 (c.13.length : Int) (fun n_2 => bif decide (n_1 < n_2) then exI .i64 0 (fun n_3 => ckQ (decide (0 ≤ n_3) &&
 Nat.blt n_3.toNat c.13.length && true) (ckQ (Nat.blt (n_3.toNat * 1) (cellsI c.13).length) (exV .i64 ((cellsI c.13).getD (n_3.toNat * 1) AV.undef) (fun n_4 => bif decide (n_4 < 0) then exI .i64 0 (fun n_5 => exW .i64 (n_5 + 1) (fun n_6 =>
 zZC15 ∧ (vc_55_2 c ∨ ∃ y_7 : Nat × Int × Int × List Int, zZC2 y_7 c ∧ zZC24 c y_7 < c.13.length ∧ zZC0 c ∧ [AV.int .i64 0] = zZC9 y_7 c ∧ zZC17 ∧ AV.int .i64 0 = zZC21 y_7 ∧ zZC18 n_6 y_7 ∧ AV.str [] = zZC26 y_7 ∧ AV.int .i64 (-1) = AV.int
 .i64 y_7.2.2.1 ∧ AV.sl 1 1 0 1 1 = AV.sl 1 y_7.1 0 y_7.1 1 ∧ True))) else exW .i64 (n_4.tdiv 256) (fun n_5 => exW .i64 (n_5 * 256) (fun n_6 => exW .i64 (n_4 - n_6) (fun n_7 => bif decide (n_7 ≥ 0) then bif decide (n_7 ≤ 255) then exS (.str
 []) (fun s_8 => ∃ xs_9 : List Int, zZC6 n_7 xs_9 ∧ exS (.str (putM 1 xs_9)) (fun s_10 => ckQ (zZC10 s_8 s_10) (exS (.str (s_8 ++ s_10)) (fun s_11 => exI .i64 0 (fun n_12 => exW .i64 (n_12 + 1) (fun n_13 => zZC15 ∧ (vc_55_2 c ∨ ∃ y_14 : Nat
 × Int × Int × List Int, zZC2 y_14 c ∧ zZC24 c y_14 < c.13.length ∧ zZC0 c ∧ [AV.int .i64 1] = zZC9 y_14 c ∧ zZC25 n_5 y_14 n_13 s_11 n_4))))))) else zZC8 n_7 c n_5 n_4 else zZC8 n_7 c n_5 n_4))))))) else exI .i64 (c.13.length : Int) (fun
 n_3 => exI .i64 c.12 (fun n_4 => ∃ xs_5 : List Int, zZC1 n_3 xs_5 ∧ ckQ (zZC23 n_4) (ckQ (zZC20 c) (exS (.str (putM 2 xs_5)) (fun s_6 => ∃ xs_7 : List Int, Lf ([AV.int .i64 0] = cellsI xs_7 ∧ zZC22 xs_7) ∧ ckQ (zZC23 n_4) (ckQ (zZC20 c)
 (exS (.str (putM 3 xs_7)) (fun s_8 => ckQ (zZC10 s_6 s_8) (exS (.str (s_6 ++ s_8)) (fun s_9 => ∃ xs_10 : List Int, zZC6 n_4 xs_10 ∧ exS (.str (putM 1 xs_10)) (fun s_11 => ckQ (zZC10 s_9 s_11) (exS (.str (s_9 ++ s_11)) (fun s_12 => (∃ x_13
 : Nat × List AV × List AV × List AV, Lf (x_13.1 ≤ (7 - (Ctl.ti c).length % 7) % 7) ∧ vc_55_1 c) ∧ vc_55_3 c ref l Q)))))))))))))))) ∧ ∀ x_0 : Nat × Int × Int × List Int, zZC2 x_0 c → exI .i64 (x_0.1 : Int) (fun n_1 => exI .i64 (c.13.length
 : Int) (fun n_2 => bif decide (n_1 < n_2) then exI .i64 (x_0.1 : Int) (fun n_3 => ckQ (decide (0 ≤ n_3) && Nat.blt n_3.toNat c.13.length && true) (ckQ (Nat.blt (n_3.toNat * 1) (cellsI c.13).length) (exV .i64 ((cellsI c.13).getD (n_3.toNat
 * 1) AV.undef) (fun n_4 => bif decide (n_4 < 0) then ckQ (zZC5 x_0 c) (exI .i64 (x_0.1 : Int) (fun n_5 => exW .i64 (n_5 + 1) (fun n_6 => zZC15 ∧ (zZC13 c x_0 ∨ ∃ y_7 : Nat × Int × Int × List Int, zZC2 y_7 c ∧ zZC24 c y_7 < zZC24 c x_0 ∧
 zZC0 c ∧ zZC9 x_0 c ++ [AV.int .i64 0] = zZC9 y_7 c ∧ zZC17 ∧ zZC21 x_0 = zZC21 y_7 ∧ zZC18 n_6 y_7 ∧ zZC26 x_0 = zZC26 y_7 ∧ AV.int .i64 x_0.2.2.1 = AV.int .i64 y_7.2.2.1 ∧ AV.sl 1 (x_0.1 + 1) 0 (x_0.1 + 1) 1 = AV.sl 1 y_7.1 0 y_7.1 1 ∧
 True)))) else bif decide (x_0.2.2.1 < 0) then exW .i64 (n_4.tdiv 256) (fun n_5 => exW .i64 (n_5 * 256) (fun n_6 => exW .i64 (n_4 - n_6) (fun n_7 => bif decide (n_7 ≥ 0) then bif decide (n_7 ≤ 255) then ckQ (zZC5 x_0 c) (exS (.str (tailM
 x_0.2.2.2)) (fun s_8 => ∃ xs_9 : List Int, zZC6 n_7 xs_9 ∧ exS (.str (putM 1 xs_9)) (fun s_10 => ckQ (zZC10 s_8 s_10) (exS (.str (s_8 ++ s_10)) (fun s_11 => exI .i64 (x_0.1 : Int) (fun n_12 => exW .i64 (n_12 + 1) (fun n_13 => zZC15 ∧
 (zZC13 c x_0 ∨ ∃ y_14 : Nat × Int × Int × List Int, zZC2 y_14 c ∧ zZC24 c y_14 < zZC24 c x_0 ∧ zZC0 c ∧ zZC9 x_0 c ++ [AV.int .i64 1] = zZC9 y_14 c ∧ zZC17 ∧ AV.int .i64 n_5 = zZC21 y_14 ∧ zZC7 n_13 y_14 s_11 n_4 x_0)))))))) else zZC4 x_0
 c n_7 n_5 n_4 else zZC4 x_0 c n_7 n_5 n_4))) else exW .i64 (n_4 - x_0.2.2.1) (fun n_5 => bif decide (n_5 ≥ 0) then bif decide (n_5 ≤ 255) then ckQ (zZC5 x_0 c) (exS (.str (tailM x_0.2.2.2)) (fun s_6 => ∃ xs_7 : List Int, zZC6 n_5 xs_7 ∧
 exS (.str (putM 1 xs_7)) (fun s_8 => ckQ (zZC10 s_6 s_8) (exS (.str (s_6 ++ s_8)) (fun s_9 => exI .i64 (x_0.1 : Int) (fun n_10 => exW .i64 (n_10 + 1) (fun n_11 => zZC15 ∧ (zZC13 c x_0 ∨ ∃ y_12 : Nat × Int × Int × List Int, zZC2 y_12 c ∧
 zZC24 c y_12 < zZC24 c x_0 ∧ zZC0 c ∧ zZC9 x_0 c ++ [AV.int .i64 1] = zZC9 y_12 c ∧ zZC17 ∧ zZC21 x_0 = zZC21 y_12 ∧ zZC7 n_11 y_12 s_9 n_4 x_0)))))))) else zZC3 x_0 c n_5 n_4 else zZC3 x_0 c n_5 n_4))))) else exI .i64 (c.13.length : Int)
 (fun n_3 => exI .i64 c.12 (fun n_4 => ∃ xs_5 : List Int, zZC1 n_3 xs_5 ∧ ckQ (zZC23 n_4) (ckQ (zZC20 c) (ckQ (eqAVL [.int .i64 x_0.2.1] [.int .i64 x_0.2.1]) (exS (.str (putM 2 xs_5)) (fun s_6 => ∃ xs_7 : List Int, Lf ([zZC21 x_0] = cellsI
 xs_7 ∧ zZC22 xs_7) ∧ ckQ (zZC23 n_4) (ckQ (zZC20 c) (exS (.str (putM 3 xs_7)) (fun s_8 => ckQ (zZC10 s_6 s_8) (exS (.str (s_6 ++ s_8)) (fun s_9 => ∃ xs_10 : List Int, zZC6 n_4 xs_10 ∧ exS (.str (putM 1 xs_10)) (fun s_11 => ckQ (zZC10 s_9
 s_11) (exS (.str (s_9 ++ s_11)) (fun s_12 => (∃ x_13 : Nat × List AV × List AV × List AV, Lf (x_13.1 ≤ (7 - (Ctl.ti c).length % 7) % 7) ∧ zZC0 c ∧ zZC9 x_0 c = cellsI (padSM (sgsM c.13 l) x_13.1) ∧ [AV.int .i64 n_3] = x_13.2.1 ∧ [zZC21
 x_0] = x_13.2.2.1 ∧ [AV.int .i64 n_4] = x_13.2.2.2 ∧ zZC26 x_0 = AV.str (tailM l) ∧ AV.sl 1 x_0.1 0 x_0.1 1 = AV.sl 1 (c.13.length + x_13.1) 0 (c.13.length + x_13.1) 1 ∧ AV.str s_12 = AV.str (hdrM c.13 ref c.12) ∧ True) ∧ vc_55_3 c ref l
 Q))))))))))))))))) := by kernel_rfl


theorem cnt_snoc (ts : List Int) (t : Int) : cntM (ts ++ [t]) = cntM ts + (if t = -1 then 0 else 1) := by
 unfold cntM
 rw [List.filter_append, List.length_append]
 by_cases h : t = -1
 ·rw [if_pos h, List.filter_cons_of_neg (by simp [h])]; rfl
 ·rw [if_neg h, List.filter_cons_of_pos (by simpa using h)]; rfl
theorem take_snoc2 {xs : List Int} {i : Nat} (h : i < xs.length) : xs.take (i + 1) = xs.take i ++ [xs.getD i 0] := take_snoc1 h
theorem dropG {xs : List Int} {i : Nat} (h : i < xs.length) : xs.drop i = xs.getD i 0 :: xs.drop (i + 1) := by
 rw [List.getD_eq_getElem?_getD, List.getElem?_eq_getElem h, List.drop_eq_getElem_cons h]; rfl
theorem seen_go {xs : List Int} {ref : Int} {l : List Int} (hst : stepsM xs = some (ref, l)) {i : Nat} {R la : Int} {acc : List Int} (h : seenM xs i R la acc) (hi : i < xs.length) :
  (xs.getD i 0 = -1 ∧ seenM xs (i + 1) R la acc) ∨ (0 ≤ xs.getD i 0 ∧ xs.getD i 0 < 4294967296 ∧ ((la = -1 ∧ acc = [] ∧ seenM xs (i + 1) (xs.getD i 0 / 256) (xs.getD i 0) (acc ++ [xs.getD i 0 % 256])) ∨ (0 ≤ la ∧ la < 4294967296 ∧ -32768 ≤ xs.getD i 0 - la ∧ xs.getD i 0 - la < 32768 ∧ seenM xs (i + 1) R (xs.getD i 0) (acc ++ [xs.getD i 0 - la])))) := by
 obtain ⟨f, b, h1, h2, h3, h4⟩ := h
 have hc := cnt_snoc (xs.take i) (xs.getD i 0)
 rw [← take_snoc2 hi] at hc
 rw [dropG hi, stepsGoM] at h1
 by_cases e1 : xs.getD i 0 = -1
 ·rw [if_pos e1] at h1 hc
  exact .inl ⟨e1, f, b, h1, by omega, h3, h4⟩
 ·rw [if_neg e1] at h1 hc
  by_cases e2 : xs.getD i 0 < 0 ∨ 4294967296 ≤ xs.getD i 0
  ·rw [if_pos e2, hst] at h1; cases h1
  ·rw [if_neg e2] at h1
   refine .inr ⟨by omega, by omega, ?_⟩
   cases f with
   | true =>
    obtain ⟨a1, a2, a3⟩ := h3 rfl
    rw [if_pos rfl] at h1
    exact .inl ⟨a1, a3, false, xs.getD i 0, h1, by rw [List.length_append, List.length_singleton]; omega, fun h => (by cases h), fun _ => ⟨rfl, by omega, by omega, by omega, by omega⟩⟩
   | false =>
    obtain ⟨rfl, a2, a3, a4, a5⟩ := h4 rfl
    rw [if_neg (by simp)] at h1
    by_cases e3 : xs.getD i 0 - la < -32768 ∨ 32768 ≤ xs.getD i 0 - la
    ·rw [if_pos e3, hst] at h1; cases h1
    ·rw [if_neg e3] at h1
     exact .inr ⟨a2, a3, by omega, by omega, false, xs.getD i 0, h1, by rw [List.length_append, List.length_singleton]; omega, fun h => (by cases h), fun _ => ⟨rfl, by omega, by omega, a4, a5⟩⟩
theorem seen_zero (xs : List Int) : seenM xs 0 0 (-1) [] := ⟨true, 0, rfl, rfl, fun _ => ⟨rfl, rfl, rfl⟩, fun h => (by cases h)⟩
theorem seen_end {xs : List Int} {ref : Int} {l : List Int} (hst : stepsM xs = some (ref, l)) {R la : Int} {acc : List Int} (h : seenM xs xs.length R la acc) : R = ref ∧ acc = l := by
 obtain ⟨f, b, h1, _⟩ := h
 rw [List.drop_length, stepsGoM, hst] at h1
 simp only [Option.some.injEq, Prod.mk.injEq] at h1
 exact ⟨h1.1.symm, h1.2.symm⟩
theorem sgs_snoc : ∀ (ts acc : List Int), cntM ts = acc.length → (∀ e, sgsM (ts ++ [-1]) (acc ++ e) = sgsM ts acc ++ [0]) ∧ ∀ t d, t ≠ -1 → sgsM (ts ++ [t]) (acc ++ [d]) = sgsM ts acc ++ [sgnM d]
 | [], acc, h => by
  have h0 : acc = [] := List.eq_nil_of_length_eq_zero (by rw [← h]; rfl)
  subst h0
  refine ⟨fun e => by simp [sgsM], fun t d ht => by simp [sgsM, ht]⟩
 | x :: ts, acc, h => by
  by_cases hx : x = -1
  ·subst hx
   have hc : cntM ts = acc.length := h
   obtain ⟨k1, k2⟩ := sgs_snoc ts acc hc
   refine ⟨fun e => ?_, fun t d ht => ?_⟩
   ·rw [List.cons_append, sgsM, if_pos rfl, k1, sgsM, if_pos rfl]; rfl
   ·rw [List.cons_append, sgsM, if_pos rfl, k2 t d ht, sgsM, if_pos rfl]; rfl
  ·have hc : cntM ts + 1 = acc.length := by
    rw [← h, cntM, cntM, List.filter_cons_of_pos (by simpa using hx)]; rfl
   cases acc with
   | nil => simp at hc
   | cons a acc =>
    obtain ⟨k1, k2⟩ := sgs_snoc ts acc (by simpa using hc)
    refine ⟨fun e => ?_, fun t d ht => ?_⟩
    ·rw [List.cons_append, sgsM, if_neg hx, sgsM, if_neg hx]
     simp only [List.cons_append, List.getD_cons_zero, List.drop_succ_cons, List.drop_zero, k1]
    ·rw [List.cons_append, sgsM, if_neg hx, sgsM, if_neg hx]
     simp only [List.cons_append, List.getD_cons_zero, List.drop_succ_cons, List.drop_zero, k2 t d ht]
theorem tail_snoc (acc : List Int) (d : Int) : tailM (acc ++ [d]) = tailM acc ++ putM (sgnM d).toNat [d] := by simp [tailM]
theorem be_mod2 (n : Int) : beM ((n + 65536) % 65536) 2 = beM n 2 := by
 have e : ∀ i : Nat, i < 2 → octM ((n + 65536) % 65536) i = octM n i := fun i hi => by
  unfold octM
  rcases (show i = 0 ∨ i = 1 by omega) with rfl | rfl <;> congr 2 <;> omega
 simp only [beM, e 0 (by omega), e 1 (by omega)]
theorem wdg_bd {S : List Int} (hS : ∀ i, 0 ≤ S.getD i 0 ∧ S.getD i 0 ≤ 2) (j : Nat) : ∀ k : Nat, 0 ≤ wdgM S j k ∧ wdgM S j k < 4 ^ (k + 1)
 | 0 => by simp [wdgM]
 | k + 1 => by
  have h := wdg_bd hS j k
  have h2 := hS (7 * j + k)
  rw [wdgM, Int.pow_succ]
  omega
theorem wdg_seven (S : List Int) (j : Nat) : bitsM S (7 * (j + 1)) = bitsM S (7 * j) ++ putM 2 [wdgM S j 7] := by
 have c0 : ∀ j, curM S (7 * j) = 0 := fun j => by
  cases j with
  | zero => rfl
  | succ j => rw [show 7 * (j + 1) = 7 * j + 6 + 1 by omega, curM, if_pos (by omega)]
 have c1 : curM S (7 * j + 1) = S.getD (7 * j) 0 := by rw [curM, if_neg (by omega), c0]; omega
 have c2 : curM S (7 * j + 2) = 4 * S.getD (7 * j) 0 + S.getD (7 * j + 1) 0 := by rw [curM, if_neg (by omega), c1]
 have c3 : curM S (7 * j + 3) = 4 * curM S (7 * j + 2) + S.getD (7 * j + 2) 0 := by rw [curM, if_neg (by omega)]
 have c4 : curM S (7 * j + 4) = 4 * curM S (7 * j + 3) + S.getD (7 * j + 3) 0 := by rw [curM, if_neg (by omega)]
 have c5 : curM S (7 * j + 5) = 4 * curM S (7 * j + 4) + S.getD (7 * j + 4) 0 := by rw [curM, if_neg (by omega)]
 have c6 : curM S (7 * j + 6) = 4 * curM S (7 * j + 5) + S.getD (7 * j + 5) 0 := by rw [curM, if_neg (by omega)]
 have b1 : bitsM S (7 * j + 6) = bitsM S (7 * j) := by
  rw [bitsM, if_neg (by omega), bitsM, if_neg (by omega), bitsM, if_neg (by omega), bitsM, if_neg (by omega), bitsM, if_neg (by omega), bitsM, if_neg (by omega)]
 rw [show 7 * (j + 1) = 7 * j + 6 + 1 by omega, bitsM, if_pos (by omega), b1]
 congr 3
 rw [c6, c5, c4, c3, c2]
 simp only [wdgM, Nat.add_zero]
 omega
theorem pad_getD (S : List Int) (m i : Nat) : (padSM S m).getD i 0 = S.getD i 0 := by
 unfold padSM
 rw [List.getD_eq_getElem?_getD, List.getD_eq_getElem?_getD]
 by_cases h : i < S.length
 ·rw [List.getElem?_append_left h]
 ·rw [List.getElem?_append_right (by omega), List.getElem?_eq_none (l := S) (by omega), List.getElem?_replicate]
  split <;> rfl
theorem pad_len7 (S : List Int) (m : Nat) : (padSM S m).length = S.length + m := by simp [padSM]
theorem pad_snoc (S : List Int) (m : Nat) : padSM S (m + 1) = padSM S m ++ [0] := by
 rw [padSM, padSM, List.replicate_succ', List.append_assoc]
theorem ldG {xs : List Int} {i : Nat} (hi : i < xs.length) {K : Int → Prop} (hk : K (xs.getD i 0)) {j : Nat} (hj : j = i) :
  ∃ n : Int, (List.take 1 (List.drop j (cellsI xs))).getD 0 AV.undef = AV.int .i64 n ∧ K n := by
 refine ldI (off := 0) (xs := xs) (by rw [List.drop_zero, List.take_of_length_le (by simp [cellsI_len])]) hi ?_ (by omega)
 rwa [List.getD_eq_getElem?_getD, List.getElem?_eq_getElem hi] at hk
theorem rest55 (c : Ctl) (ref : Int) (l : List Int) (hn : 1 ≤ c.ti.length ∧ c.ti.length ≤ 64) (hst : stepsM c.ti = some (ref, l)) (Q : Out → List Blk → Gh → Prop) (hq : Q (.ret (.str (arrM c.ti c.ro))) [] {}) : vc_55_3 c ref l Q := by
 unfold vc_55_3
 have hsl := sgs_len c.ti l
 have hS := sgs_le c.ti l
 have hcl := cnt_len c.ti
 have hll := steps_len hst
 have htl := tail_len l
 have hhl := hdr_len c.ti ref c.ro
 have hbl := fun i => bits_len (sgsM c.ti l) i
 rintro ⟨m, X1, X2, X3⟩ ⟨hm⟩
 dsimp only at hm ⊢
 refine ckI (by simp [cellsI_len, pad_len7, hsl]) ⟨_, rfl, _, rfl, splitNE (fun h => ?_) (fun h => ?_)⟩
 ·refine ckI (by simp [cellsI_len, pad_len7, hsl]; omega) ⟨⟨trivial, rfl⟩, (m + 1, X1, X2, X3), ⟨?_⟩, by dsimp only; omega, rfl, ?_, rfl, rfl, rfl, rfl, rfl, rfl, trivial⟩
  ·rw [Int.tmod_eq_emod_of_nonneg (by omega)] at h; dsimp only; omega
  ·dsimp only; rw [pad_snoc]; simp [cellsI]
 ·obtain rfl : m = (7 - c.ti.length % 7) % 7 := by
   rw [Int.tmod_eq_emod_of_nonneg (by omega)] at h; omega
  refine ⟨⟨0, ⟨by omega⟩, rfl, rfl, rfl, rfl, rfl, rfl, rfl, rfl, by simp [bitsM], trivial⟩, ?_⟩
  rintro j ⟨hj⟩
  have hj7 : (7 * (j : Int) / 7).toNat = j := by omega
  rw [hj7]
  refine ⟨_, rfl, ckI (by simp [cellsI_len, pad_len7, hsl]) ⟨_, rfl, splitD (fun hlt => ?_) (fun hge => ?_)⟩⟩
  ·refine ⟨⟨0, ⟨by omega⟩, rfl, rfl, rfl, rfl, rfl, rfl, rfl, rfl, rfl, rfl, rfl, trivial⟩, ?_⟩
   rintro k ⟨hk⟩
   have hw := wdg_bd hS j k
   have hp4 : (4 : Int) ^ (k + 1) ≤ 65536 := by
    rcases (show k = 0 ∨ k = 1 ∨ k = 2 ∨ k = 3 ∨ k = 4 ∨ k = 5 ∨ k = 6 ∨ k = 7 by omega) with rfl | rfl | rfl | rfl | rfl | rfl | rfl | rfl <;> decide
   refine ⟨_, rfl, splitD (fun hlt => ?_) (fun hge => ?_)⟩
   ·have hd := hS (7 * j + k)
    refine ⟨_, rfl, wrapI (by omega) (by omega) ⟨_, rfl, _, rfl, wrapI (by omega) (by omega) (ckI (by simp [cellsI_len, pad_len7, hsl]; omega) ?_)⟩⟩
    refine ckI (by simp [cellsI_len, pad_len7, hsl]; omega) (ldG (i := 7 * j + k) (by rw [pad_len7]; omega) ?_ (by omega))
    rw [pad_getD]
    exact wrapI (by omega) (by omega) ⟨_, rfl, wrapI (by omega) (by omega) ⟨⟨trivial, rfl⟩, k + 1, ⟨by omega⟩, by omega, rfl, rfl, rfl, rfl, rfl, rfl, rfl, by simp, by rw [wdgM], rfl, rfl, trivial⟩⟩
   ·obtain rfl : k = 7 := by omega
    have hb7 := hbl (7 * j)
    refine ⟨_, rfl, _, rfl, [wdgM (sgsM c.ti l) j 7], ⟨rfl, rfl, by simp, by omega, by simp only [List.mem_singleton, forall_eq]; omega⟩, _, rfl, ckI (by simp [put_len]; omega) ⟨_, rfl, _, rfl, wrapI (by omega) (by omega) ⟨⟨trivial, rfl⟩, j + 1, ⟨by omega⟩, by omega, rfl, rfl, rfl, rfl, rfl, ?_, rfl, rfl, ?_, trivial⟩⟩⟩
    ·congr 1
    ·rw [wdg_seven, List.append_assoc]
  ·have hb7 := hbl (7 * j)
   refine ⟨_, rfl, _, rfl, ckI (by simp; omega) ⟨_, rfl, ?_⟩⟩
   rw [arrM, hst] at hq
   rwa [show (c.ti.length + 6) / 7 * 7 = 7 * j by omega] at hq
theorem arr55_run (c : Ctl) (ref : Int) (l : List Int) (hn : 1 ≤ c.ti.length ∧ c.ti.length ≤ 64) (hst : stepsM c.ti = some (ref, l)) (hro : 0 ≤ c.ro ∧ c.ro < 256) (Q : Out → List Blk → Gh → Prop) (hq : Q (.ret (.str (arrM c.ti c.ro))) [] {}) : ∃ hv hb, goal_55 hv hb c ref l Q := by
 obtain ⟨hv, hb', e⟩ : ∃ hv hb, goal_55 hv hb c ref l Q = _ := ⟨_, _, vc_55 c ref l Q⟩
 refine ⟨hv, hb', e.mpr ?_⟩
 delta zZC0 zZC17 zZC2 zZC15 zZC24 zZC16 zZC9 zZC21 zZC18 zZC26 zZC27 zZC6 zZC19 zZC10 zZC25 zZC11 zZC1 zZC8 zZC23 zZC20 zZC22 zZC12 zZC5 zZC13 zZC14 zZC7 zZC4 zZC3
 clear e
 have hrest := rest55 c ref l hn hst Q hq
 have hhl := hdr_len c.ti ref c.ro
 have hcl := cnt_len c.ti
 have hll := steps_len hst
 have tn : ∀ (i : Nat) (acc : List Int), i < c.ti.length → cntM (c.ti.take i) = acc.length → c.ti.getD i 0 = -1 → sgsM (c.ti.take (i + 1)) acc = sgsM (c.ti.take i) acc ++ [0] := fun i acc hi hc e => by
  rw [take_snoc2 hi, e]
  have := (sgs_snoc _ _ hc).1 []
  rwa [List.append_nil] at this
 have ts : ∀ (i : Nat) (acc : List Int) (d : Int), i < c.ti.length → cntM (c.ti.take i) = acc.length → c.ti.getD i 0 ≠ -1 → sgsM (c.ti.take (i + 1)) (acc ++ [d]) = sgsM (c.ti.take i) acc ++ [sgnM d] := fun i acc d hi hc e => by
  rw [take_snoc2 hi]
  exact (sgs_snoc _ _ hc).2 _ _ e
 refine ⟨.inl ⟨0, ⟨rfl⟩, rfl, rfl, rfl, rfl, rfl, rfl, rfl, trivial⟩, ?_, ?_⟩
 ·rintro _ ⟨rfl⟩
  refine ⟨_, rfl, _, rfl, splitD (fun hlt => ?_) (fun hge => absurd (by omega) hge)⟩
  refine ⟨_, rfl, ckI (by simp; omega) (ckI (by simp [cellsI_len]; omega) (getI (i := 0) (by omega) (by simp) ?_))⟩
  have hg := seen_go hst (seen_zero c.ti) (i := 0) (by omega)
  have tn0 := tn 0 [] (by omega) rfl
  have ts0 := fun d => ts 0 [] d (by omega) rfl
  generalize c.ti.getD 0 0 = x at hg tn0 ts0 ⊢
  rcases hg with ⟨e, hs⟩ | ⟨a1, a2, ⟨b1, b2, hs⟩ | ⟨b1, _⟩⟩
  ·refine splitD (fun _ => ⟨_, rfl, wrapI (by omega) (by omega) ⟨⟨trivial, rfl⟩, .inr ⟨(1, 0, -1, []), ⟨by simp, hn.1, hs⟩, by dsimp only; omega, rfl, ?_, rfl, rfl, rfl, rfl, rfl, rfl, trivial⟩⟩⟩) (fun h => absurd (by omega) h)
   rw [tn0 e]; rfl
  ·have h256 : x.tdiv 256 = x / 256 := Int.tdiv_eq_ediv_of_nonneg a1
   have hsg : sgnM (x % 256) = 1 := if_pos (by omega)
   have hd : x - x / 256 * 256 = x % 256 := by omega
   refine splitD (fun h => absurd h (by omega)) (fun _ => ?_)
   rw [h256]
   refine wrapI (by omega) (by omega) (wrapI (by omega) (by omega) (wrapI (by omega) (by omega) ?_))
   rw [hd]
   refine splitD (fun _ => splitD (fun _ => ?_) (fun h => absurd (by omega) h)) (fun h => absurd (by omega) h)
   refine ⟨_, rfl, [x % 256], ⟨rfl, rfl, by simp, by omega, by simp only [List.mem_singleton, forall_eq]; omega⟩, _, rfl, ckI (by simp [put_len]) ⟨_, rfl, _, rfl, wrapI (by omega) (by omega) ⟨⟨trivial, rfl⟩, .inr ⟨(1, x / 256, x, [x % 256]), ⟨by simp, hn.1, hs⟩, by dsimp only; omega, rfl, ?_, rfl, rfl, rfl, ?_, rfl, rfl, trivial⟩⟩⟩⟩
   ·have := ts0 (x % 256) (by omega)
    rw [List.nil_append] at this
    dsimp only
    rw [this, hsg]; rfl
   ·simp [tailM, hsg]
  ·omega
 ·rintro ⟨i, R, la, acc⟩ ⟨g1, g2, g3⟩
  dsimp only at g1 g2 g3 ⊢
  refine ⟨_, rfl, _, rfl, splitD (fun hlt => ?_) (fun hge => ?_)⟩
  ·have hsl : (cellsI (sgsM (c.ti.take i) acc)).length = i := by rw [cellsI_len, sgs_len, List.length_take]; omega
   refine ⟨_, rfl, ckI (by simp; omega) (ckI (by simp [cellsI_len]; omega) (getI (i := i) (by omega) (by simp) ?_))⟩
   have hca : cntM (c.ti.take i) = acc.length := g3.choose_spec.choose_spec.2.1
   have hg := seen_go hst g3 (by omega)
   have tn0 := tn i acc (by omega) hca
   have ts0 := fun d => ts i acc d (by omega) hca
   have htl := tail_len acc
   have hcle := cnt_le (xs := c.ti) i
   generalize c.ti.getD i 0 = x at hg tn0 ts0 ⊢
   have hck : (((((cellsI (sgsM (c.ti.take i) acc)).length.beq i && true) && (0 + i * 1).beq i) && (i + 1).ble 1099511627776) && ((i + 1) * 8).ble 1099511627776) = true := by
    rw [hsl]; simp; omega
   rcases hg with ⟨e, hs⟩ | ⟨a1, a2, ⟨b1, b2, hs⟩ | ⟨b1, b2, b3, b4, hs⟩⟩
   ·refine splitD (fun _ => ckI hck ⟨_, rfl, wrapI (by omega) (by omega) ⟨⟨trivial, rfl⟩, .inr ⟨(i + 1, R, la, acc), ⟨by dsimp only; omega, by dsimp only; omega, hs⟩, by dsimp only; omega, rfl, ?_, rfl, rfl, rfl, rfl, rfl, rfl, trivial⟩⟩⟩) (fun h => absurd (by omega) h)
    dsimp only
    rw [tn0 e]; simp [cellsI]
   ·have h256 : x.tdiv 256 = x / 256 := Int.tdiv_eq_ediv_of_nonneg a1
    have hsg : sgnM (x % 256) = 1 := if_pos (by omega)
    have hd : x - x / 256 * 256 = x % 256 := by omega
    refine splitD (fun h => absurd h (by omega)) (fun _ => splitD (fun _ => ?_) (fun h => absurd (by omega) h))
    rw [h256]
    refine wrapI (by omega) (by omega) (wrapI (by omega) (by omega) (wrapI (by omega) (by omega) ?_))
    rw [hd]
    refine splitD (fun _ => splitD (fun _ => ?_) (fun h => absurd (by omega) h)) (fun h => absurd (by omega) h)
    refine ckI hck ⟨_, rfl, [x % 256], ⟨rfl, rfl, by simp, by omega, by simp only [List.mem_singleton, forall_eq]; omega⟩, _, rfl, ckI (by simp [put_len]; omega) ⟨_, rfl, _, rfl, wrapI (by omega) (by omega) ⟨⟨trivial, rfl⟩, .inr ⟨(i + 1, x / 256, x, acc ++ [x % 256]), ⟨by dsimp only; omega, by dsimp only; omega, hs⟩, by dsimp only; omega, rfl, ?_, rfl, rfl, rfl, ?_, rfl, rfl, trivial⟩⟩⟩⟩
    ·dsimp only
     rw [ts0 _ (by omega), hsg]; simp [cellsI]
    ·dsimp only
     rw [tail_snoc, hsg]; rfl
   ·refine splitD (fun h => absurd h (by omega)) (fun _ => splitD (fun h => absurd h (by omega)) (fun _ => wrapI (by omega) (by omega) ?_))
    have hm : (x - la + 65536).tmod 65536 = (x - la + 65536) % 65536 := Int.tmod_eq_emod_of_nonneg (by omega)
    refine splitD (fun h1 => splitD (fun h2 => ?_) (fun h2 => ?_)) (fun h1 => ?_)
    ·have hsg : sgnM (x - la) = 1 := if_pos (by omega)
     refine ckI hck ⟨_, rfl, [x - la], ⟨rfl, rfl, by simp, by omega, by simp only [List.mem_singleton, forall_eq]; omega⟩, _, rfl, ckI (by simp [put_len]; omega) ⟨_, rfl, _, rfl, wrapI (by omega) (by omega) ⟨⟨trivial, rfl⟩, .inr ⟨(i + 1, R, x, acc ++ [x - la]), ⟨by dsimp only; omega, by dsimp only; omega, hs⟩, by dsimp only; omega, rfl, ?_, rfl, rfl, rfl, ?_, rfl, rfl, trivial⟩⟩⟩⟩
     ·dsimp only
      rw [ts0 _ (by omega), hsg]; simp [cellsI]
     ·dsimp only
      rw [tail_snoc, hsg]; rfl
    all_goals
     have hsg : sgnM (x - la) = 2 := if_neg (by omega)
     refine ckI hck ⟨_, rfl, wrapI (by omega) (by omega) ⟨_, rfl, [(x - la + 65536).tmod 65536], ⟨rfl, rfl, by simp, by omega, by simp only [List.mem_singleton, forall_eq]; omega⟩, _, rfl, ckI (by simp [put_len]; omega) ⟨_, rfl, _, rfl, wrapI (by omega) (by omega) ⟨⟨trivial, rfl⟩, .inr ⟨(i + 1, R, x, acc ++ [x - la]), ⟨by dsimp only; omega, by dsimp only; omega, hs⟩, by dsimp only; omega, rfl, ?_, rfl, rfl, rfl, ?_, rfl, rfl, trivial⟩⟩⟩⟩⟩
     ·dsimp only
      rw [ts0 _ (by omega), hsg]; simp [cellsI]
     ·dsimp only
      rw [tail_snoc, hsg, show (2 : Int).toNat = 2 from rfl]
      simp only [putM, hm, be_mod2]
  ·have hi : i = c.ti.length := by omega
   subst hi
   have hR : 0 ≤ R ∧ R < 16777216 := by
    obtain ⟨f, b, _, _, k3, k4⟩ := g3
    cases f with
    | true => have := k3 rfl; omega
    | false => have := k4 rfl; omega
   obtain ⟨rfl, rfl⟩ := seen_end hst g3
   rw [List.take_length]
   refine ⟨_, rfl, _, rfl, [(c.ti.length : Int)], ⟨rfl, rfl, by simp, by omega, by simp only [List.mem_singleton, forall_eq]; omega⟩, ?_⟩
   repeat (first | refine ckE ?_ | refine ckF ?_)
   refine ⟨_, rfl, [R], ⟨rfl, rfl, by simp, by omega, by simp only [List.mem_singleton, forall_eq]; omega⟩, ?_⟩
   repeat (first | refine ckE ?_ | refine ckF ?_)
   refine ⟨_, rfl, ckI (by simp [put_len]) ⟨_, rfl, [c.ro], ⟨rfl, rfl, by simp, by omega, by simp only [List.mem_singleton, forall_eq]; omega⟩, _, rfl, ckI (by simp [put_len]) ⟨_, rfl, ⟨(0, _, _, _), ⟨Nat.zero_le _⟩, rfl, ?_, rfl, rfl, rfl, rfl, rfl, rfl, trivial⟩, hrest⟩⟩⟩
   simp [padSM]
def cArr55 : Con
 | [.agg cs], H, K => ∃ (c : Ctl), Lf (cs = ctC c ∧ (1 ≤ c.ti.length ∧ c.ti.length ≤ 64) ∧ (stepsRM c.ti).2.2 = true ∧ 0 ≤ c.ro ∧ c.ro < 256) ∧ K (.ret (.str (arrM c.ti c.ro))) H
 | _, _, _ => False
theorem arr55_ok : ValidF Tryd.prog glC 55 cArr55 := by
 refine valid_flat (enters_of (by kernel_rfl)) glC_noY fun args H Q hc => ?_
 unfold cArr55 at hc
 split at hc
 ·rename_i cs
  obtain ⟨c, ⟨rfl, hn, hst, hro⟩, hq⟩ := hc
  obtain ⟨ref, l, h1, h2, h3⟩ := stepsR_some hst
  obtain ⟨hv, hb', h⟩ := arr55_run c ref l hn h1 hro (fun o H' _ => H' = [] ∧ (∃ v, o = .ret v ∧ old 0 v = true ∧ noY v = true) ∧ Q o H) ⟨rfl, ⟨_, rfl, rfl, rfl⟩, hq⟩
  exact ⟨rfl, rfl, _, 1000, ⟨mixed24, names24, tabA_ok, sm54_ok⟩, rfl, h⟩
 ·exact hc.elim
end Go.Proofs.YtafchcmemeinlaaDoor
