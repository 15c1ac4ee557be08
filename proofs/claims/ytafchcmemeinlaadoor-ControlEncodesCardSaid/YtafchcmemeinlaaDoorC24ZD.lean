/-
  Chapter 24, the reference: a packet as octets.
-/
import Derived.Test.YtafchcmemeinlaaDoorC24ZC
import Derived.Test.YtafchcmemeinlaaDoorC24P
import Derived.Test.YtafchcmemeinlaaDoorC24QP
set_option linter.unusedSimpArgs false
set_option linter.unusedVariables false
set_option linter.unusedSectionVars false
namespace Go.Proofs.YtafchcmemeinlaaDoor
open Go.RowKit
set_option maxRecDepth 1000000

def sm35 : SM := lookS [(53, cOctsV), (54, cRecvV), (21, cPairsV), (55, cArr55)]
theorem sm35_ok : ∀ f g, sm35 f = some g → ValidF Tryd.prog glC f g := lookS_ok _ (by simp only [List.mem_cons, List.not_mem_nil, or_false, forall_eq_or_imp, forall_eq]; exact ⟨octs_ok, recv_ok, ref21_ok, arr55_ok⟩)
def inv_35a (c : Ctl) (s : S) : List (List LInv) := [[
 { α := Nat, pre := fun i => Lf (i ≤ (pairsM c.lo).length), st := fun i => ⟨mkT [(3, .int .i64 1), (4, .int .i64 205), (5, .str (putM 4 [c.f, c.a] ++ prsBM ((pairsM c.lo).take i))), (6, .lst 0 (cellsPM (pairsM c.lo)) (pairsM c.lo).length 2), (7, .int .i64 (i : Nat))], s.hp⟩, mu := fun i => (pairsM c.lo).length - i }]]
def inv_35b (c : Ctl) (s : S) : List (List LInv) := [[
 { α := Int × Int × List UInt8, pre := fun x => Lf (oneBM x.1 x.2.1 (padM x.2.2) = oneM c ∧ x.2.2.length ≤ 456 ∧ (0 ≤ x.1 ∧ x.1 ≤ 31) ∧ 0 ≤ x.2.1 ∧ x.2.1 ≤ 255), st := fun x => ⟨mkT [(3, .int .i64 x.1), (4, .int .i64 x.2.1), (5, .str x.2.2)], s.hp⟩, mu := fun x => (4 - x.2.2.length % 4) % 4 }]]
noncomputable def env_35 (hv : Nat → Option Pa) (hb : Nat → Option Bool) (c : Ctl) : Env := { e24 sm35 (fun i => bif Nat.beq i 35001 then some (inv_35a c) else bif Nat.beq i 35003 then some (inv_35b c) else none) hv hb with hz := fun k => [143424, 143432, 143463, 143470, 143476, 143481].any (Nat.beq k) }
noncomputable def goal_35 (hv : Nat → Option Pa) (hb : Nat → Option Bool) (c : Ctl) (Q : Out → List Blk → Gh → Prop) : Prop :=
 callx (env_35 hv hb c) (wpx (env_35 hv hb c) 1000) 35 [.agg (ctC c)] [] {} Q
def vc_35_1 (c : Ctl) (Q : Out → List Blk → Gh → Prop) : Prop :=
∀ x_0 : Int × Int × List UInt8, Lf (oneBM x_0.1 x_0.2.1 (padM x_0.2.2) = oneM c ∧ x_0.2.2.length ≤ 456 ∧ (0 ≤ x_0.1 ∧ x_0.1 ≤ 31) ∧ 0 ≤ x_0.2.1 ∧ x_0.2.1 ≤ 255) → exI .i64 (x_0.2.2.length : Int) fun n_1 => exI .i64 (n_1.tmod 4) fun n_2 =>
 bif n_2 != 0 then ∃ xs_3 : List Int, Lf ([AV.int .i64 0] = cellsI xs_3 ∧ 1 = xs_3.length ∧ xs_3.length ≤ 1000 ∧ ((0 : Int) ≤ (1 : Int) ∧ (1 : Int) ≤ (8 : Int)) ∧ ∀ x_4 : Int, Membership.mem xs_3 x_4 → 0 ≤ x_4 ∧ x_4 ≤ 9223372036854775807) ∧
 exS (.str (putM 1 xs_3)) fun s_4 => ckQ (decide (x_0.2.2.length + s_4.length ≤ 9223372036854775807) && true) (exS (.str (x_0.2.2 ++ s_4)) fun s_5 => (True ∧ (0 : Nat) = (0 : Nat)) ∧ ∃ y_6 : Int × Int × List UInt8, Lf (oneBM y_6.1 y_6.2.1
 (padM y_6.2.2) = oneM c ∧ y_6.2.2.length ≤ 456 ∧ (0 ≤ y_6.1 ∧ y_6.1 ≤ 31) ∧ 0 ≤ y_6.2.1 ∧ y_6.2.1 ≤ 255) ∧ (4 - y_6.2.2.length % 4) % 4 < (4 - x_0.2.2.length % 4) % 4 ∧ eqqQ [AV.int .i64 c.1, .int .i64 c.2, .int .i64 c.3, .int .i64 c.4,
 .int .i64 c.5, .int .i64 c.6, .int .i64 c.7, .int .i64 c.8, .lst 0 (cellsRM c.9) c.9.length 7, .lst 0 (cellsI c.10) c.10.length 1, .int .i64 c.11, .int .i64 c.12, .lst 0 (cellsI c.13) c.13.length 1] ∧ AV.int .i64 x_0.1 = AV.int .i64 y_6.1
 ∧ AV.str s_5 = AV.str y_6.2.2 ∧ AV.int .i64 x_0.2.1 = AV.int .i64 y_6.2.1 ∧ True) else exW .i64 (128 + x_0.1) fun n_3 => ∃ xs_4 : List Int, Lf ([AV.int .i64 n_3, .int .i64 x_0.2.1] = cellsI xs_4 ∧ 2 = xs_4.length ∧ xs_4.length ≤ 1000 ∧ ((0
 : Int) ≤ (1 : Int) ∧ (1 : Int) ≤ (8 : Int)) ∧ ∀ x_5 : Int, Membership.mem xs_4 x_5 → 0 ≤ x_5 ∧ x_5 ≤ 9223372036854775807) ∧ exS (.str (putM 1 xs_4)) fun s_5 => exI .i64 (x_0.2.2.length : Int) fun n_6 => exW .i64 (n_6.tdiv 4) fun n_7 => ∃
 xs_8 : List Int, Lf ([AV.int .i64 n_7] = cellsI xs_8 ∧ 1 = xs_8.length ∧ xs_8.length ≤ 1000 ∧ ((0 : Int) ≤ (2 : Int) ∧ (2 : Int) ≤ (8 : Int)) ∧ ∀ x_9 : Int, Membership.mem xs_8 x_9 → 0 ≤ x_9 ∧ x_9 ≤ 9223372036854775807) ∧ exS (.str (putM 2
 xs_8)) fun s_9 => ckQ (decide (s_5.length + s_9.length ≤ 9223372036854775807) && true) (exS (.str (s_5 ++ s_9)) fun s_10 => ckQ (decide (s_10.length + x_0.2.2.length ≤ 9223372036854775807) && true) (exS (.str (s_10 ++ x_0.2.2)) fun s_11 =>
 Q (.ret (.str s_11)) [] {}))
abbrev zZD16 (n_2 n_3 n_4 n_5 n_6 n_7 : Int) : List AV := [.int .i64 n_2, .int .i64 n_3, .int .i64 n_4, .int .i64 n_5, .int .i64 n_6, .int .i64 n_7]
abbrev zZD9 (xs_17 : List Int) : Prop := ∀ x_18 : Int, Membership.mem xs_17 x_18 → 0 ≤ x_18 ∧ x_18 ≤ 9223372036854775807
abbrev zZD3 (xs_8 : List Int) : Prop := zZD9 xs_8
abbrev zZD5 (xs_8 : List Int) : Prop := xs_8.length ≤ 1000 ∧ ((0 : Int) ≤ (4 : Int) ∧ (4 : Int) ≤ (8 : Int)) ∧ zZD3 xs_8
abbrev zZD10 (c : Ctl) : AV := .lst 0 (cellsRM c.9) c.9.length 7
abbrev zZD15 (c : Ctl) (rs_10 : List Rc) : Prop := Lf (cellsRM c.9 = cellsRM rs_10 ∧ c.9.length = rs_10.length ∧ rs_10.length ≤ 1000 ∧ List.all rs_10 rcOkM = true)
abbrev zZD6 (s_9 s_11 : List UInt8) : Bool := decide (s_9.length + s_11.length ≤ 9223372036854775807) && true
abbrev zZD2 (x_13 : Int × Int × List UInt8) (c : Ctl) : Prop := Lf (oneBM x_13.1 x_13.2.1 (padM x_13.2.2) = oneM c ∧ x_13.2.2.length ≤ 456 ∧ (0 ≤ x_13.1 ∧ x_13.1 ≤ 31) ∧ 0 ≤ x_13.2.1 ∧ x_13.2.1 ≤ 255)
abbrev zZD0 (c : Ctl) : List AV := [.int .i64 c.1, .int .i64 c.2, .int .i64 c.3, .int .i64 c.4, .int .i64 c.5, .int .i64 c.6, .int .i64 c.7, .int .i64 c.8, zZD10 c, .lst 0 (cellsI c.10) c.10.length 1, .int .i64 c.11, .int .i64 c.12, .lst 0 (cellsI c.13) c.13.length 1]
abbrev zZD20 : Prop := (0 : Int) ≤ (1 : Int) ∧ (1 : Int) ≤ (8 : Int)
abbrev zZD7 (xs_16 : List Int) : Prop := Lf ([AV.int .i64 0] = cellsI xs_16 ∧ 1 = xs_16.length ∧ xs_16.length ≤ 1000 ∧ zZD20 ∧ zZD3 xs_16)
abbrev zZD11 : Prop := True ∧ (0 : Nat) = (0 : Nat)
abbrev zZD17 (y_19 : Int × Int × List UInt8) : Nat := (4 - y_19.2.2.length % 4) % 4
abbrev zZD8 (x_13 y_19 : Int × Int × List UInt8) (s_18 : List UInt8) : Prop := AV.int .i64 x_13.1 = AV.int .i64 y_19.1 ∧ AV.str s_18 = AV.str y_19.2.2 ∧ AV.int .i64 x_13.2.1 = AV.int .i64 y_19.2.1 ∧ True
abbrev zZD12 : Prop := (0 : Int) ≤ (2 : Int) ∧ (2 : Int) ≤ (8 : Int)
abbrev zZD1 (x_13 : Int × Int × List UInt8) (Q : Out → List Blk → Gh → Prop) : Prop := exW .i64 (128 + x_13.1) (fun n_16 => ∃ xs_17 : List Int, Lf ([AV.int .i64 n_16, .int .i64 x_13.2.1] = cellsI xs_17 ∧ 2 = xs_17.length ∧ xs_17.length ≤ 1000 ∧ zZD20 ∧ zZD9 xs_17) ∧ exS (.str (putM 1 xs_17)) (fun s_18 => exI .i64 (x_13.2.2.length : Int) (fun n_19 => exW .i64 (n_19.tdiv 4) (fun n_20 => ∃ xs_21 : List Int, Lf ([AV.int .i64 n_20] = cellsI xs_21 ∧ 1 = xs_21.length ∧ xs_21.length ≤ 1000 ∧ zZD12 ∧ zZD9 xs_21) ∧ exS (.str (putM 2 xs_21)) (fun s_22 => ckQ (zZD6 s_18 s_22) (exS (.str (s_18 ++ s_22)) (fun s_23 => ckQ (decide (s_23.length + x_13.2.2.length ≤ 9223372036854775807) && true) (exS (.str (s_23 ++ x_13.2.2)) (fun s_24 => Q (.ret (.str s_24)) [] {})))))))))
abbrev zZD13 (n_1 n_2 : Int) (xs_3 : List Int) : Prop := Lf ([AV.int .i64 n_1, .int .i64 n_2] = cellsI xs_3 ∧ 2 = xs_3.length ∧ zZD5 xs_3)
abbrev zZD14 (c : Ctl) (x_6 : Nat) : List UInt8 := putM 4 [c.2, c.3] ++ prsBM ((pairsM c.10).take x_6)
abbrev zZD19 (c : Ctl) : List AV := cellsPM (pairsM c.10)
abbrev zZD18 (c : Ctl) : Nat := (pairsM c.10).length
abbrev zZD4 (c : Ctl) : List AV := [.int .i64 c.1, .int .i64 c.2, .int .i64 c.3, .int .i64 c.4, .int .i64 c.5, .int .i64 c.6, .int .i64 c.7, .int .i64 c.8, zZD10 c, .lst 0 (cellsI c.10) c.10.length 1, .int .i64 c.11, .int .i64 c.12, .lst 0 (cellsI c.13) c.13.length 1]
theorem vc_35 (c : Ctl) (Q : Out → List Blk → Gh → Prop) : goal_35 (lookV [(143369, .int .i64), (143388, .int .i64), (143390, .int .i64), (143392, .int .i64), (143394, .int .i64), (143396, .int .i64), (143398, .int .i64), (143400, .int
 .i64), (143402, .str), (143405, .str), (143406, .str), (143466, .int .i64), (143467, .int .i64), (143471, .str), (143472, .str), (143474, .int .i64), (143477, .str), (143479, .int .i64), (143480, .int .i64), (143482, .str), (143483, .str),
 (143485, .str), (143411, .int .i64), (143413, .int .i64), (143415, .str), (143418, .str), (143419, .str), (143423, .int .i64), (143425, .str), (143429, .int .i64), (143431, .int .i64), (143433, .str), (143437, .int .i64), (143439, .int
 .i64), (143443, .str), (143445, .int .i64), (143448, .int .i64), (143450, .int .i64), (143453, .int .i64), (143455, .str), (143456, .str), (143441, .int .i64), (143442, .int .i64), (143460, .int .i64), (143462, .int .i64), (143464, .str),
 (143371, .int .i64), (143373, .int .i64), (143377, .int .i64), (143375, .str), (143379, .str), (143380, .str), (143382, .str), (143383, .str)]) (lookB []) c Q = (exI .i64 c.1 (fun n_0 => bif n_0 == 1 then exI .i64 (c.9.length : Int) (fun
 n_1 => exI .i64 c.2 (fun n_2 => exI .i64 c.4 (fun n_3 => exI .i64 c.5 (fun n_4 => exI .i64 c.6 (fun n_5 => exI .i64 c.7 (fun n_6 => exI .i64 c.8 (fun n_7 => ∃ xs_8 : List Int, Lf (zZD16 n_2 n_3 n_4 n_5 n_6 n_7 = cellsI xs_8 ∧ 6 =
 xs_8.length ∧ zZD5 xs_8) ∧ ckQ (eqAVL [zZD10 c] [zZD10 c] && true) (exS (.str (putM 4 xs_8)) (fun s_9 => ∃ rs_10 : List Rc, zZD15 c rs_10 ∧ exS (.str (rcsBM rs_10)) (fun s_11 => ckQ (zZD6 s_9 s_11) (exS (.str (s_9 ++ s_11)) (fun s_12 => (∃
 x_13 : Int × Int × List UInt8, zZD2 x_13 c ∧ eqqQ (zZD0 c) ∧ eqqQ (zZD16 n_2 n_3 n_4 n_5 n_6 n_7) ∧ AV.int .i64 n_1 = AV.int .i64 x_13.1 ∧ AV.str s_12 = AV.str x_13.2.2 ∧ AV.int .i64 200 = AV.int .i64 x_13.2.1 ∧ True) ∧ ∀ x_13 : Int × Int
 × List UInt8, zZD2 x_13 c → exI .i64 (x_13.2.2.length : Int) (fun n_14 => exI .i64 (n_14.tmod 4) (fun n_15 => bif n_15 != 0 then ∃ xs_16 : List Int, zZD7 xs_16 ∧ exS (.str (putM 1 xs_16)) (fun s_17 => ckQ (decide (x_13.2.2.length +
 s_17.length ≤ 9223372036854775807) && true) (exS (.str (x_13.2.2 ++ s_17)) (fun s_18 => zZD11 ∧ ∃ y_19 : Int × Int × List UInt8, zZD2 y_19 c ∧ zZD17 y_19 < zZD17 x_13 ∧ eqqQ (zZD0 c) ∧ eqqQ (zZD16 n_2 n_3 n_4 n_5 n_6 n_7) ∧ zZD8 x_13 y_19
 s_18))) else zZD1 x_13 Q)))))))))))))) else bif n_0 == 2 then exI .i64 (c.9.length : Int) (fun n_1 => exI .i64 c.2 (fun n_2 => ∃ xs_3 : List Int, Lf ([AV.int .i64 n_2] = cellsI xs_3 ∧ 1 = xs_3.length ∧ zZD5 xs_3) ∧ ckQ (eqAVL [zZD10 c]
 [zZD10 c] && true) (exS (.str (putM 4 xs_3)) (fun s_4 => ∃ rs_5 : List Rc, zZD15 c rs_5 ∧ exS (.str (rcsBM rs_5)) (fun s_6 => ckQ (zZD6 s_4 s_6) (exS (.str (s_4 ++ s_6)) (fun s_7 => (∃ x_8 : Int × Int × List UInt8, zZD2 x_8 c ∧ eqqQ (zZD0
 c) ∧ eqqQ [AV.int .i64 n_2] ∧ AV.int .i64 n_1 = AV.int .i64 x_8.1 ∧ AV.str s_7 = AV.str x_8.2.2 ∧ AV.int .i64 201 = AV.int .i64 x_8.2.1 ∧ True) ∧ ∀ x_8 : Int × Int × List UInt8, zZD2 x_8 c → exI .i64 (x_8.2.2.length : Int) (fun n_9 => exI
 .i64 (n_9.tmod 4) (fun n_10 => bif n_10 != 0 then ∃ xs_11 : List Int, zZD7 xs_11 ∧ exS (.str (putM 1 xs_11)) (fun s_12 => ckQ (decide (x_8.2.2.length + s_12.length ≤ 9223372036854775807) && true) (exS (.str (x_8.2.2 ++ s_12)) (fun s_13 =>
 zZD11 ∧ ∃ y_14 : Int × Int × List UInt8, zZD2 y_14 c ∧ zZD17 y_14 < zZD17 x_8 ∧ eqqQ (zZD0 c) ∧ eqqQ [AV.int .i64 n_2] ∧ zZD8 x_8 y_14 s_13))) else zZD1 x_8 Q))))))))) else bif n_0 == 3 then exI .i64 c.2 (fun n_1 => ∃ xs_2 : List Int, Lf
 ([AV.int .i64 n_1] = cellsI xs_2 ∧ 1 = xs_2.length ∧ zZD5 xs_2) ∧ exS (.str (putM 4 xs_2)) (fun s_3 => (∃ x_4 : Int × Int × List UInt8, zZD2 x_4 c ∧ eqqQ (zZD0 c) ∧ AV.int .i64 1 = AV.int .i64 x_4.1 ∧ AV.str s_3 = AV.str x_4.2.2 ∧ AV.int
 .i64 203 = AV.int .i64 x_4.2.1 ∧ True) ∧ vc_35_1 c Q)) else bif n_0 == 4 then exI .i64 c.2 (fun n_1 => exI .i64 c.3 (fun n_2 => ∃ xs_3 : List Int, zZD13 n_1 n_2 xs_3 ∧ exS (.str (putM 4 xs_3)) (fun s_4 => ∃ xs_5 : List Int, Lf (cellsI c.10
 = cellsI xs_5 ∧ c.10.length = xs_5.length ∧ nacksM xs_5 = true) ∧ (∃ x_6 : Nat, Lf (x_6 ≤ (pairsM (Ctl.lo c)).length) ∧ eqqQ (zZD0 c) ∧ eqqQ (AV.int .i64 1) ∧ AV.int .i64 0 = AV.int .i64 (x_6 : Int) ∧ AV.str s_4 = AV.str (zZD14 c x_6) ∧
 eqqQ (AV.int .i64 205) ∧ AV.lst 0 (cellsPM (pairsM xs_5)) (pairsM xs_5).length 2 = AV.lst 0 (zZD19 c) (zZD18 c) 2 ∧ True) ∧ ∀ x_6 : Nat, Lf (x_6 ≤ (pairsM (Ctl.lo c)).length) → exI .i64 (x_6 : Int) (fun n_7 => exI .i64 (zZD18 c : Int) (fun
 n_8 => bif decide (n_7 < n_8) then exS (.str (zZD14 c x_6)) (fun s_9 => exI .i64 (x_6 : Int) (fun n_10 => ckQ (decide (0 ≤ n_10) && Nat.blt n_10.toNat (zZD18 c) && true) (ckQ (Nat.blt (n_10.toNat * 2 + 0) (zZD19 c).length) (exV .i64
 ((zZD19 c).getD (n_10.toNat * 2 + 0) AV.undef) (fun n_11 => exI .i64 (x_6 : Int) (fun n_12 => ckQ (decide (0 ≤ n_12) && Nat.blt n_12.toNat (zZD18 c) && true) (ckQ (Nat.blt (n_12.toNat * 2 + 1) (zZD19 c).length) (exV .i64 ((zZD19 c).getD
 (n_12.toNat * 2 + 1) AV.undef) (fun n_13 => ∃ xs_14 : List Int, Lf ([AV.int .i64 n_11, .int .i64 n_13] = cellsI xs_14 ∧ 2 = xs_14.length ∧ xs_14.length ≤ 1000 ∧ zZD12 ∧ zZD3 xs_14) ∧ exS (.str (putM 2 xs_14)) (fun s_15 => ckQ (zZD6 s_9
 s_15) (exS (.str (s_9 ++ s_15)) (fun s_16 => exI .i64 (x_6 : Int) (fun n_17 => exW .i64 (n_17 + 1) (fun n_18 => zZD11 ∧ ∃ y_19 : Nat, Lf (y_19 ≤ (pairsM (Ctl.lo c)).length) ∧ zZD18 c - y_19 < zZD18 c - x_6 ∧ eqqQ (zZD0 c) ∧ eqqQ (AV.int
 .i64 1) ∧ AV.int .i64 n_18 = AV.int .i64 (y_19 : Int) ∧ AV.str s_16 = AV.str (zZD14 c y_19) ∧ eqqQ (AV.int .i64 205) ∧ eqqQ (AV.lst 0 (zZD19 c) (zZD18 c) 2) ∧ True)))))))))))))) else (∃ x_9 : Int × Int × List UInt8, zZD2 x_9 c ∧ eqqQ (zZD0
 c) ∧ AV.int .i64 1 = AV.int .i64 x_9.1 ∧ AV.str (zZD14 c x_6) = AV.str x_9.2.2 ∧ AV.int .i64 205 = AV.int .i64 x_9.2.1 ∧ True) ∧ vc_35_1 c Q))))) else bif n_0 == 5 then exI .i64 c.2 (fun n_1 => exI .i64 c.3 (fun n_2 => ∃ xs_3 : List Int,
 zZD13 n_1 n_2 xs_3 ∧ exS (.str (putM 4 xs_3)) (fun s_4 => (∃ x_5 : Int × Int × List UInt8, zZD2 x_5 c ∧ eqqQ (zZD0 c) ∧ AV.int .i64 1 = AV.int .i64 x_5.1 ∧ AV.str s_4 = AV.str x_5.2.2 ∧ AV.int .i64 206 = AV.int .i64 x_5.2.1 ∧ True) ∧
 vc_35_1 c Q))) else exI .i64 c.2 (fun n_1 => exI .i64 c.3 (fun n_2 => exI .i64 c.11 (fun n_3 => ∃ xs_4 : List Int, zZD13 n_1 n_2 xs_4 ∧ ckQ (eqAVL (zZD4 c) (zZD4 c) && true) (ckQ (eqAVL [.int .i64 n_3] [.int .i64 n_3]) (ckQ (eqAVL [.int
 .i64 c.11] [.int .i64 c.11] && true) (exS (.str (putM 4 xs_4)) (fun s_5 => ∃ xs_6 : List Int, Lf ([AV.int .i64 n_3] = cellsI xs_6 ∧ 1 = xs_6.length ∧ xs_6.length ≤ 1000 ∧ zZD12 ∧ zZD3 xs_6) ∧ ckQ (eqAVL (zZD4 c) (zZD4 c) && true) (exS
 (.str (putM 2 xs_6)) (fun s_7 => ckQ (zZD6 s_5 s_7) (exS (.str (s_5 ++ s_7)) (fun s_8 => ∃ c_9 : Ctl, Lf (zZD0 c = zZD0 c_9 ∧ (1 ≤ (Ctl.ti c_9).length ∧ (Ctl.ti c_9).length ≤ 64) ∧ (stepsRM (Ctl.ti c_9)).2.2 = true ∧ 0 ≤ Ctl.ro c_9 ∧
 Ctl.ro c_9 < 256) ∧ exS (.str (arrM c_9.13 c_9.12)) (fun s_10 => ckQ (zZD6 s_8 s_10) (exS (.str (s_8 ++ s_10)) (fun s_11 => (∃ x_12 : Int × Int × List UInt8, zZD2 x_12 c ∧ eqqQ (zZD0 c) ∧ eqqQ [AV.int .i64 n_1, .int .i64 n_2] ∧ eqqQ
 [AV.int .i64 n_3] ∧ AV.int .i64 15 = AV.int .i64 x_12.1 ∧ AV.str s_11 = AV.str x_12.2.2 ∧ AV.int .i64 205 = AV.int .i64 x_12.2.1 ∧ True) ∧ ∀ x_12 : Int × Int × List UInt8, zZD2 x_12 c → exI .i64 (x_12.2.2.length : Int) (fun n_13 => exI
 .i64 (n_13.tmod 4) (fun n_14 => bif n_14 != 0 then ∃ xs_15 : List Int, zZD7 xs_15 ∧ exS (.str (putM 1 xs_15)) (fun s_16 => ckQ (decide (x_12.2.2.length + s_16.length ≤ 9223372036854775807) && true) (exS (.str (x_12.2.2 ++ s_16)) (fun s_17
 => zZD11 ∧ ∃ y_18 : Int × Int × List UInt8, zZD2 y_18 c ∧ zZD17 y_18 < zZD17 x_12 ∧ eqqQ (zZD0 c) ∧ eqqQ [AV.int .i64 n_1, .int .i64 n_2] ∧ eqqQ [AV.int .i64 n_3] ∧ zZD8 x_12 y_18 s_17))) else zZD1 x_12 Q)))))))))))))))))) := by kernel_rfl

theorem padM_id {b : List UInt8} (h : b.length % 4 = 0) : padM b = b := by
 unfold padM; rw [h]; simp
theorem pad_one {b : List UInt8} (h : b.length % 4 ≠ 0) : padM (b ++ putM 1 [0]) = padM b := by
 have hl : (b ++ putM 1 [0]).length = b.length + 1 := by simp [put_len]
 have e : putM 1 [0] = [(0 : UInt8)] := by decide
 unfold padM
 rw [hl, e, List.append_assoc, show (4 - b.length % 4) % 4 = (4 - (b.length + 1) % 4) % 4 + 1 by omega, List.replicate_succ]
 rfl
theorem put_cons (k : Nat) (x : Int) (l : List Int) : putM k (x :: l) = putM k [x] ++ putM k l := by simp [putM]
theorem prs_app (a b : List (Int × Int)) : prsBM (a ++ b) = prsBM a ++ prsBM b := by simp [prsBM]
theorem rcsOk_all {rs : List Rc} (h : rcsOkM rs = true) : rs.all rcOkM = true := by
 unfold rcsOkM at h
 rw [Bool.and_eq_true] at h
 exact h.2
theorem pairs_take {ps : List (Int × Int)} {i : Nat} (h : i < ps.length) : ps.getD i (0, 0) ∈ ps ∧ prsBM (ps.take (i + 1)) = prsBM (ps.take i) ++ putM 2 [(ps.getD i (0, 0)).1, (ps.getD i (0, 0)).2] := by
 rw [List.getD_eq_getElem?_getD, List.getElem?_eq_getElem h]
 refine ⟨List.getElem_mem _, ?_⟩
 have e : ps.take (i + 1) = ps.take i ++ [ps[i]] := by rw [List.take_add_one, List.getElem?_eq_getElem h]; rfl
 rw [e, prs_app]
 simp [prsBM]
theorem getP1 {ps : List (Int × Int)} {i j : Nat} (hi : i < ps.length) (hj : j = 2 * i + 1) {K : Int → Prop} (hk : K (sndM ps i)) : ∃ n : Int, (cellsPM ps).getD j AV.undef = AV.int .i64 n ∧ K n := by
 refine ⟨_, ?_, hk⟩
 rw [hj, List.getD_eq_getElem?_getD, (cellsPM_get ps i hi).2]
 rfl
theorem one_run (c : Ctl) (hva : validM c = true) (Q : Out → List Blk → Gh → Prop) (hq : Q (.ret (.str (oneM c))) [] {}) : ∃ hv hb, goal_35 hv hb c Q := by
 obtain ⟨hv, hb', e⟩ : ∃ hv hb, goal_35 hv hb c Q = _ := ⟨_, _, vc_35 c Q⟩
 refine ⟨hv, hb', e.mpr ?_⟩
 delta zZD16 zZD9 zZD3 zZD5 zZD10 zZD15 zZD6 zZD2 zZD0 zZD20 zZD7 zZD11 zZD17 zZD8 zZD12 zZD1 zZD13 zZD14 zZD19 zZD18 zZD4
 clear e
 have hbl := body_len hva
 have hwd : vc_35_1 c Q := by
  unfold vc_35_1
  rintro ⟨n, k, b⟩ ⟨g1, g2, g3, g4⟩
  dsimp only at g1 g2 g3 g4 ⊢
  refine ⟨_, rfl, _, rfl, splitNE (fun h => ?_) (fun h => ?_)⟩
  ·have h4 : b.length % 4 ≠ 0 := fun h0 => h (by rw [Int.tmod_eq_emod_of_nonneg (by omega)]; omega)
   refine ⟨[0], ⟨rfl, rfl, by simp, by omega, by simp⟩, _, rfl, ckI (by simp [put_len]; omega) ⟨_, rfl, ⟨trivial, rfl⟩, (n, k, b ++ putM 1 [0]), ⟨by dsimp only; rw [pad_one h4]; exact g1, by simp [put_len]; omega, g3, g4⟩, by simp [put_len]; omega, ?_⟩⟩
   repeat (first | exact trivial | refine ⟨rfl, ?_⟩)
  ·have h4 : b.length % 4 = 0 := by rw [Int.tmod_eq_emod_of_nonneg (by omega)] at h; omega
   have ht : ((b.length : Nat) : Int).tdiv 4 = ((b.length / 4 : Nat) : Int) := by rw [Int.tdiv_eq_ediv_of_nonneg (by omega)]; omega
   refine wrapI (by omega) (by omega) ⟨[128 + n, k], ⟨rfl, rfl, by simp, by omega, by simp only [List.mem_cons, List.not_mem_nil, or_false, forall_eq_or_imp, forall_eq]; omega⟩, _, rfl, _, rfl, wrapI (by rw [ht]; omega) (by rw [ht]; omega) ⟨[((b.length : Nat) : Int).tdiv 4], ⟨rfl, rfl, by simp, by omega, by simp only [List.mem_singleton, forall_eq]; rw [ht]; omega⟩, _, rfl, ckI (by simp [put_len]) ⟨_, rfl, ckI (by simp [put_len]; omega) ⟨_, rfl, ?_⟩⟩⟩⟩
   rw [padM_id h4] at g1
   rw [← g1] at hq
   rw [ht]
   exact hq
 have v2 := (valid_iff c).1 hva
 rcases valid_cases hva with ⟨f, s1, s2, s3, s4, s5, rs, rfl, hrs⟩ | ⟨f, rs, rfl, hrs⟩ | ⟨f, rfl⟩ | ⟨f, a, lo, rfl, hlo⟩ | ⟨f, a, rfl⟩ | ⟨f, a, ba, ro, ti, rfl, hti⟩
 ·dsimp only at v2 hbl ⊢
  obtain ⟨_, hf, ha, hs1, hs2, hs3, hs4, hs5, hba, hro, _, _, _, _, _, _, h8, _⟩ := v2
  have hR : bodyM ⟨1, f, 0, s1, s2, s3, s4, s5, rs, [], 0, 0, []⟩ = putM 4 [f, s1, s2, s3, s4, s5] ++ rcsBM rs := by
   rw [put_cons]; simp [bodyM, prsBM, pairsM]
  rw [hR] at hbl
  refine ⟨_, rfl, splitE (fun _ => ?_) (fun h => absurd rfl h)⟩
  refine ⟨_, rfl, _, rfl, _, rfl, _, rfl, _, rfl, _, rfl, _, rfl, [f, s1, s2, s3, s4, s5], ⟨rfl, rfl, by simp, by omega, by simp only [List.mem_cons, List.not_mem_nil, or_false, forall_eq_or_imp, forall_eq]; omega⟩, ckF ⟨_, rfl, rs, ⟨rfl, rfl, by omega, rcsOk_all h8⟩, _, rfl, ckI (by simp [put_len, rcs_blen]; omega) ⟨_, rfl, ⟨((rs.length : Nat), 200, _), ⟨by dsimp only; rw [oneM, hR]; rfl, by dsimp only; omega, by dsimp only; omega, by dsimp only; omega⟩, rfl, rfl, rfl, rfl, rfl, trivial⟩, ?_⟩⟩⟩
  rintro ⟨n, k, b⟩ ⟨g1, g2, g3, g4⟩
  dsimp only at g1 g2 g3 g4 ⊢
  refine ⟨_, rfl, _, rfl, splitNE (fun h => ?_) (fun h => ?_)⟩
  ·have h4 : b.length % 4 ≠ 0 := fun h0 => h (by rw [Int.tmod_eq_emod_of_nonneg (by omega)]; omega)
   refine ⟨[0], ⟨rfl, rfl, by simp, by omega, by simp⟩, _, rfl, ckI (by simp [put_len]; omega) ⟨_, rfl, ⟨trivial, rfl⟩, (n, k, b ++ putM 1 [0]), ⟨by dsimp only; rw [pad_one h4]; exact g1, by simp [put_len]; omega, g3, g4⟩, by simp [put_len]; omega, ?_⟩⟩
   repeat (first | exact trivial | refine ⟨rfl, ?_⟩)
  ·have h4 : b.length % 4 = 0 := by rw [Int.tmod_eq_emod_of_nonneg (by omega)] at h; omega
   have ht : ((b.length : Nat) : Int).tdiv 4 = ((b.length / 4 : Nat) : Int) := by rw [Int.tdiv_eq_ediv_of_nonneg (by omega)]; omega
   refine wrapI (by omega) (by omega) ⟨[128 + n, k], ⟨rfl, rfl, by simp, by omega, by simp only [List.mem_cons, List.not_mem_nil, or_false, forall_eq_or_imp, forall_eq]; omega⟩, _, rfl, _, rfl, wrapI (by rw [ht]; omega) (by rw [ht]; omega) ⟨[((b.length : Nat) : Int).tdiv 4], ⟨rfl, rfl, by simp, by omega, by simp only [List.mem_singleton, forall_eq]; rw [ht]; omega⟩, _, rfl, ckI (by simp [put_len]) ⟨_, rfl, ckI (by simp [put_len]; omega) ⟨_, rfl, ?_⟩⟩⟩⟩
   rw [padM_id h4] at g1
   rw [← g1] at hq
   rw [ht]
   exact hq
 ·dsimp only at v2 hbl ⊢
  obtain ⟨_, hf, ha, hs1, hs2, hs3, hs4, hs5, hba, hro, _, _, _, _, _, _, h8, _⟩ := v2
  have hR : bodyM ⟨2, f, 0, 0, 0, 0, 0, 0, rs, [], 0, 0, []⟩ = putM 4 [f] ++ rcsBM rs := by
   simp [bodyM, prsBM, pairsM]
  rw [hR] at hbl
  refine ⟨_, rfl, splitE (fun h => absurd h (by omega)) (fun _ => splitE (fun _ => ?_) (fun h => absurd rfl h))⟩
  refine ⟨_, rfl, _, rfl, [f], ⟨rfl, rfl, by simp, by omega, by simp only [List.mem_singleton, forall_eq]; omega⟩, ckF ⟨_, rfl, rs, ⟨rfl, rfl, by omega, rcsOk_all h8⟩, _, rfl, ckI (by simp [put_len, rcs_blen]; omega) ⟨_, rfl, ⟨((rs.length : Nat), 201, _), ⟨by dsimp only; rw [oneM, hR]; rfl, by dsimp only; omega, by dsimp only; omega, by dsimp only; omega⟩, rfl, rfl, rfl, rfl, rfl, trivial⟩, ?_⟩⟩⟩
  rintro ⟨n, k, b⟩ ⟨g1, g2, g3, g4⟩
  dsimp only at g1 g2 g3 g4 ⊢
  refine ⟨_, rfl, _, rfl, splitNE (fun h => ?_) (fun h => ?_)⟩
  ·have h4 : b.length % 4 ≠ 0 := fun h0 => h (by rw [Int.tmod_eq_emod_of_nonneg (by omega)]; omega)
   refine ⟨[0], ⟨rfl, rfl, by simp, by omega, by simp⟩, _, rfl, ckI (by simp [put_len]; omega) ⟨_, rfl, ⟨trivial, rfl⟩, (n, k, b ++ putM 1 [0]), ⟨by dsimp only; rw [pad_one h4]; exact g1, by simp [put_len]; omega, g3, g4⟩, by simp [put_len]; omega, ?_⟩⟩
   repeat (first | exact trivial | refine ⟨rfl, ?_⟩)
  ·have h4 : b.length % 4 = 0 := by rw [Int.tmod_eq_emod_of_nonneg (by omega)] at h; omega
   have ht : ((b.length : Nat) : Int).tdiv 4 = ((b.length / 4 : Nat) : Int) := by rw [Int.tdiv_eq_ediv_of_nonneg (by omega)]; omega
   refine wrapI (by omega) (by omega) ⟨[128 + n, k], ⟨rfl, rfl, by simp, by omega, by simp only [List.mem_cons, List.not_mem_nil, or_false, forall_eq_or_imp, forall_eq]; omega⟩, _, rfl, _, rfl, wrapI (by rw [ht]; omega) (by rw [ht]; omega) ⟨[((b.length : Nat) : Int).tdiv 4], ⟨rfl, rfl, by simp, by omega, by simp only [List.mem_singleton, forall_eq]; rw [ht]; omega⟩, _, rfl, ckI (by simp [put_len]) ⟨_, rfl, ckI (by simp [put_len]; omega) ⟨_, rfl, ?_⟩⟩⟩⟩
   rw [padM_id h4] at g1
   rw [← g1] at hq
   rw [ht]
   exact hq
 ·dsimp only at v2 hbl ⊢
  obtain ⟨_, hf, _⟩ := v2
  have hR : bodyM ⟨3, f, 0, 0, 0, 0, 0, 0, [], [], 0, 0, []⟩ = putM 4 [f] := by
   simp [bodyM, prsBM, pairsM, rcsBM]
  rw [hR] at hbl
  refine ⟨_, rfl, splitE (fun h => absurd h (by omega)) (fun _ => splitE (fun h => absurd h (by omega)) (fun _ => splitE (fun _ => ?_) (fun h => absurd rfl h)))⟩
  exact ⟨_, rfl, [f], ⟨rfl, rfl, by simp, by omega, by simp only [List.mem_singleton, forall_eq]; omega⟩, _, rfl, ⟨(1, 203, putM 4 [f]), ⟨by dsimp only; rw [oneM, hR]; rfl, by dsimp only; omega, by dsimp only; omega, by dsimp only; omega⟩, rfl, rfl, rfl, rfl, trivial⟩, hwd⟩
 ·dsimp only at v2 hbl ⊢
  obtain ⟨_, hf, ha, _⟩ := v2
  have hR : bodyM ⟨4, f, a, 0, 0, 0, 0, 0, [], lo, 0, 0, []⟩ = putM 4 [f, a] ++ prsBM (pairsM lo) := by
   rw [put_cons]; simp [bodyM, rcsBM]
  rw [hR] at hbl
  refine ⟨_, rfl, splitE (fun h => absurd h (by omega)) (fun _ => splitE (fun h => absurd h (by omega)) (fun _ => splitE (fun h => absurd h (by omega)) (fun _ => splitE (fun _ => ?_) (fun h => absurd rfl h))))⟩
  refine ⟨_, rfl, _, rfl, [f, a], ⟨rfl, rfl, by simp, by omega, by simp only [List.mem_cons, List.not_mem_nil, or_false, forall_eq_or_imp, forall_eq]; omega⟩, _, rfl, lo, ⟨rfl, rfl, hlo⟩, ⟨0, ⟨Nat.zero_le _⟩, rfl, rfl, rfl, by simp [prsBM], rfl, rfl, trivial⟩, ?_⟩
  have hbd := pairs_bd hlo
  have hpl := prs_len (pairsM lo)
  have hcl := cellsPM_len (pairsM lo)
  have h24 : (putM 4 [f, a]).length = 8 := by simp [put_len]
  rw [List.length_append] at hbl
  rintro i ⟨hi⟩
  have hpi := prs_len ((pairsM lo).take i)
  rw [List.length_take] at hpi
  refine ⟨_, rfl, _, rfl, splitD (fun hlt => ?_) (fun hge => ?_)⟩
  ·have hg := pairs_take (show i < (pairsM lo).length by omega)
   have hb1 := hbd _ hg.1
   have hF : fstM (pairsM lo) i = ((pairsM lo).getD i (0, 0)).1 := rfl
   have hS : sndM (pairsM lo) i = ((pairsM lo).getD i (0, 0)).2 := rfl
   rw [← hF, ← hS] at hb1
   refine ⟨_, rfl, _, rfl, ckI (by simp; omega) (ckI (by simp; omega) (getP0 (i := i) (by omega) (by omega) ⟨_, rfl, ckI (by simp; omega) (ckI (by simp; omega) (getP1 (i := i) (by omega) (by omega) ⟨[_, _], ⟨rfl, rfl, by simp, by omega, by simp only [List.mem_cons, List.not_mem_nil, or_false, forall_eq_or_imp, forall_eq]; omega⟩, _, rfl, ckI (by simp [put_len]; omega) ⟨_, rfl, _, rfl, wrapI (by omega) (by omega) ⟨⟨trivial, rfl⟩, i + 1, ⟨by omega⟩, by omega, rfl, rfl, rfl, ?_, rfl, rfl, trivial⟩⟩⟩))⟩))⟩
   rw [hg.2, List.append_assoc]; rfl
  ·rw [List.take_of_length_le (by omega)]
   exact ⟨⟨(1, 205, putM 4 [f, a] ++ prsBM (pairsM lo)), ⟨by dsimp only; rw [oneM, hR]; rfl, by rw [List.length_append]; omega, by dsimp only; omega, by dsimp only; omega⟩, rfl, rfl, rfl, rfl, trivial⟩, hwd⟩
 ·dsimp only at v2 hbl ⊢
  obtain ⟨_, hf, ha, _⟩ := v2
  have hR : bodyM ⟨5, f, a, 0, 0, 0, 0, 0, [], [], 0, 0, []⟩ = putM 4 [f, a] := by
   rw [put_cons]; simp [bodyM, prsBM, pairsM, rcsBM]
  rw [hR] at hbl
  refine ⟨_, rfl, splitE (fun h => absurd h (by omega)) (fun _ => splitE (fun h => absurd h (by omega)) (fun _ => splitE (fun h => absurd h (by omega)) (fun _ => splitE (fun h => absurd h (by omega)) (fun _ => splitE (fun _ => ?_) (fun h => absurd rfl h)))))⟩
  exact ⟨_, rfl, _, rfl, [f, a], ⟨rfl, rfl, by simp, by omega, by simp only [List.mem_cons, List.not_mem_nil, or_false, forall_eq_or_imp, forall_eq]; omega⟩, _, rfl, ⟨(1, 206, putM 4 [f, a]), ⟨by dsimp only; rw [oneM, hR]; rfl, by dsimp only; omega, by dsimp only; omega, by dsimp only; omega⟩, rfl, rfl, rfl, rfl, trivial⟩, hwd⟩
 ·dsimp only at v2 hbl ⊢
  obtain ⟨_, hf, ha, hs1, hs2, hs3, hs4, hs5, hba, hro, _⟩ := v2
  have hR : bodyM ⟨6, f, a, 0, 0, 0, 0, 0, [], [], ba, ro, ti⟩ = putM 4 [f, a] ++ putM 2 [ba] ++ arrM ti ro := by
   rw [put_cons]; simp [bodyM, rcsBM, prsBM, pairsM]
  rw [hR] at hbl
  refine ⟨_, rfl, splitE (fun h => absurd h (by omega)) (fun _ => splitE (fun h => absurd h (by omega)) (fun _ => splitE (fun h => absurd h (by omega)) (fun _ => splitE (fun h => absurd h (by omega)) (fun _ => splitE (fun h => absurd h (by omega)) (fun _ => ?_)))))⟩
  refine ⟨_, rfl, _, rfl, _, rfl, [f, a], ⟨rfl, rfl, by simp, by omega, by simp only [List.mem_cons, List.not_mem_nil, or_false, forall_eq_or_imp, forall_eq]; omega⟩, ?_⟩
  obtain ⟨ref, l, hst1, hn1, hn2⟩ := stepsR_some hti
  have hbl2 := hbl
  rw [List.length_append, List.length_append, put_len, put_len] at hbl2
  repeat (first | refine ckE ?_ | refine ckF ?_)
  refine ⟨_, rfl, [ba], ⟨rfl, rfl, by simp, by omega, by simp only [List.mem_singleton, forall_eq]; omega⟩, ckF ⟨_, rfl, ckI (by simp [put_len]) ⟨_, rfl, ⟨6, f, a, 0, 0, 0, 0, 0, [], [], ba, ro, ti⟩, ⟨rfl, ⟨hn1, hn2⟩, hti, hro.1, by dsimp only; omega⟩, _, rfl, ckI (by simp [put_len] at hbl2 ⊢; omega) ⟨_, rfl, ⟨(15, 205, putM 4 [f, a] ++ putM 2 [ba] ++ arrM ti ro), ⟨by dsimp only; rw [oneM, hR]; rfl, by dsimp only; omega, by dsimp only; omega, by dsimp only; omega⟩, rfl, rfl, rfl, rfl, rfl, rfl, trivial⟩, ?_⟩⟩⟩⟩
  rintro ⟨n, k, b⟩ ⟨g1, g2, g3, g4⟩
  dsimp only at g1 g2 g3 g4 ⊢
  refine ⟨_, rfl, _, rfl, splitNE (fun h => ?_) (fun h => ?_)⟩
  ·have h4 : b.length % 4 ≠ 0 := fun h0 => h (by rw [Int.tmod_eq_emod_of_nonneg (by omega)]; omega)
   refine ⟨[0], ⟨rfl, rfl, by simp, by omega, by simp⟩, _, rfl, ckI (by simp [put_len]; omega) ⟨_, rfl, ⟨trivial, rfl⟩, (n, k, b ++ putM 1 [0]), ⟨by dsimp only; rw [pad_one h4]; exact g1, by simp [put_len]; omega, g3, g4⟩, by simp [put_len]; omega, ?_⟩⟩
   repeat (first | exact trivial | refine ⟨rfl, ?_⟩)
  ·have h4 : b.length % 4 = 0 := by rw [Int.tmod_eq_emod_of_nonneg (by omega)] at h; omega
   have ht : ((b.length : Nat) : Int).tdiv 4 = ((b.length / 4 : Nat) : Int) := by rw [Int.tdiv_eq_ediv_of_nonneg (by omega)]; omega
   refine wrapI (by omega) (by omega) ⟨[128 + n, k], ⟨rfl, rfl, by simp, by omega, by simp only [List.mem_cons, List.not_mem_nil, or_false, forall_eq_or_imp, forall_eq]; omega⟩, _, rfl, _, rfl, wrapI (by rw [ht]; omega) (by rw [ht]; omega) ⟨[((b.length : Nat) : Int).tdiv 4], ⟨rfl, rfl, by simp, by omega, by simp only [List.mem_singleton, forall_eq]; rw [ht]; omega⟩, _, rfl, ckI (by simp [put_len]) ⟨_, rfl, ckI (by simp [put_len]; omega) ⟨_, rfl, ?_⟩⟩⟩⟩
   rw [padM_id h4] at g1
   rw [← g1] at hq
   rw [ht]
   exact hq
def cOne : Con
 | [.agg cs], H, K => ∃ c : Ctl, Lf (cs = ctC c ∧ validM c = true) ∧ K (.ret (.str (oneM c))) H
 | _, _, _ => False
theorem one_ok : ValidF Tryd.prog glC 35 cOne := by
 refine valid_flat (enters_of (by kernel_rfl)) glC_noY fun args H Q hc => ?_
 unfold cOne at hc
 split at hc
 ·rename_i cs
  obtain ⟨c, ⟨rfl, hv⟩, hq⟩ := hc
  obtain ⟨hv, hb', h⟩ := one_run c hv (fun o H' _ => H' = [] ∧ (∃ v, o = .ret v ∧ old 0 v = true ∧ noY v = true) ∧ Q o H) ⟨rfl, ⟨_, rfl, rfl, rfl⟩, hq⟩
  exact ⟨rfl, rfl, _, 1000, ⟨mixed24, names24, tabA_ok, sm35_ok⟩, rfl, h⟩
 ·exact hc.elim
def sm11 : SM := lookS [(35, cOne)]
theorem sm11_ok : ∀ f g, sm11 f = some g → ValidF Tryd.prog glC f g := lookS_ok _ (by simp only [List.mem_cons, List.not_mem_nil, or_false, forall_eq]; exact one_ok)
def inv_11 (t : Nat) (l : List Ctl) : LInv where
 α := Nat
 pre i := Lf (i ≤ l.length)
 st i := ⟨mkT [(0, .lst t (cellsCM l) l.length 13), (3, .str (encCM (l.take i))), (4, .int .i64 (i : Nat))], []⟩
 mu i := l.length - i
noncomputable def env_11 (hv : Nat → Option Pa) (hb : Nat → Option Bool) (t : Nat) (l : List Ctl) : Env := e24 sm11 (fun i => bif Nat.beq i 11000 then some (fun _ => [[inv_11 t l]]) else none) hv hb
noncomputable def goal_11 (hv : Nat → Option Pa) (hb : Nat → Option Bool) (t : Nat) (l : List Ctl) (Q : Out → List Blk → Gh → Prop) : Prop :=
 callx (env_11 hv hb t l) (wpx (env_11 hv hb t l) 1000) 11 [.lst t (cellsCM l) l.length 13] [] {} Q
theorem vc_11 (t : Nat) (l : List Ctl) (Q : Out → List Blk → Gh → Prop) : goal_11 (lookV [(45061, .int .i64), (45063, .int .i64), (45067, .str), (45069, .int .i64), (45072, .str), (45073, .str), (45065, .int .i64), (45066, .int .i64), (45074, .str)]) (lookB []) t l Q = ((∃ x_0 : Nat, Lf (x_0 ≤ l.length) ∧ eqqQ (AV.lst t (cellsCM l) l.length 13) ∧ AV.str [] = AV.str (encCM (l.take x_0)) ∧ AV.int .i64 0 = AV.int .i64 (x_0 : Int) ∧ True) ∧ ∀ x_0 : Nat, Lf (x_0 ≤ l.length) → exI .i64 (x_0 : Int) (fun n_1 => exI .i64 (l.length : Int) (fun n_2 => bif decide (n_1 < n_2) then exS (.str (encCM (l.take x_0))) (fun s_3 => exI .i64 (x_0 : Int) (fun n_4 => ckQ (decide (0 ≤ n_4) && Nat.blt n_4.toNat l.length && true) (ckQ (Nat.ble (n_4.toNat * 13 + 13) (cellsCM l).length) (∃ c_5 : Ctl, Lf (((cellsCM l).drop (n_4.toNat * 13)).take 13 = zZD0 c_5 ∧ validM c_5 = true) ∧ exS (.str (oneM c_5)) (fun s_6 => ckQ (zZD6 s_3 s_6) (exS (.str (s_3 ++ s_6)) (fun s_7 => exI .i64 (x_0 : Int) (fun n_8 => exW .i64 (n_8 + 1) (fun n_9 => zZD11 ∧ ∃ y_10 : Nat, Lf (y_10 ≤ l.length) ∧ l.length - y_10 < l.length - x_0 ∧ eqqQ (AV.lst t (cellsCM l) l.length 13) ∧ AV.str s_7 = AV.str (encCM (l.take y_10)) ∧ AV.int .i64 n_9 = AV.int .i64 (y_10 : Int) ∧ True))))))))) else exS (.str (encCM (l.take x_0))) (fun s_3 => Q (.ret (.str s_3)) [] {})))) := by kernel_rfl

theorem encR_run (t : Nat) (l : List Ctl) (hl : l.length ≤ 1000) (hva : ∀ c ∈ l, validM c = true) (Q : Out → List Blk → Gh → Prop) (hq : Q (.ret (.str (encCM l))) [] {}) : ∃ hv hb, goal_11 hv hb t l Q := by
 obtain ⟨hv, hb', e⟩ : ∃ hv hb, goal_11 hv hb t l Q = _ := ⟨_, _, vc_11 t l Q⟩
 refine ⟨hv, hb', e.mpr ?_⟩
 delta zZD10 zZD0 zZD6 zZD11
 clear e
 refine ⟨⟨0, ⟨Nat.zero_le _⟩, rfl, rfl, rfl, trivial⟩, ?_⟩
 rintro i ⟨hi⟩
 have hle := encC_le (l.take i) fun d hd => hva d (List.mem_of_mem_take hd)
 rw [List.length_take] at hle
 refine ⟨_, rfl, _, rfl, splitD (fun hlt => ?_) (fun hge => ?_)⟩
 ·obtain ⟨c, hr, hcc⟩ := cellsC_get (l := l) (i := i) (by omega) (Nat.mul_comm 13 i ▸ rfl : i * 13 = 13 * i)
  have hc := hva c (List.mem_of_getElem? hr)
  have hl8 := one_len hc
  refine ⟨_, rfl, _, rfl, ?_⟩
  try dsimp only
  rw [Int.toNat_natCast, hcc]
  refine ckI (by simp; omega) (ckI (by simp [cellsC_len]; omega) ⟨c, ⟨rfl, hc⟩, _, rfl, ckI (by simp; omega) ⟨_, rfl, _, rfl, wrapI (by omega) (by omega) ⟨⟨trivial, rfl⟩, i + 1, ⟨by omega⟩, by omega, rfl, ?_, rfl, trivial⟩⟩⟩)
  rw [encC_take hr]
 ·rw [List.take_of_length_le (by omega)]
  exact ⟨_, rfl, hq⟩
def cEncR : Con
 | [.lst _ cs n 13], H, K => ∃ l : List Ctl, Lf (cs = cellsCM l ∧ n = l.length ∧ l.length ≤ 1000 ∧ ∀ c ∈ l, validM c = true) ∧ K (.ret (.str (encCM l))) H
 | _, _, _ => False
theorem encR_raw : ValidF Tryd.prog glC 11 cEncR := by
 refine valid_flat (enters_of (by kernel_rfl)) glC_noY fun args H Q hc => ?_
 unfold cEncR at hc
 split at hc
 ·rename_i t cs n
  obtain ⟨l, ⟨rfl, rfl, hl, hv⟩, hq⟩ := hc
  obtain ⟨hv, hb', h⟩ := encR_run t l hl hv (fun o H' _ => H' = [] ∧ (∃ v, o = .ret v ∧ old 0 v = true ∧ noY v = true) ∧ Q o H) ⟨rfl, ⟨_, rfl, rfl, rfl⟩, hq⟩
  exact ⟨rfl, rfl, _, 1000, envFor24 sm11_ok _ _ _, rfl, h⟩
 ·exact hc.elim
def cEncRV : Con := fun args H Q => lendL [13] H args fun a => cEncR a H Q
theorem encR_ok : ValidF Tryd.prog glC 11 cEncRV := valid_view encR_raw glC_noY [13] fun args H Q hc => by
 unfold cEncR at hc
 split at hc
 ·obtain ⟨l, h, hq⟩ := hc
  exact ⟨l, h, rfl, ⟨_, rfl, rfl⟩, hq⟩
 ·exact hc.elim
end Go.Proofs.YtafchcmemeinlaaDoor
