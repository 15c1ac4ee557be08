/-
  Chapter 24: times of arrival as octets.
-/
import Derived.Test.YtafchcmemeinlaaDoorCmC
set_option linter.unusedSimpArgs false
set_option linter.unusedVariables false
set_option linter.unusedSectionVars false
namespace Go.Proofs.YtafchcmemeinlaaDoor
open Go.RowKit
set_option maxRecDepth 1000000

def sgnM (d : Int) : Int := if 0 ≤ d ∧ d ≤ 255 then 1 else 2
def sgsM : List Int → List Int → List Int
 | [], _ => []
 | t :: ts, l => if t = -1 then 0 :: sgsM ts l else sgnM (l.getD 0 0) :: sgsM ts (l.drop 1)
def cntM (l : List Int) : Nat := (l.filter (· != -1)).length
def curM (S : List Int) : Nat → Int
 | 0 => 0
 | i + 1 => if i % 7 = 6 then 0 else 4 * curM S i + S.getD i 0
def bitsM (S : List Int) : Nat → List UInt8
 | 0 => []
 | i + 1 => if i % 7 = 6 then bitsM S i ++ putM 2 [49152 + (4 * curM S i + S.getD i 0)] else bitsM S i
def tailM (l : List Int) : List UInt8 := l.flatMap fun d => putM (sgnM d).toNat [d]
def hdrM (times : List Int) (ref round : Int) : List UInt8 := putM 2 [(times.length : Int)] ++ putM 3 [ref] ++ putM 1 [round]
def arrM (times : List Int) (round : Int) : List UInt8 := match stepsM times with
 | some p => hdrM times p.1 round ++ bitsM (sgsM times p.2) ((times.length + 6) / 7 * 7) ++ tailM p.2
 | none => []
def sm68 : SM := lookS [(67, cPutB), (70, cSteps)]
theorem sm68_ok : ∀ f g, sm68 f = some g → ValidF Tryd.prog glC f g := lookS_ok _ (by simp only [List.mem_cons, List.not_mem_nil, or_false, forall_eq_or_imp, forall_eq]; exact ⟨put_ok, steps_ok⟩)
def inv_68 (t : Nat) (xs l : List Int) (bs : List UInt8) : List LInv := [
 { α := Nat, pre := fun i => Lf (i ≤ (xs.length + 6) / 7 * 7 ∧ cntM (xs.take i) = 0), st := fun i => ⟨mkT [(0, .sl 0 (bs ++ bitsM (sgsM xs l) i).length 0 (bs ++ bitsM (sgsM xs l) i).length 1), (1, .lst t (cellsI xs) xs.length 1), (8, .lst 0 (cellsI l) l.length 1), (10, .nils), (11, .int .i64 (curM (sgsM xs l) i)), (12, .int .i64 0), (38, .int .i64 (((xs.length + 6) / 7 * 7 : Nat) : Int)), (39, .int .i64 (i : Nat))], [⟨.grow, true, ofBytes (bs ++ bitsM (sgsM xs l) i)⟩]⟩, mu := fun i => (xs.length + 6) / 7 * 7 - i },
 { α := Nat, pre := fun i => Lf (i ≤ (xs.length + 6) / 7 * 7 ∧ 1 ≤ cntM (xs.take i)), st := fun i => ⟨mkT [(0, .sl 0 (bs ++ bitsM (sgsM xs l) i).length 0 (bs ++ bitsM (sgsM xs l) i).length 1), (1, .lst t (cellsI xs) xs.length 1), (8, .lst 0 (cellsI l) l.length 1), (10, .sl 1 (tailM (l.take (cntM (xs.take i)))).length 0 (tailM (l.take (cntM (xs.take i)))).length 1), (11, .int .i64 (curM (sgsM xs l) i)), (12, .int .i64 (cntM (xs.take i) : Nat)), (38, .int .i64 (((xs.length + 6) / 7 * 7 : Nat) : Int)), (39, .int .i64 (i : Nat))], [⟨.grow, true, ofBytes (bs ++ bitsM (sgsM xs l) i)⟩, ⟨.grow, true, ofBytes (tailM (l.take (cntM (xs.take i))))⟩]⟩, mu := fun i => (xs.length + 6) / 7 * 7 - i }]
noncomputable def env_68 (hv : Nat → Option Pa) (hb : Nat → Option Bool) (t : Nat) (xs l : List Int) (bs : List UInt8) : Env := e24 sm68 (fun i => bif Nat.beq i 68000 then some (fun _ => [inv_68 t xs l bs]) else none) hv hb
noncomputable def goal_68 (hv : Nat → Option Pa) (hb : Nat → Option Bool) (t : Nat) (xs l : List Int) (ref round : Int) (bs : List UInt8) (Q : Out → List Blk → Gh → Prop) : Prop :=
 callx (env_68 hv hb t xs l (bs ++ hdrM xs ref round)) (wpx (env_68 hv hb t xs l (bs ++ hdrM xs ref round)) 1000) 68 [.sl 0 bs.length 0 bs.length 1, .lst t (cellsI xs) xs.length 1, .int .i64 round] [⟨.grow, true, ofBytes bs⟩] {} Q
def vc_68_1 (xs : List Int) (l : List Int) : Prop := (
(((AV.lst (0 : Nat) (cellsI l) (List.length l) (1 : Nat)) = (AV.lst (0 : Nat) (cellsI l) (List.length l) (1 : Nat))) ∧
 (((AV.int .i64 (0 : Int)) = (AV.int .i64 (0 : Int))) ∧
 ((AV.nils = AV.nils) ∧
 (((AV.int .i64 (Nat.cast ((((List.length xs) + (6 : Nat)) / (7 : Nat)) * (7 : Nat)) : Int)) = (AV.int .i64 (Nat.cast ((((List.length xs) + (6 : Nat)) / (7 : Nat)) * (7 : Nat)) : Int))) ∧
 True)))))
abbrev q4XG_68_0 (xs : List Int) (l : List Int) (x_17 : Nat) (n_21 : Int) (n_18 : Int) (bs : List UInt8) (ref : Int) (round : Int) (t : Nat) : Prop :=
AV.int .i64 (curM (sgsM xs l) x_17) = AV.int .i64 n_21 ∧ exW .i64 (n_21 * 4) fun n_22 => exW .i64 (((n_22 % 18446744073709551616).toNat ||| 0 : Nat) : Int) fun n_23 => exI .i64 (n_18.tmod 7) fun n_24 => bif n_24 == 6 then exW .i64 ((49152
 ||| (n_23 % 18446744073709551616).toNat : Nat) : Int) fun n_25 => ∃ bs_26 : List UInt8, ∃ xs_27 : List Int, Lf (GetElem?.getElem? [Blk.mk BK.grow true (ofBytes (bs ++ hdrM xs ref round ++ bitsM (sgsM xs l) x_17)), Blk.mk BK.grow true
 (ofBytes (tailM (l.take (cntM (xs.take x_17)))))] 0 = Option.some (Blk.mk BK.grow true (ofBytes bs_26)) ∧ (bs ++ hdrM xs ref round ++ bitsM (sgsM xs l) x_17).length = bs_26.length ∧ (bs ++ hdrM xs ref round ++ bitsM (sgsM xs l)
 x_17).length = bs_26.length ∧ bs_26.length ≤ 1000000 ∧ [AV.int .i64 n_25] = cellsI xs_27 ∧ 1 = xs_27.length ∧ (1 : Int) ≤ (2 : Int) ∧ (2 : Int) ≤ (7 : Int) ∧ xs_27.length ≤ 1000000) ∧ exW .i64 ((x_17 : Int) + 1) fun n_28 => (True ∧ (0 :
 Nat) = (0 : Nat)) ∧ ((∃ y_29 : Nat, Lf (y_29 ≤ (xs.length + 6) / 7 * 7 ∧ cntM (xs.take y_29) = 0) ∧ (xs.length + 6) / 7 * 7 - y_29 < (xs.length + 6) / 7 * 7 - x_17 ∧ ofBytes (bs_26 ++ putM 2 xs_27) = ofBytes (bs ++ hdrM xs ref round ++
 bitsM (sgsM xs l) y_29) ∧ False) ∨ ∃ y_29 : Nat, Lf (y_29 ≤ (xs.length + 6) / 7 * 7 ∧ 1 ≤ cntM (xs.take y_29)) ∧ (xs.length + 6) / 7 * 7 - y_29 < (xs.length + 6) / 7 * 7 - x_17 ∧ ofBytes (bs_26 ++ putM 2 xs_27) = ofBytes (bs ++ hdrM xs ref
 round ++ bitsM (sgsM xs l) y_29) ∧ ofBytes (tailM (l.take (cntM (xs.take x_17)))) = ofBytes (tailM (l.take (cntM (xs.take y_29)))) ∧ AV.sl 0 (bs_26 ++ putM 2 xs_27).length 0 (bs_26 ++ putM 2 xs_27).length 1 = AV.sl 0 (bs ++ hdrM xs ref
 round ++ bitsM (sgsM xs l) y_29).length 0 (bs ++ hdrM xs ref round ++ bitsM (sgsM xs l) y_29).length 1 ∧ eqqQ (AV.lst t (cellsI xs) xs.length 1) ∧ AV.int .i64 n_28 = AV.int .i64 (y_29 : Int) ∧ AV.int .i64 0 = AV.int .i64 (curM (sgsM xs l)
 y_29) ∧ eqqQ (AV.lst 0 (cellsI l) l.length 1) ∧ AV.int .i64 (cntM (xs.take x_17) : Int) = AV.int .i64 (cntM (xs.take y_29) : Int) ∧ AV.sl 1 (tailM (l.take (cntM (xs.take x_17)))).length 0 (tailM (l.take (cntM (xs.take x_17)))).length 1 =
 AV.sl 1 (tailM (l.take (cntM (xs.take y_29)))).length 0 (tailM (l.take (cntM (xs.take y_29)))).length 1 ∧ eqqQ (AV.int .i64 (((xs.length + 6) / 7 * 7 : Nat) : Int)) ∧ True) else exW .i64 ((x_17 : Int) + 1) fun n_25 => (True ∧ (0 : Nat) =
 (0 : Nat)) ∧ ((∃ y_26 : Nat, Lf (y_26 ≤ (xs.length + 6) / 7 * 7 ∧ cntM (xs.take y_26) = 0) ∧ (xs.length + 6) / 7 * 7 - y_26 < (xs.length + 6) / 7 * 7 - x_17 ∧ ofBytes (bs ++ hdrM xs ref round ++ bitsM (sgsM xs l) x_17) = ofBytes (bs ++
 hdrM xs ref round ++ bitsM (sgsM xs l) y_26) ∧ False) ∨ ∃ y_26 : Nat, Lf (y_26 ≤ (xs.length + 6) / 7 * 7 ∧ 1 ≤ cntM (xs.take y_26)) ∧ (xs.length + 6) / 7 * 7 - y_26 < (xs.length + 6) / 7 * 7 - x_17 ∧ ofBytes (bs ++ hdrM xs ref round ++
 bitsM (sgsM xs l) x_17) = ofBytes (bs ++ hdrM xs ref round ++ bitsM (sgsM xs l) y_26) ∧ ofBytes (tailM (l.take (cntM (xs.take x_17)))) = ofBytes (tailM (l.take (cntM (xs.take y_26)))) ∧ AV.sl 0 (bs ++ hdrM xs ref round ++ bitsM (sgsM xs l)
 x_17).length 0 (bs ++ hdrM xs ref round ++ bitsM (sgsM xs l) x_17).length 1 = AV.sl 0 (bs ++ hdrM xs ref round ++ bitsM (sgsM xs l) y_26).length 0 (bs ++ hdrM xs ref round ++ bitsM (sgsM xs l) y_26).length 1 ∧ eqqQ (AV.lst t (cellsI xs)
 xs.length 1) ∧ AV.int .i64 n_25 = AV.int .i64 (y_26 : Int) ∧ AV.int .i64 n_23 = AV.int .i64 (curM (sgsM xs l) y_26) ∧ eqqQ (AV.lst 0 (cellsI l) l.length 1) ∧ AV.int .i64 (cntM (xs.take x_17) : Int) = AV.int .i64 (cntM (xs.take y_26) : Int)
 ∧ AV.sl 1 (tailM (l.take (cntM (xs.take x_17)))).length 0 (tailM (l.take (cntM (xs.take x_17)))).length 1 = AV.sl 1 (tailM (l.take (cntM (xs.take y_26)))).length 0 (tailM (l.take (cntM (xs.take y_26)))).length 1 ∧ eqqQ (AV.int .i64
 (((xs.length + 6) / 7 * 7 : Nat) : Int)) ∧ True)
abbrev q4XG_68_1 (xs : List Int) (l : List Int) (x_17 : Nat) (n_21 : Int) (n_18 : Int) (bs : List UInt8) (ref : Int) (round : Int) (t : Nat) : Prop :=
AV.int .i64 (curM (sgsM xs l) x_17) = AV.int .i64 n_21 ∧ exW .i64 (n_21 * 4) fun n_22 => exW .i64 (((n_22 % 18446744073709551616).toNat ||| 0 : Nat) : Int) fun n_23 => exI .i64 (n_18.tmod 7) fun n_24 => bif n_24 == 6 then exW .i64 ((49152
 ||| (n_23 % 18446744073709551616).toNat : Nat) : Int) fun n_25 => ∃ bs_26 : List UInt8, ∃ xs_27 : List Int, Lf (GetElem?.getElem? [Blk.mk BK.grow true (ofBytes (bs ++ hdrM xs ref round ++ bitsM (sgsM xs l) x_17))] 0 = Option.some (Blk.mk
 BK.grow true (ofBytes bs_26)) ∧ (bs ++ hdrM xs ref round ++ bitsM (sgsM xs l) x_17).length = bs_26.length ∧ (bs ++ hdrM xs ref round ++ bitsM (sgsM xs l) x_17).length = bs_26.length ∧ bs_26.length ≤ 1000000 ∧ [AV.int .i64 n_25] = cellsI
 xs_27 ∧ 1 = xs_27.length ∧ (1 : Int) ≤ (2 : Int) ∧ (2 : Int) ≤ (7 : Int) ∧ xs_27.length ≤ 1000000) ∧ exW .i64 ((x_17 : Int) + 1) fun n_28 => (True ∧ (0 : Nat) = (0 : Nat)) ∧ ((∃ y_29 : Nat, Lf (y_29 ≤ (xs.length + 6) / 7 * 7 ∧ cntM
 (xs.take y_29) = 0) ∧ (xs.length + 6) / 7 * 7 - y_29 < (xs.length + 6) / 7 * 7 - x_17 ∧ ofBytes (bs_26 ++ putM 2 xs_27) = ofBytes (bs ++ hdrM xs ref round ++ bitsM (sgsM xs l) y_29) ∧ AV.sl 0 (bs_26 ++ putM 2 xs_27).length 0 (bs_26 ++ putM
 2 xs_27).length 1 = AV.sl 0 (bs ++ hdrM xs ref round ++ bitsM (sgsM xs l) y_29).length 0 (bs ++ hdrM xs ref round ++ bitsM (sgsM xs l) y_29).length 1 ∧ eqqQ (AV.lst t (cellsI xs) xs.length 1) ∧ AV.int .i64 n_28 = AV.int .i64 (y_29 : Int) ∧
 AV.int .i64 0 = AV.int .i64 (curM (sgsM xs l) y_29) ∧ vc_68_1 xs l) ∨ ∃ y_29 : Nat, Lf (y_29 ≤ (xs.length + 6) / 7 * 7 ∧ 1 ≤ cntM (xs.take y_29)) ∧ (xs.length + 6) / 7 * 7 - y_29 < (xs.length + 6) / 7 * 7 - x_17 ∧ ofBytes (bs_26 ++ putM 2
 xs_27) = ofBytes (bs ++ hdrM xs ref round ++ bitsM (sgsM xs l) y_29) ∧ False) else exW .i64 ((x_17 : Int) + 1) fun n_25 => (True ∧ (0 : Nat) = (0 : Nat)) ∧ ((∃ y_26 : Nat, Lf (y_26 ≤ (xs.length + 6) / 7 * 7 ∧ cntM (xs.take y_26) = 0) ∧
 (xs.length + 6) / 7 * 7 - y_26 < (xs.length + 6) / 7 * 7 - x_17 ∧ ofBytes (bs ++ hdrM xs ref round ++ bitsM (sgsM xs l) x_17) = ofBytes (bs ++ hdrM xs ref round ++ bitsM (sgsM xs l) y_26) ∧ AV.sl 0 (bs ++ hdrM xs ref round ++ bitsM (sgsM
 xs l) x_17).length 0 (bs ++ hdrM xs ref round ++ bitsM (sgsM xs l) x_17).length 1 = AV.sl 0 (bs ++ hdrM xs ref round ++ bitsM (sgsM xs l) y_26).length 0 (bs ++ hdrM xs ref round ++ bitsM (sgsM xs l) y_26).length 1 ∧ eqqQ (AV.lst t (cellsI
 xs) xs.length 1) ∧ AV.int .i64 n_25 = AV.int .i64 (y_26 : Int) ∧ AV.int .i64 n_23 = AV.int .i64 (curM (sgsM xs l) y_26) ∧ vc_68_1 xs l) ∨ ∃ y_26 : Nat, Lf (y_26 ≤ (xs.length + 6) / 7 * 7 ∧ 1 ≤ cntM (xs.take y_26)) ∧ (xs.length + 6) / 7 * 7
 - y_26 < (xs.length + 6) / 7 * 7 - x_17 ∧ ofBytes (bs ++ hdrM xs ref round ++ bitsM (sgsM xs l) x_17) = ofBytes (bs ++ hdrM xs ref round ++ bitsM (sgsM xs l) y_26) ∧ False)
abbrev q4XG_68_2 (bs : List UInt8) (xs : List Int) (ref : Int) (round : Int) (l : List Int) (x_17 : Nat) (Q : Out → List Blk → Gh → Prop) : Prop :=
ckQ (Nat.beq (ofBytes (bs ++ hdrM xs ref round ++ bitsM (sgsM xs l) x_17)).length (bs ++ hdrM xs ref round ++ bitsM (sgsM xs l) x_17).length && true) (true = true ∧ Q (.ret (.sl 0 (bs ++ hdrM xs ref round ++ bitsM (sgsM xs l) x_17).length 0
 (bs ++ hdrM xs ref round ++ bitsM (sgsM xs l) x_17).length 1)) [Blk.mk BK.grow true (ofBytes (bs ++ hdrM xs ref round ++ bitsM (sgsM xs l) x_17))] {})
abbrev q4XG_68_3 (l : List Int) (n_29 : Int) (y_38 : Nat) (xs : List Int) (bs_26 : List UInt8) (xs_27 : List Int) : Prop :=
eqqQ (AV.lst 0 (cellsI l) l.length 1) ∧ AV.int .i64 n_29 = AV.int .i64 (cntM (xs.take y_38) : Int) ∧ AV.sl 1 (bs_26 ++ putM 2 xs_27).length 0 (bs_26 ++ putM 2 xs_27).length 1 = AV.sl 1 (tailM (l.take (cntM (xs.take y_38)))).length 0 (tailM
 (l.take (cntM (xs.take y_38)))).length 1 ∧ eqqQ (AV.int .i64 (((xs.length + 6) / 7 * 7 : Nat) : Int)) ∧ True
abbrev q4XG_68_4 (l : List Int) (n_29 : Int) (y_38 : Nat) (xs : List Int) (bs_26 : List UInt8) (xs_27 : List Int) : Prop :=
eqqQ (AV.lst 0 (cellsI l) l.length 1) ∧ AV.int .i64 n_29 = AV.int .i64 (cntM (xs.take y_38) : Int) ∧ AV.sl 1 (bs_26 ++ putM 1 xs_27).length 0 (bs_26 ++ putM 1 xs_27).length 1 = AV.sl 1 (tailM (l.take (cntM (xs.take y_38)))).length 0 (tailM
 (l.take (cntM (xs.take y_38)))).length 1 ∧ eqqQ (AV.int .i64 (((xs.length + 6) / 7 * 7 : Nat) : Int)) ∧ True
abbrev q4XG_68_5 (l : List Int) (n_28 : Int) (y_37 : Nat) (xs : List Int) (xs_26 : List Int) : Prop :=
eqqQ (AV.lst 0 (cellsI l) l.length 1) ∧ AV.int .i64 n_28 = AV.int .i64 (cntM (xs.take y_37) : Int) ∧ AV.sl 1 (putM 2 xs_26).length 0 (putM 2 xs_26).length 1 = AV.sl 1 (tailM (l.take (cntM (xs.take y_37)))).length 0 (tailM (l.take (cntM
 (xs.take y_37)))).length 1 ∧ eqqQ (AV.int .i64 (((xs.length + 6) / 7 * 7 : Nat) : Int)) ∧ True
abbrev q4XG_68_6 (l : List Int) (n_28 : Int) (y_37 : Nat) (xs : List Int) (xs_26 : List Int) : Prop :=
eqqQ (AV.lst 0 (cellsI l) l.length 1) ∧ AV.int .i64 n_28 = AV.int .i64 (cntM (xs.take y_37) : Int) ∧ AV.sl 1 (putM 1 xs_26).length 0 (putM 1 xs_26).length 1 = AV.sl 1 (tailM (l.take (cntM (xs.take y_37)))).length 0 (tailM (l.take (cntM
 (xs.take y_37)))).length 1 ∧ eqqQ (AV.int .i64 (((xs.length + 6) / 7 * 7 : Nat) : Int)) ∧ True
abbrev zXG25 (xs_0 : List Int) : Prop := xs_0.length ≤ 1000000
abbrev zXG11 (bs : List UInt8) : Blk := Blk.mk BK.grow true (ofBytes bs)
abbrev zXG3 (bs_7 : List UInt8) (n_6 : Int) (xs_8 : List Int) : Prop := bs_7.length ≤ 1000000 ∧ [AV.int .i64 n_6] = cellsI xs_8 ∧ 1 = xs_8.length ∧ (1 : Int) ≤ (2 : Int) ∧ (2 : Int) ≤ (7 : Int) ∧ zXG25 xs_8
abbrev zXG19 (bs_7 : List UInt8) (xs_8 : List Int) : List AV := ofBytes (bs_7 ++ putM 2 xs_8)
abbrev zXG24 (round : Int) (xs_12 : List Int) : Prop := [AV.int .i64 round] = cellsI xs_12 ∧ 1 = xs_12.length ∧ (1 : Int) ≤ (1 : Int) ∧ (1 : Int) ≤ (7 : Int) ∧ xs_12.length ≤ 1000000
abbrev zXG1 (xs : List Int) : Nat := (xs.length + 6) / 7 * 7
abbrev zXG7 (x_17 : Nat) (xs : List Int) : Prop := Lf (x_17 ≤ zXG1 xs ∧ cntM (xs.take x_17) = 0)
abbrev zXG0 (bs : List UInt8) (xs : List Int) (ref round : Int) (l : List Int) (x_17 : Nat) : List UInt8 := bs ++ hdrM xs ref round ++ bitsM (sgsM xs l) x_17
abbrev zXG10 (bs : List UInt8) (xs : List Int) (ref round : Int) (l : List Int) (x_17 : Nat) : List AV := ofBytes (zXG0 bs xs ref round l x_17)
abbrev zXG4 (bs : List UInt8) (xs : List Int) (ref round : Int) (l : List Int) (x_17 : Nat) : AV := .sl 0 (zXG0 bs xs ref round l x_17).length 0 (zXG0 bs xs ref round l x_17).length 1
abbrev zXG12 (t : Nat) (xs : List Int) : Prop := eqqQ (AV.lst t (cellsI xs) xs.length 1)
abbrev zXG20 (xs l : List Int) (x_17 : Nat) : AV := .int .i64 (curM (sgsM xs l) x_17)
abbrev zXG6 (x_17 : Nat) (xs : List Int) : Prop := Lf (x_17 ≤ zXG1 xs ∧ 1 ≤ cntM (xs.take x_17))
abbrev zXG8 (n_18 : Int) (xs : List Int) : Bool := decide (0 ≤ n_18) && Nat.blt n_18.toNat xs.length && true
abbrev zXG14 (n_18 : Int) (xs : List Int) : Bool := Nat.blt (n_18.toNat * 1) (cellsI xs).length
abbrev zXG15 (xs : List Int) (n_18 : Int) : AV := (cellsI xs).getD (n_18.toNat * 1) AV.undef
abbrev zXG18 (n_30 : Int) : Nat := (n_30 % 18446744073709551616).toNat
abbrev zXG27 (n_31 : Int) : Int := ((49152 ||| zXG18 n_31 : Nat) : Int)
abbrev zXG23 (bs : List UInt8) (xs : List Int) (ref round : Int) (l : List Int) (x_17 : Nat) (bs_34 : List UInt8) (n_33 : Int) (xs_35 : List Int) : Prop := (zXG0 bs xs ref round l x_17).length = bs_34.length ∧ (zXG0 bs xs ref round l x_17).length = bs_34.length ∧ zXG3 bs_34 n_33 xs_35
abbrev zXG13 : Prop := True ∧ (0 : Nat) = (0 : Nat)
abbrev zXG17 (xs : List Int) (x_17 : Nat) (bs_34 : List UInt8) (xs_35 : List Int) (bs : List UInt8) (ref round : Int) (l : List Int) : Prop := ∃ y_37 : Nat, zXG7 y_37 xs ∧ zXG1 xs - y_37 < zXG1 xs - x_17 ∧ ofBytes (bs_34 ++ putM 2 xs_35) = zXG10 bs xs ref round l y_37 ∧ False
abbrev zXG22 (xs : List Int) (y_37 x_17 : Nat) : Prop := zXG1 xs - y_37 < zXG1 xs - x_17
abbrev zXG2 (y_37 : Nat) (xs l : List Int) : List UInt8 := tailM (l.take (cntM (xs.take y_37)))
abbrev zXG26 (y_37 : Nat) (xs l : List Int) : List AV := ofBytes (zXG2 y_37 xs l)
abbrev zXG21 (bs_34 : List UInt8) (xs_35 : List Int) : AV := .sl 0 (bs_34 ++ putM 2 xs_35).length 0 (bs_34 ++ putM 2 xs_35).length 1
abbrev zXG16 (n_36 : Int) (y_37 : Nat) : Prop := AV.int .i64 n_36 = AV.int .i64 (y_37 : Int)
abbrev zXG5 (xs : List Int) (x_17 : Nat) (bs : List UInt8) (ref round : Int) (l : List Int) : Prop := ∃ y_34 : Nat, Lf (y_34 ≤ zXG1 xs ∧ cntM (xs.take y_34) = 0) ∧ zXG22 xs y_34 x_17 ∧ ofBytes (zXG0 bs xs ref round l x_17) = ofBytes (zXG0 bs xs ref round l y_34) ∧ False
abbrev zXG9 (x_17 : Nat) (xs l : List Int) : List AV := ((zXG26 x_17 xs l).drop 0).take ((zXG2 x_17 xs l).length * 1)
theorem vc_68 (t : Nat) (xs : List Int) (l : List Int) (ref : Int) (round : Int) (bs : List UInt8) (Q : Out → List Blk → Gh → Prop) : goal_68 (lookV [(278548, .bool), (278537, .bool), (278551, .int .i64), (278563, .int .i64), (278564, .int
 .i64), (278565, .int .i64), (278566, .int .i64), (278569, .int .i64), (278572, .int .i64), (278578, .int .i64), (278584, .int .i64), (278585, .int .i64), (278592, .int .i64), (278597, .int .i64), (278598, .int .i64), (278600, .int .i64),
 (278602, .int .i64), (278606, .int .i64), (278609, .int .i64), (278582, .int .i64), (278590, .int .i64), (278595, .int .i64), (278596, .int .i64)]) (lookB [(282622, true)]) t xs l ref round bs Q = (∃ xs_0 : List Int, Lf (cellsI xs = cellsI
 xs_0 ∧ xs.length = xs_0.length ∧ zXG25 xs_0) ∧ ∀ r_1 : Int, ∀ l_2 : List Int, ∀ b_3 : Bool, Lf (stepsRM xs_0 = Prod.mk r_1 (Prod.mk l_2 b_3)) → exB (.bool b_3) (fun b_4 => exB (.bool b_4) (fun b_5 => exI .i64 (xs.length : Int) (fun n_6 =>
 ∃ bs_7 : List UInt8, ∃ xs_8 : List Int, Lf (GetElem?.getElem? [zXG11 bs] 0 = Option.some (zXG11 bs_7) ∧ bs.length = bs_7.length ∧ bs.length = bs_7.length ∧ zXG3 bs_7 n_6 xs_8) ∧ ∃ bs_9 : List UInt8, ∃ xs_10 : List Int, Lf
 (GetElem?.getElem? [Blk.mk BK.grow true (zXG19 bs_7 xs_8)] 0 = Option.some (zXG11 bs_9) ∧ (bs_7 ++ putM 2 xs_8).length = bs_9.length ∧ (bs_7 ++ putM 2 xs_8).length = bs_9.length ∧ bs_9.length ≤ 1000000 ∧ [AV.int .i64 r_1] = cellsI xs_10 ∧
 1 = xs_10.length ∧ (1 : Int) ≤ (3 : Int) ∧ (3 : Int) ≤ (7 : Int) ∧ zXG25 xs_10) ∧ ∃ bs_11 : List UInt8, ∃ xs_12 : List Int, Lf (GetElem?.getElem? [Blk.mk BK.grow true (ofBytes (bs_9 ++ putM 3 xs_10))] 0 = Option.some (zXG11 bs_11) ∧ (bs_9
 ++ putM 3 xs_10).length = bs_11.length ∧ (bs_9 ++ putM 3 xs_10).length = bs_11.length ∧ bs_11.length ≤ 1000000 ∧ zXG24 round xs_12) ∧ exI .i64 (xs.length : Int) (fun n_13 => exW .i64 (n_13 + 6) (fun n_14 => exW .i64 (n_14.tdiv 7) (fun n_15
 => exW .i64 (n_15 * 7) (fun n_16 => ((∃ x_17 : Nat, zXG7 x_17 xs ∧ ofBytes (bs_11 ++ putM 1 xs_12) = zXG10 bs xs ref round l x_17 ∧ AV.sl 0 (bs_11 ++ putM 1 xs_12).length 0 (bs_11 ++ putM 1 xs_12).length 1 = zXG4 bs xs ref round l x_17 ∧
 zXG12 t xs ∧ AV.int .i64 0 = AV.int .i64 (x_17 : Int) ∧ AV.int .i64 0 = zXG20 xs l x_17 ∧ AV.lst 0 (cellsI l_2) l_2.length 1 = AV.lst 0 (cellsI l) l.length 1 ∧ eqqQ (AV.int .i64 0) ∧ AV.nils = AV.nils ∧ AV.int .i64 n_16 = AV.int .i64
 ((zXG1 xs : Nat) : Int) ∧ True) ∨ ∃ x_17 : Nat, zXG6 x_17 xs ∧ ofBytes (bs_11 ++ putM 1 xs_12) = zXG10 bs xs ref round l x_17 ∧ False) ∧ (∀ x_17 : Nat, zXG7 x_17 xs → bif decide ((x_17 : Int) < ((zXG1 xs : Nat) : Int)) then exI .i64 (x_17
 : Int) (fun n_18 => exI .i64 (xs.length : Int) (fun n_19 => bif decide (n_18 < n_19) then ckQ (zXG8 n_18 xs) (ckQ (zXG14 n_18 xs) (exV .i64 (zXG15 xs n_18) (fun n_20 => bif n_20 != -1 then exI .i64 0 (fun n_21 => ckQ (zXG8 n_21 l) (ckQ
 (zXG14 n_21 l) (exV .i64 (zXG15 l n_21) (fun n_22 => exI .i64 (Int.fdiv n_22 256) (fun n_23 => bif n_23 != 0 then exI .i64 0 (fun n_24 => ckQ (zXG8 n_24 l) (ckQ (zXG14 n_24 l) (exV .i64 (zXG15 l n_24) (fun n_25 => ∃ xs_26 : List Int, Lf
 ([AV.int .i64 n_25] = cellsI xs_26 ∧ 1 = xs_26.length ∧ (1 : Int) ≤ (2 : Int) ∧ (2 : Int) ≤ (7 : Int) ∧ 1 ≤ xs_26.length ∧ zXG25 xs_26) ∧ exI .i64 0 (fun n_27 => exW .i64 (n_27 + 1) (fun n_28 => exI .i64 (curM (sgsM xs l) x_17) (fun n_29
 => exW .i64 (n_29 * 4) (fun n_30 => exW .i64 ((zXG18 n_30 ||| 2 : Nat) : Int) (fun n_31 => exI .i64 (n_18.tmod 7) (fun n_32 => bif n_32 == 6 then exW .i64 (zXG27 n_31) (fun n_33 => ∃ bs_34 : List UInt8, ∃ xs_35 : List Int, Lf
 (GetElem?.getElem? [Blk.mk BK.grow true (zXG10 bs xs ref round l x_17), Blk.mk BK.grow true (ofBytes (putM 2 xs_26))] 0 = Option.some (zXG11 bs_34) ∧ zXG23 bs xs ref round l x_17 bs_34 n_33 xs_35) ∧ exW .i64 ((x_17 : Int) + 1) (fun n_36 =>
 zXG13 ∧ (zXG17 xs x_17 bs_34 xs_35 bs ref round l ∨ ∃ y_37 : Nat, zXG6 y_37 xs ∧ zXG22 xs y_37 x_17 ∧ zXG19 bs_34 xs_35 = zXG10 bs xs ref round l y_37 ∧ ofBytes (putM 2 xs_26) = zXG26 y_37 xs l ∧ zXG21 bs_34 xs_35 = zXG4 bs xs ref round l
 y_37 ∧ zXG12 t xs ∧ zXG16 n_36 y_37 ∧ AV.int .i64 0 = zXG20 xs l y_37 ∧ q4XG_68_5 l n_28 y_37 xs xs_26))) else exW .i64 ((x_17 : Int) + 1) (fun n_33 => zXG13 ∧ (zXG5 xs x_17 bs ref round l ∨ ∃ y_34 : Nat, zXG6 y_34 xs ∧ zXG22 xs y_34 x_17
 ∧ zXG10 bs xs ref round l x_17 = zXG10 bs xs ref round l y_34 ∧ ofBytes (putM 2 xs_26) = zXG26 y_34 xs l ∧ zXG4 bs xs ref round l x_17 = zXG4 bs xs ref round l y_34 ∧ zXG12 t xs ∧ zXG16 n_33 y_34 ∧ AV.int .i64 n_31 = zXG20 xs l y_34 ∧
 q4XG_68_5 l n_28 y_34 xs xs_26)))))))))))) else exI .i64 0 (fun n_24 => ckQ (zXG8 n_24 l) (ckQ (zXG14 n_24 l) (exV .i64 (zXG15 l n_24) (fun n_25 => ∃ xs_26 : List Int, Lf ([AV.int .i64 n_25] = cellsI xs_26 ∧ 1 = xs_26.length ∧ (1 : Int) ≤
 (1 : Int) ∧ (1 : Int) ≤ (7 : Int) ∧ 1 ≤ xs_26.length ∧ zXG25 xs_26) ∧ exI .i64 0 (fun n_27 => exW .i64 (n_27 + 1) (fun n_28 => exI .i64 (curM (sgsM xs l) x_17) (fun n_29 => exW .i64 (n_29 * 4) (fun n_30 => exW .i64 ((zXG18 n_30 ||| 1 :
 Nat) : Int) (fun n_31 => exI .i64 (n_18.tmod 7) (fun n_32 => bif n_32 == 6 then exW .i64 (zXG27 n_31) (fun n_33 => ∃ bs_34 : List UInt8, ∃ xs_35 : List Int, Lf (GetElem?.getElem? [Blk.mk BK.grow true (zXG10 bs xs ref round l x_17), Blk.mk
 BK.grow true (ofBytes (putM 1 xs_26))] 0 = Option.some (zXG11 bs_34) ∧ zXG23 bs xs ref round l x_17 bs_34 n_33 xs_35) ∧ exW .i64 ((x_17 : Int) + 1) (fun n_36 => zXG13 ∧ (zXG17 xs x_17 bs_34 xs_35 bs ref round l ∨ ∃ y_37 : Nat, zXG6 y_37 xs
 ∧ zXG22 xs y_37 x_17 ∧ zXG19 bs_34 xs_35 = zXG10 bs xs ref round l y_37 ∧ ofBytes (putM 1 xs_26) = zXG26 y_37 xs l ∧ zXG21 bs_34 xs_35 = zXG4 bs xs ref round l y_37 ∧ zXG12 t xs ∧ zXG16 n_36 y_37 ∧ AV.int .i64 0 = zXG20 xs l y_37 ∧
 q4XG_68_6 l n_28 y_37 xs xs_26))) else exW .i64 ((x_17 : Int) + 1) (fun n_33 => zXG13 ∧ (zXG5 xs x_17 bs ref round l ∨ ∃ y_34 : Nat, zXG6 y_34 xs ∧ zXG22 xs y_34 x_17 ∧ zXG10 bs xs ref round l x_17 = zXG10 bs xs ref round l y_34 ∧ ofBytes
 (putM 1 xs_26) = zXG26 y_34 xs l ∧ zXG4 bs xs ref round l x_17 = zXG4 bs xs ref round l y_34 ∧ zXG12 t xs ∧ zXG16 n_33 y_34 ∧ AV.int .i64 n_31 = zXG20 xs l y_34 ∧ q4XG_68_6 l n_28 y_34 xs xs_26))))))))))))))))) else ∃ n_21 : Int, q4XG_68_1
 xs l x_17 n_21 n_18 bs ref round t))) else ∃ n_20 : Int, q4XG_68_1 xs l x_17 n_20 n_18 bs ref round t)) else q4XG_68_2 bs xs ref round l x_17 Q) ∧ ∀ x_17 : Nat, zXG6 x_17 xs → bif decide ((x_17 : Int) < ((zXG1 xs : Nat) : Int)) then exI
 .i64 (x_17 : Int) (fun n_18 => exI .i64 (xs.length : Int) (fun n_19 => bif decide (n_18 < n_19) then ckQ (zXG8 n_18 xs) (ckQ (zXG14 n_18 xs) (exV .i64 (zXG15 xs n_18) (fun n_20 => bif n_20 != -1 then exI .i64 (cntM (xs.take x_17) : Int)
 (fun n_21 => ckQ (zXG8 n_21 l) (ckQ (zXG14 n_21 l) (exV .i64 (zXG15 l n_21) (fun n_22 => exI .i64 (Int.fdiv n_22 256) (fun n_23 => bif n_23 != 0 then exI .i64 (cntM (xs.take x_17) : Int) (fun n_24 => ckQ (zXG8 n_24 l) (ckQ (zXG14 n_24 l)
 (exV .i64 (zXG15 l n_24) (fun n_25 => ∃ bs_26 : List UInt8, ∃ xs_27 : List Int, Lf (GetElem?.getElem? [Blk.mk BK.grow true (zXG10 bs xs ref round l x_17), Blk.mk BK.grow true (zXG26 x_17 xs l)] 1 = Option.some (zXG11 bs_26) ∧ (zXG2 x_17 xs
 l).length = bs_26.length ∧ (zXG2 x_17 xs l).length = bs_26.length ∧ zXG3 bs_26 n_25 xs_27) ∧ exI .i64 (cntM (xs.take x_17) : Int) (fun n_28 => exW .i64 (n_28 + 1) (fun n_29 => exI .i64 (curM (sgsM xs l) x_17) (fun n_30 => exW .i64 (n_30 *
 4) (fun n_31 => exW .i64 ((zXG18 n_31 ||| 2 : Nat) : Int) (fun n_32 => exI .i64 (n_18.tmod 7) (fun n_33 => bif n_33 == 6 then exW .i64 (zXG27 n_32) (fun n_34 => ∃ bs_35 : List UInt8, ∃ xs_36 : List Int, Lf (GetElem?.getElem? [Blk.mk
 BK.grow true (zXG10 bs xs ref round l x_17), Blk.mk BK.grow true (zXG19 bs_26 xs_27)] 0 = Option.some (zXG11 bs_35) ∧ zXG23 bs xs ref round l x_17 bs_35 n_34 xs_36) ∧ exW .i64 ((x_17 : Int) + 1) (fun n_37 => zXG13 ∧ (zXG17 xs x_17 bs_35
 xs_36 bs ref round l ∨ ∃ y_38 : Nat, zXG6 y_38 xs ∧ zXG22 xs y_38 x_17 ∧ zXG19 bs_35 xs_36 = zXG10 bs xs ref round l y_38 ∧ zXG19 bs_26 xs_27 = zXG26 y_38 xs l ∧ zXG21 bs_35 xs_36 = zXG4 bs xs ref round l y_38 ∧ zXG12 t xs ∧ zXG16 n_37
 y_38 ∧ AV.int .i64 0 = zXG20 xs l y_38 ∧ q4XG_68_3 l n_29 y_38 xs bs_26 xs_27))) else exW .i64 ((x_17 : Int) + 1) (fun n_34 => zXG13 ∧ (zXG5 xs x_17 bs ref round l ∨ ∃ y_35 : Nat, zXG6 y_35 xs ∧ zXG22 xs y_35 x_17 ∧ zXG10 bs xs ref round l
 x_17 = zXG10 bs xs ref round l y_35 ∧ zXG19 bs_26 xs_27 = zXG26 y_35 xs l ∧ zXG4 bs xs ref round l x_17 = zXG4 bs xs ref round l y_35 ∧ zXG12 t xs ∧ zXG16 n_34 y_35 ∧ AV.int .i64 n_32 = zXG20 xs l y_35 ∧ q4XG_68_3 l n_29 y_35 xs bs_26
 xs_27)))))))))))) else exI .i64 (cntM (xs.take x_17) : Int) (fun n_24 => ckQ (zXG8 n_24 l) (ckQ (zXG14 n_24 l) (exV .i64 (zXG15 l n_24) (fun n_25 => ∃ bs_26 : List UInt8, ∃ xs_27 : List Int, Lf (GetElem?.getElem? [Blk.mk BK.grow true
 (zXG10 bs xs ref round l x_17), Blk.mk BK.grow true (zXG26 x_17 xs l)] 1 = Option.some (zXG11 bs_26) ∧ (zXG2 x_17 xs l).length = bs_26.length ∧ (zXG2 x_17 xs l).length = bs_26.length ∧ bs_26.length ≤ 1000000 ∧ zXG24 n_25 xs_27) ∧ exI .i64
 (cntM (xs.take x_17) : Int) (fun n_28 => exW .i64 (n_28 + 1) (fun n_29 => exI .i64 (curM (sgsM xs l) x_17) (fun n_30 => exW .i64 (n_30 * 4) (fun n_31 => exW .i64 ((zXG18 n_31 ||| 1 : Nat) : Int) (fun n_32 => exI .i64 (n_18.tmod 7) (fun
 n_33 => bif n_33 == 6 then exW .i64 (zXG27 n_32) (fun n_34 => ∃ bs_35 : List UInt8, ∃ xs_36 : List Int, Lf (GetElem?.getElem? [Blk.mk BK.grow true (zXG10 bs xs ref round l x_17), Blk.mk BK.grow true (ofBytes (bs_26 ++ putM 1 xs_27))] 0 =
 Option.some (zXG11 bs_35) ∧ zXG23 bs xs ref round l x_17 bs_35 n_34 xs_36) ∧ exW .i64 ((x_17 : Int) + 1) (fun n_37 => zXG13 ∧ (zXG17 xs x_17 bs_35 xs_36 bs ref round l ∨ ∃ y_38 : Nat, zXG6 y_38 xs ∧ zXG22 xs y_38 x_17 ∧ zXG19 bs_35 xs_36 =
 zXG10 bs xs ref round l y_38 ∧ ofBytes (bs_26 ++ putM 1 xs_27) = zXG26 y_38 xs l ∧ zXG21 bs_35 xs_36 = zXG4 bs xs ref round l y_38 ∧ zXG12 t xs ∧ zXG16 n_37 y_38 ∧ AV.int .i64 0 = zXG20 xs l y_38 ∧ q4XG_68_4 l n_29 y_38 xs bs_26 xs_27)))
 else exW .i64 ((x_17 : Int) + 1) (fun n_34 => zXG13 ∧ (zXG5 xs x_17 bs ref round l ∨ ∃ y_35 : Nat, zXG6 y_35 xs ∧ zXG22 xs y_35 x_17 ∧ zXG10 bs xs ref round l x_17 = zXG10 bs xs ref round l y_35 ∧ ofBytes (bs_26 ++ putM 1 xs_27) = zXG26
 y_35 xs l ∧ zXG4 bs xs ref round l x_17 = zXG4 bs xs ref round l y_35 ∧ zXG12 t xs ∧ zXG16 n_34 y_35 ∧ AV.int .i64 n_32 = zXG20 xs l y_35 ∧ q4XG_68_4 l n_29 y_35 xs bs_26 xs_27))))))))))))))))) else ∃ n_21 : Int, q4XG_68_0 xs l x_17 n_21
 n_18 bs ref round t))) else ∃ n_20 : Int, q4XG_68_0 xs l x_17 n_20 n_18 bs ref round t)) else ckQ (Nat.beq (zXG26 x_17 xs l).length (zXG2 x_17 xs l).length && true && Nat.ble (0 + (zXG2 x_17 xs l).length * 1) (zXG2 x_17 xs l).length &&
 oneL (zXG9 x_17 xs l) && true && Nat.ble ((zXG2 x_17 xs l).length * 1) 1099511627776) (bif Nat.beq (zXG2 x_17 xs l).length 0 then ckQ (Nat.beq (zXG2 x_17 xs l).length 0) (q4XG_68_2 bs xs ref round l x_17 Q) else ckQ (Nat.blt 0 (zXG2 x_17
 xs l).length) (ckQ (Nat.beq (zXG10 bs xs ref round l x_17).length (zXG0 bs xs ref round l x_17).length && true && Nat.beq (0 + (zXG0 bs xs ref round l x_17).length * 1) (zXG0 bs xs ref round l x_17).length && Nat.ble ((zXG0 bs xs ref round
 l x_17).length + (zXG2 x_17 xs l).length) 1099511627776 && Nat.ble (((zXG0 bs xs ref round l x_17).length + (zXG2 x_17 xs l).length) * 1) 1099511627776) (((oldL 0 (zXG9 x_17 xs l) || oldL 1 (zXG10 bs xs ref round l x_17 ++ zXG9 x_17 xs l))
 && true) = true ∧ Q (.ret (.sl 0 ((zXG0 bs xs ref round l x_17).length + (zXG9 x_17 xs l).length) 0 ((zXG0 bs xs ref round l x_17).length + (zXG2 x_17 xs l).length) 1)) [Blk.mk BK.grow (oldL 0 (zXG9 x_17 xs l)) (zXG10 bs xs ref round l
 x_17 ++ zXG9 x_17 xs l)] {}))))))))))) := by kernel_rfl

theorem cnt_take {xs : List Int} {i : Nat} (hi : i < xs.length) : cntM (xs.take (i + 1)) = cntM (xs.take i) + (if xs.getD i 0 = -1 then 0 else 1) := by
 have e : xs.take (i + 1) = xs.take i ++ [xs.getD i 0] := by
  rw [List.take_add_one, List.getD_eq_getElem?_getD, List.getElem?_eq_getElem hi]; rfl
 rw [e, cntM, List.filter_append, List.length_append]
 rw [cntM]
 congr 1
 generalize xs.getD i 0 = x
 by_cases h : x = -1
 ·subst h; rfl
 ·rw [if_neg h, List.filter_cons_of_pos (by simpa using h)]; rfl
theorem cnt_over {xs : List Int} {i : Nat} (hi : xs.length ≤ i) : xs.take (i + 1) = xs.take i := by
 rw [List.take_of_length_le hi, List.take_of_length_le (by omega)]
theorem cnt_le {xs : List Int} (i : Nat) : cntM (xs.take i) ≤ cntM xs := by
 conv => rhs; rw [← List.take_append_drop i xs]
 rw [cntM, cntM, List.filter_append, List.length_append]; omega
theorem cnt_len (xs : List Int) : cntM xs ≤ xs.length := List.length_filter_le _ _
theorem sgs_len : ∀ (xs l : List Int), (sgsM xs l).length = xs.length
 | [], _ => rfl
 | t :: ts, l => by
  rw [sgsM]
  split <;> simp [sgs_len ts]
theorem sgs_get : ∀ (xs l : List Int) (i : Nat), i < xs.length → (sgsM xs l).getD i 0 = if xs.getD i 0 = -1 then 0 else sgnM (l.getD (cntM (xs.take i)) 0)
 | [], _, i, h => by simp at h
 | t :: ts, l, 0, h => by
  rw [sgsM]
  by_cases ht : t = -1
  ·simp [ht]
  ·simp [ht, cntM]
 | t :: ts, l, i + 1, h => by
  rw [sgsM]
  by_cases ht : t = -1
  ·have ih := sgs_get ts l i (by simpa using h)
   have e : cntM ((t :: ts).take (i + 1)) = cntM (ts.take i) := by rw [List.take_succ_cons, cntM, List.filter_cons_of_neg (by simp [ht])]; rfl
   rw [if_pos ht, e, List.getD_cons_succ, ih, List.getD_cons_succ]
  ·have ih := sgs_get ts (l.drop 1) i (by simpa using h)
   have e : cntM ((t :: ts).take (i + 1)) = cntM (ts.take i) + 1 := by rw [List.take_succ_cons, cntM, List.filter_cons_of_pos (by simpa using ht)]; rfl
   rw [if_neg ht, e, List.getD_cons_succ, ih, List.getD_cons_succ]
   have e2 : (l.drop 1).getD (cntM (ts.take i)) 0 = l.getD (cntM (ts.take i) + 1) 0 := by
    rw [List.getD_eq_getElem?_getD, List.getD_eq_getElem?_getD, List.getElem?_drop, Nat.add_comm]
   rw [e2]
theorem sgn_two (d : Int) : sgnM d = 1 ∨ sgnM d = 2 := by
 unfold sgnM; split <;> simp
theorem sgs_le (xs l : List Int) (i : Nat) : 0 ≤ (sgsM xs l).getD i 0 ∧ (sgsM xs l).getD i 0 ≤ 2 := by
 by_cases h : i < xs.length
 ·rw [sgs_get xs l i h]
  split
  ·omega
  ·rcases sgn_two (l.getD (cntM (xs.take i)) 0) with e | e <;> omega
 ·rw [List.getD_eq_getElem?_getD, List.getElem?_eq_none (by rw [sgs_len]; omega)]; simp
theorem cur_le {S : List Int} (h : ∀ i, 0 ≤ S.getD i 0 ∧ S.getD i 0 ≤ 2) : ∀ i, 0 ≤ curM S i ∧ curM S i < 4 ^ (i % 7)
 | 0 => by simp [curM]
 | i + 1 => by
  have ih := cur_le h i
  have hs := h i
  rw [curM]
  split
  ·rename_i h6
   rw [show (i + 1) % 7 = 0 by omega]; simp
  ·rw [show (i + 1) % 7 = i % 7 + 1 by omega, Int.pow_succ]
   omega
theorem cur_lt {S : List Int} (h : ∀ i, 0 ≤ S.getD i 0 ∧ S.getD i 0 ≤ 2) (i : Nat) : 0 ≤ curM S i ∧ curM S i < 4096 := by
 have := cur_le h i
 have h2 : (4 : Int) ^ (i % 7) ≤ 4 ^ 6 := by
  have : i % 7 ≤ 6 := by omega
  generalize i % 7 = j at this
  obtain rfl | rfl | rfl | rfl | rfl | rfl | rfl : j = 0 ∨ j = 1 ∨ j = 2 ∨ j = 3 ∨ j = 4 ∨ j = 5 ∨ j = 6 := by omega
  all_goals decide
 omega
theorem bits_len (S : List Int) : ∀ i, (bitsM S i).length ≤ 2 * i
 | 0 => by simp [bitsM]
 | i + 1 => by
  have := bits_len S i
  rw [bitsM]
  split
  ·simp [putM, beM]; omega
  ·omega
theorem tail_take {l : List Int} {k : Nat} (hk : k < l.length) : tailM (l.take (k + 1)) = tailM (l.take k) ++ putM (sgnM (l.getD k 0)).toNat [l.getD k 0] := by
 have e : l.take (k + 1) = l.take k ++ [l.getD k 0] := by
  rw [List.take_add_one, List.getD_eq_getElem?_getD, List.getElem?_eq_getElem hk]; rfl
 rw [e, tailM, List.flatMap_append]
 simp [tailM]
theorem tail_len : ∀ l : List Int, (tailM l).length ≤ 2 * l.length
 | [] => by simp [tailM]
 | d :: l => by
  have := tail_len l
  have e : tailM (d :: l) = putM (sgnM d).toNat [d] ++ tailM l := rfl
  rw [e, List.length_append, put_len, List.length_cons]
  rcases sgn_two d with h | h <;> simp [h] <;> omega
theorem tail_ge : ∀ l : List Int, l.length ≤ (tailM l).length
 | [] => by simp [tailM]
 | d :: l => by
  have := tail_ge l
  have e : tailM (d :: l) = putM (sgnM d).toNat [d] ++ tailM l := rfl
  rw [e, List.length_append, put_len, List.length_cons]
  rcases sgn_two d with h | h <;> simp [h] <;> omega
theorem stepsGo_len : ∀ (xs : List Int) (r la : Int) (b : Bool) (acc : List Int) (p : Int × List Int), stepsGoM r la b xs acc = some p → p.2.length = acc.length + cntM xs
 | [], r, la, b, acc, p, h => by simp only [stepsGoM, Option.some.injEq] at h; subst h; simp [cntM]
 | t :: ts, r, la, b, acc, p, h => by
  rw [stepsGoM] at h
  split at h
  ·rename_i ht
   have := stepsGo_len ts _ _ _ _ _ h
   rw [this, cntM, cntM, List.filter_cons_of_neg (by simp [ht])]
  ·rename_i ht
   have e : cntM (t :: ts) = cntM ts + 1 := by rw [cntM, List.filter_cons_of_pos (by simpa using ht)]; rfl
   split at h
   ·cases h
   ·split at h
    ·have := stepsGo_len ts _ _ _ _ _ h
     rw [this, e]; simp; omega
    ·split at h
     ·cases h
     ·have := stepsGo_len ts _ _ _ _ _ h
      rw [this, e]; simp; omega
theorem steps_len {xs l : List Int} {ref : Int} (h : stepsM xs = some (ref, l)) : l.length = cntM xs := by
 have := stepsGo_len _ _ _ _ _ _ h
 simpa using this
theorem segS {c : Int} {s i : Nat} (hc : 0 ≤ c ∧ c < 4096) (hs : s < 4) {A B : Int → Prop} (h6 : i % 7 = 6 → A (49152 + (4 * c + (s : Int)))) (hn : i % 7 ≠ 6 → B (4 * c + (s : Int))) :
  ∃ n29, AV.int .i64 c = AV.int .i64 n29 ∧ ∃ n30, AV.int .i64 (IntKind.wrap .i64 (n29 * 4)) = AV.int .i64 n30 ∧ ∃ n31, AV.int .i64 (IntKind.wrap .i64 (((n30 % 18446744073709551616).toNat ||| s : Nat) : Int)) = AV.int .i64 n31 ∧ ∃ n32, AV.int .i64 (Int.tmod (i : Int) 7) = AV.int .i64 n32 ∧
   bif n32 == 6 then (∃ n33, AV.int .i64 (IntKind.wrap .i64 ((49152 ||| (n31 % 18446744073709551616).toNat : Nat) : Int)) = AV.int .i64 n33 ∧ A n33) else B n31 := by
 obtain ⟨c, rfl⟩ := Int.eq_ofNat_of_zero_le hc.1
 have e1 : (((c : Nat) : Int) * 4 % 18446744073709551616).toNat = 4 * c := by omega
 have e2 : 4 * c ||| s = 4 * c + s := (Nat.two_pow_add_eq_or_of_lt (i := 2) (by omega) c).symm
 refine ⟨_, rfl, wrapI (by omega) (by omega) ?_⟩
 rw [e1, e2]
 refine wrapI (by omega) (by omega) ⟨_, rfl, ?_⟩
 rw [show Int.tmod (i : Int) 7 = ((i % 7 : Nat) : Int) from rfl]
 refine splitE (fun h => ?_) (fun h => ?_)
 ·have e3 : (((4 * c + s : Nat) : Int) % 18446744073709551616).toNat = 4 * c + s := by omega
  have e4 : 49152 ||| (4 * c + s) = 49152 + (4 * c + s) := (Nat.two_pow_add_eq_or_of_lt (i := 14) (by omega) 3).symm
  rw [e3, e4]
  refine wrapI (by omega) (by omega) ?_
  have := h6 (by omega)
  rwa [show ((49152 + (4 * c + s) : Nat) : Int) = 49152 + (4 * ((c : Nat) : Int) + (s : Int)) by omega]
 ·have := hn (by omega)
  rwa [show ((4 * c + s : Nat) : Int) = 4 * ((c : Nat) : Int) + (s : Int) by omega]
theorem hdr_len (xs : List Int) (a b : Int) : (hdrM xs a b).length = 6 := by simp [hdrM, putM, beM]
theorem arr_run (t : Nat) (xs l : List Int) (ref round : Int) (bs : List UInt8) (hxs : 1 ≤ xs.length ∧ xs.length ≤ 64) (hbs : bs.length ≤ 10000) (hst : stepsM xs = some (ref, l)) (Q : Out → List Blk → Gh → Prop)
  (hq : Q (.ret (.sl 0 (bs ++ arrM xs round).length 0 (bs ++ arrM xs round).length 1)) [⟨.grow, true, ofBytes (bs ++ arrM xs round)⟩] {}) : ∃ hv hb, goal_68 hv hb t xs l ref round bs Q := by
 obtain ⟨hv, hb', e⟩ : ∃ hv hb, goal_68 hv hb t xs l ref round bs Q = _ := ⟨_, _, vc_68 t xs l ref round bs Q⟩
 refine ⟨hv, hb', e.mpr ?_⟩
 delta zXG25 zXG11 zXG3 zXG19 zXG24 zXG1 zXG7 zXG0 zXG10 zXG4 zXG12 zXG20 zXG6 zXG8 zXG14 zXG15 zXG18 zXG27 zXG23 zXG13 zXG17 zXG22 zXG2 zXG26 zXG21 zXG16 zXG5 zXG9
 unfold q4XG_68_0 q4XG_68_1 q4XG_68_2 q4XG_68_3 q4XG_68_4 q4XG_68_5 q4XG_68_6
 clear e
 have hll := steps_len hst
 have hc : cntM xs ≤ l.length := by omega
 have hcl := cnt_len xs
 have hS := sgs_le xs l
 have hC := cur_lt hS
 have htd : ((xs.length : Int) + 6).tdiv 7 = (((xs.length + 6) / 7 : Nat) : Int) := by
  rw [show ((xs.length : Int) + 6) = ((xs.length + 6 : Nat) : Int) by omega]; rfl
 refine ⟨xs, ⟨rfl, rfl, by omega⟩, ?_⟩
 rintro r l2 b ⟨hr⟩
 have hr2 : stepsRM xs = (ref, l, true) := by simp only [stepsRM, hst, decide_eq_true hxs]
 rw [hr2] at hr
 obtain ⟨rfl, rfl, rfl⟩ : ref = r ∧ l = l2 ∧ true = b := by simpa using hr
 refine ⟨_, rfl, _, rfl, _, rfl, bs, [(xs.length : Int)], ⟨rfl, rfl, rfl, by omega, rfl, rfl, by omega, by omega, by simp⟩, _, [ref], ⟨rfl, rfl, rfl, by simp [putM, beM]; omega, rfl, rfl, by omega, by omega, by simp⟩, _, [round], ⟨rfl, rfl, rfl, by simp [putM, beM]; omega, rfl, rfl, by omega, by omega, by simp⟩, _, rfl, wrapI (by omega) (by omega) ?_⟩
 rw [htd]
 refine wrapI (by omega) (by omega) (wrapI (by omega) (by omega) ⟨.inl ⟨0, ⟨by omega, rfl⟩, by simp [bitsM, hdrM], by simp [bitsM, hdrM], rfl, rfl, rfl, rfl, rfl, rfl, ?_, trivial⟩, ?_, ?_⟩)
 ·congr 1
 ·rintro i ⟨g1, g2⟩
  have b6 : i % 7 = 6 → ∀ s : Nat, (sgsM xs l).getD i 0 = (s : Int) → bs ++ hdrM xs ref round ++ bitsM (sgsM xs l) i ++ putM 2 [49152 + (4 * curM (sgsM xs l) i + (s : Int))] = bs ++ hdrM xs ref round ++ bitsM (sgsM xs l) (i + 1) ∧ curM (sgsM xs l) (i + 1) = 0 := fun h s hs => by
   rw [bitsM, if_pos h, curM, if_pos h, hs]; exact ⟨by simp only [List.append_assoc], rfl⟩
  have bn : i % 7 ≠ 6 → ∀ s : Nat, (sgsM xs l).getD i 0 = (s : Int) → bitsM (sgsM xs l) (i + 1) = bitsM (sgsM xs l) i ∧ curM (sgsM xs l) (i + 1) = 4 * curM (sgsM xs l) i + (s : Int) := fun h s hs => by
   rw [bitsM, if_neg h, curM, if_neg h, hs]; exact ⟨rfl, rfl⟩
  have bl := bits_len (sgsM xs l) i
  refine splitD (fun hlt => ⟨_, rfl, _, rfl, splitD (fun hi => ?_) (fun hi => ?_)⟩) (fun hge => ?_)
  ·have hi' : i < xs.length := by omega
   have hsg := sgs_get xs l i hi'
   have hct := cnt_take hi'
   have hcm := cnt_le (xs := xs) (i + 1)
   refine ckI (by simp; omega) (ckI (by simp [cellsI_len]; omega) (getI (i := i) (by omega) (by simp) (splitNE (fun he => ?_) (fun he => ?_))))
   ·rw [if_neg he] at hsg hct
    rw [g2] at hsg hct
    have ht := tail_take (l := l) (k := 0) (by omega)
    have htl := tail_len (l.take 0)
    rw [List.length_take] at htl
    refine ⟨_, rfl, ckI (by simp; omega) (ckI (by simp [cellsI_len]; omega) (getI (xs := l) (i := 0) (by omega) (by simp) ⟨_, rfl, ?_⟩))⟩
    rw [Int.fdiv_eq_ediv_of_nonneg _ (by omega)]
    refine splitNE (fun hd => ?_) (fun hd => ?_)
    ·have hs2 : sgnM (l.getD 0 0) = 2 := by unfold sgnM; exact if_neg (by omega)
     rw [hs2] at hsg ht
     rw [show Int.toNat 2 = 2 from rfl] at ht
     have hs := hsg
     have hc1 := hct
     refine ⟨_, rfl, ckI (by simp; omega) (ckI (by simp [cellsI_len]; omega) (getI (xs := l) (i := 0) (by omega) (by simp) ⟨[_], ⟨rfl, rfl, by omega, by omega, by simp, by simp⟩, ⟨_, rfl, wrapI (by omega) (by omega) (segS (s := 2) (hC i) (by omega) (fun h6 => ⟨_, [_], ⟨rfl, rfl, rfl, (by simp only [List.length_append, hdr_len]; omega), rfl, rfl, by omega, by omega, by simp⟩, wrapI (by omega) (by omega) ⟨⟨trivial, rfl⟩, .inr ⟨i + 1, ⟨by omega, by omega⟩, by omega, by rw [(b6 h6 2 hs).1], by rw [hc1]; exact congrArg ofBytes ht.symm, by rw [(b6 h6 2 hs).1], rfl, rfl, by rw [(b6 h6 2 hs).2], rfl, by rw [hc1]; rfl, by rw [hc1, ht]; rfl, rfl, trivial⟩⟩⟩) (fun h6 => wrapI (by omega) (by omega) ⟨⟨trivial, rfl⟩, .inr ⟨i + 1, ⟨by omega, by omega⟩, by omega, by rw [(bn h6 2 hs).1], by rw [hc1]; exact congrArg ofBytes ht.symm, by rw [(bn h6 2 hs).1], rfl, rfl, by rw [(bn h6 2 hs).2], rfl, by rw [hc1]; rfl, by rw [hc1, ht]; rfl, rfl, trivial⟩⟩))⟩⟩))⟩
    ·have hs1 : sgnM (l.getD 0 0) = 1 := by unfold sgnM; exact if_pos (by omega)
     rw [hs1] at hsg ht
     rw [show Int.toNat 1 = 1 from rfl] at ht
     have hs := hsg
     have hc1 := hct
     refine ⟨_, rfl, ckI (by simp; omega) (ckI (by simp [cellsI_len]; omega) (getI (xs := l) (i := 0) (by omega) (by simp) ⟨[_], ⟨rfl, rfl, by omega, by omega, by simp, by simp⟩, ⟨_, rfl, wrapI (by omega) (by omega) (segS (s := 1) (hC i) (by omega) (fun h6 => ⟨_, [_], ⟨rfl, rfl, rfl, (by simp only [List.length_append, hdr_len]; omega), rfl, rfl, by omega, by omega, by simp⟩, wrapI (by omega) (by omega) ⟨⟨trivial, rfl⟩, .inr ⟨i + 1, ⟨by omega, by omega⟩, by omega, by rw [(b6 h6 1 hs).1], by rw [hc1]; exact congrArg ofBytes ht.symm, by rw [(b6 h6 1 hs).1], rfl, rfl, by rw [(b6 h6 1 hs).2], rfl, by rw [hc1]; rfl, by rw [hc1, ht]; rfl, rfl, trivial⟩⟩⟩) (fun h6 => wrapI (by omega) (by omega) ⟨⟨trivial, rfl⟩, .inr ⟨i + 1, ⟨by omega, by omega⟩, by omega, by rw [(bn h6 1 hs).1], by rw [hc1]; exact congrArg ofBytes ht.symm, by rw [(bn h6 1 hs).1], rfl, rfl, by rw [(bn h6 1 hs).2], rfl, by rw [hc1]; rfl, by rw [hc1, ht]; rfl, rfl, trivial⟩⟩))⟩⟩))⟩
   ·rw [if_pos he] at hsg hct
    have hs := hsg
    have hc1 : cntM (xs.take (i + 1)) = 0 := by omega
    exact segS (s := 0) (hC i) (by omega) (fun h6 => ⟨_, [_], ⟨rfl, rfl, rfl, (by simp only [List.length_append, hdr_len]; omega), rfl, rfl, by omega, by omega, by simp⟩, wrapI (by omega) (by omega) ⟨⟨trivial, rfl⟩, .inl ⟨i + 1, ⟨by omega, hc1⟩, by omega, by rw [(b6 h6 0 hs).1], by rw [(b6 h6 0 hs).1], rfl, rfl, by rw [(b6 h6 0 hs).2], rfl, rfl, rfl, rfl, trivial⟩⟩⟩) (fun h6 => wrapI (by omega) (by omega) ⟨⟨trivial, rfl⟩, .inl ⟨i + 1, ⟨by omega, hc1⟩, by omega, by rw [(bn h6 0 hs).1], by rw [(bn h6 0 hs).1], rfl, rfl, by rw [(bn h6 0 hs).2], rfl, rfl, rfl, rfl, trivial⟩⟩)
  ·have hs : (sgsM xs l).getD i 0 = 0 := by rw [List.getD_eq_getElem?_getD, List.getElem?_eq_none (by rw [sgs_len]; omega)]; rfl
   have hc1 : cntM (xs.take (i + 1)) = 0 := by rw [cnt_over (by omega)]; exact g2
   exact segS (s := 0) (hC i) (by omega) (fun h6 => ⟨_, [_], ⟨rfl, rfl, rfl, (by simp only [List.length_append, hdr_len]; omega), rfl, rfl, by omega, by omega, by simp⟩, wrapI (by omega) (by omega) ⟨⟨trivial, rfl⟩, .inl ⟨i + 1, ⟨by omega, hc1⟩, by omega, by rw [(b6 h6 0 hs).1], by rw [(b6 h6 0 hs).1], rfl, rfl, by rw [(b6 h6 0 hs).2], rfl, rfl, rfl, rfl, trivial⟩⟩⟩) (fun h6 => wrapI (by omega) (by omega) ⟨⟨trivial, rfl⟩, .inl ⟨i + 1, ⟨by omega, hc1⟩, by omega, by rw [(bn h6 0 hs).1], by rw [(bn h6 0 hs).1], rfl, rfl, by rw [(bn h6 0 hs).2], rfl, rfl, rfl, rfl, trivial⟩⟩)
  ·have hi : i = (xs.length + 6) / 7 * 7 := by omega
   subst hi
   have hx : xs.take ((xs.length + 6) / 7 * 7) = xs := List.take_of_length_le (by omega)
   rw [hx] at g2 
   have hl0 : l = [] := List.eq_nil_of_length_eq_zero (by omega)
   have ha : bs ++ arrM xs round = bs ++ hdrM xs ref round ++ bitsM (sgsM xs l) ((xs.length + 6) / 7 * 7) := by
    simp only [arrM, hst, List.append_assoc]; rw [hl0]; simp [tailM]
   rw [ha] at hq
   exact ckI (by simp [ofB_len]) ⟨rfl, hq⟩
 ·rintro i ⟨g1, g2⟩
  have b6 : i % 7 = 6 → ∀ s : Nat, (sgsM xs l).getD i 0 = (s : Int) → bs ++ hdrM xs ref round ++ bitsM (sgsM xs l) i ++ putM 2 [49152 + (4 * curM (sgsM xs l) i + (s : Int))] = bs ++ hdrM xs ref round ++ bitsM (sgsM xs l) (i + 1) ∧ curM (sgsM xs l) (i + 1) = 0 := fun h s hs => by
   rw [bitsM, if_pos h, curM, if_pos h, hs]; exact ⟨by simp only [List.append_assoc], rfl⟩
  have bn : i % 7 ≠ 6 → ∀ s : Nat, (sgsM xs l).getD i 0 = (s : Int) → bitsM (sgsM xs l) (i + 1) = bitsM (sgsM xs l) i ∧ curM (sgsM xs l) (i + 1) = 4 * curM (sgsM xs l) i + (s : Int) := fun h s hs => by
   rw [bitsM, if_neg h, curM, if_neg h, hs]; exact ⟨rfl, rfl⟩
  have bl := bits_len (sgsM xs l) i
  refine splitD (fun hlt => ⟨_, rfl, _, rfl, splitD (fun hi => ?_) (fun hi => ?_)⟩) (fun hge => ?_)
  ·have hi' : i < xs.length := by omega
   have hsg := sgs_get xs l i hi'
   have hct := cnt_take hi'
   have hcm := cnt_le (xs := xs) (i + 1)
   refine ckI (by simp; omega) (ckI (by simp [cellsI_len]; omega) (getI (i := i) (by omega) (by simp) (splitNE (fun he => ?_) (fun he => ?_))))
   ·rw [if_neg he] at hsg hct

    have ht := tail_take (l := l) (k := (cntM (xs.take i))) (by omega)
    have htl := tail_len (l.take (cntM (xs.take i)))
    rw [List.length_take] at htl
    refine ⟨_, rfl, ckI (by simp; omega) (ckI (by simp [cellsI_len]; omega) (getI (xs := l) (i := (cntM (xs.take i))) (by omega) (by simp) ⟨_, rfl, ?_⟩))⟩
    rw [Int.fdiv_eq_ediv_of_nonneg _ (by omega)]
    refine splitNE (fun hd => ?_) (fun hd => ?_)
    ·have hs2 : sgnM (l.getD (cntM (xs.take i)) 0) = 2 := by unfold sgnM; exact if_neg (by omega)
     rw [hs2] at hsg ht
     rw [show Int.toNat 2 = 2 from rfl] at ht
     have hs := hsg
     have hc1 := hct
     refine ⟨_, rfl, ckI (by simp; omega) (ckI (by simp [cellsI_len]; omega) (getI (xs := l) (i := (cntM (xs.take i))) (by omega) (by simp) ⟨_, [_], ⟨rfl, rfl, rfl, by omega, rfl, rfl, by omega, by omega, by simp⟩, ⟨_, rfl, wrapI (by omega) (by omega) (segS (s := 2) (hC i) (by omega) (fun h6 => ⟨_, [_], ⟨rfl, rfl, rfl, (by simp only [List.length_append, hdr_len]; omega), rfl, rfl, by omega, by omega, by simp⟩, wrapI (by omega) (by omega) ⟨⟨trivial, rfl⟩, .inr ⟨i + 1, ⟨by omega, by omega⟩, by omega, by rw [(b6 h6 2 hs).1], by rw [hc1, ht], by rw [(b6 h6 2 hs).1], rfl, rfl, by rw [(b6 h6 2 hs).2], rfl, by rw [hc1]; rfl, by rw [hc1, ht], rfl, trivial⟩⟩⟩) (fun h6 => wrapI (by omega) (by omega) ⟨⟨trivial, rfl⟩, .inr ⟨i + 1, ⟨by omega, by omega⟩, by omega, by rw [(bn h6 2 hs).1], by rw [hc1, ht], by rw [(bn h6 2 hs).1], rfl, rfl, by rw [(bn h6 2 hs).2], rfl, by rw [hc1]; rfl, by rw [hc1, ht], rfl, trivial⟩⟩))⟩⟩))⟩
    ·have hs1 : sgnM (l.getD (cntM (xs.take i)) 0) = 1 := by unfold sgnM; exact if_pos (by omega)
     rw [hs1] at hsg ht
     rw [show Int.toNat 1 = 1 from rfl] at ht
     have hs := hsg
     have hc1 := hct
     refine ⟨_, rfl, ckI (by simp; omega) (ckI (by simp [cellsI_len]; omega) (getI (xs := l) (i := (cntM (xs.take i))) (by omega) (by simp) ⟨_, [_], ⟨rfl, rfl, rfl, by omega, rfl, rfl, by omega, by omega, by simp⟩, ⟨_, rfl, wrapI (by omega) (by omega) (segS (s := 1) (hC i) (by omega) (fun h6 => ⟨_, [_], ⟨rfl, rfl, rfl, (by simp only [List.length_append, hdr_len]; omega), rfl, rfl, by omega, by omega, by simp⟩, wrapI (by omega) (by omega) ⟨⟨trivial, rfl⟩, .inr ⟨i + 1, ⟨by omega, by omega⟩, by omega, by rw [(b6 h6 1 hs).1], by rw [hc1, ht], by rw [(b6 h6 1 hs).1], rfl, rfl, by rw [(b6 h6 1 hs).2], rfl, by rw [hc1]; rfl, by rw [hc1, ht], rfl, trivial⟩⟩⟩) (fun h6 => wrapI (by omega) (by omega) ⟨⟨trivial, rfl⟩, .inr ⟨i + 1, ⟨by omega, by omega⟩, by omega, by rw [(bn h6 1 hs).1], by rw [hc1, ht], by rw [(bn h6 1 hs).1], rfl, rfl, by rw [(bn h6 1 hs).2], rfl, by rw [hc1]; rfl, by rw [hc1, ht], rfl, trivial⟩⟩))⟩⟩))⟩
   ·rw [if_pos he] at hsg hct
    have hs := hsg
    have hc1 : cntM (xs.take (i + 1)) = cntM (xs.take i) := by omega
    exact segS (s := 0) (hC i) (by omega) (fun h6 => ⟨_, [_], ⟨rfl, rfl, rfl, (by simp only [List.length_append, hdr_len]; omega), rfl, rfl, by omega, by omega, by simp⟩, wrapI (by omega) (by omega) ⟨⟨trivial, rfl⟩, .inr ⟨i + 1, ⟨by omega, by omega⟩, by omega, by rw [(b6 h6 0 hs).1], by rw [hc1], by rw [(b6 h6 0 hs).1], rfl, rfl, by rw [(b6 h6 0 hs).2], rfl, by rw [hc1], by rw [hc1], rfl, trivial⟩⟩⟩) (fun h6 => wrapI (by omega) (by omega) ⟨⟨trivial, rfl⟩, .inr ⟨i + 1, ⟨by omega, by omega⟩, by omega, by rw [(bn h6 0 hs).1], by rw [hc1], by rw [(bn h6 0 hs).1], rfl, rfl, by rw [(bn h6 0 hs).2], rfl, by rw [hc1], by rw [hc1], rfl, trivial⟩⟩)
  ·have hs : (sgsM xs l).getD i 0 = 0 := by rw [List.getD_eq_getElem?_getD, List.getElem?_eq_none (by rw [sgs_len]; omega)]; rfl
   have hc1 : cntM (xs.take (i + 1)) = cntM (xs.take i) := by rw [cnt_over (by omega)]
   exact segS (s := 0) (hC i) (by omega) (fun h6 => ⟨_, [_], ⟨rfl, rfl, rfl, (by simp only [List.length_append, hdr_len]; omega), rfl, rfl, by omega, by omega, by simp⟩, wrapI (by omega) (by omega) ⟨⟨trivial, rfl⟩, .inr ⟨i + 1, ⟨by omega, by omega⟩, by omega, by rw [(b6 h6 0 hs).1], by rw [hc1], by rw [(b6 h6 0 hs).1], rfl, rfl, by rw [(b6 h6 0 hs).2], rfl, by rw [hc1], by rw [hc1], rfl, trivial⟩⟩⟩) (fun h6 => wrapI (by omega) (by omega) ⟨⟨trivial, rfl⟩, .inr ⟨i + 1, ⟨by omega, by omega⟩, by omega, by rw [(bn h6 0 hs).1], by rw [hc1], by rw [(bn h6 0 hs).1], rfl, rfl, by rw [(bn h6 0 hs).2], rfl, by rw [hc1], by rw [hc1], rfl, trivial⟩⟩)
  ·have hi : i = (xs.length + 6) / 7 * 7 := by omega
   subst hi
   have hx : xs.take ((xs.length + 6) / 7 * 7) = xs := List.take_of_length_le (by omega)
   rw [hx] at g2 ⊢
   rw [← hll, List.take_length]
   have ha : bs ++ arrM xs round = bs ++ hdrM xs ref round ++ bitsM (sgsM xs l) ((xs.length + 6) / 7 * 7) ++ tailM l := by
    simp only [arrM, hst, List.append_assoc]
   rw [ha] at hq
   have tg := tail_ge l
   have tl := tail_len l
   have bl := bits_len (sgsM xs l) ((xs.length + 6) / 7 * 7)
   have ln : (bs ++ hdrM xs ref round ++ bitsM (sgsM xs l) ((xs.length + 6) / 7 * 7)).length ≤ 20000 := by simp only [List.length_append, hdr_len]; omega
   generalize bs ++ hdrM xs ref round ++ bitsM (sgsM xs l) ((xs.length + 6) / 7 * 7) = B at *
   refine ckI (by simp [ofB_len, oneL_ofB, List.take_of_length_le]; omega) (splitB (fun h => ?_) (fun h => ?_))
   ·rw [nbeq] at h; omega
   ·refine ckI (by simp; omega) (ckI (by simp [ofB_len]; omega) ?_)
    have e1 : List.take ((tailM l).length * 1) (List.drop 0 (ofBytes (tailM l))) = ofBytes (tailM l) := by
     rw [List.drop_zero, Nat.mul_one]; exact List.take_of_length_le (by rw [ofB_len]; exact Nat.le_refl _)
    rw [e1, ofB_len, ofB_app, oldL_ofB, ← List.length_append]
    exact ⟨rfl, hq⟩
theorem stepsR_some {xs : List Int} (h : (stepsRM xs).2.2 = true) : ∃ ref l, stepsM xs = some (ref, l) ∧ 1 ≤ xs.length ∧ xs.length ≤ 64 := by
 unfold stepsRM at h
 cases e : stepsM xs with
 | none => simp [e] at h
 | some p =>
  rw [e] at h
  have := of_decide_eq_true h
  exact ⟨p.1, p.2, rfl, this⟩
def cArr : Con
 | [.sl id tot 0 len 1, .lst _ cs n 1, .int .i64 round], H, K => ∃ (bs : List UInt8) (xs : List Int), Lf (H[id]? = some ⟨.grow, true, ofBytes bs⟩ ∧ tot = bs.length ∧ len = bs.length ∧ bs.length ≤ 10000 ∧ cs = cellsI xs ∧ n = xs.length ∧ (stepsRM xs).2.2 = true) ∧ K (.ret (.sl id (bs ++ arrM xs round).length 0 (bs ++ arrM xs round).length 1)) (H.set id ⟨.grow, true, ofBytes (bs ++ arrM xs round)⟩)
 | _, _, _ => False
theorem arr_ok : ValidF Tryd.prog glC 68 cArr := by
 refine valid_of (enters_of (by kernel_rfl)) glC_noY fun args H Q hc => ?_
 unfold cArr at hc
 split at hc
 ·rename_i id tot len t cs n round
  obtain ⟨bs, xs, ⟨h1, rfl, rfl, h3, rfl, rfl, h4⟩, hq⟩ := hc
  obtain ⟨ref, l, h5, h6⟩ := stepsR_some h4
  obtain ⟨hv, hb', h⟩ := arr_run t xs l ref round bs h6 h3 h5 (fun o H' _ => o = .ret (.sl 0 (bs ++ arrM xs round).length 0 (bs ++ arrM xs round).length 1) ∧ H' = [⟨.grow, true, ofBytes (bs ++ arrM xs round)⟩]) ⟨rfl, rfl⟩
  refine ⟨_, 1000, fun _ => id, [.sl 0 bs.length 0 bs.length 1, .lst t (cellsI xs) xs.length 1, .int .i64 round], [⟨.grow, true, ofBytes bs⟩], _, ?_, rfl, rfl, rfl, rfl, fr_own h1 (oldL_ofB 0 _) (oldL_ofB 1 _) (noY_ofB _), h, ?_⟩
  ·exact ⟨mixed24, names24, tabA_ok, sm68_ok⟩
  ·rintro o H0' g' ⟨rfl, rfl⟩
   exact ⟨_, end_own h1 (oldL_ofB 0 _) (noY_ofB _), hq⟩
 ·exact hc.elim
end Go.Proofs.YtafchcmemeinlaaDoor
