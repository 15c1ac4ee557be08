/-
  Chapter 24, the reference: what is valid.
-/
import Derived.Test.YtafchcmemeinlaaDoorC24XD
import Derived.Test.YtafchcmemeinlaaDoorC24XJ
set_option linter.unusedSimpArgs false
set_option linter.unusedVariables false
set_option linter.unusedSectionVars false
namespace Go.Proofs.YtafchcmemeinlaaDoor
open Go.RowKit
set_option maxRecDepth 1000000

def ctM (c : Ctl) : List AV := ctC c
abbrev eqCt (c : Ctl) : Prop := ctC c = ctC c
def zerM (c : Ctl) : Bool := c.s1 == 0 && (c.s2 == 0 && (c.s3 == 0 && (c.s4 == 0 && c.s5 == 0)))
def arzM (c : Ctl) : Bool := c.ba == 0 && (c.ro == 0 && (c.ti.length : Int) == 0)
def askM (c : Ctl) : Bool × Bool × Bool × Bool × Bool := (c.a == 0, zerM c, (c.rs.length : Int) == 0, (c.lo.length : Int) == 0, arzM c)
def fldM (c : Ctl) (b : Bool × Bool × Bool × Bool × Bool) : Prop := (b.1 && (b.2.1 && (b.2.2.1 && (b.2.2.2.1 && b.2.2.2.2)))) = validM c
def inv_51a (c : Ctl) : LInv where
 α := Bool × Bool × Bool × Bool × Bool
 pre b := Lf (b = askM c)
 st b := ⟨mkT [(1, .ptr 0 13 0), (3, .bool b.1), (4, .bool b.2.1), (5, .bool b.2.2.1), (6, .bool b.2.2.2.1), (7, .bool b.2.2.2.2)], [⟨.exact, true, ctM c⟩]⟩
 mu _ := 0
def inv_51b (c : Ctl) : LInv where
 α := Bool × Bool × Bool × Bool × Bool
 pre b := Lf (fldM c b)
 st b := ⟨mkT [(3, .bool b.1), (4, .bool b.2.1), (5, .bool b.2.2.1), (6, .bool b.2.2.2.1), (7, .bool b.2.2.2.2)], [⟨.exact, true, ctM c⟩]⟩
 mu _ := 0
noncomputable def env_51 (hv : Nat → Option Pa) (hb : Nat → Option Bool) (c : Ctl) : Env := e24 sm51 (fun i => bif Nat.beq i 1000208956 then some (fun _ => [[inv_51a c]]) else bif Nat.beq i 1000209024 then some (fun _ => [[inv_51b c]]) else none) hv hb
noncomputable def goal_51 (hv : Nat → Option Pa) (hb : Nat → Option Bool) (c : Ctl) (Q : Out → List Blk → Gh → Prop) : Prop :=
 callx (env_51 hv hb c) (wpx (env_51 hv hb c) 1000) 51 [.agg (ctM c)] [] {} Q
abbrev zZV28 : Prop := True ∧ (0 : Nat) = (0 : Nat)
abbrev zZV1 : Prop := zZV28
abbrev zZV18 (x_0 : Bool × Bool × Bool × Bool × Bool) (c : Ctl) : Prop := Lf (x_0 = askM c)
abbrev zZV6 : Prop := eqqQ (AV.ptr 0 13 0)
abbrev zZV11 (x_0 : Bool × Bool × Bool × Bool × Bool) : Prop := AV.bool true = AV.bool x_0.1
abbrev zZV3 (x_0 : Bool × Bool × Bool × Bool × Bool) : AV := .bool x_0.2.2.2.2
abbrev zZV16 (x_0 : Bool × Bool × Bool × Bool × Bool) : Prop := AV.bool false = zZV3 x_0
abbrev zZV12 (x_0 : Bool × Bool × Bool × Bool × Bool) : Prop := AV.bool true = AV.bool x_0.2.2.1
abbrev zZV15 (x_0 : Bool × Bool × Bool × Bool × Bool) : Prop := AV.bool true = AV.bool x_0.2.1
abbrev zZV7 (x_0 : Bool × Bool × Bool × Bool × Bool) : Prop := AV.bool true = AV.bool x_0.2.2.2.1 ∧ True
abbrev zZV31 (x_0 : Bool × Bool × Bool × Bool × Bool) : Prop := zZV15 x_0 ∧ zZV7 x_0
def vc_51_1 (c : Ctl) : Prop :=
zZV1 ∧ ∃ x_0 : Bool × Bool × Bool × Bool × Bool, zZV18 x_0 c ∧ eqCt c ∧ zZV6 ∧ zZV11 x_0 ∧ zZV16 x_0 ∧ zZV12 x_0 ∧ zZV31 x_0
abbrev zZV5 (x_0 : Bool × Bool × Bool × Bool × Bool) : Prop := AV.bool false = AV.bool x_0.2.2.2.1 ∧ True
abbrev zZV30 (x_0 : Bool × Bool × Bool × Bool × Bool) : Prop := zZV15 x_0 ∧ zZV5 x_0
def vc_51_2 (c : Ctl) : Prop :=
zZV1 ∧ ∃ x_0 : Bool × Bool × Bool × Bool × Bool, zZV18 x_0 c ∧ eqCt c ∧ zZV6 ∧ zZV11 x_0 ∧ zZV16 x_0 ∧ zZV12 x_0 ∧ zZV30 x_0
abbrev zZV10 (x_0 : Bool × Bool × Bool × Bool × Bool) : Prop := AV.bool false = AV.bool x_0.2.2.1
def vc_51_3 (c : Ctl) : Prop :=
zZV1 ∧ ∃ x_0 : Bool × Bool × Bool × Bool × Bool, zZV18 x_0 c ∧ eqCt c ∧ zZV6 ∧ zZV11 x_0 ∧ zZV16 x_0 ∧ zZV10 x_0 ∧ zZV31 x_0
def vc_51_4 (c : Ctl) : Prop :=
zZV1 ∧ ∃ x_0 : Bool × Bool × Bool × Bool × Bool, zZV18 x_0 c ∧ eqCt c ∧ zZV6 ∧ zZV11 x_0 ∧ zZV16 x_0 ∧ zZV10 x_0 ∧ zZV30 x_0
abbrev zZV14 (x_0 : Bool × Bool × Bool × Bool × Bool) : Prop := AV.bool false = AV.bool x_0.2.1
def vc_51_5 (c : Ctl) : Prop :=
zZV1 ∧ ∃ x_0 : Bool × Bool × Bool × Bool × Bool, zZV18 x_0 c ∧ eqCt c ∧ zZV6 ∧ zZV11 x_0 ∧ zZV16 x_0 ∧ zZV12 x_0 ∧ zZV14 x_0 ∧ zZV7 x_0
def vc_51_6 (c : Ctl) : Prop :=
zZV1 ∧ ∃ x_0 : Bool × Bool × Bool × Bool × Bool, zZV18 x_0 c ∧ eqCt c ∧ zZV6 ∧ zZV11 x_0 ∧ zZV16 x_0 ∧ zZV12 x_0 ∧ zZV14 x_0 ∧ zZV5 x_0
def vc_51_7 (c : Ctl) : Prop :=
zZV1 ∧ ∃ x_0 : Bool × Bool × Bool × Bool × Bool, zZV18 x_0 c ∧ eqCt c ∧ zZV6 ∧ zZV11 x_0 ∧ zZV16 x_0 ∧ zZV10 x_0 ∧ zZV14 x_0 ∧ zZV7 x_0
def vc_51_8 (c : Ctl) : Prop :=
zZV1 ∧ ∃ x_0 : Bool × Bool × Bool × Bool × Bool, zZV18 x_0 c ∧ eqCt c ∧ zZV6 ∧ zZV11 x_0 ∧ zZV16 x_0 ∧ zZV10 x_0 ∧ zZV14 x_0 ∧ zZV5 x_0
abbrev zZV27 (c : Ctl) : Int := (c.10.length : Int)
abbrev zZV19 (c : Ctl) : Int := (c.13.length : Int)
abbrev zZV17 (x_5 : Bool × Bool × Bool × Bool × Bool) : Prop := AV.bool true = zZV3 x_5
def vc_51_9 (c : Ctl) : Prop :=
exI .i64 (c.9.length : Int) (fun n_0 => bif n_0 == 0 then exI .i64 (zZV27 c) (fun n_1 => bif n_1 == 0 then exI .i64 c.11 (fun n_2 => bif n_2 == 0 then exI .i64 c.12 (fun n_3 => bif n_3 == 0 then exI .i64 (zZV19 c) (fun n_4 => bif n_4 == 0 then zZV1 ∧ ∃ x_5 : Bool × Bool × Bool × Bool × Bool, zZV18 x_5 c ∧ eqCt c ∧ zZV6 ∧ zZV11 x_5 ∧ zZV17 x_5 ∧ zZV12 x_5 ∧ zZV14 x_5 ∧ zZV7 x_5 else vc_51_5 c) else vc_51_5 c) else vc_51_5 c) else exI .i64 c.11 (fun n_2 => bif n_2 == 0 then exI .i64 c.12 (fun n_3 => bif n_3 == 0 then exI .i64 (zZV19 c) (fun n_4 => bif n_4 == 0 then zZV1 ∧ ∃ x_5 : Bool × Bool × Bool × Bool × Bool, zZV18 x_5 c ∧ eqCt c ∧ zZV6 ∧ zZV11 x_5 ∧ zZV17 x_5 ∧ zZV12 x_5 ∧ zZV14 x_5 ∧ zZV5 x_5 else vc_51_6 c) else vc_51_6 c) else vc_51_6 c)) else exI .i64 (zZV27 c) (fun n_1 => bif n_1 == 0 then exI .i64 c.11 (fun n_2 => bif n_2 == 0 then exI .i64 c.12 (fun n_3 => bif n_3 == 0 then exI .i64 (zZV19 c) (fun n_4 => bif n_4 == 0 then zZV1 ∧ ∃ x_5 : Bool × Bool × Bool × Bool × Bool, zZV18 x_5 c ∧ eqCt c ∧ zZV6 ∧ zZV11 x_5 ∧ zZV17 x_5 ∧ zZV10 x_5 ∧ zZV14 x_5 ∧ zZV7 x_5 else vc_51_7 c) else vc_51_7 c) else vc_51_7 c) else exI .i64 c.11 (fun n_2 => bif n_2 == 0 then exI .i64 c.12 (fun n_3 => bif n_3 == 0 then exI .i64 (zZV19 c) (fun n_4 => bif n_4 == 0 then zZV1 ∧ ∃ x_5 : Bool × Bool × Bool × Bool × Bool, zZV18 x_5 c ∧ eqCt c ∧ zZV6 ∧ zZV11 x_5 ∧ zZV17 x_5 ∧ zZV10 x_5 ∧ zZV14 x_5 ∧ zZV5 x_5 else vc_51_8 c) else vc_51_8 c) else vc_51_8 c)))
abbrev zZV9 (x_0 : Bool × Bool × Bool × Bool × Bool) : Prop := AV.bool false = AV.bool x_0.1
def vc_51_10 (c : Ctl) : Prop :=
zZV1 ∧ ∃ x_0 : Bool × Bool × Bool × Bool × Bool, zZV18 x_0 c ∧ eqCt c ∧ zZV6 ∧ zZV9 x_0 ∧ zZV16 x_0 ∧ zZV12 x_0 ∧ zZV31 x_0
def vc_51_11 (c : Ctl) : Prop :=
zZV1 ∧ ∃ x_0 : Bool × Bool × Bool × Bool × Bool, zZV18 x_0 c ∧ eqCt c ∧ zZV6 ∧ zZV9 x_0 ∧ zZV16 x_0 ∧ zZV12 x_0 ∧ zZV30 x_0
def vc_51_12 (c : Ctl) : Prop :=
zZV1 ∧ ∃ x_0 : Bool × Bool × Bool × Bool × Bool, zZV18 x_0 c ∧ eqCt c ∧ zZV6 ∧ zZV9 x_0 ∧ zZV16 x_0 ∧ zZV10 x_0 ∧ zZV31 x_0
def vc_51_13 (c : Ctl) : Prop :=
zZV1 ∧ ∃ x_0 : Bool × Bool × Bool × Bool × Bool, zZV18 x_0 c ∧ eqCt c ∧ zZV6 ∧ zZV9 x_0 ∧ zZV16 x_0 ∧ zZV10 x_0 ∧ zZV30 x_0
def vc_51_14 (c : Ctl) : Prop :=
zZV1 ∧ ∃ x_0 : Bool × Bool × Bool × Bool × Bool, zZV18 x_0 c ∧ eqCt c ∧ zZV6 ∧ zZV9 x_0 ∧ zZV16 x_0 ∧ zZV12 x_0 ∧ zZV14 x_0 ∧ zZV7 x_0
def vc_51_15 (c : Ctl) : Prop :=
zZV1 ∧ ∃ x_0 : Bool × Bool × Bool × Bool × Bool, zZV18 x_0 c ∧ eqCt c ∧ zZV6 ∧ zZV9 x_0 ∧ zZV16 x_0 ∧ zZV12 x_0 ∧ zZV14 x_0 ∧ zZV5 x_0
def vc_51_16 (c : Ctl) : Prop :=
zZV1 ∧ ∃ x_0 : Bool × Bool × Bool × Bool × Bool, zZV18 x_0 c ∧ eqCt c ∧ zZV6 ∧ zZV9 x_0 ∧ zZV16 x_0 ∧ zZV10 x_0 ∧ zZV14 x_0 ∧ zZV7 x_0
def vc_51_17 (c : Ctl) : Prop :=
zZV1 ∧ ∃ x_0 : Bool × Bool × Bool × Bool × Bool, zZV18 x_0 c ∧ eqCt c ∧ zZV6 ∧ zZV9 x_0 ∧ zZV16 x_0 ∧ zZV10 x_0 ∧ zZV14 x_0 ∧ zZV5 x_0
def vc_51_18 (c : Ctl) : Prop :=
exI .i64 (c.9.length : Int) (fun n_0 => bif n_0 == 0 then exI .i64 (zZV27 c) (fun n_1 => bif n_1 == 0 then exI .i64 c.11 (fun n_2 => bif n_2 == 0 then exI .i64 c.12 (fun n_3 => bif n_3 == 0 then exI .i64 (zZV19 c) (fun n_4 => bif n_4 == 0 then zZV1 ∧ ∃ x_5 : Bool × Bool × Bool × Bool × Bool, zZV18 x_5 c ∧ eqCt c ∧ zZV6 ∧ zZV9 x_5 ∧ zZV17 x_5 ∧ zZV12 x_5 ∧ zZV14 x_5 ∧ zZV7 x_5 else vc_51_14 c) else vc_51_14 c) else vc_51_14 c) else exI .i64 c.11 (fun n_2 => bif n_2 == 0 then exI .i64 c.12 (fun n_3 => bif n_3 == 0 then exI .i64 (zZV19 c) (fun n_4 => bif n_4 == 0 then zZV1 ∧ ∃ x_5 : Bool × Bool × Bool × Bool × Bool, zZV18 x_5 c ∧ eqCt c ∧ zZV6 ∧ zZV9 x_5 ∧ zZV17 x_5 ∧ zZV12 x_5 ∧ zZV14 x_5 ∧ zZV5 x_5 else vc_51_15 c) else vc_51_15 c) else vc_51_15 c)) else exI .i64 (zZV27 c) (fun n_1 => bif n_1 == 0 then exI .i64 c.11 (fun n_2 => bif n_2 == 0 then exI .i64 c.12 (fun n_3 => bif n_3 == 0 then exI .i64 (zZV19 c) (fun n_4 => bif n_4 == 0 then zZV1 ∧ ∃ x_5 : Bool × Bool × Bool × Bool × Bool, zZV18 x_5 c ∧ eqCt c ∧ zZV6 ∧ zZV9 x_5 ∧ zZV17 x_5 ∧ zZV10 x_5 ∧ zZV14 x_5 ∧ zZV7 x_5 else vc_51_16 c) else vc_51_16 c) else vc_51_16 c) else exI .i64 c.11 (fun n_2 => bif n_2 == 0 then exI .i64 c.12 (fun n_3 => bif n_3 == 0 then exI .i64 (zZV19 c) (fun n_4 => bif n_4 == 0 then zZV1 ∧ ∃ x_5 : Bool × Bool × Bool × Bool × Bool, zZV18 x_5 c ∧ eqCt c ∧ zZV6 ∧ zZV9 x_5 ∧ zZV17 x_5 ∧ zZV10 x_5 ∧ zZV14 x_5 ∧ zZV5 x_5 else vc_51_17 c) else vc_51_17 c) else vc_51_17 c)))
abbrev zZV4 : Prop := Lf ((32 : Int) = (8 : Int) ∨ (32 : Int) = (16 : Int) ∨ eqqQ (32 : Int))
abbrev zZV22 (c : Ctl) (l_8 : List Rc) : Prop := Lf (cellsRM c.9 = cellsRM l_8 ∧ c.9.length = l_8.length ∧ l_8.length ≤ 1000000)
abbrev zZV8 (x_1 : Bool × Bool × Bool × Bool × Bool) : AV := .bool x_1.2.2.2.1
abbrev zZV0 (c : Ctl) (x_1 : Bool × Bool × Bool × Bool × Bool) : Prop := ∃ l_8 : List Rc, zZV22 c l_8 ∧ bif rcsOkM l_8 then zZV28 ∧ ∃ x_9 : Bool × Bool × Bool × Bool × Bool, Lf (fldM c x_9) ∧ eqCt c ∧ AV.bool x_1.1 = AV.bool x_9.1 ∧ zZV3 x_1 = zZV3 x_9 ∧ zZV12 x_9 ∧ zZV14 x_9 ∧ zZV8 x_1 = zZV8 x_9 ∧ True else zZV28 ∧ ∃ x_9 : Bool × Bool × Bool × Bool × Bool, Lf (fldM c x_9) ∧ eqCt c ∧ AV.bool x_1.1 = AV.bool x_9.1 ∧ zZV3 x_1 = zZV3 x_9 ∧ zZV10 x_9 ∧ zZV14 x_9 ∧ zZV8 x_1 = zZV8 x_9 ∧ True
abbrev zZV26 (x_1 x_4 : Bool × Bool × Bool × Bool × Bool) : Prop := AV.bool x_1.2.1 = AV.bool x_4.2.1
abbrev zZV13 (x_1 : Bool × Bool × Bool × Bool × Bool) : AV := .bool x_1.2.2.1
abbrev zZV2 (x_1 x_3 : Bool × Bool × Bool × Bool × Bool) : Prop := zZV13 x_1 = zZV13 x_3 ∧ zZV26 x_1 x_3 ∧ zZV8 x_1 = zZV8 x_3 ∧ True
abbrev zZV29 (c : Ctl) (xs_4 : List Int) : Prop := Lf (cellsI c.10 = cellsI xs_4 ∧ c.10.length = xs_4.length ∧ xs_4.length ≤ 4611686018427387904)
abbrev zZV25 : Prop := Lf ((16 : Int) = (8 : Int) ∨ eqqQ (16 : Int) ∨ (16 : Int) = (32 : Int))
abbrev zZV24 : Prop := Lf ((8 : Int) = (8 : Int) ∨ (8 : Int) = (16 : Int) ∨ (8 : Int) = (32 : Int))
abbrev zZV20 (c : Ctl) (x_1 : Bool × Bool × Bool × Bool × Bool) : Prop := zZV1 ∧ ∃ x_8 : Bool × Bool × Bool × Bool × Bool, Lf (fldM c x_8) ∧ eqCt c ∧ zZV11 x_8 ∧ zZV16 x_8 ∧ zZV2 x_1 x_8
abbrev zZV21 (c : Ctl) (x_1 : Bool × Bool × Bool × Bool × Bool) : Prop := zZV1 ∧ ∃ x_8 : Bool × Bool × Bool × Bool × Bool, Lf (fldM c x_8) ∧ eqCt c ∧ zZV9 x_8 ∧ zZV16 x_8 ∧ zZV2 x_1 x_8
abbrev zZV23 : Out := .ret (.bool false)
theorem vc_51 (c : Ctl) (Q : Out → List Blk → Gh → Prop) : goal_51 (lookV [(208905, .int .i64), (208909, .int .i64), (208912, .int .i64), (208916, .int .i64), (208921, .int .i64), (208926, .int .i64), (208931, .int .i64), (208936, .int
 .i64), (208940, .int .i64), (208943, .int .i64), (208947, .int .i64), (208953, .int .i64), (208957, .int .i64), (208961, .int .i64), (208965, .int .i64), (208970, .int .i64), (208975, .int .i64), (208980, .int .i64), (208996, .int .i64),
 (209004, .int .i64), (209009, .int .i64), (209012, .int .i64), (209016, .int .i64)]) (lookB []) c Q = (exI .i64 c.2 (fun n_0 => zZV4 ∧ bif inM n_0 32 then exI .i64 c.3 (fun n_1 => bif n_1 == 0 then exI .i64 c.4 (fun n_2 => bif n_2 == 0
 then exI .i64 c.5 (fun n_3 => bif n_3 == 0 then exI .i64 c.6 (fun n_4 => bif n_4 == 0 then exI .i64 c.7 (fun n_5 => bif n_5 == 0 then exI .i64 c.8 (fun n_6 => bif n_6 == 0 then exI .i64 (c.9.length : Int) (fun n_7 => bif n_7 == 0 then exI
 .i64 (zZV27 c) (fun n_8 => bif n_8 == 0 then exI .i64 c.11 (fun n_9 => bif n_9 == 0 then exI .i64 c.12 (fun n_10 => bif n_10 == 0 then exI .i64 (zZV19 c) (fun n_11 => bif n_11 == 0 then zZV1 ∧ ∃ x_12 : Bool × Bool × Bool × Bool × Bool,
 zZV18 x_12 c ∧ eqCt c ∧ zZV6 ∧ zZV11 x_12 ∧ zZV17 x_12 ∧ zZV12 x_12 ∧ zZV31 x_12 else vc_51_1 c) else vc_51_1 c) else vc_51_1 c) else exI .i64 c.11 (fun n_9 => bif n_9 == 0 then exI .i64 c.12 (fun n_10 => bif n_10 == 0 then exI .i64 (zZV19
 c) (fun n_11 => bif n_11 == 0 then zZV1 ∧ ∃ x_12 : Bool × Bool × Bool × Bool × Bool, zZV18 x_12 c ∧ eqCt c ∧ zZV6 ∧ zZV11 x_12 ∧ zZV17 x_12 ∧ zZV12 x_12 ∧ zZV30 x_12 else vc_51_2 c) else vc_51_2 c) else vc_51_2 c)) else exI .i64 (zZV27 c)
 (fun n_8 => bif n_8 == 0 then exI .i64 c.11 (fun n_9 => bif n_9 == 0 then exI .i64 c.12 (fun n_10 => bif n_10 == 0 then exI .i64 (zZV19 c) (fun n_11 => bif n_11 == 0 then zZV1 ∧ ∃ x_12 : Bool × Bool × Bool × Bool × Bool, zZV18 x_12 c ∧
 eqCt c ∧ zZV6 ∧ zZV11 x_12 ∧ zZV17 x_12 ∧ zZV10 x_12 ∧ zZV31 x_12 else vc_51_3 c) else vc_51_3 c) else vc_51_3 c) else exI .i64 c.11 (fun n_9 => bif n_9 == 0 then exI .i64 c.12 (fun n_10 => bif n_10 == 0 then exI .i64 (zZV19 c) (fun n_11
 => bif n_11 == 0 then zZV1 ∧ ∃ x_12 : Bool × Bool × Bool × Bool × Bool, zZV18 x_12 c ∧ eqCt c ∧ zZV6 ∧ zZV11 x_12 ∧ zZV17 x_12 ∧ zZV10 x_12 ∧ zZV30 x_12 else vc_51_4 c) else vc_51_4 c) else vc_51_4 c))) else vc_51_9 c) else vc_51_9 c) else
 vc_51_9 c) else vc_51_9 c) else vc_51_9 c) else exI .i64 c.4 (fun n_2 => bif n_2 == 0 then exI .i64 c.5 (fun n_3 => bif n_3 == 0 then exI .i64 c.6 (fun n_4 => bif n_4 == 0 then exI .i64 c.7 (fun n_5 => bif n_5 == 0 then exI .i64 c.8 (fun
 n_6 => bif n_6 == 0 then exI .i64 (c.9.length : Int) (fun n_7 => bif n_7 == 0 then exI .i64 (zZV27 c) (fun n_8 => bif n_8 == 0 then exI .i64 c.11 (fun n_9 => bif n_9 == 0 then exI .i64 c.12 (fun n_10 => bif n_10 == 0 then exI .i64 (zZV19
 c) (fun n_11 => bif n_11 == 0 then zZV1 ∧ ∃ x_12 : Bool × Bool × Bool × Bool × Bool, zZV18 x_12 c ∧ eqCt c ∧ zZV6 ∧ zZV9 x_12 ∧ zZV17 x_12 ∧ zZV12 x_12 ∧ zZV31 x_12 else vc_51_10 c) else vc_51_10 c) else vc_51_10 c) else exI .i64 c.11 (fun
 n_9 => bif n_9 == 0 then exI .i64 c.12 (fun n_10 => bif n_10 == 0 then exI .i64 (zZV19 c) (fun n_11 => bif n_11 == 0 then zZV1 ∧ ∃ x_12 : Bool × Bool × Bool × Bool × Bool, zZV18 x_12 c ∧ eqCt c ∧ zZV6 ∧ zZV9 x_12 ∧ zZV17 x_12 ∧ zZV12 x_12
 ∧ zZV30 x_12 else vc_51_11 c) else vc_51_11 c) else vc_51_11 c)) else exI .i64 (zZV27 c) (fun n_8 => bif n_8 == 0 then exI .i64 c.11 (fun n_9 => bif n_9 == 0 then exI .i64 c.12 (fun n_10 => bif n_10 == 0 then exI .i64 (zZV19 c) (fun n_11
 => bif n_11 == 0 then zZV1 ∧ ∃ x_12 : Bool × Bool × Bool × Bool × Bool, zZV18 x_12 c ∧ eqCt c ∧ zZV6 ∧ zZV9 x_12 ∧ zZV17 x_12 ∧ zZV10 x_12 ∧ zZV31 x_12 else vc_51_12 c) else vc_51_12 c) else vc_51_12 c) else exI .i64 c.11 (fun n_9 => bif
 n_9 == 0 then exI .i64 c.12 (fun n_10 => bif n_10 == 0 then exI .i64 (zZV19 c) (fun n_11 => bif n_11 == 0 then zZV1 ∧ ∃ x_12 : Bool × Bool × Bool × Bool × Bool, zZV18 x_12 c ∧ eqCt c ∧ zZV6 ∧ zZV9 x_12 ∧ zZV17 x_12 ∧ zZV10 x_12 ∧ zZV30
 x_12 else vc_51_13 c) else vc_51_13 c) else vc_51_13 c))) else vc_51_18 c) else vc_51_18 c) else vc_51_18 c) else vc_51_18 c) else vc_51_18 c)) ∧ ∀ x_1 : Bool × Bool × Bool × Bool × Bool, zZV18 x_1 c → exI .i64 c.1 (fun n_2 => bif n_2 == 1
 then exI .i64 c.4 (fun n_3 => zZV4 ∧ bif inM n_3 32 then exI .i64 c.5 (fun n_4 => zZV4 ∧ bif inM n_4 32 then exI .i64 c.6 (fun n_5 => zZV4 ∧ bif inM n_5 32 then exI .i64 c.7 (fun n_6 => zZV4 ∧ bif inM n_6 32 then exI .i64 c.8 (fun n_7 =>
 zZV4 ∧ bif inM n_7 32 then ∃ l_8 : List Rc, zZV22 c l_8 ∧ bif rcsOkM l_8 then zZV1 ∧ ∃ x_9 : Bool × Bool × Bool × Bool × Bool, Lf (fldM c x_9) ∧ eqCt c ∧ AV.bool x_1.1 = AV.bool x_9.1 ∧ zZV3 x_1 = zZV3 x_9 ∧ zZV12 x_9 ∧ zZV15 x_9 ∧ zZV8
 x_1 = zZV8 x_9 ∧ True else zZV1 ∧ ∃ x_9 : Bool × Bool × Bool × Bool × Bool, Lf (fldM c x_9) ∧ eqCt c ∧ AV.bool x_1.1 = AV.bool x_9.1 ∧ zZV3 x_1 = zZV3 x_9 ∧ zZV10 x_9 ∧ zZV15 x_9 ∧ zZV8 x_1 = zZV8 x_9 ∧ True else zZV0 c x_1) else zZV0 c
 x_1) else zZV0 c x_1) else zZV0 c x_1) else zZV0 c x_1) else bif n_2 == 2 then ∃ l_3 : List Rc, zZV22 c l_3 ∧ bif rcsOkM l_3 then zZV1 ∧ ∃ x_4 : Bool × Bool × Bool × Bool × Bool, Lf (fldM c x_4) ∧ eqCt c ∧ AV.bool x_1.1 = AV.bool x_4.1 ∧
 zZV3 x_1 = zZV3 x_4 ∧ zZV12 x_4 ∧ zZV26 x_1 x_4 ∧ zZV8 x_1 = zZV8 x_4 ∧ True else zZV1 ∧ ∃ x_4 : Bool × Bool × Bool × Bool × Bool, Lf (fldM c x_4) ∧ eqCt c ∧ AV.bool x_1.1 = AV.bool x_4.1 ∧ zZV3 x_1 = zZV3 x_4 ∧ zZV10 x_4 ∧ zZV26 x_1 x_4 ∧
 zZV8 x_1 = zZV8 x_4 ∧ True else bif n_2 == 3 then zZV1 ∧ ∃ x_3 : Bool × Bool × Bool × Bool × Bool, Lf (fldM c x_3) ∧ eqCt c ∧ AV.bool x_1.1 = AV.bool x_3.1 ∧ zZV3 x_1 = zZV3 x_3 ∧ zZV2 x_1 x_3 else bif n_2 == 4 then exI .i64 c.3 (fun n_3
 => zZV4 ∧ bif inM n_3 32 then ∃ xs_4 : List Int, zZV29 c xs_4 ∧ bif nacksM xs_4 then zZV1 ∧ ∃ x_5 : Bool × Bool × Bool × Bool × Bool, Lf (fldM c x_5) ∧ eqCt c ∧ zZV11 x_5 ∧ zZV3 x_1 = zZV3 x_5 ∧ zZV13 x_1 = zZV13 x_5 ∧ zZV26 x_1 x_5 ∧ zZV7
 x_5 else zZV1 ∧ ∃ x_5 : Bool × Bool × Bool × Bool × Bool, Lf (fldM c x_5) ∧ eqCt c ∧ zZV11 x_5 ∧ zZV3 x_1 = zZV3 x_5 ∧ zZV13 x_1 = zZV13 x_5 ∧ zZV26 x_1 x_5 ∧ zZV5 x_5 else ∃ xs_4 : List Int, zZV29 c xs_4 ∧ bif nacksM xs_4 then zZV1 ∧ ∃
 x_5 : Bool × Bool × Bool × Bool × Bool, Lf (fldM c x_5) ∧ eqCt c ∧ zZV9 x_5 ∧ zZV3 x_1 = zZV3 x_5 ∧ zZV13 x_1 = zZV13 x_5 ∧ zZV26 x_1 x_5 ∧ zZV7 x_5 else zZV1 ∧ ∃ x_5 : Bool × Bool × Bool × Bool × Bool, Lf (fldM c x_5) ∧ eqCt c ∧ zZV9 x_5
 ∧ zZV3 x_1 = zZV3 x_5 ∧ zZV13 x_1 = zZV13 x_5 ∧ zZV26 x_1 x_5 ∧ zZV5 x_5) else bif n_2 == 5 then exI .i64 c.3 (fun n_3 => zZV4 ∧ bif inM n_3 32 then zZV1 ∧ ∃ x_4 : Bool × Bool × Bool × Bool × Bool, Lf (fldM c x_4) ∧ eqCt c ∧ zZV11 x_4 ∧
 zZV3 x_1 = zZV3 x_4 ∧ zZV2 x_1 x_4 else zZV1 ∧ ∃ x_4 : Bool × Bool × Bool × Bool × Bool, Lf (fldM c x_4) ∧ eqCt c ∧ zZV9 x_4 ∧ zZV3 x_1 = zZV3 x_4 ∧ zZV2 x_1 x_4) else bif n_2 == 6 then exI .i64 c.3 (fun n_3 => zZV4 ∧ bif inM n_3 32 then
 exI .i64 c.11 (fun n_4 => zZV25 ∧ bif inM n_4 16 then exI .i64 c.12 (fun n_5 => zZV24 ∧ bif inM n_5 8 then ∃ xs_6 : List Int, Lf (cellsI c.13 = cellsI xs_6 ∧ c.13.length = xs_6.length ∧ xs_6.length ≤ 1000000) ∧ ∀ b_7 : Bool, Lf (b_7 =
 (stepsRM xs_6).2.2) → bif b_7 then zZV1 ∧ ∃ x_8 : Bool × Bool × Bool × Bool × Bool, Lf (fldM c x_8) ∧ eqCt c ∧ zZV11 x_8 ∧ zZV17 x_8 ∧ zZV2 x_1 x_8 else zZV20 c x_1 else zZV20 c x_1) else zZV20 c x_1) else exI .i64 c.11 (fun n_4 => zZV25 ∧
 bif inM n_4 16 then exI .i64 c.12 (fun n_5 => zZV24 ∧ bif inM n_5 8 then ∃ xs_6 : List Int, Lf (cellsI c.13 = cellsI xs_6 ∧ c.13.length = xs_6.length ∧ xs_6.length ≤ 1000000) ∧ ∀ b_7 : Bool, Lf (b_7 = (stepsRM xs_6).2.2) → bif b_7 then
 zZV1 ∧ ∃ x_8 : Bool × Bool × Bool × Bool × Bool, Lf (fldM c x_8) ∧ eqCt c ∧ zZV9 x_8 ∧ zZV17 x_8 ∧ zZV2 x_1 x_8 else zZV21 c x_1 else zZV21 c x_1) else zZV21 c x_1)) else Q zZV23 [] {}) ∧ ∀ x_2 : Bool × Bool × Bool × Bool × Bool, Lf (fldM
 c x_2) → bif x_2.1 then bif x_2.2.1 then bif x_2.2.2.1 then bif x_2.2.2.2.1 then bif x_2.2.2.2.2 then Q (.ret (.bool true)) [] {} else Q zZV23 [] {} else Q zZV23 [] {} else Q zZV23 [] {} else Q zZV23 [] {} else Q zZV23 [] {} else Q zZV23
 [] {})) := by kernel_rfl

theorem vfalse {c : Ctl} {Q : Out → List Blk → Gh → Prop} (hq : Q (.ret (.bool (validM c))) [] {}) (h : validM c = false) : Q (.ret (.bool false)) [] {} := by rwa [h] at hq
theorem rvalid_run (c : Ctl) (hok : okC c) (Q : Out → List Blk → Gh → Prop) (hq : Q (.ret (.bool (validM c))) [] {}) : ∃ hv hb, goal_51 hv hb c Q := by
 obtain ⟨hv, hb', e⟩ : ∃ hv hb, goal_51 hv hb c Q = _ := ⟨_, _, vc_51 c Q⟩
 refine ⟨hv, hb', e.mpr ?_⟩
 delta zZV4 zZV27 zZV19 zZV28 zZV1 zZV18 zZV6 zZV11 zZV3 zZV17 zZV12 zZV15 zZV7 zZV31 zZV5 zZV30 zZV10 zZV9 zZV22 zZV8 zZV14 zZV0 zZV26 zZV13 zZV2 zZV29 zZV25 zZV24 zZV16 zZV20 zZV21 zZV23
 clear e
 obtain ⟨ok1, ok2, ok3⟩ := hok
 refine ⟨_, rfl, ⟨.inr (.inr rfl)⟩, splitB (fun hf => ?_) (fun hf => ?_)⟩
 ·refine ⟨?_, ?_⟩
  ·clear hq
   repeat' (first | (with_reducible refine ⟨⟨trivial, rfl⟩, (_, _, _, _, _), ⟨?_⟩, rfl, rfl, rfl, rfl, rfl, rfl, rfl, trivial⟩) | (with_reducible refine ⟨_, rfl, ?_⟩) | (with_reducible refine splitE (fun _ => ?_) (fun _ => ?_)))
   iterate 3 (all_goals (first | unfold vc_51_1 | unfold vc_51_2 | unfold vc_51_3 | unfold vc_51_4 | unfold vc_51_5 | unfold vc_51_6 | unfold vc_51_7 | unfold vc_51_8 | unfold vc_51_9 | unfold vc_51_10 | unfold vc_51_11 | unfold vc_51_12 | unfold vc_51_13 | unfold vc_51_14 | unfold vc_51_15 | unfold vc_51_16 | unfold vc_51_17 | unfold vc_51_18 | skip); all_goals (repeat' (first | (with_reducible refine ⟨⟨trivial, rfl⟩, (_, _, _, _, _), ⟨?_⟩, rfl, rfl, rfl, rfl, rfl, rfl, rfl, trivial⟩) | (with_reducible refine ⟨_, rfl, ?_⟩) | (with_reducible refine splitE (fun _ => ?_) (fun _ => ?_)))))
   all_goals (simp only [askM, zerM, arzM]; simp_all)
  ·rintro ⟨b1, b2, b3, b4, b5⟩ ⟨hb0⟩
   dsimp only
   refine ⟨?_, ?_⟩
   ·repeat' (first | (with_reducible refine ⟨⟨trivial, rfl⟩, (_, _, _, _, _), ⟨?_⟩, rfl, rfl, rfl, rfl, rfl, rfl, trivial⟩) | (with_reducible refine ⟨⟨.inr (.inr rfl)⟩, ?_⟩) | (with_reducible refine ⟨⟨.inr (.inl rfl)⟩, ?_⟩) | (with_reducible refine ⟨⟨.inl rfl⟩, ?_⟩) | (with_reducible refine ⟨c.rs, ⟨rfl, rfl, ok1⟩, ?_⟩) | (with_reducible refine ⟨c.lo, ⟨rfl, rfl, by omega⟩, ?_⟩) | (with_reducible refine ⟨c.ti, ⟨rfl, rfl, ok3⟩, ?_⟩) | (rintro b ⟨hs⟩) | (with_reducible refine ⟨_, rfl, ?_⟩) | (with_reducible refine splitE (fun _ => ?_) (fun _ => ?_)) | (with_reducible refine splitB (fun hb => ?_) (fun hb => ?_)))
    iterate 4 (all_goals (first | unfold vc_51_1 | unfold vc_51_2 | unfold vc_51_3 | unfold vc_51_4 | unfold vc_51_5 | unfold vc_51_6 | unfold vc_51_7 | unfold vc_51_8 | unfold vc_51_9 | unfold vc_51_10 | unfold vc_51_11 | unfold vc_51_12 | unfold vc_51_13 | unfold vc_51_14 | unfold vc_51_15 | unfold vc_51_16 | unfold vc_51_17 | unfold vc_51_18 | skip); all_goals (repeat' (first | (with_reducible refine ⟨⟨trivial, rfl⟩, (_, _, _, _, _), ⟨?_⟩, rfl, rfl, rfl, rfl, rfl, rfl, trivial⟩) | (with_reducible refine ⟨⟨.inr (.inr rfl)⟩, ?_⟩) | (with_reducible refine ⟨⟨.inr (.inl rfl)⟩, ?_⟩) | (with_reducible refine ⟨⟨.inl rfl⟩, ?_⟩) | (with_reducible refine ⟨c.rs, ⟨rfl, rfl, ok1⟩, ?_⟩) | (with_reducible refine ⟨c.lo, ⟨rfl, rfl, by omega⟩, ?_⟩) | (with_reducible refine ⟨c.ti, ⟨rfl, rfl, ok3⟩, ?_⟩) | (rintro b ⟨hs⟩) | (with_reducible refine ⟨_, rfl, ?_⟩) | (with_reducible refine splitE (fun _ => ?_) (fun _ => ?_)) | (with_reducible refine splitB (fun hb => ?_) (fun hb => ?_)))))
    all_goals try simp only [in32_iff, in16_iff, in8_iff, in32_no, in16_no, in8_no] at *
    all_goals first
     | (refine vfalse hq ?_; rw [← Bool.not_eq_true, valid_iff]; intro hv; omega)
     | (unfold fldM; rw [Bool.eq_iff_iff, valid_iff]; simp only [askM, zerM, arzM, Prod.mk.injEq] at hb0; obtain ⟨rfl, rfl, rfl, rfl, rfl⟩ := hb0; have hr0 := @rcsOk_nil c.rs; constructor <;> intro hv <;> simp_all <;> omega)
   ·clear hb0 b1 b2 b3 b4 b5
    rintro ⟨b1, b2, b3, b4, b5⟩ ⟨hb⟩
    unfold fldM at hb
    rw [← hb] at hq
    cases b1 <;> cases b2 <;> cases b3 <;> cases b4 <;> cases b5 <;> exact hq
 ·refine vfalse hq ?_
  rw [← Bool.not_eq_true, valid_iff]
  rw [in32_no] at hf
  intro hv
  omega
theorem validR_ok : ValidF Tryd.prog glC 51 cValid := by
 refine valid_flat (enters_of (by kernel_rfl)) glC_noY fun args H Q hc => ?_
 unfold cValid at hc
 split at hc
 ·rename_i cs
  obtain ⟨c, ⟨rfl, hok⟩, hq⟩ := hc
  obtain ⟨hv, hb', h⟩ := rvalid_run c hok (fun o H' _ => H' = [] ∧ (∃ v, o = .ret v ∧ old 0 v = true ∧ noY v = true) ∧ Q o H) ⟨rfl, ⟨_, rfl, rfl, rfl⟩, hq⟩
  exact ⟨rfl, rfl, _, 1000, (envFor24 sm51_ok _ _ _ : EnvFor Tryd.prog (env_51 hv hb' c)), rfl, h⟩
 ·exact hc.elim
theorem right_ok : ValidF Tryd.prog glC 32 cRightCV := right_of validR_ok
end Go.Proofs.YtafchcmemeinlaaDoor
