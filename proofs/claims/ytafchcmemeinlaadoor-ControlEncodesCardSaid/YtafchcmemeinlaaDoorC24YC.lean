/-
  Chapter 24: Draft: Piece.control, the numbers of a Nack and the times of arrivals.
-/
import Derived.Test.YtafchcmemeinlaaDoorC24YB
import Derived.Test.YtafchcmemeinlaaDoorC24YP
set_option linter.unusedSimpArgs false
set_option linter.unusedVariables false
set_option linter.unusedSectionVars false
namespace Go.Proofs.YtafchcmemeinlaaDoor
open Go.RowKit
set_option maxRecDepth 1000000

abbrev X36 := List Int × Int × List AV
def inv_36b (ls : List Int) (s : S) : List (List LInv) := match s.tm.get 7, s.hp with
 | .int _ f, [b0, b1, ⟨k, _, [c0, c1, c2, c3, c4, c5, c6, c7, c8, _, c10, c11, c12]⟩, _] => [[
  { α := Nat, pre := fun i => Lf (i = 0), st := fun i => ⟨mkT [(2, .ptr 0 10 0), (4, .ptr 1 13 0), (5, .ptr 2 13 0), (7, .int .i64 f), (8, .int .i64 0), (9, .int .i64 (i : Nat))], s.hp⟩, mu := fun i => ls.length + 1 },
  { α := X36, pre := fun x => Lf (2 ≤ x.1.length ∧ x.1.length ≤ ls.length + 1 ∧ nkP f x.2.1 x.1), st := fun x => ⟨mkT [(2, .ptr 0 10 0), (4, .ptr 1 13 0), (5, .ptr 2 13 0), (7, .int .i64 f), (8, .int .i64 x.2.1), (9, .int .i64 ((x.1.length : Int) - 1))], [b0, b1, ⟨k, false, [c0, c1, c2, c3, c4, c5, c6, c7, c8, .sl 4 x.1.length 0 x.1.length 1, c10, c11, c12]⟩, ⟨.exact, true, x.2.2⟩, ⟨.grow, true, cellsI x.1⟩]⟩, mu := fun x => ls.length + 1 - x.1.length }]]
 | _, _ => []
def inv_36c (ls : List Int) (s : S) : List (List LInv) := match s.tm.get 10, s.hp with
 | .int _ at', [b0, b1, ⟨k, _, [c0, c1, c2, c3, c4, c5, c6, c7, c8, c9, c10, c11, _]⟩, _] => [[
  { α := Nat, pre := fun i => Lf (i = 0), st := fun i => ⟨mkT [(2, .ptr 0 10 0), (4, .ptr 1 13 0), (5, .ptr 2 13 0), (10, .int .i64 at'), (11, .int .i64 (i : Nat))], s.hp⟩, mu := fun i => ls.length + 1 },
  { α := X36, pre := fun x => Lf (2 ≤ x.1.length ∧ x.1.length ≤ ls.length + 1 ∧ tmP x.2.1 x.1), st := fun x => ⟨mkT [(2, .ptr 0 10 0), (4, .ptr 1 13 0), (5, .ptr 2 13 0), (10, .int .i64 x.2.1), (11, .int .i64 ((x.1.length : Int) - 1))], [b0, b1, ⟨k, false, [c0, c1, c2, c3, c4, c5, c6, c7, c8, c9, c10, c11, .sl 4 x.1.length 0 x.1.length 1]⟩, ⟨.exact, true, x.2.2⟩, ⟨.grow, true, cellsI x.1⟩]⟩, mu := fun x => ls.length + 1 - x.1.length }]]
 | _, _ => []
noncomputable def env_36c (hv : Nat → Option Pa) (hb : Nat → Option Bool) (p : Pc) : Env := e24 sm36 (fun i => bif Nat.beq i 36003 then some (inv_36b p.ls) else bif Nat.beq i 36005 then some (inv_36c p.ls) else none) hv hb
noncomputable def goal_36_4 (hv : Nat → Option Pa) (hb : Nat → Option Bool) (p : Pc) (Q : Out → List Blk → Gh → Prop) : Prop := callx (env_36c hv hb p) (wpx (env_36c hv hb p) 1000) 36 [.agg (pcC p), .int .i64 4] [] {} Q
noncomputable def goal_36_6 (hv : Nat → Option Pa) (hb : Nat → Option Bool) (p : Pc) (Q : Out → List Blk → Gh → Prop) : Prop := callx (env_36c hv hb p) (wpx (env_36c hv hb p) 1000) 36 [.agg (pcC p), .int .i64 6] [] {} Q
abbrev q4YC_36_4_0 (Q : Out → List Blk → Gh → Prop) (n_1 : Int) (n_3 : Int) (x_7 : List Int × Int × List AV) (p : Pc) : Prop :=
Q (.ret (.agg [.int .i64 4, .int .i64 n_1, .int .i64 n_3, .int .i64 0, .int .i64 0, .int .i64 0, .int .i64 0, .int .i64 0, .nils, .sl 4 x_7.1.length 0 x_7.1.length 1, .int .i64 0, .int .i64 0, .nils])) [Blk.mk BK.exact true [.int .u8 p.1,
 .int .u32 p.2, .int .u32 p.3, .int .u32 p.4, .int .u32 p.5, .int .u32 p.6, .int .u32 p.7, .lst p.8 (cells32M p.9) p.9.length 1, .lst p.10 (cells16M p.11) p.11.length 1, .int .u64 p.12], Blk.mk BK.exact false [.int .i64 4, .int .i64 n_1,
 .int .i64 n_3, .int .i64 0, .int .i64 0, .int .i64 0, .int .i64 0, .int .i64 0, .nils, .sl 4 x_7.1.length 0 x_7.1.length 1, .int .i64 0, .int .i64 0, .nils], Blk.mk BK.exact false [.int .i64 4, .int .i64 n_1, .int .i64 n_3, .int .i64 0,
 .int .i64 0, .int .i64 0, .int .i64 0, .int .i64 0, .nils, .sl 4 x_7.1.length 0 x_7.1.length 1, .int .i64 0, .int .i64 0, .nils], Blk.mk BK.exact true x_7.2.2, Blk.mk BK.grow true (cellsI x_7.1)] {}
abbrev q4YC_36_4_1 (Q : Out → List Blk → Gh → Prop) (n_1 : Int) (n_3 : Int) (p : Pc) (n_6 : Int) : Prop :=
Q (.ret (.agg [.int .i64 4, .int .i64 n_1, .int .i64 n_3, .int .i64 0, .int .i64 0, .int .i64 0, .int .i64 0, .int .i64 0, .nils, .sl 3 1 0 1 1, .int .i64 0, .int .i64 0, .nils])) [Blk.mk BK.exact true [.int .u8 p.1, .int .u32 p.2, .int
 .u32 p.3, .int .u32 p.4, .int .u32 p.5, .int .u32 p.6, .int .u32 p.7, .lst p.8 (cells32M p.9) p.9.length 1, .lst p.10 (cells16M p.11) p.11.length 1, .int .u64 p.12], Blk.mk BK.exact false [.int .i64 4, .int .i64 n_1, .int .i64 n_3, .int
 .i64 0, .int .i64 0, .int .i64 0, .int .i64 0, .int .i64 0, .nils, .sl 3 1 0 1 1, .int .i64 0, .int .i64 0, .nils], Blk.mk BK.exact false [.int .i64 4, .int .i64 n_1, .int .i64 n_3, .int .i64 0, .int .i64 0, .int .i64 0, .int .i64 0, .int
 .i64 0, .nils, .sl 3 1 0 1 1, .int .i64 0, .int .i64 0, .nils], Blk.mk BK.exact true [.int .i64 n_6]] {}
abbrev zYC0 (p : Pc) : Prop := eqqQ [AV.int .u8 p.1, .int .u32 p.2, .int .u32 p.3, .int .u32 p.4, .int .u32 p.5, .int .u32 p.6, .int .u32 p.7, .lst p.8 (cells32M p.9) p.9.length 1, .lst p.10 (cells16M p.11) p.11.length 1, .int .u64 p.12]
abbrev zYC1 : Prop := eqqQ [AV.int .i64 0, .int .i64 0, .int .i64 0, .int .i64 0, .int .i64 0, .int .i64 0, .int .i64 0, .int .i64 0, .nils, .nils, .int .i64 0, .int .i64 0, .nils]
abbrev zYC4 (n_1 n_3 : Int) : List AV := [.int .i64 4, .int .i64 n_1, .int .i64 n_3, .int .i64 0, .int .i64 0, .int .i64 0, .int .i64 0, .int .i64 0, .nils, .sl 3 1 0 1 1, .int .i64 0, .int .i64 0, .nils]
abbrev zYC23 : Prop := eqqQ (AV.ptr 2 13 0)
abbrev zYC25 : Prop := eqqQ (AV.ptr 0 10 0)
abbrev zYC26 : Prop := eqqQ (AV.ptr 1 13 0)
abbrev zYC11 (x_7 : List Int × Int × List AV) (p : Pc) (n_6 : Int) : Prop := Lf (2 ≤ x_7.1.length ∧ x_7.1.length ≤ (Pc.ls p).length + 1 ∧ nkP n_6 x_7.2.1 x_7.1)
abbrev zYC7 (n_1 n_3 : Int) (x_7 : List Int × Int × List AV) : List AV := [.int .i64 4, .int .i64 n_1, .int .i64 n_3, .int .i64 0, .int .i64 0, .int .i64 0, .int .i64 0, .int .i64 0, .nils, .sl 4 x_7.1.length 0 x_7.1.length 1, .int .i64 0, .int .i64 0, .nils]
abbrev zYC9 (n_12 : Int) (p : Pc) : Bool := decide (0 ≤ n_12) && Nat.blt n_12.toNat p.11.length && true
abbrev zYC14 (n_12 : Int) (p : Pc) : Bool := Nat.blt (n_12.toNat * 1) (cells16M p.11).length
abbrev zYC15 (p : Pc) (n_12 : Int) : AV := (cells16M p.11).getD (n_12.toNat * 1) AV.undef
abbrev zYC8 : Prop := True ∧ (0 : Nat) = (0 : Nat)
abbrev zYC22 (p : Pc) : Prop := p.11.length + 1 < p.11.length + 1
abbrev zYC18 (n_1 n_3 : Int) : List AV := [.int .i64 4, .int .i64 n_1, .int .i64 n_3, .int .i64 0, .int .i64 0, .int .i64 0, .int .i64 0, .int .i64 0, .nils, .sl 4 2 0 2 1, .int .i64 0, .int .i64 0, .nils]
abbrev zYC13 (p : Pc) (y_21 : List Int × Int × List AV) : Nat := p.11.length + 1 - y_21.1.length
abbrev zYC24 (n_20 : Int) : AV := .int .i64 n_20
abbrev zYC10 (y_21 : List Int × Int × List AV) : Int := (y_21.1.length : Int) - 1
abbrev zYC6 (n_16 : Int) (y_21 : List Int × Int × List AV) : Prop := zYC25 ∧ zYC26 ∧ zYC24 n_16 = AV.int .i64 y_21.2.1 ∧ True
abbrev zYC27 (x_7 : List Int × Int × List AV) : Bool := Nat.beq (cellsI x_7.1).length x_7.1.length
abbrev zYC16 (x_7 : List Int × Int × List AV) : Int := (x_7.1.length : Int)
abbrev zYC2 (x_7 : List Int × Int × List AV) : Bool := zYC27 x_7 && true && Nat.beq (0 + x_7.1.length * 1) x_7.1.length && Nat.ble (x_7.1.length + 1) 1099511627776 && Nat.ble ((x_7.1.length + 1) * 8) 1099511627776
abbrev zYC19 (n_1 n_3 : Int) (x_7 : List Int × Int × List AV) : List AV := [.int .i64 4, .int .i64 n_1, .int .i64 n_3, .int .i64 0, .int .i64 0, .int .i64 0, .int .i64 0, .int .i64 0, .nils, .sl 4 (x_7.1.length + 1) 0 (x_7.1.length + 1) 1, .int .i64 0, .int .i64 0, .nils]
theorem vc_36_4 (p : Pc) (Q : Out → List Blk → Gh → Prop) : goal_36_4 (lookV [(147472, .int .u32), (147473, .int .i64), (147479, .int .u32), (147480, .int .i64), (147539, .int .u32), (147540, .int .u32), (147541, .int .i64), (147545, .int
 .i64), (147548, .int .i64), (147562, .int .i64), (147564, .int .u16), (147565, .int .u16), (147566, .int .i64), (147567, .int .i64), (147572, .int .i64), (147573, .int .i64), (147556, .int .i64), (147557, .int .i64), (147553, .int .i64),
 (147559, .int .i64)]) (lookB []) p Q = (exI .u32 p.2 (fun n_0 => exW .i64 n_0 (fun n_1 => exI .u32 p.3 (fun n_2 => exW .i64 n_2 (fun n_3 => exI .u32 p.4 (fun n_4 => exI .u32 (n_4.tmod 65536) (fun n_5 => exW .i64 n_5 (fun n_6 => ((∃ x_7 :
 Nat, Lf (x_7 = 0) ∧ zYC0 p ∧ zYC1 ∧ eqqQ (zYC4 n_1 n_3) ∧ eqqQ [AV.int .i64 n_6] ∧ eqqQ (AV.int .i64 n_6) ∧ zYC23 ∧ AV.int .i64 0 = AV.int .i64 (x_7 : Int) ∧ zYC25 ∧ zYC26 ∧ eqqQ (AV.int .i64 0) ∧ True) ∨ ∃ x_7 : List Int × Int × List AV,
 zYC11 x_7 p n_6 ∧ zYC0 p ∧ zYC1 ∧ zYC4 n_1 n_3 = zYC7 n_1 n_3 x_7 ∧ [AV.int .i64 n_6] = x_7.2.2 ∧ False) ∧ (∀ x_7 : Nat, Lf (x_7 = 0) → exI .i64 (x_7 : Int) (fun n_8 => exI .i64 (p.11.length : Int) (fun n_9 => bif decide (n_8 < n_9) then
 exI .i64 1 (fun n_10 => bif decide (n_10 < 64) then exI .i64 1 (fun n_11 => exI .i64 (x_7 : Int) (fun n_12 => ckQ (zYC9 n_12 p) (ckQ (zYC14 n_12 p) (exV .u16 (zYC15 p n_12) (fun n_13 => exI .u16 (n_13.tmod 20) (fun n_14 => exW .i64 n_14
 (fun n_15 => exW .i64 (n_11 + n_15) (fun n_16 => exW .i64 (n_6 + n_16) (fun n_17 => exI .i64 (n_17.tmod 65536) (fun n_18 => exI .i64 (x_7 : Int) (fun n_19 => exW .i64 (n_19 + 1) (fun n_20 => zYC8 ∧ ((∃ y_21 : Nat, Lf (y_21 = 0) ∧ zYC22 p ∧
 zYC0 p ∧ zYC1 ∧ zYC18 n_1 n_3 = zYC4 n_1 n_3 ∧ eqqQ [AV.int .i64 n_6] ∧ False) ∨ ∃ y_21 : List Int × Int × List AV, zYC11 y_21 p n_6 ∧ zYC13 p y_21 < p.11.length + 1 ∧ zYC0 p ∧ zYC1 ∧ zYC18 n_1 n_3 = zYC7 n_1 n_3 y_21 ∧ [AV.int .i64 n_6] =
 y_21.2.2 ∧ [AV.int .i64 n_6, .int .i64 n_18] = cellsI y_21.1 ∧ eqqQ (AV.int .i64 n_6) ∧ zYC23 ∧ zYC24 n_20 = AV.int .i64 (zYC10 y_21) ∧ zYC6 n_16 y_21))))))))))))) else q4YC_36_4_1 Q n_1 n_3 p n_6) else q4YC_36_4_1 Q n_1 n_3 p n_6))) ∧ ∀
 x_7 : List Int × Int × List AV, zYC11 x_7 p n_6 → exI .i64 (zYC10 x_7) (fun n_8 => exI .i64 (p.11.length : Int) (fun n_9 => bif decide (n_8 < n_9) then ckQ (zYC27 x_7) (exI .i64 (zYC16 x_7) (fun n_10 => bif decide (n_10 < 64) then exW .i64
 (x_7.2.1 + 1) (fun n_11 => exI .i64 (zYC10 x_7) (fun n_12 => ckQ (zYC9 n_12 p) (ckQ (zYC14 n_12 p) (exV .u16 (zYC15 p n_12) (fun n_13 => exI .u16 (n_13.tmod 20) (fun n_14 => exW .i64 n_14 (fun n_15 => exW .i64 (n_11 + n_15) (fun n_16 =>
 exW .i64 (n_6 + n_16) (fun n_17 => exI .i64 (n_17.tmod 65536) (fun n_18 => ckQ (zYC2 x_7) (exI .i64 (zYC10 x_7) (fun n_19 => exW .i64 (n_19 + 1) (fun n_20 => zYC8 ∧ ((∃ y_21 : Nat, Lf (y_21 = 0) ∧ p.11.length + 1 < zYC13 p x_7 ∧ zYC0 p ∧
 zYC1 ∧ zYC19 n_1 n_3 x_7 = zYC4 n_1 n_3 ∧ x_7.2.2 = [AV.int .i64 n_6] ∧ False) ∨ ∃ y_21 : List Int × Int × List AV, zYC11 y_21 p n_6 ∧ zYC13 p y_21 < zYC13 p x_7 ∧ zYC0 p ∧ zYC1 ∧ zYC19 n_1 n_3 x_7 = zYC7 n_1 n_3 y_21 ∧ x_7.2.2 = y_21.2.2
 ∧ cellsI x_7.1 ++ [zYC24 n_18] = cellsI y_21.1 ∧ eqqQ (AV.int .i64 n_6) ∧ zYC23 ∧ zYC24 n_20 = AV.int .i64 (zYC10 y_21) ∧ zYC6 n_16 y_21)))))))))))))) else q4YC_36_4_0 Q n_1 n_3 x_7 p)) else q4YC_36_4_0 Q n_1 n_3 x_7 p)))))))))) := by
 kernel_rfl

abbrev q4YC_36_6_0 (Q : Out → List Blk → Gh → Prop) (n_1 : Int) (n_3 : Int) (n_6 : Int) (n_9 : Int) (x_15 : List Int × Int × List AV) (p : Pc) : Prop :=
Q (.ret (.agg [.int .i64 6, .int .i64 n_1, .int .i64 n_3, .int .i64 0, .int .i64 0, .int .i64 0, .int .i64 0, .int .i64 0, .nils, .nils, .int .i64 n_6, .int .i64 n_9, .sl 4 x_15.1.length 0 x_15.1.length 1])) [Blk.mk BK.exact true [.int .u8
 p.1, .int .u32 p.2, .int .u32 p.3, .int .u32 p.4, .int .u32 p.5, .int .u32 p.6, .int .u32 p.7, .lst p.8 (cells32M p.9) p.9.length 1, .lst p.10 (cells16M p.11) p.11.length 1, .int .u64 p.12], Blk.mk BK.exact false [.int .i64 6, .int .i64
 n_1, .int .i64 n_3, .int .i64 0, .int .i64 0, .int .i64 0, .int .i64 0, .int .i64 0, .nils, .nils, .int .i64 n_6, .int .i64 n_9, .sl 4 x_15.1.length 0 x_15.1.length 1], Blk.mk BK.exact false [.int .i64 6, .int .i64 n_1, .int .i64 n_3, .int
 .i64 0, .int .i64 0, .int .i64 0, .int .i64 0, .int .i64 0, .nils, .nils, .int .i64 n_6, .int .i64 n_9, .sl 4 x_15.1.length 0 x_15.1.length 1], Blk.mk BK.exact true x_15.2.2, Blk.mk BK.grow true (cellsI x_15.1)] {}
abbrev q4YC_36_6_1 (p : Pc) (x_15 : List Int × Int × List AV) (n_1 : Int) (n_3 : Int) (n_6 : Int) (n_9 : Int) (n_32 : Int) : Prop :=
∃ y_33 : List Int × Int × List AV, Lf (2 ≤ y_33.1.length ∧ y_33.1.length ≤ (Pc.ls p).length + 1 ∧ tmP y_33.2.1 y_33.1) ∧ p.11.length + 1 - y_33.1.length < p.11.length + 1 - x_15.1.length ∧ eqqQ [AV.int .u8 p.1, .int .u32 p.2, .int .u32 p.3,
 .int .u32 p.4, .int .u32 p.5, .int .u32 p.6, .int .u32 p.7, .lst p.8 (cells32M p.9) p.9.length 1, .lst p.10 (cells16M p.11) p.11.length 1, .int .u64 p.12] ∧ eqqQ [AV.int .i64 0, .int .i64 0, .int .i64 0, .int .i64 0, .int .i64 0, .int .i64
 0, .int .i64 0, .int .i64 0, .nils, .nils, .int .i64 0, .int .i64 0, .nils] ∧ [AV.int .i64 6, .int .i64 n_1, .int .i64 n_3, .int .i64 0, .int .i64 0, .int .i64 0, .int .i64 0, .int .i64 0, .nils, .nils, .int .i64 n_6, .int .i64 n_9, .sl 4
 (x_15.1.length + 1) 0 (x_15.1.length + 1) 1] = [AV.int .i64 6, .int .i64 n_1, .int .i64 n_3, .int .i64 0, .int .i64 0, .int .i64 0, .int .i64 0, .int .i64 0, .nils, .nils, .int .i64 n_6, .int .i64 n_9, .sl 4 y_33.1.length 0 y_33.1.length
 1] ∧ x_15.2.2 = y_33.2.2 ∧ cellsI x_15.1 ++ [AV.int .i64 (-1)] = cellsI y_33.1 ∧ AV.int .i64 n_32 = AV.int .i64 ((y_33.1.length : Int) - 1) ∧ eqqQ (AV.ptr 2 13 0) ∧ eqqQ (AV.ptr 0 10 0) ∧ eqqQ (AV.ptr 1 13 0) ∧ AV.int .i64 x_15.2.1 =
 AV.int .i64 y_33.2.1 ∧ True
abbrev q4YC_36_6_2 (p : Pc) (x_15 : List Int × Int × List AV) (n_1 : Int) (n_3 : Int) (n_6 : Int) (n_9 : Int) (n_25 : Int) (n_32 : Int) : Prop :=
∃ y_33 : List Int × Int × List AV, Lf (2 ≤ y_33.1.length ∧ y_33.1.length ≤ (Pc.ls p).length + 1 ∧ tmP y_33.2.1 y_33.1) ∧ p.11.length + 1 - y_33.1.length < p.11.length + 1 - x_15.1.length ∧ eqqQ [AV.int .u8 p.1, .int .u32 p.2, .int .u32 p.3,
 .int .u32 p.4, .int .u32 p.5, .int .u32 p.6, .int .u32 p.7, .lst p.8 (cells32M p.9) p.9.length 1, .lst p.10 (cells16M p.11) p.11.length 1, .int .u64 p.12] ∧ eqqQ [AV.int .i64 0, .int .i64 0, .int .i64 0, .int .i64 0, .int .i64 0, .int .i64
 0, .int .i64 0, .int .i64 0, .nils, .nils, .int .i64 0, .int .i64 0, .nils] ∧ [AV.int .i64 6, .int .i64 n_1, .int .i64 n_3, .int .i64 0, .int .i64 0, .int .i64 0, .int .i64 0, .int .i64 0, .nils, .nils, .int .i64 n_6, .int .i64 n_9, .sl 4
 (x_15.1.length + 1) 0 (x_15.1.length + 1) 1] = [AV.int .i64 6, .int .i64 n_1, .int .i64 n_3, .int .i64 0, .int .i64 0, .int .i64 0, .int .i64 0, .int .i64 0, .nils, .nils, .int .i64 n_6, .int .i64 n_9, .sl 4 y_33.1.length 0 y_33.1.length
 1] ∧ x_15.2.2 = y_33.2.2 ∧ cellsI x_15.1 ++ [AV.int .i64 n_25] = cellsI y_33.1 ∧ AV.int .i64 n_32 = AV.int .i64 ((y_33.1.length : Int) - 1) ∧ eqqQ (AV.ptr 2 13 0) ∧ eqqQ (AV.ptr 0 10 0) ∧ eqqQ (AV.ptr 1 13 0) ∧ AV.int .i64 n_25 = AV.int
 .i64 y_33.2.1 ∧ True
abbrev q4YC_36_6_3 (n_1 : Int) (n_3 : Int) (n_6 : Int) (n_9 : Int) (x_15 : List Int × Int × List AV) : Prop :=
[AV.int .i64 6, .int .i64 n_1, .int .i64 n_3, .int .i64 0, .int .i64 0, .int .i64 0, .int .i64 0, .int .i64 0, .nils, .nils, .int .i64 n_6, .int .i64 n_9, .sl 4 (x_15.1.length + 1) 0 (x_15.1.length + 1) 1] = [AV.int .i64 6, .int .i64 n_1,
 .int .i64 n_3, .int .i64 0, .int .i64 0, .int .i64 0, .int .i64 0, .int .i64 0, .nils, .nils, .int .i64 n_6, .int .i64 n_9, .sl 3 1 0 1 1]
abbrev q4YC_36_6_4 (n_1 : Int) (n_3 : Int) (n_6 : Int) (n_9 : Int) (y_33 : List Int × Int × List AV) : Prop :=
[AV.int .i64 6, .int .i64 n_1, .int .i64 n_3, .int .i64 0, .int .i64 0, .int .i64 0, .int .i64 0, .int .i64 0, .nils, .nils, .int .i64 n_6, .int .i64 n_9, .sl 4 2 0 2 1] = [AV.int .i64 6, .int .i64 n_1, .int .i64 n_3, .int .i64 0, .int .i64
 0, .int .i64 0, .int .i64 0, .int .i64 0, .nils, .nils, .int .i64 n_6, .int .i64 n_9, .sl 4 y_33.1.length 0 y_33.1.length 1]
abbrev q4YC_36_6_5 (n_1 : Int) (n_3 : Int) (n_6 : Int) (n_9 : Int) : Prop :=
[AV.int .i64 6, .int .i64 n_1, .int .i64 n_3, .int .i64 0, .int .i64 0, .int .i64 0, .int .i64 0, .int .i64 0, .nils, .nils, .int .i64 n_6, .int .i64 n_9, .sl 4 2 0 2 1] = [AV.int .i64 6, .int .i64 n_1, .int .i64 n_3, .int .i64 0, .int .i64
 0, .int .i64 0, .int .i64 0, .int .i64 0, .nils, .nils, .int .i64 n_6, .int .i64 n_9, .sl 3 1 0 1 1]
abbrev q4YC_36_6_6 (Q : Out → List Blk → Gh → Prop) (n_1 : Int) (n_3 : Int) (n_6 : Int) (n_9 : Int) (p : Pc) : Prop :=
Q (.ret (.agg [.int .i64 6, .int .i64 n_1, .int .i64 n_3, .int .i64 0, .int .i64 0, .int .i64 0, .int .i64 0, .int .i64 0, .nils, .nils, .int .i64 n_6, .int .i64 n_9, .sl 3 1 0 1 1])) [Blk.mk BK.exact true [.int .u8 p.1, .int .u32 p.2, .int
 .u32 p.3, .int .u32 p.4, .int .u32 p.5, .int .u32 p.6, .int .u32 p.7, .lst p.8 (cells32M p.9) p.9.length 1, .lst p.10 (cells16M p.11) p.11.length 1, .int .u64 p.12], Blk.mk BK.exact false [.int .i64 6, .int .i64 n_1, .int .i64 n_3, .int
 .i64 0, .int .i64 0, .int .i64 0, .int .i64 0, .int .i64 0, .nils, .nils, .int .i64 n_6, .int .i64 n_9, .sl 3 1 0 1 1], Blk.mk BK.exact false [.int .i64 6, .int .i64 n_1, .int .i64 n_3, .int .i64 0, .int .i64 0, .int .i64 0, .int .i64 0,
 .int .i64 0, .nils, .nils, .int .i64 n_6, .int .i64 n_9, .sl 3 1 0 1 1], Blk.mk BK.exact true [.int .i64 (-1)]] {}
abbrev q4YC_36_6_7 (Q : Out → List Blk → Gh → Prop) (n_1 : Int) (n_3 : Int) (n_6 : Int) (n_9 : Int) (p : Pc) (n_12 : Int) : Prop :=
Q (.ret (.agg [.int .i64 6, .int .i64 n_1, .int .i64 n_3, .int .i64 0, .int .i64 0, .int .i64 0, .int .i64 0, .int .i64 0, .nils, .nils, .int .i64 n_6, .int .i64 n_9, .sl 3 1 0 1 1])) [Blk.mk BK.exact true [.int .u8 p.1, .int .u32 p.2, .int
 .u32 p.3, .int .u32 p.4, .int .u32 p.5, .int .u32 p.6, .int .u32 p.7, .lst p.8 (cells32M p.9) p.9.length 1, .lst p.10 (cells16M p.11) p.11.length 1, .int .u64 p.12], Blk.mk BK.exact false [.int .i64 6, .int .i64 n_1, .int .i64 n_3, .int
 .i64 0, .int .i64 0, .int .i64 0, .int .i64 0, .int .i64 0, .nils, .nils, .int .i64 n_6, .int .i64 n_9, .sl 3 1 0 1 1], Blk.mk BK.exact false [.int .i64 6, .int .i64 n_1, .int .i64 n_3, .int .i64 0, .int .i64 0, .int .i64 0, .int .i64 0,
 .int .i64 0, .nils, .nils, .int .i64 n_6, .int .i64 n_9, .sl 3 1 0 1 1], Blk.mk BK.exact true [.int .i64 n_12]] {}
abbrev q4YC_36_6_8 (n_1 : Int) (n_3 : Int) (n_6 : Int) (n_9 : Int) (x_15 : List Int × Int × List AV) : Prop :=
[AV.int .i64 6, .int .i64 n_1, .int .i64 n_3, .int .i64 0, .int .i64 0, .int .i64 0, .int .i64 0, .int .i64 0, .nils, .nils, .int .i64 n_6, .int .i64 n_9, .sl 3 1 0 1 1] = [AV.int .i64 6, .int .i64 n_1, .int .i64 n_3, .int .i64 0, .int .i64
 0, .int .i64 0, .int .i64 0, .int .i64 0, .nils, .nils, .int .i64 n_6, .int .i64 n_9, .sl 4 x_15.1.length 0 x_15.1.length 1]
abbrev zYC12 (n_13 : Int) : Int := (((n_13 % 18446744073709551616).toNat &&& 1 : Nat) : Int)
abbrev zYC20 (n_1 n_3 n_6 n_9 : Int) : Prop := eqqQ [AV.int .i64 6, .int .i64 n_1, .int .i64 n_3, .int .i64 0, .int .i64 0, .int .i64 0, .int .i64 0, .int .i64 0, .nils, .nils, .int .i64 n_6, .int .i64 n_9, .sl 3 1 0 1 1]
abbrev zYC17 : AV := .int .i64 (-1)
abbrev zYC21 (x_15 : Nat) (n_12 : Int) : Prop := AV.int .i64 0 = AV.int .i64 (x_15 : Int) ∧ eqqQ (AV.ptr 2 13 0) ∧ eqqQ (AV.ptr 0 10 0) ∧ eqqQ (AV.ptr 1 13 0) ∧ eqqQ (AV.int .i64 n_12) ∧ True
abbrev zYC3 (x_15 : List Int × Int × List AV) (p : Pc) : Prop := Lf (2 ≤ x_15.1.length ∧ x_15.1.length ≤ (Pc.ls p).length + 1 ∧ tmP x_15.2.1 x_15.1)
abbrev zYC28 (p : Pc) (n_1 n_3 n_6 n_9 : Int) : Prop := ∃ y_33 : Nat, Lf (y_33 = 0) ∧ zYC22 p ∧ zYC0 p ∧ zYC1 ∧ q4YC_36_6_5 n_1 n_3 n_6 n_9 ∧ eqqQ [zYC17] ∧ False
abbrev zYC5 (n_32 : Int) (y_33 : List Int × Int × List AV) (n_12 : Int) : Prop := zYC24 n_32 = AV.int .i64 (zYC10 y_33) ∧ zYC23 ∧ zYC25 ∧ zYC26 ∧ zYC24 n_12 = AV.int .i64 y_33.2.1 ∧ True
theorem vc_36_6 (p : Pc) (Q : Out → List Blk → Gh → Prop) : goal_36_6 (lookV [(147472, .int .u32), (147473, .int .i64), (147479, .int .u32), (147480, .int .i64), (147581, .int .u32), (147582, .int .u32), (147583, .int .i64), (147587, .int
 .u32), (147588, .int .u32), (147589, .int .i64), (147593, .int .u32), (147594, .int .u32), (147595, .int .i64), (147600, .int .u64), (147601, .int .u64), (147606, .int .i64), (147609, .int .i64), (147622, .int .i64), (147624, .int .u16),
 (147625, .int .u16), (147626, .int .i64), (147627, .int .i64), (147628, .int .i64), (147629, .int .i64), (147631, .int .u64), (147632, .int .i64), (147633, .int .i64), (147634, .int .u64), (147635, .int .u64), (147617, .int .i64), (147618,
 .int .i64), (147614, .int .i64)]) (lookB []) p Q = (exI .u32 p.2 (fun n_0 => exW .i64 n_0 (fun n_1 => exI .u32 p.3 (fun n_2 => exW .i64 n_2 (fun n_3 => exI .u32 p.4 (fun n_4 => exI .u32 (n_4.tmod 65536) (fun n_5 => exW .i64 n_5 (fun n_6 =>
 exI .u32 p.5 (fun n_7 => exI .u32 (n_7.tmod 256) (fun n_8 => exW .i64 n_8 (fun n_9 => exI .u32 p.6 (fun n_10 => exW .u32 (n_10.tdiv 2) (fun n_11 => exW .i64 n_11 (fun n_12 => exI .u64 p.12 (fun n_13 => exW .u64 (zYC12 n_13) (fun n_14 =>
 bif n_14 == 0 then ((∃ x_15 : Nat, Lf (x_15 = 0) ∧ zYC0 p ∧ zYC1 ∧ zYC20 n_1 n_3 n_6 n_9 ∧ eqqQ [zYC17] ∧ zYC21 x_15 n_12) ∨ ∃ x_15 : List Int × Int × List AV, zYC3 x_15 p ∧ zYC0 p ∧ zYC1 ∧ q4YC_36_6_8 n_1 n_3 n_6 n_9 x_15 ∧ [zYC17] =
 x_15.2.2 ∧ False) ∧ (∀ x_15 : Nat, Lf (x_15 = 0) → exI .i64 (x_15 : Int) (fun n_16 => exI .i64 (p.11.length : Int) (fun n_17 => bif decide (n_16 < n_17) then exI .i64 1 (fun n_18 => bif decide (n_18 < 64) then exI .i64 (x_15 : Int) (fun
 n_19 => ckQ (zYC9 n_19 p) (ckQ (zYC14 n_19 p) (exV .u16 (zYC15 p n_19) (fun n_20 => exI .u16 (n_20.tmod 600) (fun n_21 => exW .i64 n_21 (fun n_22 => exW .i64 (n_12 + n_22) (fun n_23 => exW .i64 (n_23 - 100) (fun n_24 => exI .i64 (imax 0
 n_24) (fun n_25 => exI .u64 p.12 (fun n_26 => exI .i64 (x_15 : Int) (fun n_27 => exW .i64 (n_27 + 1) (fun n_28 => ckQ (decide (0 ≤ n_28) && true) (exI .u64 (Int.fdiv n_26 ((2 : Int) ^ Min.min n_28.toNat 64)) (fun n_29 => exW .u64 (zYC12
 n_29) (fun n_30 => bif n_30 == 0 then exI .i64 (x_15 : Int) (fun n_31 => exW .i64 (n_31 + 1) (fun n_32 => zYC8 ∧ (zYC28 p n_1 n_3 n_6 n_9 ∨ ∃ y_33 : List Int × Int × List AV, zYC3 y_33 p ∧ zYC13 p y_33 < p.11.length + 1 ∧ zYC0 p ∧ zYC1 ∧
 q4YC_36_6_4 n_1 n_3 n_6 n_9 y_33 ∧ [zYC17] = y_33.2.2 ∧ [zYC17, .int .i64 (-1)] = cellsI y_33.1 ∧ zYC5 n_32 y_33 n_12))) else exI .i64 (x_15 : Int) (fun n_31 => exW .i64 (n_31 + 1) (fun n_32 => zYC8 ∧ (zYC28 p n_1 n_3 n_6 n_9 ∨ ∃ y_33 :
 List Int × Int × List AV, zYC3 y_33 p ∧ zYC13 p y_33 < p.11.length + 1 ∧ zYC0 p ∧ zYC1 ∧ q4YC_36_6_4 n_1 n_3 n_6 n_9 y_33 ∧ [zYC17] = y_33.2.2 ∧ [zYC17, .int .i64 n_25] = cellsI y_33.1 ∧ zYC5 n_32 y_33 n_25)))))))))))))))))) else
 q4YC_36_6_6 Q n_1 n_3 n_6 n_9 p) else q4YC_36_6_6 Q n_1 n_3 n_6 n_9 p))) ∧ ∀ x_15 : List Int × Int × List AV, zYC3 x_15 p → exI .i64 (zYC10 x_15) (fun n_16 => exI .i64 (p.11.length : Int) (fun n_17 => bif decide (n_16 < n_17) then ckQ
 (zYC27 x_15) (exI .i64 (zYC16 x_15) (fun n_18 => bif decide (n_18 < 64) then exI .i64 (zYC10 x_15) (fun n_19 => ckQ (zYC9 n_19 p) (ckQ (zYC14 n_19 p) (exV .u16 (zYC15 p n_19) (fun n_20 => exI .u16 (n_20.tmod 600) (fun n_21 => exW .i64 n_21
 (fun n_22 => exW .i64 (x_15.2.1 + n_22) (fun n_23 => exW .i64 (n_23 - 100) (fun n_24 => exI .i64 (imax 0 n_24) (fun n_25 => exI .u64 p.12 (fun n_26 => exI .i64 (zYC10 x_15) (fun n_27 => exW .i64 (n_27 + 1) (fun n_28 => ckQ (decide (0 ≤
 n_28) && true) (exI .u64 (Int.fdiv n_26 ((2 : Int) ^ Min.min n_28.toNat 64)) (fun n_29 => exW .u64 (zYC12 n_29) (fun n_30 => bif n_30 == 0 then ckQ (zYC2 x_15) (exI .i64 (zYC10 x_15) (fun n_31 => exW .i64 (n_31 + 1) (fun n_32 => zYC8 ∧ ((∃
 y_33 : Nat, Lf (y_33 = 0) ∧ p.11.length + 1 < zYC13 p x_15 ∧ zYC0 p ∧ zYC1 ∧ q4YC_36_6_3 n_1 n_3 n_6 n_9 x_15 ∧ x_15.2.2 = [zYC17] ∧ False) ∨ q4YC_36_6_1 p x_15 n_1 n_3 n_6 n_9 n_32)))) else ckQ (zYC2 x_15) (exI .i64 (zYC10 x_15) (fun n_31
 => exW .i64 (n_31 + 1) (fun n_32 => zYC8 ∧ ((∃ y_33 : Nat, Lf (y_33 = 0) ∧ p.11.length + 1 < zYC13 p x_15 ∧ zYC0 p ∧ zYC1 ∧ q4YC_36_6_3 n_1 n_3 n_6 n_9 x_15 ∧ x_15.2.2 = [zYC17] ∧ False) ∨ q4YC_36_6_2 p x_15 n_1 n_3 n_6 n_9 n_25
 n_32))))))))))))))))))) else q4YC_36_6_0 Q n_1 n_3 n_6 n_9 x_15 p)) else q4YC_36_6_0 Q n_1 n_3 n_6 n_9 x_15 p)) else ((∃ x_15 : Nat, Lf (x_15 = 0) ∧ zYC0 p ∧ zYC1 ∧ zYC20 n_1 n_3 n_6 n_9 ∧ eqqQ [zYC24 n_12] ∧ zYC21 x_15 n_12) ∨ ∃ x_15 :
 List Int × Int × List AV, zYC3 x_15 p ∧ zYC0 p ∧ zYC1 ∧ q4YC_36_6_8 n_1 n_3 n_6 n_9 x_15 ∧ [zYC24 n_12] = x_15.2.2 ∧ False) ∧ (∀ x_15 : Nat, Lf (x_15 = 0) → exI .i64 (x_15 : Int) (fun n_16 => exI .i64 (p.11.length : Int) (fun n_17 => bif
 decide (n_16 < n_17) then exI .i64 1 (fun n_18 => bif decide (n_18 < 64) then exI .i64 (x_15 : Int) (fun n_19 => ckQ (zYC9 n_19 p) (ckQ (zYC14 n_19 p) (exV .u16 (zYC15 p n_19) (fun n_20 => exI .u16 (n_20.tmod 600) (fun n_21 => exW .i64
 n_21 (fun n_22 => exW .i64 (n_12 + n_22) (fun n_23 => exW .i64 (n_23 - 100) (fun n_24 => exI .i64 (imax 0 n_24) (fun n_25 => exI .u64 p.12 (fun n_26 => exI .i64 (x_15 : Int) (fun n_27 => exW .i64 (n_27 + 1) (fun n_28 => ckQ (decide (0 ≤
 n_28) && true) (exI .u64 (Int.fdiv n_26 ((2 : Int) ^ Min.min n_28.toNat 64)) (fun n_29 => exW .u64 (zYC12 n_29) (fun n_30 => bif n_30 == 0 then exI .i64 (x_15 : Int) (fun n_31 => exW .i64 (n_31 + 1) (fun n_32 => zYC8 ∧ ((∃ y_33 : Nat, Lf
 (y_33 = 0) ∧ zYC22 p ∧ zYC0 p ∧ zYC1 ∧ q4YC_36_6_5 n_1 n_3 n_6 n_9 ∧ eqqQ [zYC24 n_12] ∧ False) ∨ ∃ y_33 : List Int × Int × List AV, zYC3 y_33 p ∧ zYC13 p y_33 < p.11.length + 1 ∧ zYC0 p ∧ zYC1 ∧ q4YC_36_6_4 n_1 n_3 n_6 n_9 y_33 ∧ [zYC24
 n_12] = y_33.2.2 ∧ [zYC24 n_12, .int .i64 (-1)] = cellsI y_33.1 ∧ zYC5 n_32 y_33 n_12))) else exI .i64 (x_15 : Int) (fun n_31 => exW .i64 (n_31 + 1) (fun n_32 => zYC8 ∧ ((∃ y_33 : Nat, Lf (y_33 = 0) ∧ zYC22 p ∧ zYC0 p ∧ zYC1 ∧ q4YC_36_6_5
 n_1 n_3 n_6 n_9 ∧ eqqQ [zYC24 n_12] ∧ False) ∨ ∃ y_33 : List Int × Int × List AV, zYC3 y_33 p ∧ zYC13 p y_33 < p.11.length + 1 ∧ zYC0 p ∧ zYC1 ∧ q4YC_36_6_4 n_1 n_3 n_6 n_9 y_33 ∧ [zYC24 n_12] = y_33.2.2 ∧ [zYC24 n_12, .int .i64 n_25] =
 cellsI y_33.1 ∧ zYC5 n_32 y_33 n_25)))))))))))))))))) else q4YC_36_6_7 Q n_1 n_3 n_6 n_9 p n_12) else q4YC_36_6_7 Q n_1 n_3 n_6 n_9 p n_12))) ∧ ∀ x_15 : List Int × Int × List AV, zYC3 x_15 p → exI .i64 (zYC10 x_15) (fun n_16 => exI .i64
 (p.11.length : Int) (fun n_17 => bif decide (n_16 < n_17) then ckQ (zYC27 x_15) (exI .i64 (zYC16 x_15) (fun n_18 => bif decide (n_18 < 64) then exI .i64 (zYC10 x_15) (fun n_19 => ckQ (zYC9 n_19 p) (ckQ (zYC14 n_19 p) (exV .u16 (zYC15 p
 n_19) (fun n_20 => exI .u16 (n_20.tmod 600) (fun n_21 => exW .i64 n_21 (fun n_22 => exW .i64 (x_15.2.1 + n_22) (fun n_23 => exW .i64 (n_23 - 100) (fun n_24 => exI .i64 (imax 0 n_24) (fun n_25 => exI .u64 p.12 (fun n_26 => exI .i64 (zYC10
 x_15) (fun n_27 => exW .i64 (n_27 + 1) (fun n_28 => ckQ (decide (0 ≤ n_28) && true) (exI .u64 (Int.fdiv n_26 ((2 : Int) ^ Min.min n_28.toNat 64)) (fun n_29 => exW .u64 (zYC12 n_29) (fun n_30 => bif n_30 == 0 then ckQ (zYC2 x_15) (exI .i64
 (zYC10 x_15) (fun n_31 => exW .i64 (n_31 + 1) (fun n_32 => zYC8 ∧ ((∃ y_33 : Nat, Lf (y_33 = 0) ∧ p.11.length + 1 < zYC13 p x_15 ∧ zYC0 p ∧ zYC1 ∧ q4YC_36_6_3 n_1 n_3 n_6 n_9 x_15 ∧ x_15.2.2 = [zYC24 n_12] ∧ False) ∨ q4YC_36_6_1 p x_15 n_1
 n_3 n_6 n_9 n_32)))) else ckQ (zYC2 x_15) (exI .i64 (zYC10 x_15) (fun n_31 => exW .i64 (n_31 + 1) (fun n_32 => zYC8 ∧ ((∃ y_33 : Nat, Lf (y_33 = 0) ∧ p.11.length + 1 < zYC13 p x_15 ∧ zYC0 p ∧ zYC1 ∧ q4YC_36_6_3 n_1 n_3 n_6 n_9 x_15 ∧
 x_15.2.2 = [zYC24 n_12] ∧ False) ∨ q4YC_36_6_2 p x_15 n_1 n_3 n_6 n_9 n_25 n_32))))))))))))))))))) else q4YC_36_6_0 Q n_1 n_3 n_6 n_9 x_15 p)) else q4YC_36_6_0 Q n_1 n_3 n_6 n_9 x_15 p)))))))))))))))))) := by kernel_rfl

theorem get16 {l : List Int} {i m : Nat} (hi : i < l.length) (hm : m = i) {K : Int → Prop} (hk : K l[i]) : ∃ n : Int, (cells16M l).getD m AV.undef = AV.int .u16 n ∧ K n := by
 subst hm
 exact ⟨_, by simp [cells16M, hi], hk⟩
theorem cells16_len (l : List Int) : (cells16M l).length = l.length := by simp [cells16M]
theorem frz_I {H : List Blk} {id n m : Nat} {b : Blk} {acc : List Int} (hH : H[id]? = some b) (hb : b.cs = cellsI acc) (hk : b.k ≠ .ro) (hn : n = acc.length) (hm : m = acc.length) : frzV 0 H 8 (.sl id n 0 m 1) = .lst 0 (cellsI acc) acc.length 1 := by
 subst hn hm
 exact frz_sl (d := 6) hH (by rw [hb]; exact cellsI_len acc) (by omega) hk (by rw [hb, List.drop_zero]; exact List.take_of_length_le (by rw [cellsI_len]; omega)) (plain_cellsI acc)
theorem out_P4 {H : List Blk} {k f a : Int} {id n m : Nat} {b : Blk} {acc : List Int} (hH : H[id]? = some b) (hb : b.cs = cellsI acc) (hk : b.k ≠ .ro) (hn : n = acc.length) (hm : m = acc.length) :
  outP (.agg [.int .i64 k, .int .i64 f, .int .i64 a, .int .i64 0, .int .i64 0, .int .i64 0, .int .i64 0, .int .i64 0, .nils, .sl id n 0 m 1, .int .i64 0, .int .i64 0, .nils]) H = .agg (ctC ⟨k, f, a, 0, 0, 0, 0, 0, [], acc, 0, 0, []⟩) := by
 show pcK (.agg [.int .i64 k, .int .i64 f, .int .i64 a, .int .i64 0, .int .i64 0, .int .i64 0, .int .i64 0, .int .i64 0, .nils, frzV 0 H 8 (.sl id n 0 m 1), .int .i64 0, .int .i64 0, .nils]) = _
 rw [frz_I hH hb hk hn hm]
 rfl
theorem out_P6 {H : List Blk} {k f a ba ro : Int} {id n m : Nat} {b : Blk} {acc : List Int} (hH : H[id]? = some b) (hb : b.cs = cellsI acc) (hk : b.k ≠ .ro) (hn : n = acc.length) (hm : m = acc.length) :
  outP (.agg [.int .i64 k, .int .i64 f, .int .i64 a, .int .i64 0, .int .i64 0, .int .i64 0, .int .i64 0, .int .i64 0, .nils, .nils, .int .i64 ba, .int .i64 ro, .sl id n 0 m 1]) H = .agg (ctC ⟨k, f, a, 0, 0, 0, 0, 0, [], [], ba, ro, acc⟩) := by
 show pcK (.agg [.int .i64 k, .int .i64 f, .int .i64 a, .int .i64 0, .int .i64 0, .int .i64 0, .int .i64 0, .int .i64 0, .nils, .nils, .int .i64 ba, .int .i64 ro, frzV 0 H 8 (.sl id n 0 m 1)]) = _
 rw [frz_I hH hb hk hn hm]
 rfl
theorem valid_4 {p : Pc} (h : okP p) {lo : List Int} (hl : nacksM lo = true) : validM ⟨4, p.n0, p.n1, 0, 0, 0, 0, 0, [], lo, 0, 0, []⟩ = true := by
 obtain ⟨h0, h1, h2, h3, h4, h5, h6, h7, h8, h9⟩ := h
 have z : in32 0 := ⟨by omega, by omega⟩
 rw [valid_iff]
 dsimp only
 exact ⟨by omega, h1, h2, z, z, z, z, z, by omega, by omega, fun hh => by omega, fun _ => ⟨rfl, rfl, rfl, rfl, rfl⟩, fun _ => ⟨rfl, rfl, rfl⟩, fun hh => rfl, fun hh => absurd rfl hh, fun hh => by omega, rfl, fun _ => hl⟩
theorem valid_6 {p : Pc} (h : okP p) {ti : List Int} (hl : (stepsRM ti).2.2 = true) : validM ⟨6, p.n0, p.n1, 0, 0, 0, 0, 0, [], [], p.n2 % 65536, p.n3 % 256, ti⟩ = true := by
 obtain ⟨h0, h1, h2, h3, h4, h5, h6, h7, h8, h9⟩ := h
 have z : in32 0 := ⟨by omega, by omega⟩
 rw [valid_iff]
 dsimp only
 exact ⟨by omega, h1, h2, z, z, z, z, z, by omega, by omega, fun hh => by omega, fun _ => ⟨rfl, rfl, rfl, rfl, rfl⟩, fun hh => absurd rfl hh, fun hh => rfl, fun hh => rfl, fun _ => hl, rfl, fun hh => by omega⟩
theorem tmodN {x m : Int} (h : 0 ≤ x) : x.tmod m = x % m := Int.tmod_eq_emod_of_nonneg h
theorem pc_4 (p : Pc) (h : okP p) (Q : Out → List Blk → Gh → Prop) (hq : hqP 4 Q) : ∃ hv hb, goal_36_4 hv hb p Q := by
 obtain ⟨hv, hb', e⟩ : ∃ hv hb, goal_36_4 hv hb p Q = _ := ⟨_, _, vc_36_4 p Q⟩
 refine ⟨hv, hb', e.mpr ?_⟩
 delta zYC0 zYC1 zYC4 zYC23 zYC25 zYC26 zYC11 zYC7 zYC9 zYC14 zYC15 zYC8 zYC22 zYC18 zYC13 zYC24 zYC10 zYC6 zYC27 zYC16 zYC2 zYC19
 unfold q4YC_36_4_0 q4YC_36_4_1
 clear e
 have hv4 := @valid_4 p h
 obtain ⟨h0, h1, h2, h3, h4, h5, h6, h7, h8, h9⟩ := h
 have hc := cells16_len p.ls
 have t1 : p.n2.tmod 65536 = p.n2 % 65536 := tmodN h3.1
 have hx : ∀ x ∈ p.ls, x.tmod 20 = x % 20 := fun x hx => tmodN (h8 x hx).1
 have hf : 0 ≤ p.n2 % 65536 ∧ p.n2 % 65536 ≤ 65535 := by omega
 refine ⟨_, rfl, wrapI (by omega) (by omega) ⟨_, rfl, wrapI (by omega) (by omega) ⟨_, rfl, _, rfl, ?_⟩⟩⟩
 try dsimp only
 rw [t1]
 generalize p.n2 % 65536 = f at hf ⊢
 have ho : ∀ (H : List Blk) (id : Nat) (b : Blk) (acc : List Int) (at' : Int), nkP f at' acc → H[id]? = some b → b.cs = cellsI acc → b.k ≠ .ro → Q (.ret (.agg [.int .i64 4, .int .i64 p.n0, .int .i64 p.n1, .int .i64 0, .int .i64 0, .int .i64 0, .int .i64 0, .int .i64 0, .nils, .sl id acc.length 0 acc.length 1, .int .i64 0, .int .i64 0, .nils])) H {} := fun H id b acc at' hn hH hb hk =>
  hq _ (hv4 (nkP_ok hn)) rfl _ _ (out_P4 hH hb hk rfl rfl)
 refine wrapI (by omega) (by omega) ⟨.inl ⟨0, ⟨rfl⟩, rfl, rfl, rfl, rfl, rfl, rfl, rfl, rfl, rfl, rfl, trivial⟩, ?_, ?_⟩
 ·rintro i ⟨rfl⟩
  refine ⟨_, rfl, _, rfl, splitD (fun h1 => ⟨_, rfl, splitD (fun h2 => ?_) (fun h2 => by omega)⟩) (fun h1 => ho _ 3 _ [f] 0 (nkP_one hf) rfl rfl (by simp))⟩
  have hlt : 0 < p.ls.length := by omega
  refine ⟨_, rfl, _, rfl, ckI (by simp; omega) (ckI (by rw [blt_iff]; omega) (get16 hlt rfl ?_))⟩
  have hx0 := hx _ (List.getElem_mem hlt)
  have hr0 := h8 _ (List.getElem_mem hlt)
  generalize p.ls[0] = x at hx0 hr0 ⊢
  try dsimp only
  rw [hx0]
  refine ⟨_, rfl, wrapI (by omega) (by omega) (wrapI (by omega) (by omega) (wrapI (by omega) (by omega) ⟨_, rfl, _, rfl, wrapI (by omega) (by omega) ⟨⟨trivial, rfl⟩, .inr ⟨([f, (f + (1 + x % 20)) % 65536], 1 + x % 20, [.int .i64 f]), ⟨by simp, by simp; omega, ?_⟩, by simp; omega, rfl, rfl, rfl, rfl, ?_, rfl, rfl, rfl, rfl, rfl, rfl, trivial⟩⟩⟩))⟩
  ·have := nkP_step (d := 1 + x % 20) (nkP_one hf) (by simp) ⟨by omega, by omega⟩
   simpa using this
  ·rw [tmodN (by omega)]; rfl
 ·rintro ⟨acc, at', z⟩ ⟨g1, g2, g3⟩
  dsimp only at g1 g2 g3 ⊢
  have hl := cellsI_len acc
  have ⟨⟨k1, k2⟩, k3, k4, k5, k6, k7, k8⟩ := g3
  refine ⟨_, rfl, _, rfl, splitD (fun h1 => ckI (by rw [hl]; simp) ⟨_, rfl, splitD (fun h2 => ?_) (fun h2 => ho _ 4 _ acc at' g3 rfl rfl (by simp))⟩) (fun h1 => ho _ 4 _ acc at' g3 rfl rfl (by simp))⟩
  have hlt : acc.length - 1 < p.ls.length := by omega
  refine wrapI (by omega) (by omega) ⟨_, rfl, ckI (by simp; omega) (ckI (by rw [blt_iff]; omega) (get16 hlt (by omega) ?_))⟩
  have hx0 := hx _ (List.getElem_mem hlt)
  have hr0 := h8 _ (List.getElem_mem hlt)
  generalize p.ls[acc.length - 1] = x at hx0 hr0 ⊢
  try dsimp only
  rw [hx0]
  refine ⟨_, rfl, wrapI (by omega) (by omega) (wrapI (by omega) (by omega) (wrapI (by omega) (by omega) ⟨_, rfl, ckI (by rw [hl]; simp; omega) ⟨_, rfl, wrapI (by omega) (by omega) ⟨⟨trivial, rfl⟩, .inr ⟨(acc ++ [(f + (at' + 1 + x % 20)) % 65536], at' + 1 + x % 20, z), ⟨by simp; omega, by simp; omega, ?_⟩, by simp; omega, rfl, rfl, by simp, rfl, ?_, rfl, rfl, by simp, rfl, rfl, rfl, trivial⟩⟩⟩⟩))⟩
  ·have := nkP_step (d := 1 + x % 20) g3 (by omega) ⟨by omega, by omega⟩
   rwa [← Int.add_assoc] at this
  ·rw [tmodN (by omega)]; simp [cellsI]
theorem wrapU32 {x : Int} {K : Int → Prop} (h1 : 0 ≤ x) (h2 : x < 4294967296) (h : K x) : ∃ n : Int, AV.int .u32 (IntKind.wrap .u32 x) = AV.int .u32 n ∧ K n :=
 ⟨x, by
  have : IntKind.wrap .u32 x = x := by rw [show IntKind.wrap .u32 x = x % 4294967296 from rfl]; omega
  rw [this], h⟩
theorem imax_bd {y : Int} : 0 ≤ imax 0 y ∧ y ≤ imax 0 y ∧ (imax 0 y = 0 ∨ imax 0 y = y) := by
 unfold imax
 split <;> omega
theorem pc_6 (p : Pc) (h : okP p) (Q : Out → List Blk → Gh → Prop) (hq : hqP 6 Q) : ∃ hv hb, goal_36_6 hv hb p Q := by
 obtain ⟨hv, hb', e⟩ : ∃ hv hb, goal_36_6 hv hb p Q = _ := ⟨_, _, vc_36_6 p Q⟩
 refine ⟨hv, hb', e.mpr ?_⟩
 delta zYC12 zYC0 zYC1 zYC20 zYC17 zYC21 zYC3 zYC9 zYC14 zYC15 zYC8 zYC22 zYC28 zYC13 zYC24 zYC10 zYC23 zYC25 zYC26 zYC5 zYC27 zYC16 zYC2
 unfold q4YC_36_6_0 q4YC_36_6_1 q4YC_36_6_2 q4YC_36_6_3 q4YC_36_6_4 q4YC_36_6_5 q4YC_36_6_6 q4YC_36_6_7 q4YC_36_6_8
 clear e
 have hv6 := @valid_6 p h
 obtain ⟨h0, h1, h2, h3, h4, h5, h6, h7, h8, h9⟩ := h
 have hc := cells16_len p.ls
 have t1 : p.n2.tmod 65536 = p.n2 % 65536 := tmodN h3.1
 have t2 : p.n3.tmod 256 = p.n3 % 256 := tmodN h4.1
 have t3 : p.n4.tdiv 2 = p.n4 / 2 := Int.tdiv_eq_ediv_of_nonneg h5.1
 have hx : ∀ x ∈ p.ls, x.tmod 600 = x % 600 := fun x hx => tmodN (h8 x hx).1
 have ha : 0 ≤ p.n4 / 2 ∧ p.n4 / 2 < 2147483648 := by omega
 have hba : 0 ≤ p.n2 % 65536 ∧ p.n2 % 65536 < 65536 := by omega
 have hro : 0 ≤ p.n3 % 256 ∧ p.n3 % 256 < 256 := by omega
 refine ⟨_, rfl, wrapI (by omega) (by omega) ⟨_, rfl, wrapI (by omega) (by omega) ⟨_, rfl, _, rfl, ?_⟩⟩⟩
 try dsimp only
 rw [t1]
 refine wrapI (by omega) (by omega) ⟨_, rfl, _, rfl, ?_⟩
 try dsimp only
 rw [t2]
 refine wrapI (by omega) (by omega) ⟨_, rfl, ?_⟩
 try dsimp only
 rw [t3]
 generalize p.n4 / 2 = a at ha ⊢
 generalize p.n2 % 65536 = ba at hba hv6 ⊢
 generalize p.n3 % 256 = ro at hro hv6 ⊢
 have ho : ∀ (H : List Blk) (id : Nat) (b : Blk) (acc : List Int) (at' : Int), tmP at' acc → H[id]? = some b → b.cs = cellsI acc → b.k ≠ .ro → Q (.ret (.agg [.int .i64 6, .int .i64 p.n0, .int .i64 p.n1, .int .i64 0, .int .i64 0, .int .i64 0, .int .i64 0, .int .i64 0, .nils, .nils, .int .i64 ba, .int .i64 ro, .sl id acc.length 0 acc.length 1])) H {} := fun H id b acc at' hn hH hb hk =>
  hq _ (hv6 (tmP_ok hn)) rfl _ _ (out_P6 hH hb hk rfl rfl)
 refine wrapU32 (by omega) (by omega) (wrapI (by omega) (by omega) ⟨_, rfl, _, rfl, splitE (fun _ => ?_) (fun _ => ?_)⟩)
 ·
  refine ⟨.inl ⟨0, ⟨rfl⟩, rfl, rfl, rfl, rfl, rfl, rfl, rfl, rfl, rfl, trivial⟩, ?_, ?_⟩
  ·rintro i ⟨rfl⟩
   refine ⟨_, rfl, _, rfl, splitD (fun h1 => ⟨_, rfl, splitD (fun h2 => ?_) (fun h2 => by omega)⟩) (fun h1 => ho _ 3 _ [(-1)] a (tmP_none ha) rfl rfl (by simp))⟩
   have hlt : 0 < p.ls.length := by omega
   refine ⟨_, rfl, ckI (by simp; omega) (ckI (by rw [blt_iff]; omega) (get16 hlt rfl ?_))⟩
   have hx0 := hx _ (List.getElem_mem hlt)
   have hr0 := h8 _ (List.getElem_mem hlt)
   generalize p.ls[0] = x at hx0 hr0 ⊢
   try dsimp only
   rw [hx0]
   have hm := imax_bd (y := a + x % 600 - 100)
   refine ⟨_, rfl, wrapI (by omega) (by omega) (wrapI (by omega) (by omega) (wrapI (by omega) (by omega) ⟨_, rfl, _, rfl, _, rfl, wrapI (by omega) (by omega) (ckI (by simp) ⟨_, rfl, _, rfl, splitE (fun _ => ?_) (fun _ => ?_)⟩)⟩))⟩
   ·exact ⟨_, rfl, wrapI (by omega) (by omega) ⟨⟨trivial, rfl⟩, .inr ⟨([(-1), -1], a, [.int .i64 (-1)]), ⟨by simp, by simp; omega, tmP_miss (tmP_none ha) (by simp)⟩, by simp; omega, rfl, rfl, rfl, rfl, rfl, rfl, rfl, rfl, rfl, rfl, trivial⟩⟩⟩
   ·exact ⟨_, rfl, wrapI (by omega) (by omega) ⟨⟨trivial, rfl⟩, .inr ⟨([(-1), imax 0 (a + x % 600 - 100)], imax 0 (a + x % 600 - 100), [.int .i64 (-1)]), ⟨by simp, by simp; omega, tmP_got (b := imax 0 (a + x % 600 - 100)) (a := a) (l := [(-1)]) (tmP_none ha) (by simp) (by generalize imax 0 (a + x % 600 - 100) = w at hm ⊢; omega)⟩, by simp; omega, rfl, rfl, rfl, rfl, rfl, rfl, rfl, rfl, rfl, rfl, trivial⟩⟩⟩
  ·rintro ⟨acc, at', z⟩ ⟨g1, g2, g3⟩
   dsimp only at g1 g2 g3 ⊢
   have hl := cellsI_len acc
   have ⟨⟨k1, k2⟩, k3, k4⟩ := g3
   refine ⟨_, rfl, _, rfl, splitD (fun h1 => ckI (by rw [hl]; simp) ⟨_, rfl, splitD (fun h2 => ?_) (fun h2 => ho _ 4 _ acc at' g3 rfl rfl (by simp))⟩) (fun h1 => ho _ 4 _ acc at' g3 rfl rfl (by simp))⟩
   have hlt : acc.length - 1 < p.ls.length := by omega
   refine ⟨_, rfl, ckI (by simp; omega) (ckI (by rw [blt_iff]; omega) (get16 hlt (by omega) ?_))⟩
   have hx0 := hx _ (List.getElem_mem hlt)
   have hr0 := h8 _ (List.getElem_mem hlt)
   generalize p.ls[acc.length - 1] = x at hx0 hr0 ⊢
   try dsimp only
   rw [hx0]
   have hm := imax_bd (y := at' + x % 600 - 100)
   refine ⟨_, rfl, wrapI (by omega) (by omega) (wrapI (by omega) (by omega) (wrapI (by omega) (by omega) ⟨_, rfl, _, rfl, _, rfl, wrapI (by omega) (by omega) (ckI (by simp) ⟨_, rfl, _, rfl, splitE (fun _ => ?_) (fun _ => ?_)⟩)⟩))⟩
   ·exact ckI (by rw [hl]; simp; omega) ⟨_, rfl, wrapI (by omega) (by omega) ⟨⟨trivial, rfl⟩, .inr ⟨(acc ++ [-1], at', z), ⟨by simp; omega, by simp; omega, tmP_miss g3 (by omega)⟩, by simp; omega, rfl, rfl, by simp, rfl, by simp [cellsI], by simp, rfl, rfl, rfl, rfl, trivial⟩⟩⟩
   ·exact ckI (by rw [hl]; simp; omega) ⟨_, rfl, wrapI (by omega) (by omega) ⟨⟨trivial, rfl⟩, .inr ⟨(acc ++ [imax 0 (at' + x % 600 - 100)], imax 0 (at' + x % 600 - 100), z), ⟨by simp; omega, by simp; omega, tmP_got (b := imax 0 (at' + x % 600 - 100)) g3 (by omega) (by generalize imax 0 (at' + x % 600 - 100) = w at hm ⊢; omega)⟩, by simp; omega, rfl, rfl, by simp, rfl, by simp [cellsI], by simp, rfl, rfl, rfl, rfl, trivial⟩⟩⟩
 ·
  refine ⟨.inl ⟨0, ⟨rfl⟩, rfl, rfl, rfl, rfl, rfl, rfl, rfl, rfl, rfl, trivial⟩, ?_, ?_⟩
  ·rintro i ⟨rfl⟩
   refine ⟨_, rfl, _, rfl, splitD (fun h1 => ⟨_, rfl, splitD (fun h2 => ?_) (fun h2 => by omega)⟩) (fun h1 => ho _ 3 _ [a] a (tmP_one ha) rfl rfl (by simp))⟩
   have hlt : 0 < p.ls.length := by omega
   refine ⟨_, rfl, ckI (by simp; omega) (ckI (by rw [blt_iff]; omega) (get16 hlt rfl ?_))⟩
   have hx0 := hx _ (List.getElem_mem hlt)
   have hr0 := h8 _ (List.getElem_mem hlt)
   generalize p.ls[0] = x at hx0 hr0 ⊢
   try dsimp only
   rw [hx0]
   have hm := imax_bd (y := a + x % 600 - 100)
   refine ⟨_, rfl, wrapI (by omega) (by omega) (wrapI (by omega) (by omega) (wrapI (by omega) (by omega) ⟨_, rfl, _, rfl, _, rfl, wrapI (by omega) (by omega) (ckI (by simp) ⟨_, rfl, _, rfl, splitE (fun _ => ?_) (fun _ => ?_)⟩)⟩))⟩
   ·exact ⟨_, rfl, wrapI (by omega) (by omega) ⟨⟨trivial, rfl⟩, .inr ⟨([a, -1], a, [.int .i64 a]), ⟨by simp, by simp; omega, tmP_miss (tmP_one ha) (by simp)⟩, by simp; omega, rfl, rfl, rfl, rfl, rfl, rfl, rfl, rfl, rfl, rfl, trivial⟩⟩⟩
   ·exact ⟨_, rfl, wrapI (by omega) (by omega) ⟨⟨trivial, rfl⟩, .inr ⟨([a, imax 0 (a + x % 600 - 100)], imax 0 (a + x % 600 - 100), [.int .i64 a]), ⟨by simp, by simp; omega, tmP_got (b := imax 0 (a + x % 600 - 100)) (a := a) (l := [a]) (tmP_one ha) (by simp) (by generalize imax 0 (a + x % 600 - 100) = w at hm ⊢; omega)⟩, by simp; omega, rfl, rfl, rfl, rfl, rfl, rfl, rfl, rfl, rfl, rfl, trivial⟩⟩⟩
  ·rintro ⟨acc, at', z⟩ ⟨g1, g2, g3⟩
   dsimp only at g1 g2 g3 ⊢
   have hl := cellsI_len acc
   have ⟨⟨k1, k2⟩, k3, k4⟩ := g3
   refine ⟨_, rfl, _, rfl, splitD (fun h1 => ckI (by rw [hl]; simp) ⟨_, rfl, splitD (fun h2 => ?_) (fun h2 => ho _ 4 _ acc at' g3 rfl rfl (by simp))⟩) (fun h1 => ho _ 4 _ acc at' g3 rfl rfl (by simp))⟩
   have hlt : acc.length - 1 < p.ls.length := by omega
   refine ⟨_, rfl, ckI (by simp; omega) (ckI (by rw [blt_iff]; omega) (get16 hlt (by omega) ?_))⟩
   have hx0 := hx _ (List.getElem_mem hlt)
   have hr0 := h8 _ (List.getElem_mem hlt)
   generalize p.ls[acc.length - 1] = x at hx0 hr0 ⊢
   try dsimp only
   rw [hx0]
   have hm := imax_bd (y := at' + x % 600 - 100)
   refine ⟨_, rfl, wrapI (by omega) (by omega) (wrapI (by omega) (by omega) (wrapI (by omega) (by omega) ⟨_, rfl, _, rfl, _, rfl, wrapI (by omega) (by omega) (ckI (by simp) ⟨_, rfl, _, rfl, splitE (fun _ => ?_) (fun _ => ?_)⟩)⟩))⟩
   ·exact ckI (by rw [hl]; simp; omega) ⟨_, rfl, wrapI (by omega) (by omega) ⟨⟨trivial, rfl⟩, .inr ⟨(acc ++ [-1], at', z), ⟨by simp; omega, by simp; omega, tmP_miss g3 (by omega)⟩, by simp; omega, rfl, rfl, by simp, rfl, by simp [cellsI], by simp, rfl, rfl, rfl, rfl, trivial⟩⟩⟩
   ·exact ckI (by rw [hl]; simp; omega) ⟨_, rfl, wrapI (by omega) (by omega) ⟨⟨trivial, rfl⟩, .inr ⟨(acc ++ [imax 0 (at' + x % 600 - 100)], imax 0 (at' + x % 600 - 100), z), ⟨by simp; omega, by simp; omega, tmP_got (b := imax 0 (at' + x % 600 - 100)) g3 (by omega) (by generalize imax 0 (at' + x % 600 - 100) = w at hm ⊢; omega)⟩, by simp; omega, rfl, rfl, by simp, rfl, by simp [cellsI], by simp, rfl, rfl, rfl, rfl, trivial⟩⟩⟩
end Go.Proofs.YtafchcmemeinlaaDoor
