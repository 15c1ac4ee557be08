/-
  Chapter 24: Draft: Piece.control, the goals by kinds.
-/
import Derived.Test.YtafchcmemeinlaaDoorC24YA
set_option linter.unusedSimpArgs false
set_option linter.unusedVariables false
set_option linter.unusedSectionVars false
namespace Go.Proofs.YtafchcmemeinlaaDoor
open Go.RowKit
set_option maxRecDepth 1000000

def cells32M (l : List Int) : List AV := l.map (AV.int .u32)
def cells16M (l : List Int) : List AV := l.map (AV.int .u16)
structure Pc where
 k : Int
 n0 : Int
 n1 : Int
 n2 : Int
 n3 : Int
 n4 : Int
 n5 : Int
 tr : Nat
 rs : List Int
 tl : Nat
 ls : List Int
 m : Int
def pcC (p : Pc) : List AV := [.int .u8 p.k, .int .u32 p.n0, .int .u32 p.n1, .int .u32 p.n2, .int .u32 p.n3, .int .u32 p.n4, .int .u32 p.n5, .lst p.tr (cells32M p.rs) p.rs.length 1, .lst p.tl (cells16M p.ls) p.ls.length 1, .int .u64 p.m]
def sm36 : SM := lookS [(56, cRec)]
theorem sm36_ok : ∀ f g, sm36 f = some g → ValidF Tryd.prog glC f g := lookS_ok _ (by simp only [List.mem_cons, List.not_mem_nil, or_false, forall_eq]; exact rec_okV)
def inv_36a (rs : List Int) (s : S) : List (List LInv) := match s.hp with
 | [b0, b1, ⟨k, f, [c0, c1, c2, c3, c4, c5, c6, c7, _, c9, c10, c11, c12]⟩] => [[
  { α := Nat, pre := fun i => Lf (i = 0), st := fun i => ⟨mkT [(1, s.tm.get 1), (2, .ptr 0 10 0), (4, .ptr 1 13 0), (5, .ptr 2 13 0), (6, .int .i64 (i : Nat))], s.hp⟩, mu := fun i => rs.length + 1 },
  { α := Nat × List AV, pre := fun x => Lf (1 ≤ x.1 ∧ x.1 ≤ rs.length ∧ x.1 ≤ 6), st := fun x => ⟨mkT [(1, s.tm.get 1), (2, .ptr 0 10 0), (4, .ptr 1 13 0), (5, .ptr 2 13 0), (6, .int .i64 (x.1 : Nat))], [b0, b1, ⟨k, false, [c0, c1, c2, c3, c4, c5, c6, c7, .sl 4 (7 * x.1) 0 x.1 7, c9, c10, c11, c12]⟩, ⟨.exact, true, x.2⟩, ⟨.grow, true, cellsRM ((rs.take x.1).map recM)⟩]⟩, mu := fun x => rs.length - x.1 }]]
 | _ => []
noncomputable def env_36 (hv : Nat → Option Pa) (hb : Nat → Option Bool) (p : Pc) : Env := e24 sm36 (fun i => bif Nat.beq i 36001 then some (inv_36a p.rs) else none) hv hb
noncomputable def go36 (κ : Int) (hv : Nat → Option Pa) (hb : Nat → Option Bool) (p : Pc) (Q : Out → List Blk → Gh → Prop) : Prop := callx (env_36 hv hb p) (wpx (env_36 hv hb p) 1000) 36 [.agg (pcC p), .int .i64 κ] [] {} Q
noncomputable def goal_36_1 (hv : Nat → Option Pa) (hb : Nat → Option Bool) (p : Pc) (Q : Out → List Blk → Gh → Prop) : Prop := go36 1 hv hb p Q
noncomputable def goal_36_2 (hv : Nat → Option Pa) (hb : Nat → Option Bool) (p : Pc) (Q : Out → List Blk → Gh → Prop) : Prop := go36 2 hv hb p Q
noncomputable def goal_36_3 (hv : Nat → Option Pa) (hb : Nat → Option Bool) (p : Pc) (Q : Out → List Blk → Gh → Prop) : Prop := go36 3 hv hb p Q
noncomputable def goal_36_5 (hv : Nat → Option Pa) (hb : Nat → Option Bool) (p : Pc) (Q : Out → List Blk → Gh → Prop) : Prop := go36 5 hv hb p Q
def vc_36_1_1 (p : Pc) : Prop := (
((((AV.int .u8 (p).1) :: ((AV.int .u32 (p).2) :: ((AV.int .u32 (p).3) :: ((AV.int .u32 (p).4) :: ((AV.int .u32 (p).5) :: ((AV.int .u32 (p).6) :: ((AV.int .u32 (p).7) :: ((AV.lst (p).8 (cells32M (p).9) (List.length (p).9) (1 : Nat)) :: ((AV.lst (p).10 (cells16M (p).11) (List.length (p).11) (1 : Nat)) :: ((AV.int .u64 (p).12) :: [])))))))))) = ((AV.int .u8 (p).1) :: ((AV.int .u32 (p).2) :: ((AV.int .u32 (p).3) :: ((AV.int .u32 (p).4) :: ((AV.int .u32 (p).5) :: ((AV.int .u32 (p).6) :: ((AV.int .u32 (p).7) :: ((AV.lst (p).8 (cells32M (p).9) (List.length (p).9) (1 : Nat)) :: ((AV.lst (p).10 (cells16M (p).11) (List.length (p).11) (1 : Nat)) :: ((AV.int .u64 (p).12) :: []))))))))))) ∧
 ((((AV.int .i64 (0 : Int)) :: ((AV.int .i64 (0 : Int)) :: ((AV.int .i64 (0 : Int)) :: ((AV.int .i64 (0 : Int)) :: ((AV.int .i64 (0 : Int)) :: ((AV.int .i64 (0 : Int)) :: ((AV.int .i64 (0 : Int)) :: ((AV.int .i64 (0 : Int)) :: (AV.nils :: (AV.nils :: ((AV.int .i64 (0 : Int)) :: ((AV.int .i64 (0 : Int)) :: (AV.nils :: []))))))))))))) = ((AV.int .i64 (0 : Int)) :: ((AV.int .i64 (0 : Int)) :: ((AV.int .i64 (0 : Int)) :: ((AV.int .i64 (0 : Int)) :: ((AV.int .i64 (0 : Int)) :: ((AV.int .i64 (0 : Int)) :: ((AV.int .i64 (0 : Int)) :: ((AV.int .i64 (0 : Int)) :: (AV.nils :: (AV.nils :: ((AV.int .i64 (0 : Int)) :: ((AV.int .i64 (0 : Int)) :: (AV.nils :: [])))))))))))))) ∧
 False)))
abbrev q4YB_36_1_0 (p : Pc) (n_6 : Int) (Q : Out → List Blk → Gh → Prop) (n_1 : Int) (x_2 : Nat × List AV) : Prop :=
AV.int .u32 p.3 = AV.int .u32 n_6 ∧ exW .i64 n_6 fun n_7 => exI .u32 p.4 fun n_8 => exW .i64 n_8 fun n_9 => exI .u32 p.5 fun n_10 => exW .i64 n_10 fun n_11 => exI .u32 p.6 fun n_12 => exW .i64 n_12 fun n_13 => exI .u32 p.7 fun n_14 => exW
 .i64 n_14 fun n_15 => Q (.ret (.agg [.int .i64 1, .int .i64 n_1, .int .i64 0, .int .i64 n_7, .int .i64 n_9, .int .i64 n_11, .int .i64 n_13, .int .i64 n_15, .sl 4 (7 * x_2.1) 0 x_2.1 7, .nils, .int .i64 0, .int .i64 0, .nils])) [Blk.mk
 BK.exact true [.int .u8 p.1, .int .u32 p.2, .int .u32 p.3, .int .u32 p.4, .int .u32 p.5, .int .u32 p.6, .int .u32 p.7, .lst p.8 (cells32M p.9) p.9.length 1, .lst p.10 (cells16M p.11) p.11.length 1, .int .u64 p.12], Blk.mk BK.exact false
 [.int .i64 1, .int .i64 n_1, .int .i64 0, .int .i64 n_7, .int .i64 n_9, .int .i64 n_11, .int .i64 n_13, .int .i64 n_15, .sl 4 (7 * x_2.1) 0 x_2.1 7, .nils, .int .i64 0, .int .i64 0, .nils], Blk.mk BK.exact false [.int .i64 1, .int .i64
 n_1, .int .i64 0, .int .i64 n_7, .int .i64 n_9, .int .i64 n_11, .int .i64 n_13, .int .i64 n_15, .sl 4 (7 * x_2.1) 0 x_2.1 7, .nils, .int .i64 0, .int .i64 0, .nils], Blk.mk BK.exact true x_2.2, Blk.mk BK.grow true (cellsRM (List.map recM
 (p.9.take x_2.1)))] {}
abbrev q4YB_36_1_1 (p : Pc) (n_6 : Int) (Q : Out → List Blk → Gh → Prop) (n_1 : Int) : Prop :=
AV.int .u32 p.3 = AV.int .u32 n_6 ∧ exW .i64 n_6 fun n_7 => exI .u32 p.4 fun n_8 => exW .i64 n_8 fun n_9 => exI .u32 p.5 fun n_10 => exW .i64 n_10 fun n_11 => exI .u32 p.6 fun n_12 => exW .i64 n_12 fun n_13 => exI .u32 p.7 fun n_14 => exW
 .i64 n_14 fun n_15 => Q (.ret (.agg [.int .i64 1, .int .i64 n_1, .int .i64 0, .int .i64 n_7, .int .i64 n_9, .int .i64 n_11, .int .i64 n_13, .int .i64 n_15, .nils, .nils, .int .i64 0, .int .i64 0, .nils])) [] {}
abbrev zYB0 (p : Pc) : Prop := eqqQ [AV.int .u8 p.1, .int .u32 p.2, .int .u32 p.3, .int .u32 p.4, .int .u32 p.5, .int .u32 p.6, .int .u32 p.7, .lst p.8 (cells32M p.9) p.9.length 1, .lst p.10 (cells16M p.11) p.11.length 1, .int .u64 p.12]
abbrev zYB2 : Prop := eqqQ [AV.int .i64 0, .int .i64 0, .int .i64 0, .int .i64 0, .int .i64 0, .int .i64 0, .int .i64 0, .int .i64 0, .nils, .nils, .int .i64 0, .int .i64 0, .nils]
abbrev zYB12 (x_2 : Nat) : Prop := eqqQ (AV.ptr 2 13 0) ∧ eqqQ (AV.ptr 0 10 0) ∧ eqqQ (AV.ptr 1 13 0) ∧ AV.int .i64 0 = AV.int .i64 (x_2 : Int) ∧ True
abbrev zYB3 (x_2 : Nat × List AV) (p : Pc) : Prop := Lf (1 ≤ x_2.1 ∧ x_2.1 ≤ (Pc.rs p).length ∧ x_2.1 ≤ 6)
abbrev zYB8 (n_6 : Int) (p : Pc) : Bool := decide (0 ≤ n_6) && Nat.blt n_6.toNat p.9.length && true
abbrev zYB14 (n_6 : Int) (p : Pc) : Bool := Nat.blt (n_6.toNat * 1) (cells32M p.9).length
abbrev zYB15 (p : Pc) (n_6 : Int) : AV := (cells32M p.9).getD (n_6.toNat * 1) AV.undef
abbrev zYB16 (n_7 : Int) : Prop := Lf (0 ≤ n_7 ∧ n_7 < 4294967296)
abbrev zYB13 : Prop := True ∧ (0 : Nat) = (0 : Nat)
abbrev zYB9 (n_1 : Int) (y_10 : Nat × List AV) : List AV := [.int .i64 1, .int .i64 n_1, .int .i64 0, .int .i64 0, .int .i64 0, .int .i64 0, .int .i64 0, .int .i64 0, .sl 4 (7 * y_10.1) 0 y_10.1 7, .nils, .int .i64 0, .int .i64 0, .nils]
abbrev zYB1 (n_7 : Int) : List AV := [.int .i64 (recM n_7).1, .int .i64 (recM n_7).2.1, .int .i64 (recM n_7).2.2.1, .int .i64 (recM n_7).2.2.2.1, .int .i64 (recM n_7).2.2.2.2.1, .int .i64 (recM n_7).2.2.2.2.2.1, .int .i64 (recM n_7).2.2.2.2.2.2]
abbrev zYB5 (y_10 : Nat × List AV) (p : Pc) : List AV := cellsRM (List.map recM (p.9.take y_10.1))
abbrev zYB4 (n_9 : Int) (y_10 : Nat × List AV) : Prop := eqqQ (AV.ptr 2 13 0) ∧ eqqQ (AV.ptr 0 10 0) ∧ eqqQ (AV.ptr 1 13 0) ∧ AV.int .i64 n_9 = AV.int .i64 (y_10.1 : Int) ∧ True
abbrev zYB11 (x_2 : Nat × List AV) : AV := .sl 4 (7 * x_2.1) 0 x_2.1 7
abbrev zYB7 (x_2 : Nat × List AV) (p : Pc) : Bool := Nat.beq (zYB5 x_2 p).length (7 * x_2.1) && true && Nat.beq (0 + x_2.1 * 7) (7 * x_2.1) && Nat.ble (x_2.1 + 1) 1099511627776 && Nat.ble ((x_2.1 + 1) * 56) 1099511627776
theorem vc_36_1 (p : Pc) (Q : Out → List Blk → Gh → Prop) : goal_36_1 (lookV [(147472, .int .u32), (147473, .int .i64), (147486, .int .i64), (147489, .int .i64), (147492, .int .i64), (147501, .int .i64), (147503, .int .u32), (147495, .int
 .i64), (147496, .int .i64), (147512, .int .u32), (147513, .int .i64), (147517, .int .u32), (147518, .int .i64), (147522, .int .u32), (147523, .int .i64), (147527, .int .u32), (147528, .int .i64), (147532, .int .u32), (147533, .int .i64)])
 (lookB []) p Q = (exI .u32 p.2 (fun n_0 => exW .i64 n_0 (fun n_1 => ((∃ x_2 : Nat, Lf (x_2 = 0) ∧ zYB0 p ∧ zYB2 ∧ eqqQ [AV.int .i64 1, .int .i64 n_1, .int .i64 0, .int .i64 0, .int .i64 0, .int .i64 0, .int .i64 0, .int .i64 0, .nils,
 .nils, .int .i64 0, .int .i64 0, .nils] ∧ eqqQ (AV.int .i64 1) ∧ zYB12 x_2) ∨ ∃ x_2 : Nat × List AV, zYB3 x_2 p ∧ vc_36_1_1 p) ∧ (∀ x_2 : Nat, Lf (x_2 = 0) → exI .i64 (x_2 : Int) (fun n_3 => exI .i64 (p.9.length : Int) (fun n_4 => bif
 decide (n_3 < n_4) then exI .i64 (x_2 : Int) (fun n_5 => bif decide (n_5 < 6) then exI .i64 (x_2 : Int) (fun n_6 => ckQ (zYB8 n_6 p) (ckQ (zYB14 n_6 p) (exV .u32 (zYB15 p n_6) (fun n_7 => zYB16 n_7 ∧ exI .i64 (x_2 : Int) (fun n_8 => exW
 .i64 (n_8 + 1) (fun n_9 => zYB13 ∧ ((∃ y_10 : Nat, Lf (y_10 = 0) ∧ p.9.length + 1 < p.9.length + 1 ∧ vc_36_1_1 p) ∨ ∃ y_10 : Nat × List AV, zYB3 y_10 p ∧ p.9.length - y_10.1 < p.9.length + 1 ∧ zYB0 p ∧ zYB2 ∧ [AV.int .i64 1, .int .i64 n_1,
 .int .i64 0, .int .i64 0, .int .i64 0, .int .i64 0, .int .i64 0, .int .i64 0, .sl 4 7 0 1 7, .nils, .int .i64 0, .int .i64 0, .nils] = zYB9 n_1 y_10 ∧ zYB1 n_7 = y_10.2 ∧ zYB1 n_7 = zYB5 y_10 p ∧ eqqQ (AV.int .i64 1) ∧ zYB4 n_9 y_10)))))))
 else ∃ n_6 : Int, q4YB_36_1_1 p n_6 Q n_1) else ∃ n_5 : Int, q4YB_36_1_1 p n_5 Q n_1))) ∧ ∀ x_2 : Nat × List AV, zYB3 x_2 p → exI .i64 (x_2.1 : Int) (fun n_3 => exI .i64 (p.9.length : Int) (fun n_4 => bif decide (n_3 < n_4) then exI .i64
 (x_2.1 : Int) (fun n_5 => bif decide (n_5 < 6) then exI .i64 (x_2.1 : Int) (fun n_6 => ckQ (zYB8 n_6 p) (ckQ (zYB14 n_6 p) (exV .u32 (zYB15 p n_6) (fun n_7 => zYB16 n_7 ∧ ckQ (eqAVL [zYB11 x_2] [zYB11 x_2] && true) (ckQ (zYB7 x_2 p) (exI
 .i64 (x_2.1 : Int) (fun n_8 => exW .i64 (n_8 + 1) (fun n_9 => zYB13 ∧ ((∃ y_10 : Nat, Lf (y_10 = 0) ∧ p.9.length + 1 < p.9.length - x_2.1 ∧ vc_36_1_1 p) ∨ ∃ y_10 : Nat × List AV, zYB3 y_10 p ∧ p.9.length - y_10.1 < p.9.length - x_2.1 ∧
 zYB0 p ∧ zYB2 ∧ [AV.int .i64 1, .int .i64 n_1, .int .i64 0, .int .i64 0, .int .i64 0, .int .i64 0, .int .i64 0, .int .i64 0, .sl 4 (7 * x_2.1 + 7) 0 (x_2.1 + 1) 7, .nils, .int .i64 0, .int .i64 0, .nils] = zYB9 n_1 y_10 ∧ x_2.2 = y_10.2 ∧
 zYB5 x_2 p ++ zYB1 n_7 = zYB5 y_10 p ∧ eqqQ (AV.int .i64 1) ∧ zYB4 n_9 y_10))))))))) else ∃ n_6 : Int, q4YB_36_1_0 p n_6 Q n_1 x_2) else ∃ n_5 : Int, q4YB_36_1_0 p n_5 Q n_1 x_2))))) := by kernel_rfl

def vc_36_2_1 (p : Pc) : Prop := (
((((AV.int .u8 (p).1) :: ((AV.int .u32 (p).2) :: ((AV.int .u32 (p).3) :: ((AV.int .u32 (p).4) :: ((AV.int .u32 (p).5) :: ((AV.int .u32 (p).6) :: ((AV.int .u32 (p).7) :: ((AV.lst (p).8 (cells32M (p).9) (List.length (p).9) (1 : Nat)) :: ((AV.lst (p).10 (cells16M (p).11) (List.length (p).11) (1 : Nat)) :: ((AV.int .u64 (p).12) :: [])))))))))) = ((AV.int .u8 (p).1) :: ((AV.int .u32 (p).2) :: ((AV.int .u32 (p).3) :: ((AV.int .u32 (p).4) :: ((AV.int .u32 (p).5) :: ((AV.int .u32 (p).6) :: ((AV.int .u32 (p).7) :: ((AV.lst (p).8 (cells32M (p).9) (List.length (p).9) (1 : Nat)) :: ((AV.lst (p).10 (cells16M (p).11) (List.length (p).11) (1 : Nat)) :: ((AV.int .u64 (p).12) :: []))))))))))) ∧
 ((((AV.int .i64 (0 : Int)) :: ((AV.int .i64 (0 : Int)) :: ((AV.int .i64 (0 : Int)) :: ((AV.int .i64 (0 : Int)) :: ((AV.int .i64 (0 : Int)) :: ((AV.int .i64 (0 : Int)) :: ((AV.int .i64 (0 : Int)) :: ((AV.int .i64 (0 : Int)) :: (AV.nils :: (AV.nils :: ((AV.int .i64 (0 : Int)) :: ((AV.int .i64 (0 : Int)) :: (AV.nils :: []))))))))))))) = ((AV.int .i64 (0 : Int)) :: ((AV.int .i64 (0 : Int)) :: ((AV.int .i64 (0 : Int)) :: ((AV.int .i64 (0 : Int)) :: ((AV.int .i64 (0 : Int)) :: ((AV.int .i64 (0 : Int)) :: ((AV.int .i64 (0 : Int)) :: ((AV.int .i64 (0 : Int)) :: (AV.nils :: (AV.nils :: ((AV.int .i64 (0 : Int)) :: ((AV.int .i64 (0 : Int)) :: (AV.nils :: [])))))))))))))) ∧
 False)))
abbrev q4YB_36_2_0 (Q : Out → List Blk → Gh → Prop) (n_1 : Int) (x_2 : Nat × List AV) (p : Pc) : Prop :=
Q (.ret (.agg [.int .i64 2, .int .i64 n_1, .int .i64 0, .int .i64 0, .int .i64 0, .int .i64 0, .int .i64 0, .int .i64 0, .sl 4 (7 * x_2.1) 0 x_2.1 7, .nils, .int .i64 0, .int .i64 0, .nils])) [Blk.mk BK.exact true [.int .u8 p.1, .int .u32
 p.2, .int .u32 p.3, .int .u32 p.4, .int .u32 p.5, .int .u32 p.6, .int .u32 p.7, .lst p.8 (cells32M p.9) p.9.length 1, .lst p.10 (cells16M p.11) p.11.length 1, .int .u64 p.12], Blk.mk BK.exact false [.int .i64 2, .int .i64 n_1, .int .i64 0,
 .int .i64 0, .int .i64 0, .int .i64 0, .int .i64 0, .int .i64 0, .sl 4 (7 * x_2.1) 0 x_2.1 7, .nils, .int .i64 0, .int .i64 0, .nils], Blk.mk BK.exact false [.int .i64 2, .int .i64 n_1, .int .i64 0, .int .i64 0, .int .i64 0, .int .i64 0,
 .int .i64 0, .int .i64 0, .sl 4 (7 * x_2.1) 0 x_2.1 7, .nils, .int .i64 0, .int .i64 0, .nils], Blk.mk BK.exact true x_2.2, Blk.mk BK.grow true (cellsRM (List.map recM (p.9.take x_2.1)))] {}
abbrev zYB10 (n_1 : Int) (y_10 : Nat × List AV) : List AV := [.int .i64 2, .int .i64 n_1, .int .i64 0, .int .i64 0, .int .i64 0, .int .i64 0, .int .i64 0, .int .i64 0, .sl 4 (7 * y_10.1) 0 y_10.1 7, .nils, .int .i64 0, .int .i64 0, .nils]
abbrev zYB6 (n_1 : Int) : Out := .ret (.agg [.int .i64 2, .int .i64 n_1, .int .i64 0, .int .i64 0, .int .i64 0, .int .i64 0, .int .i64 0, .int .i64 0, .nils, .nils, .int .i64 0, .int .i64 0, .nils])
theorem vc_36_2 (p : Pc) (Q : Out → List Blk → Gh → Prop) : goal_36_2 (lookV [(147472, .int .u32), (147473, .int .i64), (147486, .int .i64), (147489, .int .i64), (147492, .int .i64), (147501, .int .i64), (147503, .int .u32), (147495, .int
 .i64), (147496, .int .i64)]) (lookB []) p Q = (exI .u32 p.2 (fun n_0 => exW .i64 n_0 (fun n_1 => ((∃ x_2 : Nat, Lf (x_2 = 0) ∧ zYB0 p ∧ zYB2 ∧ eqqQ [AV.int .i64 2, .int .i64 n_1, .int .i64 0, .int .i64 0, .int .i64 0, .int .i64 0, .int
 .i64 0, .int .i64 0, .nils, .nils, .int .i64 0, .int .i64 0, .nils] ∧ eqqQ (AV.int .i64 2) ∧ zYB12 x_2) ∨ ∃ x_2 : Nat × List AV, zYB3 x_2 p ∧ vc_36_2_1 p) ∧ (∀ x_2 : Nat, Lf (x_2 = 0) → exI .i64 (x_2 : Int) (fun n_3 => exI .i64 (p.9.length
 : Int) (fun n_4 => bif decide (n_3 < n_4) then exI .i64 (x_2 : Int) (fun n_5 => bif decide (n_5 < 6) then exI .i64 (x_2 : Int) (fun n_6 => ckQ (zYB8 n_6 p) (ckQ (zYB14 n_6 p) (exV .u32 (zYB15 p n_6) (fun n_7 => zYB16 n_7 ∧ exI .i64 (x_2 :
 Int) (fun n_8 => exW .i64 (n_8 + 1) (fun n_9 => zYB13 ∧ ((∃ y_10 : Nat, Lf (y_10 = 0) ∧ p.9.length + 1 < p.9.length + 1 ∧ vc_36_2_1 p) ∨ ∃ y_10 : Nat × List AV, zYB3 y_10 p ∧ p.9.length - y_10.1 < p.9.length + 1 ∧ zYB0 p ∧ zYB2 ∧ [AV.int
 .i64 2, .int .i64 n_1, .int .i64 0, .int .i64 0, .int .i64 0, .int .i64 0, .int .i64 0, .int .i64 0, .sl 4 7 0 1 7, .nils, .int .i64 0, .int .i64 0, .nils] = zYB10 n_1 y_10 ∧ zYB1 n_7 = y_10.2 ∧ zYB1 n_7 = zYB5 y_10 p ∧ eqqQ (AV.int .i64
 2) ∧ zYB4 n_9 y_10))))))) else Q (zYB6 n_1) [] {}) else Q (zYB6 n_1) [] {}))) ∧ ∀ x_2 : Nat × List AV, zYB3 x_2 p → exI .i64 (x_2.1 : Int) (fun n_3 => exI .i64 (p.9.length : Int) (fun n_4 => bif decide (n_3 < n_4) then exI .i64 (x_2.1 :
 Int) (fun n_5 => bif decide (n_5 < 6) then exI .i64 (x_2.1 : Int) (fun n_6 => ckQ (zYB8 n_6 p) (ckQ (zYB14 n_6 p) (exV .u32 (zYB15 p n_6) (fun n_7 => zYB16 n_7 ∧ ckQ (eqAVL [zYB11 x_2] [zYB11 x_2] && true) (ckQ (zYB7 x_2 p) (exI .i64
 (x_2.1 : Int) (fun n_8 => exW .i64 (n_8 + 1) (fun n_9 => zYB13 ∧ ((∃ y_10 : Nat, Lf (y_10 = 0) ∧ p.9.length + 1 < p.9.length - x_2.1 ∧ vc_36_2_1 p) ∨ ∃ y_10 : Nat × List AV, zYB3 y_10 p ∧ p.9.length - y_10.1 < p.9.length - x_2.1 ∧ zYB0 p ∧
 zYB2 ∧ [AV.int .i64 2, .int .i64 n_1, .int .i64 0, .int .i64 0, .int .i64 0, .int .i64 0, .int .i64 0, .int .i64 0, .sl 4 (7 * x_2.1 + 7) 0 (x_2.1 + 1) 7, .nils, .int .i64 0, .int .i64 0, .nils] = zYB10 n_1 y_10 ∧ x_2.2 = y_10.2 ∧ zYB5 x_2
 p ++ zYB1 n_7 = zYB5 y_10 p ∧ eqqQ (AV.int .i64 2) ∧ zYB4 n_9 y_10))))))))) else q4YB_36_2_0 Q n_1 x_2 p) else q4YB_36_2_0 Q n_1 x_2 p))))) := by kernel_rfl

theorem vc_36_3 (p : Pc) (Q : Out → List Blk → Gh → Prop) : goal_36_3 (lookV [(147472, .int .u32), (147473, .int .i64)]) (lookB []) p Q = (
(∃ n_0 : Int, (((AV.int .u32 (p).2) = (AV.int .u32 n_0)) ∧
 (∃ n_1 : Int, (((AV.int .i64 (IntKind.wrap .i64 n_0)) = (AV.int .i64 n_1)) ∧
 (Q (Out.ret (AV.agg ((AV.int .i64 (3 : Int)) :: ((AV.int .i64 n_1) :: ((AV.int .i64 (0 : Int)) :: ((AV.int .i64 (0 : Int)) :: ((AV.int .i64 (0 : Int)) :: ((AV.int .i64 (0 : Int)) :: ((AV.int .i64 (0 : Int)) :: ((AV.int .i64 (0 : Int)) :: (AV.nils :: (AV.nils :: ((AV.int .i64 (0 : Int)) :: ((AV.int .i64 (0 : Int)) :: (AV.nils :: []))))))))))))))) [] (Gh.mk (0 : Nat) (0 : Nat) []))))))) := by kernel_rfl

theorem vc_36_5 (p : Pc) (Q : Out → List Blk → Gh → Prop) : goal_36_5 (lookV [(147472, .int .u32), (147473, .int .i64), (147479, .int .u32), (147480, .int .i64)]) (lookB []) p Q = (
(∃ n_0 : Int, (((AV.int .u32 (p).2) = (AV.int .u32 n_0)) ∧
 (∃ n_1 : Int, (((AV.int .i64 (IntKind.wrap .i64 n_0)) = (AV.int .i64 n_1)) ∧
 (∃ n_2 : Int, (((AV.int .u32 (p).3) = (AV.int .u32 n_2)) ∧
 (∃ n_3 : Int, (((AV.int .i64 (IntKind.wrap .i64 n_2)) = (AV.int .i64 n_3)) ∧
 (Q (Out.ret (AV.agg ((AV.int .i64 (5 : Int)) :: ((AV.int .i64 n_1) :: ((AV.int .i64 n_3) :: ((AV.int .i64 (0 : Int)) :: ((AV.int .i64 (0 : Int)) :: ((AV.int .i64 (0 : Int)) :: ((AV.int .i64 (0 : Int)) :: ((AV.int .i64 (0 : Int)) :: (AV.nils :: (AV.nils :: ((AV.int .i64 (0 : Int)) :: ((AV.int .i64 (0 : Int)) :: (AV.nils :: []))))))))))))))) [] (Gh.mk (0 : Nat) (0 : Nat) []))))))))))) := by kernel_rfl


def okP (p : Pc) : Prop := (0 ≤ p.k ∧ p.k < 256) ∧ in32 p.n0 ∧ in32 p.n1 ∧ in32 p.n2 ∧ in32 p.n3 ∧ in32 p.n4 ∧ in32 p.n5 ∧ (∀ x ∈ p.rs, in32 x) ∧ (∀ x ∈ p.ls, 0 ≤ x ∧ x < 65536) ∧ (0 ≤ p.m ∧ p.m < 18446744073709551616)
def pcK : AV → AV
 | .agg l => .agg (nlL [0, 0, 0, 0, 0, 0, 0, 0, 7, 1, 0, 0, 1] l)
 | v => v
theorem wk_pcK (a : AV) : wk a (pcK a) := by
 unfold pcK
 split
 ·exact wk_agg (wk_nlL _ _)
 ·exact wk_refl _
def outP (v : AV) (H : List Blk) : AV := pcK (frzV 0 H 9 v)
def hqP (κ : Int) (Q : Out → List Blk → Gh → Prop) : Prop := ∀ c, validM c = true → c.k = κ → ∀ v H, outP v H = .agg (ctC c) → Q (.ret v) H {}
theorem out_P {H : List Blk} {k f a s1 s2 s3 s4 s5 ba ro : Int} {acc : List Rc} {n m : Nat} (hH : H[4]? = some ⟨.grow, true, cellsRM acc⟩) (hn : n = 7 * acc.length) (hm : m = acc.length) :
  outP (.agg [.int .i64 k, .int .i64 f, .int .i64 a, .int .i64 s1, .int .i64 s2, .int .i64 s3, .int .i64 s4, .int .i64 s5, .sl 4 n 0 m 7, .nils, .int .i64 ba, .int .i64 ro, .nils]) H = .agg (ctC ⟨k, f, a, s1, s2, s3, s4, s5, acc, [], ba, ro, []⟩) := by
 subst hn hm
 have e : frzV 0 H 8 (.sl 4 (7 * acc.length) 0 acc.length 7) = .lst 0 (cellsRM acc) acc.length 7 :=
  frz_sl (d := 6) hH (cellsR_len acc) (by omega) (by simp) (by rw [List.drop_zero]; exact List.take_of_length_le (by rw [cellsR_len]; omega)) (plain_R acc)
 show pcK (.agg [.int .i64 k, .int .i64 f, .int .i64 a, .int .i64 s1, .int .i64 s2, .int .i64 s3, .int .i64 s4, .int .i64 s5, frzV 0 H 8 (.sl 4 (7 * acc.length) 0 acc.length 7), .nils, .int .i64 ba, .int .i64 ro, .nils]) = _
 rw [e]
 rfl
theorem get32 {l : List Int} {i m : Nat} (hi : i < l.length) (hm : m = i) {K : Int → Prop} (hk : K l[i]) : ∃ n : Int, (cells32M l).getD m AV.undef = AV.int .u32 n ∧ K n := by
 subst hm
 exact ⟨_, by simp [cells32M, hi], hk⟩
theorem cells32_len (l : List Int) : (cells32M l).length = l.length := by simp [cells32M]
theorem rec_take {rs : List Int} {i : Nat} (h : i < rs.length) : cellsRM ((rs.take (i + 1)).map recM) = cellsRM ((rs.take i).map recM) ++ rcCM (recM rs[i]) := by
 rw [List.take_add_one, List.getElem?_eq_getElem h, List.map_append]
 simp only [Option.toList_some, List.map_cons, List.map_nil]
 rw [← cellsR_snoc]
theorem recs_valid {rs : List Int} (h : ∀ x ∈ rs, in32 x) (i : Nat) (hi : i ≤ 6) : rcsOkM ((rs.take i).map recM) = true := by
 simp only [rcsOkM, Bool.and_eq_true, decide_eq_true_eq, List.all_eq_true]
 refine ⟨by rw [List.length_map, List.length_take]; omega, ?_⟩
 intro r hr
 rw [List.mem_map] at hr
 obtain ⟨x, hx, rfl⟩ := hr
 exact recM_ok (h x (List.mem_of_mem_take hx))
theorem valid_2 {p : Pc} (h : okP p) (i : Nat) (hi : i ≤ 6) : validM ⟨2, p.n0, 0, 0, 0, 0, 0, 0, (p.rs.take i).map recM, [], 0, 0, []⟩ = true := by
 obtain ⟨h0, h1, h2, h3, h4, h5, h6, h7, h8, h9⟩ := h
 have z : in32 0 := ⟨by omega, by omega⟩
 rw [valid_iff]
 dsimp only
 exact ⟨by omega, h1, z, z, z, z, z, z, by omega, by omega, fun _ => rfl, fun _ => ⟨rfl, rfl, rfl, rfl, rfl⟩, fun _ => ⟨rfl, rfl, rfl⟩, fun hh => by omega, fun _ => rfl, fun hh => by omega, recs_valid h7 i hi, fun hh => by omega⟩
theorem valid_1 {p : Pc} (h : okP p) (i : Nat) (hi : i ≤ 6) : validM ⟨1, p.n0, 0, p.n1, p.n2, p.n3, p.n4, p.n5, (p.rs.take i).map recM, [], 0, 0, []⟩ = true := by
 obtain ⟨h0, h1, h2, h3, h4, h5, h6, h7, h8, h9⟩ := h
 have z : in32 0 := ⟨by omega, by omega⟩
 rw [valid_iff]
 dsimp only
 exact ⟨by omega, h1, z, h2, h3, h4, h5, h6, by omega, by omega, fun _ => rfl, fun hh => absurd rfl hh, fun _ => ⟨rfl, rfl, rfl⟩, fun hh => by omega, fun _ => rfl, fun hh => by omega, recs_valid h7 i hi, fun hh => by omega⟩
theorem valid_3 {p : Pc} (h : okP p) : validM ⟨3, p.n0, 0, 0, 0, 0, 0, 0, [], [], 0, 0, []⟩ = true := by
 obtain ⟨h0, h1, h2, h3, h4, h5, h6, h7, h8, h9⟩ := h
 have z : in32 0 := ⟨by omega, by omega⟩
 rw [valid_iff]
 dsimp only
 exact ⟨by omega, h1, z, z, z, z, z, z, by omega, by omega, fun _ => rfl, fun _ => ⟨rfl, rfl, rfl, rfl, rfl⟩, fun _ => ⟨rfl, rfl, rfl⟩, fun hh => rfl, fun _ => rfl, fun hh => by omega, rfl, fun hh => by omega⟩
theorem valid_5 {p : Pc} (h : okP p) : validM ⟨5, p.n0, p.n1, 0, 0, 0, 0, 0, [], [], 0, 0, []⟩ = true := by
 obtain ⟨h0, h1, h2, h3, h4, h5, h6, h7, h8, h9⟩ := h
 have z : in32 0 := ⟨by omega, by omega⟩
 rw [valid_iff]
 dsimp only
 exact ⟨by omega, h1, h2, z, z, z, z, z, by omega, by omega, fun hh => by omega, fun _ => ⟨rfl, rfl, rfl, rfl, rfl⟩, fun _ => ⟨rfl, rfl, rfl⟩, fun hh => rfl, fun _ => rfl, fun hh => by omega, rfl, fun hh => by omega⟩
theorem pc_3 (p : Pc) (h : okP p) (Q : Out → List Blk → Gh → Prop) (hq : hqP 3 Q) : ∃ hv hb, goal_36_3 hv hb p Q := by
 obtain ⟨hv, hb', e⟩ : ∃ hv hb, goal_36_3 hv hb p Q = _ := ⟨_, _, vc_36_3 p Q⟩
 refine ⟨hv, hb', e.mpr ?_⟩
 clear e
 have hv3 := valid_3 h
 obtain ⟨h0, h1, h2, h3, h4, h5, h6, h7, h8, h9⟩ := h
 exact ⟨_, rfl, wrapI (by omega) (by omega) (hq _ hv3 rfl _ _ rfl)⟩
theorem pc_5 (p : Pc) (h : okP p) (Q : Out → List Blk → Gh → Prop) (hq : hqP 5 Q) : ∃ hv hb, goal_36_5 hv hb p Q := by
 obtain ⟨hv, hb', e⟩ : ∃ hv hb, goal_36_5 hv hb p Q = _ := ⟨_, _, vc_36_5 p Q⟩
 refine ⟨hv, hb', e.mpr ?_⟩
 clear e
 have hv3 := valid_5 h
 obtain ⟨h0, h1, h2, h3, h4, h5, h6, h7, h8, h9⟩ := h
 exact ⟨_, rfl, wrapI (by omega) (by omega) ⟨_, rfl, wrapI (by omega) (by omega) (hq _ hv3 rfl _ _ rfl)⟩⟩
theorem pc_2 (p : Pc) (h : okP p) (Q : Out → List Blk → Gh → Prop) (hq : hqP 2 Q) : ∃ hv hb, goal_36_2 hv hb p Q := by
 obtain ⟨hv, hb', e⟩ : ∃ hv hb, goal_36_2 hv hb p Q = _ := ⟨_, _, vc_36_2 p Q⟩
 refine ⟨hv, hb', e.mpr ?_⟩
 delta zYB0 zYB2 zYB12 zYB3 zYB8 zYB14 zYB15 zYB16 zYB13 zYB10 zYB1 zYB5 zYB4 zYB6 zYB11 zYB7
 unfold q4YB_36_2_0
 clear e
 have hv2 := valid_2 h
 obtain ⟨h0, h1, h2, h3, h4, h5, h6, h7, h8, h9⟩ := h
 have hc := cells32_len p.rs
 have ho : ∀ (H : List Blk) (i : Nat), i ≤ p.rs.length → i ≤ 6 → H[4]? = some ⟨.grow, true, cellsRM ((p.rs.take i).map recM)⟩ → Q (.ret (.agg [.int .i64 2, .int .i64 p.n0, .int .i64 0, .int .i64 0, .int .i64 0, .int .i64 0, .int .i64 0, .int .i64 0, .sl 4 (7 * i) 0 i 7, .nils, .int .i64 0, .int .i64 0, .nils])) H {} := fun H i hi h6 hH =>
  hq _ (hv2 i h6) rfl _ _ (out_P hH (by rw [List.length_map, List.length_take]; omega) (by rw [List.length_map, List.length_take]; omega))
 have hz : Q (.ret (.agg [.int .i64 2, .int .i64 p.n0, .int .i64 0, .int .i64 0, .int .i64 0, .int .i64 0, .int .i64 0, .int .i64 0, .nils, .nils, .int .i64 0, .int .i64 0, .nils])) [] {} := hq _ (hv2 0 (by omega)) rfl _ _ rfl
 refine ⟨_, rfl, wrapI (by omega) (by omega) ⟨.inl ⟨0, ⟨rfl⟩, rfl, rfl, rfl, rfl, rfl, rfl, rfl, rfl, trivial⟩, ?_, ?_⟩⟩
 ·rintro i ⟨rfl⟩
  refine ⟨_, rfl, _, rfl, splitD (fun h1 => ⟨_, rfl, splitD (fun h2 => ?_) (fun h2 => hz)⟩) (fun h1 => hz)⟩
  have hlt : 0 < p.rs.length := by omega
  refine ⟨_, rfl, ckI (by simp; omega) (ckI (by rw [blt_iff]; omega) (get32 hlt rfl ⟨⟨h7 _ (List.getElem_mem hlt)⟩, _, rfl, wrapI (by omega) (by omega) ⟨⟨trivial, rfl⟩, .inr ⟨(1, rcCM (recM p.rs[0])), ⟨by dsimp only; omega⟩, by dsimp only; omega, rfl, rfl, rfl, rfl, (rec_take hlt).symm, rfl, rfl, rfl, rfl, rfl, trivial⟩⟩⟩))⟩
 ·rintro ⟨i, z⟩ ⟨g1, g2, g3⟩
  dsimp only at g1 g2 g3 ⊢
  have hl2 := cellsR_len ((p.rs.take i).map recM)
  rw [List.length_map, List.length_take, Nat.min_eq_left g2] at hl2
  refine ⟨_, rfl, _, rfl, splitD (fun h1 => ⟨_, rfl, splitD (fun h2 => ?_) (fun h2 => ho _ i g2 g3 rfl)⟩) (fun h1 => ho _ i g2 g3 rfl)⟩
  have hlt : i < p.rs.length := by omega
  refine ⟨_, rfl, ckI (by simp; omega) (ckI (by rw [blt_iff]; omega) (get32 hlt (by omega) ⟨⟨h7 _ (List.getElem_mem hlt)⟩, ckI (by simp [eqAVL, eqAV]) (ckI (by rw [hl2]; simp; omega) ⟨_, rfl, wrapI (by omega) (by omega) ⟨⟨trivial, rfl⟩, .inr ⟨(i + 1, z), ⟨by dsimp only; omega⟩, by dsimp only; omega, rfl, rfl, by simp [Nat.mul_add], rfl, (rec_take hlt).symm, rfl, rfl, rfl, rfl, rfl, trivial⟩⟩⟩)⟩))⟩
theorem pc_1 (p : Pc) (h : okP p) (Q : Out → List Blk → Gh → Prop) (hq : hqP 1 Q) : ∃ hv hb, goal_36_1 hv hb p Q := by
 obtain ⟨hv, hb', e⟩ : ∃ hv hb, goal_36_1 hv hb p Q = _ := ⟨_, _, vc_36_1 p Q⟩
 refine ⟨hv, hb', e.mpr ?_⟩
 delta zYB0 zYB2 zYB12 zYB3 zYB8 zYB14 zYB15 zYB16 zYB13 zYB9 zYB1 zYB5 zYB4 zYB11 zYB7
 unfold q4YB_36_1_0 q4YB_36_1_1
 clear e
 have hv2 := valid_1 h
 obtain ⟨h0, h1, h2, h3, h4, h5, h6, h7, h8, h9⟩ := h
 have hc := cells32_len p.rs
 have ho : ∀ (H : List Blk) (i : Nat), i ≤ p.rs.length → i ≤ 6 → H[4]? = some ⟨.grow, true, cellsRM ((p.rs.take i).map recM)⟩ → Q (.ret (.agg [.int .i64 1, .int .i64 p.n0, .int .i64 0, .int .i64 p.n1, .int .i64 p.n2, .int .i64 p.n3, .int .i64 p.n4, .int .i64 p.n5, .sl 4 (7 * i) 0 i 7, .nils, .int .i64 0, .int .i64 0, .nils])) H {} := fun H i hi h6 hH =>
  hq _ (hv2 i h6) rfl _ _ (out_P hH (by rw [List.length_map, List.length_take]; omega) (by rw [List.length_map, List.length_take]; omega))
 have hz : Q (.ret (.agg [.int .i64 1, .int .i64 p.n0, .int .i64 0, .int .i64 p.n1, .int .i64 p.n2, .int .i64 p.n3, .int .i64 p.n4, .int .i64 p.n5, .nils, .nils, .int .i64 0, .int .i64 0, .nils])) [] {} := hq _ (hv2 0 (by omega)) rfl _ _ rfl
 refine ⟨_, rfl, wrapI (by omega) (by omega) ⟨.inl ⟨0, ⟨rfl⟩, rfl, rfl, rfl, rfl, rfl, rfl, rfl, rfl, trivial⟩, ?_, ?_⟩⟩
 ·rintro i ⟨rfl⟩
  have ex : ∀ {K : Prop}, K → K := fun h => h
  refine ⟨_, rfl, _, rfl, splitD (fun h1 => ⟨_, rfl, splitD (fun h2 => ?_) (fun h2 => ⟨_, rfl, wrapI (by omega) (by omega) ⟨_, rfl, wrapI (by omega) (by omega) ⟨_, rfl, wrapI (by omega) (by omega) ⟨_, rfl, wrapI (by omega) (by omega) ⟨_, rfl, wrapI (by omega) (by omega) hz⟩⟩⟩⟩⟩)⟩) (fun h1 => ⟨_, rfl, wrapI (by omega) (by omega) ⟨_, rfl, wrapI (by omega) (by omega) ⟨_, rfl, wrapI (by omega) (by omega) ⟨_, rfl, wrapI (by omega) (by omega) ⟨_, rfl, wrapI (by omega) (by omega) hz⟩⟩⟩⟩⟩)⟩
  have hlt : 0 < p.rs.length := by omega
  refine ⟨_, rfl, ckI (by simp; omega) (ckI (by rw [blt_iff]; omega) (get32 hlt rfl ⟨⟨h7 _ (List.getElem_mem hlt)⟩, _, rfl, wrapI (by omega) (by omega) ⟨⟨trivial, rfl⟩, .inr ⟨(1, rcCM (recM p.rs[0])), ⟨by dsimp only; omega⟩, by dsimp only; omega, rfl, rfl, rfl, rfl, (rec_take hlt).symm, rfl, rfl, rfl, rfl, rfl, trivial⟩⟩⟩))⟩
 ·rintro ⟨i, z⟩ ⟨g1, g2, g3⟩
  dsimp only at g1 g2 g3 ⊢
  have hl2 := cellsR_len ((p.rs.take i).map recM)
  rw [List.length_map, List.length_take, Nat.min_eq_left g2] at hl2
  refine ⟨_, rfl, _, rfl, splitD (fun h1 => ⟨_, rfl, splitD (fun h2 => ?_) (fun h2 => ⟨_, rfl, wrapI (by omega) (by omega) ⟨_, rfl, wrapI (by omega) (by omega) ⟨_, rfl, wrapI (by omega) (by omega) ⟨_, rfl, wrapI (by omega) (by omega) ⟨_, rfl, wrapI (by omega) (by omega) (ho _ i g2 g3 rfl)⟩⟩⟩⟩⟩)⟩) (fun h1 => ⟨_, rfl, wrapI (by omega) (by omega) ⟨_, rfl, wrapI (by omega) (by omega) ⟨_, rfl, wrapI (by omega) (by omega) ⟨_, rfl, wrapI (by omega) (by omega) ⟨_, rfl, wrapI (by omega) (by omega) (ho _ i g2 g3 rfl)⟩⟩⟩⟩⟩)⟩
  have hlt : i < p.rs.length := by omega
  refine ⟨_, rfl, ckI (by simp; omega) (ckI (by rw [blt_iff]; omega) (get32 hlt (by omega) ⟨⟨h7 _ (List.getElem_mem hlt)⟩, ckI (by simp [eqAVL, eqAV]) (ckI (by rw [hl2]; simp; omega) ⟨_, rfl, wrapI (by omega) (by omega) ⟨⟨trivial, rfl⟩, .inr ⟨(i + 1, z), ⟨by dsimp only; omega⟩, by dsimp only; omega, rfl, rfl, by simp [Nat.mul_add], rfl, (rec_take hlt).symm, rfl, rfl, rfl, rfl, rfl, trivial⟩⟩⟩)⟩))⟩
end Go.Proofs.YtafchcmemeinlaaDoor
