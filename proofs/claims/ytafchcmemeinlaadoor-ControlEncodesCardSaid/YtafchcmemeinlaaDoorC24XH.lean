/-
  Chapter 24: a packet as octets: the goals.
-/
import Derived.Test.YtafchcmemeinlaaDoorC24XG
set_option linter.unusedSimpArgs false
set_option linter.unusedVariables false
set_option linter.unusedSectionVars false
namespace Go.Proofs.YtafchcmemeinlaaDoor
open Go.RowKit
set_option maxRecDepth 1000000

def rcBM (r : Rc) : List UInt8 := putM 4 [r.1] ++ putM 1 [r.2.1] ++ putM 3 [r.2.2.1] ++ putM 4 [r.2.2.2.1, r.2.2.2.2.1, r.2.2.2.2.2.1, r.2.2.2.2.2.2]
def rcsBM (l : List Rc) : List UInt8 := l.flatMap rcBM
def prsBM (l : List (Int × Int)) : List UInt8 := l.flatMap fun p => putM 2 [p.1, p.2]
def padM (b : List UInt8) : List UInt8 := b ++ List.replicate ((4 - b.length % 4) % 4) 0
def wireM (k : Int) : Int := if k = 1 then 200 else if k = 2 then 201 else if k = 3 then 203 else if k = 5 then 206 else 205
def bodyM (c : Ctl) : List UInt8 := putM 4 [c.f] ++ (if 4 ≤ c.k then putM 4 [c.a] else []) ++ (if c.k = 1 then putM 4 [c.s1, c.s2, c.s3, c.s4, c.s5] else []) ++ rcsBM c.rs ++ prsBM (pairsM c.lo) ++ (if c.k = 6 then putM 2 [c.ba] ++ arrM c.ti c.ro else [])
def cntCM (c : Ctl) : Int := if c.k ≤ 2 then (c.rs.length : Int) else if c.k = 6 then 15 else 1
def oneBM (n k : Int) (b : List UInt8) : List UInt8 := putM 1 [128 + n, k] ++ putM 2 [((b.length / 4 : Nat) : Int)] ++ b
def oneM (c : Ctl) : List UInt8 := oneBM (cntCM c) (wireM c.k) (padM (bodyM c))
noncomputable def goal_44e (hv : Nat → Option Pa) (hb : Nat → Option Bool) (t : Nat) (Q : Out → List Blk → Gh → Prop) : Prop :=
 callx (e24 sm0 (fun _ => none) hv hb) (wpx (e24 sm0 (fun _ => none) hv hb) 1000) 44 [.lst t [] 0 1] [] {} Q
theorem vc_44e (t : Nat) (Q : Out → List Blk → Gh → Prop) : goal_44e (lookV []) (lookB []) t Q = (
(Q (Out.ret AV.nils) [] (Gh.mk (0 : Nat) (0 : Nat) []))) := by kernel_rfl

def cPairs0 : Con
 | [.lst _ [] 0 1], H, K => K (.ret (.lst 0 [] 0 2)) H
 | _, _, _ => False
theorem pairs0_ok : ValidF Tryd.prog glC 44 cPairs0 := by
 refine valid_frz (enters_of (by kernel_rfl)) glC_noY 9 (nlR [2]) (wk_nlR _) fun args H Q hc => ?_
 unfold cPairs0 at hc
 split at hc
 ·exact ⟨rfl, rfl, _, 1000, envFor24 sm0_ok _ _ _, rfl, (vc_44e _ _).mpr ⟨_, rfl, hc⟩⟩
 ·exact hc.elim
def sm46 : SM := lookS [(67, cPutB), (44, cPairs0), (68, cArr)]
theorem sm46_ok : ∀ f g, sm46 f = some g → ValidF Tryd.prog glC f g := lookS_ok _ (by simp only [List.mem_cons, List.not_mem_nil, or_false, forall_eq_or_imp, forall_eq]; exact ⟨put_ok, pairs0_ok, arr_ok⟩)
def sm464 : SM := lookS [(67, cPutB), (44, cPairsV), (68, cArr)]
theorem sm464_ok : ∀ f g, sm464 f = some g → ValidF Tryd.prog glC f g := lookS_ok _ (by simp only [List.mem_cons, List.not_mem_nil, or_false, forall_eq_or_imp, forall_eq]; exact ⟨put_ok, pairs_ok, arr_ok⟩)
def inv_46n1 (f s1 s2 s3 s4 s5 : Int) (rs : List Rc) : LInv where
 α := Nat × List UInt8
 pre x := Lf (x.1 ≤ rs.length ∧ x.2 = (putM 4 [f] ++ putM 4 [s1, s2, s3, s4, s5] ++ rcsBM (rs.take x.1)))
 st x := ⟨mkT [(0, .nils), (3, .ptr 0 13 0), (5, .int .i64 (rs.length : Nat)), (6, .ptr 1 5 0), (7, .sl 2 x.2.length 0 x.2.length 1), (48, .lst 0 (cellsRM rs) rs.length 7), (49, .int .i64 (rs.length : Nat)), (50, .int .i64 (x.1 : Nat))], [⟨.exact, true, ctC ⟨1, f, 0, s1, s2, s3, s4, s5, rs, [], 0, 0, []⟩⟩, ⟨.exact, true, b5 false true true false false⟩, ⟨.grow, true, ofBytes x.2⟩]⟩
 mu x := rs.length - x.1
noncomputable def goal_46n1 (hv : Nat → Option Pa) (hb : Nat → Option Bool) (f s1 s2 s3 s4 s5 : Int) (rs : List Rc) (Q : Out → List Blk → Gh → Prop) : Prop :=
 callx (e24 sm46 (fun i => bif Nat.beq i 46000 then some (fun _ => [[inv_46n1 f s1 s2 s3 s4 s5 rs]]) else none) hv hb) (wpx (e24 sm46 (fun i => bif Nat.beq i 46000 then some (fun _ => [[inv_46n1 f s1 s2 s3 s4 s5 rs]]) else none) hv hb) 1000) 46 [.nils, .agg (ctC ⟨1, f, 0, s1, s2, s3, s4, s5, rs, [], 0, 0, []⟩)] [] {} Q
abbrev tlB (f : Int) (rs : List Rc) (Q : Out → List Blk → Gh → Prop) (a0 : Nat × List UInt8) (a1 : Int) (a2 : Int) (a3 : Int) (a4 : Int) (a5 : Int) (a6 : Int) (a7 : Int) (a8 : Bool) : Prop :=
ckQ (Nat.beq (ofBytes a0.2).length a0.2.length) (exI .i64 (a0.2.length : Int) fun u_0 => exW .i64 (0 - u_0) fun u_1 => exW .i64 (((u_1 % 18446744073709551616).toNat &&& 3 : Nat) : Int) fun u_2 => ckQ (decide (0 ≤ u_2) && decide (u_2 ≤
 1099511627776) && oneL (List.replicate u_2.toNat [AV.int .u8 0]).flatten && true && Nat.ble (u_2.toNat * 1) 1099511627776) (bif decide (u_2 = 0) then ckQ (Nat.beq u_2.toNat 0) (ckQ (Nat.beq (ofBytes a0.2).length a0.2.length && true) (exI
 .i64 (rs.length : Int) fun u_3 => exW .i64 ((128 ||| (u_3 % 18446744073709551616).toNat : Nat) : Int) fun u_4 => ∃ u_5 : List Int, Lf ([AV.int .i64 u_4, .int .i64 (a1 : Int)] = cellsI u_5 ∧ 2 = u_5.length ∧ (1 : Int) ≤ (1 : Int) ∧ (1 :
 Int) ≤ (7 : Int) ∧ 1 ≤ u_5.length ∧ u_5.length ≤ 1000000) ∧ ckQ (Nat.beq (ofBytes a0.2).length a0.2.length) (exI .i64 (a0.2.length : Int) fun u_6 => exW .i64 (u_6.tdiv 4) fun u_7 => ∃ u_8 : List UInt8, ∃ u_9 : List Int, Lf
 (GetElem?.getElem? [Blk.mk BK.exact true [.int .i64 (a2 : Int), .int .i64 f, .int .i64 0, .int .i64 a3, .int .i64 a4, .int .i64 a5, .int .i64 a6, .int .i64 a7, .lst 0 (cellsRM rs) rs.length 7, .lst 0 [] 0 1, .int .i64 0, .int .i64 0, .lst
 0 [] 0 1], Blk.mk BK.exact true [.bool false, .bool a8, .bool true, .bool false, .bool false], Blk.mk BK.grow true (ofBytes a0.2), Blk.mk BK.grow true (ofBytes (putM 1 u_5))] 3 = Option.some (Blk.mk BK.grow true (ofBytes u_8)) ∧ (putM 1
 u_5).length = u_8.length ∧ (putM 1 u_5).length = u_8.length ∧ u_8.length ≤ 1000000 ∧ [AV.int .i64 u_7] = cellsI u_9 ∧ 1 = u_9.length ∧ (1 : Int) ≤ (2 : Int) ∧ (2 : Int) ≤ (7 : Int) ∧ u_9.length ≤ 1000000) ∧ ckQ (Nat.beq (ofBytes
 a0.2).length a0.2.length && true && Nat.ble (0 + a0.2.length * 1) a0.2.length && oneL (((ofBytes a0.2).drop 0).take (a0.2.length * 1)) && true && Nat.ble (a0.2.length * 1) 1099511627776) (bif Nat.beq a0.2.length 0 then ckQ (Nat.beq
 a0.2.length 0) (ckQ (Nat.beq (ofBytes (u_8 ++ putM 2 u_9)).length (u_8 ++ putM 2 u_9).length && true) (Q (.ret (.sl 3 (u_8 ++ putM 2 u_9).length 0 (u_8 ++ putM 2 u_9).length 1)) [Blk.mk BK.exact true [.int .i64 (a2 : Int), .int .i64 f,
 .int .i64 0, .int .i64 a3, .int .i64 a4, .int .i64 a5, .int .i64 a6, .int .i64 a7, .lst 0 (cellsRM rs) rs.length 7, .lst 0 [] 0 1, .int .i64 0, .int .i64 0, .lst 0 [] 0 1], Blk.mk BK.exact true [.bool false, .bool a8, .bool true, .bool
 false, .bool false], Blk.mk BK.grow true (ofBytes a0.2), Blk.mk BK.grow true (ofBytes (u_8 ++ putM 2 u_9))] {})) else ckQ (Nat.blt 0 a0.2.length) (ckQ (Nat.beq (ofBytes (u_8 ++ putM 2 u_9)).length (u_8 ++ putM 2 u_9).length && true &&
 Nat.beq (0 + (u_8 ++ putM 2 u_9).length * 1) (u_8 ++ putM 2 u_9).length && Nat.ble ((u_8 ++ putM 2 u_9).length + a0.2.length) 1099511627776 && Nat.ble (((u_8 ++ putM 2 u_9).length + a0.2.length) * 1) 1099511627776) (Q (.ret (.sl 3 ((u_8 ++
 putM 2 u_9).length + (((ofBytes a0.2).drop 0).take (a0.2.length * 1)).length) 0 ((u_8 ++ putM 2 u_9).length + a0.2.length) 1)) [Blk.mk BK.exact true [.int .i64 (a2 : Int), .int .i64 f, .int .i64 0, .int .i64 a3, .int .i64 a4, .int .i64 a5,
 .int .i64 a6, .int .i64 a7, .lst 0 (cellsRM rs) rs.length 7, .lst 0 [] 0 1, .int .i64 0, .int .i64 0, .lst 0 [] 0 1], Blk.mk BK.exact true [.bool false, .bool a8, .bool true, .bool false, .bool false], Blk.mk BK.grow true (ofBytes a0.2),
 Blk.mk BK.grow (oldL 0 (((ofBytes a0.2).drop 0).take (a0.2.length * 1))) (ofBytes (u_8 ++ putM 2 u_9) ++ ((ofBytes a0.2).drop 0).take (a0.2.length * 1))] {})))))) else ckQ (Nat.blt 0 u_2.toNat) (ckQ (Nat.beq (ofBytes a0.2).length
 a0.2.length && true && Nat.beq (0 + a0.2.length * 1) a0.2.length && Nat.ble (a0.2.length + u_2.toNat) 1099511627776 && Nat.ble ((a0.2.length + u_2.toNat) * 1) 1099511627776) (exI .i64 (rs.length : Int) fun u_10 => exW .i64 ((128 ||| (u_10
 % 18446744073709551616).toNat : Nat) : Int) fun u_11 => ∃ u_12 : List Int, Lf ([AV.int .i64 u_11, .int .i64 (a1 : Int)] = cellsI u_12 ∧ 2 = u_12.length ∧ (1 : Int) ≤ (1 : Int) ∧ (1 : Int) ≤ (7 : Int) ∧ 1 ≤ u_12.length ∧ u_12.length ≤
 1000000) ∧ ckQ (Nat.beq (ofBytes a0.2 ++ (List.replicate u_2.toNat [AV.int .u8 0]).flatten).length (a0.2.length + (List.replicate u_2.toNat [AV.int .u8 0]).flatten.length)) (exI .i64 ((a0.2.length + u_2.toNat : Nat) : Int) fun u_13 => exW
 .i64 (u_13.tdiv 4) fun u_14 => ∃ u_15 : List UInt8, ∃ u_16 : List Int, Lf (GetElem?.getElem? [Blk.mk BK.exact true [.int .i64 (a2 : Int), .int .i64 f, .int .i64 0, .int .i64 a3, .int .i64 a4, .int .i64 a5, .int .i64 a6, .int .i64 a7, .lst
 0 (cellsRM rs) rs.length 7, .lst 0 [] 0 1, .int .i64 0, .int .i64 0, .lst 0 [] 0 1], Blk.mk BK.exact true [.bool false, .bool a8, .bool true, .bool false, .bool false], Blk.mk BK.grow (oldL 0 (List.replicate u_2.toNat [AV.int .u8
 0]).flatten) (ofBytes a0.2 ++ (List.replicate u_2.toNat [AV.int .u8 0]).flatten), Blk.mk BK.grow true (ofBytes (putM 1 u_12))] 3 = Option.some (Blk.mk BK.grow true (ofBytes u_15)) ∧ (putM 1 u_12).length = u_15.length ∧ (putM 1 u_12).length
 = u_15.length ∧ u_15.length ≤ 1000000 ∧ [AV.int .i64 u_14] = cellsI u_16 ∧ 1 = u_16.length ∧ (1 : Int) ≤ (2 : Int) ∧ (2 : Int) ≤ (7 : Int) ∧ u_16.length ≤ 1000000) ∧ ckQ (Nat.beq (ofBytes a0.2 ++ (List.replicate u_2.toNat [AV.int .u8
 0]).flatten).length (a0.2.length + (List.replicate u_2.toNat [AV.int .u8 0]).flatten.length) && true && Nat.ble (0 + (a0.2.length + u_2.toNat) * 1) (a0.2.length + (List.replicate u_2.toNat [AV.int .u8 0]).flatten.length) && oneL (((ofBytes
 a0.2 ++ (List.replicate u_2.toNat [AV.int .u8 0]).flatten).drop 0).take ((a0.2.length + u_2.toNat) * 1)) && true && Nat.ble ((a0.2.length + u_2.toNat) * 1) 1099511627776) (bif Nat.beq (a0.2.length + u_2.toNat) 0 then ckQ (Nat.beq
 (a0.2.length + u_2.toNat) 0) (ckQ (Nat.beq (ofBytes (u_15 ++ putM 2 u_16)).length (u_15 ++ putM 2 u_16).length && true) (Q (.ret (.sl 3 (u_15 ++ putM 2 u_16).length 0 (u_15 ++ putM 2 u_16).length 1)) [Blk.mk BK.exact true [.int .i64 (a2 :
 Int), .int .i64 f, .int .i64 0, .int .i64 a3, .int .i64 a4, .int .i64 a5, .int .i64 a6, .int .i64 a7, .lst 0 (cellsRM rs) rs.length 7, .lst 0 [] 0 1, .int .i64 0, .int .i64 0, .lst 0 [] 0 1], Blk.mk BK.exact true [.bool false, .bool a8,
 .bool true, .bool false, .bool false], Blk.mk BK.grow (oldL 0 (List.replicate u_2.toNat [AV.int .u8 0]).flatten) (ofBytes a0.2 ++ (List.replicate u_2.toNat [AV.int .u8 0]).flatten), Blk.mk BK.grow true (ofBytes (u_15 ++ putM 2 u_16))] {}))
 else ckQ (Nat.blt 0 (a0.2.length + u_2.toNat)) (ckQ (Nat.beq (ofBytes (u_15 ++ putM 2 u_16)).length (u_15 ++ putM 2 u_16).length && true && Nat.beq (0 + (u_15 ++ putM 2 u_16).length * 1) (u_15 ++ putM 2 u_16).length && Nat.ble ((u_15 ++
 putM 2 u_16).length + (a0.2.length + u_2.toNat)) 1099511627776 && Nat.ble (((u_15 ++ putM 2 u_16).length + (a0.2.length + u_2.toNat)) * 1) 1099511627776) (Q (.ret (.sl 3 ((u_15 ++ putM 2 u_16).length + (((ofBytes a0.2 ++ (List.replicate
 u_2.toNat [AV.int .u8 0]).flatten).drop 0).take ((a0.2.length + u_2.toNat) * 1)).length) 0 ((u_15 ++ putM 2 u_16).length + (a0.2.length + u_2.toNat)) 1)) [Blk.mk BK.exact true [.int .i64 (a2 : Int), .int .i64 f, .int .i64 0, .int .i64 a3,
 .int .i64 a4, .int .i64 a5, .int .i64 a6, .int .i64 a7, .lst 0 (cellsRM rs) rs.length 7, .lst 0 [] 0 1, .int .i64 0, .int .i64 0, .lst 0 [] 0 1], Blk.mk BK.exact true [.bool false, .bool a8, .bool true, .bool false, .bool false], Blk.mk
 BK.grow (oldL 0 (List.replicate u_2.toNat [AV.int .u8 0]).flatten) (ofBytes a0.2 ++ (List.replicate u_2.toNat [AV.int .u8 0]).flatten), Blk.mk BK.grow (oldL 0 (((ofBytes a0.2 ++ (List.replicate u_2.toNat [AV.int .u8 0]).flatten).drop
 0).take ((a0.2.length + u_2.toNat) * 1))) (ofBytes (u_15 ++ putM 2 u_16) ++ ((ofBytes a0.2 ++ (List.replicate u_2.toNat [AV.int .u8 0]).flatten).drop 0).take ((a0.2.length + u_2.toNat) * 1))] {}))))))))
abbrev zXH5 (f : Int) (xs_0 : List Int) : Prop := Lf ([AV.int .i64 f] = cellsI xs_0 ∧ 1 = xs_0.length ∧ (1 : Int) ≤ (4 : Int) ∧ (4 : Int) ≤ (7 : Int) ∧ 1 ≤ xs_0.length ∧ xs_0.length ≤ 1000000)
abbrev zXH53 (rs : List Rc) : AV := .lst 0 (cellsRM rs) rs.length 7
abbrev zXH0 (f s1 s2 s3 s4 s5 : Int) (rs : List Rc) : Blk := Blk.mk BK.exact true [.int .i64 1, .int .i64 f, .int .i64 0, .int .i64 s1, .int .i64 s2, .int .i64 s3, .int .i64 s4, .int .i64 s5, zXH53 rs, .lst 0 [] 0 1, .int .i64 0, .int .i64 0, .lst 0 [] 0 1]
abbrev zXH4 : Blk := Blk.mk BK.exact true [.bool false, .bool true, .bool true, .bool false, .bool false]
abbrev zXH37 (xs_0 : List Int) : Blk := Blk.mk BK.grow true (ofBytes (putM 4 xs_0))
abbrev zXH2 (bs_1 : List UInt8) : Blk := Blk.mk BK.grow true (ofBytes bs_1)
abbrev zXH36 (xs_0 : List Int) (bs_1 : List UInt8) : Prop := (putM 4 xs_0).length = bs_1.length
abbrev zXH13 (bs_1 : List UInt8) : Prop := bs_1.length ≤ 1000000
abbrev zXH3 (xs_2 : List Int) : Prop := (1 : Int) ≤ (4 : Int) ∧ (4 : Int) ≤ (7 : Int) ∧ xs_2.length ≤ 1000000
abbrev zXH12 (x_5 : Nat × List UInt8) (rs : List Rc) (f s1 s2 s3 s4 s5 : Int) : Prop := Lf (x_5.1 ≤ rs.length ∧ x_5.2 = putM 4 [f] ++ putM 4 [s1, s2, s3, s4, s5] ++ rcsBM (rs.take x_5.1))
abbrev zXH9 (f s1 s2 s3 s4 s5 : Int) (rs : List Rc) : Prop := eqqQ [AV.int .i64 1, .int .i64 f, .int .i64 0, .int .i64 s1, .int .i64 s2, .int .i64 s3, .int .i64 s4, .int .i64 s5, zXH53 rs, .lst 0 [] 0 1, .int .i64 0, .int .i64 0, .lst 0 [] 0 1]
abbrev zXH23 : Prop := eqqQ [AV.bool false, .bool true, .bool true, .bool false, .bool false]
abbrev zXH27 (bs_1 : List UInt8) (xs_2 : List Int) : List AV := ofBytes (bs_1 ++ putM 4 xs_2)
abbrev zXH14 (bs_1 : List UInt8) (xs_2 : List Int) : Nat := (bs_1 ++ putM 4 xs_2).length
abbrev zXH11 (rs : List Rc) : AV := .int .i64 (rs.length : Int)
abbrev zXH47 (n_3 : Int) (rs : List Rc) : Prop := AV.int .i64 n_3 = zXH11 rs
abbrev zXH55 (rs : List Rc) : Prop := eqqQ (AV.lst 0 (cellsRM rs) rs.length 7)
abbrev zXH21 (rs : List Rc) : Prop := zXH55 rs
abbrev zXH29 (x_5 : Nat × List UInt8) : AV := .int .i64 (x_5.1 : Int)
abbrev zXH49 (x_5 : Nat × List UInt8) : Nat := (x_5.1 : Int).toNat
abbrev zXH35 (x_5 : Nat × List UInt8) (rs : List Rc) : Bool := Nat.ble ((x_5.1 : Int).toNat * 7 + 7) (cellsRM rs).length
abbrev zXH33 (x_5 : Nat × List UInt8) (rs : List Rc) : AV := .agg (((cellsRM rs).drop (zXH49 x_5 * 7)).take 7)
abbrev zXH34 (x_5 : Nat × List UInt8) : Blk := Blk.mk BK.grow true (ofBytes x_5.2)
abbrev zXH54 (x_5 : Nat × List UInt8) (bs_13 : List UInt8) : Prop := x_5.2.length = bs_13.length
abbrev zXH41 (xs_14 : List Int) : Prop := 1 = xs_14.length ∧ zXH3 xs_14
abbrev zXH52 (bs_13 : List UInt8) (xs_14 : List Int) : Blk := Blk.mk BK.grow true (zXH27 bs_13 xs_14)
abbrev zXH16 (xs_16 : List Int) : Prop := 1 = xs_16.length ∧ (1 : Int) ≤ (1 : Int) ∧ (1 : Int) ≤ (7 : Int) ∧ xs_16.length ≤ 1000000
abbrev zXH50 (bs_15 : List UInt8) (xs_16 : List Int) : Blk := Blk.mk BK.grow true (ofBytes (bs_15 ++ putM 1 xs_16))
abbrev zXH38 (bs_15 : List UInt8) (xs_16 : List Int) (bs_17 : List UInt8) : Prop := (bs_15 ++ putM 1 xs_16).length = bs_17.length
abbrev zXH17 (xs_18 : List Int) : Prop := 1 = xs_18.length ∧ (1 : Int) ≤ (3 : Int) ∧ (3 : Int) ≤ (7 : Int) ∧ xs_18.length ≤ 1000000
abbrev zXH51 (bs_17 : List UInt8) (xs_18 : List Int) : Blk := Blk.mk BK.grow true (ofBytes (bs_17 ++ putM 3 xs_18))
abbrev zXH39 (bs_17 : List UInt8) (xs_18 : List Int) (bs_19 : List UInt8) : Prop := (bs_17 ++ putM 3 xs_18).length = bs_19.length
abbrev zXH32 : Prop := True ∧ (0 : Nat) = (0 : Nat)
abbrev zXH19 (bs_19 : List UInt8) (xs_20 : List Int) (y_22 : Nat × List UInt8) (rs : List Rc) (n_21 : Int) : Prop := ofBytes (bs_19 ++ putM 4 xs_20) = ofBytes y_22.2 ∧ AV.nils = AV.nils ∧ eqqQ (AV.ptr 0 13 0) ∧ AV.sl 2 (zXH14 bs_19 xs_20) 0 (zXH14 bs_19 xs_20) 1 = AV.sl 2 y_22.2.length 0 y_22.2.length 1 ∧ eqqQ (zXH11 rs) ∧ eqqQ (zXH11 rs) ∧ zXH55 rs ∧ eqqQ (AV.ptr 1 5 0) ∧ AV.int .i64 n_21 = AV.int .i64 (y_22.1 : Int) ∧ True
theorem vc_46n1 (f : Int) (s1 : Int) (s2 : Int) (s3 : Int) (s4 : Int) (s5 : Int) (rs : List Rc) (Q : Out → List Blk → Gh → Prop) : goal_46n1 (lookV [(188462, .int .i64), (188465, .int .i64), (188469, .agg [.int .i64, .int .i64, .int .i64,
 .int .i64, .int .i64, .int .i64, .int .i64]), (188496, .int .i64), (188523, .int .i64), (188524, .int .i64), (188525, .int .i64), (188528, .int .i64), (188529, .int .i64), (188538, .int .i64), (188539, .int .i64)]) (lookB []) f s1 s2 s3 s4
 s5 rs Q = (∃ xs_0 : List Int, zXH5 f xs_0 ∧ ∃ bs_1 : List UInt8, ∃ xs_2 : List Int, Lf (GetElem?.getElem? [zXH0 f s1 s2 s3 s4 s5 rs, zXH4, zXH37 xs_0] 2 = Option.some (zXH2 bs_1) ∧ zXH36 xs_0 bs_1 ∧ zXH36 xs_0 bs_1 ∧ zXH13 bs_1 ∧ [AV.int
 .i64 s1, .int .i64 s2, .int .i64 s3, .int .i64 s4, .int .i64 s5] = cellsI xs_2 ∧ 5 = xs_2.length ∧ zXH3 xs_2) ∧ exI .i64 (rs.length : Int) (fun n_3 => exI .i64 (rs.length : Int) (fun n_4 => (∃ x_5 : Nat × List UInt8, zXH12 x_5 rs f s1 s2
 s3 s4 s5 ∧ zXH9 f s1 s2 s3 s4 s5 rs ∧ zXH23 ∧ zXH27 bs_1 xs_2 = ofBytes x_5.2 ∧ AV.nils = AV.nils ∧ eqqQ (AV.ptr 0 13 0) ∧ AV.sl 2 (zXH14 bs_1 xs_2) 0 (zXH14 bs_1 xs_2) 1 = AV.sl 2 x_5.2.length 0 x_5.2.length 1 ∧ zXH47 n_3 rs ∧ zXH47 n_4
 rs ∧ zXH21 rs ∧ eqqQ (AV.ptr 1 5 0) ∧ AV.int .i64 0 = zXH29 x_5 ∧ True) ∧ ∀ x_5 : Nat × List UInt8, zXH12 x_5 rs f s1 s2 s3 s4 s5 → bif decide ((x_5.1 : Int) < (rs.length : Int)) then ckQ (Nat.blt (zXH49 x_5) rs.length && true) (ckQ (zXH35
 x_5 rs) (∃ n_6 n_7 n_8 n_9 n_10 n_11 n_12, zXH33 x_5 rs = AV.agg [.int .i64 n_6, .int .i64 n_7, .int .i64 n_8, .int .i64 n_9, .int .i64 n_10, .int .i64 n_11, .int .i64 n_12] ∧ ∃ bs_13 : List UInt8, ∃ xs_14 : List Int, Lf (GetElem?.getElem?
 [zXH0 f s1 s2 s3 s4 s5 rs, zXH4, zXH34 x_5, Blk.mk BK.exact true [.int .i64 n_6, .int .i64 n_7, .int .i64 n_8, .int .i64 n_9, .int .i64 n_10, .int .i64 n_11, .int .i64 n_12]] 2 = Option.some (zXH2 bs_13) ∧ zXH54 x_5 bs_13 ∧ zXH54 x_5 bs_13
 ∧ zXH13 bs_13 ∧ [AV.int .i64 n_6] = cellsI xs_14 ∧ zXH41 xs_14) ∧ ∃ bs_15 : List UInt8, ∃ xs_16 : List Int, Lf (GetElem?.getElem? [zXH0 f s1 s2 s3 s4 s5 rs, zXH4, zXH52 bs_13 xs_14, Blk.mk BK.exact true [.int .i64 n_6, .int .i64 n_7, .int
 .i64 n_8, .int .i64 n_9, .int .i64 n_10, .int .i64 n_11, .int .i64 n_12]] 2 = Option.some (zXH2 bs_15) ∧ zXH14 bs_13 xs_14 = bs_15.length ∧ zXH14 bs_13 xs_14 = bs_15.length ∧ zXH13 bs_15 ∧ [AV.int .i64 n_7] = cellsI xs_16 ∧ zXH16 xs_16) ∧
 ∃ bs_17 : List UInt8, ∃ xs_18 : List Int, Lf (GetElem?.getElem? [zXH0 f s1 s2 s3 s4 s5 rs, zXH4, zXH50 bs_15 xs_16, Blk.mk BK.exact true [.int .i64 n_6, .int .i64 n_7, .int .i64 n_8, .int .i64 n_9, .int .i64 n_10, .int .i64 n_11, .int .i64
 n_12]] 2 = Option.some (zXH2 bs_17) ∧ zXH38 bs_15 xs_16 bs_17 ∧ zXH38 bs_15 xs_16 bs_17 ∧ zXH13 bs_17 ∧ [AV.int .i64 n_8] = cellsI xs_18 ∧ zXH17 xs_18) ∧ ∃ bs_19 : List UInt8, ∃ xs_20 : List Int, Lf (GetElem?.getElem? [zXH0 f s1 s2 s3 s4
 s5 rs, zXH4, zXH51 bs_17 xs_18, Blk.mk BK.exact true [.int .i64 n_6, .int .i64 n_7, .int .i64 n_8, .int .i64 n_9, .int .i64 n_10, .int .i64 n_11, .int .i64 n_12]] 2 = Option.some (zXH2 bs_19) ∧ zXH39 bs_17 xs_18 bs_19 ∧ zXH39 bs_17 xs_18
 bs_19 ∧ zXH13 bs_19 ∧ [AV.int .i64 n_9, .int .i64 n_10, .int .i64 n_11, .int .i64 n_12] = cellsI xs_20 ∧ 4 = xs_20.length ∧ zXH3 xs_20) ∧ exW .i64 ((x_5.1 : Int) + 1) (fun n_21 => zXH32 ∧ ∃ y_22 : Nat × List UInt8, zXH12 y_22 rs f s1 s2 s3
 s4 s5 ∧ rs.length - y_22.1 < rs.length - x_5.1 ∧ zXH9 f s1 s2 s3 s4 s5 rs ∧ zXH23 ∧ zXH19 bs_19 xs_20 y_22 rs n_21))) else tlB f rs Q x_5 200 1 s1 s2 s3 s4 s5 true))) := by kernel_rfl

def inv_46n2 (f : Int) (rs : List Rc) : LInv where
 α := Nat × List UInt8
 pre x := Lf (x.1 ≤ rs.length ∧ x.2 = (putM 4 [f] ++ rcsBM (rs.take x.1)))
 st x := ⟨mkT [(0, .nils), (3, .ptr 0 13 0), (5, .int .i64 (rs.length : Nat)), (6, .ptr 1 5 0), (7, .sl 2 x.2.length 0 x.2.length 1), (48, .lst 0 (cellsRM rs) rs.length 7), (49, .int .i64 (rs.length : Nat)), (50, .int .i64 (x.1 : Nat))], [⟨.exact, true, ctC ⟨2, f, 0, 0, 0, 0, 0, 0, rs, [], 0, 0, []⟩⟩, ⟨.exact, true, b5 false false true false false⟩, ⟨.grow, true, ofBytes x.2⟩]⟩
 mu x := rs.length - x.1
noncomputable def goal_46n2 (hv : Nat → Option Pa) (hb : Nat → Option Bool) (f : Int) (rs : List Rc) (Q : Out → List Blk → Gh → Prop) : Prop :=
 callx (e24 sm46 (fun i => bif Nat.beq i 46000 then some (fun _ => [[inv_46n2 f rs]]) else none) hv hb) (wpx (e24 sm46 (fun i => bif Nat.beq i 46000 then some (fun _ => [[inv_46n2 f rs]]) else none) hv hb) 1000) 46 [.nils, .agg (ctC ⟨2, f, 0, 0, 0, 0, 0, 0, rs, [], 0, 0, []⟩)] [] {} Q
abbrev zXH18 (x_3 : Nat × List UInt8) (rs : List Rc) (f : Int) : Prop := Lf (x_3.1 ≤ rs.length ∧ x_3.2 = putM 4 [f] ++ rcsBM (rs.take x_3.1))
abbrev zXH8 (f : Int) (rs : List Rc) : Prop := eqqQ [AV.int .i64 2, .int .i64 f, .int .i64 0, .int .i64 0, .int .i64 0, .int .i64 0, .int .i64 0, .int .i64 0, zXH53 rs, .lst 0 [] 0 1, .int .i64 0, .int .i64 0, .lst 0 [] 0 1]
abbrev zXH22 : Prop := eqqQ [AV.bool false, .bool false, .bool true, .bool false, .bool false]
abbrev zXH45 (xs_0 : List Int) : Nat := (putM 4 xs_0).length
abbrev zXH1 (f : Int) (rs : List Rc) : Blk := Blk.mk BK.exact true [.int .i64 2, .int .i64 f, .int .i64 0, .int .i64 0, .int .i64 0, .int .i64 0, .int .i64 0, .int .i64 0, zXH53 rs, .lst 0 [] 0 1, .int .i64 0, .int .i64 0, .lst 0 [] 0 1]
abbrev zXH6 : Blk := Blk.mk BK.exact true [.bool false, .bool false, .bool true, .bool false, .bool false]
theorem vc_46n2 (f : Int) (rs : List Rc) (Q : Out → List Blk → Gh → Prop) : goal_46n2 (lookV [(188462, .int .i64), (188465, .int .i64), (188469, .agg [.int .i64, .int .i64, .int .i64, .int .i64, .int .i64, .int .i64, .int .i64]), (188496,
 .int .i64), (188523, .int .i64), (188524, .int .i64), (188525, .int .i64), (188528, .int .i64), (188529, .int .i64), (188538, .int .i64), (188539, .int .i64)]) (lookB []) f rs Q = (∃ xs_0 : List Int, zXH5 f xs_0 ∧ exI .i64 (rs.length :
 Int) (fun n_1 => exI .i64 (rs.length : Int) (fun n_2 => (∃ x_3 : Nat × List UInt8, zXH18 x_3 rs f ∧ zXH8 f rs ∧ zXH22 ∧ ofBytes (putM 4 xs_0) = ofBytes x_3.2 ∧ AV.nils = AV.nils ∧ eqqQ (AV.ptr 0 13 0) ∧ AV.sl 2 (zXH45 xs_0) 0 (zXH45 xs_0)
 1 = AV.sl 2 x_3.2.length 0 x_3.2.length 1 ∧ zXH47 n_1 rs ∧ zXH47 n_2 rs ∧ zXH21 rs ∧ eqqQ (AV.ptr 1 5 0) ∧ AV.int .i64 0 = zXH29 x_3 ∧ True) ∧ ∀ x_3 : Nat × List UInt8, zXH18 x_3 rs f → bif decide ((x_3.1 : Int) < (rs.length : Int)) then
 ckQ (Nat.blt (zXH49 x_3) rs.length && true) (ckQ (zXH35 x_3 rs) (∃ n_4 n_5 n_6 n_7 n_8 n_9 n_10, zXH33 x_3 rs = AV.agg [.int .i64 n_4, .int .i64 n_5, .int .i64 n_6, .int .i64 n_7, .int .i64 n_8, .int .i64 n_9, .int .i64 n_10] ∧ ∃ bs_11 :
 List UInt8, ∃ xs_12 : List Int, Lf (GetElem?.getElem? [zXH1 f rs, zXH6, zXH34 x_3, Blk.mk BK.exact true [.int .i64 n_4, .int .i64 n_5, .int .i64 n_6, .int .i64 n_7, .int .i64 n_8, .int .i64 n_9, .int .i64 n_10]] 2 = Option.some (zXH2
 bs_11) ∧ zXH54 x_3 bs_11 ∧ zXH54 x_3 bs_11 ∧ zXH13 bs_11 ∧ [AV.int .i64 n_4] = cellsI xs_12 ∧ zXH41 xs_12) ∧ ∃ bs_13 : List UInt8, ∃ xs_14 : List Int, Lf (GetElem?.getElem? [zXH1 f rs, zXH6, zXH52 bs_11 xs_12, Blk.mk BK.exact true [.int
 .i64 n_4, .int .i64 n_5, .int .i64 n_6, .int .i64 n_7, .int .i64 n_8, .int .i64 n_9, .int .i64 n_10]] 2 = Option.some (zXH2 bs_13) ∧ zXH14 bs_11 xs_12 = bs_13.length ∧ zXH14 bs_11 xs_12 = bs_13.length ∧ zXH13 bs_13 ∧ [AV.int .i64 n_5] =
 cellsI xs_14 ∧ zXH16 xs_14) ∧ ∃ bs_15 : List UInt8, ∃ xs_16 : List Int, Lf (GetElem?.getElem? [zXH1 f rs, zXH6, zXH50 bs_13 xs_14, Blk.mk BK.exact true [.int .i64 n_4, .int .i64 n_5, .int .i64 n_6, .int .i64 n_7, .int .i64 n_8, .int .i64
 n_9, .int .i64 n_10]] 2 = Option.some (zXH2 bs_15) ∧ zXH38 bs_13 xs_14 bs_15 ∧ zXH38 bs_13 xs_14 bs_15 ∧ zXH13 bs_15 ∧ [AV.int .i64 n_6] = cellsI xs_16 ∧ zXH17 xs_16) ∧ ∃ bs_17 : List UInt8, ∃ xs_18 : List Int, Lf (GetElem?.getElem? [zXH1
 f rs, zXH6, zXH51 bs_15 xs_16, Blk.mk BK.exact true [.int .i64 n_4, .int .i64 n_5, .int .i64 n_6, .int .i64 n_7, .int .i64 n_8, .int .i64 n_9, .int .i64 n_10]] 2 = Option.some (zXH2 bs_17) ∧ zXH39 bs_15 xs_16 bs_17 ∧ zXH39 bs_15 xs_16
 bs_17 ∧ zXH13 bs_17 ∧ [AV.int .i64 n_7, .int .i64 n_8, .int .i64 n_9, .int .i64 n_10] = cellsI xs_18 ∧ 4 = xs_18.length ∧ zXH3 xs_18) ∧ exW .i64 ((x_3.1 : Int) + 1) (fun n_19 => zXH32 ∧ ∃ y_20 : Nat × List UInt8, zXH18 y_20 rs f ∧
 rs.length - y_20.1 < rs.length - x_3.1 ∧ zXH8 f rs ∧ zXH22 ∧ zXH19 bs_17 xs_18 y_20 rs n_19))) else tlB f rs Q x_3 201 2 0 0 0 0 0 false))) := by kernel_rfl

def inv_46s1 (bs : List UInt8) (f s1 s2 s3 s4 s5 : Int) (rs : List Rc) : LInv where
 α := Nat × List UInt8
 pre x := Lf (x.1 ≤ rs.length ∧ x.2 = (putM 4 [f] ++ putM 4 [s1, s2, s3, s4, s5] ++ rcsBM (rs.take x.1)))
 st x := ⟨mkT [(0, .sl 0 bs.length 0 bs.length 1), (3, .ptr 1 13 0), (5, .int .i64 (rs.length : Nat)), (6, .ptr 2 5 0), (7, .sl 3 x.2.length 0 x.2.length 1), (48, .lst 0 (cellsRM rs) rs.length 7), (49, .int .i64 (rs.length : Nat)), (50, .int .i64 (x.1 : Nat))], [⟨.grow, true, ofBytes bs⟩, ⟨.exact, true, ctC ⟨1, f, 0, s1, s2, s3, s4, s5, rs, [], 0, 0, []⟩⟩, ⟨.exact, true, b5 false true true false false⟩, ⟨.grow, true, ofBytes x.2⟩]⟩
 mu x := rs.length - x.1
noncomputable def goal_46s1 (hv : Nat → Option Pa) (hb : Nat → Option Bool) (bs : List UInt8) (f s1 s2 s3 s4 s5 : Int) (rs : List Rc) (Q : Out → List Blk → Gh → Prop) : Prop :=
 callx (e24 sm46 (fun i => bif Nat.beq i 46000 then some (fun _ => [[inv_46s1 bs f s1 s2 s3 s4 s5 rs]]) else none) hv hb) (wpx (e24 sm46 (fun i => bif Nat.beq i 46000 then some (fun _ => [[inv_46s1 bs f s1 s2 s3 s4 s5 rs]]) else none) hv hb) 1000) 46 [.sl 0 bs.length 0 bs.length 1, .agg (ctC ⟨1, f, 0, s1, s2, s3, s4, s5, rs, [], 0, 0, []⟩)] [⟨.grow, true, ofBytes bs⟩] {} Q
abbrev tlA (bs : List UInt8) (f : Int) (rs : List Rc) (Q : Out → List Blk → Gh → Prop) (a0 : Nat × List UInt8) (a1 : Int) (a2 : Int) (a3 : Int) (a4 : Int) (a5 : Int) (a6 : Int) (a7 : Bool) (a8 : Int) : Prop :=
ckQ (Nat.beq (ofBytes a0.2).length a0.2.length) (exI .i64 (a0.2.length : Int) fun u_0 => exW .i64 (0 - u_0) fun u_1 => exW .i64 (((u_1 % 18446744073709551616).toNat &&& 3 : Nat) : Int) fun u_2 => ckQ (decide (0 ≤ u_2) && decide (u_2 ≤
 1099511627776) && oneL (List.replicate u_2.toNat [AV.int .u8 0]).flatten && true && Nat.ble (u_2.toNat * 1) 1099511627776) (bif decide (u_2 = 0) then ckQ (Nat.beq u_2.toNat 0) (ckQ (Nat.beq (ofBytes a0.2).length a0.2.length && true) (exI
 .i64 (rs.length : Int) fun u_3 => exW .i64 ((128 ||| (u_3 % 18446744073709551616).toNat : Nat) : Int) fun u_4 => ∃ u_5 : List UInt8, ∃ u_6 : List Int, Lf (GetElem?.getElem? [Blk.mk BK.grow true (ofBytes bs), Blk.mk BK.exact true [.int .i64
 (a1 : Int), .int .i64 f, .int .i64 0, .int .i64 a2, .int .i64 a3, .int .i64 a4, .int .i64 a5, .int .i64 a6, .lst 0 (cellsRM rs) rs.length 7, .lst 0 [] 0 1, .int .i64 0, .int .i64 0, .lst 0 [] 0 1], Blk.mk BK.exact true [.bool false, .bool
 a7, .bool true, .bool false, .bool false], Blk.mk BK.grow true (ofBytes a0.2)] 0 = Option.some (Blk.mk BK.grow true (ofBytes u_5)) ∧ bs.length = u_5.length ∧ bs.length = u_5.length ∧ u_5.length ≤ 1000000 ∧ [AV.int .i64 u_4, .int .i64 (a8 :
 Int)] = cellsI u_6 ∧ 2 = u_6.length ∧ (1 : Int) ≤ (1 : Int) ∧ (1 : Int) ≤ (7 : Int) ∧ u_6.length ≤ 1000000) ∧ ckQ (Nat.beq (ofBytes a0.2).length a0.2.length) (exI .i64 (a0.2.length : Int) fun u_7 => exW .i64 (u_7.tdiv 4) fun u_8 => ∃ u_9 :
 List UInt8, ∃ u_10 : List Int, Lf (GetElem?.getElem? [Blk.mk BK.grow true (ofBytes (u_5 ++ putM 1 u_6)), Blk.mk BK.exact true [.int .i64 (a1 : Int), .int .i64 f, .int .i64 0, .int .i64 a2, .int .i64 a3, .int .i64 a4, .int .i64 a5, .int
 .i64 a6, .lst 0 (cellsRM rs) rs.length 7, .lst 0 [] 0 1, .int .i64 0, .int .i64 0, .lst 0 [] 0 1], Blk.mk BK.exact true [.bool false, .bool a7, .bool true, .bool false, .bool false], Blk.mk BK.grow true (ofBytes a0.2)] 0 = Option.some
 (Blk.mk BK.grow true (ofBytes u_9)) ∧ (u_5 ++ putM 1 u_6).length = u_9.length ∧ (u_5 ++ putM 1 u_6).length = u_9.length ∧ u_9.length ≤ 1000000 ∧ [AV.int .i64 u_8] = cellsI u_10 ∧ 1 = u_10.length ∧ (1 : Int) ≤ (2 : Int) ∧ (2 : Int) ≤ (7 :
 Int) ∧ u_10.length ≤ 1000000) ∧ ckQ (Nat.beq (ofBytes a0.2).length a0.2.length && true && Nat.ble (0 + a0.2.length * 1) a0.2.length && oneL (((ofBytes a0.2).drop 0).take (a0.2.length * 1)) && true && Nat.ble (a0.2.length * 1)
 1099511627776) (bif Nat.beq a0.2.length 0 then ckQ (Nat.beq a0.2.length 0) (ckQ (Nat.beq (ofBytes (u_9 ++ putM 2 u_10)).length (u_9 ++ putM 2 u_10).length && true) (true = true ∧ Q (.ret (.sl 0 (u_9 ++ putM 2 u_10).length 0 (u_9 ++ putM 2
 u_10).length 1)) [Blk.mk BK.grow true (ofBytes (u_9 ++ putM 2 u_10))] {})) else ckQ (Nat.blt 0 a0.2.length) (ckQ (Nat.beq (ofBytes (u_9 ++ putM 2 u_10)).length (u_9 ++ putM 2 u_10).length && true && Nat.beq (0 + (u_9 ++ putM 2 u_10).length
 * 1) (u_9 ++ putM 2 u_10).length && Nat.ble ((u_9 ++ putM 2 u_10).length + a0.2.length) 1099511627776 && Nat.ble (((u_9 ++ putM 2 u_10).length + a0.2.length) * 1) 1099511627776) (((oldL 0 (((ofBytes a0.2).drop 0).take (a0.2.length * 1)) ||
 oldL 1 (ofBytes (u_9 ++ putM 2 u_10) ++ ((ofBytes a0.2).drop 0).take (a0.2.length * 1))) && true) = true ∧ Q (.ret (.sl 0 ((u_9 ++ putM 2 u_10).length + (((ofBytes a0.2).drop 0).take (a0.2.length * 1)).length) 0 ((u_9 ++ putM 2
 u_10).length + a0.2.length) 1)) [Blk.mk BK.grow (oldL 0 (((ofBytes a0.2).drop 0).take (a0.2.length * 1))) (ofBytes (u_9 ++ putM 2 u_10) ++ ((ofBytes a0.2).drop 0).take (a0.2.length * 1))] {})))))) else ckQ (Nat.blt 0 u_2.toNat) (ckQ
 (Nat.beq (ofBytes a0.2).length a0.2.length && true && Nat.beq (0 + a0.2.length * 1) a0.2.length && Nat.ble (a0.2.length + u_2.toNat) 1099511627776 && Nat.ble ((a0.2.length + u_2.toNat) * 1) 1099511627776) (exI .i64 (rs.length : Int) fun
 u_11 => exW .i64 ((128 ||| (u_11 % 18446744073709551616).toNat : Nat) : Int) fun u_12 => ∃ u_13 : List UInt8, ∃ u_14 : List Int, Lf (GetElem?.getElem? [Blk.mk BK.grow true (ofBytes bs), Blk.mk BK.exact true [.int .i64 (a1 : Int), .int .i64
 f, .int .i64 0, .int .i64 a2, .int .i64 a3, .int .i64 a4, .int .i64 a5, .int .i64 a6, .lst 0 (cellsRM rs) rs.length 7, .lst 0 [] 0 1, .int .i64 0, .int .i64 0, .lst 0 [] 0 1], Blk.mk BK.exact true [.bool false, .bool a7, .bool true, .bool
 false, .bool false], Blk.mk BK.grow (oldL 0 (List.replicate u_2.toNat [AV.int .u8 0]).flatten) (ofBytes a0.2 ++ (List.replicate u_2.toNat [AV.int .u8 0]).flatten)] 0 = Option.some (Blk.mk BK.grow true (ofBytes u_13)) ∧ bs.length =
 u_13.length ∧ bs.length = u_13.length ∧ u_13.length ≤ 1000000 ∧ [AV.int .i64 u_12, .int .i64 (a8 : Int)] = cellsI u_14 ∧ 2 = u_14.length ∧ (1 : Int) ≤ (1 : Int) ∧ (1 : Int) ≤ (7 : Int) ∧ u_14.length ≤ 1000000) ∧ ckQ (Nat.beq (ofBytes a0.2
 ++ (List.replicate u_2.toNat [AV.int .u8 0]).flatten).length (a0.2.length + (List.replicate u_2.toNat [AV.int .u8 0]).flatten.length)) (exI .i64 ((a0.2.length + u_2.toNat : Nat) : Int) fun u_15 => exW .i64 (u_15.tdiv 4) fun u_16 => ∃ u_17
 : List UInt8, ∃ u_18 : List Int, Lf (GetElem?.getElem? [Blk.mk BK.grow true (ofBytes (u_13 ++ putM 1 u_14)), Blk.mk BK.exact true [.int .i64 (a1 : Int), .int .i64 f, .int .i64 0, .int .i64 a2, .int .i64 a3, .int .i64 a4, .int .i64 a5, .int
 .i64 a6, .lst 0 (cellsRM rs) rs.length 7, .lst 0 [] 0 1, .int .i64 0, .int .i64 0, .lst 0 [] 0 1], Blk.mk BK.exact true [.bool false, .bool a7, .bool true, .bool false, .bool false], Blk.mk BK.grow (oldL 0 (List.replicate u_2.toNat [AV.int
 .u8 0]).flatten) (ofBytes a0.2 ++ (List.replicate u_2.toNat [AV.int .u8 0]).flatten)] 0 = Option.some (Blk.mk BK.grow true (ofBytes u_17)) ∧ (u_13 ++ putM 1 u_14).length = u_17.length ∧ (u_13 ++ putM 1 u_14).length = u_17.length ∧
 u_17.length ≤ 1000000 ∧ [AV.int .i64 u_16] = cellsI u_18 ∧ 1 = u_18.length ∧ (1 : Int) ≤ (2 : Int) ∧ (2 : Int) ≤ (7 : Int) ∧ u_18.length ≤ 1000000) ∧ ckQ (Nat.beq (ofBytes a0.2 ++ (List.replicate u_2.toNat [AV.int .u8 0]).flatten).length
 (a0.2.length + (List.replicate u_2.toNat [AV.int .u8 0]).flatten.length) && true && Nat.ble (0 + (a0.2.length + u_2.toNat) * 1) (a0.2.length + (List.replicate u_2.toNat [AV.int .u8 0]).flatten.length) && oneL (((ofBytes a0.2 ++
 (List.replicate u_2.toNat [AV.int .u8 0]).flatten).drop 0).take ((a0.2.length + u_2.toNat) * 1)) && true && Nat.ble ((a0.2.length + u_2.toNat) * 1) 1099511627776) (bif Nat.beq (a0.2.length + u_2.toNat) 0 then ckQ (Nat.beq (a0.2.length +
 u_2.toNat) 0) (ckQ (Nat.beq (ofBytes (u_17 ++ putM 2 u_18)).length (u_17 ++ putM 2 u_18).length && true) (true = true ∧ Q (.ret (.sl 0 (u_17 ++ putM 2 u_18).length 0 (u_17 ++ putM 2 u_18).length 1)) [Blk.mk BK.grow true (ofBytes (u_17 ++
 putM 2 u_18))] {})) else ckQ (Nat.blt 0 (a0.2.length + u_2.toNat)) (ckQ (Nat.beq (ofBytes (u_17 ++ putM 2 u_18)).length (u_17 ++ putM 2 u_18).length && true && Nat.beq (0 + (u_17 ++ putM 2 u_18).length * 1) (u_17 ++ putM 2 u_18).length &&
 Nat.ble ((u_17 ++ putM 2 u_18).length + (a0.2.length + u_2.toNat)) 1099511627776 && Nat.ble (((u_17 ++ putM 2 u_18).length + (a0.2.length + u_2.toNat)) * 1) 1099511627776) (((oldL 0 (((ofBytes a0.2 ++ (List.replicate u_2.toNat [AV.int .u8
 0]).flatten).drop 0).take ((a0.2.length + u_2.toNat) * 1)) || oldL 1 (ofBytes (u_17 ++ putM 2 u_18) ++ ((ofBytes a0.2 ++ (List.replicate u_2.toNat [AV.int .u8 0]).flatten).drop 0).take ((a0.2.length + u_2.toNat) * 1))) && true) = true ∧ Q
 (.ret (.sl 0 ((u_17 ++ putM 2 u_18).length + (((ofBytes a0.2 ++ (List.replicate u_2.toNat [AV.int .u8 0]).flatten).drop 0).take ((a0.2.length + u_2.toNat) * 1)).length) 0 ((u_17 ++ putM 2 u_18).length + (a0.2.length + u_2.toNat)) 1))
 [Blk.mk BK.grow (oldL 0 (((ofBytes a0.2 ++ (List.replicate u_2.toNat [AV.int .u8 0]).flatten).drop 0).take ((a0.2.length + u_2.toNat) * 1))) (ofBytes (u_17 ++ putM 2 u_18) ++ ((ofBytes a0.2 ++ (List.replicate u_2.toNat [AV.int .u8
 0]).flatten).drop 0).take ((a0.2.length + u_2.toNat) * 1))] {}))))))))
abbrev zXH28 (bs : List UInt8) : Prop := eqqQ (AV.sl 0 bs.length 0 bs.length 1)
abbrev zXH42 : Prop := eqqQ (AV.ptr 1 13 0)
abbrev zXH26 (bs_1 : List UInt8) (xs_2 : List Int) (x_5 : Nat × List UInt8) : Prop := AV.sl 3 (zXH14 bs_1 xs_2) 0 (zXH14 bs_1 xs_2) 1 = AV.sl 3 x_5.2.length 0 x_5.2.length 1
abbrev zXH46 : Prop := eqqQ (AV.ptr 2 5 0)
abbrev zXH20 (bs_19 : List UInt8) (xs_20 : List Int) (y_22 : Nat × List UInt8) (bs : List UInt8) (rs : List Rc) (n_21 : Int) : Prop := ofBytes (bs_19 ++ putM 4 xs_20) = ofBytes y_22.2 ∧ eqqQ (AV.sl 0 bs.length 0 bs.length 1) ∧ zXH42 ∧ AV.sl 3 (zXH14 bs_19 xs_20) 0 (zXH14 bs_19 xs_20) 1 = AV.sl 3 y_22.2.length 0 y_22.2.length 1 ∧ eqqQ (zXH11 rs) ∧ eqqQ (zXH11 rs) ∧ zXH55 rs ∧ zXH46 ∧ AV.int .i64 n_21 = AV.int .i64 (y_22.1 : Int) ∧ True
theorem vc_46s1 (bs : List UInt8) (f : Int) (s1 : Int) (s2 : Int) (s3 : Int) (s4 : Int) (s5 : Int) (rs : List Rc) (Q : Out → List Blk → Gh → Prop) : goal_46s1 (lookV [(188462, .int .i64), (188465, .int .i64), (188469, .agg [.int .i64, .int
 .i64, .int .i64, .int .i64, .int .i64, .int .i64, .int .i64]), (188496, .int .i64), (188523, .int .i64), (188524, .int .i64), (188525, .int .i64), (188528, .int .i64), (188529, .int .i64), (188538, .int .i64), (188539, .int .i64)]) (lookB
 [(192510, true)]) bs f s1 s2 s3 s4 s5 rs Q = (∃ xs_0 : List Int, zXH5 f xs_0 ∧ ∃ bs_1 : List UInt8, ∃ xs_2 : List Int, Lf (GetElem?.getElem? [zXH2 bs, zXH0 f s1 s2 s3 s4 s5 rs, zXH4, zXH37 xs_0] 3 = Option.some (zXH2 bs_1) ∧ zXH36 xs_0
 bs_1 ∧ zXH36 xs_0 bs_1 ∧ zXH13 bs_1 ∧ [AV.int .i64 s1, .int .i64 s2, .int .i64 s3, .int .i64 s4, .int .i64 s5] = cellsI xs_2 ∧ 5 = xs_2.length ∧ zXH3 xs_2) ∧ exI .i64 (rs.length : Int) (fun n_3 => exI .i64 (rs.length : Int) (fun n_4 => (∃
 x_5 : Nat × List UInt8, zXH12 x_5 rs f s1 s2 s3 s4 s5 ∧ eqqQ (ofBytes bs) ∧ zXH9 f s1 s2 s3 s4 s5 rs ∧ zXH23 ∧ zXH27 bs_1 xs_2 = ofBytes x_5.2 ∧ zXH28 bs ∧ zXH42 ∧ zXH26 bs_1 xs_2 x_5 ∧ zXH47 n_3 rs ∧ zXH47 n_4 rs ∧ zXH21 rs ∧ zXH46 ∧
 AV.int .i64 0 = zXH29 x_5 ∧ True) ∧ ∀ x_5 : Nat × List UInt8, zXH12 x_5 rs f s1 s2 s3 s4 s5 → bif decide ((x_5.1 : Int) < (rs.length : Int)) then ckQ (Nat.blt (zXH49 x_5) rs.length && true) (ckQ (zXH35 x_5 rs) (∃ n_6 n_7 n_8 n_9 n_10 n_11
 n_12, zXH33 x_5 rs = AV.agg [.int .i64 n_6, .int .i64 n_7, .int .i64 n_8, .int .i64 n_9, .int .i64 n_10, .int .i64 n_11, .int .i64 n_12] ∧ ∃ bs_13 : List UInt8, ∃ xs_14 : List Int, Lf (GetElem?.getElem? [zXH2 bs, zXH0 f s1 s2 s3 s4 s5 rs,
 zXH4, zXH34 x_5, Blk.mk BK.exact true [.int .i64 n_6, .int .i64 n_7, .int .i64 n_8, .int .i64 n_9, .int .i64 n_10, .int .i64 n_11, .int .i64 n_12]] 3 = Option.some (zXH2 bs_13) ∧ zXH54 x_5 bs_13 ∧ zXH54 x_5 bs_13 ∧ zXH13 bs_13 ∧ [AV.int
 .i64 n_6] = cellsI xs_14 ∧ zXH41 xs_14) ∧ ∃ bs_15 : List UInt8, ∃ xs_16 : List Int, Lf (GetElem?.getElem? [zXH2 bs, zXH0 f s1 s2 s3 s4 s5 rs, zXH4, zXH52 bs_13 xs_14, Blk.mk BK.exact true [.int .i64 n_6, .int .i64 n_7, .int .i64 n_8, .int
 .i64 n_9, .int .i64 n_10, .int .i64 n_11, .int .i64 n_12]] 3 = Option.some (zXH2 bs_15) ∧ zXH14 bs_13 xs_14 = bs_15.length ∧ zXH14 bs_13 xs_14 = bs_15.length ∧ zXH13 bs_15 ∧ [AV.int .i64 n_7] = cellsI xs_16 ∧ zXH16 xs_16) ∧ ∃ bs_17 : List
 UInt8, ∃ xs_18 : List Int, Lf (GetElem?.getElem? [zXH2 bs, zXH0 f s1 s2 s3 s4 s5 rs, zXH4, zXH50 bs_15 xs_16, Blk.mk BK.exact true [.int .i64 n_6, .int .i64 n_7, .int .i64 n_8, .int .i64 n_9, .int .i64 n_10, .int .i64 n_11, .int .i64
 n_12]] 3 = Option.some (zXH2 bs_17) ∧ zXH38 bs_15 xs_16 bs_17 ∧ zXH38 bs_15 xs_16 bs_17 ∧ zXH13 bs_17 ∧ [AV.int .i64 n_8] = cellsI xs_18 ∧ zXH17 xs_18) ∧ ∃ bs_19 : List UInt8, ∃ xs_20 : List Int, Lf (GetElem?.getElem? [zXH2 bs, zXH0 f s1
 s2 s3 s4 s5 rs, zXH4, zXH51 bs_17 xs_18, Blk.mk BK.exact true [.int .i64 n_6, .int .i64 n_7, .int .i64 n_8, .int .i64 n_9, .int .i64 n_10, .int .i64 n_11, .int .i64 n_12]] 3 = Option.some (zXH2 bs_19) ∧ zXH39 bs_17 xs_18 bs_19 ∧ zXH39
 bs_17 xs_18 bs_19 ∧ zXH13 bs_19 ∧ [AV.int .i64 n_9, .int .i64 n_10, .int .i64 n_11, .int .i64 n_12] = cellsI xs_20 ∧ 4 = xs_20.length ∧ zXH3 xs_20) ∧ exW .i64 ((x_5.1 : Int) + 1) (fun n_21 => zXH32 ∧ ∃ y_22 : Nat × List UInt8, zXH12 y_22
 rs f s1 s2 s3 s4 s5 ∧ rs.length - y_22.1 < rs.length - x_5.1 ∧ eqqQ (ofBytes bs) ∧ zXH9 f s1 s2 s3 s4 s5 rs ∧ zXH23 ∧ zXH20 bs_19 xs_20 y_22 bs rs n_21))) else tlA bs f rs Q x_5 1 s1 s2 s3 s4 s5 true 200))) := by kernel_rfl

def inv_46s2 (bs : List UInt8) (f : Int) (rs : List Rc) : LInv where
 α := Nat × List UInt8
 pre x := Lf (x.1 ≤ rs.length ∧ x.2 = (putM 4 [f] ++ rcsBM (rs.take x.1)))
 st x := ⟨mkT [(0, .sl 0 bs.length 0 bs.length 1), (3, .ptr 1 13 0), (5, .int .i64 (rs.length : Nat)), (6, .ptr 2 5 0), (7, .sl 3 x.2.length 0 x.2.length 1), (48, .lst 0 (cellsRM rs) rs.length 7), (49, .int .i64 (rs.length : Nat)), (50, .int .i64 (x.1 : Nat))], [⟨.grow, true, ofBytes bs⟩, ⟨.exact, true, ctC ⟨2, f, 0, 0, 0, 0, 0, 0, rs, [], 0, 0, []⟩⟩, ⟨.exact, true, b5 false false true false false⟩, ⟨.grow, true, ofBytes x.2⟩]⟩
 mu x := rs.length - x.1
noncomputable def goal_46s2 (hv : Nat → Option Pa) (hb : Nat → Option Bool) (bs : List UInt8) (f : Int) (rs : List Rc) (Q : Out → List Blk → Gh → Prop) : Prop :=
 callx (e24 sm46 (fun i => bif Nat.beq i 46000 then some (fun _ => [[inv_46s2 bs f rs]]) else none) hv hb) (wpx (e24 sm46 (fun i => bif Nat.beq i 46000 then some (fun _ => [[inv_46s2 bs f rs]]) else none) hv hb) 1000) 46 [.sl 0 bs.length 0 bs.length 1, .agg (ctC ⟨2, f, 0, 0, 0, 0, 0, 0, rs, [], 0, 0, []⟩)] [⟨.grow, true, ofBytes bs⟩] {} Q
abbrev zXH30 (x_3 : Nat × List UInt8) : AV := .sl 3 x_3.2.length 0 x_3.2.length 1
theorem vc_46s2 (bs : List UInt8) (f : Int) (rs : List Rc) (Q : Out → List Blk → Gh → Prop) : goal_46s2 (lookV [(188462, .int .i64), (188465, .int .i64), (188469, .agg [.int .i64, .int .i64, .int .i64, .int .i64, .int .i64, .int .i64, .int
 .i64]), (188496, .int .i64), (188523, .int .i64), (188524, .int .i64), (188525, .int .i64), (188528, .int .i64), (188529, .int .i64), (188538, .int .i64), (188539, .int .i64)]) (lookB [(192510, true)]) bs f rs Q = (∃ xs_0 : List Int, zXH5
 f xs_0 ∧ exI .i64 (rs.length : Int) (fun n_1 => exI .i64 (rs.length : Int) (fun n_2 => (∃ x_3 : Nat × List UInt8, zXH18 x_3 rs f ∧ eqqQ (ofBytes bs) ∧ zXH8 f rs ∧ zXH22 ∧ ofBytes (putM 4 xs_0) = ofBytes x_3.2 ∧ zXH28 bs ∧ zXH42 ∧ AV.sl 3
 (zXH45 xs_0) 0 (zXH45 xs_0) 1 = zXH30 x_3 ∧ zXH47 n_1 rs ∧ zXH47 n_2 rs ∧ zXH21 rs ∧ zXH46 ∧ AV.int .i64 0 = zXH29 x_3 ∧ True) ∧ ∀ x_3 : Nat × List UInt8, zXH18 x_3 rs f → bif decide ((x_3.1 : Int) < (rs.length : Int)) then ckQ (Nat.blt
 (zXH49 x_3) rs.length && true) (ckQ (zXH35 x_3 rs) (∃ n_4 n_5 n_6 n_7 n_8 n_9 n_10, zXH33 x_3 rs = AV.agg [.int .i64 n_4, .int .i64 n_5, .int .i64 n_6, .int .i64 n_7, .int .i64 n_8, .int .i64 n_9, .int .i64 n_10] ∧ ∃ bs_11 : List UInt8, ∃
 xs_12 : List Int, Lf (GetElem?.getElem? [zXH2 bs, zXH1 f rs, zXH6, zXH34 x_3, Blk.mk BK.exact true [.int .i64 n_4, .int .i64 n_5, .int .i64 n_6, .int .i64 n_7, .int .i64 n_8, .int .i64 n_9, .int .i64 n_10]] 3 = Option.some (zXH2 bs_11) ∧
 zXH54 x_3 bs_11 ∧ zXH54 x_3 bs_11 ∧ zXH13 bs_11 ∧ [AV.int .i64 n_4] = cellsI xs_12 ∧ zXH41 xs_12) ∧ ∃ bs_13 : List UInt8, ∃ xs_14 : List Int, Lf (GetElem?.getElem? [zXH2 bs, zXH1 f rs, zXH6, zXH52 bs_11 xs_12, Blk.mk BK.exact true [.int
 .i64 n_4, .int .i64 n_5, .int .i64 n_6, .int .i64 n_7, .int .i64 n_8, .int .i64 n_9, .int .i64 n_10]] 3 = Option.some (zXH2 bs_13) ∧ zXH14 bs_11 xs_12 = bs_13.length ∧ zXH14 bs_11 xs_12 = bs_13.length ∧ zXH13 bs_13 ∧ [AV.int .i64 n_5] =
 cellsI xs_14 ∧ zXH16 xs_14) ∧ ∃ bs_15 : List UInt8, ∃ xs_16 : List Int, Lf (GetElem?.getElem? [zXH2 bs, zXH1 f rs, zXH6, zXH50 bs_13 xs_14, Blk.mk BK.exact true [.int .i64 n_4, .int .i64 n_5, .int .i64 n_6, .int .i64 n_7, .int .i64 n_8,
 .int .i64 n_9, .int .i64 n_10]] 3 = Option.some (zXH2 bs_15) ∧ zXH38 bs_13 xs_14 bs_15 ∧ zXH38 bs_13 xs_14 bs_15 ∧ zXH13 bs_15 ∧ [AV.int .i64 n_6] = cellsI xs_16 ∧ zXH17 xs_16) ∧ ∃ bs_17 : List UInt8, ∃ xs_18 : List Int, Lf
 (GetElem?.getElem? [zXH2 bs, zXH1 f rs, zXH6, zXH51 bs_15 xs_16, Blk.mk BK.exact true [.int .i64 n_4, .int .i64 n_5, .int .i64 n_6, .int .i64 n_7, .int .i64 n_8, .int .i64 n_9, .int .i64 n_10]] 3 = Option.some (zXH2 bs_17) ∧ zXH39 bs_15
 xs_16 bs_17 ∧ zXH39 bs_15 xs_16 bs_17 ∧ zXH13 bs_17 ∧ [AV.int .i64 n_7, .int .i64 n_8, .int .i64 n_9, .int .i64 n_10] = cellsI xs_18 ∧ 4 = xs_18.length ∧ zXH3 xs_18) ∧ exW .i64 ((x_3.1 : Int) + 1) (fun n_19 => zXH32 ∧ ∃ y_20 : Nat × List
 UInt8, zXH18 y_20 rs f ∧ rs.length - y_20.1 < rs.length - x_3.1 ∧ eqqQ (ofBytes bs) ∧ zXH8 f rs ∧ zXH22 ∧ zXH20 bs_17 xs_18 y_20 bs rs n_19))) else tlA bs f rs Q x_3 2 0 0 0 0 0 false 201))) := by kernel_rfl

noncomputable def goal_46s3 (hv : Nat → Option Pa) (hb : Nat → Option Bool) (bs : List UInt8) (f : Int) (Q : Out → List Blk → Gh → Prop) : Prop :=
 callx (e24 sm46 (fun _ => none) hv hb) (wpx (e24 sm46 (fun _ => none) hv hb) 1000) 46 [.sl 0 bs.length 0 bs.length 1, .agg (ctC ⟨3, f, 0, 0, 0, 0, 0, 0, [], [], 0, 0, []⟩)] [⟨.grow, true, ofBytes bs⟩] {} Q
abbrev tlC (bs : List UInt8) (f : Int) (Q : Out → List Blk → Gh → Prop) (a0 : List UInt8) (a1 : Int) (a2 : Int) (a3 : List AV) (a4 : Nat) (a5 : Int) (a6 : Int) (a7 : List AV) (a8 : Nat) (a9 : Bool) (a10 : Bool) (a11 : Bool) (a12 : List Blk) (a13 : Int) (a14 : Int) : Prop :=
ckQ (Nat.beq (ofBytes a0).length a0.length) (exI .i64 (a0.length : Int) fun u_0 => exW .i64 (0 - u_0) fun u_1 => exW .i64 (((u_1 % 18446744073709551616).toNat &&& 3 : Nat) : Int) fun u_2 => ckQ (decide (0 ≤ u_2) && decide (u_2 ≤
 1099511627776) && oneL (List.replicate u_2.toNat [AV.int .u8 0]).flatten && true && Nat.ble (u_2.toNat * 1) 1099511627776) (bif decide (u_2 = 0) then ckQ (Nat.beq u_2.toNat 0) (ckQ (Nat.beq (ofBytes a0).length a0.length && true) (∃ u_3 :
 List UInt8, ∃ u_4 : List Int, Lf (GetElem?.getElem? (Blk.mk BK.grow true (ofBytes bs) :: Blk.mk BK.exact true [.int .i64 (a1 : Int), .int .i64 f, .int .i64 a2, .int .i64 0, .int .i64 0, .int .i64 0, .int .i64 0, .int .i64 0, .lst 0
 (cellsRM []) 0 7, .lst 0 a3 a4 1, .int .i64 a5, .int .i64 a6, .lst 0 a7 a8 1] :: Blk.mk BK.exact true [.bool a9, .bool false, .bool false, .bool a10, .bool a11] :: Blk.mk BK.grow true (ofBytes a0) :: a12) 0 = Option.some (Blk.mk BK.grow
 true (ofBytes u_3)) ∧ bs.length = u_3.length ∧ bs.length = u_3.length ∧ u_3.length ≤ 1000000 ∧ [AV.int .i64 (a13 : Int), .int .i64 (a14 : Int)] = cellsI u_4 ∧ 2 = u_4.length ∧ (1 : Int) ≤ (1 : Int) ∧ (1 : Int) ≤ (7 : Int) ∧ u_4.length ≤
 1000000) ∧ ckQ (Nat.beq (ofBytes a0).length a0.length) (exI .i64 (a0.length : Int) fun u_5 => exW .i64 (u_5.tdiv 4) fun u_6 => ∃ u_7 : List UInt8, ∃ u_8 : List Int, Lf (GetElem?.getElem? (Blk.mk BK.grow true (ofBytes (u_3 ++ putM 1 u_4))
 :: Blk.mk BK.exact true [.int .i64 (a1 : Int), .int .i64 f, .int .i64 a2, .int .i64 0, .int .i64 0, .int .i64 0, .int .i64 0, .int .i64 0, .lst 0 (cellsRM []) 0 7, .lst 0 a3 a4 1, .int .i64 a5, .int .i64 a6, .lst 0 a7 a8 1] :: Blk.mk
 BK.exact true [.bool a9, .bool false, .bool false, .bool a10, .bool a11] :: Blk.mk BK.grow true (ofBytes a0) :: a12) 0 = Option.some (Blk.mk BK.grow true (ofBytes u_7)) ∧ (u_3 ++ putM 1 u_4).length = u_7.length ∧ (u_3 ++ putM 1 u_4).length
 = u_7.length ∧ u_7.length ≤ 1000000 ∧ [AV.int .i64 u_6] = cellsI u_8 ∧ 1 = u_8.length ∧ (1 : Int) ≤ (2 : Int) ∧ (2 : Int) ≤ (7 : Int) ∧ u_8.length ≤ 1000000) ∧ ckQ (Nat.beq (ofBytes a0).length a0.length && true && Nat.ble (0 + a0.length *
 1) a0.length && oneL (((ofBytes a0).drop 0).take (a0.length * 1)) && true && Nat.ble (a0.length * 1) 1099511627776) (bif Nat.beq a0.length 0 then ckQ (Nat.beq a0.length 0) (ckQ (Nat.beq (ofBytes (u_7 ++ putM 2 u_8)).length (u_7 ++ putM 2
 u_8).length && true) (true = true ∧ Q (.ret (.sl 0 (u_7 ++ putM 2 u_8).length 0 (u_7 ++ putM 2 u_8).length 1)) [Blk.mk BK.grow true (ofBytes (u_7 ++ putM 2 u_8))] {})) else ckQ (Nat.blt 0 a0.length) (ckQ (Nat.beq (ofBytes (u_7 ++ putM 2
 u_8)).length (u_7 ++ putM 2 u_8).length && true && Nat.beq (0 + (u_7 ++ putM 2 u_8).length * 1) (u_7 ++ putM 2 u_8).length && Nat.ble ((u_7 ++ putM 2 u_8).length + a0.length) 1099511627776 && Nat.ble (((u_7 ++ putM 2 u_8).length +
 a0.length) * 1) 1099511627776) (((oldL 0 (((ofBytes a0).drop 0).take (a0.length * 1)) || oldL 1 (ofBytes (u_7 ++ putM 2 u_8) ++ ((ofBytes a0).drop 0).take (a0.length * 1))) && true) = true ∧ Q (.ret (.sl 0 ((u_7 ++ putM 2 u_8).length +
 (((ofBytes a0).drop 0).take (a0.length * 1)).length) 0 ((u_7 ++ putM 2 u_8).length + a0.length) 1)) [Blk.mk BK.grow (oldL 0 (((ofBytes a0).drop 0).take (a0.length * 1))) (ofBytes (u_7 ++ putM 2 u_8) ++ ((ofBytes a0).drop 0).take (a0.length
 * 1))] {})))))) else ckQ (Nat.blt 0 u_2.toNat) (ckQ (Nat.beq (ofBytes a0).length a0.length && true && Nat.beq (0 + a0.length * 1) a0.length && Nat.ble (a0.length + u_2.toNat) 1099511627776 && Nat.ble ((a0.length + u_2.toNat) * 1)
 1099511627776) (∃ u_9 : List UInt8, ∃ u_10 : List Int, Lf (GetElem?.getElem? (Blk.mk BK.grow true (ofBytes bs) :: Blk.mk BK.exact true [.int .i64 (a1 : Int), .int .i64 f, .int .i64 a2, .int .i64 0, .int .i64 0, .int .i64 0, .int .i64 0,
 .int .i64 0, .lst 0 (cellsRM []) 0 7, .lst 0 a3 a4 1, .int .i64 a5, .int .i64 a6, .lst 0 a7 a8 1] :: Blk.mk BK.exact true [.bool a9, .bool false, .bool false, .bool a10, .bool a11] :: Blk.mk BK.grow (oldL 0 (List.replicate u_2.toNat
 [AV.int .u8 0]).flatten) (ofBytes a0 ++ (List.replicate u_2.toNat [AV.int .u8 0]).flatten) :: a12) 0 = Option.some (Blk.mk BK.grow true (ofBytes u_9)) ∧ bs.length = u_9.length ∧ bs.length = u_9.length ∧ u_9.length ≤ 1000000 ∧ [AV.int .i64
 (a13 : Int), .int .i64 (a14 : Int)] = cellsI u_10 ∧ 2 = u_10.length ∧ (1 : Int) ≤ (1 : Int) ∧ (1 : Int) ≤ (7 : Int) ∧ u_10.length ≤ 1000000) ∧ ckQ (Nat.beq (ofBytes a0 ++ (List.replicate u_2.toNat [AV.int .u8 0]).flatten).length (a0.length
 + (List.replicate u_2.toNat [AV.int .u8 0]).flatten.length)) (exI .i64 ((a0.length + u_2.toNat : Nat) : Int) fun u_11 => exW .i64 (u_11.tdiv 4) fun u_12 => ∃ u_13 : List UInt8, ∃ u_14 : List Int, Lf (GetElem?.getElem? (Blk.mk BK.grow true
 (ofBytes (u_9 ++ putM 1 u_10)) :: Blk.mk BK.exact true [.int .i64 (a1 : Int), .int .i64 f, .int .i64 a2, .int .i64 0, .int .i64 0, .int .i64 0, .int .i64 0, .int .i64 0, .lst 0 (cellsRM []) 0 7, .lst 0 a3 a4 1, .int .i64 a5, .int .i64 a6,
 .lst 0 a7 a8 1] :: Blk.mk BK.exact true [.bool a9, .bool false, .bool false, .bool a10, .bool a11] :: Blk.mk BK.grow (oldL 0 (List.replicate u_2.toNat [AV.int .u8 0]).flatten) (ofBytes a0 ++ (List.replicate u_2.toNat [AV.int .u8
 0]).flatten) :: a12) 0 = Option.some (Blk.mk BK.grow true (ofBytes u_13)) ∧ (u_9 ++ putM 1 u_10).length = u_13.length ∧ (u_9 ++ putM 1 u_10).length = u_13.length ∧ u_13.length ≤ 1000000 ∧ [AV.int .i64 u_12] = cellsI u_14 ∧ 1 = u_14.length
 ∧ (1 : Int) ≤ (2 : Int) ∧ (2 : Int) ≤ (7 : Int) ∧ u_14.length ≤ 1000000) ∧ ckQ (Nat.beq (ofBytes a0 ++ (List.replicate u_2.toNat [AV.int .u8 0]).flatten).length (a0.length + (List.replicate u_2.toNat [AV.int .u8 0]).flatten.length) && true
 && Nat.ble (0 + (a0.length + u_2.toNat) * 1) (a0.length + (List.replicate u_2.toNat [AV.int .u8 0]).flatten.length) && oneL (((ofBytes a0 ++ (List.replicate u_2.toNat [AV.int .u8 0]).flatten).drop 0).take ((a0.length + u_2.toNat) * 1)) &&
 true && Nat.ble ((a0.length + u_2.toNat) * 1) 1099511627776) (bif Nat.beq (a0.length + u_2.toNat) 0 then ckQ (Nat.beq (a0.length + u_2.toNat) 0) (ckQ (Nat.beq (ofBytes (u_13 ++ putM 2 u_14)).length (u_13 ++ putM 2 u_14).length && true)
 (true = true ∧ Q (.ret (.sl 0 (u_13 ++ putM 2 u_14).length 0 (u_13 ++ putM 2 u_14).length 1)) [Blk.mk BK.grow true (ofBytes (u_13 ++ putM 2 u_14))] {})) else ckQ (Nat.blt 0 (a0.length + u_2.toNat)) (ckQ (Nat.beq (ofBytes (u_13 ++ putM 2
 u_14)).length (u_13 ++ putM 2 u_14).length && true && Nat.beq (0 + (u_13 ++ putM 2 u_14).length * 1) (u_13 ++ putM 2 u_14).length && Nat.ble ((u_13 ++ putM 2 u_14).length + (a0.length + u_2.toNat)) 1099511627776 && Nat.ble (((u_13 ++ putM
 2 u_14).length + (a0.length + u_2.toNat)) * 1) 1099511627776) (((oldL 0 (((ofBytes a0 ++ (List.replicate u_2.toNat [AV.int .u8 0]).flatten).drop 0).take ((a0.length + u_2.toNat) * 1)) || oldL 1 (ofBytes (u_13 ++ putM 2 u_14) ++ ((ofBytes
 a0 ++ (List.replicate u_2.toNat [AV.int .u8 0]).flatten).drop 0).take ((a0.length + u_2.toNat) * 1))) && true) = true ∧ Q (.ret (.sl 0 ((u_13 ++ putM 2 u_14).length + (((ofBytes a0 ++ (List.replicate u_2.toNat [AV.int .u8 0]).flatten).drop
 0).take ((a0.length + u_2.toNat) * 1)).length) 0 ((u_13 ++ putM 2 u_14).length + (a0.length + u_2.toNat)) 1)) [Blk.mk BK.grow (oldL 0 (((ofBytes a0 ++ (List.replicate u_2.toNat [AV.int .u8 0]).flatten).drop 0).take ((a0.length + u_2.toNat)
 * 1))) (ofBytes (u_13 ++ putM 2 u_14) ++ ((ofBytes a0 ++ (List.replicate u_2.toNat [AV.int .u8 0]).flatten).drop 0).take ((a0.length + u_2.toNat) * 1))] {}))))))))
theorem vc_46s3 (bs : List UInt8) (f : Int) (Q : Out → List Blk → Gh → Prop) : goal_46s3 (lookV [(188523, .int .i64), (188524, .int .i64), (188525, .int .i64), (188538, .int .i64), (188539, .int .i64)]) (lookB [(192510, true)]) bs f Q = (∃ xs_0 : List Int, Lf ([AV.int .i64 f] = cellsI xs_0 ∧ 1 = xs_0.length ∧ (1 : Int) ≤ (4 : Int) ∧ (4 : Int) ≤ (7 : Int) ∧ 1 ≤ xs_0.length ∧ xs_0.length ≤ 1000000) ∧ tlC bs f Q (putM 4 xs_0) 3 0 [] 0 0 0 [] 0 false false false [] 129 203) := by kernel_rfl

def inv_46s4 (bs : List UInt8) (f a : Int) (lo : List Int) : LInv where
 α := Nat × List UInt8
 pre x := Lf (x.1 ≤ (pairsM lo).length ∧ x.2 = (putM 4 [f] ++ putM 4 [a] ++ prsBM ((pairsM lo).take x.1)))
 st x := ⟨mkT [(0, .sl 0 bs.length 0 bs.length 1), (3, .ptr 1 13 0), (5, .int .i64 1), (6, .ptr 2 5 0), (7, .sl 3 x.2.length 0 x.2.length 1), (83, .lst 0 (cellsPM (pairsM lo)) (pairsM lo).length 2), (84, .int .i64 ((pairsM lo).length : Nat)), (85, .int .i64 (x.1 : Nat))], [⟨.grow, true, ofBytes bs⟩, ⟨.exact, true, ctC ⟨4, f, a, 0, 0, 0, 0, 0, [], lo, 0, 0, []⟩⟩, ⟨.exact, true, b5 true false false true false⟩, ⟨.grow, true, ofBytes x.2⟩]⟩
 mu x := (pairsM lo).length - x.1
noncomputable def goal_46s4 (hv : Nat → Option Pa) (hb : Nat → Option Bool) (bs : List UInt8) (f a : Int) (lo : List Int) (Q : Out → List Blk → Gh → Prop) : Prop :=
 callx (e24 sm464 (fun i => bif Nat.beq i 46002 then some (fun _ => [[inv_46s4 bs f a lo]]) else none) hv hb) (wpx (e24 sm464 (fun i => bif Nat.beq i 46002 then some (fun _ => [[inv_46s4 bs f a lo]]) else none) hv hb) 1000) 46 [.sl 0 bs.length 0 bs.length 1, .agg (ctC ⟨4, f, a, 0, 0, 0, 0, 0, [], lo, 0, 0, []⟩)] [⟨.grow, true, ofBytes bs⟩] {} Q
abbrev zXH40 (ti : List Int) : AV := .lst 0 (cellsI ti) ti.length 1
abbrev zXH10 (f a : Int) (lo : List Int) : Blk := Blk.mk BK.exact true [.int .i64 4, .int .i64 f, .int .i64 a, .int .i64 0, .int .i64 0, .int .i64 0, .int .i64 0, .int .i64 0, .lst 0 (cellsRM []) 0 7, zXH40 lo, .int .i64 0, .int .i64 0, .lst 0 [] 0 1]
abbrev zXH24 : Blk := Blk.mk BK.exact true [.bool true, .bool false, .bool false, .bool true, .bool false]
abbrev zXH31 (x_5 : Nat × List UInt8) (lo : List Int) (f a : Int) : Prop := Lf (x_5.1 ≤ (pairsM lo).length ∧ x_5.2 = putM 4 [f] ++ putM 4 [a] ++ prsBM ((pairsM lo).take x_5.1))
abbrev zXH25 (f a : Int) (lo : List Int) : Prop := eqqQ [AV.int .i64 4, .int .i64 f, .int .i64 a, .int .i64 0, .int .i64 0, .int .i64 0, .int .i64 0, .int .i64 0, .lst 0 (cellsRM []) 0 7, zXH40 lo, .int .i64 0, .int .i64 0, .lst 0 [] 0 1]
abbrev zXH43 : Prop := eqqQ [AV.bool true, .bool false, .bool false, .bool true, .bool false]
abbrev zXH48 (xs_3 : List Int) : AV := .lst 0 (cellsPM (pairsM xs_3)) (pairsM xs_3).length 2
theorem vc_46s4 (bs : List UInt8) (f : Int) (a : Int) (lo : List Int) (Q : Out → List Blk → Gh → Prop) : goal_46s4 (lookV [(188500, .int .i64), (188504, .agg [.int .i64, .int .i64]), (188508, .int .i64), (188523, .int .i64), (188524, .int
 .i64), (188525, .int .i64), (188538, .int .i64), (188539, .int .i64)]) (lookB [(192510, true)]) bs f a lo Q = (∃ xs_0 : List Int, zXH5 f xs_0 ∧ ∃ bs_1 : List UInt8, ∃ xs_2 : List Int, Lf (GetElem?.getElem? [zXH2 bs, zXH10 f a lo, zXH24,
 zXH37 xs_0] 3 = Option.some (zXH2 bs_1) ∧ zXH36 xs_0 bs_1 ∧ zXH36 xs_0 bs_1 ∧ zXH13 bs_1 ∧ [AV.int .i64 a] = cellsI xs_2 ∧ zXH41 xs_2) ∧ ∃ xs_3 : List Int, Lf (cellsI lo = cellsI xs_3 ∧ lo.length = xs_3.length ∧ nacksM xs_3 = true) ∧ exI
 .i64 ((pairsM xs_3).length : Int) (fun n_4 => (∃ x_5 : Nat × List UInt8, zXH31 x_5 lo f a ∧ eqqQ (ofBytes bs) ∧ zXH25 f a lo ∧ zXH43 ∧ zXH27 bs_1 xs_2 = ofBytes x_5.2 ∧ zXH28 bs ∧ zXH42 ∧ zXH26 bs_1 xs_2 x_5 ∧ zXH48 xs_3 = zXH48 lo ∧ eqqQ
 (AV.int .i64 1) ∧ AV.int .i64 0 = zXH29 x_5 ∧ AV.int .i64 n_4 = AV.int .i64 ((pairsM lo).length : Int) ∧ zXH46 ∧ True) ∧ ∀ x_5 : Nat × List UInt8, zXH31 x_5 lo f a → bif decide ((x_5.1 : Int) < ((pairsM lo).length : Int)) then ckQ (Nat.blt
 (zXH49 x_5) (pairsM lo).length && true) (ckQ (Nat.ble (zXH49 x_5 * 2 + 2) (cellsPM (pairsM lo)).length) (∃ n_6 n_7, AV.agg (((cellsPM (pairsM lo)).drop (zXH49 x_5 * 2)).take 2) = AV.agg [.int .i64 n_6, .int .i64 n_7] ∧ ∃ bs_8 : List UInt8,
 ∃ xs_9 : List Int, ∃ k2_10 : BK, ∃ lf_11 : Bool, Lf (GetElem?.getElem? [zXH2 bs, zXH10 f a lo, zXH24, zXH34 x_5, Blk.mk BK.exact true [.int .i64 n_6, .int .i64 n_7]] 3 = Option.some (zXH2 bs_8) ∧ zXH54 x_5 bs_8 ∧ zXH54 x_5 bs_8 ∧ zXH13
 bs_8 ∧ GetElem?.getElem? [zXH2 bs, zXH10 f a lo, zXH24, zXH34 x_5, Blk.mk BK.exact true [.int .i64 n_6, .int .i64 n_7]] 4 = Option.some (Blk.mk k2_10 lf_11 (cellsI xs_9)) ∧ (3 : Nat) ≠ (4 : Nat) ∧ 2 = xs_9.length ∧ 2 = xs_9.length ∧ ((2 :
 Nat) = (1 : Nat) ∨ (2 : Nat) = (2 : Nat))) ∧ exW .i64 ((x_5.1 : Int) + 1) (fun n_12 => zXH32 ∧ ∃ y_13 : Nat × List UInt8, zXH31 y_13 lo f a ∧ (pairsM lo).length - y_13.1 < (pairsM lo).length - x_5.1 ∧ eqqQ (ofBytes bs) ∧ zXH25 f a lo ∧
 zXH43 ∧ ofBytes (bs_8 ++ putM 2 xs_9) = ofBytes y_13.2 ∧ zXH28 bs ∧ zXH42 ∧ AV.sl 3 (bs_8 ++ putM 2 xs_9).length 0 (bs_8 ++ putM 2 xs_9).length 1 = zXH30 y_13 ∧ eqqQ (zXH48 lo) ∧ eqqQ (AV.int .i64 1) ∧ AV.int .i64 n_12 = zXH29 y_13 ∧ eqqQ
 (AV.int .i64 ((pairsM lo).length : Int)) ∧ zXH46 ∧ True))) else tlC bs f Q x_5.2 4 a (cellsI lo) lo.length 0 0 [] 0 true true false [] 129 205)) := by kernel_rfl

noncomputable def goal_46s5 (hv : Nat → Option Pa) (hb : Nat → Option Bool) (bs : List UInt8) (f a : Int) (Q : Out → List Blk → Gh → Prop) : Prop :=
 callx (e24 sm46 (fun _ => none) hv hb) (wpx (e24 sm46 (fun _ => none) hv hb) 1000) 46 [.sl 0 bs.length 0 bs.length 1, .agg (ctC ⟨5, f, a, 0, 0, 0, 0, 0, [], [], 0, 0, []⟩)] [⟨.grow, true, ofBytes bs⟩] {} Q
theorem vc_46s5 (bs : List UInt8) (f : Int) (a : Int) (Q : Out → List Blk → Gh → Prop) : goal_46s5 (lookV [(188523, .int .i64), (188524, .int .i64), (188525, .int .i64), (188538, .int .i64), (188539, .int .i64)]) (lookB [(192510, true)]) bs f a Q = (∃ xs_0 : List Int, Lf ([AV.int .i64 f] = cellsI xs_0 ∧ 1 = xs_0.length ∧ (1 : Int) ≤ (4 : Int) ∧ (4 : Int) ≤ (7 : Int) ∧ 1 ≤ xs_0.length ∧ xs_0.length ≤ 1000000) ∧ ∃ bs_1 : List UInt8, ∃ xs_2 : List Int, Lf (GetElem?.getElem? [Blk.mk
 BK.grow true (ofBytes bs), Blk.mk BK.exact true [.int .i64 5, .int .i64 f, .int .i64 a, .int .i64 0, .int .i64 0, .int .i64 0, .int .i64 0, .int .i64 0, .lst 0 (cellsRM []) 0 7, .lst 0 [] 0 1, .int .i64 0, .int .i64 0, .lst 0 [] 0 1],
 Blk.mk BK.exact true [.bool true, .bool false, .bool false, .bool false, .bool false], Blk.mk BK.grow true (ofBytes (putM 4 xs_0))] 3 = Option.some (Blk.mk BK.grow true (ofBytes bs_1)) ∧ (putM 4 xs_0).length = bs_1.length ∧ (putM 4
 xs_0).length = bs_1.length ∧ bs_1.length ≤ 1000000 ∧ [AV.int .i64 a] = cellsI xs_2 ∧ 1 = xs_2.length ∧ (1 : Int) ≤ (4 : Int) ∧ (4 : Int) ≤ (7 : Int) ∧ xs_2.length ≤ 1000000) ∧ tlC bs f Q (bs_1 ++ putM 4 xs_2) 5 a [] 0 0 0 [] 0 true false
 false [] 129 206) := by kernel_rfl

noncomputable def goal_46s6 (hv : Nat → Option Pa) (hb : Nat → Option Bool) (bs : List UInt8) (f a ba ro : Int) (ti : List Int) (Q : Out → List Blk → Gh → Prop) : Prop :=
 callx (e24 sm46 (fun _ => none) hv hb) (wpx (e24 sm46 (fun _ => none) hv hb) 1000) 46 [.sl 0 bs.length 0 bs.length 1, .agg (ctC ⟨6, f, a, 0, 0, 0, 0, 0, [], [], ba, ro, ti⟩)] [⟨.grow, true, ofBytes bs⟩] {} Q
abbrev zXH7 (f a ba ro : Int) (ti : List Int) : Blk := Blk.mk BK.exact true [.int .i64 6, .int .i64 f, .int .i64 a, .int .i64 0, .int .i64 0, .int .i64 0, .int .i64 0, .int .i64 0, .lst 0 (cellsRM []) 0 7, .lst 0 [] 0 1, .int .i64 ba, .int .i64 ro, zXH40 ti]
abbrev zXH15 : Blk := Blk.mk BK.exact true [.bool true, .bool false, .bool false, .bool false, .bool true]
abbrev zXH44 (ba : Int) : Blk := Blk.mk BK.exact true [.int .i64 ba]
theorem vc_46s6 (bs : List UInt8) (f : Int) (a : Int) (ba : Int) (ro : Int) (ti : List Int) (Q : Out → List Blk → Gh → Prop) : goal_46s6 (lookV [(188523, .int .i64), (188524, .int .i64), (188525, .int .i64), (188538, .int .i64), (188539,
 .int .i64)]) (lookB [(192510, true)]) bs f a ba ro ti Q = (∃ xs_0 : List Int, zXH5 f xs_0 ∧ ∃ bs_1 : List UInt8, ∃ xs_2 : List Int, Lf (GetElem?.getElem? [zXH2 bs, zXH7 f a ba ro ti, zXH15, zXH37 xs_0] 3 = Option.some (zXH2 bs_1) ∧ zXH36
 xs_0 bs_1 ∧ zXH36 xs_0 bs_1 ∧ zXH13 bs_1 ∧ [AV.int .i64 a] = cellsI xs_2 ∧ zXH41 xs_2) ∧ ∃ bs_3 : List UInt8, ∃ xs_4 : List Int, ∃ k2_5 : BK, ∃ lf_6 : Bool, Lf (GetElem?.getElem? [zXH2 bs, zXH7 f a ba ro ti, zXH15, zXH52 bs_1 xs_2, zXH44
 ba] 3 = Option.some (zXH2 bs_3) ∧ zXH14 bs_1 xs_2 = bs_3.length ∧ zXH14 bs_1 xs_2 = bs_3.length ∧ zXH13 bs_3 ∧ GetElem?.getElem? [zXH2 bs, zXH7 f a ba ro ti, zXH15, zXH52 bs_1 xs_2, zXH44 ba] 4 = Option.some (Blk.mk k2_5 lf_6 (cellsI
 xs_4)) ∧ (3 : Nat) ≠ (4 : Nat) ∧ 1 = xs_4.length ∧ 1 = xs_4.length ∧ ((1 : Nat) = (1 : Nat) ∨ (1 : Nat) = (2 : Nat))) ∧ ckQ (eqAVL [.int .i64 ro] [.int .i64 ro] && true) (ckQ (eqAVL [zXH40 ti] [zXH40 ti] && true) (∃ bs_7 : List UInt8, ∃
 xs_8 : List Int, Lf (GetElem?.getElem? [zXH2 bs, zXH7 f a ba ro ti, zXH15, Blk.mk BK.grow true (ofBytes (bs_3 ++ putM 2 xs_4)), zXH44 ba] 3 = Option.some (zXH2 bs_7) ∧ (bs_3 ++ putM 2 xs_4).length = bs_7.length ∧ (bs_3 ++ putM 2
 xs_4).length = bs_7.length ∧ bs_7.length ≤ 10000 ∧ cellsI ti = cellsI xs_8 ∧ ti.length = xs_8.length ∧ (stepsRM xs_8).2.2 = true) ∧ tlC bs f Q (bs_7 ++ arrM xs_8 ro) 6 a [] 0 ba ro (cellsI ti) ti.length true false true [zXH44 ba] 143
 205))) := by kernel_rfl

end Go.Proofs.YtafchcmemeinlaaDoor
