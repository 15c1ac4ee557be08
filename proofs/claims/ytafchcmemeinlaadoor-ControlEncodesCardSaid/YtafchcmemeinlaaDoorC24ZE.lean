/-
  Chapter 24: Bend.Of, the changes that append nothing to a packet's lists.
-/
import Derived.Test.YtafchcmemeinlaaDoorC24XC
import Derived.Test.YtafchcmemeinlaaDoorC24QR
set_option linter.unusedSimpArgs false
set_option linter.unusedVariables false
set_option linter.unusedSectionVars false
namespace Go.Proofs.YtafchcmemeinlaaDoor
open Go.RowKit
set_option maxRecDepth 1000000

def byeM (n : Int) : List AV := [.int .i64 3, .int .i64 n, .int .i64 0, .int .i64 0, .int .i64 0, .int .i64 0, .int .i64 0, .int .i64 0, .nils, .nils, .int .i64 0, .int .i64 0, .nils]
def byesM (n : Int) (m : Nat) : List AV := (List.replicate m (byeM n)).flatten
def boxM (what at' n : Int) : List AV := [.int .u8 what, .int .u8 at', .int .i64 n]
def lenM (p q : List Ctl) : Nat := p.length + 1 + q.length
def okB (c c' : Ctl) : Prop := c'.rs.length ≤ c.rs.length + 8 ∧ c'.lo.length ≤ c.lo.length + 1 ∧ c'.ti.length ≤ c.ti.length + 1
def dead6 : List Blk := [deadB, deadB, deadB, deadB, deadB, deadB]
def inv_30a (ds : List Blk) (what at' n : Int) (p q : List Ctl) (c : Ctl) : LInv where
 α := Nat
 pre x := Lf (x = 0)
 st x := ⟨mkT [(2, .ptr 0 3 0), (5, .sl 2 (13 * lenM p q) 0 (lenM p q) 13), (6, .ptr 2 (13 * lenM p q) (13 * p.length))], [⟨.exact, true, boxM what at' n⟩, deadB, ⟨.grow, true, cellsCM (p ++ c :: q)⟩] ++ ds⟩
 mu _ := 0
def inv_30b (what at' n : Int) (p q : List Ctl) (c : Ctl) : List LInv := [
 { α := Ctl × Nat, pre := fun x => Lf (okB c x.1 ∧ x.2 ≤ 9), st := fun x => ⟨mkT [(5, .sl 2 (13 * (lenM p q + x.2)) 0 (lenM p q + x.2) 13)], [⟨.exact, true, boxM what at' n⟩, deadB, ⟨.grow, true, cellsCM (p ++ x.1 :: q) ++ byesM n x.2⟩] ++ dead6⟩, mu := fun _ => 0 },
 { α := Nat, pre := fun x => Lf (x = 0), st := fun x => ⟨mkT [(5, .sl 2 (13 * lenM p q) 13 (p.length + q.length) 13)], [⟨.exact, true, boxM what at' n⟩, deadB, ⟨.grow, true, cellsCM (p ++ c :: q)⟩] ++ dead6⟩, mu := fun _ => 0 }]
def inv_30c (what at' n : Int) (p q : List Ctl) (c : Ctl) : LInv where
 α := Nat
 pre m := Lf (m ≤ 9)
 st m := ⟨mkT [(2, .ptr 0 3 0), (5, .sl 2 (13 * (lenM p q + m)) 0 (lenM p q + m) 13)], [⟨.exact, true, boxM what at' n⟩, deadB, ⟨.grow, true, cellsCM (p ++ c :: q) ++ byesM n m⟩] ++ dead6⟩
 mu m := 9 - m
noncomputable def env_30 (hv : Nat → Option Pa) (hb : Nat → Option Bool) (what at' n : Int) (p q : List Ctl) (c : Ctl) : Env := { e24 sm0 (fun i => bif Nat.beq i 1000122911 then some (fun _ => [[inv_30a [deadB, deadB] what at' n p q c]]) else bif Nat.beq i 1000122920 then some (fun _ => [[inv_30a [deadB, deadB, deadB, deadB] what at' n p q c]]) else bif Nat.beq i 1000122929 then some (fun _ => [[inv_30a dead6 what at' n p q c]]) else bif Nat.beq i 1000123045 then some (fun _ => [inv_30b what at' n p q c]) else bif Nat.beq i 30001 then some (fun _ => [[inv_30c what at' n p q c]]) else none) hv hb with hz := fun k => [122908, 122917, 122926, 123025].any (Nat.beq k) }
noncomputable def goal_30 (hv : Nat → Option Pa) (hb : Nat → Option Bool) (what at' n : Int) (t : Nat) (p q : List Ctl) (c : Ctl) (Q : Out → List Blk → Gh → Prop) : Prop :=
 callx (env_30 hv hb what at' n p q c) (wpx (env_30 hv hb what at' n p q c) 1000) 30 [.agg (boxM what at' n), .lst t (cellsCM (p ++ c :: q)) (lenM p q) 13] [] {} Q
def vc_30_1 (p : List Ctl) (q : List Ctl) (c : Ctl) : Prop := (
((([] : (List AV)) = []) ∧
 ((([] : (List AV)) = []) ∧
 (((AV.sl (2 : Nat) ((0 : Nat) + (List.length (cellsCM (p ++ (c :: q))))) (0 : Nat) ((0 : Nat) + (lenM p q)) (13 : Nat)) = (AV.sl (2 : Nat) ((13 : Nat) * (lenM p q)) (0 : Nat) (lenM p q) (13 : Nat))) ∧
 (((AV.ptr (0 : Nat) (3 : Nat) (0 : Nat)) = (AV.ptr (0 : Nat) (3 : Nat) (0 : Nat))) ∧
 (((AV.ptr (2 : Nat) ((0 : Nat) + (List.length (cellsCM (p ++ (c :: q))))) ((0 : Nat) + ((Int.toNat (Nat.cast (List.length p) : Int)) * (13 : Nat)))) = (AV.ptr (2 : Nat) ((13 : Nat) * (lenM p q)) ((13 : Nat) * (List.length p)))) ∧
 True))))))
def vc_30_2 (p : List Ctl) (q : List Ctl) : Prop := (
((([] : (List AV)) = []) ∧
 ((([] : (List AV)) = []) ∧
 ((([] : (List AV)) = []) ∧
 ((([] : (List AV)) = []) ∧
 (((AV.sl (2 : Nat) ((13 : Nat) * (lenM p q)) (0 : Nat) (lenM p q) (13 : Nat)) = (AV.sl (2 : Nat) ((13 : Nat) * (lenM p q)) (0 : Nat) (lenM p q) (13 : Nat))) ∧
 (((AV.ptr (0 : Nat) (3 : Nat) (0 : Nat)) = (AV.ptr (0 : Nat) (3 : Nat) (0 : Nat))) ∧
 (((AV.ptr (2 : Nat) ((13 : Nat) * (lenM p q)) ((13 : Nat) * (List.length p))) = (AV.ptr (2 : Nat) ((13 : Nat) * (lenM p q)) ((13 : Nat) * (List.length p)))) ∧
 True))))))))
def vc_30_3 (p : List Ctl) (q : List Ctl) : Prop := (
((([] : (List AV)) = []) ∧
 ((([] : (List AV)) = []) ∧
 (vc_30_2 p q))))
def vc_30_4 (p : List Ctl) (q : List Ctl) : Prop := (
((([] : (List AV)) = []) ∧
 ((([] : (List AV)) = []) ∧
 ((([] : (List AV)) = []) ∧
 ((([] : (List AV)) = []) ∧
 ((([] : (List AV)) = []) ∧
 ((([] : (List AV)) = []) ∧
 (((AV.sl (2 : Nat) ((13 : Nat) * (lenM p q)) (0 : Nat) (lenM p q) (13 : Nat)) = (AV.sl (2 : Nat) ((13 : Nat) * (lenM p q)) (13 : Nat) ((List.length p) + (List.length q)) (13 : Nat))) ∧
 True))))))))
abbrev zZE2 (p : List Ctl) (c : Ctl) (q : List Ctl) : List AV := cellsCM (p ++ c :: q)
abbrev zZE5 (p : List Ctl) (c : Ctl) (q : List Ctl) : Bool := Nat.beq ([] ++ zZE2 p c q).length (0 + (zZE2 p c q).length)
abbrev zZE7 : Blk := Blk.mk BK.exact true []
abbrev zZE11 (p : List Ctl) : Nat := 0 + (p.length : Int).toNat * 13 + 8
abbrev zZE6 : Prop := True ∧ (0 : Nat) = (0 : Nat)
abbrev zZE3 (what at' n : Int) : Prop := eqqQ [AV.int .u8 what, .int .u8 at', .int .i64 n]
abbrev zZE0 : Prop := ([] : List AV) = []
abbrev zZE1 (p : List Ctl) (c : Ctl) (q : List Ctl) : Bool := Nat.beq (cellsCM (p ++ c :: q)).length (13 * lenM p q)
abbrev zZE10 (c : Ctl) (x_7 : Ctl × Nat) : Prop := Lf (okB c x_7.1 ∧ x_7.2 ≤ 9)
abbrev zZE9 (p : List Ctl) (x_7 : Ctl × Nat) (q : List Ctl) (n : Int) : List AV := cellsCM (p ++ x_7.1 :: q) ++ byesM n x_7.2
abbrev zZE4 (p q : List Ctl) (x_7 : Ctl × Nat) : Prop := zZE0 ∧ zZE0 ∧ zZE0 ∧ zZE0 ∧ zZE0 ∧ zZE0 ∧ AV.sl 2 (13 * lenM p q) 0 (lenM p q) 13 = AV.sl 2 (13 * (lenM p q + x_7.2)) 0 (lenM p q + x_7.2) 13 ∧ True
abbrev zZE8 (p q : List Ctl) (x_7 : Ctl × Nat) : AV := .sl 2 (13 * (lenM p q + x_7.2)) 0 (lenM p q + x_7.2) 13
abbrev zZE12 (p q : List Ctl) (x_7 : Nat) : AV := .sl 2 (13 * (lenM p q + x_7)) 0 (lenM p q + x_7) 13
theorem vc_30 (what : Int) (at' : Int) (n : Int) (t : Nat) (p : List Ctl) (q : List Ctl) (c : Ctl) (Q : Out → List Blk → Gh → Prop) : goal_30 (lookV [(122891, .int .i64), (122897, .int .i64), (122899, .int .i64), (122900, .lit (.int .i64
 (p.length : Int))), (122907, .lit (.lst 0 (cellsRM c.rs) c.rs.length 7)), (122916, .lit (.lst 0 (cellsI c.lo) c.lo.length 1)), (122925, .lit (.lst 0 (cellsI c.ti) c.ti.length 1)), (122931, .int .u8), (122966, .lit (.bool false)), (122980,
 .lit (.bool false)), (122993, .lit (.bool false)), (123019, .int .i64), (123028, .lit (.bool false))]) (lookB [(122889, false)]) what at' n t p q c Q = (ckQ (Nat.beq (zZE2 p c q).length (lenM p q * 13) && oneL (zZE2 p c q) && true &&
 Nat.ble (lenM p q * 152) 1099511627776) (ckQ (Nat.blt 0 (lenM p q)) (ckQ (Nat.ble (0 + lenM p q) 1099511627776 && Nat.ble ((0 + lenM p q) * 152) 1099511627776) (ckQ (zZE5 p c q) (exI .i64 ((0 + lenM p q : Nat) : Int) (fun n_0 => bif n_0 ==
 0 then Q (.ret (.sl 2 (0 + (zZE2 p c q).length) 0 (0 + lenM p q) 13)) [Blk.mk BK.exact true (boxM what at' n), zZE7, Blk.mk BK.grow (oldL 0 ([] ++ zZE2 p c q)) ([] ++ zZE2 p c q)] {} else exW .i64 at' (fun n_1 => ckQ (zZE5 p c q) (exI .i64
 ((0 + lenM p q : Nat) : Int) (fun n_2 => ckQ (n_2 != 0 && true) (AV.int .i64 (n_1.tmod n_2) = AV.int .i64 (p.length : Int) ∧ ckQ (Nat.blt (p.length : Int).toNat (0 + lenM p q) && zZE5 p c q && true) (ckQ (zZE5 p c q) (ckQ (zZE5 p c q) (ckQ
 (zZE5 p c q && Nat.blt (zZE11 p) (0 + (zZE2 p c q).length)) (((([] ++ zZE2 p c q).drop (zZE11 p)).take 1).getD 0 AV.undef = AV.lst 0 (cellsRM c.9) c.9.length 7 ∧ ckQ (Nat.beq (cellsRM c.9).length (c.9.length * 7) && oneL (cellsRM c.9) &&
 true && Nat.ble (c.9.length * 56) 1099511627776) (bif Nat.beq c.9.length 0 then ckQ (Nat.beq c.9.length 0) (ckQ (zZE5 p c q) (ckQ (zZE5 p c q) (ckQ (zZE5 p c q && Nat.ble (zZE11 p + 1) (0 + (zZE2 p c q).length) && true && true && true)
 (zZE6 ∧ ∃ x_3 : Nat, Lf (x_3 = 0) ∧ zZE3 what at' n ∧ zZE0 ∧ ckQ ((oldL 0 ([] ++ zZE2 p c q) && true) == true) (setRange ([] ++ zZE2 p c q) (zZE11 p) [.lst 0 [] 0 7] = zZE2 p c q ∧ vc_30_1 p q c))))) else ckQ (Nat.blt 0 c.9.length) (ckQ
 (Nat.ble (0 + c.9.length) 1099511627776 && Nat.ble ((0 + c.9.length) * 56) 1099511627776) (ckQ (Nat.beq ([] ++ cellsRM c.9).length (0 + (cellsRM c.9).length) && Nat.ble (0 + (0 + c.9.length) * 7) (0 + (cellsRM c.9).length) && true && oldL
 0 ([] ++ cellsRM c.9) && noYL ([] ++ cellsRM c.9) && true && ((oldL 0 ([] ++ zZE2 p c q) || norL 4 ([] ++ zZE2 p c q)) && true)) (ckQ (zZE5 p c q) (ckQ (zZE5 p c q) (ckQ (zZE5 p c q && Nat.ble (zZE11 p + 1) (0 + (zZE2 p c q).length) &&
 true && true && true) (zZE6 ∧ ∃ x_3 : Nat, Lf (x_3 = 0) ∧ zZE3 what at' n ∧ zZE0 ∧ ckQ ((oldL 0 ([] ++ zZE2 p c q) && true) == true) (setRange ([] ++ zZE2 p c q) (zZE11 p) [.lst 0 ((([] ++ cellsRM c.9).drop 0).take ((0 + c.9.length) * 7))
 (0 + c.9.length) 7] = zZE2 p c q ∧ vc_30_1 p q c))))))))))) ∧ ∀ x_3 : Nat, Lf (x_3 = 0) → ckQ (zZE1 p c q) (ckQ (zZE1 p c q) (ckQ (zZE1 p c q && Nat.blt (13 * p.length + 9) (13 * lenM p q)) ((((zZE2 p c q).drop (13 * p.length + 9)).take
 1).getD 0 AV.undef = AV.lst 0 (cellsI c.10) c.10.length 1 ∧ ckQ (Nat.beq (cellsI c.10).length (c.10.length * 1) && oneL (cellsI c.10) && true && Nat.ble (c.10.length * 8) 1099511627776) (bif Nat.beq c.10.length 0 then ckQ (Nat.beq
 c.10.length 0) (ckQ (zZE1 p c q) (ckQ (zZE1 p c q) (ckQ (zZE1 p c q && Nat.ble (13 * p.length + 9 + 1) (13 * lenM p q) && true && true && true) (zZE6 ∧ ∃ x_4 : Nat, Lf (x_4 = 0) ∧ zZE3 what at' n ∧ zZE0 ∧ setRange (zZE2 p c q) (13 *
 p.length + 9) [.lst 0 [] 0 1] = zZE2 p c q ∧ vc_30_2 p q)))) else ckQ (Nat.blt 0 c.10.length) (ckQ (Nat.ble (0 + c.10.length) 1099511627776 && Nat.ble ((0 + c.10.length) * 8) 1099511627776) (ckQ (Nat.beq ([] ++ cellsI c.10).length (0 +
 (cellsI c.10).length) && Nat.ble (0 + (0 + c.10.length) * 1) (0 + (cellsI c.10).length) && true && oldL 0 ([] ++ cellsI c.10) && noYL ([] ++ cellsI c.10) && true && true) (ckQ (zZE1 p c q) (ckQ (zZE1 p c q) (ckQ (zZE1 p c q && Nat.ble (13
 * p.length + 9 + 1) (13 * lenM p q) && true && true && true) (zZE6 ∧ ∃ x_4 : Nat, Lf (x_4 = 0) ∧ zZE3 what at' n ∧ zZE0 ∧ setRange (zZE2 p c q) (13 * p.length + 9) [.lst 0 ((([] ++ cellsI c.10).drop 0).take ((0 + c.10.length) * 1)) (0 +
 c.10.length) 1] = zZE2 p c q ∧ vc_30_2 p q)))))))))) ∧ ∀ x_4 : Nat, Lf (x_4 = 0) → ckQ (zZE1 p c q) (ckQ (zZE1 p c q) (ckQ (zZE1 p c q && Nat.blt (13 * p.length + 12) (13 * lenM p q)) ((((zZE2 p c q).drop (13 * p.length + 12)).take 1).getD
 0 AV.undef = AV.lst 0 (cellsI c.13) c.13.length 1 ∧ ckQ (Nat.beq (cellsI c.13).length (c.13.length * 1) && oneL (cellsI c.13) && true && Nat.ble (c.13.length * 8) 1099511627776) (bif Nat.beq c.13.length 0 then ckQ (Nat.beq c.13.length 0)
 (ckQ (zZE1 p c q) (ckQ (zZE1 p c q) (ckQ (zZE1 p c q && Nat.ble (13 * p.length + 12 + 1) (13 * lenM p q) && true && true && true) (zZE6 ∧ ∃ x_5 : Nat, Lf (x_5 = 0) ∧ zZE3 what at' n ∧ zZE0 ∧ setRange (zZE2 p c q) (13 * p.length + 12) [.lst
 0 [] 0 1] = zZE2 p c q ∧ vc_30_3 p q)))) else ckQ (Nat.blt 0 c.13.length) (ckQ (Nat.ble (0 + c.13.length) 1099511627776 && Nat.ble ((0 + c.13.length) * 8) 1099511627776) (ckQ (Nat.beq ([] ++ cellsI c.13).length (0 + (cellsI c.13).length)
 && Nat.ble (0 + (0 + c.13.length) * 1) (0 + (cellsI c.13).length) && true && oldL 0 ([] ++ cellsI c.13) && noYL ([] ++ cellsI c.13) && true && true) (ckQ (zZE1 p c q) (ckQ (zZE1 p c q) (ckQ (zZE1 p c q && Nat.ble (13 * p.length + 12 + 1)
 (13 * lenM p q) && true && true && true) (zZE6 ∧ ∃ x_5 : Nat, Lf (x_5 = 0) ∧ zZE3 what at' n ∧ zZE0 ∧ setRange (zZE2 p c q) (13 * p.length + 12) [.lst 0 ((([] ++ cellsI c.13).drop 0).take ((0 + c.13.length) * 1)) (0 + c.13.length) 1] =
 zZE2 p c q ∧ vc_30_3 p q)))))))))) ∧ ∀ x_5 : Nat, Lf (x_5 = 0) → exI .u8 (what.tmod 12) (fun n_6 => bif n_6 == 0 then ckQ (zZE1 p c q) (ckQ (zZE1 p c q) (ckQ (zZE1 p c q && Nat.ble (13 * p.length + 0 + 1) (13 * lenM p q) && true && true &&
 true) (zZE6 ∧ ((∃ x_7 : Ctl × Nat, zZE10 c x_7 ∧ zZE3 what at' n ∧ zZE0 ∧ setRange (zZE2 p c q) (13 * p.length + 0) [.int .i64 n] = zZE9 p x_7 q n ∧ zZE4 p q x_7) ∨ ∃ x_7 : Nat, Lf (x_7 = 0) ∧ zZE3 what at' n ∧ zZE0 ∧ setRange (zZE2 p c q)
 (13 * p.length + 0) [.int .i64 n] = zZE2 p c q ∧ vc_30_4 p q)))) else bif n_6 == 1 then ckQ (zZE1 p c q) (ckQ (zZE1 p c q) (ckQ (zZE1 p c q && Nat.ble (13 * p.length + 1 + 1) (13 * lenM p q) && true && true && true) (zZE6 ∧ ((∃ x_7 : Ctl ×
 Nat, zZE10 c x_7 ∧ zZE3 what at' n ∧ zZE0 ∧ setRange (zZE2 p c q) (13 * p.length + 1) [.int .i64 n] = zZE9 p x_7 q n ∧ zZE4 p q x_7) ∨ ∃ x_7 : Nat, Lf (x_7 = 0) ∧ zZE3 what at' n ∧ zZE0 ∧ setRange (zZE2 p c q) (13 * p.length + 1) [.int
 .i64 n] = zZE2 p c q ∧ vc_30_4 p q)))) else bif n_6 == 2 then ckQ (zZE1 p c q) (ckQ (zZE1 p c q) (ckQ (zZE1 p c q && Nat.ble (13 * p.length + 2 + 1) (13 * lenM p q) && true && true && true) (zZE6 ∧ ((∃ x_7 : Ctl × Nat, zZE10 c x_7 ∧ zZE3
 what at' n ∧ zZE0 ∧ setRange (zZE2 p c q) (13 * p.length + 2) [.int .i64 n] = zZE9 p x_7 q n ∧ zZE4 p q x_7) ∨ ∃ x_7 : Nat, Lf (x_7 = 0) ∧ zZE3 what at' n ∧ zZE0 ∧ setRange (zZE2 p c q) (13 * p.length + 2) [.int .i64 n] = zZE2 p c q ∧
 vc_30_4 p q)))) else bif n_6 == 3 then ckQ (zZE1 p c q) (ckQ (zZE1 p c q) (ckQ (zZE1 p c q && Nat.ble (13 * p.length + 7 + 1) (13 * lenM p q) && true && true && true) (zZE6 ∧ ((∃ x_7 : Ctl × Nat, zZE10 c x_7 ∧ zZE3 what at' n ∧ zZE0 ∧
 setRange (zZE2 p c q) (13 * p.length + 7) [.int .i64 n] = zZE9 p x_7 q n ∧ zZE4 p q x_7) ∨ ∃ x_7 : Nat, Lf (x_7 = 0) ∧ zZE3 what at' n ∧ zZE0 ∧ setRange (zZE2 p c q) (13 * p.length + 7) [.int .i64 n] = zZE2 p c q ∧ vc_30_4 p q)))) else
 AV.bool (n_6 == 4) = AV.bool false ∧ AV.bool (n_6 == 5) = AV.bool false ∧ AV.bool (n_6 == 6) = AV.bool false ∧ bif n_6 == 7 then ckQ (zZE1 p c q) (ckQ (zZE1 p c q) (ckQ (zZE1 p c q && Nat.ble (13 * p.length + 11 + 1) (13 * lenM p q) &&
 true && true && true) (zZE6 ∧ ((∃ x_7 : Ctl × Nat, zZE10 c x_7 ∧ zZE3 what at' n ∧ zZE0 ∧ setRange (zZE2 p c q) (13 * p.length + 11) [.int .i64 n] = zZE9 p x_7 q n ∧ zZE4 p q x_7) ∨ ∃ x_7 : Nat, Lf (x_7 = 0) ∧ zZE3 what at' n ∧ zZE0 ∧
 setRange (zZE2 p c q) (13 * p.length + 11) [.int .i64 n] = zZE2 p c q ∧ vc_30_4 p q)))) else bif n_6 == 8 then ckQ (Nat.ble 1 (lenM p q) && Nat.ble (lenM p q) (lenM p q) && zZE1 p c q && true) (zZE6 ∧ ((∃ x_7 : Ctl × Nat, zZE10 c x_7 ∧
 zZE3 what at' n ∧ zZE0 ∧ zZE2 p c q = zZE9 p x_7 q n ∧ zZE0 ∧ zZE0 ∧ zZE0 ∧ zZE0 ∧ zZE0 ∧ zZE0 ∧ AV.sl 2 (13 * lenM p q) 13 (lenM p q - 1) 13 = zZE8 p q x_7 ∧ True) ∨ ∃ x_7 : Nat, Lf (x_7 = 0) ∧ zZE3 what at' n ∧ zZE0 ∧ eqqQ (zZE2 p c q) ∧
 zZE0 ∧ zZE0 ∧ zZE0 ∧ zZE0 ∧ zZE0 ∧ zZE0 ∧ AV.sl 2 (13 * lenM p q) 13 (lenM p q - 1) 13 = AV.sl 2 (13 * lenM p q) 13 (p.length + q.length) 13 ∧ True)) else bif n_6 == 9 then (∃ x_7 : Nat, Lf (x_7 ≤ 9) ∧ zZE3 what at' n ∧ zZE0 ∧ zZE2 p c q =
 zZE2 p c q ++ byesM n x_7 ∧ zZE0 ∧ zZE0 ∧ zZE0 ∧ zZE0 ∧ zZE0 ∧ zZE0 ∧ AV.sl 2 (13 * lenM p q) 0 (lenM p q) 13 = zZE12 p q x_7 ∧ eqqQ (AV.ptr 0 3 0) ∧ True) ∧ ∀ x_7 : Nat, Lf (x_7 ≤ 9) → ckQ (Nat.beq (zZE2 p c q ++ byesM n x_7).length (13 *
 (lenM p q + x_7))) (exI .i64 ((lenM p q + x_7 : Nat) : Int) (fun n_8 => bif decide (n_8 < 9) then ckQ (Nat.beq (zZE2 p c q ++ byesM n x_7).length (13 * (lenM p q + x_7)) && true && Nat.beq (0 + (lenM p q + x_7) * 13) (13 * (lenM p q +
 x_7)) && Nat.ble (lenM p q + x_7 + 1) 1099511627776 && Nat.ble ((lenM p q + x_7 + 1) * 152) 1099511627776) (zZE6 ∧ ∃ y_9 : Nat, Lf (y_9 ≤ 9) ∧ 9 - y_9 < 9 - x_7 ∧ zZE3 what at' n ∧ zZE0 ∧ zZE2 p c q ++ byesM n x_7 ++ [AV.int .i64 3, .int
 .i64 n, .int .i64 0, .int .i64 0, .int .i64 0, .int .i64 0, .int .i64 0, .int .i64 0, .nils, .nils, .int .i64 0, .int .i64 0, .nils] = zZE2 p c q ++ byesM n y_9 ∧ zZE0 ∧ zZE0 ∧ zZE0 ∧ zZE0 ∧ zZE0 ∧ zZE0 ∧ AV.sl 2 (13 * (lenM p q + x_7) +
 13) 0 (lenM p q + x_7 + 1) 13 = zZE12 p q y_9 ∧ eqqQ (AV.ptr 0 3 0) ∧ True) else zZE6 ∧ ((∃ x_9 : Ctl × Nat, zZE10 c x_9 ∧ zZE3 what at' n ∧ zZE0 ∧ zZE2 p c q ++ byesM n x_7 = zZE9 p x_9 q n ∧ zZE0 ∧ zZE0 ∧ zZE0 ∧ zZE0 ∧ zZE0 ∧ zZE0 ∧
 zZE12 p q x_7 = zZE8 p q x_9 ∧ True) ∨ ∃ x_9 : Nat, Lf (x_9 = 0) ∧ zZE3 what at' n ∧ zZE0 ∧ zZE2 p c q ++ byesM n x_7 = zZE2 p c q ∧ zZE0 ∧ zZE0 ∧ zZE0 ∧ zZE0 ∧ zZE0 ∧ zZE0 ∧ zZE12 p q x_7 = AV.sl 2 (13 * lenM p q) 13 (p.length + q.length)
 13 ∧ True))) else AV.bool (n_6 == 10) = AV.bool false ∧ ckQ (zZE1 p c q) (ckQ (zZE1 p c q) (ckQ (zZE1 p c q && Nat.ble (13 * p.length + 10 + 1) (13 * lenM p q) && true && true && true) (zZE6 ∧ ((∃ x_7 : Ctl × Nat, zZE10 c x_7 ∧ zZE3 what
 at' n ∧ zZE0 ∧ setRange (zZE2 p c q) (13 * p.length + 10) [.int .i64 n] = zZE9 p x_7 q n ∧ zZE4 p q x_7) ∨ ∃ x_7 : Nat, Lf (x_7 = 0) ∧ zZE3 what at' n ∧ zZE0 ∧ setRange (zZE2 p c q) (13 * p.length + 10) [.int .i64 n] = zZE2 p c q ∧ vc_30_4
 p q))))) ∧ (∀ x_6 : Ctl × Nat, zZE10 c x_6 → Q (.ret (.sl 2 (13 * (lenM p q + x_6.2)) 0 (lenM p q + x_6.2) 13)) [Blk.mk BK.exact true (boxM what at' n), zZE7, Blk.mk BK.grow true (zZE9 p x_6 q n), zZE7, zZE7, zZE7, zZE7, zZE7, zZE7] {}) ∧
 ∀ x_6 : Nat, Lf (x_6 = 0) → Q (.ret (.sl 2 (13 * lenM p q) 13 (p.length + q.length) 13)) [Blk.mk BK.exact true (boxM what at' n), zZE7, Blk.mk BK.grow true (zZE2 p c q), zZE7, zZE7, zZE7, zZE7, zZE7, zZE7] {}))))))))))) := by kernel_rfl

theorem oldL_add : ∀ (a b : List AV), oldL 0 (a ++ b) = (oldL 0 a && oldL 0 b)
 | [], b => by simp [oldL]
 | x :: a, b => by rw [List.cons_append, oldL, oldL, oldL_add a b, Bool.and_assoc]
theorem noYL_add : ∀ (a b : List AV), noYL (a ++ b) = (noYL a && noYL b)
 | [], b => by simp [noYL]
 | x :: a, b => by rw [List.cons_append, noYL, noYL, noYL_add a b, Bool.and_assoc]
theorem oneL_add : ∀ (a b : List AV), oneL (a ++ b) = (oneL a && oneL b)
 | [], b => by simp [oneL]
 | x :: a, b => by simp only [List.cons_append, oneL, oneL_add a b, Bool.and_assoc]
theorem fl_C : ∀ l : List Ctl, oldL 0 (cellsCM l) = true ∧ noYL (cellsCM l) = true ∧ oneL (cellsCM l) = true
 | [] => ⟨rfl, rfl, rfl⟩
 | c :: l => by
  obtain ⟨h1, h2, h3⟩ := fl_C l
  have e : cellsCM (c :: l) = ctC c ++ cellsCM l := rfl
  rw [e, oldL_add, noYL_add, oneL_add, h1, h2, h3]
  exact ⟨rfl, rfl, rfl⟩
theorem fl_R : ∀ l : List Rc, oldL 0 (cellsRM l) = true ∧ noYL (cellsRM l) = true ∧ oneL (cellsRM l) = true
 | [] => ⟨rfl, rfl, rfl⟩
 | c :: l => by
  obtain ⟨h1, h2, h3⟩ := fl_R l
  have e : cellsRM (c :: l) = rcCM c ++ cellsRM l := rfl
  rw [e, oldL_add, noYL_add, oneL_add, h1, h2, h3]
  exact ⟨rfl, rfl, rfl⟩
theorem fl_I : ∀ l : List Int, oldL 0 (cellsI l) = true ∧ noYL (cellsI l) = true ∧ oneL (cellsI l) = true
 | [] => ⟨rfl, rfl, rfl⟩
 | c :: l => by
  obtain ⟨h1, h2, h3⟩ := fl_I l
  have e : cellsI (c :: l) = [AV.int .i64 c] ++ cellsI l := rfl
  rw [e, oldL_add, noYL_add, oneL_add, h1, h2, h3]
  exact ⟨rfl, rfl, rfl⟩
theorem len_pq (p q : List Ctl) (c : Ctl) : (cellsCM (p ++ c :: q)).length = 13 * lenM p q := by
 rw [cellsC_len, List.length_append, List.length_cons, lenM]; omega
theorem at_pq (p q : List Ctl) (c : Ctl) : cellsCM (p ++ c :: q) = cellsCM p ++ (ctC c ++ cellsCM q) := by simp [cellsCM]
theorem ld_pq (p q : List Ctl) (c : Ctl) (k : Nat) (hk : k < 13) : (List.take 1 (List.drop (13 * p.length + k) (cellsCM (p ++ c :: q)))).getD 0 AV.undef = (ctC c).getD k AV.undef := by
 rw [at_pq, ← cellsC_len, ← List.drop_drop, List.drop_left, List.getD_eq_getElem?_getD, List.getD_eq_getElem?_getD, List.getElem?_take_of_lt (by omega), List.getElem?_drop, Nat.add_zero, List.getElem?_append_left (by rw [ctC_len]; exact hk)]
theorem st_pq (p q : List Ctl) (c c' : Ctl) (k : Nat) (v : AV) (hk : k < 13) (h : setRange (ctC c) k [v] = ctC c') : setRange (cellsCM (p ++ c :: q)) (13 * p.length + k) [v] = cellsCM (p ++ c' :: q) := by
 have hl := ctC_len c
 rw [at_pq, at_pq, ← h]
 simp only [setRange, List.length_singleton]
 rw [← cellsC_len, List.take_append, List.take_of_length_le (by omega), Nat.add_sub_cancel_left, List.take_append_of_le_length (by omega)]
 rw [show (cellsCM p).length + k + 1 = (cellsCM p).length + (k + 1) by omega, ← List.drop_drop, List.drop_left, List.drop_append_of_le_length (by omega)]
 simp only [List.append_assoc]
theorem bleT {a b : Nat} (h : a ≤ b) : a.ble b = true := by rw [Nat.ble_eq]; exact h
theorem bltT {a b : Nat} (h : a < b) : a.blt b = true := by rw [blt_iff]; exact h
theorem eqFb {x y : Int} (h : x ≠ y) : AV.bool (x == y) = AV.bool false := by rw [beq_eq_false_iff_ne.2 h]
theorem spl {n : Nat} {A B : Prop} (ha : n = 0 → A) (hb : B) : bif n.beq 0 then (bif n.beq 0 then A else False) else (bif Nat.blt 0 n then B else False) := by
 cases n with
 | zero => exact ha rfl
 | succ n => exact hb
theorem byes_len (n : Int) (m : Nat) : (byesM n m).length = 13 * m := by
 unfold byesM
 rw [List.length_flatten, List.map_replicate, List.sum_replicate_nat]
 rw [show (byeM n).length = 13 from rfl]; omega
theorem byes_snoc (n : Int) (m : Nat) : byesM n (m + 1) = byesM n m ++ byeM n := by
 unfold byesM
 rw [List.replicate_succ', List.flatten_append]; simp
theorem bendA_run (what at' n : Int) (t : Nat) (p q : List Ctl) (c : Ctl) (hw : 0 ≤ what ∧ what ≤ 255) (h4 : what.tmod 12 ≠ 4) (h5 : what.tmod 12 ≠ 5) (h6 : what.tmod 12 ≠ 6) (h10 : what.tmod 12 ≠ 10) (ha : 0 ≤ at' ∧ at' ≤ 255) (hp : at'.tmod ((lenM p q : Nat) : Int) = (p.length : Int)) (hl : p.length + q.length ≤ 1000) (hok : okC c) (Q : Out → List Blk → Gh → Prop)
  (hq : ∀ c' m, okB c c' → m ≤ 9 → Q (.ret (.sl 2 (13 * (lenM p q + m)) 0 (lenM p q + m) 13)) ([⟨.exact, true, boxM what at' n⟩, deadB, ⟨.grow, true, cellsCM (p ++ c' :: q) ++ byesM n m⟩] ++ dead6) {})
  (hq2 : Q (.ret (.sl 2 (13 * lenM p q) 13 (p.length + q.length) 13)) ([⟨.exact, true, boxM what at' n⟩, deadB, ⟨.grow, true, cellsCM (p ++ c :: q)⟩] ++ dead6) {}) : ∃ hv hb, goal_30 hv hb what at' n t p q c Q := by
 obtain ⟨hv, hb', e⟩ : ∃ hv hb, goal_30 hv hb what at' n t p q c Q = _ := ⟨_, _, vc_30 what at' n t p q c Q⟩
 refine ⟨hv, hb', e.mpr ?_⟩
 delta zZE2 zZE5 zZE7 zZE11 zZE6 zZE3 zZE0 zZE1 zZE10 zZE9 zZE4 zZE8 zZE12
 clear e
 have hL := len_pq p q c
 obtain ⟨f1, f2, f3⟩ := fl_C (p ++ c :: q)
 obtain ⟨g1, g2, g3⟩ := fl_R c.rs
 obtain ⟨i1, i2, i3⟩ := fl_I c.lo
 obtain ⟨j1, j2, j3⟩ := fl_I c.ti
 have hlr := cellsR_len c.rs
 have hli := cellsI_len c.lo
 have hlt := cellsI_len c.ti
 obtain ⟨k1, k2, k3⟩ := hok
 have hN : lenM p q = p.length + q.length + 1 := by unfold lenM; omega
 have s8 := st_pq p q c c 8 (.lst 0 (cellsRM c.rs) c.rs.length 7) (by omega) rfl
 have s9 := st_pq p q c c 9 (.lst 0 (cellsI c.lo) c.lo.length 1) (by omega) rfl
 have s12 := st_pq p q c c 12 (.lst 0 (cellsI c.ti) c.ti.length 1) (by omega) rfl
 have t8 := ld_pq p q c 8 (by omega)
 have t9 := ld_pq p q c 9 (by omega)
 have t12 := ld_pq p q c 12 (by omega)
 have b1 : (lenM p q * 152).ble 1099511627776 = true := bleT (by omega)
 have b2 : Nat.blt 0 (lenM p q) = true := bltT (by omega)
 have b3 : (lenM p q).ble 1099511627776 = true := bleT (by omega)
 have b4 : p.length.blt (lenM p q) = true := bltT (by omega)
 have b5 : ∀ k, k < 13 → (13 * p.length + k).blt (13 * lenM p q) = true := fun k hk => bltT (by omega)
 have b6 : ∀ k, k < 13 → (13 * p.length + k + 1).ble (13 * lenM p q) = true := fun k hk => bleT (by omega)
 have b7 : (c.rs.length * 56).ble 1099511627776 = true := bleT (by omega)
 have b8 : c.rs.length.ble 1099511627776 = true := bleT (by omega)
 have b9 : (c.lo.length * 8).ble 1099511627776 = true := bleT (by omega)
 have b10 : c.lo.length.ble 1099511627776 = true := bleT (by omega)
 have b11 : (c.ti.length * 8).ble 1099511627776 = true := bleT (by omega)
 have b12 : c.ti.length.ble 1099511627776 = true := bleT (by omega)
 have bb : ∀ m : Nat, m.ble m = true := fun m => bleT (Nat.le_refl m)
 have e1 : List.take (7 * c.rs.length) (cellsRM c.rs) = cellsRM c.rs := List.take_of_length_le (by omega)
 have e2 : List.take c.lo.length (cellsI c.lo) = cellsI c.lo := List.take_of_length_le (by omega)
 have e3 : List.take c.ti.length (cellsI c.ti) = cellsI c.ti := List.take_of_length_le (by omega)
 have z8 : c.rs.length = 0 → setRange (cellsCM (p ++ c :: q)) (13 * p.length + 8) [AV.lst 0 [] 0 7] = cellsCM (p ++ c :: q) := fun h => by
  have h1 := List.eq_nil_of_length_eq_zero h
  have h2 := s8; rw [h1] at h2; exact h2
 have z9 : c.lo.length = 0 → setRange (cellsCM (p ++ c :: q)) (13 * p.length + 9) [AV.lst 0 [] 0 1] = cellsCM (p ++ c :: q) := fun h => by
  have h1 := List.eq_nil_of_length_eq_zero h
  have h2 := s9; rw [h1] at h2; exact h2
 have z12 : c.ti.length = 0 → setRange (cellsCM (p ++ c :: q)) (13 * p.length + 12) [AV.lst 0 [] 0 1] = cellsCM (p ++ c :: q) := fun h => by
  have h1 := List.eq_nil_of_length_eq_zero h
  have h2 := s12; rw [h1] at h2; exact h2
 unfold vc_30_1 vc_30_3 vc_30_2 vc_30_4
 simp only [List.nil_append, Nat.zero_add, Int.toNat_natCast, Nat.mul_comm _ 13, Nat.mul_comm _ 7, Nat.mul_one, hL, hlr, hli, hlt, f1, f2, f3, g1, g2, g3, i1, i2, i3, j1, j2, j3, List.drop_zero, Bool.true_or, Bool.and_true, Bool.true_and, t8, t9, t12, b1, b2, b3, b4, b5 8 (by omega), b5 9 (by omega), b5 12 (by omega), b6 8 (by omega), b6 9 (by omega), b6 12 (by omega), b7, b8, b9, b10, b11, b12, bb, Nat.beq_refl, cond_true, e1, e2, e3, s8, s9, s12, beq_self_eq_true, and_true, true_and]
 have st : ∀ (k : Nat) (c' : Ctl), k < 13 → setRange (ctC c) k [.int .i64 n] = ctC c' → setRange (cellsCM (p ++ c :: q)) (13 * p.length + k) [.int .i64 n] = cellsCM (p ++ c' :: q) ++ byesM n 0 := fun k c' hk h => by
  rw [st_pq p q c c' k _ hk h, show byesM n 0 = [] from rfl, List.append_nil]
 have ok0 : ∀ c' : Ctl, c'.rs = c.rs → c'.lo = c.lo → c'.ti = c.ti → okB c c' := fun c' h1 h2 h3 => by
  unfold okB; rw [h1, h2, h3]; omega
 refine ⟨_, rfl, splitE (fun h => absurd h (by omega)) (fun _ => wrapI (by omega) (by omega) ⟨_, rfl, splitNE (fun _ => ⟨by rw [hp], ⟨rfl, spl (fun h => ⟨0, ⟨rfl⟩, z8 h⟩) ⟨0, ⟨rfl⟩⟩⟩, ?_⟩) (fun h => absurd h (by omega))⟩)⟩
 rintro _ ⟨rfl⟩
 refine ⟨⟨rfl, spl (fun h => ⟨0, ⟨rfl⟩, z9 h⟩) ⟨0, ⟨rfl⟩⟩⟩, ?_⟩
 rintro _ ⟨rfl⟩
 refine ⟨⟨rfl, spl (fun h => ⟨0, ⟨rfl⟩, z12 h⟩) ⟨0, ⟨rfl⟩⟩⟩, ?_⟩
 rintro _ ⟨rfl⟩
 refine ⟨?_, ?_⟩
 ·refine ⟨_, rfl, splitE (fun _ => ?_) (fun _ => splitE (fun _ => ?_) (fun _ => splitE (fun _ => ?_) (fun _ => splitE (fun _ => ?_) (fun _ => ⟨eqFb h4, eqFb h5, eqFb h6, splitE (fun _ => ?_) (fun _ => splitE (fun _ => ?_) (fun _ => splitE (fun _ => ?_) (fun _ => ⟨eqFb h10, ?_⟩)))⟩))))⟩
  ·exact ckI (b6 0 (by omega)) (.inl ⟨({ c with k := n }, 0), ⟨ok0 _ rfl rfl rfl, Nat.zero_le _⟩, st 0 _ (by omega) rfl, rfl⟩)
  ·exact ckI (b6 1 (by omega)) (.inl ⟨({ c with f := n }, 0), ⟨ok0 _ rfl rfl rfl, Nat.zero_le _⟩, st 1 _ (by omega) rfl, rfl⟩)
  ·exact ckI (b6 2 (by omega)) (.inl ⟨({ c with a := n }, 0), ⟨ok0 _ rfl rfl rfl, Nat.zero_le _⟩, st 2 _ (by omega) rfl, rfl⟩)
  ·exact ckI (b6 7 (by omega)) (.inl ⟨({ c with s5 := n }, 0), ⟨ok0 _ rfl rfl rfl, Nat.zero_le _⟩, st 7 _ (by omega) rfl, rfl⟩)
  ·exact ckI (b6 11 (by omega)) (.inl ⟨({ c with ro := n }, 0), ⟨ok0 _ rfl rfl rfl, Nat.zero_le _⟩, st 11 _ (by omega) rfl, rfl⟩)
  ·refine ckI (bleT (by omega)) (.inr ⟨0, ⟨rfl⟩, ?_⟩)
   rw [show lenM p q - 1 = p.length + q.length by omega]
  ·refine ⟨⟨0, ⟨by omega⟩, by simp [byesM], rfl⟩, ?_⟩
   rintro m ⟨hm⟩
   have hbl : (cellsCM (p ++ c :: q) ++ byesM n m).length = 13 * (lenM p q + m) := by rw [List.length_append, hL, byes_len]; omega
   rw [hbl]
   refine ckI (by simp) ⟨_, rfl, splitD (fun hlt => ckI (by simp; omega) ⟨m + 1, ⟨by omega⟩, by omega, ?_, rfl⟩) (fun _ => .inl ⟨(c, m), ⟨ok0 _ rfl rfl rfl, hm⟩, rfl, rfl⟩)⟩
   rw [byes_snoc, ← List.append_assoc]; rfl
  ·exact ckI (b6 10 (by omega)) (.inl ⟨({ c with ba := n }, 0), ⟨ok0 _ rfl rfl rfl, Nat.zero_le _⟩, st 10 _ (by omega) rfl, rfl⟩)
 ·exact ⟨fun x ⟨h⟩ => hq x.1 x.2 h.1 h.2, fun _ _ => hq2⟩
end Go.Proofs.YtafchcmemeinlaaDoor
