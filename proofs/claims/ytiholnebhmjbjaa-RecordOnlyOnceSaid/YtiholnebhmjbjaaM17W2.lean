/-
  Chapter 17: RecordOnlyOnce.
-/
import Derived.Test.YtiholnebhmjbjaaM17W1
set_option linter.unusedSimpArgs false
set_option linter.unusedVariables false
set_option linter.unusedSectionVars false
namespace Go.Proofs.Ytiholnebhmjbjaa
open Go.RowKit
set_option maxRecDepth 1000000

def cellsTM : List (List UInt8) → List AV
  | [] => []
  | s :: l => .str s :: cellsTM l
def cellsBM : List Bool → List AV
  | [] => []
  | b :: l => .bool b :: cellsBM l
/-- the bodies, and the datagrams of the first i of them -/
def cutTM (l : List (List UInt8)) : List (List UInt8) := (l.take 6).map fun s => s.take 50
def sentM (e st : Int) (key salt : List UInt8) (bs : List (List UInt8)) : Nat → List (List UInt8)
  | 0 => []
  | i + 1 => sentM e st key salt bs i ++ [boxM e (st + i) key salt (i : Nat) (bs.getD i [])]
def inv_7a (ls : List (List UInt8)) (s : S) : List (List LInv) := match s.hp with
  | [b0, ⟨_, _, [.int _ e, .int _ st, .str key, .str salt]⟩, b2] => [[
    { α := Nat, pre := fun i => Lf (i = 0), st := fun i => ⟨mkT [(7, .ptr 1 4 0), (8, .ptr 2 5 0), (9, s.tm.get 9), (2, s.tm.get 2), (10, .nils), (11, .nils), (36, s.tm.get 36), (37, s.tm.get 37), (38, .int .i64 (i : Nat))], s.hp⟩, mu := fun i => 10 },
    { α := Nat, pre := fun i => Lf (1 ≤ i ∧ i ≤ (cutTM ls).length), st := fun i => ⟨mkT [(7, .ptr 1 4 0), (8, .ptr 2 5 0), (9, s.tm.get 9), (2, s.tm.get 2), (10, .sl 6 i 0 i 1), (11, .sl 7 i 0 i 1), (36, s.tm.get 36), (37, s.tm.get 37), (38, .int .i64 (i : Nat))],
      [b0, ⟨.exact, true, [.int .i64 e, .int .i64 (st + (i : Nat)), .str key, .str salt]⟩, b2, ⟨.exact, true, [.int .i64 e, .int .i64 (st + 1), .str key, .str salt]⟩, ⟨.exact, true, cellsTM (sentM e st key salt (cutTM ls) 1)⟩, ⟨.exact, true, cellsTM ((cutTM ls).take 1)⟩, ⟨.grow, true, cellsTM (sentM e st key salt (cutTM ls) i)⟩, ⟨.grow, true, cellsTM ((cutTM ls).take i)⟩]⟩, mu := fun i => 7 - i }]]
  | _ => []
abbrev X7 := Nat × Wn × List Bool
def inv_7b (s : S) : List (List LInv) := match s.hp with
  | [b0, ⟨k1, f1, [.int i1 e, .int i2 nx, .str key, .str salt]⟩, b2, b3, b4, b5, b6, b7, b8] => (match s.tm.get 9, s.tm.get 10 with
    | .int _ st, .sl _ _ _ n _ => [[
      { α := X7, pre := fun x => Lf (x.1 ≤ 12 ∧ x.2.2.length = n ∧ okWM x.2.1.1 x.2.1.2 = true ∧ x.2.1.2 < 18446744073709551616 ∧ x.2.1.1 < st + (n : Nat) ∧ ∀ i, i < n → isFreshM x.2.1.1 x.2.1.2 (st + (i : Nat)) = !(x.2.2.getD i false)),
        st := fun x => ⟨mkT [(7, .ptr 1 4 0), (8, .ptr 2 5 0), (9, s.tm.get 9), (10, s.tm.get 10), (11, s.tm.get 11), (17, s.tm.get 17), (104, s.tm.get 104), (105, s.tm.get 105), (106, .int .i64 (x.1 : Nat))],
          [b0, ⟨k1, f1, [.int i1 e, .int i2 nx, .str key, .str salt]⟩, ⟨.exact, true, [.int .i64 e, .str key, .str salt, .int .i64 x.2.1.1, .int .u64 (x.2.1.2 : Nat)]⟩, b3, b4, b5, b6, b7, ⟨.exact, true, cellsBM x.2.2⟩]⟩, mu := fun x => 13 - x.1 }]]
    | _, _ => [])
  | _ => [[{ α := Nat, pre := fun i => Lf (i = 0), st := fun i => ⟨mkT [(7, .ptr 1 4 0), (8, .ptr 2 5 0), (9, s.tm.get 9), (10, s.tm.get 10), (11, s.tm.get 11), (17, s.tm.get 17), (104, s.tm.get 104), (105, s.tm.get 105), (106, .int .i64 (i : Nat))], s.hp⟩, mu := fun i => 10 }]]
def smK7 : SM := lookS [(10, cTrue), (24, cDraftS), (26, cSealR), (27, cOpenR), (28, cChkR)]
theorem smK7_ok : ∀ f g, smK7 f = some g → ValidF Try.prog gl0 f g := lookS_ok _ (by simp only [List.mem_cons, List.not_mem_nil, or_false, forall_eq_or_imp, forall_eq]; exact ⟨wakes_ok, draftS_ok, sealR_ok, openR_ok, chkR_ok⟩)
noncomputable def env_7 (hv : Nat → Option Pa) (hb : Nat → Option Bool) (ls : List (List UInt8)) : Env := e04 smK7 (fun i => bif Nat.beq i 7000 then some (inv_7a ls) else bif Nat.beq i 7002 then some inv_7b else none) hv hb
noncomputable def goal_7 (hv : Nat → Option Pa) (hb : Nat → Option Bool) (ep st kk sk : Int) (sn : List UInt8) (ls : List (List UInt8)) (od : List UInt8) (Q : Out → List Blk → Gh → Prop) : Prop :=
  callx (env_7 hv hb ls) (wpx (env_7 hv hb ls) 1000) 7 [.agg [.int .u16 ep, .int .u16 st, .int .u8 kk, .int .u8 sk, .lst 0 (ofBytes sn) sn.length 1], .lst 0 (cellsTM ls) ls.length 1, .lst 0 (ofBytes od) od.length 1] [] {} Q
theorem vc_7 (ep : Int) (st : Int) (kk : Int) (sk : Int) (sn : List UInt8) (ls : List (List UInt8)) (od : List UInt8) (Q : Out → List Blk → Gh → Prop) : goal_7 (lookV [(28706, .int .i64), (28707, .int .i64), (28709, .int .i64), (28712, .int
 .i64), (28714, .str), (28717, .int .i64), (28718, .int .i64), (28719, .str), (28725, .agg [(.int .i64), (.int .i64), (.str), (.str)]), (28735, .int .i64), (28768, .int .i64), (28774, .int .i64), (28775, .int .i64), (28777, .int .i64),
 (28781, .int .u8), (28721, .agg [(.int .i64), (.int .i64), (.str), (.str)]), (28734, .int .i64), (28770, .int .i64), (28783, .int .i64), (28786, .int .i64), (28788, .int .i64), (28789, .int .i64), (28791, .agg [(.int .i64), (.str), (.str),
 (.int .i64), (.int .u64)]), (28795, .str), (28814, .bool), (28845, .bool), (28848, .agg [(.int .i64), (.str), (.str), (.int .i64), (.int .u64)]), (28855, .int .i64), (28797, .agg [(.int .i64), (.str), (.str), (.int .i64), (.int .u64)]),
 (28809, .int .i64), (28819, .int .i64), (28823, .int .i64), (28828, .agg [.int .i64, .int .i64, .int .i64, .str]), (28834, .int .i64), (28838, .str)]) (lookB []) ep st kk sk sn ls od Q = (∃ s_0 : List UInt8, Lf (ofBytes sn = ofBytes s_0 ∧
 (0 ≤ ep ∧ ep ≤ 65535) ∧ 0 ≤ st ∧ st ≤ 65535) ∧ ∀ e_1 : Int, ∀ key_2 salt_3 : List UInt8, Lf (e_1 = ep % 4 ∧ key_2.length = 32 ∧ salt_3.length = 12) → exI .i64 (ls.length : Int) fun n_4 => exI .i64 (imin n_4 6) fun n_5 => ckQ (decide (0 ≤
 n_5) && true && Nat.ble n_5.toNat ls.length && true) (exI .i64 ((n_5.toNat - 0 : Nat) : Int) fun n_6 => ((∃ x_7 : Nat, Lf (x_7 = 0) ∧ eqqQ [AV.int .u16 ep, .int .u16 st, .int .u8 kk, .int .u8 sk, .lst 0 (ofBytes sn) sn.length 1] ∧ eqqQ
 [AV.int .i64 e_1, .int .i64 st, .str key_2, .str salt_3] ∧ eqqQ [AV.int .i64 e_1, .str key_2, .str salt_3, .int .i64 (-1), .int .u64 0] ∧ eqqQ (AV.ptr 1 4 0) ∧ AV.nils = AV.nils ∧ eqqQ (AV.int .i64 st) ∧ eqqQ (AV.int .i64 n_6) ∧ eqqQ
 (AV.lst 0 (ofBytes od) od.length 1) ∧ eqqQ (AV.ptr 2 5 0) ∧ eqqQ (AV.lst 0 (((cellsTM ls).drop 0).take ((n_5.toNat - 0) * 1)) (n_5.toNat - 0) 1) ∧ AV.nils = AV.nils ∧ AV.int .i64 0 = AV.int .i64 (x_7 : Int) ∧ True) ∨ ∃ x_7 : Nat, Lf (1 ≤
 x_7 ∧ x_7 ≤ (cutTM ls).length) ∧ eqqQ [AV.int .u16 ep, .int .u16 st, .int .u8 kk, .int .u8 sk, .lst 0 (ofBytes sn) sn.length 1] ∧ [AV.int .i64 e_1, .int .i64 st, .str key_2, .str salt_3] = [AV.int .i64 e_1, .int .i64 (st + (x_7 : Int)),
 .str key_2, .str salt_3] ∧ eqqQ [AV.int .i64 e_1, .str key_2, .str salt_3, .int .i64 (-1), .int .u64 0] ∧ False) ∧ (∀ x_7 : Nat, Lf (x_7 = 0) → bif decide ((x_7 : Int) < n_6) then exI .i64 (x_7 : Int) fun n_8 => ckQ (Nat.blt (x_7 :
 Int).toNat (n_5.toNat - 0) && true) (ckQ (Nat.blt ((x_7 : Int).toNat * 1) (((cellsTM ls).drop 0).take ((n_5.toNat - 0) * 1)).length) (exS ((((cellsTM ls).drop 0).take ((n_5.toNat - 0) * 1)).getD ((x_7 : Int).toNat * 1) AV.undef) fun s_9 =>
 exI .i64 (s_9.length : Int) fun n_10 => exI .i64 (imin n_10 50) fun n_11 => ckQ (decide (0 ≤ n_11) && true && Nat.ble n_11.toNat s_9.length) (exS (.str ((s_9.drop 0).take (n_11.toNat - 0))) fun s_12 => ∃ n_13 n_14 s_15 s_16, AV.agg [.int
 .i64 e_1, .int .i64 st, .str key_2, .str salt_3] = AV.agg [.int .i64 n_13, .int .i64 n_14, .str s_15, .str s_16] ∧ Lf (sndOkM n_13 n_14 s_15 s_16 = true ∧ n_14 ≤ 281474976710655 ∧ (0 ≤ n_8 ∧ n_8 ≤ 255) ∧ s_12.length ≤ 984) ∧ ∀ box_17 :
 List UInt8, Lf (box_17 = boxM n_13 n_14 s_15 s_16 n_8 s_12) → ∃ n_18 n_19 s_20 s_21, AV.agg [.int .i64 n_13, .int .i64 (n_14 + 1), .str s_15, .str s_16] = AV.agg [.int .i64 n_18, .int .i64 n_19, .str s_20, .str s_21] ∧ exI .i64 st fun n_22
 => exW .i64 (n_22 + 1) fun n_23 => bif n_19 != n_23 then Q (.ret (.bool false)) [] {} else bif n_18 != e_1 then Q (.ret (.bool false)) [] {} else bif !eqB s_20 key_2 then Q (.ret (.bool false)) [] {} else bif !eqB s_21 salt_3 then Q (.ret
 (.bool false)) [] {} else ckQ (eqAVL [.str s_12] [.str s_12]) (ckQ (eqAVL [.int .i64 n_18, .int .i64 n_19, .str s_20, .str s_21] [.int .i64 n_18, .int .i64 n_19, .str s_20, .str s_21] && true) (ckQ (eqAVL [.int .i64 n_18, .int .i64 n_19,
 .str s_20, .str s_21] [.int .i64 n_18, .int .i64 n_19, .str s_20, .str s_21] && true) (exW .i64 ((x_7 : Int) + 1) fun n_24 => (True ∧ (0 : Nat) = (0 : Nat)) ∧ ((∃ y_25 : Nat, Lf (y_25 = 0) ∧ (10 : Nat) < (10 : Nat) ∧ eqqQ [AV.int .u16 ep,
 .int .u16 st, .int .u8 kk, .int .u8 sk, .lst 0 (ofBytes sn) sn.length 1] ∧ [AV.int .i64 n_18, .int .i64 n_19, .str s_20, .str s_21] = [AV.int .i64 e_1, .int .i64 st, .str key_2, .str salt_3] ∧ eqqQ [AV.int .i64 e_1, .str key_2, .str
 salt_3, .int .i64 (-1), .int .u64 0] ∧ False) ∨ ∃ y_25 : Nat, Lf (1 ≤ y_25 ∧ y_25 ≤ (cutTM ls).length) ∧ 7 - y_25 < 10 ∧ eqqQ [AV.int .u16 ep, .int .u16 st, .int .u8 kk, .int .u8 sk, .lst 0 (ofBytes sn) sn.length 1] ∧ [AV.int .i64 n_18,
 .int .i64 n_19, .str s_20, .str s_21] = [AV.int .i64 e_1, .int .i64 (st + (y_25 : Int)), .str key_2, .str salt_3] ∧ eqqQ [AV.int .i64 e_1, .str key_2, .str salt_3, .int .i64 (-1), .int .u64 0] ∧ [AV.int .i64 n_18, .int .i64 n_19, .str
 s_20, .str s_21] = [AV.int .i64 e_1, .int .i64 (st + 1), .str key_2, .str salt_3] ∧ [AV.str box_17] = [AV.str (boxM e_1 (st + 0) key_2 salt_3 0 ((cutTM ls).getD 0 []))] ∧ [AV.str s_12] = cellsTM ((cutTM ls).take 1) ∧ [AV.str box_17] =
 cellsTM (sentM e_1 st key_2 salt_3 (cutTM ls) y_25) ∧ [AV.str s_12] = cellsTM ((cutTM ls).take y_25) ∧ eqqQ (AV.ptr 1 4 0) ∧ AV.sl 7 1 0 1 1 = AV.sl 7 y_25 0 y_25 1 ∧ eqqQ (AV.int .i64 st) ∧ eqqQ (AV.int .i64 n_6) ∧ eqqQ (AV.lst 0 (ofBytes
 od) od.length 1) ∧ eqqQ (AV.ptr 2 5 0) ∧ eqqQ (AV.lst 0 (((cellsTM ls).drop 0).take ((n_5.toNat - 0) * 1)) (n_5.toNat - 0) 1) ∧ AV.sl 6 1 0 1 1 = AV.sl 6 y_25 0 y_25 1 ∧ AV.int .i64 n_24 = AV.int .i64 (y_25 : Int) ∧ True))))))) else exI
 .i64 0 fun n_8 => ckQ (decide (0 ≤ n_8) && decide (n_8 ≤ n_8) && decide (n_8 ≤ 1099511627776) && decide (n_8 * 1 ≤ 1099511627776)) (exI .i64 (od.length : Int) fun n_9 => exI .i64 (imin n_9 12) fun n_10 => ckQ (decide (0 ≤ n_10) && true &&
 Nat.ble n_10.toNat od.length && true) (exI .i64 ((n_10.toNat - 0 : Nat) : Int) fun n_11 => (∃ x_12 : Nat, Lf (x_12 = 0) ∧ eqqQ [AV.int .u16 ep, .int .u16 st, .int .u8 kk, .int .u8 sk, .lst 0 (ofBytes sn) sn.length 1] ∧ eqqQ [AV.int .i64
 e_1, .int .i64 st, .str key_2, .str salt_3] ∧ eqqQ [AV.int .i64 e_1, .str key_2, .str salt_3, .int .i64 (-1), .int .u64 0] ∧ ckQ (oldL 0 (List.replicate n_8.toNat [AV.bool false]).flatten == oldL 0 (List.replicate n_8.toNat [AV.bool
 false]).flatten) (eqqQ (List.replicate n_8.toNat [AV.bool false]).flatten ∧ eqqQ (AV.ptr 1 4 0) ∧ AV.nils = AV.nils ∧ eqqQ (AV.int .i64 st) ∧ eqqQ (AV.sl 3 (n_8.toNat * 1) 0 n_8.toNat 1) ∧ eqqQ (AV.int .i64 n_11) ∧ eqqQ (AV.ptr 2 5 0) ∧
 eqqQ (AV.lst 0 (((ofBytes od).drop 0).take ((n_10.toNat - 0) * 1)) (n_10.toNat - 0) 1) ∧ AV.nils = AV.nils ∧ AV.int .i64 0 = AV.int .i64 (x_12 : Int) ∧ True)) ∧ ∀ x_12 : Nat, Lf (x_12 = 0) → bif decide ((x_12 : Int) < n_11) then ckQ
 (Nat.blt (x_12 : Int).toNat (n_10.toNat - 0) && true) (ckQ (Nat.blt ((x_12 : Int).toNat * 1) (((ofBytes od).drop 0).take ((n_10.toNat - 0) * 1)).length) (exV .u8 ((((ofBytes od).drop 0).take ((n_10.toNat - 0) * 1)).getD ((x_12 : Int).toNat
 * 1) AV.undef) fun n_13 => exI .i64 0 fun n_14 => bif n_14 == 0 then Q (.ret (.bool true)) [] {} else exW .i64 n_13 fun n_15 => exI .i64 0 fun n_16 => ckQ (n_16 != 0 && true) (exI .i64 (n_15.tmod n_16) fun n_17 => ∃ n_18 s_19 s_20 n_21
 n_22, AV.agg [.int .i64 e_1, .str key_2, .str salt_3, .int .i64 (-1), .int .u64 0] = AV.agg [.int .i64 n_18, .str s_19, .str s_20, .int .i64 n_21, .int .u64 n_22] ∧ False))) else Q (.ret (.bool true)) [] {}))) ∧ ∀ x_7 : Nat, Lf (1 ≤ x_7 ∧
 x_7 ≤ (cutTM ls).length) → bif decide ((x_7 : Int) < n_6) then exI .i64 (x_7 : Int) fun n_8 => ckQ (Nat.blt (x_7 : Int).toNat (n_5.toNat - 0) && true) (ckQ (Nat.blt ((x_7 : Int).toNat * 1) (((cellsTM ls).drop 0).take ((n_5.toNat - 0) *
 1)).length) (exS ((((cellsTM ls).drop 0).take ((n_5.toNat - 0) * 1)).getD ((x_7 : Int).toNat * 1) AV.undef) fun s_9 => exI .i64 (s_9.length : Int) fun n_10 => exI .i64 (imin n_10 50) fun n_11 => ckQ (decide (0 ≤ n_11) && true && Nat.ble
 n_11.toNat s_9.length) (exS (.str ((s_9.drop 0).take (n_11.toNat - 0))) fun s_12 => ∃ n_13 n_14 s_15 s_16, AV.agg [.int .i64 e_1, .int .i64 (st + (x_7 : Int)), .str key_2, .str salt_3] = AV.agg [.int .i64 n_13, .int .i64 n_14, .str s_15,
 .str s_16] ∧ Lf (sndOkM n_13 n_14 s_15 s_16 = true ∧ n_14 ≤ 281474976710655 ∧ (0 ≤ n_8 ∧ n_8 ≤ 255) ∧ s_12.length ≤ 984) ∧ ∀ box_17 : List UInt8, Lf (box_17 = boxM n_13 n_14 s_15 s_16 n_8 s_12) → ∃ n_18 n_19 s_20 s_21, AV.agg [.int .i64
 n_13, .int .i64 (n_14 + 1), .str s_15, .str s_16] = AV.agg [.int .i64 n_18, .int .i64 n_19, .str s_20, .str s_21] ∧ exI .i64 (st + (x_7 : Int)) fun n_22 => exW .i64 (n_22 + 1) fun n_23 => bif n_19 != n_23 then Q (.ret (.bool false)) [] {}
 else bif n_18 != e_1 then Q (.ret (.bool false)) [] {} else bif !eqB s_20 key_2 then Q (.ret (.bool false)) [] {} else bif !eqB s_21 salt_3 then Q (.ret (.bool false)) [] {} else ckQ (Nat.beq (cellsTM (sentM e_1 st key_2 salt_3 (cutTM ls)
 x_7)).length x_7 && true && Nat.beq (0 + x_7 * 1) x_7 && Nat.ble (x_7 + 1) 1099511627776 && Nat.ble ((x_7 + 1) * 16) 1099511627776) (ckQ (eqAVL [.str s_12] [.str s_12]) (ckQ (eqAVL [.int .i64 n_18, .int .i64 n_19, .str s_20, .str s_21]
 [.int .i64 n_18, .int .i64 n_19, .str s_20, .str s_21] && true) (ckQ (Nat.beq (cellsTM ((cutTM ls).take x_7)).length x_7 && true && Nat.beq (0 + x_7 * 1) x_7 && Nat.ble (x_7 + 1) 1099511627776 && Nat.ble ((x_7 + 1) * 16) 1099511627776)
 (ckQ (eqAVL [.int .i64 n_18, .int .i64 n_19, .str s_20, .str s_21] [.int .i64 n_18, .int .i64 n_19, .str s_20, .str s_21] && true) (exW .i64 ((x_7 : Int) + 1) fun n_24 => (True ∧ (0 : Nat) = (0 : Nat)) ∧ ((∃ y_25 : Nat, Lf (y_25 = 0) ∧ 10
 < 7 - x_7 ∧ eqqQ [AV.int .u16 ep, .int .u16 st, .int .u8 kk, .int .u8 sk, .lst 0 (ofBytes sn) sn.length 1] ∧ [AV.int .i64 n_18, .int .i64 n_19, .str s_20, .str s_21] = [AV.int .i64 e_1, .int .i64 st, .str key_2, .str salt_3] ∧ eqqQ [AV.int
 .i64 e_1, .str key_2, .str salt_3, .int .i64 (-1), .int .u64 0] ∧ False) ∨ ∃ y_25 : Nat, Lf (1 ≤ y_25 ∧ y_25 ≤ (cutTM ls).length) ∧ 7 - y_25 < 7 - x_7 ∧ eqqQ [AV.int .u16 ep, .int .u16 st, .int .u8 kk, .int .u8 sk, .lst 0 (ofBytes sn)
 sn.length 1] ∧ [AV.int .i64 n_18, .int .i64 n_19, .str s_20, .str s_21] = [AV.int .i64 e_1, .int .i64 (st + (y_25 : Int)), .str key_2, .str salt_3] ∧ eqqQ [AV.int .i64 e_1, .str key_2, .str salt_3, .int .i64 (-1), .int .u64 0] ∧ eqqQ
 [AV.int .i64 e_1, .int .i64 (st + 1), .str key_2, .str salt_3] ∧ eqqQ [AV.str (boxM e_1 (st + 0) key_2 salt_3 0 ((cutTM ls).getD 0 []))] ∧ eqqQ (cellsTM ((cutTM ls).take 1)) ∧ cellsTM (sentM e_1 st key_2 salt_3 (cutTM ls) x_7) ++ [AV.str
 box_17] = cellsTM (sentM e_1 st key_2 salt_3 (cutTM ls) y_25) ∧ cellsTM ((cutTM ls).take x_7) ++ [AV.str s_12] = cellsTM ((cutTM ls).take y_25) ∧ eqqQ (AV.ptr 1 4 0) ∧ AV.sl 7 (x_7 + 1) 0 (x_7 + 1) 1 = AV.sl 7 y_25 0 y_25 1 ∧ eqqQ (AV.int
 .i64 st) ∧ eqqQ (AV.int .i64 n_6) ∧ eqqQ (AV.lst 0 (ofBytes od) od.length 1) ∧ eqqQ (AV.ptr 2 5 0) ∧ eqqQ (AV.lst 0 (((cellsTM ls).drop 0).take ((n_5.toNat - 0) * 1)) (n_5.toNat - 0) 1) ∧ AV.sl 6 (x_7 + 1) 0 (x_7 + 1) 1 = AV.sl 6 y_25 0
 y_25 1 ∧ AV.int .i64 n_24 = AV.int .i64 (y_25 : Int) ∧ True))))))))) else ckQ (Nat.beq (cellsTM (sentM e_1 st key_2 salt_3 (cutTM ls) x_7)).length x_7) (exI .i64 (x_7 : Int) fun n_8 => ckQ (decide (0 ≤ n_8) && decide (n_8 ≤ n_8) && decide
 (n_8 ≤ 1099511627776) && decide (n_8 * 1 ≤ 1099511627776)) (exI .i64 (od.length : Int) fun n_9 => exI .i64 (imin n_9 12) fun n_10 => ckQ (decide (0 ≤ n_10) && true && Nat.ble n_10.toNat od.length && true) (exI .i64 ((n_10.toNat - 0 : Nat)
 : Int) fun n_11 => (∃ x_12 : Nat × Wn × List Bool, Lf (x_12.1 ≤ 12 ∧ x_12.2.2.length = x_7 ∧ okWM x_12.2.1.1 x_12.2.1.2 = true ∧ x_12.2.1.2 < 18446744073709551616 ∧ x_12.2.1.1 < st + (x_7 : Int) ∧ ∀ i_13 : Nat, i_13 < x_7 → isFreshM
 x_12.2.1.1 x_12.2.1.2 (st + (i_13 : Int)) = !x_12.2.2.getD i_13 false) ∧ eqqQ [AV.int .u16 ep, .int .u16 st, .int .u8 kk, .int .u8 sk, .lst 0 (ofBytes sn) sn.length 1] ∧ eqqQ [AV.int .i64 e_1, .int .i64 (st + (x_7 : Int)), .str key_2, .str
 salt_3] ∧ [AV.int .i64 e_1, .str key_2, .str salt_3, .int .i64 (-1), .int .u64 0] = [AV.int .i64 e_1, .str key_2, .str salt_3, .int .i64 x_12.2.1.1, .int .u64 (x_12.2.1.2 : Int)] ∧ eqqQ [AV.int .i64 e_1, .int .i64 (st + 1), .str key_2,
 .str salt_3] ∧ eqqQ [AV.str (boxM e_1 (st + 0) key_2 salt_3 0 ((cutTM ls).getD 0 []))] ∧ eqqQ (cellsTM ((cutTM ls).take 1)) ∧ eqqQ (cellsTM (sentM e_1 st key_2 salt_3 (cutTM ls) x_7)) ∧ eqqQ (cellsTM ((cutTM ls).take x_7)) ∧ ckQ (oldL 0
 (List.replicate n_8.toNat [AV.bool false]).flatten == true) ((List.replicate n_8.toNat [AV.bool false]).flatten = cellsBM x_12.2.2 ∧ eqqQ (AV.ptr 1 4 0) ∧ eqqQ (AV.sl 7 x_7 0 x_7 1) ∧ eqqQ (AV.int .i64 st) ∧ eqqQ (AV.sl 8 (n_8.toNat * 1) 0
 n_8.toNat 1) ∧ eqqQ (AV.int .i64 n_11) ∧ eqqQ (AV.ptr 2 5 0) ∧ eqqQ (AV.lst 0 (((ofBytes od).drop 0).take ((n_10.toNat - 0) * 1)) (n_10.toNat - 0) 1) ∧ eqqQ (AV.sl 6 x_7 0 x_7 1) ∧ AV.int .i64 0 = AV.int .i64 (x_12.1 : Int) ∧ True)) ∧ ∀
 x_12 : Nat × Wn × List Bool, Lf (x_12.1 ≤ 12 ∧ x_12.2.2.length = x_7 ∧ okWM x_12.2.1.1 x_12.2.1.2 = true ∧ x_12.2.1.2 < 18446744073709551616 ∧ x_12.2.1.1 < st + (x_7 : Int) ∧ ∀ i_13 : Nat, i_13 < x_7 → isFreshM x_12.2.1.1 x_12.2.1.2 (st +
 (i_13 : Int)) = !x_12.2.2.getD i_13 false) → bif decide ((x_12.1 : Int) < n_11) then ckQ (Nat.blt (x_12.1 : Int).toNat (n_10.toNat - 0) && true) (ckQ (Nat.blt ((x_12.1 : Int).toNat * 1) (((ofBytes od).drop 0).take ((n_10.toNat - 0) *
 1)).length) (exV .u8 ((((ofBytes od).drop 0).take ((n_10.toNat - 0) * 1)).getD ((x_12.1 : Int).toNat * 1) AV.undef) fun n_13 => ckQ (Nat.beq (cellsTM (sentM e_1 st key_2 salt_3 (cutTM ls) x_7)).length x_7) (exI .i64 (x_7 : Int) fun n_14 =>
 bif n_14 == 0 then Q (.ret (.bool true)) [] {} else exW .i64 n_13 fun n_15 => ckQ (Nat.beq (cellsTM (sentM e_1 st key_2 salt_3 (cutTM ls) x_7)).length x_7) (exI .i64 (x_7 : Int) fun n_16 => ckQ (n_16 != 0 && true) (exI .i64 (n_15.tmod
 n_16) fun n_17 => ∃ n_18 s_19 s_20 n_21 n_22, AV.agg [.int .i64 e_1, .str key_2, .str salt_3, .int .i64 x_12.2.1.1, .int .u64 (x_12.2.1.2 : Int)] = AV.agg [.int .i64 n_18, .str s_19, .str s_20, .int .i64 n_21, .int .u64 n_22] ∧ ckQ (decide
 (0 ≤ n_17) && Nat.blt n_17.toNat x_7 && Nat.beq (cellsTM (sentM e_1 st key_2 salt_3 (cutTM ls) x_7)).length x_7 && true) (ckQ (Nat.beq (cellsTM (sentM e_1 st key_2 salt_3 (cutTM ls) x_7)).length x_7 && Nat.blt (0 + n_17.toNat * 1) x_7)
 (exS ((((cellsTM (sentM e_1 st key_2 salt_3 (cutTM ls) x_7)).drop (0 + n_17.toNat * 1)).take 1).getD 0 AV.undef) fun s_23 => ∃ k_24 : Nat, Lf (n_22 = (k_24 : Int) ∧ k_24 < 18446744073709551616 ∧ rcvOkM n_18 s_19 s_20 n_21 k_24 = true ∧
 s_23.length ≤ 9223372036854775807) ∧ ∀ l_25 : List Rc, ∀ f_26 : Int, Lf (decM s_23 = Prod.mk l_25 f_26) → bif f_26 != 0 then ∃ n_27 s_28 s_29 n_30 n_31, AV.agg [.int .i64 0, .str [], .str [], .int .i64 0, .int .u64 0] = AV.agg [.int .i64
 n_27, .str s_28, .str s_29, .int .i64 n_30, .int .u64 n_31] ∧ bif f_26 != 0 then Q (.ret (.bool false)) [] {} else ∃ k_32 : Nat, Lf (n_31 = (k_32 : Int) ∧ k_32 < 18446744073709551616) ∧ ∀ x_33 : Int, Lf (x_33 = chkM (rcvOkM n_27 s_28 s_29
 n_30 k_32)) → bif x_33 != 0 then Q (.ret (.bool false)) [] {} else exI .i64 0 fun n_34 => bif n_34 == 1 then ckQ (decide (0 ≤ n_17) && Nat.blt n_17.toNat n_8.toNat && Nat.beq (cellsBM x_12.2.2).length (n_8.toNat * 1) && true) (ckQ (Nat.beq
 (cellsBM x_12.2.2).length (n_8.toNat * 1) && Nat.blt (0 + n_17.toNat * 1) (n_8.toNat * 1)) (exB ((((cellsBM x_12.2.2).drop (0 + n_17.toNat * 1)).take 1).getD 0 AV.undef) fun b_35 => bif true == b_35 then Q (.ret (.bool false)) [] {} else
 exI .i64 0 fun n_36 => bif decide (n_36 > 1) then Q (.ret (.bool false)) [] {} else exI .i64 0 fun n_37 => bif n_37 == 1 then False else ckQ (decide (0 ≤ n_17) && Nat.blt n_17.toNat n_8.toNat && Nat.beq (cellsBM x_12.2.2).length (n_8.toNat
 * 1) && true) (ckQ (Nat.beq (cellsBM x_12.2.2).length (n_8.toNat * 1) && Nat.blt (0 + n_17.toNat * 1) (n_8.toNat * 1)) (exB ((((cellsBM x_12.2.2).drop (0 + n_17.toNat * 1)).take 1).getD 0 AV.undef) fun b_38 => bif b_38 then ∃ n_39 s_40
 s_41 n_42 n_43, AV.agg [.int .i64 e_1, .str key_2, .str salt_3, .int .i64 x_12.2.1.1, .int .u64 (x_12.2.1.2 : Int)] = AV.agg [.int .i64 n_39, .str s_40, .str s_41, .int .i64 n_42, .int .u64 n_43] ∧ bif !(n_27 == n_39 && (eqB s_28 s_40 &&
 (eqB s_29 s_41 && (n_30 == n_42 && (n_31 == n_43 && true) && true)))) then Q (.ret (.bool false)) [] {} else ckQ (decide (0 ≤ n_17) && Nat.blt n_17.toNat n_8.toNat && Nat.beq (cellsBM x_12.2.2).length (n_8.toNat * 1) && true) (ckQ (Nat.beq
 (cellsBM x_12.2.2).length (n_8.toNat * 1) && Nat.ble (0 + n_17.toNat * 1 + 1) (n_8.toNat * 1) && true && true && true) (exW .i64 ((x_12.1 : Int) + 1) fun n_44 => (True ∧ (0 : Nat) = (0 : Nat)) ∧ ∃ y_45 : Nat × Wn × List Bool, Lf (y_45.1 ≤
 12 ∧ y_45.2.2.length = x_7 ∧ okWM y_45.2.1.1 y_45.2.1.2 = true ∧ y_45.2.1.2 < 18446744073709551616 ∧ y_45.2.1.1 < st + (x_7 : Int) ∧ ∀ i_46 : Nat, i_46 < x_7 → isFreshM y_45.2.1.1 y_45.2.1.2 (st + (i_46 : Int)) = !y_45.2.2.getD i_46 false)
 ∧ 13 - y_45.1 < 13 - x_12.1 ∧ eqqQ [AV.int .u16 ep, .int .u16 st, .int .u8 kk, .int .u8 sk, .lst 0 (ofBytes sn) sn.length 1] ∧ eqqQ [AV.int .i64 e_1, .int .i64 (st + (x_7 : Int)), .str key_2, .str salt_3] ∧ [AV.int .i64 n_27, .str s_28,
 .str s_29, .int .i64 n_30, .int .u64 n_31] = [AV.int .i64 e_1, .str key_2, .str salt_3, .int .i64 y_45.2.1.1, .int .u64 (y_45.2.1.2 : Int)] ∧ eqqQ [AV.int .i64 e_1, .int .i64 (st + 1), .str key_2, .str salt_3] ∧ eqqQ [AV.str (boxM e_1 (st
 + 0) key_2 salt_3 0 ((cutTM ls).getD 0 []))] ∧ eqqQ (cellsTM ((cutTM ls).take 1)) ∧ eqqQ (cellsTM (sentM e_1 st key_2 salt_3 (cutTM ls) x_7)) ∧ eqqQ (cellsTM ((cutTM ls).take x_7)) ∧ setRange (cellsBM x_12.2.2) (0 + n_17.toNat * 1) [.bool
 true] = cellsBM y_45.2.2 ∧ eqqQ (AV.ptr 1 4 0) ∧ eqqQ (AV.sl 7 x_7 0 x_7 1) ∧ eqqQ (AV.int .i64 st) ∧ eqqQ (AV.sl 8 (n_8.toNat * 1) 0 n_8.toNat 1) ∧ eqqQ (AV.int .i64 n_11) ∧ eqqQ (AV.ptr 2 5 0) ∧ eqqQ (AV.lst 0 (((ofBytes od).drop 0).take
 ((n_10.toNat - 0) * 1)) (n_10.toNat - 0) 1) ∧ eqqQ (AV.sl 6 x_7 0 x_7 1) ∧ AV.int .i64 n_44 = AV.int .i64 (y_45.1 : Int) ∧ True)) else ckQ (decide (0 ≤ n_17) && Nat.blt n_17.toNat n_8.toNat && Nat.beq (cellsBM x_12.2.2).length (n_8.toNat *
 1) && true) (ckQ (Nat.beq (cellsBM x_12.2.2).length (n_8.toNat * 1) && Nat.ble (0 + n_17.toNat * 1 + 1) (n_8.toNat * 1) && true && true && true) (exW .i64 ((x_12.1 : Int) + 1) fun n_39 => (True ∧ (0 : Nat) = (0 : Nat)) ∧ ∃ y_40 : Nat × Wn
 × List Bool, Lf (y_40.1 ≤ 12 ∧ y_40.2.2.length = x_7 ∧ okWM y_40.2.1.1 y_40.2.1.2 = true ∧ y_40.2.1.2 < 18446744073709551616 ∧ y_40.2.1.1 < st + (x_7 : Int) ∧ ∀ i_41 : Nat, i_41 < x_7 → isFreshM y_40.2.1.1 y_40.2.1.2 (st + (i_41 : Int)) =
 !y_40.2.2.getD i_41 false) ∧ 13 - y_40.1 < 13 - x_12.1 ∧ eqqQ [AV.int .u16 ep, .int .u16 st, .int .u8 kk, .int .u8 sk, .lst 0 (ofBytes sn) sn.length 1] ∧ eqqQ [AV.int .i64 e_1, .int .i64 (st + (x_7 : Int)), .str key_2, .str salt_3] ∧
 [AV.int .i64 n_27, .str s_28, .str s_29, .int .i64 n_30, .int .u64 n_31] = [AV.int .i64 e_1, .str key_2, .str salt_3, .int .i64 y_40.2.1.1, .int .u64 (y_40.2.1.2 : Int)] ∧ eqqQ [AV.int .i64 e_1, .int .i64 (st + 1), .str key_2, .str salt_3]
 ∧ eqqQ [AV.str (boxM e_1 (st + 0) key_2 salt_3 0 ((cutTM ls).getD 0 []))] ∧ eqqQ (cellsTM ((cutTM ls).take 1)) ∧ eqqQ (cellsTM (sentM e_1 st key_2 salt_3 (cutTM ls) x_7)) ∧ eqqQ (cellsTM ((cutTM ls).take x_7)) ∧ setRange (cellsBM x_12.2.2)
 (0 + n_17.toNat * 1) [.bool true] = cellsBM y_40.2.2 ∧ eqqQ (AV.ptr 1 4 0) ∧ eqqQ (AV.sl 7 x_7 0 x_7 1) ∧ eqqQ (AV.int .i64 st) ∧ eqqQ (AV.sl 8 (n_8.toNat * 1) 0 n_8.toNat 1) ∧ eqqQ (AV.int .i64 n_11) ∧ eqqQ (AV.ptr 2 5 0) ∧ eqqQ (AV.lst 0
 (((ofBytes od).drop 0).take ((n_10.toNat - 0) * 1)) (n_10.toNat - 0) 1) ∧ eqqQ (AV.sl 6 x_7 0 x_7 1) ∧ AV.int .i64 n_39 = AV.int .i64 (y_40.1 : Int) ∧ True)))))) else ckQ (decide (0 ≤ n_17) && Nat.blt n_17.toNat n_8.toNat && Nat.beq
 (cellsBM x_12.2.2).length (n_8.toNat * 1) && true) (ckQ (Nat.beq (cellsBM x_12.2.2).length (n_8.toNat * 1) && Nat.blt (0 + n_17.toNat * 1) (n_8.toNat * 1)) (exB ((((cellsBM x_12.2.2).drop (0 + n_17.toNat * 1)).take 1).getD 0 AV.undef) fun
 b_35 => bif false == b_35 then Q (.ret (.bool false)) [] {} else exI .i64 0 fun n_36 => bif decide (n_36 > 1) then Q (.ret (.bool false)) [] {} else exI .i64 0 fun n_37 => bif n_37 == 1 then False else ckQ (decide (0 ≤ n_17) && Nat.blt
 n_17.toNat n_8.toNat && Nat.beq (cellsBM x_12.2.2).length (n_8.toNat * 1) && true) (ckQ (Nat.beq (cellsBM x_12.2.2).length (n_8.toNat * 1) && Nat.blt (0 + n_17.toNat * 1) (n_8.toNat * 1)) (exB ((((cellsBM x_12.2.2).drop (0 + n_17.toNat *
 1)).take 1).getD 0 AV.undef) fun b_38 => bif b_38 then ∃ n_39 s_40 s_41 n_42 n_43, AV.agg [.int .i64 e_1, .str key_2, .str salt_3, .int .i64 x_12.2.1.1, .int .u64 (x_12.2.1.2 : Int)] = AV.agg [.int .i64 n_39, .str s_40, .str s_41, .int
 .i64 n_42, .int .u64 n_43] ∧ bif !(n_27 == n_39 && (eqB s_28 s_40 && (eqB s_29 s_41 && (n_30 == n_42 && (n_31 == n_43 && true) && true)))) then Q (.ret (.bool false)) [] {} else ckQ (decide (0 ≤ n_17) && Nat.blt n_17.toNat n_8.toNat &&
 Nat.beq (cellsBM x_12.2.2).length (n_8.toNat * 1) && true) (ckQ (Nat.beq (cellsBM x_12.2.2).length (n_8.toNat * 1) && Nat.ble (0 + n_17.toNat * 1 + 1) (n_8.toNat * 1) && true && true && true) (exW .i64 ((x_12.1 : Int) + 1) fun n_44 =>
 (True ∧ (0 : Nat) = (0 : Nat)) ∧ ∃ y_45 : Nat × Wn × List Bool, Lf (y_45.1 ≤ 12 ∧ y_45.2.2.length = x_7 ∧ okWM y_45.2.1.1 y_45.2.1.2 = true ∧ y_45.2.1.2 < 18446744073709551616 ∧ y_45.2.1.1 < st + (x_7 : Int) ∧ ∀ i_46 : Nat, i_46 < x_7 →
 isFreshM y_45.2.1.1 y_45.2.1.2 (st + (i_46 : Int)) = !y_45.2.2.getD i_46 false) ∧ 13 - y_45.1 < 13 - x_12.1 ∧ eqqQ [AV.int .u16 ep, .int .u16 st, .int .u8 kk, .int .u8 sk, .lst 0 (ofBytes sn) sn.length 1] ∧ eqqQ [AV.int .i64 e_1, .int .i64
 (st + (x_7 : Int)), .str key_2, .str salt_3] ∧ [AV.int .i64 n_27, .str s_28, .str s_29, .int .i64 n_30, .int .u64 n_31] = [AV.int .i64 e_1, .str key_2, .str salt_3, .int .i64 y_45.2.1.1, .int .u64 (y_45.2.1.2 : Int)] ∧ eqqQ [AV.int .i64
 e_1, .int .i64 (st + 1), .str key_2, .str salt_3] ∧ eqqQ [AV.str (boxM e_1 (st + 0) key_2 salt_3 0 ((cutTM ls).getD 0 []))] ∧ eqqQ (cellsTM ((cutTM ls).take 1)) ∧ eqqQ (cellsTM (sentM e_1 st key_2 salt_3 (cutTM ls) x_7)) ∧ eqqQ (cellsTM
 ((cutTM ls).take x_7)) ∧ setRange (cellsBM x_12.2.2) (0 + n_17.toNat * 1) [.bool true] = cellsBM y_45.2.2 ∧ eqqQ (AV.ptr 1 4 0) ∧ eqqQ (AV.sl 7 x_7 0 x_7 1) ∧ eqqQ (AV.int .i64 st) ∧ eqqQ (AV.sl 8 (n_8.toNat * 1) 0 n_8.toNat 1) ∧ eqqQ
 (AV.int .i64 n_11) ∧ eqqQ (AV.ptr 2 5 0) ∧ eqqQ (AV.lst 0 (((ofBytes od).drop 0).take ((n_10.toNat - 0) * 1)) (n_10.toNat - 0) 1) ∧ eqqQ (AV.sl 6 x_7 0 x_7 1) ∧ AV.int .i64 n_44 = AV.int .i64 (y_45.1 : Int) ∧ True)) else ckQ (decide (0 ≤
 n_17) && Nat.blt n_17.toNat n_8.toNat && Nat.beq (cellsBM x_12.2.2).length (n_8.toNat * 1) && true) (ckQ (Nat.beq (cellsBM x_12.2.2).length (n_8.toNat * 1) && Nat.ble (0 + n_17.toNat * 1 + 1) (n_8.toNat * 1) && true && true && true) (exW
 .i64 ((x_12.1 : Int) + 1) fun n_39 => (True ∧ (0 : Nat) = (0 : Nat)) ∧ ∃ y_40 : Nat × Wn × List Bool, Lf (y_40.1 ≤ 12 ∧ y_40.2.2.length = x_7 ∧ okWM y_40.2.1.1 y_40.2.1.2 = true ∧ y_40.2.1.2 < 18446744073709551616 ∧ y_40.2.1.1 < st + (x_7
 : Int) ∧ ∀ i_41 : Nat, i_41 < x_7 → isFreshM y_40.2.1.1 y_40.2.1.2 (st + (i_41 : Int)) = !y_40.2.2.getD i_41 false) ∧ 13 - y_40.1 < 13 - x_12.1 ∧ eqqQ [AV.int .u16 ep, .int .u16 st, .int .u8 kk, .int .u8 sk, .lst 0 (ofBytes sn) sn.length
 1] ∧ eqqQ [AV.int .i64 e_1, .int .i64 (st + (x_7 : Int)), .str key_2, .str salt_3] ∧ [AV.int .i64 n_27, .str s_28, .str s_29, .int .i64 n_30, .int .u64 n_31] = [AV.int .i64 e_1, .str key_2, .str salt_3, .int .i64 y_40.2.1.1, .int .u64
 (y_40.2.1.2 : Int)] ∧ eqqQ [AV.int .i64 e_1, .int .i64 (st + 1), .str key_2, .str salt_3] ∧ eqqQ [AV.str (boxM e_1 (st + 0) key_2 salt_3 0 ((cutTM ls).getD 0 []))] ∧ eqqQ (cellsTM ((cutTM ls).take 1)) ∧ eqqQ (cellsTM (sentM e_1 st key_2
 salt_3 (cutTM ls) x_7)) ∧ eqqQ (cellsTM ((cutTM ls).take x_7)) ∧ setRange (cellsBM x_12.2.2) (0 + n_17.toNat * 1) [.bool true] = cellsBM y_40.2.2 ∧ eqqQ (AV.ptr 1 4 0) ∧ eqqQ (AV.sl 7 x_7 0 x_7 1) ∧ eqqQ (AV.int .i64 st) ∧ eqqQ (AV.sl 8
 (n_8.toNat * 1) 0 n_8.toNat 1) ∧ eqqQ (AV.int .i64 n_11) ∧ eqqQ (AV.ptr 2 5 0) ∧ eqqQ (AV.lst 0 (((ofBytes od).drop 0).take ((n_10.toNat - 0) * 1)) (n_10.toNat - 0) 1) ∧ eqqQ (AV.sl 6 x_7 0 x_7 1) ∧ AV.int .i64 n_39 = AV.int .i64 (y_40.1 :
 Int) ∧ True)))))) else ∀ a_27 : Int, ∀ b_28 : Nat, ∀ out_29 : List Rc, Lf (opensM n_18 s_19 s_20 (Prod.mk n_21 k_24) l_25 = Prod.mk (Prod.mk a_27 b_28) out_29 ∧ okWM a_27 b_28 = true ∧ b_28 < 18446744073709551616 ∧ List.all l_25 rightRM =
 true) → ∃ n_30 s_31 s_32 n_33 n_34, AV.agg [.int .i64 n_18, .str s_19, .str s_20, .int .i64 a_27, .int .u64 (b_28 : Int)] = AV.agg [.int .i64 n_30, .str s_31, .str s_32, .int .i64 n_33, .int .u64 n_34] ∧ ∃ k_35 : Nat, Lf (n_34 = (k_35 :
 Int) ∧ k_35 < 18446744073709551616) ∧ ∀ x_36 : Int, Lf (x_36 = chkM (rcvOkM n_30 s_31 s_32 n_33 k_35)) → bif x_36 != 0 then Q (.ret (.bool false)) [] {} else exI .i64 (out_29.length : Int) fun n_37 => bif n_37 == 1 then ckQ (decide (0 ≤
 n_17) && Nat.blt n_17.toNat n_8.toNat && Nat.beq (cellsBM x_12.2.2).length (n_8.toNat * 1) && true) (ckQ (Nat.beq (cellsBM x_12.2.2).length (n_8.toNat * 1) && Nat.blt (0 + n_17.toNat * 1) (n_8.toNat * 1)) (exB ((((cellsBM x_12.2.2).drop (0
 + n_17.toNat * 1)).take 1).getD 0 AV.undef) fun b_38 => bif true == b_38 then Q (.ret (.bool false)) [] {} else exI .i64 (out_29.length : Int) fun n_39 => bif decide (n_39 > 1) then Q (.ret (.bool false)) [] {} else exI .i64 (out_29.length
 : Int) fun n_40 => bif n_40 == 1 then ckQ (Nat.blt 0 out_29.length && true) (ckQ (Nat.ble 4 (cellsRM out_29).length) (∃ n_41 n_42 n_43 s_44, AV.agg (((cellsRM out_29).drop 0).take 4) = AV.agg [.int .i64 n_41, .int .i64 n_42, .int .i64
 n_43, .str s_44] ∧ exW .i64 (st + n_17) fun n_45 => ckQ (decide (0 ≤ n_17) && Nat.blt n_17.toNat x_7 && Nat.beq (cellsTM ((cutTM ls).take x_7)).length x_7 && true) (ckQ (Nat.beq (cellsTM ((cutTM ls).take x_7)).length x_7 && Nat.blt (0 +
 n_17.toNat * 1) x_7) (exS ((((cellsTM ((cutTM ls).take x_7)).drop (0 + n_17.toNat * 1)).take 1).getD 0 AV.undef) fun s_46 => bif !(n_41 == n_17 && (n_42 == e_1 && (n_43 == n_45 && (eqB s_44 s_46 && true)))) then Q (.ret (.bool false)) []
 {} else ckQ (decide (0 ≤ n_17) && Nat.blt n_17.toNat n_8.toNat && Nat.beq (cellsBM x_12.2.2).length (n_8.toNat * 1) && true) (ckQ (Nat.beq (cellsBM x_12.2.2).length (n_8.toNat * 1) && Nat.blt (0 + n_17.toNat * 1) (n_8.toNat * 1)) (exB
 ((((cellsBM x_12.2.2).drop (0 + n_17.toNat * 1)).take 1).getD 0 AV.undef) fun b_47 => bif b_47 then ∃ n_48 s_49 s_50 n_51 n_52, AV.agg [.int .i64 e_1, .str key_2, .str salt_3, .int .i64 x_12.2.1.1, .int .u64 (x_12.2.1.2 : Int)] = AV.agg
 [.int .i64 n_48, .str s_49, .str s_50, .int .i64 n_51, .int .u64 n_52] ∧ bif !(n_30 == n_48 && (eqB s_31 s_49 && (eqB s_32 s_50 && (n_33 == n_51 && (n_34 == n_52 && true) && true)))) then Q (.ret (.bool false)) [] {} else ckQ (decide (0 ≤
 n_17) && Nat.blt n_17.toNat n_8.toNat && Nat.beq (cellsBM x_12.2.2).length (n_8.toNat * 1) && true) (ckQ (Nat.beq (cellsBM x_12.2.2).length (n_8.toNat * 1) && Nat.ble (0 + n_17.toNat * 1 + 1) (n_8.toNat * 1) && true && true && true) (exW
 .i64 ((x_12.1 : Int) + 1) fun n_53 => (True ∧ (0 : Nat) = (0 : Nat)) ∧ ∃ y_54 : Nat × Wn × List Bool, Lf (y_54.1 ≤ 12 ∧ y_54.2.2.length = x_7 ∧ okWM y_54.2.1.1 y_54.2.1.2 = true ∧ y_54.2.1.2 < 18446744073709551616 ∧ y_54.2.1.1 < st + (x_7
 : Int) ∧ ∀ i_55 : Nat, i_55 < x_7 → isFreshM y_54.2.1.1 y_54.2.1.2 (st + (i_55 : Int)) = !y_54.2.2.getD i_55 false) ∧ 13 - y_54.1 < 13 - x_12.1 ∧ eqqQ [AV.int .u16 ep, .int .u16 st, .int .u8 kk, .int .u8 sk, .lst 0 (ofBytes sn) sn.length
 1] ∧ eqqQ [AV.int .i64 e_1, .int .i64 (st + (x_7 : Int)), .str key_2, .str salt_3] ∧ [AV.int .i64 n_30, .str s_31, .str s_32, .int .i64 n_33, .int .u64 n_34] = [AV.int .i64 e_1, .str key_2, .str salt_3, .int .i64 y_54.2.1.1, .int .u64
 (y_54.2.1.2 : Int)] ∧ eqqQ [AV.int .i64 e_1, .int .i64 (st + 1), .str key_2, .str salt_3] ∧ eqqQ [AV.str (boxM e_1 (st + 0) key_2 salt_3 0 ((cutTM ls).getD 0 []))] ∧ eqqQ (cellsTM ((cutTM ls).take 1)) ∧ eqqQ (cellsTM (sentM e_1 st key_2
 salt_3 (cutTM ls) x_7)) ∧ eqqQ (cellsTM ((cutTM ls).take x_7)) ∧ setRange (cellsBM x_12.2.2) (0 + n_17.toNat * 1) [.bool true] = cellsBM y_54.2.2 ∧ eqqQ (AV.ptr 1 4 0) ∧ eqqQ (AV.sl 7 x_7 0 x_7 1) ∧ eqqQ (AV.int .i64 st) ∧ eqqQ (AV.sl 8
 (n_8.toNat * 1) 0 n_8.toNat 1) ∧ eqqQ (AV.int .i64 n_11) ∧ eqqQ (AV.ptr 2 5 0) ∧ eqqQ (AV.lst 0 (((ofBytes od).drop 0).take ((n_10.toNat - 0) * 1)) (n_10.toNat - 0) 1) ∧ eqqQ (AV.sl 6 x_7 0 x_7 1) ∧ AV.int .i64 n_53 = AV.int .i64 (y_54.1 :
 Int) ∧ True)) else ckQ (decide (0 ≤ n_17) && Nat.blt n_17.toNat n_8.toNat && Nat.beq (cellsBM x_12.2.2).length (n_8.toNat * 1) && true) (ckQ (Nat.beq (cellsBM x_12.2.2).length (n_8.toNat * 1) && Nat.ble (0 + n_17.toNat * 1 + 1) (n_8.toNat
 * 1) && true && true && true) (exW .i64 ((x_12.1 : Int) + 1) fun n_48 => (True ∧ (0 : Nat) = (0 : Nat)) ∧ ∃ y_49 : Nat × Wn × List Bool, Lf (y_49.1 ≤ 12 ∧ y_49.2.2.length = x_7 ∧ okWM y_49.2.1.1 y_49.2.1.2 = true ∧ y_49.2.1.2 <
 18446744073709551616 ∧ y_49.2.1.1 < st + (x_7 : Int) ∧ ∀ i_50 : Nat, i_50 < x_7 → isFreshM y_49.2.1.1 y_49.2.1.2 (st + (i_50 : Int)) = !y_49.2.2.getD i_50 false) ∧ 13 - y_49.1 < 13 - x_12.1 ∧ eqqQ [AV.int .u16 ep, .int .u16 st, .int .u8
 kk, .int .u8 sk, .lst 0 (ofBytes sn) sn.length 1] ∧ eqqQ [AV.int .i64 e_1, .int .i64 (st + (x_7 : Int)), .str key_2, .str salt_3] ∧ [AV.int .i64 n_30, .str s_31, .str s_32, .int .i64 n_33, .int .u64 n_34] = [AV.int .i64 e_1, .str key_2,
 .str salt_3, .int .i64 y_49.2.1.1, .int .u64 (y_49.2.1.2 : Int)] ∧ eqqQ [AV.int .i64 e_1, .int .i64 (st + 1), .str key_2, .str salt_3] ∧ eqqQ [AV.str (boxM e_1 (st + 0) key_2 salt_3 0 ((cutTM ls).getD 0 []))] ∧ eqqQ (cellsTM ((cutTM
 ls).take 1)) ∧ eqqQ (cellsTM (sentM e_1 st key_2 salt_3 (cutTM ls) x_7)) ∧ eqqQ (cellsTM ((cutTM ls).take x_7)) ∧ setRange (cellsBM x_12.2.2) (0 + n_17.toNat * 1) [.bool true] = cellsBM y_49.2.2 ∧ eqqQ (AV.ptr 1 4 0) ∧ eqqQ (AV.sl 7 x_7 0
 x_7 1) ∧ eqqQ (AV.int .i64 st) ∧ eqqQ (AV.sl 8 (n_8.toNat * 1) 0 n_8.toNat 1) ∧ eqqQ (AV.int .i64 n_11) ∧ eqqQ (AV.ptr 2 5 0) ∧ eqqQ (AV.lst 0 (((ofBytes od).drop 0).take ((n_10.toNat - 0) * 1)) (n_10.toNat - 0) 1) ∧ eqqQ (AV.sl 6 x_7 0
 x_7 1) ∧ AV.int .i64 n_48 = AV.int .i64 (y_49.1 : Int) ∧ True)))))))) else ckQ (decide (0 ≤ n_17) && Nat.blt n_17.toNat n_8.toNat && Nat.beq (cellsBM x_12.2.2).length (n_8.toNat * 1) && true) (ckQ (Nat.beq (cellsBM x_12.2.2).length
 (n_8.toNat * 1) && Nat.blt (0 + n_17.toNat * 1) (n_8.toNat * 1)) (exB ((((cellsBM x_12.2.2).drop (0 + n_17.toNat * 1)).take 1).getD 0 AV.undef) fun b_41 => bif b_41 then ∃ n_42 s_43 s_44 n_45 n_46, AV.agg [.int .i64 e_1, .str key_2, .str
 salt_3, .int .i64 x_12.2.1.1, .int .u64 (x_12.2.1.2 : Int)] = AV.agg [.int .i64 n_42, .str s_43, .str s_44, .int .i64 n_45, .int .u64 n_46] ∧ bif !(n_30 == n_42 && (eqB s_31 s_43 && (eqB s_32 s_44 && (n_33 == n_45 && (n_34 == n_46 && true)
 && true)))) then Q (.ret (.bool false)) [] {} else ckQ (decide (0 ≤ n_17) && Nat.blt n_17.toNat n_8.toNat && Nat.beq (cellsBM x_12.2.2).length (n_8.toNat * 1) && true) (ckQ (Nat.beq (cellsBM x_12.2.2).length (n_8.toNat * 1) && Nat.ble (0 +
 n_17.toNat * 1 + 1) (n_8.toNat * 1) && true && true && true) (exW .i64 ((x_12.1 : Int) + 1) fun n_47 => (True ∧ (0 : Nat) = (0 : Nat)) ∧ ∃ y_48 : Nat × Wn × List Bool, Lf (y_48.1 ≤ 12 ∧ y_48.2.2.length = x_7 ∧ okWM y_48.2.1.1 y_48.2.1.2 =
 true ∧ y_48.2.1.2 < 18446744073709551616 ∧ y_48.2.1.1 < st + (x_7 : Int) ∧ ∀ i_49 : Nat, i_49 < x_7 → isFreshM y_48.2.1.1 y_48.2.1.2 (st + (i_49 : Int)) = !y_48.2.2.getD i_49 false) ∧ 13 - y_48.1 < 13 - x_12.1 ∧ eqqQ [AV.int .u16 ep, .int
 .u16 st, .int .u8 kk, .int .u8 sk, .lst 0 (ofBytes sn) sn.length 1] ∧ eqqQ [AV.int .i64 e_1, .int .i64 (st + (x_7 : Int)), .str key_2, .str salt_3] ∧ [AV.int .i64 n_30, .str s_31, .str s_32, .int .i64 n_33, .int .u64 n_34] = [AV.int .i64
 e_1, .str key_2, .str salt_3, .int .i64 y_48.2.1.1, .int .u64 (y_48.2.1.2 : Int)] ∧ eqqQ [AV.int .i64 e_1, .int .i64 (st + 1), .str key_2, .str salt_3] ∧ eqqQ [AV.str (boxM e_1 (st + 0) key_2 salt_3 0 ((cutTM ls).getD 0 []))] ∧ eqqQ
 (cellsTM ((cutTM ls).take 1)) ∧ eqqQ (cellsTM (sentM e_1 st key_2 salt_3 (cutTM ls) x_7)) ∧ eqqQ (cellsTM ((cutTM ls).take x_7)) ∧ setRange (cellsBM x_12.2.2) (0 + n_17.toNat * 1) [.bool true] = cellsBM y_48.2.2 ∧ eqqQ (AV.ptr 1 4 0) ∧
 eqqQ (AV.sl 7 x_7 0 x_7 1) ∧ eqqQ (AV.int .i64 st) ∧ eqqQ (AV.sl 8 (n_8.toNat * 1) 0 n_8.toNat 1) ∧ eqqQ (AV.int .i64 n_11) ∧ eqqQ (AV.ptr 2 5 0) ∧ eqqQ (AV.lst 0 (((ofBytes od).drop 0).take ((n_10.toNat - 0) * 1)) (n_10.toNat - 0) 1) ∧
 eqqQ (AV.sl 6 x_7 0 x_7 1) ∧ AV.int .i64 n_47 = AV.int .i64 (y_48.1 : Int) ∧ True)) else ckQ (decide (0 ≤ n_17) && Nat.blt n_17.toNat n_8.toNat && Nat.beq (cellsBM x_12.2.2).length (n_8.toNat * 1) && true) (ckQ (Nat.beq (cellsBM
 x_12.2.2).length (n_8.toNat * 1) && Nat.ble (0 + n_17.toNat * 1 + 1) (n_8.toNat * 1) && true && true && true) (exW .i64 ((x_12.1 : Int) + 1) fun n_42 => (True ∧ (0 : Nat) = (0 : Nat)) ∧ ∃ y_43 : Nat × Wn × List Bool, Lf (y_43.1 ≤ 12 ∧
 y_43.2.2.length = x_7 ∧ okWM y_43.2.1.1 y_43.2.1.2 = true ∧ y_43.2.1.2 < 18446744073709551616 ∧ y_43.2.1.1 < st + (x_7 : Int) ∧ ∀ i_44 : Nat, i_44 < x_7 → isFreshM y_43.2.1.1 y_43.2.1.2 (st + (i_44 : Int)) = !y_43.2.2.getD i_44 false) ∧ 13
 - y_43.1 < 13 - x_12.1 ∧ eqqQ [AV.int .u16 ep, .int .u16 st, .int .u8 kk, .int .u8 sk, .lst 0 (ofBytes sn) sn.length 1] ∧ eqqQ [AV.int .i64 e_1, .int .i64 (st + (x_7 : Int)), .str key_2, .str salt_3] ∧ [AV.int .i64 n_30, .str s_31, .str
 s_32, .int .i64 n_33, .int .u64 n_34] = [AV.int .i64 e_1, .str key_2, .str salt_3, .int .i64 y_43.2.1.1, .int .u64 (y_43.2.1.2 : Int)] ∧ eqqQ [AV.int .i64 e_1, .int .i64 (st + 1), .str key_2, .str salt_3] ∧ eqqQ [AV.str (boxM e_1 (st + 0)
 key_2 salt_3 0 ((cutTM ls).getD 0 []))] ∧ eqqQ (cellsTM ((cutTM ls).take 1)) ∧ eqqQ (cellsTM (sentM e_1 st key_2 salt_3 (cutTM ls) x_7)) ∧ eqqQ (cellsTM ((cutTM ls).take x_7)) ∧ setRange (cellsBM x_12.2.2) (0 + n_17.toNat * 1) [.bool true]
 = cellsBM y_43.2.2 ∧ eqqQ (AV.ptr 1 4 0) ∧ eqqQ (AV.sl 7 x_7 0 x_7 1) ∧ eqqQ (AV.int .i64 st) ∧ eqqQ (AV.sl 8 (n_8.toNat * 1) 0 n_8.toNat 1) ∧ eqqQ (AV.int .i64 n_11) ∧ eqqQ (AV.ptr 2 5 0) ∧ eqqQ (AV.lst 0 (((ofBytes od).drop 0).take
 ((n_10.toNat - 0) * 1)) (n_10.toNat - 0) 1) ∧ eqqQ (AV.sl 6 x_7 0 x_7 1) ∧ AV.int .i64 n_42 = AV.int .i64 (y_43.1 : Int) ∧ True)))))) else ckQ (decide (0 ≤ n_17) && Nat.blt n_17.toNat n_8.toNat && Nat.beq (cellsBM x_12.2.2).length
 (n_8.toNat * 1) && true) (ckQ (Nat.beq (cellsBM x_12.2.2).length (n_8.toNat * 1) && Nat.blt (0 + n_17.toNat * 1) (n_8.toNat * 1)) (exB ((((cellsBM x_12.2.2).drop (0 + n_17.toNat * 1)).take 1).getD 0 AV.undef) fun b_38 => bif false == b_38
 then Q (.ret (.bool false)) [] {} else exI .i64 (out_29.length : Int) fun n_39 => bif decide (n_39 > 1) then Q (.ret (.bool false)) [] {} else exI .i64 (out_29.length : Int) fun n_40 => bif n_40 == 1 then ckQ (Nat.blt 0 out_29.length &&
 true) (ckQ (Nat.ble 4 (cellsRM out_29).length) (∃ n_41 n_42 n_43 s_44, AV.agg (((cellsRM out_29).drop 0).take 4) = AV.agg [.int .i64 n_41, .int .i64 n_42, .int .i64 n_43, .str s_44] ∧ exW .i64 (st + n_17) fun n_45 => ckQ (decide (0 ≤ n_17)
 && Nat.blt n_17.toNat x_7 && Nat.beq (cellsTM ((cutTM ls).take x_7)).length x_7 && true) (ckQ (Nat.beq (cellsTM ((cutTM ls).take x_7)).length x_7 && Nat.blt (0 + n_17.toNat * 1) x_7) (exS ((((cellsTM ((cutTM ls).take x_7)).drop (0 +
 n_17.toNat * 1)).take 1).getD 0 AV.undef) fun s_46 => bif !(n_41 == n_17 && (n_42 == e_1 && (n_43 == n_45 && (eqB s_44 s_46 && true)))) then Q (.ret (.bool false)) [] {} else ckQ (decide (0 ≤ n_17) && Nat.blt n_17.toNat n_8.toNat &&
 Nat.beq (cellsBM x_12.2.2).length (n_8.toNat * 1) && true) (ckQ (Nat.beq (cellsBM x_12.2.2).length (n_8.toNat * 1) && Nat.blt (0 + n_17.toNat * 1) (n_8.toNat * 1)) (exB ((((cellsBM x_12.2.2).drop (0 + n_17.toNat * 1)).take 1).getD 0
 AV.undef) fun b_47 => bif b_47 then ∃ n_48 s_49 s_50 n_51 n_52, AV.agg [.int .i64 e_1, .str key_2, .str salt_3, .int .i64 x_12.2.1.1, .int .u64 (x_12.2.1.2 : Int)] = AV.agg [.int .i64 n_48, .str s_49, .str s_50, .int .i64 n_51, .int .u64
 n_52] ∧ bif !(n_30 == n_48 && (eqB s_31 s_49 && (eqB s_32 s_50 && (n_33 == n_51 && (n_34 == n_52 && true) && true)))) then Q (.ret (.bool false)) [] {} else ckQ (decide (0 ≤ n_17) && Nat.blt n_17.toNat n_8.toNat && Nat.beq (cellsBM
 x_12.2.2).length (n_8.toNat * 1) && true) (ckQ (Nat.beq (cellsBM x_12.2.2).length (n_8.toNat * 1) && Nat.ble (0 + n_17.toNat * 1 + 1) (n_8.toNat * 1) && true && true && true) (exW .i64 ((x_12.1 : Int) + 1) fun n_53 => (True ∧ (0 : Nat) =
 (0 : Nat)) ∧ ∃ y_54 : Nat × Wn × List Bool, Lf (y_54.1 ≤ 12 ∧ y_54.2.2.length = x_7 ∧ okWM y_54.2.1.1 y_54.2.1.2 = true ∧ y_54.2.1.2 < 18446744073709551616 ∧ y_54.2.1.1 < st + (x_7 : Int) ∧ ∀ i_55 : Nat, i_55 < x_7 → isFreshM y_54.2.1.1
 y_54.2.1.2 (st + (i_55 : Int)) = !y_54.2.2.getD i_55 false) ∧ 13 - y_54.1 < 13 - x_12.1 ∧ eqqQ [AV.int .u16 ep, .int .u16 st, .int .u8 kk, .int .u8 sk, .lst 0 (ofBytes sn) sn.length 1] ∧ eqqQ [AV.int .i64 e_1, .int .i64 (st + (x_7 : Int)),
 .str key_2, .str salt_3] ∧ [AV.int .i64 n_30, .str s_31, .str s_32, .int .i64 n_33, .int .u64 n_34] = [AV.int .i64 e_1, .str key_2, .str salt_3, .int .i64 y_54.2.1.1, .int .u64 (y_54.2.1.2 : Int)] ∧ eqqQ [AV.int .i64 e_1, .int .i64 (st +
 1), .str key_2, .str salt_3] ∧ eqqQ [AV.str (boxM e_1 (st + 0) key_2 salt_3 0 ((cutTM ls).getD 0 []))] ∧ eqqQ (cellsTM ((cutTM ls).take 1)) ∧ eqqQ (cellsTM (sentM e_1 st key_2 salt_3 (cutTM ls) x_7)) ∧ eqqQ (cellsTM ((cutTM ls).take x_7))
 ∧ setRange (cellsBM x_12.2.2) (0 + n_17.toNat * 1) [.bool true] = cellsBM y_54.2.2 ∧ eqqQ (AV.ptr 1 4 0) ∧ eqqQ (AV.sl 7 x_7 0 x_7 1) ∧ eqqQ (AV.int .i64 st) ∧ eqqQ (AV.sl 8 (n_8.toNat * 1) 0 n_8.toNat 1) ∧ eqqQ (AV.int .i64 n_11) ∧ eqqQ
 (AV.ptr 2 5 0) ∧ eqqQ (AV.lst 0 (((ofBytes od).drop 0).take ((n_10.toNat - 0) * 1)) (n_10.toNat - 0) 1) ∧ eqqQ (AV.sl 6 x_7 0 x_7 1) ∧ AV.int .i64 n_53 = AV.int .i64 (y_54.1 : Int) ∧ True)) else ckQ (decide (0 ≤ n_17) && Nat.blt n_17.toNat
 n_8.toNat && Nat.beq (cellsBM x_12.2.2).length (n_8.toNat * 1) && true) (ckQ (Nat.beq (cellsBM x_12.2.2).length (n_8.toNat * 1) && Nat.ble (0 + n_17.toNat * 1 + 1) (n_8.toNat * 1) && true && true && true) (exW .i64 ((x_12.1 : Int) + 1) fun
 n_48 => (True ∧ (0 : Nat) = (0 : Nat)) ∧ ∃ y_49 : Nat × Wn × List Bool, Lf (y_49.1 ≤ 12 ∧ y_49.2.2.length = x_7 ∧ okWM y_49.2.1.1 y_49.2.1.2 = true ∧ y_49.2.1.2 < 18446744073709551616 ∧ y_49.2.1.1 < st + (x_7 : Int) ∧ ∀ i_50 : Nat, i_50 <
 x_7 → isFreshM y_49.2.1.1 y_49.2.1.2 (st + (i_50 : Int)) = !y_49.2.2.getD i_50 false) ∧ 13 - y_49.1 < 13 - x_12.1 ∧ eqqQ [AV.int .u16 ep, .int .u16 st, .int .u8 kk, .int .u8 sk, .lst 0 (ofBytes sn) sn.length 1] ∧ eqqQ [AV.int .i64 e_1,
 .int .i64 (st + (x_7 : Int)), .str key_2, .str salt_3] ∧ [AV.int .i64 n_30, .str s_31, .str s_32, .int .i64 n_33, .int .u64 n_34] = [AV.int .i64 e_1, .str key_2, .str salt_3, .int .i64 y_49.2.1.1, .int .u64 (y_49.2.1.2 : Int)] ∧ eqqQ
 [AV.int .i64 e_1, .int .i64 (st + 1), .str key_2, .str salt_3] ∧ eqqQ [AV.str (boxM e_1 (st + 0) key_2 salt_3 0 ((cutTM ls).getD 0 []))] ∧ eqqQ (cellsTM ((cutTM ls).take 1)) ∧ eqqQ (cellsTM (sentM e_1 st key_2 salt_3 (cutTM ls) x_7)) ∧
 eqqQ (cellsTM ((cutTM ls).take x_7)) ∧ setRange (cellsBM x_12.2.2) (0 + n_17.toNat * 1) [.bool true] = cellsBM y_49.2.2 ∧ eqqQ (AV.ptr 1 4 0) ∧ eqqQ (AV.sl 7 x_7 0 x_7 1) ∧ eqqQ (AV.int .i64 st) ∧ eqqQ (AV.sl 8 (n_8.toNat * 1) 0 n_8.toNat
 1) ∧ eqqQ (AV.int .i64 n_11) ∧ eqqQ (AV.ptr 2 5 0) ∧ eqqQ (AV.lst 0 (((ofBytes od).drop 0).take ((n_10.toNat - 0) * 1)) (n_10.toNat - 0) 1) ∧ eqqQ (AV.sl 6 x_7 0 x_7 1) ∧ AV.int .i64 n_48 = AV.int .i64 (y_49.1 : Int) ∧ True)))))))) else
 ckQ (decide (0 ≤ n_17) && Nat.blt n_17.toNat n_8.toNat && Nat.beq (cellsBM x_12.2.2).length (n_8.toNat * 1) && true) (ckQ (Nat.beq (cellsBM x_12.2.2).length (n_8.toNat * 1) && Nat.blt (0 + n_17.toNat * 1) (n_8.toNat * 1)) (exB ((((cellsBM
 x_12.2.2).drop (0 + n_17.toNat * 1)).take 1).getD 0 AV.undef) fun b_41 => bif b_41 then ∃ n_42 s_43 s_44 n_45 n_46, AV.agg [.int .i64 e_1, .str key_2, .str salt_3, .int .i64 x_12.2.1.1, .int .u64 (x_12.2.1.2 : Int)] = AV.agg [.int .i64
 n_42, .str s_43, .str s_44, .int .i64 n_45, .int .u64 n_46] ∧ bif !(n_30 == n_42 && (eqB s_31 s_43 && (eqB s_32 s_44 && (n_33 == n_45 && (n_34 == n_46 && true) && true)))) then Q (.ret (.bool false)) [] {} else ckQ (decide (0 ≤ n_17) &&
 Nat.blt n_17.toNat n_8.toNat && Nat.beq (cellsBM x_12.2.2).length (n_8.toNat * 1) && true) (ckQ (Nat.beq (cellsBM x_12.2.2).length (n_8.toNat * 1) && Nat.ble (0 + n_17.toNat * 1 + 1) (n_8.toNat * 1) && true && true && true) (exW .i64
 ((x_12.1 : Int) + 1) fun n_47 => (True ∧ (0 : Nat) = (0 : Nat)) ∧ ∃ y_48 : Nat × Wn × List Bool, Lf (y_48.1 ≤ 12 ∧ y_48.2.2.length = x_7 ∧ okWM y_48.2.1.1 y_48.2.1.2 = true ∧ y_48.2.1.2 < 18446744073709551616 ∧ y_48.2.1.1 < st + (x_7 :
 Int) ∧ ∀ i_49 : Nat, i_49 < x_7 → isFreshM y_48.2.1.1 y_48.2.1.2 (st + (i_49 : Int)) = !y_48.2.2.getD i_49 false) ∧ 13 - y_48.1 < 13 - x_12.1 ∧ eqqQ [AV.int .u16 ep, .int .u16 st, .int .u8 kk, .int .u8 sk, .lst 0 (ofBytes sn) sn.length 1]
 ∧ eqqQ [AV.int .i64 e_1, .int .i64 (st + (x_7 : Int)), .str key_2, .str salt_3] ∧ [AV.int .i64 n_30, .str s_31, .str s_32, .int .i64 n_33, .int .u64 n_34] = [AV.int .i64 e_1, .str key_2, .str salt_3, .int .i64 y_48.2.1.1, .int .u64
 (y_48.2.1.2 : Int)] ∧ eqqQ [AV.int .i64 e_1, .int .i64 (st + 1), .str key_2, .str salt_3] ∧ eqqQ [AV.str (boxM e_1 (st + 0) key_2 salt_3 0 ((cutTM ls).getD 0 []))] ∧ eqqQ (cellsTM ((cutTM ls).take 1)) ∧ eqqQ (cellsTM (sentM e_1 st key_2
 salt_3 (cutTM ls) x_7)) ∧ eqqQ (cellsTM ((cutTM ls).take x_7)) ∧ setRange (cellsBM x_12.2.2) (0 + n_17.toNat * 1) [.bool true] = cellsBM y_48.2.2 ∧ eqqQ (AV.ptr 1 4 0) ∧ eqqQ (AV.sl 7 x_7 0 x_7 1) ∧ eqqQ (AV.int .i64 st) ∧ eqqQ (AV.sl 8
 (n_8.toNat * 1) 0 n_8.toNat 1) ∧ eqqQ (AV.int .i64 n_11) ∧ eqqQ (AV.ptr 2 5 0) ∧ eqqQ (AV.lst 0 (((ofBytes od).drop 0).take ((n_10.toNat - 0) * 1)) (n_10.toNat - 0) 1) ∧ eqqQ (AV.sl 6 x_7 0 x_7 1) ∧ AV.int .i64 n_47 = AV.int .i64 (y_48.1 :
 Int) ∧ True)) else ckQ (decide (0 ≤ n_17) && Nat.blt n_17.toNat n_8.toNat && Nat.beq (cellsBM x_12.2.2).length (n_8.toNat * 1) && true) (ckQ (Nat.beq (cellsBM x_12.2.2).length (n_8.toNat * 1) && Nat.ble (0 + n_17.toNat * 1 + 1) (n_8.toNat
 * 1) && true && true && true) (exW .i64 ((x_12.1 : Int) + 1) fun n_42 => (True ∧ (0 : Nat) = (0 : Nat)) ∧ ∃ y_43 : Nat × Wn × List Bool, Lf (y_43.1 ≤ 12 ∧ y_43.2.2.length = x_7 ∧ okWM y_43.2.1.1 y_43.2.1.2 = true ∧ y_43.2.1.2 <
 18446744073709551616 ∧ y_43.2.1.1 < st + (x_7 : Int) ∧ ∀ i_44 : Nat, i_44 < x_7 → isFreshM y_43.2.1.1 y_43.2.1.2 (st + (i_44 : Int)) = !y_43.2.2.getD i_44 false) ∧ 13 - y_43.1 < 13 - x_12.1 ∧ eqqQ [AV.int .u16 ep, .int .u16 st, .int .u8
 kk, .int .u8 sk, .lst 0 (ofBytes sn) sn.length 1] ∧ eqqQ [AV.int .i64 e_1, .int .i64 (st + (x_7 : Int)), .str key_2, .str salt_3] ∧ [AV.int .i64 n_30, .str s_31, .str s_32, .int .i64 n_33, .int .u64 n_34] = [AV.int .i64 e_1, .str key_2,
 .str salt_3, .int .i64 y_43.2.1.1, .int .u64 (y_43.2.1.2 : Int)] ∧ eqqQ [AV.int .i64 e_1, .int .i64 (st + 1), .str key_2, .str salt_3] ∧ eqqQ [AV.str (boxM e_1 (st + 0) key_2 salt_3 0 ((cutTM ls).getD 0 []))] ∧ eqqQ (cellsTM ((cutTM
 ls).take 1)) ∧ eqqQ (cellsTM (sentM e_1 st key_2 salt_3 (cutTM ls) x_7)) ∧ eqqQ (cellsTM ((cutTM ls).take x_7)) ∧ setRange (cellsBM x_12.2.2) (0 + n_17.toNat * 1) [.bool true] = cellsBM y_43.2.2 ∧ eqqQ (AV.ptr 1 4 0) ∧ eqqQ (AV.sl 7 x_7 0
 x_7 1) ∧ eqqQ (AV.int .i64 st) ∧ eqqQ (AV.sl 8 (n_8.toNat * 1) 0 n_8.toNat 1) ∧ eqqQ (AV.int .i64 n_11) ∧ eqqQ (AV.ptr 2 5 0) ∧ eqqQ (AV.lst 0 (((ofBytes od).drop 0).take ((n_10.toNat - 0) * 1)) (n_10.toNat - 0) 1) ∧ eqqQ (AV.sl 6 x_7 0
 x_7 1) ∧ AV.int .i64 n_42 = AV.int .i64 (y_43.1 : Int) ∧ True))))))))))))) else Q (.ret (.bool true)) [] {}))))) := by kernel_rfl

/-! ## cells -/
theorem cellsT_len : ∀ l, (cellsTM l).length = l.length
  | [] => rfl
  | x :: l => by simp [cellsTM, cellsT_len l]
theorem cellsT_app : ∀ a b, cellsTM (a ++ b) = cellsTM a ++ cellsTM b
  | [], b => rfl
  | x :: a, b => by simp [cellsTM, cellsT_app a b]
theorem cellsT_map : ∀ l, cellsTM l = l.map AV.str
  | [] => rfl
  | x :: l => by simp [cellsTM, cellsT_map l]
theorem cellsB_map : ∀ l, cellsBM l = l.map AV.bool
  | [] => rfl
  | x :: l => by simp [cellsBM, cellsB_map l]
theorem cellsB_len (l : List Bool) : (cellsBM l).length = l.length := by rw [cellsB_map, List.length_map]
theorem cellsT_take (n : Nat) (l : List (List UInt8)) : (cellsTM l).take n = cellsTM (l.take n) := by rw [cellsT_map, cellsT_map, List.map_take]
theorem cellsB_old (l : List Bool) : oldL 0 (cellsBM l) = true := by
  induction l with
  | nil => rfl
  | cons x l ih => simp [cellsBM, oldL, old, ih]
theorem getT0 {l : List (List UInt8)} {i m : Nat} {s : List UInt8} (hi : i < l.length) (hs : l.getD i [] = s) (hm : m = i) {K : List UInt8 → Prop} (hk : K s) : ∃ t : List UInt8, (cellsTM l).getD m AV.undef = AV.str t ∧ K t := by
  subst hm
  refine ⟨s, ?_, hk⟩
  rw [cellsT_map, List.getD_eq_getElem?_getD, List.getElem?_map, List.getElem?_eq_getElem hi]
  rw [List.getD_eq_getElem?_getD, List.getElem?_eq_getElem hi] at hs
  simp at hs ⊢
  exact hs
theorem getT {l : List (List UInt8)} {i m : Nat} {s : List UInt8} (hi : i < l.length) (hs : l.getD i [] = s) (hm : m = i) {K : List UInt8 → Prop} (hk : K s) : ∃ t : List UInt8, (List.take 1 (List.drop m (cellsTM l))).getD 0 AV.undef = AV.str t ∧ K t := by
  subst hm
  refine ⟨s, ?_, hk⟩
  rw [cellsT_map, List.drop_eq_getElem_cons (by simpa using hi)]
  rw [List.getD_eq_getElem?_getD, List.getElem?_eq_getElem hi] at hs
  simp at hs ⊢
  exact hs
theorem getBo {l : List Bool} {i m : Nat} {b : Bool} (hi : i < l.length) (hs : l.getD i false = b) (hm : m = i) {K : Bool → Prop} (hk : K b) : ∃ t : Bool, (List.take 1 (List.drop m (cellsBM l))).getD 0 AV.undef = AV.bool t ∧ K t := by
  subst hm
  refine ⟨b, ?_, hk⟩
  rw [cellsB_map, List.drop_eq_getElem_cons (by simpa using hi)]
  rw [List.getD_eq_getElem?_getD, List.getElem?_eq_getElem hi] at hs
  simp at hs ⊢
  exact hs
theorem setBo {l : List Bool} {i m : Nat} {b : Bool} (hi : i < l.length) (hm : m = i) : setRange (cellsBM l) m [AV.bool b] = cellsBM (l.set i b) := by
  subst hm
  rw [cellsB_map, cellsB_map, setRange, List.map_set, List.set_eq_take_append_cons_drop, if_pos (by simpa using hi)]
  simp
theorem getO2 {s : List UInt8} {j m : Nat} (hj : j < s.length) (hm : m = j) {K : Int → Prop} (hk : ∀ c : Nat, c ≤ 255 → K (c : Int)) : ∃ n : Int, List.getD (ofBytes s) m AV.undef = AV.int .u8 n ∧ K n := by
  subst hm
  have := (s.getD m 0).toNat_lt
  refine ⟨_, ?_, hk (s.getD m 0).toNat (by omega)⟩
  simp [ofBytes, List.getD, hj]
theorem ofB_take (n : Nat) (l : List UInt8) : (ofBytes l).take n = ofBytes (l.take n) := by simp [ofBytes, List.map_take]
theorem aggS {e nx : Int} {key salt : List UInt8} {K : Int → Int → List UInt8 → List UInt8 → Prop} (h : K e nx key salt) : ∃ (n0 n1 : Int) (s2 s3 : List UInt8), AV.agg [.int .i64 e, .int .i64 nx, .str key, .str salt] = AV.agg [.int .i64 n0, .int .i64 n1, .str s2, .str s3] ∧ K n0 n1 s2 s3 := ⟨_, _, _, _, rfl, h⟩
theorem sent_len (e st : Int) (key salt : List UInt8) (bs : List (List UInt8)) : ∀ i, (sentM e st key salt bs i).length = i
  | 0 => rfl
  | i + 1 => by rw [sentM, List.length_append, sent_len e st key salt bs i]; rfl
theorem sent_get (e st : Int) (key salt : List UInt8) (bs : List (List UInt8)) : ∀ n i, i < n → (sentM e st key salt bs n).getD i [] = boxM e (st + i) key salt (i : Nat) (bs.getD i [])
  | 0, i, h => by omega
  | n + 1, i, h => by
    rw [sentM, List.getD_eq_getElem?_getD]
    by_cases h2 : i < n
    · rw [List.getElem?_append_left (by rw [sent_len]; exact h2), ← List.getD_eq_getElem?_getD, sent_get e st key salt bs n i h2]
    · have : i = n := by omega
      subst this
      rw [List.getElem?_append_right (by rw [sent_len]; omega), sent_len, Nat.sub_self]
      rfl
theorem cut_len (l : List (List UInt8)) : (cutTM l).length = min 6 l.length := by simp [cutTM]
theorem cut_get {l : List (List UInt8)} {i : Nat} (hi : i < (cutTM l).length) : ∃ s, (l.take 6).getD i [] = s ∧ (cutTM l).getD i [] = s.take 50 := by
  refine ⟨_, rfl, ?_⟩
  have h2 : i < (l.take 6).length := by rw [cut_len] at hi; rw [List.length_take]; exact hi
  rw [cutTM, List.getD_eq_getElem?_getD, List.getElem?_map, List.getElem?_eq_getElem h2, List.getD_eq_getElem?_getD, List.getElem?_eq_getElem h2]
  rfl
theorem take_snocT {l : List (List UInt8)} {i : Nat} (hi : i < l.length) : l.take (i + 1) = l.take i ++ [l.getD i []] := by
  rw [List.take_add_one, List.getElem?_eq_getElem hi, List.getD_eq_getElem?_getD, List.getElem?_eq_getElem hi]
  rfl
theorem repB (n : Nat) : (List.replicate n [AV.bool false]).flatten = cellsBM (List.replicate n false) := by
  induction n with
  | zero => rfl
  | succ n ih => rw [List.replicate_succ, List.flatten_cons, ih]; rfl
/-! ## the run -/
theorem ckNot {b : Bool} {A B : Prop} (h : b = true) (k : B) : (bif !b then A else B) := by rw [h]; exact k
theorem getD_set (l : List Bool) (q p : Nat) (hq : q < l.length) : (l.set q true).getD p false = if p = q then true else l.getD p false := by
  rw [List.getD_eq_getElem?_getD, List.getD_eq_getElem?_getD, List.getElem?_set]
  by_cases h : q = p
  · subst h
    rw [if_pos rfl, if_pos hq, if_pos rfl]
    rfl
  · rw [if_neg h, if_neg (fun g => h g.symm)]
theorem mark_top (t : Int) (k : Nat) (q : Int) : (markWM t k q).1 = if q ≤ t then t else q := by
  rw [markWM]
  split <;> rfl
theorem agg4 {a b c : Int} {s : List UInt8} {K : Int → Int → Int → List UInt8 → Prop} (h : K a b c s) : ∃ (n0 n1 n2 : Int) (s3 : List UInt8), AV.agg [.int .i64 a, .int .i64 b, .int .i64 c, .str s] = AV.agg [.int .i64 n0, .int .i64 n1, .int .i64 n2, .str s3] ∧ K n0 n1 n2 s3 := ⟨_, _, _, _, rfl, h⟩
theorem once_run (ep st kk sk : Int) (sn : List UInt8) (ls : List (List UInt8)) (od : List UInt8) (h1 : 0 ≤ ep ∧ ep ≤ 65535) (h2 : 0 ≤ st ∧ st ≤ 65535) (Q : Out → List Blk → Gh → Prop) (hq : Q (.ret (.bool true)) [] {}) : ∃ hv hb, goal_7 hv hb ep st kk sk sn ls od Q := by
  obtain ⟨hv, hb', e'⟩ : ∃ hv hb, goal_7 hv hb ep st kk sk sn ls od Q = _ := ⟨_, _, vc_7 ep st kk sk sn ls od Q⟩
  refine ⟨hv, hb', e'.mpr ?_⟩
  clear e'
  refine ⟨sn, ⟨rfl, h1, h2⟩, ?_⟩
  rintro e key salt ⟨he, hk, hs⟩
  have he1 : 0 ≤ e ∧ e ≤ 65535 := by omega
  clear he
  refine ⟨_, rfl, iminI (b := 6) rfl (ckI (by simp; omega) ⟨_, rfl, ?_⟩)⟩
  rw [min6, List.drop_zero, List.drop_zero, Nat.mul_one, cellsT_take, take_min]
  have hcl := cut_len ls
  obtain ⟨m, hm⟩ : ∃ m, m = min ls.length 6 := ⟨_, rfl⟩
  rw [← hm]
  have hc6 : (cutTM ls).length = m := by omega
  have ht6 : (ls.take 6).length = m := by rw [List.length_take]; omega
  have htl := cellsT_len (ls.take 6)
  have hsnd : ∀ i : Nat, i < 10 → sndOkM e (st + i) key salt = true := fun i hi => (snd_iff _ _ _ _).2 ⟨he1, hk, hs, by omega, by omega⟩
  refine ⟨.inl ⟨0, ⟨rfl⟩, rfl, rfl, rfl, rfl, rfl, rfl, rfl, rfl, rfl, rfl, rfl, rfl, trivial⟩, ?_, ?_⟩
  · rintro _ ⟨rfl⟩
    refine splitD (fun h3 => ?_) (fun h3 => ?_)
    · have h0 : 0 < (cutTM ls).length := by omega
      obtain ⟨s, g1, g2⟩ := cut_get h0
      refine ⟨_, rfl, ckI (by simp; omega) (ckI (by rw [htl]; simp; omega) (getT0 (i := 0) (by omega) g1 (by simp) ⟨_, rfl, iminI (b := 50) rfl (ckI (by simp; omega) ⟨s.take 50, by rw [take_imin], aggS ⟨⟨by have := hsnd 0 (by omega); rwa [Int.natCast_zero, Int.add_zero] at this, by omega, by omega, by rw [List.length_take]; omega⟩, ?_⟩⟩)⟩))⟩
      rintro box ⟨hbox⟩
      refine aggS ⟨_, rfl, wrapI (by omega) (by omega) (splitNE (fun h => absurd rfl h) (fun _ => splitNE (fun h => absurd rfl h) (fun _ => ?_)))⟩
      rw [eqB_refl, eqB_refl]
      have eS : ∀ u : List UInt8, eqAVL [AV.str u] [AV.str u] = true := fun u => by simp [eqAVL, eqAV, eqB_refl]
      have eD : ∀ (a b : Int) (u v : List UInt8), (eqAVL [AV.int .i64 a, AV.int .i64 b, AV.str u, AV.str v] [AV.int .i64 a, AV.int .i64 b, AV.str u, AV.str v] && true) = true := fun a b u v => by simp [eqAVL, eqAV, eqB_refl]
      have q1 : AV.str box = AV.str (boxM e (st + 0) key salt 0 ((cutTM ls).getD 0 [])) := by rw [hbox, Int.add_zero, g2]; rfl
      have q2 : [AV.str (s.take 50)] = cellsTM ((cutTM ls).take 1) := by
        rw [take_snocT h0, g2]; rfl
      refine ckI (eS _) (ckI (eD _ _ _ _) (ckI (eD _ _ _ _) (wrapI (by omega) (by omega) ⟨⟨trivial, rfl⟩, .inr ⟨1, ⟨by omega, by omega⟩, by omega, rfl, rfl, rfl, rfl, by rw [q1], q2, by rw [q1]; rfl, q2, rfl, rfl, rfl, rfl, rfl, rfl, rfl, rfl, rfl, trivial⟩⟩)))
    · have hm0 : m = 0 := by omega
      have hbl : (ofBytes od).length = od.length := by simp [ofBytes]
      refine ⟨_, rfl, ckI (by simp) ⟨_, rfl, iminI (b := 12) rfl (ckI (by simp; omega) ⟨_, rfl, ⟨⟨0, ⟨rfl⟩, rfl, rfl, rfl, ckI (by simp) ⟨rfl, rfl, rfl, rfl, rfl, rfl, rfl, rfl, rfl, rfl, trivial⟩⟩, ?_⟩⟩)⟩⟩
      rintro _ ⟨rfl⟩
      refine splitD (fun h4 => ?_) (fun _ => hq)
      refine ckI (by simp; omega) (ckI (by rw [List.length_take, hbl]; simp; omega) ?_)
      obtain ⟨y, hy⟩ : ∃ y : List UInt8, List.take (((((min od.length 12 : Nat) : Int)).toNat - 0) * 1) (ofBytes od) = ofBytes y := ⟨_, ofB_take _ _⟩
      rw [hy]
      have hyl : y.length = min od.length 12 := by
        have := congrArg List.length hy
        rw [List.length_take, hbl] at this
        simp [ofBytes] at this
        omega
      exact getO2 (j := 0) (by omega) (by simp) (fun c _ => ⟨_, rfl, splitE (fun _ => hq) (fun h => absurd rfl h)⟩)
  · rintro i ⟨hi⟩
    refine splitD (fun h3 => ?_) (fun h3 => ckI (by rw [cellsT_len, sent_len]; simp) ?_)
    · obtain ⟨s, g1, g2⟩ := cut_get (l := ls) (i := i) (by omega)
      refine ⟨_, rfl, ckI (by simp; omega) (ckI (by rw [htl]; simp; omega) (getT0 (i := i) (by omega) g1 (by simp) ⟨_, rfl, iminI (b := 50) rfl (ckI (by simp; omega) ⟨s.take 50, by rw [take_imin], aggS ⟨⟨hsnd i (by omega), by omega, by omega, by rw [List.length_take]; omega⟩, ?_⟩⟩)⟩))⟩
      rintro box ⟨hbox⟩
      refine aggS ⟨_, rfl, wrapI (by omega) (by omega) (splitNE (fun h => absurd rfl h) (fun _ => splitNE (fun h => absurd rfl h) (fun _ => ?_)))⟩
      rw [eqB_refl, eqB_refl]
      have eS : ∀ u : List UInt8, eqAVL [AV.str u] [AV.str u] = true := fun u => by simp [eqAVL, eqAV, eqB_refl]
      have eD : ∀ (a b : Int) (u v : List UInt8), (eqAVL [AV.int .i64 a, AV.int .i64 b, AV.str u, AV.str v] [AV.int .i64 a, AV.int .i64 b, AV.str u, AV.str v] && true) = true := fun a b u v => by simp [eqAVL, eqAV, eqB_refl]
      have hcl1 := cellsT_len (sentM e st key salt (cutTM ls) i)
      have hcl2 := cellsT_len ((cutTM ls).take i)
      have hcl3 := sent_len e st key salt (cutTM ls) i
      have hcl4 : ((cutTM ls).take i).length = i := by rw [List.length_take]; omega
      have q1 : cellsTM (sentM e st key salt (cutTM ls) i) ++ [AV.str box] = cellsTM (sentM e st key salt (cutTM ls) (i + 1)) := by rw [sentM, cellsT_app, hbox, g2]; rfl
      have q2 : cellsTM ((cutTM ls).take i) ++ [AV.str (s.take 50)] = cellsTM ((cutTM ls).take (i + 1)) := by rw [take_snocT (by omega), cellsT_app, g2]; rfl
      refine ckI (by rw [hcl1, hcl3]; simp; omega) (ckI (eS _) (ckI (eD _ _ _ _) (ckI (by rw [hcl2, hcl4]; simp; omega) (ckI (eD _ _ _ _) (wrapI (by omega) (by omega) ⟨⟨trivial, rfl⟩, .inr ⟨i + 1, ⟨by omega, by omega⟩, by omega, rfl, by rw [Int.natCast_add, ← Int.add_assoc]; rfl, rfl, rfl, rfl, rfl, q1, q2, rfl, rfl, rfl, rfl, rfl, rfl, rfl, rfl, rfl, trivial⟩⟩)))))
    · have hi6 : i = m := by omega
      have hbl : (ofBytes od).length = od.length := by simp [ofBytes]
      have hcb := cellsB_len
      refine ⟨_, rfl, ckI (by simp; omega) ⟨_, rfl, iminI (b := 12) rfl (ckI (by simp; omega) ⟨_, rfl, ⟨⟨(0, (-1, 0), List.replicate i false), ⟨by simp, by simp, (by decide : okWM (-1) 0 = true), (by decide : (0 : Nat) < 18446744073709551616), by dsimp only; omega, fun j hj => ?_⟩, rfl, rfl, rfl, rfl, rfl, rfl, rfl, rfl, ckI (by rw [Int.toNat_natCast, repB, cellsB_old]; rfl) ⟨by rw [Int.toNat_natCast]; exact repB i, rfl, rfl, rfl, rfl, rfl, rfl, rfl, rfl, rfl, trivial⟩⟩, ?_⟩⟩)⟩⟩
      · dsimp only
        unfold isFreshM
        rw [decide_eq_true (by omega : (-1 : Int) < st + (j : Nat)), List.getD_eq_getElem?_getD, List.getElem?_replicate]
        simp [hj]
      · rintro ⟨j, ⟨wt, wk⟩, ops⟩ ⟨g1, g2, g3, g4, g5, g6⟩
        dsimp only at g1 g2 g3 g4 g5 g6 ⊢
        refine splitD (fun h4 => ?_) (fun _ => hq)
        refine ckI (by simp; omega) (ckI (by rw [List.length_take, hbl]; simp; omega) ?_)
        obtain ⟨y, hy⟩ : ∃ y : List UInt8, List.take (((((min od.length 12 : Nat) : Int)).toNat - 0) * 1) (ofBytes od) = ofBytes y := ⟨_, ofB_take _ _⟩
        rw [hy]
        have hyl : y.length = min od.length 12 := by
          have := congrArg List.length hy
          rw [List.length_take, hbl] at this
          simp [ofBytes] at this
          omega
        refine getO2 (j := j) (by omega) (by simp) (fun c hc => ckI (by rw [cellsT_len, sent_len]; simp) ⟨_, rfl, splitE (fun h => by omega) (fun hi0 => wrapI (by omega) (by omega) (ckI (by rw [cellsT_len, sent_len]; simp) ⟨_, rfl, ckI (by simp; omega) ⟨_, rfl, ?_⟩⟩))⟩)
        obtain ⟨q, hq1⟩ : ∃ q, q = c % i := ⟨_, rfl⟩
        have hqi : q < i := by rw [hq1]; exact Nat.mod_lt _ (by omega)
        have hqt : (c : Int).tmod (i : Int) = (q : Int) := by rw [hq1]; exact Int.ofNat_tmod c i |>.symm
        rw [hqt]
        obtain ⟨b, hb1, hb2⟩ := cut_get (l := ls) (i := q) (by omega)
        refine agg5 (ckI (by simp; rw [cellsT_len, sent_len]; omega) (ckI (by simp; rw [cellsT_len, sent_len]; omega) (getT (i := q) (by rw [sent_len]; exact hqi) rfl (by simp) ?_)))
        rw [sent_get _ _ _ _ _ _ _ hqi, hb2]
        have hbl5 : (b.take 50).length ≤ 984 := by rw [List.length_take]; omega
        have hdec := box_dec (e := e) (nx := st + q) (key := key) (salt := salt) (kind := (q : Int)) (body := b.take 50) hk hs hbl5 ⟨by omega, by omega⟩ he1 ⟨by omega, by omega⟩
        refine ⟨wk, ⟨rfl, g4, (rcv_iff _ _ _ _ _).2 ⟨he1, hk, hs, g3⟩, by rw [box_len hk hs hbl5]; omega⟩, ?_⟩
        rintro l' f ⟨hd⟩
        rw [hdec, Prod.mk.injEq] at hd
        obtain ⟨rfl, rfl⟩ := hd
        refine splitNE (fun h => absurd rfl h) (fun _ => ?_)
        rintro a b' out ⟨hop, hok, hlt, -⟩
        rw [opens_box hk hs hbl5] at hop
        have htk : (cutTM ls).take i = cutTM ls := List.take_of_length_le (by omega)
        have hcl2 := cellsT_len ((cutTM ls).take i)
        have hcl4 : ((cutTM ls).take i).length = i := by rw [List.length_take]; omega
        have hcb2 := hcb ops
        have hrc := (rcv_iff e key salt a b').2 ⟨he1, hk, hs, hok⟩
        have hwt : -1 ≤ wt ∧ wt < 281474976710656 := by rcases ok_parts g3 with h | h <;> omega
        refine agg5 ⟨b', ⟨rfl, hlt⟩, ?_⟩
        rintro x ⟨rfl⟩
        rw [hrc]
        refine splitNE (fun h => absurd rfl h) (fun _ => ?_)
        have hcq : ((decide (0 ≤ (q : Int)) && Nat.blt ((q : Int).toNat) ((i : Int).toNat)) && Nat.beq (cellsBM ops).length (((i : Int).toNat) * 1) && true) = true := by rw [hcb2]; simp; omega
        have hcq2 : (Nat.beq (cellsBM ops).length (((i : Int).toNat) * 1) && Nat.blt (0 + ((q : Int).toNat) * 1) (((i : Int).toNat) * 1)) = true := by rw [hcb2]; simp; omega
        have hcq3 : (Nat.beq (cellsBM ops).length (((i : Int).toNat) * 1) && Nat.ble (0 + ((q : Int).toNat) * 1 + 1) (((i : Int).toNat) * 1) && true && true && true) = true := by rw [hcb2]; simp; omega
        have hg6 := g6 q hqi
        cases hfr : isFreshM wt wk (st + (q : Nat)) with
        | true =>
          rw [hfr] at hg6 hop
          rw [if_pos rfl, Prod.mk.injEq] at hop
          obtain ⟨hop1, rfl⟩ := hop
          have hoq : ops.getD q false = false := by revert hg6; cases ops.getD q false <;> simp
          have hf0 := (fresh_eq g3 (by omega)).2 hfr
          refine ⟨_, rfl, splitE (fun _ => ?_) (fun h => absurd rfl h)⟩
          refine ckI hcq (ckI hcq2 (getBo (i := q) (by omega) hoq (by simp) ⟨_, rfl, splitD (fun h => absurd h (by simp)) (fun _ => ⟨_, rfl, splitE (fun _ => ckI rfl (ckI rfl (agg4 (wrapI (by omega) (by omega) (ckI (by rw [hcl2, hcl4]; simp; omega) (ckI (by rw [hcl2, hcl4]; simp; omega) ?_)))))) (fun h => absurd rfl h)⟩)⟩))
          refine getT (l := (cutTM ls).take i) (i := q) (s := b.take 50) (by omega) (by rw [htk]; exact hb2) (by simp) (ckNot (by simp [eqB_refl]) (ckI hcq (ckI hcq2 (getBo (i := q) (b := false) (by omega) hoq (by simp) ?_))))
          show (bif _ then _ else False)
          refine ckI hcq (ckI hcq3 (wrapI (by omega) (by omega) ⟨⟨trivial, rfl⟩, ⟨(j + 1, (a, b'), ops.set q true), ⟨by dsimp only; omega, by dsimp only; rw [List.length_set]; exact g2, hok, hlt, ?_, fun p hp => ?_⟩, by dsimp only; omega, rfl, rfl, rfl, rfl, rfl, rfl, rfl, rfl, setBo (by omega) (by simp), rfl, rfl, rfl, rfl, rfl, rfl, rfl, rfl, rfl, trivial⟩⟩))
          · have := mark_top wt wk (st + (q : Nat))
            rw [hop1] at this
            dsimp only at this ⊢
            split at this <;> omega
          · have hmf := mark_fresh (t := wt) (k := wk) (q := st + (q : Nat)) (p := st + (p : Nat)) g4 hf0 (by omega) (by omega) (by omega)
            rw [hop1] at hmf
            dsimp only at hmf ⊢
            rw [hmf, g6 p hp, getD_set _ _ _ (by omega)]
            by_cases hpq : p = q
            · subst hpq
              rw [if_pos rfl, decide_eq_false (by omega)]
              simp
            · rw [if_neg hpq, decide_eq_true (by omega), Bool.and_true]
        | false =>
          rw [hfr] at hg6 hop
          rw [if_neg (by simp), Prod.mk.injEq] at hop
          obtain ⟨hop1, rfl⟩ := hop
          have hoq : ops.getD q false = true := by revert hg6; cases ops.getD q false <;> simp
          obtain ⟨rfl, rfl⟩ := Prod.mk.inj hop1
          refine ⟨_, rfl, splitE (fun h => absurd h (by simp)) (fun _ => ?_)⟩
          refine ckI hcq (ckI hcq2 (getBo (i := q) (by omega) hoq (by simp) ⟨_, rfl, splitD (fun h => absurd h (by simp)) (fun _ => ⟨_, rfl, splitE (fun h => absurd h (by simp)) (fun _ => ckI hcq (ckI hcq2 (getBo (i := q) (by omega) hoq (by simp) ?_)))⟩)⟩))
          show ∃ n_42 s_43 s_44 n_45 n_46, _
          refine agg5 (ckNot (by simp [eqB_refl]) ?_)
          refine ckI hcq (ckI hcq3 (wrapI (by omega) (by omega) ⟨⟨trivial, rfl⟩, ⟨(j + 1, (wt, wk), ops.set q true), ⟨by dsimp only; omega, by dsimp only; rw [List.length_set]; exact g2, hok, hlt, ?_, fun p hp => ?_⟩, by dsimp only; omega, rfl, rfl, rfl, rfl, rfl, rfl, rfl, rfl, setBo (by omega) (by simp), rfl, rfl, rfl, rfl, rfl, rfl, rfl, rfl, rfl, trivial⟩⟩))
          · exact g5
          · dsimp only
            rw [g6 p hp, getD_set _ _ _ (by omega)]
            by_cases hpq : p = q
            · subst hpq
              rw [if_pos rfl, hoq]
            · rw [if_neg hpq]
end Go.Proofs.Ytiholnebhmjbjaa
