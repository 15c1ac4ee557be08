/-
  Chapter 17: the reference's Number, Decode, Same; the law's texts, pieces, few.
-/
import Derived.Test.YtiholnebhmjbjaaM17H
set_option linter.unusedSimpArgs false
set_option linter.unusedVariables false
set_option linter.unusedSectionVars false
namespace Go.Proofs.Ytiholnebhmjbjaa
open Go.RowKit
set_option maxRecDepth 1000000

def inv_34q (sd : Int) (n : Nat) : LInv where
  α := List UInt8 × Nat
  pre x := Lf (x.1.length = n ∧ x.2 ≤ n)
  st x := ⟨mkT [(0, .int .u8 sd), (1, .int .i64 (n : Nat)), (5, .sl 0 n 0 n 1), (6, .int .i64 (x.2 : Nat))], [⟨.exact, true, ofBytes x.1⟩]⟩
  mu x := n - x.2
noncomputable def env_34q (hv : Nat → Option Pa) (hb : Nat → Option Bool) (sd : Int) (n : Nat) : Env :=
  e04 sm0 (fun i => bif Nat.beq i 34000 then some (fun _ => [[inv_34q sd n]]) else none) hv hb
noncomputable def goal_34q (hv : Nat → Option Pa) (hb : Nat → Option Bool) (sd : Int) (n : Nat) (Q : Out → List Blk → Gh → Prop) : Prop :=
  callx (env_34q hv hb sd n) (wpx (env_34q hv hb sd n) 1000) 34 [.int .u8 sd, .int .i64 (n : Nat)] [] {} Q
theorem vc_34q (sd : Int) (n : Nat) (Q : Out → List Blk → Gh → Prop) : goal_34q (lookV [(139271, .int .i64), (139273, .int .i64), (139274, .int .i64), (139279, .int .i64), (139281, .int .i64), (139282, .int .u8), (139284, .int .u8), (139285, .int .u8), (139286, .int .u8), (139287, .int .u8), (139276, .int .i64), (139277, .int .i64), (139290, .str)]) (lookB []) sd n Q = (
(∃ n_0 : Int, (((AV.int .i64 (Nat.cast n : Int)) = (AV.int .i64 n_0)) ∧
 (bif ((((decide ((0 : Int) ≤ n_0)) && (decide (n_0 ≤ n_0))) && (decide (n_0 ≤ (1099511627776 : Int)))) && (decide ((n_0 * (1 : Int)) ≤ (1099511627776 : Int)))) then ((∃ x_1 : (Prod (List UInt8) Nat), ((Lf (((List.length (Prod.fst x_1)) = n) ∧
 ((Prod.snd x_1) ≤ n))) ∧
 (bif ((oldL (0 : Nat) (List.flatten (List.replicate (Int.toNat n_0) ((AV.int .u8 (0 : Int)) :: [])))) == true) then (((List.flatten (List.replicate (Int.toNat n_0) ((AV.int .u8 (0 : Int)) :: []))) = (ofBytes (Prod.fst x_1))) ∧
 (((AV.int .u8 sd) = (AV.int .u8 sd)) ∧
 (((AV.int .i64 (Nat.cast n : Int)) = (AV.int .i64 (Nat.cast n : Int))) ∧
 (((AV.sl (0 : Nat) ((Int.toNat n_0) * (1 : Nat)) (0 : Nat) (Int.toNat n_0) (1 : Nat)) = (AV.sl (0 : Nat) n (0 : Nat) n (1 : Nat))) ∧
 (((AV.int .i64 (0 : Int)) = (AV.int .i64 (Nat.cast (Prod.snd x_1) : Int))) ∧
 True)))))
else False))) ∧
 (∀ x_1 : (Prod (List UInt8) Nat), ((Lf (((List.length (Prod.fst x_1)) = n) ∧
 ((Prod.snd x_1) ≤ n))) →
(∃ n_2 : Int, (((AV.int .i64 (Nat.cast (Prod.snd x_1) : Int)) = (AV.int .i64 n_2)) ∧
 (∃ n_3 : Int, (((AV.int .i64 (Nat.cast n : Int)) = (AV.int .i64 n_3)) ∧
 (bif (decide (n_2 < n_3)) then (∃ n_4 : Int, (((AV.int .i64 (Nat.cast (Prod.snd x_1) : Int)) = (AV.int .i64 n_4)) ∧
 (∃ n_5 : Int, (((AV.int .i64 (Nat.cast (Prod.snd x_1) : Int)) = (AV.int .i64 n_5)) ∧
 (∃ n_6 : Int, (((AV.int .u8 (IntKind.wrap .u8 n_5)) = (AV.int .u8 n_6)) ∧
 (∃ n_7 : Int, (((AV.int .u8 (Int.tmod sd (5 : Int))) = (AV.int .u8 n_7)) ∧
 (∃ n_8 : Int, (((AV.int .u8 (IntKind.wrap .u8 ((1 : Int) + n_7))) = (AV.int .u8 n_8)) ∧
 (∃ n_9 : Int, (((AV.int .u8 (IntKind.wrap .u8 (n_6 * n_8))) = (AV.int .u8 n_9)) ∧
 (∃ n_10 : Int, (((AV.int .u8 (IntKind.wrap .u8 (sd + n_9))) = (AV.int .u8 n_10)) ∧
 (bif ((((decide ((0 : Int) ≤ n_4)) && (Nat.blt (Int.toNat n_4) n)) && (Nat.beq (List.length (ofBytes (Prod.fst x_1))) n)) && true) then (bif (((((Nat.beq (List.length (ofBytes (Prod.fst x_1))) n) && (Nat.ble (((0 : Nat) + ((Int.toNat n_4) * (1 : Nat))) + (1 : Nat)) n)) && true) && true) && true) then (∃ n_11 : Int, (((AV.int .i64 (Nat.cast (Prod.snd x_1) : Int)) = (AV.int .i64 n_11)) ∧
 (∃ n_12 : Int, (((AV.int .i64 (IntKind.wrap .i64 (n_11 + (1 : Int)))) = (AV.int .i64 n_12)) ∧
 ((True ∧
 ((0 : Nat) = (0 : Nat))) ∧
 (∃ y_13 : (Prod (List UInt8) Nat), ((Lf (((List.length (Prod.fst y_13)) = n) ∧
 ((Prod.snd y_13) ≤ n))) ∧
 (((n - (Prod.snd y_13)) < (n - (Prod.snd x_1))) ∧
 (((setRange (ofBytes (Prod.fst x_1)) ((0 : Nat) + ((Int.toNat n_4) * (1 : Nat))) ((AV.int .u8 n_10) :: [])) = (ofBytes (Prod.fst y_13))) ∧
 (((AV.int .u8 sd) = (AV.int .u8 sd)) ∧
 (((AV.int .i64 (Nat.cast n : Int)) = (AV.int .i64 (Nat.cast n : Int))) ∧
 (((AV.sl (0 : Nat) n (0 : Nat) n (1 : Nat)) = (AV.sl (0 : Nat) n (0 : Nat) n (1 : Nat))) ∧
 (((AV.int .i64 n_12) = (AV.int .i64 (Nat.cast (Prod.snd y_13) : Int))) ∧
 True)))))))))))))
else False)
else False)))))))))))))))
else (bif ((((Nat.beq (List.length (ofBytes (Prod.fst x_1))) n) && (Nat.ble ((0 : Nat) + n) n)) && true) && (allU8 (List.take n (List.drop (0 : Nat) (ofBytes (Prod.fst x_1)))))) then (∃ s_4 : (List UInt8), (((AV.str (List.map toB (List.take n (List.drop (0 : Nat) (ofBytes (Prod.fst x_1)))))) = (AV.str s_4)) ∧
 (Q (Out.ret (AV.str s_4)) [] (Gh.mk (0 : Nat) (0 : Nat) []))))
else False)))))))))
else False)))) := by kernel_rfl

def inv_18q (tg td : Nat) (l k : List Rc) : LInv where
  α := Nat
  pre i := Lf (i ≤ l.length ∧ l.take i = k.take i)
  st i := ⟨mkT [(0, .lst tg (cellsRM l) l.length 4), (1, .lst td (cellsRM k) k.length 4), (5, .int .i64 (i : Nat))], []⟩
  mu i := l.length - i
noncomputable def env_18q (hv : Nat → Option Pa) (hb : Nat → Option Bool) (tg td : Nat) (l k : List Rc) : Env :=
  e04 sm0 (fun i => bif Nat.beq i 18000 then some (fun _ => [[inv_18q tg td l k]]) else none) hv hb
noncomputable def goal_18q (hv : Nat → Option Pa) (hb : Nat → Option Bool) (tg td : Nat) (l k : List Rc) (Q : Out → List Blk → Gh → Prop) : Prop :=
  callx (env_18q hv hb tg td l k) (wpx (env_18q hv hb tg td l k) 1000) 18 [.lst tg (cellsRM l) l.length 4, .lst td (cellsRM k) k.length 4] [] {} Q
theorem vc_18q (tg : Nat) (td : Nat) (l : List Rc) (k : List Rc) (Q : Out → List Blk → Gh → Prop) : goal_18q (lookV [(73735, .int .i64), (73737, .int .i64), (73739, .int .i64), (73741, .int .i64), (73746, .int .i64), (73748, .agg [.int .i64, .int .i64, .int .i64, .str]), (73750, .int .i64), (73752, .agg [.int .i64, .int .i64, .int .i64, .str]), (73743, .int .i64), (73744, .int .i64)]) (lookB []) tg td l k Q = (
(∃ n_0 : Int, (((AV.int .i64 (Nat.cast (List.length l) : Int)) = (AV.int .i64 n_0)) ∧
 (∃ n_1 : Int, (((AV.int .i64 (Nat.cast (List.length k) : Int)) = (AV.int .i64 n_1)) ∧
 (bif (n_0 != n_1) then (Q (Out.ret (AV.bool false)) [] (Gh.mk (0 : Nat) (0 : Nat) []))
else ((∃ x_2 : Nat, ((Lf ((x_2 ≤ (List.length l)) ∧
 ((List.take x_2 l) = (List.take x_2 k)))) ∧
 (((AV.lst tg (cellsRM l) (List.length l) (4 : Nat)) = (AV.lst tg (cellsRM l) (List.length l) (4 : Nat))) ∧
 (((AV.lst td (cellsRM k) (List.length k) (4 : Nat)) = (AV.lst td (cellsRM k) (List.length k) (4 : Nat))) ∧
 (((AV.int .i64 (0 : Int)) = (AV.int .i64 (Nat.cast x_2 : Int))) ∧
 True))))) ∧
 (∀ x_2 : Nat, ((Lf ((x_2 ≤ (List.length l)) ∧
 ((List.take x_2 l) = (List.take x_2 k)))) →
(∃ n_3 : Int, (((AV.int .i64 (Nat.cast x_2 : Int)) = (AV.int .i64 n_3)) ∧
 (∃ n_4 : Int, (((AV.int .i64 (Nat.cast (List.length l) : Int)) = (AV.int .i64 n_4)) ∧
 (bif (decide (n_3 < n_4)) then (∃ n_5 : Int, (((AV.int .i64 (Nat.cast x_2 : Int)) = (AV.int .i64 n_5)) ∧
 (bif (((decide ((0 : Int) ≤ n_5)) && (Nat.blt (Int.toNat n_5) (List.length l))) && true) then (bif (Nat.ble (((Int.toNat n_5) * (4 : Nat)) + (4 : Nat)) (List.length (cellsRM l))) then (∃ n_6 : Int, (∃ n_7 : Int, (∃ n_8 : Int, (∃ s_9 : (List UInt8), (((AV.agg (List.take (4 : Nat) (List.drop ((Int.toNat n_5) * (4 : Nat)) (cellsRM l)))) = (AV.agg ((AV.int .i64 n_6) :: ((AV.int .i64 n_7) :: ((AV.int .i64 n_8) :: ((AV.str s_9) :: [])))))) ∧
 (∃ n_10 : Int, (((AV.int .i64 (Nat.cast x_2 : Int)) = (AV.int .i64 n_10)) ∧
 (bif (((decide ((0 : Int) ≤ n_10)) && (Nat.blt (Int.toNat n_10) (List.length k))) && true) then (bif (Nat.ble (((Int.toNat n_10) * (4 : Nat)) + (4 : Nat)) (List.length (cellsRM k))) then (∃ n_11 : Int, (∃ n_12 : Int, (∃ n_13 : Int, (∃ s_14 : (List UInt8), (((AV.agg (List.take (4 : Nat) (List.drop ((Int.toNat n_10) * (4 : Nat)) (cellsRM k)))) = (AV.agg ((AV.int .i64 n_11) :: ((AV.int .i64 n_12) :: ((AV.int .i64 n_13) :: ((AV.str s_14) :: [])))))) ∧
 (bif (!((n_6 == n_11) && ((n_7 == n_12) && ((n_8 == n_13) && ((eqB s_9 s_14) && true))))) then (Q (Out.ret (AV.bool false)) [] (Gh.mk (0 : Nat) (0 : Nat) []))
else (∃ n_15 : Int, (((AV.int .i64 (Nat.cast x_2 : Int)) = (AV.int .i64 n_15)) ∧
 (∃ n_16 : Int, (((AV.int .i64 (IntKind.wrap .i64 (n_15 + (1 : Int)))) = (AV.int .i64 n_16)) ∧
 ((True ∧
 ((0 : Nat) = (0 : Nat))) ∧
 (∃ y_17 : Nat, ((Lf ((y_17 ≤ (List.length l)) ∧
 ((List.take y_17 l) = (List.take y_17 k)))) ∧
 ((((List.length l) - y_17) < ((List.length l) - x_2)) ∧
 (((AV.lst tg (cellsRM l) (List.length l) (4 : Nat)) = (AV.lst tg (cellsRM l) (List.length l) (4 : Nat))) ∧
 (((AV.lst td (cellsRM k) (List.length k) (4 : Nat)) = (AV.lst td (cellsRM k) (List.length k) (4 : Nat))) ∧
 (((AV.int .i64 n_16) = (AV.int .i64 (Nat.cast y_17 : Int))) ∧
 True)))))))))))))))))
else False)
else False))))))))
else False)
else False)))
else (Q (Out.ret (AV.bool true)) [] (Gh.mk (0 : Nat) (0 : Nat) [])))))))))))))))) := by kernel_rfl

abbrev Pc := Int × Int × Int × Int × Int
def cellsPM : List Pc → List AV
  | [] => []
  | p :: l => .int .u8 p.1 :: .int .u8 p.2.1 :: .int .u8 p.2.2.1 :: .int .u16 p.2.2.2.1 :: .int .u16 p.2.2.2.2 :: cellsPM l
def cTxt : Con
  | [.int .u8 sd, .int .i64 n], H, K => Lf (0 ≤ n ∧ n ≤ 1000) ∧ ∀ t, Lf (t.length = n.toNat) → K (.ret (.str t)) H
  | _, _, _ => False
theorem wrapB {y : Int} {K : Int → Prop} (h : ∀ b : UInt8, K (b.toNat : Int)) : ∃ n : Int, AV.int .u8 (IntKind.wrap .u8 y) = AV.int .u8 n ∧ K n := by
  refine ⟨_, ?_, h (UInt8.ofNat (y % 256).toNat)⟩
  congr 1
  show y % 256 = _
  rw [UInt8.toNat_ofNat']
  omega
theorem rep_flat (n : Nat) : (List.replicate n [AV.int .u8 0]).flatten = ofBytes (List.replicate n 0) := by
  induction n with
  | zero => rfl
  | succ n ih => rw [List.replicate_succ, List.flatten_cons, ih]; rfl
theorem text_run (sd : Int) (n : Nat) (hn : n ≤ 1000) (Q : Out → List Blk → Gh → Prop) (hq : ∀ t : List UInt8, t.length = n → Q (.ret (.str t)) [] {}) : ∃ hv hb, goal_34q hv hb sd n Q := by
  obtain ⟨hv, hb', e⟩ : ∃ hv hb, goal_34q hv hb sd n Q = _ := ⟨_, _, vc_34q sd n Q⟩
  refine ⟨hv, hb', e.mpr ?_⟩
  clear e
  refine ⟨_, rfl, ckI (by simp; omega) ⟨⟨(List.replicate n 0, 0), ⟨by simp, by simp⟩, ?_⟩, ?_⟩⟩
  · rw [Int.toNat_natCast, rep_flat, oldL_ofB, Nat.mul_one]
    exact ⟨rfl, rfl, rfl, rfl, rfl, trivial⟩
  · rintro ⟨L, i⟩ ⟨h1, h2⟩
    dsimp only at h1 h2 ⊢
    refine ⟨_, rfl, _, rfl, splitD (fun h3 => ?_) (fun h3 => ?_)⟩
    · refine ⟨_, rfl, _, rfl, _, rfl, _, rfl, _, rfl, _, rfl, wrapB fun b => ckI (by rw [ofB_len]; simp; omega) (ckI (by rw [ofB_len]; simp; omega) ⟨_, rfl, wrapI (by omega) (by omega) ⟨⟨trivial, rfl⟩, (L.set i b, i + 1), ⟨by simp [h1], by dsimp only; omega⟩, by dsimp only; omega, ?_, rfl, rfl, rfl, rfl, trivial⟩⟩)⟩
      exact stB (j := i) (by omega) (by simp)
    · refine ckI (by rw [ofB_len, allU8_take]; simp; omega) ⟨_, rfl, ?_⟩
      rw [strB (by omega) rfl]
      exact hq L h1
theorem txt_ok : ValidF Try.prog gl0 34 cTxt := by
  refine valid_flat (enters_of (by kernel_rfl)) gl0_noY fun args H Q hc => ?_
  unfold cTxt at hc
  split at hc
  · rename_i sd n
    obtain ⟨⟨h0, h1⟩, hq⟩ := hc
    obtain ⟨k, rfl⟩ : ∃ k : Nat, n = (k : Int) := ⟨n.toNat, by omega⟩
    obtain ⟨hv, hb', h⟩ := text_run sd k (by omega) (Q := fun o H' _ => H' = [] ∧ (∃ v, o = .ret v ∧ old 0 v = true ∧ noY v = true) ∧ Q o H) (fun t ht => ⟨rfl, ⟨_, rfl, rfl, rfl⟩, hq _ ⟨by rw [Int.toNat_natCast]; exact ht⟩⟩)
    exact ⟨rfl, rfl, _, 1000, envFor04 sm0_ok _ _ _, rfl, h⟩
  · exact hc.elim
theorem iminI {x : Int} {a b : Nat} (hx : x = (a : Int)) {K : Int → Prop} (h : K ((min a b : Nat) : Int)) : ∃ n : Int, AV.int .i64 (imin x (b : Int)) = AV.int .i64 n ∧ K n := by
  subst hx
  refine ⟨_, ?_, h⟩
  congr 1
  unfold imin
  split <;> omega
def sameRM (l k : List Rc) : Bool := decide (l = k)
theorem same_yes {l k : List Rc} (h : l = k) : sameRM l k = true := decide_eq_true h
theorem same_no {l k : List Rc} (h : l ≠ k) : sameRM l k = false := decide_eq_false h
theorem same_run (tg td : Nat) (l k : List Rc) (hl : l.length ≤ 1000000) (Q : Out → List Blk → Gh → Prop) (hq : Q (.ret (.bool (sameRM l k))) [] {}) : ∃ hv hb, goal_18q hv hb tg td l k Q := by
  obtain ⟨hv, hb', e⟩ : ∃ hv hb, goal_18q hv hb tg td l k Q = _ := ⟨_, _, vc_18q tg td l k Q⟩
  refine ⟨hv, hb', e.mpr ?_⟩
  clear e
  refine ⟨_, rfl, _, rfl, splitNE (fun h => ?_) (fun h => ?_)⟩
  · rwa [same_no (by rintro rfl; exact h rfl)] at hq
  · have hlen : l.length = k.length := by omega
    refine ⟨⟨0, ⟨by omega, by simp⟩, rfl, rfl, rfl, trivial⟩, ?_⟩
    rintro i ⟨h1, h2⟩
    refine ⟨_, rfl, _, rfl, splitD (fun h3 => ?_) (fun h3 => ?_)⟩
    · have hi : i < l.length := by omega
      have hk : i < k.length := by omega
      obtain ⟨⟨a, b, c, t⟩, hR⟩ : ∃ r, l[i] = r := ⟨_, rfl⟩
      obtain ⟨⟨a', b', c', t'⟩, hS⟩ : ∃ r, k[i] = r := ⟨_, rfl⟩
      have c1 := cellsR_len l
      have c2 := cellsR_len k
      refine ⟨_, rfl, ckI (by simp; omega) (ckI (by rw [c1]; simp; omega) (getR hi hR (by simp) ⟨_, rfl, ckI (by simp; omega) (ckI (by rw [c2]; simp; omega) (getR hk hS (by simp) ?_))⟩))⟩
      by_cases heq : (a, b, c, t) = (a', b', c', t')
      · simp only [Prod.mk.injEq] at heq
        obtain ⟨rfl, rfl, rfl, rfl⟩ := heq
        rw [eqB_refl, beq_self_eq_true, beq_self_eq_true, beq_self_eq_true]
        refine ⟨_, rfl, wrapI (by omega) (by omega) ⟨⟨trivial, rfl⟩, i + 1, ⟨by omega, ?_⟩, by omega, rfl, rfl, rfl, trivial⟩⟩
        rw [take_snoc hi, take_snoc hk, h2, hR, hS]
      · have hne : l ≠ k := by
          rintro rfl
          exact heq (hR.symm.trans hS)
        have : ((a == a') && ((b == b') && ((c == c') && (eqB t t' && true)))) = false := by
          rw [← Bool.not_eq_true, eqB_iff]
          simp only [Bool.and_eq_true, beq_iff_eq, Bool.and_true]
          rintro ⟨rfl, rfl, rfl, rfl⟩
          exact heq rfl
        rw [this]
        rwa [same_no hne] at hq
    · rw [List.take_of_length_le (by omega), List.take_of_length_le (by omega)] at h2
      rwa [same_yes h2] at hq
def cSame : Con
  | [.lst _ cs n 4, .lst _ ds m 4], H, K => ∃ l k : List Rc, Lf ((cs = cellsRM l ∧ n = l.length) ∧ (ds = cellsRM k ∧ m = k.length) ∧ l.length ≤ 1000000) ∧ ∀ b, Lf (b = sameRM l k) → K (.ret (.bool b)) H
  | _, _, _ => False
theorem same_ok : ValidF Try.prog gl0 18 cSame := by
  refine valid_flat (enters_of (by kernel_rfl)) gl0_noY fun args H Q hc => ?_
  unfold cSame at hc
  split at hc
  · rename_i tg cs n td ds m
    obtain ⟨l, k, ⟨⟨rfl, rfl⟩, ⟨rfl, rfl⟩, h1⟩, hq⟩ := hc
    obtain ⟨hv, hb', h⟩ := same_run tg td l k h1 (Q := fun o H' _ => H' = [] ∧ (∃ v, o = .ret v ∧ old 0 v = true ∧ noY v = true) ∧ Q o H) ⟨rfl, ⟨_, rfl, rfl, rfl⟩, hq _ ⟨rfl⟩⟩
    exact ⟨by simp [oldL, old, cellsR_old], by simp [noYL, noY], _, 1000, envFor04 sm0_ok _ _ _, rfl, h⟩
  · exact hc.elim
def smTx : SM := lookS [(34, cTxt)]
theorem smTx_ok : ∀ f g, smTx f = some g → ValidF Try.prog gl0 f g := lookS_ok _ (by simp only [List.mem_cons, List.not_mem_nil, or_false, forall_eq]; exact txt_ok)
def inv_11q (ps : List Pc) (s : S) : List (List LInv) := [[
  { α := Nat, pre := fun i => Lf (i = 0), st := fun i => ⟨mkT [(3, .nils), (10, s.tm.get 10), (11, s.tm.get 11), (12, .int .i64 (i : Nat))], []⟩, mu := fun i => 100 },
  { α := List Rc, pre := fun rs => Lf (1 ≤ rs.length ∧ rs.length ≤ 6 ∧ rs.length ≤ ps.length ∧ rs.all rightRM = true), st := fun rs => ⟨mkT [(3, .sl 2 (rs.length * 4) 0 rs.length 4), (10, s.tm.get 10), (11, s.tm.get 11), (12, .int .i64 (rs.length : Nat))], [⟨.exact, true, cellsPM (ps.take 1)⟩, ⟨.exact, true, cellsRM (rs.take 1)⟩, ⟨.grow, true, cellsRM rs⟩]⟩, mu := fun rs => 6 - rs.length }]]
noncomputable def env_11q (ps : List Pc) (hv : Nat → Option Pa) (hb : Nat → Option Bool) : Env := e04 smTx (fun i => bif Nat.beq i 11000 then some (inv_11q ps) else none) hv hb
noncomputable def goal_11q (hv : Nat → Option Pa) (hb : Nat → Option Bool) (tg : Nat) (ps : List Pc) (Q : Out → List Blk → Gh → Prop) : Prop :=
  callx (env_11q ps hv hb) (wpx (env_11q ps hv hb) 1000) 11 [.lst tg (cellsPM ps) ps.length 5] [] {} Q
theorem vc_11q (tg : Nat) (ps : List Pc) (Q : Out → List Blk → Gh → Prop) : goal_11q (lookV [(45064, .int .i64), (45065, .int .i64), (45067, .int .i64), (45071, .agg [.int .u8, .int .u8, .int .u8, .int .u16, .int .u16]), (45075, .int .i64), (45078, .int .i64), (45081, .int .i64), (45086, .int .u16), (45087, .int .i64), (45092, .int .i64)]) (lookB []) tg ps Q = (
(∃ n_0 : Int, (((AV.int .i64 (Nat.cast (List.length ps) : Int)) = (AV.int .i64 n_0)) ∧
 (∃ n_1 : Int, (((AV.int .i64 (imin n_0 (6 : Int))) = (AV.int .i64 n_1)) ∧
 (bif ((((decide ((0 : Int) ≤ n_1)) && true) && (Nat.ble (Int.toNat n_1) (List.length ps))) && true) then (∃ n_2 : Int, (((AV.int .i64 (Nat.cast ((Int.toNat n_1) - (0 : Nat)) : Int)) = (AV.int .i64 n_2)) ∧
 (((∃ x_3 : Nat, ((Lf (x_3 = (0 : Nat))) ∧
 ((AV.nils = AV.nils) ∧
 (((AV.int .i64 n_2) = (AV.int .i64 n_2)) ∧
 (((AV.int .i64 (0 : Int)) = (AV.int .i64 (Nat.cast x_3 : Int))) ∧
 (((AV.lst tg (List.take (((Int.toNat n_1) - (0 : Nat)) * (5 : Nat)) (List.drop (0 : Nat) (cellsPM ps))) ((Int.toNat n_1) - (0 : Nat)) (5 : Nat)) = (AV.lst tg (List.take (((Int.toNat n_1) - (0 : Nat)) * (5 : Nat)) (List.drop (0 : Nat) (cellsPM ps))) ((Int.toNat n_1) - (0 : Nat)) (5 : Nat))) ∧
 True)))))) ∨
 (∃ x_3 : (List Rc), ((Lf (((1 : Nat) ≤ (List.length x_3)) ∧
 (((List.length x_3) ≤ (6 : Nat)) ∧
 (((List.length x_3) ≤ (List.length ps)) ∧
 ((List.all x_3 rightRM) = true))))) ∧
 False))) ∧
 ((∀ x_3 : Nat, ((Lf (x_3 = (0 : Nat))) →
(bif (decide ((Nat.cast x_3 : Int) < n_2)) then (bif ((Nat.blt (Int.toNat (Nat.cast x_3 : Int)) ((Int.toNat n_1) - (0 : Nat))) && true) then (bif (Nat.ble (((Int.toNat (Nat.cast x_3 : Int)) * (5 : Nat)) + (5 : Nat)) (List.length (List.take (((Int.toNat n_1) - (0 : Nat)) * (5 : Nat)) (List.drop (0 : Nat) (cellsPM ps))))) then (∃ n_4 : Int, (∃ n_5 : Int, (∃ n_6 : Int, (∃ n_7 : Int, (∃ n_8 : Int, (((AV.agg (List.take (5 : Nat) (List.drop ((Int.toNat (Nat.cast x_3 : Int)) * (5 : Nat)) (List.take (((Int.toNat n_1) - (0 : Nat)) * (5 : Nat)) (List.drop (0 : Nat) (cellsPM ps)))))) = (AV.agg ((AV.int .u8 n_4) :: ((AV.int .u8 n_5) :: ((AV.int .u8 n_6) :: ((AV.int .u16 n_7) :: ((AV.int .u16 n_8) :: []))))))) ∧
 (∃ n_9 : Int, (((AV.int .i64 (IntKind.wrap .i64 n_4)) = (AV.int .i64 n_9)) ∧
 (∃ n_10 : Int, (((AV.int .i64 (IntKind.wrap .i64 n_5)) = (AV.int .i64 n_10)) ∧
 (∃ n_11 : Int, (((AV.int .i64 (IntKind.wrap .i64 n_7)) = (AV.int .i64 n_11)) ∧
 (∃ n_12 : Int, (((AV.int .u16 (Int.tmod n_8 (1001 : Int))) = (AV.int .u16 n_12)) ∧
 (∃ n_13 : Int, (((AV.int .i64 (IntKind.wrap .i64 n_12)) = (AV.int .i64 n_13)) ∧
 ((Lf (((0 : Int) ≤ n_13) ∧
 (n_13 ≤ (1000 : Int)))) ∧
 (∀ t_14 : (List UInt8), ((Lf ((List.length t_14) = (Int.toNat n_13))) →
(bif ((eqAVL ((AV.int .u16 n_7) :: []) ((AV.int .u16 n_7) :: [])) && true) then (bif ((eqAVL ((AV.int .u8 n_5) :: []) ((AV.int .u8 n_5) :: [])) && true) then (bif ((eqAVL ((AV.int .u8 n_4) :: []) ((AV.int .u8 n_4) :: [])) && true) then (∃ n_15 : Int, (((AV.int .i64 (IntKind.wrap .i64 ((Nat.cast x_3 : Int) + (1 : Int)))) = (AV.int .i64 n_15)) ∧
 ((True ∧
 ((0 : Nat) = (0 : Nat))) ∧
 ((∃ y_16 : Nat, ((Lf (y_16 = (0 : Nat))) ∧
 (((100 : Nat) < (100 : Nat)) ∧
 False))) ∨
 (∃ y_16 : (List Rc), ((Lf (((1 : Nat) ≤ (List.length y_16)) ∧
 (((List.length y_16) ≤ (6 : Nat)) ∧
 (((List.length y_16) ≤ (List.length ps)) ∧
 ((List.all y_16 rightRM) = true))))) ∧
 ((((6 : Nat) - (List.length y_16)) < (100 : Nat)) ∧
 ((((AV.int .u8 n_4) :: ((AV.int .u8 n_5) :: ((AV.int .u8 n_6) :: ((AV.int .u16 n_7) :: ((AV.int .u16 n_8) :: []))))) = (cellsPM (List.take (1 : Nat) ps))) ∧
 ((((AV.int .i64 n_9) :: ((AV.int .i64 n_10) :: ((AV.int .i64 n_11) :: ((AV.str t_14) :: [])))) = (cellsRM (List.take (1 : Nat) y_16))) ∧
 ((((AV.int .i64 n_9) :: ((AV.int .i64 n_10) :: ((AV.int .i64 n_11) :: ((AV.str t_14) :: [])))) = (cellsRM y_16)) ∧
 (((AV.sl (2 : Nat) (4 : Nat) (0 : Nat) (1 : Nat) (4 : Nat)) = (AV.sl (2 : Nat) ((List.length y_16) * (4 : Nat)) (0 : Nat) (List.length y_16) (4 : Nat))) ∧
 (((AV.int .i64 n_2) = (AV.int .i64 n_2)) ∧
 (((AV.int .i64 n_15) = (AV.int .i64 (Nat.cast (List.length y_16) : Int))) ∧
 (((AV.lst tg (List.take (((Int.toNat n_1) - (0 : Nat)) * (5 : Nat)) (List.drop (0 : Nat) (cellsPM ps))) ((Int.toNat n_1) - (0 : Nat)) (5 : Nat)) = (AV.lst tg (List.take (((Int.toNat n_1) - (0 : Nat)) * (5 : Nat)) (List.drop (0 : Nat) (cellsPM ps))) ((Int.toNat n_1) - (0 : Nat)) (5 : Nat))) ∧
 True))))))))))))))
else False)
else False)
else False))))))))))))))))))))
else False)
else False)
else (Q (Out.ret AV.nils) [] (Gh.mk (0 : Nat) (0 : Nat) []))))) ∧
 (∀ x_3 : (List Rc), ((Lf (((1 : Nat) ≤ (List.length x_3)) ∧
 (((List.length x_3) ≤ (6 : Nat)) ∧
 (((List.length x_3) ≤ (List.length ps)) ∧
 ((List.all x_3 rightRM) = true))))) →
(bif (decide ((Nat.cast (List.length x_3) : Int) < n_2)) then (bif ((Nat.blt (Int.toNat (Nat.cast (List.length x_3) : Int)) ((Int.toNat n_1) - (0 : Nat))) && true) then (bif (Nat.ble (((Int.toNat (Nat.cast (List.length x_3) : Int)) * (5 : Nat)) + (5 : Nat)) (List.length (List.take (((Int.toNat n_1) - (0 : Nat)) * (5 : Nat)) (List.drop (0 : Nat) (cellsPM ps))))) then (∃ n_4 : Int, (∃ n_5 : Int, (∃ n_6 : Int, (∃ n_7 : Int, (∃ n_8 : Int, (((AV.agg (List.take (5 : Nat) (List.drop ((Int.toNat (Nat.cast (List.length x_3) : Int)) * (5 : Nat)) (List.take (((Int.toNat n_1) - (0 : Nat)) * (5 : Nat)) (List.drop (0 : Nat) (cellsPM ps)))))) = (AV.agg ((AV.int .u8 n_4) :: ((AV.int .u8 n_5) :: ((AV.int .u8 n_6) :: ((AV.int .u16 n_7) :: ((AV.int .u16 n_8) :: []))))))) ∧
 (∃ n_9 : Int, (((AV.int .i64 (IntKind.wrap .i64 n_4)) = (AV.int .i64 n_9)) ∧
 (∃ n_10 : Int, (((AV.int .i64 (IntKind.wrap .i64 n_5)) = (AV.int .i64 n_10)) ∧
 (∃ n_11 : Int, (((AV.int .i64 (IntKind.wrap .i64 n_7)) = (AV.int .i64 n_11)) ∧
 (∃ n_12 : Int, (((AV.int .u16 (Int.tmod n_8 (1001 : Int))) = (AV.int .u16 n_12)) ∧
 (∃ n_13 : Int, (((AV.int .i64 (IntKind.wrap .i64 n_12)) = (AV.int .i64 n_13)) ∧
 ((Lf (((0 : Int) ≤ n_13) ∧
 (n_13 ≤ (1000 : Int)))) ∧
 (∀ t_14 : (List UInt8), ((Lf ((List.length t_14) = (Int.toNat n_13))) →
(bif ((eqAVL ((AV.int .u16 n_7) :: []) ((AV.int .u16 n_7) :: [])) && true) then (bif ((eqAVL ((AV.int .u8 n_5) :: []) ((AV.int .u8 n_5) :: [])) && true) then (bif ((eqAVL ((AV.int .u8 n_4) :: []) ((AV.int .u8 n_4) :: [])) && true) then (bif (((((Nat.beq (List.length (cellsRM x_3)) ((List.length x_3) * (4 : Nat))) && true) && (Nat.beq ((0 : Nat) + ((List.length x_3) * (4 : Nat))) ((List.length x_3) * (4 : Nat)))) && (Nat.ble ((List.length x_3) + (1 : Nat)) (1099511627776 : Nat))) && (Nat.ble (((List.length x_3) + (1 : Nat)) * (40 : Nat)) (1099511627776 : Nat))) then (∃ n_15 : Int, (((AV.int .i64 (IntKind.wrap .i64 ((Nat.cast (List.length x_3) : Int) + (1 : Int)))) = (AV.int .i64 n_15)) ∧
 ((True ∧
 ((0 : Nat) = (0 : Nat))) ∧
 ((∃ y_16 : Nat, ((Lf (y_16 = (0 : Nat))) ∧
 (((100 : Nat) < ((6 : Nat) - (List.length x_3))) ∧
 False))) ∨
 (∃ y_16 : (List Rc), ((Lf (((1 : Nat) ≤ (List.length y_16)) ∧
 (((List.length y_16) ≤ (6 : Nat)) ∧
 (((List.length y_16) ≤ (List.length ps)) ∧
 ((List.all y_16 rightRM) = true))))) ∧
 ((((6 : Nat) - (List.length y_16)) < ((6 : Nat) - (List.length x_3))) ∧
 (((cellsPM (List.take (1 : Nat) ps)) = (cellsPM (List.take (1 : Nat) ps))) ∧
 (((cellsRM (List.take (1 : Nat) x_3)) = (cellsRM (List.take (1 : Nat) y_16))) ∧
 ((((cellsRM x_3) ++ ((AV.int .i64 n_9) :: ((AV.int .i64 n_10) :: ((AV.int .i64 n_11) :: ((AV.str t_14) :: []))))) = (cellsRM y_16)) ∧
 (((AV.sl (2 : Nat) (((List.length x_3) * (4 : Nat)) + (4 : Nat)) (0 : Nat) ((List.length x_3) + (1 : Nat)) (4 : Nat)) = (AV.sl (2 : Nat) ((List.length y_16) * (4 : Nat)) (0 : Nat) (List.length y_16) (4 : Nat))) ∧
 (((AV.int .i64 n_2) = (AV.int .i64 n_2)) ∧
 (((AV.int .i64 n_15) = (AV.int .i64 (Nat.cast (List.length y_16) : Int))) ∧
 (((AV.lst tg (List.take (((Int.toNat n_1) - (0 : Nat)) * (5 : Nat)) (List.drop (0 : Nat) (cellsPM ps))) ((Int.toNat n_1) - (0 : Nat)) (5 : Nat)) = (AV.lst tg (List.take (((Int.toNat n_1) - (0 : Nat)) * (5 : Nat)) (List.drop (0 : Nat) (cellsPM ps))) ((Int.toNat n_1) - (0 : Nat)) (5 : Nat))) ∧
 True))))))))))))))
else False)
else False)
else False)
else False))))))))))))))))))))
else False)
else False)
else (Q (Out.ret (AV.sl (2 : Nat) ((List.length x_3) * (4 : Nat)) (0 : Nat) (List.length x_3) (4 : Nat))) ((Blk.mk BK.exact true (cellsPM (List.take (1 : Nat) ps))) :: ((Blk.mk BK.exact true (cellsRM (List.take (1 : Nat) x_3))) :: ((Blk.mk BK.grow true (cellsRM x_3)) :: []))) (Gh.mk (0 : Nat) (0 : Nat) [])))))))))
else False)))))) := by kernel_rfl

theorem cellsP_len : ∀ l, (cellsPM l).length = l.length * 5
  | [] => rfl
  | x :: l => by simp [cellsPM, cellsP_len l]; omega
theorem cellsP_old : ∀ l, oldL 0 (cellsPM l) = true
  | [] => rfl
  | x :: l => by simp [cellsPM, oldL, old, cellsP_old l]
theorem cellsP_drop : ∀ (l : List Pc) (i : Nat), (cellsPM l).drop (i * 5) = cellsPM (l.drop i)
  | l, 0 => by simp
  | [], i + 1 => by simp [cellsPM]
  | x :: l, i + 1 => by
    rw [List.drop_succ_cons, ← cellsP_drop l i, cellsPM, Nat.succ_mul, Nat.add_comm, ← List.drop_drop]
    rfl
theorem cellsP_take : ∀ (i : Nat) (l : List Pc), (cellsPM l).take (i * 5) = cellsPM (l.take i)
  | 0, l => by simp [cellsPM]
  | i + 1, [] => by simp [cellsPM]
  | i + 1, x :: l => by
    rw [List.take_succ_cons, cellsPM, cellsPM, ← cellsP_take i l, Nat.succ_mul]
    rfl
theorem cellsR_take : ∀ (i : Nat) (l : List Rc), (cellsRM l).take (i * 4) = cellsRM (l.take i)
  | 0, l => by simp [cellsRM]
  | i + 1, [] => by simp [cellsRM]
  | i + 1, x :: l => by
    rw [List.take_succ_cons, cellsRM, cellsRM, ← cellsR_take i l, Nat.succ_mul]
    rfl
theorem getP {l : List Pc} {i m : Nat} {a b c d e : Int} (hi : i < l.length) (hr : l[i] = (a, b, c, d, e)) (hm : m = i * 5) {K : Int → Int → Int → Int → Int → Prop} (hk : K a b c d e) :
    ∃ (x y z u v : Int), AV.agg (List.take 5 (List.drop m (cellsPM l))) = AV.agg [.int .u8 x, .int .u8 y, .int .u8 z, .int .u16 u, .int .u16 v] ∧ K x y z u v := by
  refine ⟨a, b, c, d, e, ?_, hk⟩
  subst hm
  rw [cellsP_drop, List.drop_eq_getElem_cons hi, hr]
  rfl
theorem min6 (n : Nat) : Int.toNat ((min n 6 : Nat) : Int) - 0 = min n 6 := by rw [Int.toNat_natCast, Nat.sub_zero]
theorem take_min {α : Type} (l : List α) (n : Nat) : l.take (min l.length n) = l.take n := by
  by_cases h : l.length ≤ n
  · rw [Nat.min_eq_left h, List.take_of_length_le (Nat.le_refl _), List.take_of_length_le h]
  · rw [Nat.min_eq_right (by omega)]
/-- a piece has small numbers -/
abbrev pcOk (p : Pc) : Prop := (0 ≤ p.1 ∧ p.1 ≤ 255) ∧ (0 ≤ p.2.1 ∧ p.2.1 ≤ 255) ∧ (0 ≤ p.2.2.2.1 ∧ p.2.2.2.1 ≤ 65535) ∧ (0 ≤ p.2.2.2.2 ∧ p.2.2.2.2 ≤ 65535)
theorem pieces_run (tg : Nat) (ps : List Pc) (hp : ∀ p ∈ ps, pcOk p) (Q : Out → List Blk → Gh → Prop) (hq0 : ps = [] → Q (.ret .nils) [] {})
    (hq1 : ∀ rs : List Rc, 0 < rs.length → rs.length = min ps.length 6 → rs.all rightRM = true → ∀ b0 b1, Q (.ret (.sl 2 (rs.length * 4) 0 rs.length 4)) [b0, b1, ⟨.grow, true, cellsRM rs⟩] {}) : ∃ hv hb, goal_11q hv hb tg ps Q := by
  obtain ⟨hv, hb', e⟩ : ∃ hv hb, goal_11q hv hb tg ps Q = _ := ⟨_, _, vc_11q tg ps Q⟩
  refine ⟨hv, hb', e.mpr ?_⟩
  clear e
  refine ⟨_, rfl, iminI (b := 6) rfl (ckI (by simp; omega) ⟨_, rfl, ?_⟩)⟩
  rw [min6, List.drop_zero, cellsP_take, take_min]
  obtain ⟨m, hm⟩ : ∃ m, m = min ps.length 6 := ⟨_, rfl⟩
  have hl6 : (ps.take 6).length = m := by rw [List.length_take]; omega
  rw [← hm]
  have hg : ∀ i, i < m → ∃ a b c d e, ∃ h : i < (ps.take 6).length, (ps.take 6)[i] = (a, b, c, d, e) ∧ pcOk (a, b, c, d, e) := fun i hi => by
    have h : i < (ps.take 6).length := by omega
    obtain ⟨⟨a, b, c, d, e⟩, hR⟩ : ∃ r, (ps.take 6)[i] = r := ⟨_, rfl⟩
    exact ⟨a, b, c, d, e, h, hR, by rw [← hR]; exact hp _ (List.mem_of_mem_take (List.getElem_mem h))⟩
  have hcl := cellsP_len (ps.take 6)
  have h1 : ∀ a b c d e, (∃ h : 0 < (ps.take 6).length, (ps.take 6)[0] = (a, b, c, d, e)) → [AV.int .u8 a, .int .u8 b, .int .u8 c, .int .u16 d, .int .u16 e] = cellsPM (ps.take 1) := fun a b c d e ⟨h, hr⟩ => by
    cases ps with
    | nil => simp at h
    | cons p ps =>
      simp only [List.take_succ_cons, List.getElem_cons_zero] at hr
      rw [hr]
      rfl
  refine ⟨.inl ⟨0, ⟨rfl⟩, rfl, rfl, rfl, rfl, trivial⟩, ?_, ?_⟩
  · rintro _ ⟨rfl⟩
    refine splitD (fun hlt => ?_) (fun hge => hq0 (List.length_eq_zero_iff.1 (by omega)))
    obtain ⟨a, b, c, d, e, h, hR, k1, k2, k3, k4⟩ := hg 0 (by omega)
    dsimp only at k1 k2 k3 k4
    have ht : Int.tmod e 1001 = e % 1001 := Int.tmod_eq_emod_of_nonneg k4.1
    refine ckI (by simp; omega) (ckI (by rw [hcl]; simp; omega) (getP h hR (by simp) (wrapI (by omega) (by omega) (wrapI (by omega) (by omega) (wrapI (by omega) (by omega) ⟨_, rfl, ?_⟩)))))
    rw [ht]
    refine wrapI (by omega) (by omega) ⟨⟨by omega, by omega⟩, ?_⟩
    rintro t ⟨htl⟩
    have eU : ∀ (k : IntKind) (n : Int), eqAVL [AV.int k n] [AV.int k n] = true := eqAVL_i
    refine ckI (by rw [eU]; rfl) (ckI (by rw [eU]; rfl) (ckI (by rw [eU]; rfl) (wrapI (by omega) (by omega) ⟨⟨trivial, rfl⟩, .inr ⟨[(a, b, d, t)], ⟨by simp, by simp, by simp; omega, ?_⟩, by simp, h1 a b c d e ⟨h, hR⟩, rfl, rfl, rfl, rfl, rfl, rfl, trivial⟩⟩)))
    rw [List.all_cons, (rightM_iff a b d t).2 (by omega)]
    rfl
  · rintro rs ⟨g1, g2, g3, g4⟩
    have hrl := cellsR_len rs
    refine splitD (fun hlt => ?_) (fun hge => hq1 rs (by omega) (by omega) g4 _ _)
    obtain ⟨a, b, c, d, e, h, hR, k1, k2, k3, k4⟩ := hg rs.length (by omega)
    dsimp only at k1 k2 k3 k4
    have ht : Int.tmod e 1001 = e % 1001 := Int.tmod_eq_emod_of_nonneg k4.1
    refine ckI (by simp; omega) (ckI (by rw [hcl]; simp; omega) (getP h hR (by simp) (wrapI (by omega) (by omega) (wrapI (by omega) (by omega) (wrapI (by omega) (by omega) ⟨_, rfl, ?_⟩)))))
    rw [ht]
    refine wrapI (by omega) (by omega) ⟨⟨by omega, by omega⟩, ?_⟩
    rintro t ⟨htl⟩
    have eU : ∀ (k : IntKind) (n : Int), eqAVL [AV.int k n] [AV.int k n] = true := eqAVL_i
    refine ckI (by rw [eU]; rfl) (ckI (by rw [eU]; rfl) (ckI (by rw [eU]; rfl) (ckI (by rw [hrl]; simp; omega) (wrapI (by omega) (by omega) ⟨⟨trivial, rfl⟩, .inr ⟨rs ++ [(a, b, d, t)], ⟨by simp, by simp; omega, by simp; omega, ?_⟩, by simp; omega, rfl, ?_, ?_, ?_, rfl, ?_, rfl, trivial⟩⟩))))
    · rw [List.all_append, g4, List.all_cons, (rightM_iff a b d t).2 (by omega)]
      rfl
    · rw [List.take_append_of_le_length g1]
    · rw [cellsR_app]; rfl
    · rw [List.length_append, Nat.add_mul]; rfl
    · rw [List.length_append]; rfl
theorem frz_rec1 {H : List Blk} {id : Nat} {l : List Rc} (hb : H[id]? = some ⟨.grow, true, cellsRM l⟩) : nlR [4] (frzV 0 H 9 (.sl id (l.length * 4) 0 l.length 4)) = .lst 0 (cellsRM l) l.length 4 := by
  have h := frz_sl (τ := 0) (d := 7) (cs := cellsRM l) (off := 0) (len := l.length) (sz := 4) hb (cellsR_len l) (by omega) (by simp) (by rw [List.drop_zero]; exact List.take_of_length_le (by rw [cellsR_len]; omega)) (cellsR_plain l)
  rw [h]
  rfl
def cPieces : Con
  | [.lst _ cs n 5], H, K => ∃ ps : List Pc, Lf (cs = cellsPM ps ∧ n = ps.length ∧ ∀ p ∈ ps, pcOk p) ∧ ∀ rs : List Rc, Lf (rs.length = min ps.length 6 ∧ rs.all rightRM = true) → K (.ret (.lst 0 (cellsRM rs) rs.length 4)) H
  | _, _, _ => False
theorem pieces_ok : ValidF Try.prog gl0 11 cPieces := valid_frz (enters_of (by kernel_rfl)) gl0_noY 9 (nlR [4]) (wk_nlR _) fun args H Q hc => by
  unfold cPieces at hc
  split at hc
  · rename_i tg cs n
    obtain ⟨ps, ⟨rfl, rfl, h1⟩, hq⟩ := hc
    obtain ⟨hv, hb', h⟩ := pieces_run tg ps h1 (Q := fun o H' _ => ∃ v, o = .ret v ∧ Q (.ret (nlR [4] (frzV 0 H' 9 v))) H) (fun hn => ⟨_, rfl, hq [] ⟨by rw [hn]; rfl, rfl⟩⟩) (fun rs k1 k2 k3 b0 b1 => ⟨_, rfl, by
      rw [frz_rec1 rfl]
      exact hq rs ⟨k2, k3⟩⟩)
    exact ⟨by simp [oldL, old, cellsP_old], by simp [noYL, noY], _, 1000, envFor04 smTx_ok _ _ _, rfl, h⟩
  · exact hc.elim
end Go.Proofs.Ytiholnebhmjbjaa
