/-
  Chapter 24: few.
-/
import Derived.Test.YtafchcmemeinlaaDoorC24ZG
import Derived.Test.YtafchcmemeinlaaDoorC24QR
import Derived.Test.YtafchcmemeinlaaDoorC24ZV
import Derived.Test.YtafchcmemeinlaaDoorC24ZD
import Derived.Test.YtafchcmemeinlaaDoorC24YD
set_option linter.unusedSimpArgs false
set_option linter.unusedVariables false
set_option linter.unusedSectionVars false
namespace Go.Proofs.YtafchcmemeinlaaDoor
open Go.RowKit
set_option maxRecDepth 1000000

def cutC (c : Ctl) : Ctl := { c with rs := c.rs.take 7, lo := c.lo.take 66, ti := c.ti.take 66 }
def fewM (l : List Ctl) (i : Nat) : List Ctl := (l.take i).map cutC ++ l.drop i
def inv_31 (l : List Ctl) : LInv where
 α := Nat
 pre i := Lf (i ≤ l.length)
 st i := ⟨mkT [(3, .sl 1 (13 * l.length) 0 l.length 13), (12, .sl 1 (13 * l.length) 0 l.length 13), (13, .int .i64 (l.length : Nat)), (14, .int .i64 (i : Nat))], [deadB, ⟨.grow, true, cellsCM (fewM l i)⟩]⟩
 mu i := l.length - i
noncomputable def env_31 (hv : Nat → Option Pa) (hb : Nat → Option Bool) (m : List Ctl) : Env := e24 sm0 (fun i => bif Nat.beq i 31000 then some (fun _ => [[inv_31 m]]) else none) hv hb
noncomputable def goal_31 (hv : Nat → Option Pa) (hb : Nat → Option Bool) (t : Nat) (l m : List Ctl) (Q : Out → List Blk → Gh → Prop) : Prop :=
 callx (env_31 hv hb m) (wpx (env_31 hv hb m) 1000) 31 [.lst t (cellsCM l) l.length 13] [] {} Q
def vc_31_1 (m : List Ctl) (Q : Out → List Blk → Gh → Prop) : Prop :=
∀ x_0 : Nat, Lf (x_0 ≤ m.length) → bif decide ((x_0 : Int) < (m.length : Int)) then exI .i64 (x_0 : Int) fun n_1 => ckQ (Nat.blt (x_0 : Int).toNat m.length && Nat.beq (cellsCM (fewM m x_0)).length (13 * m.length) && true) (ckQ (Nat.beq
 (cellsCM (fewM m x_0)).length (13 * m.length) && Nat.ble (0 + (x_0 : Int).toNat * 13 + 13) (13 * m.length)) (∃ n_2 n_3 n_4 n_5 n_6 n_7 n_8 n_9, ∃ t_10 : Nat, ∃ cs_11 : List AV, ∃ len_12 t_13 : Nat, ∃ cs_14 : List AV, ∃ len_15 : Nat, ∃ n_16
 n_17, ∃ t_18 : Nat, ∃ cs_19 : List AV, ∃ len_20 : Nat, AV.agg (((cellsCM (fewM m x_0)).drop (0 + (x_0 : Int).toNat * 13)).take 13) = AV.agg [.int .i64 n_2, .int .i64 n_3, .int .i64 n_4, .int .i64 n_5, .int .i64 n_6, .int .i64 n_7, .int
 .i64 n_8, .int .i64 n_9, .lst t_10 cs_11 len_12 7, .lst t_13 cs_14 len_15 1, .int .i64 n_16, .int .i64 n_17, .lst t_18 cs_19 len_20 1] ∧ exI .i64 (len_12 : Int) fun n_21 => exI .i64 (imin n_21 7) fun n_22 => ckQ (decide (0 ≤ n_22) && true
 && Nat.ble n_22.toNat len_12 && true) (exI .i64 (len_15 : Int) fun n_23 => exI .i64 (imin n_23 66) fun n_24 => ckQ (decide (0 ≤ n_24) && true && Nat.ble n_24.toNat len_15 && true) (exI .i64 (len_20 : Int) fun n_25 => exI .i64 (imin n_25
 66) fun n_26 => ckQ (decide (0 ≤ n_26) && true && Nat.ble n_26.toNat len_20 && true) (ckQ (decide (0 ≤ n_1) && Nat.blt n_1.toNat m.length && Nat.beq (cellsCM (fewM m x_0)).length (13 * m.length) && true) (ckQ (Nat.beq (cellsCM (fewM m
 x_0)).length (13 * m.length)) (ckQ (Nat.beq (cellsCM (fewM m x_0)).length (13 * m.length) && Nat.ble (0 + n_1.toNat * 13 + 8 + 1) (13 * m.length) && true && true && true) (ckQ (eqAVL [.lst t_18 cs_19 len_20 1] [.lst t_18 cs_19 len_20 1] &&
 true) (ckQ (eqAVL [.lst t_18 cs_19 len_20 1] [.lst t_18 cs_19 len_20 1] && true) (ckQ (eqAVL [.lst t_13 cs_14 len_15 1] [.lst t_13 cs_14 len_15 1] && true) (ckQ (eqAVL [.lst t_13 cs_14 len_15 1] [.lst t_13 cs_14 len_15 1] && true) (ckQ
 (decide (0 ≤ n_1) && Nat.blt n_1.toNat m.length && Nat.beq (setRange (cellsCM (fewM m x_0)) (0 + n_1.toNat * 13 + 8) [.lst t_10 ((cs_11.drop 0).take ((n_22.toNat - 0) * 7)) (n_22.toNat - 0) 7]).length (13 * m.length) && true) (ckQ (Nat.beq
 (setRange (cellsCM (fewM m x_0)) (0 + n_1.toNat * 13 + 8) [.lst t_10 ((cs_11.drop 0).take ((n_22.toNat - 0) * 7)) (n_22.toNat - 0) 7]).length (13 * m.length)) (ckQ (Nat.beq (setRange (cellsCM (fewM m x_0)) (0 + n_1.toNat * 13 + 8) [.lst
 t_10 ((cs_11.drop 0).take ((n_22.toNat - 0) * 7)) (n_22.toNat - 0) 7]).length (13 * m.length) && Nat.ble (0 + n_1.toNat * 13 + 9 + 1) (13 * m.length) && true && true && true) (ckQ (eqAVL [.lst t_18 cs_19 len_20 1] [.lst t_18 cs_19 len_20
 1] && true) (ckQ (eqAVL [.lst t_18 cs_19 len_20 1] [.lst t_18 cs_19 len_20 1] && true) (ckQ (decide (0 ≤ n_1) && Nat.blt n_1.toNat m.length && Nat.beq (setRange (setRange (cellsCM (fewM m x_0)) (0 + n_1.toNat * 13 + 8) [.lst t_10
 ((cs_11.drop 0).take ((n_22.toNat - 0) * 7)) (n_22.toNat - 0) 7]) (0 + n_1.toNat * 13 + 9) [.lst t_13 ((cs_14.drop 0).take ((n_24.toNat - 0) * 1)) (n_24.toNat - 0) 1]).length (13 * m.length) && true) (ckQ (Nat.beq (setRange (setRange
 (cellsCM (fewM m x_0)) (0 + n_1.toNat * 13 + 8) [.lst t_10 ((cs_11.drop 0).take ((n_22.toNat - 0) * 7)) (n_22.toNat - 0) 7]) (0 + n_1.toNat * 13 + 9) [.lst t_13 ((cs_14.drop 0).take ((n_24.toNat - 0) * 1)) (n_24.toNat - 0) 1]).length (13 *
 m.length)) (ckQ (Nat.beq (setRange (setRange (cellsCM (fewM m x_0)) (0 + n_1.toNat * 13 + 8) [.lst t_10 ((cs_11.drop 0).take ((n_22.toNat - 0) * 7)) (n_22.toNat - 0) 7]) (0 + n_1.toNat * 13 + 9) [.lst t_13 ((cs_14.drop 0).take ((n_24.toNat
 - 0) * 1)) (n_24.toNat - 0) 1]).length (13 * m.length) && Nat.ble (0 + n_1.toNat * 13 + 12 + 1) (13 * m.length) && true && true && true) (exW .i64 ((x_0 : Int) + 1) fun n_27 => (True ∧ (0 : Nat) = (0 : Nat)) ∧ ∃ y_28 : Nat, Lf (y_28 ≤
 m.length) ∧ m.length - y_28 < m.length - x_0 ∧ ([] : List AV) = [] ∧ setRange (setRange (setRange (cellsCM (fewM m x_0)) (0 + n_1.toNat * 13 + 8) [.lst t_10 ((cs_11.drop 0).take ((n_22.toNat - 0) * 7)) (n_22.toNat - 0) 7]) (0 + n_1.toNat *
 13 + 9) [.lst t_13 ((cs_14.drop 0).take ((n_24.toNat - 0) * 1)) (n_24.toNat - 0) 1]) (0 + n_1.toNat * 13 + 12) [.lst t_18 ((cs_19.drop 0).take ((n_26.toNat - 0) * 1)) (n_26.toNat - 0) 1] = cellsCM (fewM m y_28) ∧ eqqQ (AV.sl 1 (13 *
 m.length) 0 m.length 13) ∧ eqqQ (AV.int .i64 (m.length : Int)) ∧ eqqQ (AV.sl 1 (13 * m.length) 0 m.length 13) ∧ AV.int .i64 n_27 = AV.int .i64 (y_28 : Int) ∧ True)))))))))))))))))))) else Q (.ret (.sl 1 (13 * m.length) 0 m.length 13))
 [Blk.mk BK.exact true [], Blk.mk BK.grow true (cellsCM (fewM m x_0))] {}
abbrev zZH0 (m : List Ctl) : Prop := AV.sl 1 (0 + (cellsCM m).length) 0 (0 + m.length) 13 = AV.sl 1 (13 * m.length) 0 m.length 13
theorem vc_31 (t : Nat) (l : List Ctl) (m : List Ctl) (Q : Out → List Blk → Gh → Prop) : goal_31 (lookV [(126984, .int .i64), (126985, .int .i64), (126986, .lit (.lst t (cellsCM m) m.length 13)), (126989, .int .i64), (126992, .int .i64),
 (126994, .agg [.int .i64, .int .i64, .int .i64, .int .i64, .int .i64, .int .i64, .int .i64, .int .i64, .lst 7, .lst 1, .int .i64, .int .i64, .lst 1]), (127005, .int .i64), (127006, .int .i64), (127012, .int .i64), (127013, .int .i64),
 (127019, .int .i64), (127020, .int .i64), (127028, .int .i64)]) (lookB [(204807, false)]) t l m Q = (exI .i64 (l.length : Int) (fun n_0 => exI .i64 (imin n_0 9) (fun n_1 => ckQ (decide (0 ≤ n_1) && true && Nat.ble n_1.toNat l.length &&
 true) (AV.lst t (((cellsCM l).drop 0).take ((n_1.toNat - 0) * 13)) (n_1.toNat - 0) 13 = AV.lst t (cellsCM m) m.length 13 ∧ ckQ (Nat.beq (cellsCM m).length (m.length * 13) && oneL (cellsCM m) && true && Nat.ble (m.length * 152)
 1099511627776) (ckQ (Nat.blt 0 m.length) (ckQ (Nat.ble (0 + m.length) 1099511627776 && Nat.ble ((0 + m.length) * 152) 1099511627776) (ckQ (Nat.beq ([] ++ cellsCM m).length (0 + (cellsCM m).length)) (exI .i64 ((0 + m.length : Nat) : Int)
 (fun n_2 => (∃ x_3 : Nat, Lf (x_3 ≤ m.length) ∧ ([] : List AV) = [] ∧ ckQ (oldL 0 ([] ++ cellsCM m) == true) ([] ++ cellsCM m = cellsCM (fewM m x_3) ∧ zZH0 m ∧ AV.int .i64 n_2 = AV.int .i64 (m.length : Int) ∧ zZH0 m ∧ AV.int .i64 0 =
 AV.int .i64 (x_3 : Int) ∧ True)) ∧ vc_31_1 m Q))))) ∧ bif Nat.beq m.length 0 then exI .i64 0 (fun n_2 => (∃ x_3 : Nat, Lf (x_3 ≤ m.length) ∧ False) ∧ vc_31_1 m Q) else True)))) := by kernel_rfl

noncomputable def goal_31e (hv : Nat → Option Pa) (hb : Nat → Option Bool) (t : Nat) (Q : Out → List Blk → Gh → Prop) : Prop :=
 callx (env_30z hv hb) (wpx (env_30z hv hb) 1000) 31 [.lst t [] 0 13] [] {} Q
theorem vc_31e (t : Nat) (Q : Out → List Blk → Gh → Prop) : goal_31e (lookV []) (lookB [(204807, true)]) t Q = (
((Q (Out.ret (AV.sl (0 : Nat) (0 : Nat) (0 : Nat) (0 : Nat) (13 : Nat))) ((Blk.mk BK.exact true []) :: []) (Gh.mk (0 : Nat) (0 : Nat) [])) ∧
 (Q (Out.ret AV.nils) [] (Gh.mk (0 : Nat) (0 : Nat) [])))) := by kernel_rfl

theorem cellsC_add (a b : List Ctl) : cellsCM (a ++ b) = cellsCM a ++ cellsCM b := by simp [cellsCM]
theorem cutR (l : List Rc) (k : Nat) : List.take (min l.length k * 7) (cellsRM l) = cellsRM (l.take k) := by
 have h : cellsRM l = cellsRM (l.take k) ++ cellsRM (l.drop k) := by
  simp only [cellsRM]
  rw [← List.flatMap_append, List.take_append_drop]
 rw [h]
 exact List.take_left' (by rw [cellsR_len, List.length_take]; omega)
theorem cutI (l : List Int) (k : Nat) : List.take (min l.length k * 1) (cellsI l) = cellsI (l.take k) := by
 rw [Nat.mul_one, Nat.min_comm, ← cellsI_len l, ← List.take_take, List.take_length]
 simp [cellsI, List.map_take]
theorem cutCC (l : List Ctl) (k : Nat) : List.take (min l.length k * 13) (cellsCM l) = cellsCM (l.take k) := by
 have h : cellsCM l = cellsCM (l.take k) ++ cellsCM (l.drop k) := by
  rw [← cellsC_add, List.take_append_drop]
 rw [h]
 exact List.take_left' (by rw [cellsC_len, List.length_take]; omega)
theorem cutR2 (l : List Rc) (k : Nat) : List.take ((l.take k).length * 7) (cellsRM l) = cellsRM (l.take k) := by rw [List.length_take, Nat.min_comm, cutR]
theorem cutI2 (l : List Int) (k : Nat) : List.take ((l.take k).length * 1) (cellsI l) = cellsI (l.take k) := by rw [List.length_take, Nat.min_comm, cutI]
theorem iminZ {x : Int} {a b : Nat} (hx : x = (a : Int)) {K : Int → Prop} (h : K ((min a b : Nat) : Int)) : ∃ n : Int, AV.int .i64 (imin x (b : Int)) = AV.int .i64 n ∧ K n := by
 subst hx
 refine ⟨_, ?_, h⟩
 congr 1
 unfold imin
 split <;> omega
theorem agZ {cs : List AV} {c : Ctl} (e : cs = ctC c) {K : Int → Int → Int → Int → Int → Int → Int → Int → Nat → List AV → Nat → Nat → List AV → Nat → Int → Int → Nat → List AV → Nat → Prop} (h : K c.k c.f c.a c.s1 c.s2 c.s3 c.s4 c.s5 0 (cellsRM c.rs) c.rs.length 0 (cellsI c.lo) c.lo.length c.ba c.ro 0 (cellsI c.ti) c.ti.length) :
  ∃ (n0 n1 n2 n3 n4 n5 n6 n7 : Int) (t8 : Nat) (c8 : List AV) (l8 : Nat) (t9 : Nat) (c9 : List AV) (l9 : Nat) (n10 n11 : Int) (t12 : Nat) (c12 : List AV) (l12 : Nat), AV.agg cs = AV.agg [.int .i64 n0, .int .i64 n1, .int .i64 n2, .int .i64 n3, .int .i64 n4, .int .i64 n5, .int .i64 n6, .int .i64 n7, .lst t8 c8 l8 7, .lst t9 c9 l9 1, .int .i64 n10, .int .i64 n11, .lst t12 c12 l12 1] ∧ K n0 n1 n2 n3 n4 n5 n6 n7 t8 c8 l8 t9 c9 l9 n10 n11 t12 c12 l12 :=
 ⟨_, _, _, _, _, _, _, _, _, _, _, _, _, _, _, _, _, _, _, by rw [e]; rfl, h⟩
theorem few_len (l : List Ctl) (i : Nat) : (fewM l i).length = l.length := by
 simp only [fewM, List.length_append, List.length_map, List.length_take, List.length_drop]; omega
theorem few_run (t : Nat) (l : List Ctl) (hl : l ≠ []) (Q : Out → List Blk → Gh → Prop) (hq : Q (.ret (.sl 1 (13 * (l.take 9).length) 0 (l.take 9).length 13)) [deadB, ⟨.grow, true, cellsCM ((l.take 9).map cutC)⟩] {}) : ∃ hv hb, goal_31 hv hb t l (l.take 9) Q := by
 obtain ⟨m, hm⟩ : ∃ m, m = l.take 9 := ⟨_, rfl⟩
 have hml : m.length = min 9 l.length := by rw [hm, List.length_take]
 have hl0 : 0 < l.length := List.length_pos_iff.2 hl
 rw [← hm] at hq ⊢
 obtain ⟨hv, hb', e⟩ : ∃ hv hb, goal_31 hv hb t l m Q = _ := ⟨_, _, vc_31 t l m Q⟩
 refine ⟨hv, hb', e.mpr ?_⟩
 delta zZH0
 clear e
 obtain ⟨f1, f2, f3⟩ := fl_C m
 have hL := cellsC_len m
 refine ⟨_, rfl, iminZ (b := 9) rfl (ckI (by simp; omega) ⟨?_, ckI (by simp [f3, hL]; omega) (ckI (by simp; omega) (ckI (by simp; omega) (ckI (by simp) ⟨_, rfl, ⟨0, ⟨Nat.zero_le _⟩, rfl, ?_⟩, ?_⟩))), ?_⟩)⟩
 ·simp only [Int.toNat_natCast, Nat.sub_zero, List.drop_zero, cutCC, ← hm, hml]
  rw [Nat.min_comm]
 ·rw [List.nil_append, f1]
  refine ⟨by simp [fewM], by simp [hL], by simp, by simp [hL], rfl, trivial⟩
 ·unfold vc_31_1
  rintro i ⟨hi⟩
  refine splitD (fun h => ?_) (fun h => ?_)
  ·have hi : i < m.length := by omega
   have hF : (cellsCM (fewM m i)).length = 13 * m.length := by rw [cellsC_len, few_len]
   obtain ⟨p, c, q, hp, hf, hf2⟩ : ∃ p c q, p.length = i ∧ fewM m i = p ++ c :: q ∧ fewM m (i + 1) = p ++ cutC c :: q := by
    refine ⟨(m.take i).map cutC, m[i], m.drop (i + 1), by rw [List.length_map, List.length_take]; omega, ?_, ?_⟩
    ·rw [fewM, List.getElem_cons_drop]
    ·rw [fewM, List.take_succ_eq_append_getElem hi, List.map_append]
     simp
   have hpq : (p ++ c :: q).length = m.length := by rw [← hf, few_len]
   have hn : lenM p q = m.length := by rw [← hpq, List.length_append, List.length_cons, lenM]; omega
   have hq13 : i * 13 = 13 * p.length := by omega
   have hc : List.take 13 (List.drop (13 * p.length) (cellsCM (p ++ c :: q))) = ctC c := by
    rw [at_pq, ← cellsC_len, List.drop_left]
    exact List.take_left' (ctC_len c)
   have s8 := st_pq p q c { c with rs := c.rs.take 7 } 8 (.lst 0 (cellsRM (c.rs.take 7)) (c.rs.take 7).length 7) (by omega) rfl
   have s9 := st_pq p q { c with rs := c.rs.take 7 } { c with rs := c.rs.take 7, lo := c.lo.take 66 } 9 (.lst 0 (cellsI (c.lo.take 66)) (c.lo.take 66).length 1) (by omega) rfl
   have s12 := st_pq p q { c with rs := c.rs.take 7, lo := c.lo.take 66 } (cutC c) 12 (.lst 0 (cellsI (c.ti.take 66)) (c.ti.take 66).length 1) (by omega) rfl
   refine ⟨_, rfl, ?_⟩
   rw [hf] at hF ⊢
   simp only [Int.toNat_natCast, Nat.zero_add, hq13]
   refine ckI (by simp only [hF, blt_t hi, beq_t rfl, Bool.and_self]) (ckI (by simp only [hF, beq_t rfl, Bool.true_and]; exact ble_t (by omega)) (agZ hc ⟨_, rfl, iminZ (b := 7) rfl (ckI (by simp; omega) ⟨_, rfl, iminZ (b := 66) rfl (ckI (by simp; omega) ⟨_, rfl, iminZ (b := 66) rfl (ckI (by simp; omega) ?_)⟩)⟩)⟩))
   simp only [Int.toNat_natCast, Nat.sub_zero, List.drop_zero, cutR, cutI, show min c.rs.length 7 = (c.rs.take 7).length by rw [List.length_take]; omega, show min c.lo.length 66 = (c.lo.take 66).length by rw [List.length_take]; omega, show min c.ti.length 66 = (c.ti.take 66).length by rw [List.length_take]; omega]
   have hN : ∀ c', (cellsCM (p ++ c' :: q)).length = 13 * m.length := fun c' => by rw [len_pq, hn]
   have b1 : i.blt m.length = true := blt_t hi
   have b2 : ∀ k, k < 13 → (13 * p.length + k + 1).ble (13 * m.length) = true := fun k hk => ble_t (by omega)
   have b3 : decide ((0 : Int) ≤ (i : Int)) = true := decide_eq_true (by omega)
   have b4 : ∀ k : Nat, k.beq k = true := fun k => beq_t rfl
   simp only [cutR2, cutI2, s8, s9, s12, hN, b1, b2 8 (by omega), b2 9 (by omega), b2 12 (by omega), b3, b4, eqAVL_refl, Bool.and_self, cond_true]
   exact wrapI (by omega) (by omega) ⟨⟨trivial, trivial⟩, i + 1, ⟨by omega⟩, by omega, trivial, by rw [hf2], trivial, trivial, trivial, by simp, trivial⟩
  ·have hi : i = m.length := by omega
   have e : fewM m i = m.map cutC := by rw [fewM, hi, List.take_length, List.drop_length, List.append_nil]
   rw [e]
   exact hq
 ·rw [show m.length.beq 0 = false by cases hh : m.length with | zero => omega | succ k => rfl]; trivial
def cFew : Con
 | [.lst _ cs k 13], H, K => ∃ l : List Ctl, Lf (cs = cellsCM l ∧ k = l.length) ∧ ∀ l' : List Ctl, Lf (l'.length ≤ 9 ∧ ∀ c ∈ l', okN 66 c) → K (.ret (.lst 0 (cellsCM l') l'.length 13)) H
 | _, _, _ => False
theorem few_len9 (l : List Ctl) : (l.take 9).length ≤ 9 := by rw [List.length_take]; omega
theorem few_frz (m : List Ctl) (n : Nat) (hn : m.length = n) : frzV 0 [deadB, ⟨.grow, true, cellsCM m⟩] 9 (.sl 1 (13 * n) 0 n 13) = .lst 0 (cellsCM m) n 13 := by
 have hL := cellsC_len m
 rw [frz_of (b := ⟨.grow, true, cellsCM m⟩) rfl (by rw [hL, hn]) (by omega) (by simp)]
 dsimp only
 rw [List.drop_zero, List.take_of_length_le (by omega), frzC 0 _ 7]
theorem few_ok : ValidF Tryd.prog glC 31 cFew := by
 refine valid_frz (enters_of (by kernel_rfl)) glC_noY 9 (nlR [13]) (wk_nlR _) fun args H Q hc => ?_
 unfold cFew at hc
 split at hc
 ·rename_i t cs k
  obtain ⟨l, ⟨rfl, rfl⟩, hq⟩ := hc
  refine ⟨rfl, rfl, ?_⟩
  by_cases hl : l = []
  ·subst hl
   have h0 := hq [] ⟨by simp, by simp⟩
   obtain ⟨hv, hb', e⟩ : ∃ hv hb, goal_31e hv hb t (fun o H' _ => ∃ v, o = .ret v ∧ Q (.ret (nlR [13] (frzV 0 H' 9 v))) H) = _ := ⟨_, _, vc_31e t _⟩
   exact ⟨_, 1000, envFor24 sm0_ok _ _ _, rfl, e.mpr ⟨⟨_, rfl, h0⟩, ⟨_, rfl, h0⟩⟩⟩
  ·have hn : ((l.take 9).map cutC).length = (l.take 9).length := List.length_map _
   have hm := few_len9 l
   have h9 := hq ((l.take 9).map cutC) ⟨by omega, fun c hc => by
     obtain ⟨d, _, rfl⟩ := List.mem_map.1 hc
     refine ⟨?_, ?_, ?_⟩ <;> dsimp only [cutC] <;> rw [List.length_take] <;> omega⟩
   rw [hn] at h9
   obtain ⟨hv, hb', h⟩ := few_run t l hl (fun o H' _ => ∃ v, o = .ret v ∧ Q (.ret (nlR [13] (frzV 0 H' 9 v))) H) ⟨_, rfl, by
    rw [few_frz _ _ hn]
    exact h9⟩
   exact ⟨_, 1000, envFor24 sm0_ok _ _ _, rfl, h⟩
 ·exact hc.elim
end Go.Proofs.YtafchcmemeinlaaDoor

set_option linter.unusedSimpArgs false
set_option linter.unusedVariables false
set_option linter.unusedSectionVars false
namespace Go.Proofs.YtafchcmemeinlaaDoor
open Go.RowKit
set_option maxRecDepth 1000000

def sm9 : SM := lookS [(11, cEncRV), (12, cComp), (17, cTrue), (24, cEncV), (25, cCheckV), (30, cBend), (31, cFew), (32, cRightCV)]
theorem sm9_ok : ∀ f g, sm9 f = some g → ValidF Tryd.prog glC f g := lookS_ok _ (by simp only [List.mem_cons, List.not_mem_nil, or_false, forall_eq_or_imp, forall_eq]; exact ⟨encR_ok, comp_ok, works_ok, enc_ok, check_ok, bend_raw, few_ok, right_ok⟩)
def inv_9 (s : S) : List (List LInv) := [[{ α := Nat, pre := fun i => Lf (i ≤ 4), st := fun i => ⟨mkT [(30, s.tm.get 30), (31, .int .i64 (i : Nat))], s.hp⟩, mu := fun i => 4 - i }]]
noncomputable def env_9 (hv : Nat → Option Pa) (hb : Nat → Option Bool) : Env := e24 sm9 (fun i => bif Nat.beq i 9000 then some inv_9 else none) hv hb
noncomputable def goal_9 (hv : Nat → Option Pa) (hb : Nat → Option Bool) (b : Bool) (t : Nat) (ps : List Pc) (w0 a0 n0 w1 a1 n1 : Int) (rs : List Ctl) (Q : Out → List Blk → Gh → Prop) : Prop :=
 callx (env_9 hv hb) (wpx (env_9 hv hb) 1000) 9 [.agg [.bool b, .lst t (cellsPcM ps) ps.length 10], .agg [.int .u8 w0, .int .u8 a0, .int .i64 n0, .int .u8 w1, .int .u8 a1, .int .i64 n1], .lst 0 (cellsCM rs) rs.length 13] [] {} Q
abbrev zZI3 (l_1 l_3 : List Ctl) (N_2 : Nat) (w0 a0 : Int) : Prop := Lf (cellsCM l_1 = cellsCM l_3 ∧ l_1.length = l_3.length ∧ l_3.length ≤ 1000 ∧ N_2 ≤ 900000 ∧ (0 ≤ w0 ∧ w0 ≤ 255) ∧ (0 ≤ a0 ∧ a0 ≤ 255) ∧ ∀ c_4 : Ctl, Membership.mem l_3 c_4 → okN N_2 c_4)
abbrev zZI5 (l_1 : List Ctl) : AV := .lst 0 (cellsCM l_1) l_1.length 13
abbrev zZI1 (l_1 : List Ctl) : AV := zZI5 l_1
abbrev zZI6 (l_1 : List Ctl) : AV := .lst 0 (cellsCM l_1) l_1.length 13
abbrev zZI2 (cs_12 : List AV) (l_14 : List Ctl) (len_13 : Nat) : Prop := Lf (cs_12 = cellsCM l_14 ∧ len_13 = l_14.length ∧ l_14.length ≤ 1000000 ∧ ∀ c_15 : Ctl, Membership.mem l_14 c_15 → okC c_15)
abbrev zZI4 : Out := .ret (.bool false)
abbrev zZI0 (x_10 : Nat) (b : Bool) (t : Nat) (ps : List Pc) (w0 a0 n0 w1 a1 n1 : Int) (l_1 l'_4 l'_7 l'_9 : List Ctl) : Prop := exW .i64 ((x_10 : Int) + 1) (fun n_23 => (True ∧ (0 : Nat) = (0 : Nat)) ∧ ∃ y_24 : Nat, Lf (y_24 ≤ 4) ∧ 4 - y_24 < 4 - x_10 ∧ eqqQ [AV.bool b, .lst t (cellsPcM ps) ps.length 10] ∧ eqqQ [AV.int .u8 w0, .int .u8 a0, .int .i64 n0, .int .u8 w1, .int .u8 a1, .int .i64 n1] ∧ AV.int .i64 n_23 = AV.int .i64 (y_24 : Int) ∧ eqqQ (AV.agg [zZI5 l_1, zZI5 l'_4, zZI5 l'_7, zZI5 l'_9]) ∧ True)
theorem vc_9 (b : Bool) (t : Nat) (ps : List Pc) (w0 : Int) (a0 : Int) (n0 : Int) (w1 : Int) (a1 : Int) (n1 : Int) (rs : List Ctl) (Q : Out → List Blk → Gh → Prop) : goal_9 (lookV [(36897, .lst 13), (36910, .str), (36912, .int .i64),
 (36924, .int .i64)]) (lookB []) b t ps w0 a0 n0 w1 a1 n1 rs Q = (∃ ps_0 : List Pc, Lf (cellsPcM ps = cellsPcM ps_0 ∧ ps.length = ps_0.length ∧ ∀ p_1 : Pc, Membership.mem ps_0 p_1 → okP p_1) ∧ ∀ l_1 : List Ctl, Lf (checkM l_1 = true ∧
 (encCM l_1).length ≤ 1200) → ∃ N_2 : Nat, ∃ l_3 : List Ctl, zZI3 l_1 l_3 N_2 w0 a0 ∧ ∀ l'_4 : List Ctl, Lf (l'_4.length ≤ l_3.length + 9 ∧ ∀ c_5 : Ctl, Membership.mem l'_4 c_5 → okN (N_2 + 8) c_5) → ∃ N_5 : Nat, ∃ l_6 : List Ctl, zZI3 l'_4
 l_6 N_5 w1 a1 ∧ ∀ l'_7 : List Ctl, Lf (l'_7.length ≤ l_6.length + 9 ∧ ∀ c_8 : Ctl, Membership.mem l'_7 c_8 → okN (N_5 + 8) c_8) → ∃ l_8 : List Ctl, Lf (cellsCM rs = cellsCM l_8 ∧ rs.length = l_8.length) ∧ ∀ l'_9 : List Ctl, Lf (l'_9.length
 ≤ 9 ∧ ∀ c_10 : Ctl, Membership.mem l'_9 c_10 → okN 66 c_10) → (∃ x_10 : Nat, Lf (x_10 ≤ 4) ∧ eqqQ [AV.bool b, .lst t (cellsPcM ps) ps.length 10] ∧ eqqQ [AV.int .u8 w0, .int .u8 a0, .int .i64 n0, .int .u8 w1, .int .u8 a1, .int .i64 n1] ∧
 AV.int .i64 0 = AV.int .i64 (x_10 : Int) ∧ eqqQ (AV.agg [zZI1 l_1, zZI1 l'_4, zZI1 l'_7, zZI1 l'_9]) ∧ True) ∧ ∀ x_10 : Nat, Lf (x_10 ≤ 4) → bif decide ((x_10 : Int) < 4) then ckQ (Nat.blt (x_10 : Int).toNat 4 && Nat.blt ((x_10 :
 Int).toNat * 1) 4) (∃ t_11 : Nat, ∃ cs_12 : List AV, ∃ len_13 : Nat, List.getD [zZI6 l_1, zZI6 l'_4, zZI6 l'_7, zZI6 l'_9] ((x_10 : Int).toNat * 1) AV.undef = AV.lst t_11 cs_12 len_13 13 ∧ ∃ l_14 : List Ctl, zZI2 cs_12 l_14 len_13 ∧ ∀ e_15
 : Int, Lf (e_15 = ite (checkM l_14 = true) 0 240) → ∃ l_16 : List Ctl, zZI2 cs_12 l_16 len_13 ∧ ∀ s_17 : List UInt8, ∀ e_18 : Int, Lf (encRM l_16 = Prod.mk s_17 e_18) → ∃ l_19 : List Ctl, zZI2 cs_12 l_19 len_13 ∧ bif checkM l_19 then bif
 e_15 != 0 then Q zZI4 [] {} else ∃ l_20 : List Ctl, Lf (cs_12 = cellsCM l_20 ∧ len_13 = l_20.length ∧ l_20.length ≤ 1000 ∧ ∀ c_21 : Ctl, Membership.mem l_20 c_21 → validM c_21 = true) ∧ exS (.str (encCM l_20)) (fun s_21 => exI .i64
 (s_21.length : Int) (fun n_22 => bif decide (n_22 > 1200) then bif !eqB s_17 [] then Q zZI4 [] {} else bif e_18 != 3 then Q zZI4 [] {} else zZI0 x_10 b t ps w0 a0 n0 w1 a1 n1 l_1 l'_4 l'_7 l'_9 else bif !eqB s_17 s_21 then Q zZI4 [] {}
 else bif e_18 != 0 then Q zZI4 [] {} else zZI0 x_10 b t ps w0 a0 n0 w1 a1 n1 l_1 l'_4 l'_7 l'_9)) else bif e_15 != 240 then Q zZI4 [] {} else bif !eqB s_17 [] then Q zZI4 [] {} else bif e_18 != 240 then Q zZI4 [] {} else zZI0 x_10 b t ps
 w0 a0 n0 w1 a1 n1 l_1 l'_4 l'_7 l'_9) else Q (.ret (.bool true)) [] {}) := by kernel_rfl

theorem valid_okN {c : Ctl} (h : validM c = true) : okN 1000 c := by
 have h8 := rcsOk_len ((valid_iff c).1 h).2.2.2.2.2.2.2.2.2.2.2.2.2.2.2.2.1
 rcases valid_cases h with ⟨f, s1, s2, s3, s4, s5, rs, rfl, hrs⟩ | ⟨f, rs, rfl, hrs⟩ | ⟨f, rfl⟩ | ⟨f, a, lo, rfl, hlo⟩ | ⟨f, a, rfl⟩ | ⟨f, a, ba, ro, ti, rfl, hti⟩
 ·exact ⟨by dsimp only; omega, Nat.zero_le _, Nat.zero_le _⟩
 ·exact ⟨by dsimp only; omega, Nat.zero_le _, Nat.zero_le _⟩
 ·exact ⟨Nat.zero_le _, Nat.zero_le _, Nat.zero_le _⟩
 ·have := (nacks_parts hlo).2.1
  exact ⟨Nat.zero_le _, by dsimp only; omega, Nat.zero_le _⟩
 ·exact ⟨Nat.zero_le _, Nat.zero_le _, Nat.zero_le _⟩
 ·obtain ⟨ref, l, h1, h2, h3⟩ := stepsR_some hti
  exact ⟨Nat.zero_le _, Nat.zero_le _, by dsimp only; omega⟩
theorem okN_C {N : Nat} {c : Ctl} (h : okN N c) (hN : N ≤ 1000000) : okC c := by
 obtain ⟨h1, h2, h3⟩ := h
 exact ⟨by omega, by omega, by omega⟩
theorem encodes_run (b : Bool) (t : Nat) (ps : List Pc) (w0 a0 n0 w1 a1 n1 : Int) (rs : List Ctl) (hps : ∀ p ∈ ps, okP p) (hw0 : 0 ≤ w0 ∧ w0 ≤ 255) (ha0 : 0 ≤ a0 ∧ a0 ≤ 255) (hw1 : 0 ≤ w1 ∧ w1 ≤ 255) (ha1 : 0 ≤ a1 ∧ a1 ≤ 255) (Q : Out → List Blk → Gh → Prop) (hq : Q (.ret (.bool true)) [] {}) : ∃ hv hb, goal_9 hv hb b t ps w0 a0 n0 w1 a1 n1 rs Q := by
 obtain ⟨hv, hb', e⟩ : ∃ hv hb, goal_9 hv hb b t ps w0 a0 n0 w1 a1 n1 rs Q = _ := ⟨_, _, vc_9 b t ps w0 a0 n0 w1 a1 n1 rs Q⟩
 refine ⟨hv, hb', e.mpr ?_⟩
 delta zZI3 zZI5 zZI1 zZI6 zZI2 zZI4 zZI0
 clear e
 refine ⟨ps, ⟨rfl, rfl, hps⟩, ?_⟩
 rintro l ⟨hck, hlen⟩
 have hc := (check_iff l).1 hck
 have hl8 := hc.1.2
 have hlN : ∀ c ∈ l, okN 1000 c := fun c hm => valid_okN (hc.2.2 c hm)
 refine ⟨1000, l, ⟨rfl, rfl, by omega, by omega, hw0, ha0, hlN⟩, ?_⟩
 rintro l2 ⟨g2, h2⟩
 refine ⟨1008, l2, ⟨rfl, rfl, by omega, by omega, hw1, ha1, h2⟩, ?_⟩
 rintro l3 ⟨g3, h3⟩
 refine ⟨rs, ⟨rfl, rfl⟩, ?_⟩
 rintro l4 ⟨g4, h4⟩
 refine ⟨⟨0, ⟨by omega⟩, rfl, rfl, rfl, rfl, trivial⟩, ?_⟩
 rintro i ⟨hi⟩
 refine splitD (fun h => ?_) (fun _ => hq)
 have hx : ∃ x : List Ctl, List.getD [AV.lst 0 (cellsCM l) l.length 13, AV.lst 0 (cellsCM l2) l2.length 13, AV.lst 0 (cellsCM l3) l3.length 13, AV.lst 0 (cellsCM l4) l4.length 13] (Int.toNat (i : Int) * 1) AV.undef = .lst 0 (cellsCM x) x.length 13 ∧ x.length ≤ 1000 ∧ ∀ c ∈ x, okC c := by
  rw [Int.toNat_natCast, Nat.mul_one]
  match i with
  | 0 => exact ⟨l, rfl, by omega, fun c hm => okN_C (hlN c hm) (by omega)⟩
  | 1 => exact ⟨l2, rfl, by omega, fun c hm => okN_C (h2 c hm) (by omega)⟩
  | 2 => exact ⟨l3, rfl, by omega, fun c hm => okN_C (h3 c hm) (by omega)⟩
  | 3 => exact ⟨l4, rfl, by omega, fun c hm => okN_C (h4 c hm) (by omega)⟩
  | n + 4 => omega
 obtain ⟨x, hx, hxl, hxo⟩ := hx
 refine ckI (by simp; omega) ⟨_, _, _, hx, x, ⟨rfl, rfl, by omega, hxo⟩, ?_⟩
 rintro e ⟨he⟩
 refine ⟨x, ⟨rfl, rfl, by omega, hxo⟩, ?_⟩
 rintro s f ⟨hs⟩
 refine ⟨x, ⟨rfl, rfl, by omega, hxo⟩, ?_⟩
 cases hk : checkM x with
 | true =>
  rw [encRM, if_pos hk] at hs
  rw [if_pos hk] at he
  rw [cond_true]
  refine splitNE (fun h => absurd he h) fun _ => ⟨x, ⟨rfl, rfl, hxl, ((check_iff x).1 hk).2.2⟩, _, rfl, _, rfl, splitD (fun hgt => ?_) (fun hle => ?_)⟩
  ·rw [if_neg (by omega)] at hs
   cases hs
   rw [eqB_refl, Bool.not_true, cond_false]
   exact splitNE (fun h => absurd rfl h) fun _ => wrapI (by omega) (by omega) ⟨⟨trivial, rfl⟩, i + 1, ⟨by omega⟩, by omega, rfl, rfl, by simp, rfl, trivial⟩
  ·rw [if_pos (by omega)] at hs
   cases hs
   rw [eqB_refl, Bool.not_true, cond_false]
   exact splitNE (fun h => absurd rfl h) fun _ => wrapI (by omega) (by omega) ⟨⟨trivial, rfl⟩, i + 1, ⟨by omega⟩, by omega, rfl, rfl, by simp, rfl, trivial⟩
 | false =>
  have hk' : ¬ checkM x = true := by rw [hk]; simp
  rw [encRM, if_neg hk'] at hs
  rw [if_neg hk'] at he
  cases hs
  rw [cond_false, eqB_refl, Bool.not_true, cond_false]
  exact splitNE (fun h => absurd he h) fun _ => splitNE (fun h => absurd rfl h) fun _ => wrapI (by omega) (by omega) ⟨⟨trivial, rfl⟩, i + 1, ⟨by omega⟩, by omega, rfl, rfl, by simp, rfl, trivial⟩
end Go.Proofs.YtafchcmemeinlaaDoor
