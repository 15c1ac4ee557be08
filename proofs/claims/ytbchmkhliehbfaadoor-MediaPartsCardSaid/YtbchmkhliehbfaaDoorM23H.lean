/-
  Chapter 23: made, Header, Encode, Demux.
-/
import Derived.Test.YtbchmkhliehbfaaDoorM23G
set_option linter.unusedSimpArgs false
set_option linter.unusedVariables false
namespace Go.Proofs.YtbchmkhliehbfaaDoor
open Go.RowKit
set_option maxRecDepth 1000000

theorem right_of {ty seq ti ss : Int} {cs : List Int} {ex : List Xt} {pad : Int} (h : rightM ty seq ti ss cs ex pad = true) : (0 ≤ ty ∧ ty ≤ 127) ∧ cs.length ≤ 15 ∧ ex.length ≤ 16 ∧ extsOkM 0 ex = true ∧ (0 ≤ pad ∧ pad ≤ 255) := by
  rw [rightM, Bool.and_eq_true] at h
  have := of_decide_eq_true h.1
  obtain ⟨a1, a2, a3, a4, a5, a6, a7, a8, a9, a10, a11, a12, a13⟩ := this
  exact ⟨⟨a1, a2⟩, a12, a13, h.2, a10, a11⟩
def medK (c5 : List AV) (n5 : Nat) (c6 : List AV) (n6 : Nat) (cs : List Int) (ex : List Xt) : Prop := c5 = cellsI cs ∧ n5 = cs.length ∧ c6 = cellsXM ex ∧ n6 = ex.length ∧ cs.length ≤ 1000000 ∧ ex.length ≤ 1000000 ∧ dataM ex
def cHeader : Con
  | [.agg [.bool mk, .int .i64 ty, .int .i64 seq, .int .i64 ti, .int .i64 ss, .lst _ c5 n5 1, .lst _ c6 n6 2, .int .i64 pad, .str pl]], H, K => ∃ (cs : List Int) (ex : List Xt), Lf (medK c5 n5 c6 n6 cs ex ∧ rightM ty seq ti ss cs ex pad = true) ∧
      K (.ret (.sl H.length (headM mk ty seq ti ss cs ex pad).length 0 (headM mk ty seq ti ss cs ex pad).length 1)) (H ++ [⟨.grow, true, ofBytes (headM mk ty seq ti ss cs ex pad)⟩])
  | _, _, _ => False
theorem header_ok : ValidF Tryd.prog gl0 56 cHeader := by
  refine valid_new (enters_of (by kernel_rfl)) gl0_noY fun args H Q hc => ?_
  unfold cHeader at hc
  split at hc
  · rename_i mk ty seq ti ss tc c5 n5 tx c6 n6 pad pl
    obtain ⟨cs, ex, ⟨⟨rfl, rfl, rfl, rfl, h1, h2, hd⟩, hr⟩, hq⟩ := hc
    obtain ⟨r1, r2, r3, r4, r5⟩ := right_of hr
    obtain ⟨hv, hb', h⟩ := header_run mk ty seq ti ss tc cs tx ex pad pl (fun o H' _ => NewEnd Q H o H') r1 r2 r3 r4 (fun tot len lf c g e1 e2 e3 e4 => by
      subst e1 e2 e3 e4
      exact ⟨1, .sl 0 _ 0 _ 1, rfl, rfl, .inr ⟨rfl, _, rfl, by simp, oldL_ofB 0 _, noY_ofB _, hq⟩⟩)
    refine ⟨rfl, rfl, _, 1000, ?_, rfl, h⟩
    exact ⟨mixed23, names23, tabA_ok, smG_ok⟩
  · exact hc.elim
/-! ## made -/
def smH : SM := lookS [(13, cCheck), (56, cHeader)]
theorem smH_ok : ∀ f g, smH f = some g → ValidF Tryd.prog gl0 f g := lookS_ok _ (by simp only [List.mem_cons, List.not_mem_nil, or_false, forall_eq_or_imp, forall_eq]; exact ⟨check_ok, header_ok⟩)
noncomputable def goal_33 (hv : Nat → Option Pa) (hb : Nat → Option Bool) (mk : Bool) (ty seq ti ss : Int) (tc : Nat) (cs : List Int) (tx : Nat) (ex : List Xt) (pad : Int) (pl : List UInt8) (Q : Out → List Blk → Gh → Prop) : Prop :=
  callx (e23 smH (fun _ => none) hv hb) (wpx (e23 smH (fun _ => none) hv hb) 1000) 33 [.agg (medM mk ty seq ti ss tc cs tx ex pad pl)] [] {} Q
theorem vc_33 (mk : Bool) (ty : Int) (seq : Int) (ti : Int) (ss : Int) (tc : Nat) (cs : List Int) (tx : Nat) (ex : List Xt) (pad : Int) (pl : List UInt8) (Q : Out → List Blk → Gh → Prop) : goal_33 (lookV [(135182, .int .i64), (135185, .int .i64), (135186, .int .i64), (135189, .int .i64)]) (lookB []) mk ty seq ti ss tc cs tx ex pad pl Q = (
(∃ cs_0 : (List Int), (∃ ex_1 : (List Xt), ((Lf (((cellsI cs) = (cellsI cs_0)) ∧
 (((List.length cs) = (List.length cs_0)) ∧
 (((cellsXM ex) = (cellsXM ex_1)) ∧
 (((List.length ex) = (List.length ex_1)) ∧
 (((List.length cs_0) ≤ (1000000 : Nat)) ∧
 (((List.length ex_1) ≤ (1000000 : Nat)) ∧
 (dataM ex_1)))))))) ∧
 (∀ r_2 : Int, ((Lf (r_2 = (ite ((rightM ty seq ti ss cs_0 ex_1 pad) = true) (0 : Int) (230 : Int)))) →
(bif (r_2 != (0 : Int)) then (Q (Out.ret (AV.tup (AV.nils :: ((AV.int .i64 r_2) :: [])))) [] (Gh.mk (0 : Nat) (0 : Nat) []))
else (∃ cs_3 : (List Int), (∃ ex_4 : (List Xt), ((Lf ((medK (cellsI cs) (List.length cs) (cellsXM ex) (List.length ex) cs_3 ex_4) ∧
 ((rightM ty seq ti ss cs_3 ex_4 pad) = true))) ∧
 (bif (Nat.beq (List.length (ofBytes (headM mk ty seq ti ss cs_3 ex_4 pad))) (List.length (headM mk ty seq ti ss cs_3 ex_4 pad))) then (∃ n_5 : Int, (((AV.int .i64 (Nat.cast (List.length (headM mk ty seq ti ss cs_3 ex_4 pad)) : Int)) = (AV.int .i64 n_5)) ∧
 (∃ n_6 : Int, (((AV.int .i64 (Nat.cast (List.length pl) : Int)) = (AV.int .i64 n_6)) ∧
 (∃ n_7 : Int, (((AV.int .i64 (IntKind.wrap .i64 (n_5 + n_6))) = (AV.int .i64 n_7)) ∧
 (∃ n_8 : Int, (((AV.int .i64 (IntKind.wrap .i64 (n_7 + pad))) = (AV.int .i64 n_8)) ∧
 (bif (decide (n_8 > (1200 : Int))) then (Q (Out.ret (AV.tup (AV.nils :: ((AV.int .i64 (3 : Int)) :: [])))) [] (Gh.mk (0 : Nat) (0 : Nat) []))
else (Q (Out.ret (AV.tup ((AV.sl (1 : Nat) (List.length (headM mk ty seq ti ss cs_3 ex_4 pad)) (0 : Nat) (List.length (headM mk ty seq ti ss cs_3 ex_4 pad)) (1 : Nat)) :: ((AV.int .i64 (0 : Int)) :: [])))) ((Blk.mk BK.exact true (medM mk ty seq ti ss tc cs tx ex pad pl)) :: ((Blk.mk BK.grow true (ofBytes (headM mk ty seq ti ss cs_3 ex_4 pad))) :: [])) (Gh.mk (0 : Nat) (0 : Nat) [])))))))))))
else False))))))))))) := by kernel_rfl

theorem head_bound (mk : Bool) (ty seq ti ss : Int) (cs : List Int) (ex : List Xt) (pad : Int) (h2 : cs.length ≤ 15) (h3 : ex.length ≤ 16) (h4 : extsOkM 0 ex = true) : (headM mk ty seq ti ss cs ex pad).length ≤ 10000 := by
  have h5 := exts_all ex 0 (Int.le_refl _) h4
  have h6 := extB_len (shortM ex) ex fun x hx => (h5 x hx).2.2
  unfold headM
  rw [List.length_append, head_len]
  split
  · simp; omega
  · rw [List.length_append, put_len, extPM, List.length_append, zerosM, List.length_replicate]
    simp
    omega
def totalM (mk : Bool) (ty seq ti ss : Int) (cs : List Int) (ex : List Xt) (pad : Int) (pl : List UInt8) : Int := (headM mk ty seq ti ss cs ex pad).length + pl.length + pad
theorem made_run (mk : Bool) (ty seq ti ss : Int) (tc : Nat) (cs : List Int) (tx : Nat) (ex : List Xt) (pad : Int) (pl : List UInt8) (hk : medK (cellsI cs) cs.length (cellsXM ex) ex.length cs ex) (hpl : pl.length ≤ 1000000000) (Q : Out → List Blk → Gh → Prop)
    (h1 : rightM ty seq ti ss cs ex pad = false → Q (.ret (.tup [.nils, .int .i64 230])) [] {})
    (h2 : rightM ty seq ti ss cs ex pad = true → 1200 < totalM mk ty seq ti ss cs ex pad pl → ∀ g, Q (.ret (.tup [.nils, .int .i64 3])) g {})
    (h3 : rightM ty seq ti ss cs ex pad = true → totalM mk ty seq ti ss cs ex pad pl ≤ 1200 → ∀ g, Q (.ret (.tup [.sl 1 (headM mk ty seq ti ss cs ex pad).length 0 (headM mk ty seq ti ss cs ex pad).length 1, .int .i64 0])) (g :: [⟨.grow, true, ofBytes (headM mk ty seq ti ss cs ex pad)⟩]) {}) : ∃ hv hb, goal_33 hv hb mk ty seq ti ss tc cs tx ex pad pl Q := by
  obtain ⟨hv, hb', e⟩ : ∃ hv hb, goal_33 hv hb mk ty seq ti ss tc cs tx ex pad pl Q = _ := ⟨_, _, vc_33 mk ty seq ti ss tc cs tx ex pad pl Q⟩
  refine ⟨hv, hb', e.mpr ?_⟩
  clear e
  refine ⟨cs, ex, ⟨hk⟩, ?_⟩
  rintro r ⟨hr⟩
  have hcl := hk.2.2.2.2.1
  cases hT : rightM ty seq ti ss cs ex pad
  · rw [hT, if_neg (by simp)] at hr
    subst hr
    exact h1 hT
  · rw [hT, if_pos rfl] at hr
    subst hr
    obtain ⟨r1, r2, r3, r4, r5⟩ := right_of hT
    have hb := head_bound mk ty seq ti ss cs ex pad r2 r3 r4
    refine splitNE (fun h => absurd rfl h) (fun _ => ⟨cs, ex, ⟨hk, hT⟩, ckI (by rw [ofB_len]; simp) ⟨_, rfl, _, rfl, wrapI (by omega) (by omega) (wrapI (by omega) (by omega) (splitD (fun hg => h2 hT (by unfold totalM; omega) _) (fun hg => h3 hT (by unfold totalM; omega) _)))⟩⟩)
def cMade : Con
  | [.agg [.bool mk, .int .i64 ty, .int .i64 seq, .int .i64 ti, .int .i64 ss, .lst _ c5 n5 1, .lst _ c6 n6 2, .int .i64 pad, .str pl]], H, K => ∃ (cs : List Int) (ex : List Xt), Lf (medK c5 n5 c6 n6 cs ex ∧ pl.length ≤ 1000000000) ∧
      (Lf (rightM ty seq ti ss cs ex pad = false) → K (.ret (.tup [.nils, .int .i64 230])) H) ∧
      (Lf (rightM ty seq ti ss cs ex pad = true ∧ 1200 < totalM mk ty seq ti ss cs ex pad pl) → K (.ret (.tup [.nils, .int .i64 3])) H) ∧
      (∀ b : List UInt8, Lf (rightM ty seq ti ss cs ex pad = true ∧ totalM mk ty seq ti ss cs ex pad pl ≤ 1200 ∧ b = headM mk ty seq ti ss cs ex pad) → K (.ret (.tup [.sl H.length b.length 0 b.length 1, .int .i64 0])) (H ++ [⟨.grow, true, ofBytes b⟩]))
  | _, _, _ => False
theorem made_ok : ValidF Tryd.prog gl0 33 cMade := by
  refine valid_new (enters_of (by kernel_rfl)) gl0_noY fun args H Q hc => ?_
  unfold cMade at hc
  split at hc
  · rename_i mk ty seq ti ss tc c5 n5 tx c6 n6 pad pl
    obtain ⟨cs, ex, ⟨⟨rfl, rfl, rfl, rfl, k1, k2, hd⟩, hpl⟩, q1, q2, q3⟩ := hc
    obtain ⟨hv, hb', h⟩ := made_run mk ty seq ti ss tc cs tx ex pad pl ⟨rfl, rfl, rfl, rfl, k1, k2, hd⟩ hpl (fun o H' _ => NewEnd Q H o H')
      (fun hr => ⟨0, .tup [.nils, .int .i64 230], rfl, rfl, .inl ⟨rfl, q1 ⟨hr⟩⟩⟩)
      (fun hr ht g => ⟨0, .tup [.nils, .int .i64 3], rfl, rfl, .inl ⟨rfl, q2 ⟨hr, ht⟩⟩⟩)
      (fun hr ht g => ⟨1, .tup [.sl 0 _ 0 _ 1, .int .i64 0], rfl, rfl, .inr ⟨rfl, _, rfl, by simp, oldL_ofB 0 _, noY_ofB _, q3 _ ⟨hr, ht, rfl⟩⟩⟩)
    refine ⟨rfl, rfl, _, 1000, ?_, rfl, h⟩
    exact ⟨mixed23, names23, tabA_ok, smH_ok⟩
  · exact hc.elim
/-! ## Demux -/
def demuxM : List UInt8 → Int
  | [] => 0
  | c :: l => if c.toNat < 4 then 1 else if 20 ≤ c.toNat ∧ c.toNat < 64 then 2 else if 64 ≤ c.toNat ∧ c.toNat < 80 then 3 else if 128 ≤ c.toNat ∧ c.toNat < 192 then (match l with | [] => 4 | d :: _ => if 192 ≤ d.toNat ∧ d.toNat < 224 then 5 else 4) else 0
noncomputable def goal_26 (hv : Nat → Option Pa) (hb : Nat → Option Bool) (s : List UInt8) (Q : Out → List Blk → Gh → Prop) : Prop :=
  callx (e23 sm0 (fun _ => none) hv hb) (wpx (e23 sm0 (fun _ => none) hv hb) 1000) 26 [.str s] [] {} Q
theorem vc_26 (s : List UInt8) (Q : Out → List Blk → Gh → Prop) : goal_26 (lookV [(106503, .int .u8), (106523, .int .u8), (106527, .int .i64), (106532, .int .u8), (106533, .int .u8), (106538, .int .u8)]) (lookB []) s Q = (
(bif (eqB s []) then (Q (Out.ret (AV.int .i64 (0 : Int))) [] (Gh.mk (0 : Nat) (0 : Nat) []))
else (bif (Nat.blt (0 : Nat) (List.length s)) then (∃ n_0 : Int, (((AV.int .u8 (Nat.cast (UInt8.toNat (List.getD s (0 : Nat) (UInt8.ofNat (0 : Nat)))) : Int)) = (AV.int .u8 n_0)) ∧
 (bif (decide (n_0 < (4 : Int))) then (Q (Out.ret (AV.int .i64 (1 : Int))) [] (Gh.mk (0 : Nat) (0 : Nat) []))
else (bif (decide (n_0 ≥ (20 : Int))) then (bif (decide (n_0 < (64 : Int))) then (Q (Out.ret (AV.int .i64 (2 : Int))) [] (Gh.mk (0 : Nat) (0 : Nat) []))
else (bif (decide (n_0 ≥ (64 : Int))) then (bif (decide (n_0 < (80 : Int))) then (Q (Out.ret (AV.int .i64 (3 : Int))) [] (Gh.mk (0 : Nat) (0 : Nat) []))
else (∃ n_1 : Int, (((AV.int .u8 (Int.fdiv n_0 (64 : Int))) = (AV.int .u8 n_1)) ∧
 (bif (n_1 == (2 : Int)) then (∃ n_2 : Int, (((AV.int .i64 (Nat.cast (List.length s) : Int)) = (AV.int .i64 n_2)) ∧
 (bif (decide (n_2 > (1 : Int))) then (bif (Nat.blt (1 : Nat) (List.length s)) then (∃ n_3 : Int, (((AV.int .u8 (Nat.cast (UInt8.toNat (List.getD s (1 : Nat) (UInt8.ofNat (0 : Nat)))) : Int)) = (AV.int .u8 n_3)) ∧
 (∃ n_4 : Int, (((AV.int .u8 (Int.fdiv n_3 (32 : Int))) = (AV.int .u8 n_4)) ∧
 (bif (n_4 == (6 : Int)) then (Q (Out.ret (AV.int .i64 (5 : Int))) [] (Gh.mk (0 : Nat) (0 : Nat) []))
else (∃ n_5 : Int, (((AV.int .u8 (Int.fdiv n_0 (64 : Int))) = (AV.int .u8 n_5)) ∧
 (bif (n_5 == (2 : Int)) then (Q (Out.ret (AV.int .i64 (4 : Int))) [] (Gh.mk (0 : Nat) (0 : Nat) []))
else (Q (Out.ret (AV.int .i64 (0 : Int))) [] (Gh.mk (0 : Nat) (0 : Nat) []))))))))))
else False)
else (∃ n_3 : Int, (((AV.int .u8 (Int.fdiv n_0 (64 : Int))) = (AV.int .u8 n_3)) ∧
 (bif (n_3 == (2 : Int)) then (Q (Out.ret (AV.int .i64 (4 : Int))) [] (Gh.mk (0 : Nat) (0 : Nat) []))
else (Q (Out.ret (AV.int .i64 (0 : Int))) [] (Gh.mk (0 : Nat) (0 : Nat) []))))))))
else (∃ n_2 : Int, (((AV.int .u8 (Int.fdiv n_0 (64 : Int))) = (AV.int .u8 n_2)) ∧
 (bif (n_2 == (2 : Int)) then (Q (Out.ret (AV.int .i64 (4 : Int))) [] (Gh.mk (0 : Nat) (0 : Nat) []))
else (Q (Out.ret (AV.int .i64 (0 : Int))) [] (Gh.mk (0 : Nat) (0 : Nat) [])))))))))
else (∃ n_1 : Int, (((AV.int .u8 (Int.fdiv n_0 (64 : Int))) = (AV.int .u8 n_1)) ∧
 (bif (n_1 == (2 : Int)) then (∃ n_2 : Int, (((AV.int .i64 (Nat.cast (List.length s) : Int)) = (AV.int .i64 n_2)) ∧
 (bif (decide (n_2 > (1 : Int))) then (bif (Nat.blt (1 : Nat) (List.length s)) then (∃ n_3 : Int, (((AV.int .u8 (Nat.cast (UInt8.toNat (List.getD s (1 : Nat) (UInt8.ofNat (0 : Nat)))) : Int)) = (AV.int .u8 n_3)) ∧
 (∃ n_4 : Int, (((AV.int .u8 (Int.fdiv n_3 (32 : Int))) = (AV.int .u8 n_4)) ∧
 (bif (n_4 == (6 : Int)) then (Q (Out.ret (AV.int .i64 (5 : Int))) [] (Gh.mk (0 : Nat) (0 : Nat) []))
else (∃ n_5 : Int, (((AV.int .u8 (Int.fdiv n_0 (64 : Int))) = (AV.int .u8 n_5)) ∧
 (bif (n_5 == (2 : Int)) then (Q (Out.ret (AV.int .i64 (4 : Int))) [] (Gh.mk (0 : Nat) (0 : Nat) []))
else (Q (Out.ret (AV.int .i64 (0 : Int))) [] (Gh.mk (0 : Nat) (0 : Nat) []))))))))))
else False)
else (∃ n_3 : Int, (((AV.int .u8 (Int.fdiv n_0 (64 : Int))) = (AV.int .u8 n_3)) ∧
 (bif (n_3 == (2 : Int)) then (Q (Out.ret (AV.int .i64 (4 : Int))) [] (Gh.mk (0 : Nat) (0 : Nat) []))
else (Q (Out.ret (AV.int .i64 (0 : Int))) [] (Gh.mk (0 : Nat) (0 : Nat) []))))))))
else (∃ n_2 : Int, (((AV.int .u8 (Int.fdiv n_0 (64 : Int))) = (AV.int .u8 n_2)) ∧
 (bif (n_2 == (2 : Int)) then (Q (Out.ret (AV.int .i64 (4 : Int))) [] (Gh.mk (0 : Nat) (0 : Nat) []))
else (Q (Out.ret (AV.int .i64 (0 : Int))) [] (Gh.mk (0 : Nat) (0 : Nat) []))))))))))
else (bif (decide (n_0 ≥ (64 : Int))) then (bif (decide (n_0 < (80 : Int))) then (Q (Out.ret (AV.int .i64 (3 : Int))) [] (Gh.mk (0 : Nat) (0 : Nat) []))
else (∃ n_1 : Int, (((AV.int .u8 (Int.fdiv n_0 (64 : Int))) = (AV.int .u8 n_1)) ∧
 (bif (n_1 == (2 : Int)) then (∃ n_2 : Int, (((AV.int .i64 (Nat.cast (List.length s) : Int)) = (AV.int .i64 n_2)) ∧
 (bif (decide (n_2 > (1 : Int))) then (bif (Nat.blt (1 : Nat) (List.length s)) then (∃ n_3 : Int, (((AV.int .u8 (Nat.cast (UInt8.toNat (List.getD s (1 : Nat) (UInt8.ofNat (0 : Nat)))) : Int)) = (AV.int .u8 n_3)) ∧
 (∃ n_4 : Int, (((AV.int .u8 (Int.fdiv n_3 (32 : Int))) = (AV.int .u8 n_4)) ∧
 (bif (n_4 == (6 : Int)) then (Q (Out.ret (AV.int .i64 (5 : Int))) [] (Gh.mk (0 : Nat) (0 : Nat) []))
else (∃ n_5 : Int, (((AV.int .u8 (Int.fdiv n_0 (64 : Int))) = (AV.int .u8 n_5)) ∧
 (bif (n_5 == (2 : Int)) then (Q (Out.ret (AV.int .i64 (4 : Int))) [] (Gh.mk (0 : Nat) (0 : Nat) []))
else (Q (Out.ret (AV.int .i64 (0 : Int))) [] (Gh.mk (0 : Nat) (0 : Nat) []))))))))))
else False)
else (∃ n_3 : Int, (((AV.int .u8 (Int.fdiv n_0 (64 : Int))) = (AV.int .u8 n_3)) ∧
 (bif (n_3 == (2 : Int)) then (Q (Out.ret (AV.int .i64 (4 : Int))) [] (Gh.mk (0 : Nat) (0 : Nat) []))
else (Q (Out.ret (AV.int .i64 (0 : Int))) [] (Gh.mk (0 : Nat) (0 : Nat) []))))))))
else (∃ n_2 : Int, (((AV.int .u8 (Int.fdiv n_0 (64 : Int))) = (AV.int .u8 n_2)) ∧
 (bif (n_2 == (2 : Int)) then (Q (Out.ret (AV.int .i64 (4 : Int))) [] (Gh.mk (0 : Nat) (0 : Nat) []))
else (Q (Out.ret (AV.int .i64 (0 : Int))) [] (Gh.mk (0 : Nat) (0 : Nat) [])))))))))
else (∃ n_1 : Int, (((AV.int .u8 (Int.fdiv n_0 (64 : Int))) = (AV.int .u8 n_1)) ∧
 (bif (n_1 == (2 : Int)) then (∃ n_2 : Int, (((AV.int .i64 (Nat.cast (List.length s) : Int)) = (AV.int .i64 n_2)) ∧
 (bif (decide (n_2 > (1 : Int))) then (bif (Nat.blt (1 : Nat) (List.length s)) then (∃ n_3 : Int, (((AV.int .u8 (Nat.cast (UInt8.toNat (List.getD s (1 : Nat) (UInt8.ofNat (0 : Nat)))) : Int)) = (AV.int .u8 n_3)) ∧
 (∃ n_4 : Int, (((AV.int .u8 (Int.fdiv n_3 (32 : Int))) = (AV.int .u8 n_4)) ∧
 (bif (n_4 == (6 : Int)) then (Q (Out.ret (AV.int .i64 (5 : Int))) [] (Gh.mk (0 : Nat) (0 : Nat) []))
else (∃ n_5 : Int, (((AV.int .u8 (Int.fdiv n_0 (64 : Int))) = (AV.int .u8 n_5)) ∧
 (bif (n_5 == (2 : Int)) then (Q (Out.ret (AV.int .i64 (4 : Int))) [] (Gh.mk (0 : Nat) (0 : Nat) []))
else (Q (Out.ret (AV.int .i64 (0 : Int))) [] (Gh.mk (0 : Nat) (0 : Nat) []))))))))))
else False)
else (∃ n_3 : Int, (((AV.int .u8 (Int.fdiv n_0 (64 : Int))) = (AV.int .u8 n_3)) ∧
 (bif (n_3 == (2 : Int)) then (Q (Out.ret (AV.int .i64 (4 : Int))) [] (Gh.mk (0 : Nat) (0 : Nat) []))
else (Q (Out.ret (AV.int .i64 (0 : Int))) [] (Gh.mk (0 : Nat) (0 : Nat) []))))))))
else (∃ n_2 : Int, (((AV.int .u8 (Int.fdiv n_0 (64 : Int))) = (AV.int .u8 n_2)) ∧
 (bif (n_2 == (2 : Int)) then (Q (Out.ret (AV.int .i64 (4 : Int))) [] (Gh.mk (0 : Nat) (0 : Nat) []))
else (Q (Out.ret (AV.int .i64 (0 : Int))) [] (Gh.mk (0 : Nat) (0 : Nat) [])))))))))))))
else False))) := by kernel_rfl

theorem fdN {m d : Nat} : Int.fdiv (m : Int) (d : Int) = ((m / d : Nat) : Int) := by
  rw [Int.fdiv_eq_ediv_of_nonneg _ (Int.natCast_nonneg _)]; exact (Int.natCast_ediv _ _).symm
theorem demux_1 (c : UInt8) (Q : Out → List Blk → Gh → Prop) (hq : ∀ r, r = demuxM [c] → Q (.ret (.int .i64 r)) [] {}) : ∃ hv hb, goal_26 hv hb [c] Q := by
  obtain ⟨hv, hb', e⟩ : ∃ hv hb, goal_26 hv hb [c] Q = _ := ⟨_, _, vc_26 [c] Q⟩
  refine ⟨hv, hb', e.mpr ?_⟩
  clear e
  have hM : demuxM [c] = if c.toNat < 4 then 1 else if 20 ≤ c.toNat ∧ c.toNat < 64 then 2 else if 64 ≤ c.toNat ∧ c.toNat < 80 then 3 else if 128 ≤ c.toNat ∧ c.toNat < 192 then 4 else 0 := rfl
  rw [hM] at hq
  clear hM
  refine splitI (fun h => by simp [eqB] at h) (fun _ => ckI (bltQ_iff.2 (by simp)) ⟨(c.toNat : Int), rfl, ?_⟩)
  have hc := c.toNat_lt
  have f6 : Int.fdiv (c.toNat : Int) 64 = ((c.toNat / 64 : Nat) : Int) := fdN
  rw [show ([c] : List UInt8).length = 1 from rfl]
  simp only [f6]
  repeat' (first | (with_reducible refine splitD (fun _ => ?_) (fun _ => ?_)) | (with_reducible refine splitE (fun _ => ?_) (fun _ => ?_)) | (with_reducible refine ⟨_, rfl, ?_⟩) | (with_reducible refine ckI ?_ ?_))
  all_goals first
    | (refine hq _ ?_ <;> (repeat' split) <;> first | rfl | (exfalso; omega) | omega)
    | (exfalso; omega)
theorem demux_2 (c d : UInt8) (l : List UInt8) (hs : l.length ≤ 9223372036854775807) (Q : Out → List Blk → Gh → Prop) (hq : ∀ r, r = demuxM (c :: d :: l) → Q (.ret (.int .i64 r)) [] {}) : ∃ hv hb, goal_26 hv hb (c :: d :: l) Q := by
  obtain ⟨hv, hb', e⟩ : ∃ hv hb, goal_26 hv hb (c :: d :: l) Q = _ := ⟨_, _, vc_26 (c :: d :: l) Q⟩
  refine ⟨hv, hb', e.mpr ?_⟩
  clear e
  have hM : demuxM (c :: d :: l) = if c.toNat < 4 then 1 else if 20 ≤ c.toNat ∧ c.toNat < 64 then 2 else if 64 ≤ c.toNat ∧ c.toNat < 80 then 3 else if 128 ≤ c.toNat ∧ c.toNat < 192 then (if 192 ≤ d.toNat ∧ d.toNat < 224 then 5 else 4) else 0 := rfl
  rw [hM] at hq
  clear hM
  refine splitI (fun h => by simp [eqB] at h) (fun _ => ckI (bltQ_iff.2 (by simp)) ⟨(c.toNat : Int), rfl, ?_⟩)
  have hc := c.toNat_lt
  have hd := d.toNat_lt
  have f6 : Int.fdiv (c.toNat : Int) 64 = ((c.toNat / 64 : Nat) : Int) := fdN
  have f5 : Int.fdiv (d.toNat : Int) 32 = ((d.toNat / 32 : Nat) : Int) := fdN
  have hl : (c :: d :: l).length = l.length + 2 := rfl
  rw [hl]
  simp only [List.getD_cons_succ, List.getD_cons_zero, f5, f6]
  generalize l.length = n at *
  generalize c.toNat = x at *
  generalize d.toNat = y at *
  repeat' (first | (with_reducible refine splitD (fun _ => ?_) (fun _ => ?_)) | (with_reducible refine splitE (fun _ => ?_) (fun _ => ?_)) | (with_reducible refine ⟨_, rfl, ?_⟩) | (with_reducible refine ckI ?_ ?_))
  all_goals first
    | exact bltQ_iff.2 (by omega)
    | (refine hq _ ?_ <;> (repeat' split) <;> first | rfl | (exfalso; omega) | omega)
    | (exfalso; omega)
theorem demux_run (s : List UInt8) (hs : s.length ≤ 9223372036854775807) (Q : Out → List Blk → Gh → Prop) (hq : ∀ r, r = demuxM s → Q (.ret (.int .i64 r)) [] {}) : ∃ hv hb, goal_26 hv hb s Q := by
  match s, hs, hq with
  | [], _, hq =>
    obtain ⟨hv, hb', e⟩ : ∃ hv hb, goal_26 hv hb [] Q = _ := ⟨_, _, vc_26 [] Q⟩
    exact ⟨hv, hb', e.mpr (hq 0 rfl)⟩
  | [c], _, hq => exact demux_1 c Q hq
  | c :: d :: l, hs, hq => exact demux_2 c d l (by simp at hs; omega) Q hq
def cDemux : Con
  | [.str s], H, K => Lf (s.length ≤ 9223372036854775807) ∧ ∀ r : Int, Lf (r = demuxM s) → K (.ret (.int .i64 r)) H
  | _, _, _ => False
theorem demux_ok : ValidF Tryd.prog gl0 26 cDemux := by
  refine valid_flat (enters_of (by kernel_rfl)) gl0_noY fun args H Q hc => ?_
  unfold cDemux at hc
  split at hc
  · rename_i s
    obtain ⟨⟨hl⟩, hq⟩ := hc
    obtain ⟨hv, hb', h⟩ := demux_run s hl (fun o H' _ => H' = [] ∧ (∃ v, o = .ret v ∧ old 0 v = true ∧ noY v = true) ∧ Q o H) (fun r hr => ⟨rfl, ⟨_, rfl, rfl, rfl⟩, hq r ⟨hr⟩⟩)
    refine ⟨rfl, rfl, _, 1000, ?_, rfl, h⟩
    exact ⟨mixed23, names23, tabA_ok, sm0_ok⟩
  · exact hc.elim
end Go.Proofs.YtbchmkhliehbfaaDoor
