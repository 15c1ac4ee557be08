/-
  Chapter 24: contract of read.
-/
import Derived.Test.YtafchcmemeinlaaDoorC24XQ
set_option linter.unusedSimpArgs false
set_option linter.unusedVariables false
set_option linter.unusedSectionVars false
namespace Go.Proofs.YtafchcmemeinlaaDoor
open Go.RowKit
set_option maxRecDepth 1000000

noncomputable def goal_38g (hv : Nat → Option Pa) (hb : Nat → Option Bool) (k c : Int) (s : List UInt8) (Q : Out → List Blk → Gh → Prop) : Prop := go38 hv hb k c s Q
theorem vc_38g (k : Int) (c : Int) (s : List UInt8) (Q : Out → List Blk → Gh → Prop) : goal_38g (lookV [(155668, .lit (.bool false)), (155708, .lit (.bool false)), (155718, .lit (.bool false)), (155725, .lit (.bool false)), (155744, .lit
 (.bool false)), (155763, .lit (.bool false))]) (lookB []) k c s Q = (Lf ((0 : Int) ≤ (4 : Int) ∧ (4 : Int) ≤ (4 : Int) ∧ okH [Blk.mk BK.exact true [.int .i64 0, .int .i64 0, .int .i64 0, .int .i64 0, .int .i64 0, .int .i64 0, .int .i64 0,
 .int .i64 0, .nils, .nils, .int .i64 0, .int .i64 0, .nils], Blk.mk BK.exact true [.int .i64 0, .int .i64 0, .int .i64 0, .int .i64 0, .int .i64 0, .int .i64 0, .int .i64 0, .int .i64 0, .nils, .nils, .int .i64 0, .int .i64 0, .nils, .str
 s, .bool false]]) ∧ ∀ n_0 : Int, ∀ l'_1 : List UInt8, ∀ b'_2 : Bool, Lf (tkM (Int.toNat 4) s false = Prod.mk n_0 (Prod.mk l'_1 b'_2)) → AV.bool (k == 200) = AV.bool false ∧ AV.bool (k == 201) = AV.bool false ∧ AV.bool (k == 203) = AV.bool
 false ∧ AV.bool (k == 205) = AV.bool false ∧ AV.bool (k == 205) = AV.bool false ∧ AV.bool (k == 206) = AV.bool false ∧ bif b'_2 then Q (.ret (.tup [.agg [.int .i64 0, .int .i64 n_0, .int .i64 0, .int .i64 0, .int .i64 0, .int .i64 0, .int
 .i64 0, .int .i64 0, .nils, .nils, .int .i64 0, .int .i64 0, .nils], .bool false])) [] {} else bif eqB l'_1 [] then ckQ (eqAVL [.str l'_1] [.str l'_1] && true) (Q (.ret (.tup [.agg [.int .i64 0, .int .i64 n_0, .int .i64 0, .int .i64 0,
 .int .i64 0, .int .i64 0, .int .i64 0, .int .i64 0, .nils, .nils, .int .i64 0, .int .i64 0, .nils], .bool true])) [] {}) else ckQ (eqAVL [.str l'_1] [.str l'_1] && true) (Q (.ret (.tup [.agg [.int .i64 0, .int .i64 n_0, .int .i64 0, .int
 .i64 0, .int .i64 0, .int .i64 0, .int .i64 0, .int .i64 0, .nils, .nils, .int .i64 0, .int .i64 0, .nils], .bool false])) [] {})) := by kernel_rfl

noncomputable def goal_38h (hv : Nat → Option Pa) (hb : Nat → Option Bool) (c : Int) (s : List UInt8) (Q : Out → List Blk → Gh → Prop) : Prop := go38 hv hb 205 c s Q
theorem vc_38h (c : Int) (s : List UInt8) (Q : Out → List Blk → Gh → Prop) : goal_38h (lookV [(155728, .lit (.bool false)), (155747, .lit (.bool false))]) (lookB []) c s Q = (Lf ((0 : Int) ≤ (4 : Int) ∧ (4 : Int) ≤ (4 : Int) ∧ okH [Blk.mk
 BK.exact true [.int .i64 0, .int .i64 0, .int .i64 0, .int .i64 0, .int .i64 0, .int .i64 0, .int .i64 0, .int .i64 0, .nils, .nils, .int .i64 0, .int .i64 0, .nils], Blk.mk BK.exact true [.int .i64 0, .int .i64 0, .int .i64 0, .int .i64
 0, .int .i64 0, .int .i64 0, .int .i64 0, .int .i64 0, .nils, .nils, .int .i64 0, .int .i64 0, .nils, .str s, .bool false]]) ∧ ∀ n_0 : Int, ∀ l'_1 : List UInt8, ∀ b'_2 : Bool, Lf (tkM (Int.toNat 4) s false = Prod.mk n_0 (Prod.mk l'_1
 b'_2)) → AV.bool (c == 1) = AV.bool false ∧ AV.bool (c == 15) = AV.bool false ∧ bif b'_2 then Q (.ret (.tup [.agg [.int .i64 0, .int .i64 n_0, .int .i64 0, .int .i64 0, .int .i64 0, .int .i64 0, .int .i64 0, .int .i64 0, .nils, .nils, .int
 .i64 0, .int .i64 0, .nils], .bool false])) [] {} else bif eqB l'_1 [] then ckQ (eqAVL [.str l'_1] [.str l'_1] && true) (Q (.ret (.tup [.agg [.int .i64 0, .int .i64 n_0, .int .i64 0, .int .i64 0, .int .i64 0, .int .i64 0, .int .i64 0, .int
 .i64 0, .nils, .nils, .int .i64 0, .int .i64 0, .nils], .bool true])) [] {}) else ckQ (eqAVL [.str l'_1] [.str l'_1] && true) (Q (.ret (.tup [.agg [.int .i64 0, .int .i64 n_0, .int .i64 0, .int .i64 0, .int .i64 0, .int .i64 0, .int .i64
 0, .int .i64 0, .nils, .nils, .int .i64 0, .int .i64 0, .nils], .bool false])) [] {})) := by kernel_rfl

theorem eqLitG {x y : Int} (h : x ≠ y) {A : Prop} (k : A) : AV.bool (x == y) = AV.bool false ∧ A := ⟨by rw [beq_eq_false_iff_ne.2 h], k⟩
theorem rd_g (k c : Int) (hk : k ≠ 200 ∧ k ≠ 201 ∧ k ≠ 203 ∧ k ≠ 205 ∧ k ≠ 206) (s : List UInt8) (Q : Out → List Blk → Gh → Prop) (hq : ∀ n l b, tkM 4 s false = (n, l, b) → ∀ v, outM v [] = .tup [.agg (ctC ⟨0, n, 0, 0, 0, 0, 0, 0, [], [], 0, 0, []⟩), .bool (finM l b)] → Q (.ret v) [] {}) : ∃ hv hb, goal_38g hv hb k c s Q := by
 obtain ⟨hv, hb', e⟩ : ∃ hv hb, goal_38g hv hb k c s Q = _ := ⟨_, _, vc_38g k c s Q⟩
 refine ⟨hv, hb', e.mpr ?_⟩
 clear e
 refine ⟨⟨by omega, by omega, okH_a ⟨rfl, rfl⟩ ⟨rfl, rfl⟩⟩, ?_⟩
 rintro n l b ⟨e⟩
 refine eqLitG hk.1 (eqLitG hk.2.1 (eqLitG hk.2.2.1 (eqLitG hk.2.2.2.1 (eqLitG hk.2.2.2.1 (eqLitG hk.2.2.2.2 ?_)))))
 refine finI (P := fun f => Q (.ret (.tup [.agg _, .bool f])) [] {}) ?_
 exact hq n l b e _ rfl
theorem rd_h (c : Int) (hc : c ≠ 1 ∧ c ≠ 15) (s : List UInt8) (Q : Out → List Blk → Gh → Prop) (hq : ∀ n l b, tkM 4 s false = (n, l, b) → ∀ v, outM v [] = .tup [.agg (ctC ⟨0, n, 0, 0, 0, 0, 0, 0, [], [], 0, 0, []⟩), .bool (finM l b)] → Q (.ret v) [] {}) : ∃ hv hb, goal_38h hv hb c s Q := by
 obtain ⟨hv, hb', e⟩ : ∃ hv hb, goal_38h hv hb c s Q = _ := ⟨_, _, vc_38h c s Q⟩
 refine ⟨hv, hb', e.mpr ?_⟩
 clear e
 refine ⟨⟨by omega, by omega, okH_a ⟨rfl, rfl⟩ ⟨rfl, rfl⟩⟩, ?_⟩
 rintro n l b ⟨e⟩
 refine eqLitG hc.1 (eqLitG hc.2 ?_)
 refine finI (P := fun f => Q (.ret (.tup [.agg _, .bool f])) [] {}) ?_
 exact hq n l b e _ rfl
def rd200M (c : Int) (s : List UInt8) : Ctl × Bool := match tkM 4 s false with
 | (n, l, b) => match tkM 4 l b with
  | (n1, l1, b1) => match tkM 4 l1 b1 with
   | (n2, l2, b2) => match tkM 4 l2 b2 with
    | (n3, l3, b3) => match tkM 4 l3 b3 with
     | (n4, l4, b4) => match tkM 4 l4 b4 with
      | (n5, l5, b5) => match rcsRdM c.toNat l5 b5 with
       | (rs, l6, b6) => (⟨1, n, 0, n1, n2, n3, n4, n5, rs, [], 0, 0, []⟩, finM l6 b6)
def rd201M (c : Int) (s : List UInt8) : Ctl × Bool := match tkM 4 s false with
 | (n, l, b) => match rcsRdM c.toNat l b with
  | (rs, l6, b6) => (⟨2, n, 0, 0, 0, 0, 0, 0, rs, [], 0, 0, []⟩, finM l6 b6)
def rd203M (k : Int) (s : List UInt8) : Ctl × Bool := match tkM 4 s false with
 | (n, l, b) => (⟨k, n, 0, 0, 0, 0, 0, 0, [], [], 0, 0, []⟩, finM l b)
def rd206M (s : List UInt8) : Ctl × Bool := match tkM 4 s false with
 | (n, l, b) => match tkM 4 l b with
  | (n1, l1, b1) => (⟨5, n, n1, 0, 0, 0, 0, 0, [], [], 0, 0, []⟩, finM l1 b1)
def rdNM (s : List UInt8) : Ctl × Bool := match tkM 4 s false with
 | (n, l, b) => match tkM 4 l b with
  | (n1, l1, b1) => match nkRdM l1.length l1 b1 with
   | (lo, l2, b2) => (⟨4, n, n1, 0, 0, 0, 0, 0, [], lo, 0, 0, []⟩, finM l2 b2)
def rdTM (s : List UInt8) : Ctl × Bool := match tkM 4 s false with
 | (n, l, b) => match tkM 4 l b with
  | (n1, l1, b1) => match tkM 2 l1 b1 with
   | (ba, l2, b2) => match tkM 2 l2 b2 with
    | (c, l3, b3) => match tkM 3 l3 b3 with
     | (rf, l4, b4) => match tkM 1 l4 b4 with
      | (ro, l5, b5) => match sgRdM c.toNat c [] l5 b5 with
       | (sg, l6, b6) => match tmRdM sg c.toNat 0 (rf * 256) l6 b6 [] with
        | (tm, bf) => (⟨6, n, n1, 0, 0, 0, 0, 0, [], [], ba, ro, tm⟩, !bf)
def readM (k c : Int) (s : List UInt8) : Ctl × Bool :=
 if k = 200 then rd200M c s else if k = 201 then rd201M c s else if k = 203 then rd203M 3 s else if k = 206 then rd206M s
 else if k = 205 ∧ c = 1 then rdNM s else if k = 205 ∧ c = 15 then rdTM s else rd203M 0 s
def cRead : Con
 | [.int .i64 k, .int .i64 c, .str s], H, K => Lf (0 ≤ c ∧ c ≤ 31 ∧ s.length ≤ 10000) ∧ ∀ ct f, Lf (readM k c s = (ct, f)) → K (.ret (.tup [.agg (ctC ct), .bool f])) H
 | _, _, _ => False
theorem env_same (hv : Nat → Option Pa) (hb : Nat → Option Bool) : EnvFor Tryd.prog (env_38 hv hb) := envFor24 sm38_ok _ _ _
theorem read_ok : ValidF Tryd.prog glC 38 cRead := by
 refine valid_frz (enters_of (by kernel_rfl)) glC_noY 9 ctK wk_ctK fun args H Q hc => ?_
 unfold cRead at hc
 split at hc
 ·rename_i k c s
  obtain ⟨⟨h1, h2, h3⟩, hq⟩ := hc
  obtain ⟨c, rfl⟩ := Int.eq_ofNat_of_zero_le h1
  have go : ∀ ct f, readM k (c : Int) s = (ct, f) → ∀ v H', outM v H' = .tup [.agg (ctC ct), .bool f] → ∃ w, Out.ret v = .ret w ∧ Q (.ret (ctK (frzV 0 H' 9 w))) H := fun ct f he v H' ho => ⟨v, rfl, by
   have := hq ct f ⟨he⟩
   rw [← ho] at this
   exact this⟩
  by_cases k0 : k = 200
  ·subst k0
   obtain ⟨hv, hb', h⟩ := rd_a c (by omega) s (fun o H' _ => ∃ v, o = .ret v ∧ Q (.ret (ctK (frzV 0 H' 9 v))) H) (by
    rintro n l b n1 n2 n3 n4 n5 l1 b1 l2 b2 l3 b3 l4 b4 l5 b5 rs l6 b6 ⟨e0, e1, e2, e3, e4, e5⟩ er v H' ho
    exact go _ _ ((by unfold readM; rw [if_pos rfl]; simp only [rd200M, e0, e1, e2, e3, e4, e5, Int.toNat_natCast, er])) v H' ho)
   unfold goal_38a go38 at h
   exact ⟨rfl, rfl, _, 1000, env_same hv hb', rfl, h⟩
  by_cases k1 : k = 201
  ·subst k1
   obtain ⟨hv, hb', h⟩ := rd_b c (by omega) s (fun o H' _ => ∃ v, o = .ret v ∧ Q (.ret (ctK (frzV 0 H' 9 v))) H) (by
    rintro n l b rs l1 b1 e0 er v H' ho
    exact go _ _ ((by unfold readM; rw [if_neg (by decide), if_pos rfl]; simp only [rd201M, e0, Int.toNat_natCast, er])) v H' ho)
   unfold goal_38b go38 at h
   exact ⟨rfl, rfl, _, 1000, env_same hv hb', rfl, h⟩
  by_cases k2 : k = 203
  ·subst k2
   obtain ⟨hv, hb', h⟩ := rd_c c s (fun o H' _ => ∃ v, o = .ret v ∧ Q (.ret (ctK (frzV 0 H' 9 v))) H) (by
    rintro n l b e0 v ho
    exact go _ _ (by unfold readM; rw [if_neg (by decide), if_neg (by decide), if_pos rfl]; simp only [rd203M, e0]) v [] ho)
   unfold goal_38c go38 at h
   exact ⟨rfl, rfl, _, 1000, env_same hv hb', rfl, h⟩
  by_cases k3 : k = 206
  ·subst k3
   obtain ⟨hv, hb', h⟩ := rd_d c s (fun o H' _ => ∃ v, o = .ret v ∧ Q (.ret (ctK (frzV 0 H' 9 v))) H) (by
    rintro n l b n1 l1 b1 e0 e1 v ho
    exact go _ _ (by unfold readM; rw [if_neg (by decide), if_neg (by decide), if_neg (by decide), if_pos rfl]; simp only [rd206M, e0, e1]) v [] ho)
   unfold goal_38d go38 at h
   exact ⟨rfl, rfl, _, 1000, env_same hv hb', rfl, h⟩
  by_cases k4 : k = 205
  ·subst k4
   by_cases c1 : c = 1
   ·subst c1
    obtain ⟨hv, hb', h⟩ := rd_e s h3 (fun o H' _ => ∃ v, o = .ret v ∧ Q (.ret (ctK (frzV 0 H' 9 v))) H) (by
     rintro n l b n1 l1 b1 lo l2 b2 ⟨e0, e1⟩ er v H' ho
     exact go _ _ (by unfold readM; rw [if_neg (by decide), if_neg (by decide), if_neg (by decide), if_neg (by decide), if_pos ⟨rfl, rfl⟩]; simp only [rdNM, e0, e1, er]) v H' ho)
    exact ⟨rfl, rfl, _, 1000, (envFor24 sm38_ok _ _ _ : EnvFor Tryd.prog (env_38e hv hb')), rfl, h⟩
   by_cases c2 : c = 15
   ·subst c2
    obtain ⟨hv, hb', h⟩ := rd_f s h3 (fun o H' _ => ∃ v, o = .ret v ∧ Q (.ret (ctK (frzV 0 H' 9 v))) H) (by
     rintro n l b n1 l1 b1 ba l2 b2 c l3 b3 rf l4 b4 ro l5 b5 sg l6 b6 tm bf ⟨e0, e1, e2, e3, e4, e5⟩ eg et v H' ho
     exact go _ _ (by unfold readM; rw [if_neg (by decide), if_neg (by decide), if_neg (by decide), if_neg (by decide), if_neg (by decide), if_pos ⟨rfl, rfl⟩]; simp only [rdTM, e0, e1, e2, e3, e4, e5, eg, et]) v H' ho)
    exact ⟨rfl, rfl, _, 1000, (envFor24 sm38_ok _ _ _ : EnvFor Tryd.prog (env_38f hv hb')), rfl, h⟩
   obtain ⟨hv, hb', h⟩ := rd_h c ⟨by omega, by omega⟩ s (fun o H' _ => ∃ v, o = .ret v ∧ Q (.ret (ctK (frzV 0 H' 9 v))) H) (by
    rintro n l b e0 v ho
    exact go _ _ (by
     unfold readM
     rw [if_neg (by omega), if_neg (by omega), if_neg (by omega), if_neg (by omega), if_neg (by omega), if_neg (by omega)]
     simp only [rd203M, e0]) v [] ho)
   unfold goal_38h go38 at h
   exact ⟨rfl, rfl, _, 1000, env_same hv hb', rfl, h⟩
  obtain ⟨hv, hb', h⟩ := rd_g k c ⟨k0, k1, k2, k4, k3⟩ s (fun o H' _ => ∃ v, o = .ret v ∧ Q (.ret (ctK (frzV 0 H' 9 v))) H) (by
    rintro n l b e0 v ho
    exact go _ _ (by
     unfold readM
     rw [if_neg (by omega), if_neg (by omega), if_neg (by omega), if_neg (by omega), if_neg (by omega), if_neg (by omega)]
     simp only [rd203M, e0]) v [] ho)
  unfold goal_38g go38 at h
  exact ⟨rfl, rfl, _, 1000, env_same hv hb', rfl, h⟩
 ·exact hc.elim
end Go.Proofs.YtafchcmemeinlaaDoor
