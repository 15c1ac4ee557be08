/-
  Chapter 24: read, of the kinds without lists.
-/
import Derived.Test.YtafchcmemeinlaaDoorC24XN
set_option linter.unusedSimpArgs false
set_option linter.unusedVariables false
set_option linter.unusedSectionVars false
namespace Go.Proofs.YtafchcmemeinlaaDoor
open Go.RowKit
set_option maxRecDepth 1000000

def ctK : AV → AV
 | .tup [.agg l, b] => .tup [.agg (nlL [0, 0, 0, 0, 0, 0, 0, 0, 7, 1, 0, 0, 1] l), b]
 | v => v
theorem wk_ctK (a : AV) : wk a (ctK a) := by
 unfold ctK
 split
 ·exact wk_tup (wkL_cons (wk_agg (wk_nlL _ _)) (wkL_refl _))
 ·exact wk_refl _
def outM (v : AV) (H : List Blk) : AV := ctK (frzV 0 H 9 v)
def finM (l : List UInt8) (b : Bool) : Bool := !b && decide (l = [])
theorem eqB_refl : ∀ s : List UInt8, eqB s s = true
 | [] => rfl
 | x :: s => by simp [eqB, eqB_refl s]
theorem eqAVL_str (s : List UInt8) : eqAVL [AV.str s] [AV.str s] = true := by
 simp [eqAVL, eqAV, eqB_refl]
theorem eqB_nil (l : List UInt8) : eqB l [] = decide (l = []) := by cases l <;> rfl
theorem finI {l : List UInt8} {b : Bool} {P : Bool → Prop} (h : P (finM l b)) : bif b then P false else bif eqB l [] then (bif eqAVL [AV.str l] [AV.str l] && true then P true else False) else (bif eqAVL [AV.str l] [AV.str l] && true then P false else False) := by
 unfold finM at h
 rw [eqB_nil, eqAVL_str]
 cases b
 ·by_cases hl : l = []
  ·rw [decide_eq_true hl] at h ⊢; exact h
  ·rw [decide_eq_false hl] at h ⊢; exact h
 ·exact h
theorem tk_bd {k : Nat} {l l' : List UInt8} {b b' : Bool} {n : Int} (h : tkM k l b = (n, l', b')) (hk : k ≤ 3) : 0 ≤ n ∧ n < 16777216 := by
 unfold tkM at h
 split at h
 ·simp only [Prod.mk.injEq] at h; omega
 ·simp only [Prod.mk.injEq] at h
  have := num_small3 (l := l.take k) (by rw [List.length_take]; omega)
  omega
theorem noY_R (l : List Rc) : flatL (cellsRM l) := ⟨(noY_cellsR l).2, (noY_cellsR l).1⟩
theorem rgo_step {c i : Nat} {l l0 l7 : List UInt8} {b b0 b7 : Bool} {acc : List Rc} {r : Rc} (h : rgoM c l b i acc l0 b0) (hi : i < c) (hr : rcRdM l0 b0 = (r, l7, b7)) : rgoM c l b (i + 1) (acc ++ [r]) l7 b7 := by
 obtain ⟨h1, h2⟩ := h
 refine ⟨by simp [h1], ?_⟩
 rw [h2, show c - i = c - (i + 1) + 1 by omega, rcsRdM, hr]
 simp
theorem rgo_one {c : Nat} {l l7 : List UInt8} {b b7 : Bool} {r : Rc} (hi : 0 < c) (hr : rcRdM l b = (r, l7, b7)) : rgoM c l b 1 [r] l7 b7 := by
 refine ⟨rfl, ?_⟩
 obtain ⟨n, rfl⟩ : ∃ n, c = n + 1 := ⟨c - 1, by omega⟩
 rw [rcsRdM, hr]
 rfl
theorem rgo_end {c : Nat} {l l0 : List UInt8} {b b0 : Bool} {acc : List Rc} (h : rgoM c l b c acc l0 b0) : rcsRdM c l b = (acc, l0, b0) := by
 rw [h.2, Nat.sub_self]; simp [rcsRdM]
theorem cellsR_snoc (acc : List Rc) (r : Rc) : cellsRM acc ++ rcCM r = cellsRM (acc ++ [r]) := by simp [cellsRM]
theorem plain_R (l : List Rc) : ∀ x ∈ cellsRM l, plainB x = true := by
 intro x hx
 simp only [cellsRM, rcCM, List.mem_flatMap, List.mem_cons, List.not_mem_nil, or_false] at hx
 obtain ⟨r, _, h⟩ := hx
 rcases h with rfl | rfl | rfl | rfl | rfl | rfl | rfl <;> rfl
theorem out_R {H : List Blk} {k f a s1 s2 s3 s4 s5 : Int} {acc : List Rc} {fl : Bool} (hH : H[4]? = some ⟨.grow, true, cellsRM acc⟩) :
  outM (.tup [.agg [.int .i64 k, .int .i64 f, .int .i64 a, .int .i64 s1, .int .i64 s2, .int .i64 s3, .int .i64 s4, .int .i64 s5, .sl 4 (7 * acc.length) 0 acc.length 7, .nils, .int .i64 0, .int .i64 0, .nils], .bool fl]) H = .tup [.agg (ctC ⟨k, f, a, s1, s2, s3, s4, s5, acc, [], 0, 0, []⟩), .bool fl] := by
 have e : frzV 0 H 7 (.sl 4 (7 * acc.length) 0 acc.length 7) = .lst 0 (cellsRM acc) acc.length 7 :=
  frz_sl (d := 5) hH (cellsR_len acc) (by omega) (by simp) (by rw [List.drop_zero]; exact List.take_of_length_le (by rw [cellsR_len]; omega)) (plain_R acc)
 show ctK (.tup [.agg [.int .i64 k, .int .i64 f, .int .i64 a, .int .i64 s1, .int .i64 s2, .int .i64 s3, .int .i64 s4, .int .i64 s5, frzV 0 H 7 (.sl 4 (7 * acc.length) 0 acc.length 7), .nils, .int .i64 0, .int .i64 0, .nils], .bool fl]) = _
 rw [e]
 rfl
theorem rd_c (c : Nat) (s : List UInt8) (Q : Out → List Blk → Gh → Prop) (hq : ∀ n l b, tkM 4 s false = (n, l, b) → ∀ v, outM v [] = .tup [.agg (ctC ⟨3, n, 0, 0, 0, 0, 0, 0, [], [], 0, 0, []⟩), .bool (finM l b)] → Q (.ret v) [] {}) : ∃ hv hb, goal_38c hv hb c s Q := by
 obtain ⟨hv, hb', e⟩ : ∃ hv hb, goal_38c hv hb c s Q = _ := ⟨_, _, vc_38c c s Q⟩
 refine ⟨hv, hb', e.mpr ?_⟩
 clear e
 refine ⟨⟨by omega, by omega, okH_a ⟨rfl, rfl⟩ ⟨rfl, rfl⟩⟩, ?_⟩
 rintro n l b ⟨e⟩
 refine finI (P := fun f => Q (.ret (.tup [.agg _, .bool f])) [] {}) ?_
 exact hq n l b e _ rfl
theorem rd_d (c : Nat) (s : List UInt8) (Q : Out → List Blk → Gh → Prop) (hq : ∀ n l b n1 l1 b1, tkM 4 s false = (n, l, b) → tkM 4 l b = (n1, l1, b1) → ∀ v, outM v [] = .tup [.agg (ctC ⟨5, n, n1, 0, 0, 0, 0, 0, [], [], 0, 0, []⟩), .bool (finM l1 b1)] → Q (.ret v) [] {}) : ∃ hv hb, goal_38d hv hb c s Q := by
 obtain ⟨hv, hb', e⟩ : ∃ hv hb, goal_38d hv hb c s Q = _ := ⟨_, _, vc_38d c s Q⟩
 refine ⟨hv, hb', e.mpr ?_⟩
 clear e
 refine ⟨⟨by omega, by omega, okH_a ⟨rfl, rfl⟩ ⟨rfl, rfl⟩⟩, ?_⟩
 rintro n l b ⟨e⟩
 refine ⟨⟨by omega, by omega, okH_a ⟨rfl, rfl⟩ ⟨rfl, rfl⟩⟩, ?_⟩
 rintro n1 l1 b1 ⟨e1⟩
 refine finI (P := fun f => Q (.ret (.tup [.agg _, .bool f])) [] {}) ?_
 exact hq n l b n1 l1 b1 e e1 _ rfl
theorem rd_b (c : Nat) (hc : c ≤ 1000) (s : List UInt8) (Q : Out → List Blk → Gh → Prop) (hq : ∀ n l b rs l1 b1, tkM 4 s false = (n, l, b) → rcsRdM c l b = (rs, l1, b1) → ∀ v H, outM v H = .tup [.agg (ctC ⟨2, n, 0, 0, 0, 0, 0, 0, rs, [], 0, 0, []⟩), .bool (finM l1 b1)] → Q (.ret v) H {}) : ∃ hv hb, goal_38b hv hb c s Q := by
 obtain ⟨hv, hb', e⟩ : ∃ hv hb, goal_38b hv hb c s Q = _ := ⟨_, _, vc_38b c s Q⟩
 refine ⟨hv, hb', e.mpr ?_⟩
 clear e
 refine ⟨⟨by omega, by omega, okH_a ⟨rfl, rfl⟩ ⟨rfl, rfl⟩⟩, ?_⟩
 rintro n l b ⟨e⟩
 refine ⟨.inl ⟨0, ⟨rfl⟩, rfl, rfl, rfl, rfl, rfl, trivial⟩, ?_, ?_⟩
 ·rintro i ⟨hi⟩
  subst hi
  refine splitD (fun h => ?_) (fun h => ?_)
  ·obtain ⟨l0, b0, hl0, hb0⟩ : ∃ l0 b0, l0 = l ∧ b0 = b := ⟨_, _, rfl, rfl⟩
   subst hl0 hb0
   refine ⟨⟨by omega, by omega, okH_a ⟨rfl, rfl⟩ ⟨rfl, rfl⟩⟩, ?_⟩
   rintro x1 l1 b1 ⟨e1⟩
   refine ⟨⟨by omega, by omega, okH_a ⟨rfl, rfl⟩ ⟨rfl, rfl⟩⟩, ?_⟩
   rintro x2 l2 b2 ⟨e2⟩
   refine ⟨⟨by omega, by omega, okH_f ⟨rfl, rfl⟩ ⟨rfl, rfl⟩ ⟨rfl, rfl⟩⟩, ?_⟩
   rintro x3 l3 b3 ⟨e3⟩
   have hx3 := tk_bd e3 (by decide)
   refine splitD (fun h3 => ?_) (fun h3 => ?_)
   ·refine wrapI (by omega) (by omega) ?_
    refine ⟨⟨by omega, by omega, okH_f ⟨rfl, rfl⟩ ⟨rfl, rfl⟩ ⟨rfl, rfl⟩⟩, ?_⟩
    rintro x4 l4 b4 ⟨e4⟩
    refine ⟨⟨by omega, by omega, okH_f ⟨rfl, rfl⟩ ⟨rfl, rfl⟩ ⟨rfl, rfl⟩⟩, ?_⟩
    rintro x5 l5 b5 ⟨e5⟩
    refine ⟨⟨by omega, by omega, okH_f ⟨rfl, rfl⟩ ⟨rfl, rfl⟩ ⟨rfl, rfl⟩⟩, ?_⟩
    rintro x6 l6 b6 ⟨e6⟩
    refine ⟨⟨by omega, by omega, okH_f ⟨rfl, rfl⟩ ⟨rfl, rfl⟩ ⟨rfl, rfl⟩⟩, ?_⟩
    rintro x7 l7 b7 ⟨e7⟩
    have hrd : rcRdM l0 b0 = ((x1, x2, x3 - 16777216, x4, x5, x6, x7), l7, b7) := by
     have e1 := e1; have e2 := e2; have e3 := e3; have e4 := e4; have e5 := e5; have e6 := e6; have e7 := e7
     simp only [show Int.toNat 4 = 4 from rfl, show Int.toNat 1 = 1 from rfl, show Int.toNat 3 = 3 from rfl] at e1 e2 e3 e4 e5 e6 e7
     simp only [rcRdM, e1, e2, e3, e4, e5, e6, e7]
     rw [if_pos (by omega)]
    exact wrapI (by omega) (by omega) ⟨⟨trivial, rfl⟩, .inr ⟨(1, [(x1, x2, x3 - 16777216, x4, x5, x6, x7)], l7, b7, _, _), ⟨by simp, by dsimp only; omega, rgo_one (by omega) hrd, ⟨rfl, rfl⟩, ⟨rfl, rfl⟩⟩, by dsimp only; omega, rfl, rfl, rfl, rfl, rfl, rfl, rfl, rfl, trivial⟩⟩
   ·refine ⟨⟨by omega, by omega, okH_f ⟨rfl, rfl⟩ ⟨rfl, rfl⟩ ⟨rfl, rfl⟩⟩, ?_⟩
    rintro x4 l4 b4 ⟨e4⟩
    refine ⟨⟨by omega, by omega, okH_f ⟨rfl, rfl⟩ ⟨rfl, rfl⟩ ⟨rfl, rfl⟩⟩, ?_⟩
    rintro x5 l5 b5 ⟨e5⟩
    refine ⟨⟨by omega, by omega, okH_f ⟨rfl, rfl⟩ ⟨rfl, rfl⟩ ⟨rfl, rfl⟩⟩, ?_⟩
    rintro x6 l6 b6 ⟨e6⟩
    refine ⟨⟨by omega, by omega, okH_f ⟨rfl, rfl⟩ ⟨rfl, rfl⟩ ⟨rfl, rfl⟩⟩, ?_⟩
    rintro x7 l7 b7 ⟨e7⟩
    have hrd : rcRdM l0 b0 = ((x1, x2, x3, x4, x5, x6, x7), l7, b7) := by
     have e1 := e1; have e2 := e2; have e3 := e3; have e4 := e4; have e5 := e5; have e6 := e6; have e7 := e7
     simp only [show Int.toNat 4 = 4 from rfl, show Int.toNat 1 = 1 from rfl, show Int.toNat 3 = 3 from rfl] at e1 e2 e3 e4 e5 e6 e7
     simp only [rcRdM, e1, e2, e3, e4, e5, e6, e7]
     rw [if_neg (by omega)]
    exact wrapI (by omega) (by omega) ⟨⟨trivial, rfl⟩, .inr ⟨(1, [(x1, x2, x3, x4, x5, x6, x7)], l7, b7, _, _), ⟨by simp, by dsimp only; omega, rgo_one (by omega) hrd, ⟨rfl, rfl⟩, ⟨rfl, rfl⟩⟩, by dsimp only; omega, rfl, rfl, rfl, rfl, rfl, rfl, rfl, rfl, trivial⟩⟩
  ·obtain rfl : c = 0 := by omega
   refine finI (P := fun f => Q (.ret (.tup [.agg _, .bool f])) [] {}) ?_
   exact hq n l b [] _ _ e rfl _ _ rfl
 ·rintro ⟨i, acc, l0, b0, J1, J2⟩ ⟨g1, g2, g3, g4, g5⟩
  dsimp only at g1 g2 g3 g4 g5 ⊢
  have gl := g3.1
  refine splitD (fun h => ?_) (fun h => ?_)
  ·refine ⟨⟨by omega, by omega, okH_e ⟨rfl, rfl⟩ ⟨rfl, rfl⟩ g4 g5 (noY_R _)⟩, ?_⟩
   rintro x1 l1 b1 ⟨e1⟩
   refine ⟨⟨by omega, by omega, okH_e ⟨rfl, rfl⟩ ⟨rfl, rfl⟩ g4 g5 (noY_R _)⟩, ?_⟩
   rintro x2 l2 b2 ⟨e2⟩
   refine ⟨⟨by omega, by omega, okH_g ⟨rfl, rfl⟩ ⟨rfl, rfl⟩ g4 g5 (noY_R _) ⟨rfl, rfl⟩⟩, ?_⟩
   rintro x3 l3 b3 ⟨e3⟩
   have hx3 := tk_bd e3 (by decide)
   refine splitD (fun h3 => ?_) (fun h3 => ?_)
   ·refine wrapI (by omega) (by omega) ?_
    refine ⟨⟨by omega, by omega, okH_g ⟨rfl, rfl⟩ ⟨rfl, rfl⟩ g4 g5 (noY_R _) ⟨rfl, rfl⟩⟩, ?_⟩
    rintro x4 l4 b4 ⟨e4⟩
    refine ⟨⟨by omega, by omega, okH_g ⟨rfl, rfl⟩ ⟨rfl, rfl⟩ g4 g5 (noY_R _) ⟨rfl, rfl⟩⟩, ?_⟩
    rintro x5 l5 b5 ⟨e5⟩
    refine ⟨⟨by omega, by omega, okH_g ⟨rfl, rfl⟩ ⟨rfl, rfl⟩ g4 g5 (noY_R _) ⟨rfl, rfl⟩⟩, ?_⟩
    rintro x6 l6 b6 ⟨e6⟩
    refine ⟨⟨by omega, by omega, okH_g ⟨rfl, rfl⟩ ⟨rfl, rfl⟩ g4 g5 (noY_R _) ⟨rfl, rfl⟩⟩, ?_⟩
    rintro x7 l7 b7 ⟨e7⟩
    have hrd : rcRdM l0 b0 = ((x1, x2, x3 - 16777216, x4, x5, x6, x7), l7, b7) := by
     have e1 := e1; have e2 := e2; have e3 := e3; have e4 := e4; have e5 := e5; have e6 := e6; have e7 := e7
     simp only [show Int.toNat 4 = 4 from rfl, show Int.toNat 1 = 1 from rfl, show Int.toNat 3 = 3 from rfl] at e1 e2 e3 e4 e5 e6 e7
     simp only [rcRdM, e1, e2, e3, e4, e5, e6, e7]
     rw [if_pos (by omega)]
    exact ckI (by simp [cellsR_len]; omega) (wrapI (by omega) (by omega) ⟨⟨trivial, rfl⟩, .inr ⟨(i + 1, acc ++ [(x1, x2, x3 - 16777216, x4, x5, x6, x7)], l7, b7, J1, J2), ⟨by simp, by dsimp only; omega, rgo_step g3 (by omega) hrd, g4, g5⟩, by dsimp only; omega, rfl, by simp [Nat.mul_add], rfl, rfl, cellsR_snoc acc (x1, x2, x3 - 16777216, x4, x5, x6, x7), rfl, rfl, rfl, trivial⟩⟩)
   ·refine ⟨⟨by omega, by omega, okH_g ⟨rfl, rfl⟩ ⟨rfl, rfl⟩ g4 g5 (noY_R _) ⟨rfl, rfl⟩⟩, ?_⟩
    rintro x4 l4 b4 ⟨e4⟩
    refine ⟨⟨by omega, by omega, okH_g ⟨rfl, rfl⟩ ⟨rfl, rfl⟩ g4 g5 (noY_R _) ⟨rfl, rfl⟩⟩, ?_⟩
    rintro x5 l5 b5 ⟨e5⟩
    refine ⟨⟨by omega, by omega, okH_g ⟨rfl, rfl⟩ ⟨rfl, rfl⟩ g4 g5 (noY_R _) ⟨rfl, rfl⟩⟩, ?_⟩
    rintro x6 l6 b6 ⟨e6⟩
    refine ⟨⟨by omega, by omega, okH_g ⟨rfl, rfl⟩ ⟨rfl, rfl⟩ g4 g5 (noY_R _) ⟨rfl, rfl⟩⟩, ?_⟩
    rintro x7 l7 b7 ⟨e7⟩
    have hrd : rcRdM l0 b0 = ((x1, x2, x3, x4, x5, x6, x7), l7, b7) := by
     have e1 := e1; have e2 := e2; have e3 := e3; have e4 := e4; have e5 := e5; have e6 := e6; have e7 := e7
     simp only [show Int.toNat 4 = 4 from rfl, show Int.toNat 1 = 1 from rfl, show Int.toNat 3 = 3 from rfl] at e1 e2 e3 e4 e5 e6 e7
     simp only [rcRdM, e1, e2, e3, e4, e5, e6, e7]
     rw [if_neg (by omega)]
    exact ckI (by simp [cellsR_len]; omega) (wrapI (by omega) (by omega) ⟨⟨trivial, rfl⟩, .inr ⟨(i + 1, acc ++ [(x1, x2, x3, x4, x5, x6, x7)], l7, b7, J1, J2), ⟨by simp, by dsimp only; omega, rgo_step g3 (by omega) hrd, g4, g5⟩, by dsimp only; omega, rfl, by simp [Nat.mul_add], rfl, rfl, cellsR_snoc acc (x1, x2, x3, x4, x5, x6, x7), rfl, rfl, rfl, trivial⟩⟩)
  ·obtain rfl : i = (c : Int).toNat := by omega
   rw [Int.toNat_natCast] at g3
   exact finI (P := fun f => Q (.ret (.tup [.agg _, .bool f])) _ {}) (hq n l b acc _ _ e (rgo_end g3) _ _ (out_R rfl))
theorem rd_a (c : Nat) (hc : c ≤ 1000) (s : List UInt8) (Q : Out → List Blk → Gh → Prop) (hq : ∀ n l b n1 n2 n3 n4 n5 l1 b1 l2 b2 l3 b3 l4 b4 l5 b5 rs l6 b6, (tkM 4 s false = (n, l, b) ∧ tkM 4 l b = (n1, l1, b1) ∧ tkM 4 l1 b1 = (n2, l2, b2) ∧ tkM 4 l2 b2 = (n3, l3, b3) ∧ tkM 4 l3 b3 = (n4, l4, b4) ∧ tkM 4 l4 b4 = (n5, l5, b5)) → rcsRdM c l5 b5 = (rs, l6, b6) → ∀ v H, outM v H = .tup [.agg (ctC ⟨1, n, 0, n1, n2, n3, n4, n5, rs, [], 0, 0, []⟩), .bool (finM l6 b6)] → Q (.ret v) H {}) : ∃ hv hb, goal_38a hv hb c s Q := by
 obtain ⟨hv, hb', e⟩ : ∃ hv hb, goal_38a hv hb c s Q = _ := ⟨_, _, vc_38a c s Q⟩
 refine ⟨hv, hb', e.mpr ?_⟩
 clear e
 refine ⟨⟨by omega, by omega, okH_a ⟨rfl, rfl⟩ ⟨rfl, rfl⟩⟩, ?_⟩
 rintro n l b ⟨e⟩
 refine ⟨⟨by omega, by omega, okH_a ⟨rfl, rfl⟩ ⟨rfl, rfl⟩⟩, ?_⟩
 rintro m1 k1 c1 ⟨d1⟩
 refine ⟨⟨by omega, by omega, okH_a ⟨rfl, rfl⟩ ⟨rfl, rfl⟩⟩, ?_⟩
 rintro m2 k2 c2 ⟨d2⟩
 refine ⟨⟨by omega, by omega, okH_a ⟨rfl, rfl⟩ ⟨rfl, rfl⟩⟩, ?_⟩
 rintro m3 k3 c3 ⟨d3⟩
 refine ⟨⟨by omega, by omega, okH_a ⟨rfl, rfl⟩ ⟨rfl, rfl⟩⟩, ?_⟩
 rintro m4 k4 c4 ⟨d4⟩
 refine ⟨⟨by omega, by omega, okH_a ⟨rfl, rfl⟩ ⟨rfl, rfl⟩⟩, ?_⟩
 rintro m5 k5 c5 ⟨d5⟩
 refine ⟨.inl ⟨0, ⟨rfl⟩, rfl, rfl, rfl, rfl, rfl, trivial⟩, ?_, ?_⟩
 ·rintro i ⟨hi⟩
  subst hi
  refine splitD (fun h => ?_) (fun h => ?_)
  ·obtain ⟨l0, b0, hl0, hb0⟩ : ∃ l0 b0, l0 = k5 ∧ b0 = c5 := ⟨_, _, rfl, rfl⟩
   subst hl0 hb0
   refine ⟨⟨by omega, by omega, okH_a ⟨rfl, rfl⟩ ⟨rfl, rfl⟩⟩, ?_⟩
   rintro x1 l1 b1 ⟨e1⟩
   refine ⟨⟨by omega, by omega, okH_a ⟨rfl, rfl⟩ ⟨rfl, rfl⟩⟩, ?_⟩
   rintro x2 l2 b2 ⟨e2⟩
   refine ⟨⟨by omega, by omega, okH_f ⟨rfl, rfl⟩ ⟨rfl, rfl⟩ ⟨rfl, rfl⟩⟩, ?_⟩
   rintro x3 l3 b3 ⟨e3⟩
   have hx3 := tk_bd e3 (by decide)
   refine splitD (fun h3 => ?_) (fun h3 => ?_)
   ·refine wrapI (by omega) (by omega) ?_
    refine ⟨⟨by omega, by omega, okH_f ⟨rfl, rfl⟩ ⟨rfl, rfl⟩ ⟨rfl, rfl⟩⟩, ?_⟩
    rintro x4 l4 b4 ⟨e4⟩
    refine ⟨⟨by omega, by omega, okH_f ⟨rfl, rfl⟩ ⟨rfl, rfl⟩ ⟨rfl, rfl⟩⟩, ?_⟩
    rintro x5 l5 b5 ⟨e5⟩
    refine ⟨⟨by omega, by omega, okH_f ⟨rfl, rfl⟩ ⟨rfl, rfl⟩ ⟨rfl, rfl⟩⟩, ?_⟩
    rintro x6 l6 b6 ⟨e6⟩
    refine ⟨⟨by omega, by omega, okH_f ⟨rfl, rfl⟩ ⟨rfl, rfl⟩ ⟨rfl, rfl⟩⟩, ?_⟩
    rintro x7 l7 b7 ⟨e7⟩
    have hrd : rcRdM l0 b0 = ((x1, x2, x3 - 16777216, x4, x5, x6, x7), l7, b7) := by
     have e1 := e1; have e2 := e2; have e3 := e3; have e4 := e4; have e5 := e5; have e6 := e6; have e7 := e7
     simp only [show Int.toNat 4 = 4 from rfl, show Int.toNat 1 = 1 from rfl, show Int.toNat 3 = 3 from rfl] at e1 e2 e3 e4 e5 e6 e7
     simp only [rcRdM, e1, e2, e3, e4, e5, e6, e7]
     rw [if_pos (by omega)]
    exact wrapI (by omega) (by omega) ⟨⟨trivial, rfl⟩, .inr ⟨(1, [(x1, x2, x3 - 16777216, x4, x5, x6, x7)], l7, b7, _, _), ⟨by simp, by dsimp only; omega, rgo_one (by omega) hrd, ⟨rfl, rfl⟩, ⟨rfl, rfl⟩⟩, by dsimp only; omega, rfl, rfl, rfl, rfl, rfl, rfl, rfl, rfl, trivial⟩⟩
   ·refine ⟨⟨by omega, by omega, okH_f ⟨rfl, rfl⟩ ⟨rfl, rfl⟩ ⟨rfl, rfl⟩⟩, ?_⟩
    rintro x4 l4 b4 ⟨e4⟩
    refine ⟨⟨by omega, by omega, okH_f ⟨rfl, rfl⟩ ⟨rfl, rfl⟩ ⟨rfl, rfl⟩⟩, ?_⟩
    rintro x5 l5 b5 ⟨e5⟩
    refine ⟨⟨by omega, by omega, okH_f ⟨rfl, rfl⟩ ⟨rfl, rfl⟩ ⟨rfl, rfl⟩⟩, ?_⟩
    rintro x6 l6 b6 ⟨e6⟩
    refine ⟨⟨by omega, by omega, okH_f ⟨rfl, rfl⟩ ⟨rfl, rfl⟩ ⟨rfl, rfl⟩⟩, ?_⟩
    rintro x7 l7 b7 ⟨e7⟩
    have hrd : rcRdM l0 b0 = ((x1, x2, x3, x4, x5, x6, x7), l7, b7) := by
     have e1 := e1; have e2 := e2; have e3 := e3; have e4 := e4; have e5 := e5; have e6 := e6; have e7 := e7
     simp only [show Int.toNat 4 = 4 from rfl, show Int.toNat 1 = 1 from rfl, show Int.toNat 3 = 3 from rfl] at e1 e2 e3 e4 e5 e6 e7
     simp only [rcRdM, e1, e2, e3, e4, e5, e6, e7]
     rw [if_neg (by omega)]
    exact wrapI (by omega) (by omega) ⟨⟨trivial, rfl⟩, .inr ⟨(1, [(x1, x2, x3, x4, x5, x6, x7)], l7, b7, _, _), ⟨by simp, by dsimp only; omega, rgo_one (by omega) hrd, ⟨rfl, rfl⟩, ⟨rfl, rfl⟩⟩, by dsimp only; omega, rfl, rfl, rfl, rfl, rfl, rfl, rfl, rfl, trivial⟩⟩
  ·obtain rfl : c = 0 := by omega
   refine finI (P := fun f => Q (.ret (.tup [.agg _, .bool f])) [] {}) ?_
   exact hq n l b m1 m2 m3 m4 m5 k1 c1 k2 c2 k3 c3 k4 c4 _ _ [] _ _ ⟨e, d1, d2, d3, d4, d5⟩ rfl _ _ rfl
 ·rintro ⟨i, acc, l0, b0, J1, J2⟩ ⟨g1, g2, g3, g4, g5⟩
  dsimp only at g1 g2 g3 g4 g5 ⊢
  have gl := g3.1
  refine splitD (fun h => ?_) (fun h => ?_)
  ·refine ⟨⟨by omega, by omega, okH_e ⟨rfl, rfl⟩ ⟨rfl, rfl⟩ g4 g5 (noY_R _)⟩, ?_⟩
   rintro x1 l1 b1 ⟨e1⟩
   refine ⟨⟨by omega, by omega, okH_e ⟨rfl, rfl⟩ ⟨rfl, rfl⟩ g4 g5 (noY_R _)⟩, ?_⟩
   rintro x2 l2 b2 ⟨e2⟩
   refine ⟨⟨by omega, by omega, okH_g ⟨rfl, rfl⟩ ⟨rfl, rfl⟩ g4 g5 (noY_R _) ⟨rfl, rfl⟩⟩, ?_⟩
   rintro x3 l3 b3 ⟨e3⟩
   have hx3 := tk_bd e3 (by decide)
   refine splitD (fun h3 => ?_) (fun h3 => ?_)
   ·refine wrapI (by omega) (by omega) ?_
    refine ⟨⟨by omega, by omega, okH_g ⟨rfl, rfl⟩ ⟨rfl, rfl⟩ g4 g5 (noY_R _) ⟨rfl, rfl⟩⟩, ?_⟩
    rintro x4 l4 b4 ⟨e4⟩
    refine ⟨⟨by omega, by omega, okH_g ⟨rfl, rfl⟩ ⟨rfl, rfl⟩ g4 g5 (noY_R _) ⟨rfl, rfl⟩⟩, ?_⟩
    rintro x5 l5 b5 ⟨e5⟩
    refine ⟨⟨by omega, by omega, okH_g ⟨rfl, rfl⟩ ⟨rfl, rfl⟩ g4 g5 (noY_R _) ⟨rfl, rfl⟩⟩, ?_⟩
    rintro x6 l6 b6 ⟨e6⟩
    refine ⟨⟨by omega, by omega, okH_g ⟨rfl, rfl⟩ ⟨rfl, rfl⟩ g4 g5 (noY_R _) ⟨rfl, rfl⟩⟩, ?_⟩
    rintro x7 l7 b7 ⟨e7⟩
    have hrd : rcRdM l0 b0 = ((x1, x2, x3 - 16777216, x4, x5, x6, x7), l7, b7) := by
     have e1 := e1; have e2 := e2; have e3 := e3; have e4 := e4; have e5 := e5; have e6 := e6; have e7 := e7
     simp only [show Int.toNat 4 = 4 from rfl, show Int.toNat 1 = 1 from rfl, show Int.toNat 3 = 3 from rfl] at e1 e2 e3 e4 e5 e6 e7
     simp only [rcRdM, e1, e2, e3, e4, e5, e6, e7]
     rw [if_pos (by omega)]
    exact ckI (by simp [cellsR_len]; omega) (wrapI (by omega) (by omega) ⟨⟨trivial, rfl⟩, .inr ⟨(i + 1, acc ++ [(x1, x2, x3 - 16777216, x4, x5, x6, x7)], l7, b7, J1, J2), ⟨by simp, by dsimp only; omega, rgo_step g3 (by omega) hrd, g4, g5⟩, by dsimp only; omega, rfl, by simp [Nat.mul_add], rfl, rfl, cellsR_snoc acc (x1, x2, x3 - 16777216, x4, x5, x6, x7), rfl, rfl, rfl, trivial⟩⟩)
   ·refine ⟨⟨by omega, by omega, okH_g ⟨rfl, rfl⟩ ⟨rfl, rfl⟩ g4 g5 (noY_R _) ⟨rfl, rfl⟩⟩, ?_⟩
    rintro x4 l4 b4 ⟨e4⟩
    refine ⟨⟨by omega, by omega, okH_g ⟨rfl, rfl⟩ ⟨rfl, rfl⟩ g4 g5 (noY_R _) ⟨rfl, rfl⟩⟩, ?_⟩
    rintro x5 l5 b5 ⟨e5⟩
    refine ⟨⟨by omega, by omega, okH_g ⟨rfl, rfl⟩ ⟨rfl, rfl⟩ g4 g5 (noY_R _) ⟨rfl, rfl⟩⟩, ?_⟩
    rintro x6 l6 b6 ⟨e6⟩
    refine ⟨⟨by omega, by omega, okH_g ⟨rfl, rfl⟩ ⟨rfl, rfl⟩ g4 g5 (noY_R _) ⟨rfl, rfl⟩⟩, ?_⟩
    rintro x7 l7 b7 ⟨e7⟩
    have hrd : rcRdM l0 b0 = ((x1, x2, x3, x4, x5, x6, x7), l7, b7) := by
     have e1 := e1; have e2 := e2; have e3 := e3; have e4 := e4; have e5 := e5; have e6 := e6; have e7 := e7
     simp only [show Int.toNat 4 = 4 from rfl, show Int.toNat 1 = 1 from rfl, show Int.toNat 3 = 3 from rfl] at e1 e2 e3 e4 e5 e6 e7
     simp only [rcRdM, e1, e2, e3, e4, e5, e6, e7]
     rw [if_neg (by omega)]
    exact ckI (by simp [cellsR_len]; omega) (wrapI (by omega) (by omega) ⟨⟨trivial, rfl⟩, .inr ⟨(i + 1, acc ++ [(x1, x2, x3, x4, x5, x6, x7)], l7, b7, J1, J2), ⟨by simp, by dsimp only; omega, rgo_step g3 (by omega) hrd, g4, g5⟩, by dsimp only; omega, rfl, by simp [Nat.mul_add], rfl, rfl, cellsR_snoc acc (x1, x2, x3, x4, x5, x6, x7), rfl, rfl, rfl, trivial⟩⟩)
  ·obtain rfl : i = (c : Int).toNat := by omega
   rw [Int.toNat_natCast] at g3
   exact finI (P := fun f => Q (.ret (.tup [.agg _, .bool f])) _ {}) (hq n l b m1 m2 m3 m4 m5 k1 c1 k2 c2 k3 c3 k4 c4 _ _ acc _ _ ⟨e, d1, d2, d3, d4, d5⟩ (rgo_end g3) _ _ (out_R rfl))
end Go.Proofs.YtafchcmemeinlaaDoor
