/-
  Chapter 24: models of reading; goals of read.
-/
import Derived.Test.YtafchcmemeinlaaDoorC24XM
set_option linter.unusedSimpArgs false
set_option linter.unusedVariables false
set_option linter.unusedSectionVars false
namespace Go.Proofs.YtafchcmemeinlaaDoor
open Go.RowKit
set_option maxRecDepth 1000000

abbrev flatL (l : List AV) : Prop := oldL 0 l = true ∧ noYL l = true
theorem okB_flat {n : Nat} {k : BK} {lf : Bool} {l : List AV} (h : flatL l) (hk : k ≠ .ro) : oldL n l = true ∧ noYL l = true ∧ (lf = true → oldL 0 l = true) ∧ k ≠ .ro := ⟨oldL_mono (Nat.zero_le n) l h.1, h.2, fun _ => h.1, hk⟩
theorem okH_a {z cs : List AV} (h0 : flatL z) (h1 : flatL cs) : okH [⟨.exact, true, z⟩, ⟨.exact, true, cs⟩] := by
 intro x hx
 simp only [List.mem_cons, List.not_mem_nil, or_false] at hx
 rcases hx with rfl | rfl
 ·exact okB_flat h0 (by simp)
 ·exact okB_flat h1 (by simp)
theorem okH_b {z cs d : List AV} (h0 : flatL z) (h1 : flatL cs) (h2 : flatL d) : okH [⟨.exact, true, z⟩, ⟨.exact, true, cs⟩, ⟨.grow, true, d⟩] := by
 intro x hx
 simp only [List.mem_cons, List.not_mem_nil, or_false] at hx
 rcases hx with rfl | rfl | rfl
 ·exact okB_flat h0 (by simp)
 ·exact okB_flat h1 (by simp)
 ·exact okB_flat h2 (by simp)
theorem okH_c {z cs d : List AV} (h0 : flatL z) (h1 : oldL 3 cs = true ∧ noYL cs = true) (h2 : flatL d) : okH [⟨.exact, true, z⟩, ⟨.exact, false, cs⟩, ⟨.grow, true, d⟩] := by
 intro x hx
 simp only [List.mem_cons, List.not_mem_nil, or_false] at hx
 rcases hx with rfl | rfl | rfl
 ·exact okB_flat h0 (by simp)
 ·exact ⟨h1.1, h1.2, fun h => by simp at h, by simp⟩
 ·exact okB_flat h2 (by simp)
theorem okH_d {z cs d e : List AV} (h0 : flatL z) (h1 : oldL 4 cs = true ∧ noYL cs = true) (h2 : flatL d) (h3 : flatL e) : okH [⟨.exact, true, z⟩, ⟨.exact, false, cs⟩, ⟨.grow, true, d⟩, ⟨.grow, true, e⟩] := by
 intro x hx
 simp only [List.mem_cons, List.not_mem_nil, or_false] at hx
 rcases hx with rfl | rfl | rfl | rfl
 ·exact okB_flat h0 (by simp)
 ·exact ⟨h1.1, h1.2, fun h => by simp at h, by simp⟩
 ·exact okB_flat h2 (by simp)
 ·exact okB_flat h3 (by simp)
theorem okH_e {z cs d e g : List AV} (h0 : flatL z) (h1 : oldL 5 cs = true ∧ noYL cs = true) (h2 : flatL d) (h3 : flatL e) (h4 : flatL g) : okH [⟨.exact, true, z⟩, ⟨.exact, false, cs⟩, ⟨.exact, true, d⟩, ⟨.exact, true, e⟩, ⟨.grow, true, g⟩] := by
 intro x hx
 simp only [List.mem_cons, List.not_mem_nil, or_false] at hx
 rcases hx with rfl | rfl | rfl | rfl | rfl
 ·exact okB_flat h0 (by simp)
 ·exact ⟨h1.1, h1.2, fun h => by simp at h, by simp⟩
 ·exact okB_flat h2 (by simp)
 ·exact okB_flat h3 (by simp)
 ·exact okB_flat h4 (by simp)
theorem okH_f {z cs d : List AV} (h0 : flatL z) (h1 : flatL cs) (h2 : flatL d) : okH [⟨.exact, true, z⟩, ⟨.exact, true, cs⟩, ⟨.exact, true, d⟩] := by
 intro x hx
 simp only [List.mem_cons, List.not_mem_nil, or_false] at hx
 rcases hx with rfl | rfl | rfl
 ·exact okB_flat h0 (by simp)
 ·exact okB_flat h1 (by simp)
 ·exact okB_flat h2 (by simp)
theorem okH_g {z cs d e g j : List AV} (h0 : flatL z) (h1 : oldL 6 cs = true ∧ noYL cs = true) (h2 : flatL d) (h3 : flatL e) (h4 : flatL g) (h5 : flatL j) : okH [⟨.exact, true, z⟩, ⟨.exact, false, cs⟩, ⟨.exact, true, d⟩, ⟨.exact, true, e⟩, ⟨.grow, true, g⟩, ⟨.exact, true, j⟩] := by
 intro x hx
 simp only [List.mem_cons, List.not_mem_nil, or_false] at hx
 rcases hx with rfl | rfl | rfl | rfl | rfl | rfl
 ·exact okB_flat h0 (by simp)
 ·exact ⟨h1.1, h1.2, fun h => by simp at h, by simp⟩
 ·exact okB_flat h2 (by simp)
 ·exact okB_flat h3 (by simp)
 ·exact okB_flat h4 (by simp)
 ·exact okB_flat h5 (by simp)
def rcRdM (l : List UInt8) (b : Bool) : Rc × List UInt8 × Bool :=
 match tkM 4 l b with
 | (x1, l1, b1) => match tkM 1 l1 b1 with
  | (x2, l2, b2) => match tkM 3 l2 b2 with
   | (x3, l3, b3) => match tkM 4 l3 b3 with
    | (x4, l4, b4) => match tkM 4 l4 b4 with
     | (x5, l5, b5) => match tkM 4 l5 b5 with
      | (x6, l6, b6) => match tkM 4 l6 b6 with
       | (x7, l7, b7) => ((x1, x2, if 8388608 ≤ x3 then x3 - 16777216 else x3, x4, x5, x6, x7), l7, b7)
def rcsRdM : Nat → List UInt8 → Bool → List Rc × List UInt8 × Bool
 | 0, l, b => ([], l, b)
 | n + 1, l, b => ((rcRdM l b).1 :: (rcsRdM n (rcRdM l b).2.1 (rcRdM l b).2.2).1, (rcsRdM n (rcRdM l b).2.1 (rcRdM l b).2.2).2)
def sm38 : SM := lookS [(58, cTake)]
theorem sm38_ok : ∀ f g, sm38 f = some g → ValidF Tryd.prog glC f g := lookS_ok _ (by simp only [List.mem_cons, List.not_mem_nil, or_false, forall_eq]; exact take_ok)
abbrev X59 := Nat × List Rc × List UInt8 × Bool × List AV × List AV
def rgoM (c : Nat) (l0 : List UInt8) (b0 : Bool) (i : Nat) (acc : List Rc) (l : List UInt8) (b : Bool) : Prop := acc.length = i ∧ rcsRdM c l0 b0 = (acc ++ (rcsRdM (c - i) l b).1, (rcsRdM (c - i) l b).2)
def inv_59 (s : S) : List (List LInv) := match s.tm.get 5, s.hp with
 | .int _ c, [⟨_, _, z⟩, ⟨_, _, [c0, c1, c2, c3, c4, c5, c6, c7, _, c9, c10, c11, c12, .str l0, .bool b0]⟩] => [[
  { α := Nat, pre := fun i => Lf (i = 0), st := fun i => ⟨mkT [(0, .ptr 1 15 0), (5, .int .i64 c), (6, .int .i64 (i : Nat))], s.hp⟩, mu := fun i => c.toNat + 1 },
  { α := X59, pre := fun x => Lf (1 ≤ x.1 ∧ x.1 ≤ c.toNat ∧ rgoM c.toNat l0 b0 x.1 x.2.1 x.2.2.1 x.2.2.2.1 ∧ flatL x.2.2.2.2.1 ∧ flatL x.2.2.2.2.2), st := fun x => ⟨mkT [(0, .ptr 1 15 0), (5, .int .i64 c), (6, .int .i64 (x.1 : Nat))], [⟨.exact, true, z⟩, ⟨.exact, false, [c0, c1, c2, c3, c4, c5, c6, c7, .sl 4 (7 * x.2.1.length) 0 x.2.1.length 7, c9, c10, c11, c12, .str x.2.2.1, .bool x.2.2.2.1]⟩, ⟨.exact, true, x.2.2.2.2.1⟩, ⟨.exact, true, x.2.2.2.2.2⟩, ⟨.grow, true, cellsRM x.2.1⟩]⟩, mu := fun x => c.toNat - x.1 }]]
 | _, _ => []
noncomputable def env_38 (hv : Nat → Option Pa) (hb : Nat → Option Bool) : Env := e24 sm38 (fun i => bif Nat.beq i 59000 then some inv_59 else none) hv hb
noncomputable def go38 (hv : Nat → Option Pa) (hb : Nat → Option Bool) (k c : Int) (s : List UInt8) (Q : Out → List Blk → Gh → Prop) : Prop :=
 callx (env_38 hv hb) (wpx (env_38 hv hb) 1000) 38 [.int .i64 k, .int .i64 c, .str s] [] {} Q
noncomputable def goal_38c (hv : Nat → Option Pa) (hb : Nat → Option Bool) (c : Nat) (s : List UInt8) (Q : Out → List Blk → Gh → Prop) : Prop := go38 hv hb 203 (c : Int) s Q
theorem vc_38c (c : Nat) (s : List UInt8) (Q : Out → List Blk → Gh → Prop) : goal_38c (lookV []) (lookB []) c s Q = (Lf ((0 : Int) ≤ (4 : Int) ∧ (4 : Int) ≤ (4 : Int) ∧ okH [Blk.mk BK.exact true [.int .i64 0, .int .i64 0, .int .i64 0, .int
 .i64 0, .int .i64 0, .int .i64 0, .int .i64 0, .int .i64 0, .nils, .nils, .int .i64 0, .int .i64 0, .nils], Blk.mk BK.exact true [.int .i64 0, .int .i64 0, .int .i64 0, .int .i64 0, .int .i64 0, .int .i64 0, .int .i64 0, .int .i64 0,
 .nils, .nils, .int .i64 0, .int .i64 0, .nils, .str s, .bool false]]) ∧ ∀ n_0 : Int, ∀ l'_1 : List UInt8, ∀ b'_2 : Bool, Lf (tkM (Int.toNat 4) s false = Prod.mk n_0 (Prod.mk l'_1 b'_2)) → bif b'_2 then Q (.ret (.tup [.agg [.int .i64 3,
 .int .i64 n_0, .int .i64 0, .int .i64 0, .int .i64 0, .int .i64 0, .int .i64 0, .int .i64 0, .nils, .nils, .int .i64 0, .int .i64 0, .nils], .bool false])) [] {} else bif eqB l'_1 [] then ckQ (eqAVL [.str l'_1] [.str l'_1] && true) (Q
 (.ret (.tup [.agg [.int .i64 3, .int .i64 n_0, .int .i64 0, .int .i64 0, .int .i64 0, .int .i64 0, .int .i64 0, .int .i64 0, .nils, .nils, .int .i64 0, .int .i64 0, .nils], .bool true])) [] {}) else ckQ (eqAVL [.str l'_1] [.str l'_1] &&
 true) (Q (.ret (.tup [.agg [.int .i64 3, .int .i64 n_0, .int .i64 0, .int .i64 0, .int .i64 0, .int .i64 0, .int .i64 0, .int .i64 0, .nils, .nils, .int .i64 0, .int .i64 0, .nils], .bool false])) [] {})) := by kernel_rfl

noncomputable def goal_38d (hv : Nat → Option Pa) (hb : Nat → Option Bool) (c : Nat) (s : List UInt8) (Q : Out → List Blk → Gh → Prop) : Prop := go38 hv hb 206 (c : Int) s Q
theorem vc_38d (c : Nat) (s : List UInt8) (Q : Out → List Blk → Gh → Prop) : goal_38d (lookV []) (lookB []) c s Q = (Lf ((0 : Int) ≤ (4 : Int) ∧ (4 : Int) ≤ (4 : Int) ∧ okH [Blk.mk BK.exact true [.int .i64 0, .int .i64 0, .int .i64 0, .int
 .i64 0, .int .i64 0, .int .i64 0, .int .i64 0, .int .i64 0, .nils, .nils, .int .i64 0, .int .i64 0, .nils], Blk.mk BK.exact true [.int .i64 0, .int .i64 0, .int .i64 0, .int .i64 0, .int .i64 0, .int .i64 0, .int .i64 0, .int .i64 0,
 .nils, .nils, .int .i64 0, .int .i64 0, .nils, .str s, .bool false]]) ∧ ∀ n_0 : Int, ∀ l'_1 : List UInt8, ∀ b'_2 : Bool, Lf (tkM (Int.toNat 4) s false = Prod.mk n_0 (Prod.mk l'_1 b'_2)) → Lf ((0 : Int) ≤ (4 : Int) ∧ (4 : Int) ≤ (4 : Int) ∧
 okH [Blk.mk BK.exact true [.int .i64 0, .int .i64 0, .int .i64 0, .int .i64 0, .int .i64 0, .int .i64 0, .int .i64 0, .int .i64 0, .nils, .nils, .int .i64 0, .int .i64 0, .nils], Blk.mk BK.exact true [.int .i64 0, .int .i64 n_0, .int .i64
 0, .int .i64 0, .int .i64 0, .int .i64 0, .int .i64 0, .int .i64 0, .nils, .nils, .int .i64 0, .int .i64 0, .nils, .str l'_1, .bool b'_2]]) ∧ ∀ n_3 : Int, ∀ l'_4 : List UInt8, ∀ b'_5 : Bool, Lf (tkM (Int.toNat 4) l'_1 b'_2 = Prod.mk n_3
 (Prod.mk l'_4 b'_5)) → bif b'_5 then Q (.ret (.tup [.agg [.int .i64 5, .int .i64 n_0, .int .i64 n_3, .int .i64 0, .int .i64 0, .int .i64 0, .int .i64 0, .int .i64 0, .nils, .nils, .int .i64 0, .int .i64 0, .nils], .bool false])) [] {} else
 bif eqB l'_4 [] then ckQ (eqAVL [.str l'_4] [.str l'_4] && true) (Q (.ret (.tup [.agg [.int .i64 5, .int .i64 n_0, .int .i64 n_3, .int .i64 0, .int .i64 0, .int .i64 0, .int .i64 0, .int .i64 0, .nils, .nils, .int .i64 0, .int .i64 0,
 .nils], .bool true])) [] {}) else ckQ (eqAVL [.str l'_4] [.str l'_4] && true) (Q (.ret (.tup [.agg [.int .i64 5, .int .i64 n_0, .int .i64 n_3, .int .i64 0, .int .i64 0, .int .i64 0, .int .i64 0, .int .i64 0, .nils, .nils, .int .i64 0, .int
 .i64 0, .nils], .bool false])) [] {})) := by kernel_rfl

noncomputable def goal_38b (hv : Nat → Option Pa) (hb : Nat → Option Bool) (c : Nat) (s : List UInt8) (Q : Out → List Blk → Gh → Prop) : Prop := go38 hv hb 201 (c : Int) s Q
def vc_38b_1 : Prop := (
((((AV.int .i64 (0 : Int)) :: ((AV.int .i64 (0 : Int)) :: ((AV.int .i64 (0 : Int)) :: ((AV.int .i64 (0 : Int)) :: ((AV.int .i64 (0 : Int)) :: ((AV.int .i64 (0 : Int)) :: ((AV.int .i64 (0 : Int)) :: ((AV.int .i64 (0 : Int)) :: (AV.nils :: (AV.nils :: ((AV.int .i64 (0 : Int)) :: ((AV.int .i64 (0 : Int)) :: (AV.nils :: []))))))))))))) = ((AV.int .i64 (0 : Int)) :: ((AV.int .i64 (0 : Int)) :: ((AV.int .i64 (0 : Int)) :: ((AV.int .i64 (0 : Int)) :: ((AV.int .i64 (0 : Int)) :: ((AV.int .i64 (0 : Int)) :: ((AV.int .i64 (0 : Int)) :: ((AV.int .i64 (0 : Int)) :: (AV.nils :: (AV.nils :: ((AV.int .i64 (0 : Int)) :: ((AV.int .i64 (0 : Int)) :: (AV.nils :: [])))))))))))))) ∧
 False))
def vc_38b_2 (c : Nat) : Prop := (
(∃ y_0 : Nat, ((Lf (y_0 = (0 : Nat))) ∧
 ((((Int.toNat (Nat.cast c : Int)) + (1 : Nat)) < ((Int.toNat (Nat.cast c : Int)) + (1 : Nat))) ∧
 vc_38b_1))))
abbrev q4XN_38b_0 (n_0 : Int) (x_3 : Nat × List Rc × List UInt8 × Bool × List AV × List AV) (l'_11 : List UInt8) (b'_12 : Bool) (n_4 : Int) (n_7 : Int) (n_13 : Int) (c : Nat) (l'_1 : List UInt8) (b'_2 : Bool) : Prop :=
Lf ((0 : Int) ≤ (4 : Int) ∧ (4 : Int) ≤ (4 : Int) ∧ okH [Blk.mk BK.exact true [.int .i64 0, .int .i64 0, .int .i64 0, .int .i64 0, .int .i64 0, .int .i64 0, .int .i64 0, .int .i64 0, .nils, .nils, .int .i64 0, .int .i64 0, .nils], Blk.mk
 BK.exact false [.int .i64 2, .int .i64 n_0, .int .i64 0, .int .i64 0, .int .i64 0, .int .i64 0, .int .i64 0, .int .i64 0, .sl 4 (7 * x_3.2.1.length) 0 x_3.2.1.length 7, .nils, .int .i64 0, .int .i64 0, .nils, .str l'_11, .bool b'_12],
 Blk.mk BK.exact true x_3.2.2.2.2.1, Blk.mk BK.exact true x_3.2.2.2.2.2, Blk.mk BK.grow true (cellsRM x_3.2.1), Blk.mk BK.exact true [.int .i64 n_4, .int .i64 n_7, .int .i64 n_13, .int .i64 0, .int .i64 0, .int .i64 0, .int .i64 0]]) ∧ ∀
 n_14 : Int, ∀ l'_15 : List UInt8, ∀ b'_16 : Bool, Lf (tkM (Int.toNat 4) l'_11 b'_12 = Prod.mk n_14 (Prod.mk l'_15 b'_16)) → Lf ((0 : Int) ≤ (4 : Int) ∧ (4 : Int) ≤ (4 : Int) ∧ okH [Blk.mk BK.exact true [.int .i64 0, .int .i64 0, .int .i64
 0, .int .i64 0, .int .i64 0, .int .i64 0, .int .i64 0, .int .i64 0, .nils, .nils, .int .i64 0, .int .i64 0, .nils], Blk.mk BK.exact false [.int .i64 2, .int .i64 n_0, .int .i64 0, .int .i64 0, .int .i64 0, .int .i64 0, .int .i64 0, .int
 .i64 0, .sl 4 (7 * x_3.2.1.length) 0 x_3.2.1.length 7, .nils, .int .i64 0, .int .i64 0, .nils, .str l'_15, .bool b'_16], Blk.mk BK.exact true x_3.2.2.2.2.1, Blk.mk BK.exact true x_3.2.2.2.2.2, Blk.mk BK.grow true (cellsRM x_3.2.1), Blk.mk
 BK.exact true [.int .i64 n_4, .int .i64 n_7, .int .i64 n_13, .int .i64 0, .int .i64 0, .int .i64 0, .int .i64 0]]) ∧ ∀ n_17 : Int, ∀ l'_18 : List UInt8, ∀ b'_19 : Bool, Lf (tkM (Int.toNat 4) l'_15 b'_16 = Prod.mk n_17 (Prod.mk l'_18
 b'_19)) → Lf ((0 : Int) ≤ (4 : Int) ∧ (4 : Int) ≤ (4 : Int) ∧ okH [Blk.mk BK.exact true [.int .i64 0, .int .i64 0, .int .i64 0, .int .i64 0, .int .i64 0, .int .i64 0, .int .i64 0, .int .i64 0, .nils, .nils, .int .i64 0, .int .i64 0,
 .nils], Blk.mk BK.exact false [.int .i64 2, .int .i64 n_0, .int .i64 0, .int .i64 0, .int .i64 0, .int .i64 0, .int .i64 0, .int .i64 0, .sl 4 (7 * x_3.2.1.length) 0 x_3.2.1.length 7, .nils, .int .i64 0, .int .i64 0, .nils, .str l'_18,
 .bool b'_19], Blk.mk BK.exact true x_3.2.2.2.2.1, Blk.mk BK.exact true x_3.2.2.2.2.2, Blk.mk BK.grow true (cellsRM x_3.2.1), Blk.mk BK.exact true [.int .i64 n_4, .int .i64 n_7, .int .i64 n_13, .int .i64 0, .int .i64 0, .int .i64 0, .int
 .i64 0]]) ∧ ∀ n_20 : Int, ∀ l'_21 : List UInt8, ∀ b'_22 : Bool, Lf (tkM (Int.toNat 4) l'_18 b'_19 = Prod.mk n_20 (Prod.mk l'_21 b'_22)) → Lf ((0 : Int) ≤ (4 : Int) ∧ (4 : Int) ≤ (4 : Int) ∧ okH [Blk.mk BK.exact true [.int .i64 0, .int .i64
 0, .int .i64 0, .int .i64 0, .int .i64 0, .int .i64 0, .int .i64 0, .int .i64 0, .nils, .nils, .int .i64 0, .int .i64 0, .nils], Blk.mk BK.exact false [.int .i64 2, .int .i64 n_0, .int .i64 0, .int .i64 0, .int .i64 0, .int .i64 0, .int
 .i64 0, .int .i64 0, .sl 4 (7 * x_3.2.1.length) 0 x_3.2.1.length 7, .nils, .int .i64 0, .int .i64 0, .nils, .str l'_21, .bool b'_22], Blk.mk BK.exact true x_3.2.2.2.2.1, Blk.mk BK.exact true x_3.2.2.2.2.2, Blk.mk BK.grow true (cellsRM
 x_3.2.1), Blk.mk BK.exact true [.int .i64 n_4, .int .i64 n_7, .int .i64 n_13, .int .i64 0, .int .i64 0, .int .i64 0, .int .i64 0]]) ∧ ∀ n_23 : Int, ∀ l'_24 : List UInt8, ∀ b'_25 : Bool, Lf (tkM (Int.toNat 4) l'_21 b'_22 = Prod.mk n_23
 (Prod.mk l'_24 b'_25)) → ckQ (Nat.beq (cellsRM x_3.2.1).length (7 * x_3.2.1.length) && true && Nat.beq (0 + x_3.2.1.length * 7) (7 * x_3.2.1.length) && Nat.ble (x_3.2.1.length + 1) 1099511627776 && Nat.ble ((x_3.2.1.length + 1) * 56)
 1099511627776) (exW .i64 ((x_3.1 : Int) + 1) fun n_26 => (True ∧ (0 : Nat) = (0 : Nat)) ∧ ((∃ y_27 : Nat, Lf (y_27 = 0) ∧ (c : Int).toNat + 1 < (c : Int).toNat - x_3.1 ∧ vc_38b_1) ∨ ∃ y_27 : Nat × List Rc × List UInt8 × Bool × List AV ×
 List AV, Lf (1 ≤ y_27.1 ∧ y_27.1 ≤ (c : Int).toNat ∧ rgoM (c : Int).toNat l'_1 b'_2 y_27.1 y_27.2.1 y_27.2.2.1 y_27.2.2.2.1 ∧ flatL y_27.2.2.2.2.1 ∧ flatL y_27.2.2.2.2.2) ∧ (c : Int).toNat - y_27.1 < (c : Int).toNat - x_3.1 ∧ eqqQ [AV.int
 .i64 0, .int .i64 0, .int .i64 0, .int .i64 0, .int .i64 0, .int .i64 0, .int .i64 0, .int .i64 0, .nils, .nils, .int .i64 0, .int .i64 0, .nils] ∧ [AV.int .i64 2, .int .i64 n_0, .int .i64 0, .int .i64 0, .int .i64 0, .int .i64 0, .int
 .i64 0, .int .i64 0, .sl 4 (7 * x_3.2.1.length + 7) 0 (x_3.2.1.length + 1) 7, .nils, .int .i64 0, .int .i64 0, .nils, .str l'_24, .bool b'_25] = [AV.int .i64 2, .int .i64 n_0, .int .i64 0, .int .i64 0, .int .i64 0, .int .i64 0, .int .i64
 0, .int .i64 0, .sl 4 (7 * y_27.2.1.length) 0 y_27.2.1.length 7, .nils, .int .i64 0, .int .i64 0, .nils, .str y_27.2.2.1, .bool y_27.2.2.2.1] ∧ x_3.2.2.2.2.1 = y_27.2.2.2.2.1 ∧ x_3.2.2.2.2.2 = y_27.2.2.2.2.2 ∧ cellsRM x_3.2.1 ++ [AV.int
 .i64 n_4, .int .i64 n_7, .int .i64 n_13, .int .i64 n_14, .int .i64 n_17, .int .i64 n_20, .int .i64 n_23] = cellsRM y_27.2.1 ∧ eqqQ (AV.ptr 1 15 0) ∧ eqqQ (AV.int .i64 (c : Int)) ∧ AV.int .i64 n_26 = AV.int .i64 (y_27.1 : Int) ∧ True))
abbrev q4XN_38b_1 (n_0 : Int) (l'_11 : List UInt8) (b'_12 : Bool) (n_4 : Int) (n_7 : Int) (n_13 : Int) (x_3 : Nat) (c : Nat) (l'_1 : List UInt8) (b'_2 : Bool) : Prop :=
Lf ((0 : Int) ≤ (4 : Int) ∧ (4 : Int) ≤ (4 : Int) ∧ okH [Blk.mk BK.exact true [.int .i64 0, .int .i64 0, .int .i64 0, .int .i64 0, .int .i64 0, .int .i64 0, .int .i64 0, .int .i64 0, .nils, .nils, .int .i64 0, .int .i64 0, .nils], Blk.mk
 BK.exact true [.int .i64 2, .int .i64 n_0, .int .i64 0, .int .i64 0, .int .i64 0, .int .i64 0, .int .i64 0, .int .i64 0, .nils, .nils, .int .i64 0, .int .i64 0, .nils, .str l'_11, .bool b'_12], Blk.mk BK.exact true [.int .i64 n_4, .int
 .i64 n_7, .int .i64 n_13, .int .i64 0, .int .i64 0, .int .i64 0, .int .i64 0]]) ∧ ∀ n_14 : Int, ∀ l'_15 : List UInt8, ∀ b'_16 : Bool, Lf (tkM (Int.toNat 4) l'_11 b'_12 = Prod.mk n_14 (Prod.mk l'_15 b'_16)) → Lf ((0 : Int) ≤ (4 : Int) ∧ (4
 : Int) ≤ (4 : Int) ∧ okH [Blk.mk BK.exact true [.int .i64 0, .int .i64 0, .int .i64 0, .int .i64 0, .int .i64 0, .int .i64 0, .int .i64 0, .int .i64 0, .nils, .nils, .int .i64 0, .int .i64 0, .nils], Blk.mk BK.exact true [.int .i64 2, .int
 .i64 n_0, .int .i64 0, .int .i64 0, .int .i64 0, .int .i64 0, .int .i64 0, .int .i64 0, .nils, .nils, .int .i64 0, .int .i64 0, .nils, .str l'_15, .bool b'_16], Blk.mk BK.exact true [.int .i64 n_4, .int .i64 n_7, .int .i64 n_13, .int .i64
 0, .int .i64 0, .int .i64 0, .int .i64 0]]) ∧ ∀ n_17 : Int, ∀ l'_18 : List UInt8, ∀ b'_19 : Bool, Lf (tkM (Int.toNat 4) l'_15 b'_16 = Prod.mk n_17 (Prod.mk l'_18 b'_19)) → Lf ((0 : Int) ≤ (4 : Int) ∧ (4 : Int) ≤ (4 : Int) ∧ okH [Blk.mk
 BK.exact true [.int .i64 0, .int .i64 0, .int .i64 0, .int .i64 0, .int .i64 0, .int .i64 0, .int .i64 0, .int .i64 0, .nils, .nils, .int .i64 0, .int .i64 0, .nils], Blk.mk BK.exact true [.int .i64 2, .int .i64 n_0, .int .i64 0, .int .i64
 0, .int .i64 0, .int .i64 0, .int .i64 0, .int .i64 0, .nils, .nils, .int .i64 0, .int .i64 0, .nils, .str l'_18, .bool b'_19], Blk.mk BK.exact true [.int .i64 n_4, .int .i64 n_7, .int .i64 n_13, .int .i64 0, .int .i64 0, .int .i64 0, .int
 .i64 0]]) ∧ ∀ n_20 : Int, ∀ l'_21 : List UInt8, ∀ b'_22 : Bool, Lf (tkM (Int.toNat 4) l'_18 b'_19 = Prod.mk n_20 (Prod.mk l'_21 b'_22)) → Lf ((0 : Int) ≤ (4 : Int) ∧ (4 : Int) ≤ (4 : Int) ∧ okH [Blk.mk BK.exact true [.int .i64 0, .int .i64
 0, .int .i64 0, .int .i64 0, .int .i64 0, .int .i64 0, .int .i64 0, .int .i64 0, .nils, .nils, .int .i64 0, .int .i64 0, .nils], Blk.mk BK.exact true [.int .i64 2, .int .i64 n_0, .int .i64 0, .int .i64 0, .int .i64 0, .int .i64 0, .int
 .i64 0, .int .i64 0, .nils, .nils, .int .i64 0, .int .i64 0, .nils, .str l'_21, .bool b'_22], Blk.mk BK.exact true [.int .i64 n_4, .int .i64 n_7, .int .i64 n_13, .int .i64 0, .int .i64 0, .int .i64 0, .int .i64 0]]) ∧ ∀ n_23 : Int, ∀ l'_24
 : List UInt8, ∀ b'_25 : Bool, Lf (tkM (Int.toNat 4) l'_21 b'_22 = Prod.mk n_23 (Prod.mk l'_24 b'_25)) → exW .i64 ((x_3 : Int) + 1) fun n_26 => (True ∧ (0 : Nat) = (0 : Nat)) ∧ (vc_38b_2 c ∨ ∃ y_27 : Nat × List Rc × List UInt8 × Bool × List
 AV × List AV, Lf (1 ≤ y_27.1 ∧ y_27.1 ≤ (c : Int).toNat ∧ rgoM (c : Int).toNat l'_1 b'_2 y_27.1 y_27.2.1 y_27.2.2.1 y_27.2.2.2.1 ∧ flatL y_27.2.2.2.2.1 ∧ flatL y_27.2.2.2.2.2) ∧ (c : Int).toNat - y_27.1 < (c : Int).toNat + 1 ∧ eqqQ [AV.int
 .i64 0, .int .i64 0, .int .i64 0, .int .i64 0, .int .i64 0, .int .i64 0, .int .i64 0, .int .i64 0, .nils, .nils, .int .i64 0, .int .i64 0, .nils] ∧ [AV.int .i64 2, .int .i64 n_0, .int .i64 0, .int .i64 0, .int .i64 0, .int .i64 0, .int
 .i64 0, .int .i64 0, .sl 4 7 0 1 7, .nils, .int .i64 0, .int .i64 0, .nils, .str l'_24, .bool b'_25] = [AV.int .i64 2, .int .i64 n_0, .int .i64 0, .int .i64 0, .int .i64 0, .int .i64 0, .int .i64 0, .int .i64 0, .sl 4 (7 * y_27.2.1.length)
 0 y_27.2.1.length 7, .nils, .int .i64 0, .int .i64 0, .nils, .str y_27.2.2.1, .bool y_27.2.2.2.1] ∧ [AV.int .i64 n_4, .int .i64 n_7, .int .i64 n_13, .int .i64 n_14, .int .i64 n_17, .int .i64 n_20, .int .i64 n_23] = y_27.2.2.2.2.1 ∧ [AV.int
 .i64 n_4, .int .i64 n_7, .int .i64 n_13, .int .i64 n_14, .int .i64 n_17, .int .i64 n_20, .int .i64 n_23] = y_27.2.2.2.2.2 ∧ [AV.int .i64 n_4, .int .i64 n_7, .int .i64 n_13, .int .i64 n_14, .int .i64 n_17, .int .i64 n_20, .int .i64 n_23] =
 cellsRM y_27.2.1 ∧ eqqQ (AV.ptr 1 15 0) ∧ eqqQ (AV.int .i64 (c : Int)) ∧ AV.int .i64 n_26 = AV.int .i64 (y_27.1 : Int) ∧ True)
abbrev q4XN_38b_2 (Q : Out → List Blk → Gh → Prop) (n_0 : Int) (x_3 : Nat × List Rc × List UInt8 × Bool × List AV × List AV) : Prop :=
Q (.ret (.tup [.agg [.int .i64 2, .int .i64 n_0, .int .i64 0, .int .i64 0, .int .i64 0, .int .i64 0, .int .i64 0, .int .i64 0, .sl 4 (7 * x_3.2.1.length) 0 x_3.2.1.length 7, .nils, .int .i64 0, .int .i64 0, .nils], .bool false])) [Blk.mk
 BK.exact false [.int .i64 2, .int .i64 n_0, .int .i64 0, .int .i64 0, .int .i64 0, .int .i64 0, .int .i64 0, .int .i64 0, .sl 4 (7 * x_3.2.1.length) 0 x_3.2.1.length 7, .nils, .int .i64 0, .int .i64 0, .nils], Blk.mk BK.exact false [.int
 .i64 2, .int .i64 n_0, .int .i64 0, .int .i64 0, .int .i64 0, .int .i64 0, .int .i64 0, .int .i64 0, .sl 4 (7 * x_3.2.1.length) 0 x_3.2.1.length 7, .nils, .int .i64 0, .int .i64 0, .nils, .str x_3.2.2.1, .bool x_3.2.2.2.1], Blk.mk BK.exact
 true x_3.2.2.2.2.1, Blk.mk BK.exact true x_3.2.2.2.2.2, Blk.mk BK.grow true (cellsRM x_3.2.1)] {}
theorem vc_38b (c : Nat) (s : List UInt8) (Q : Out → List Blk → Gh → Prop) : goal_38b (lookV [(241685, .int .i64), (241711, .int .i64)]) (lookB []) c s Q = (Lf ((0 : Int) ≤ (4 : Int) ∧ (4 : Int) ≤ (4 : Int) ∧ okH [Blk.mk BK.exact true [.int
 .i64 0, .int .i64 0, .int .i64 0, .int .i64 0, .int .i64 0, .int .i64 0, .int .i64 0, .int .i64 0, .nils, .nils, .int .i64 0, .int .i64 0, .nils], Blk.mk BK.exact true [.int .i64 0, .int .i64 0, .int .i64 0, .int .i64 0, .int .i64 0, .int
 .i64 0, .int .i64 0, .int .i64 0, .nils, .nils, .int .i64 0, .int .i64 0, .nils, .str s, .bool false]]) ∧ ∀ n_0 : Int, ∀ l'_1 : List UInt8, ∀ b'_2 : Bool, Lf (tkM (Int.toNat 4) s false = Prod.mk n_0 (Prod.mk l'_1 b'_2)) → ((∃ x_3 : Nat, Lf
 (x_3 = 0) ∧ eqqQ [AV.int .i64 0, .int .i64 0, .int .i64 0, .int .i64 0, .int .i64 0, .int .i64 0, .int .i64 0, .int .i64 0, .nils, .nils, .int .i64 0, .int .i64 0, .nils] ∧ eqqQ [AV.int .i64 2, .int .i64 n_0, .int .i64 0, .int .i64 0, .int
 .i64 0, .int .i64 0, .int .i64 0, .int .i64 0, .nils, .nils, .int .i64 0, .int .i64 0, .nils, .str l'_1, .bool b'_2] ∧ eqqQ (AV.ptr 1 15 0) ∧ eqqQ (AV.int .i64 (c : Int)) ∧ AV.int .i64 0 = AV.int .i64 (x_3 : Int) ∧ True) ∨ ∃ x_3 : Nat ×
 List Rc × List UInt8 × Bool × List AV × List AV, Lf (1 ≤ x_3.1 ∧ x_3.1 ≤ (c : Int).toNat ∧ rgoM (c : Int).toNat l'_1 b'_2 x_3.1 x_3.2.1 x_3.2.2.1 x_3.2.2.2.1 ∧ flatL x_3.2.2.2.2.1 ∧ flatL x_3.2.2.2.2.2) ∧ vc_38b_1) ∧ (∀ x_3 : Nat, Lf (x_3
 = 0) → bif decide ((x_3 : Int) < (c : Int)) then Lf ((0 : Int) ≤ (4 : Int) ∧ (4 : Int) ≤ (4 : Int) ∧ okH [Blk.mk BK.exact true [.int .i64 0, .int .i64 0, .int .i64 0, .int .i64 0, .int .i64 0, .int .i64 0, .int .i64 0, .int .i64 0, .nils,
 .nils, .int .i64 0, .int .i64 0, .nils], Blk.mk BK.exact true [.int .i64 2, .int .i64 n_0, .int .i64 0, .int .i64 0, .int .i64 0, .int .i64 0, .int .i64 0, .int .i64 0, .nils, .nils, .int .i64 0, .int .i64 0, .nils, .str l'_1, .bool
 b'_2]]) ∧ ∀ n_4 : Int, ∀ l'_5 : List UInt8, ∀ b'_6 : Bool, Lf (tkM (Int.toNat 4) l'_1 b'_2 = Prod.mk n_4 (Prod.mk l'_5 b'_6)) → Lf ((0 : Int) ≤ (1 : Int) ∧ (1 : Int) ≤ (4 : Int) ∧ okH [Blk.mk BK.exact true [.int .i64 0, .int .i64 0, .int
 .i64 0, .int .i64 0, .int .i64 0, .int .i64 0, .int .i64 0, .int .i64 0, .nils, .nils, .int .i64 0, .int .i64 0, .nils], Blk.mk BK.exact true [.int .i64 2, .int .i64 n_0, .int .i64 0, .int .i64 0, .int .i64 0, .int .i64 0, .int .i64 0,
 .int .i64 0, .nils, .nils, .int .i64 0, .int .i64 0, .nils, .str l'_5, .bool b'_6]]) ∧ ∀ n_7 : Int, ∀ l'_8 : List UInt8, ∀ b'_9 : Bool, Lf (tkM (Int.toNat 1) l'_5 b'_6 = Prod.mk n_7 (Prod.mk l'_8 b'_9)) → Lf ((0 : Int) ≤ (3 : Int) ∧ (3 :
 Int) ≤ (4 : Int) ∧ okH [Blk.mk BK.exact true [.int .i64 0, .int .i64 0, .int .i64 0, .int .i64 0, .int .i64 0, .int .i64 0, .int .i64 0, .int .i64 0, .nils, .nils, .int .i64 0, .int .i64 0, .nils], Blk.mk BK.exact true [.int .i64 2, .int
 .i64 n_0, .int .i64 0, .int .i64 0, .int .i64 0, .int .i64 0, .int .i64 0, .int .i64 0, .nils, .nils, .int .i64 0, .int .i64 0, .nils, .str l'_8, .bool b'_9], Blk.mk BK.exact true [.int .i64 n_4, .int .i64 n_7, .int .i64 0, .int .i64 0,
 .int .i64 0, .int .i64 0, .int .i64 0]]) ∧ ∀ n_10 : Int, ∀ l'_11 : List UInt8, ∀ b'_12 : Bool, Lf (tkM (Int.toNat 3) l'_8 b'_9 = Prod.mk n_10 (Prod.mk l'_11 b'_12)) → bif decide (n_10 ≥ 8388608) then exW .i64 (n_10 - 16777216) (fun n_13 =>
 q4XN_38b_1 n_0 l'_11 b'_12 n_4 n_7 n_13 x_3 c l'_1 b'_2) else q4XN_38b_1 n_0 l'_11 b'_12 n_4 n_7 n_10 x_3 c l'_1 b'_2 else bif b'_2 then Q (.ret (.tup [.agg [.int .i64 2, .int .i64 n_0, .int .i64 0, .int .i64 0, .int .i64 0, .int .i64 0,
 .int .i64 0, .int .i64 0, .nils, .nils, .int .i64 0, .int .i64 0, .nils], .bool false])) [] {} else bif eqB l'_1 [] then ckQ (eqAVL [.str l'_1] [.str l'_1] && true) (Q (.ret (.tup [.agg [.int .i64 2, .int .i64 n_0, .int .i64 0, .int .i64
 0, .int .i64 0, .int .i64 0, .int .i64 0, .int .i64 0, .nils, .nils, .int .i64 0, .int .i64 0, .nils], .bool true])) [] {}) else ckQ (eqAVL [.str l'_1] [.str l'_1] && true) (Q (.ret (.tup [.agg [.int .i64 2, .int .i64 n_0, .int .i64 0,
 .int .i64 0, .int .i64 0, .int .i64 0, .int .i64 0, .int .i64 0, .nils, .nils, .int .i64 0, .int .i64 0, .nils], .bool false])) [] {})) ∧ ∀ x_3 : Nat × List Rc × List UInt8 × Bool × List AV × List AV, Lf (1 ≤ x_3.1 ∧ x_3.1 ≤ (c :
 Int).toNat ∧ rgoM (c : Int).toNat l'_1 b'_2 x_3.1 x_3.2.1 x_3.2.2.1 x_3.2.2.2.1 ∧ flatL x_3.2.2.2.2.1 ∧ flatL x_3.2.2.2.2.2) → bif decide ((x_3.1 : Int) < (c : Int)) then Lf ((0 : Int) ≤ (4 : Int) ∧ (4 : Int) ≤ (4 : Int) ∧ okH [Blk.mk
 BK.exact true [.int .i64 0, .int .i64 0, .int .i64 0, .int .i64 0, .int .i64 0, .int .i64 0, .int .i64 0, .int .i64 0, .nils, .nils, .int .i64 0, .int .i64 0, .nils], Blk.mk BK.exact false [.int .i64 2, .int .i64 n_0, .int .i64 0, .int
 .i64 0, .int .i64 0, .int .i64 0, .int .i64 0, .int .i64 0, .sl 4 (7 * x_3.2.1.length) 0 x_3.2.1.length 7, .nils, .int .i64 0, .int .i64 0, .nils, .str x_3.2.2.1, .bool x_3.2.2.2.1], Blk.mk BK.exact true x_3.2.2.2.2.1, Blk.mk BK.exact true
 x_3.2.2.2.2.2, Blk.mk BK.grow true (cellsRM x_3.2.1)]) ∧ ∀ n_4 : Int, ∀ l'_5 : List UInt8, ∀ b'_6 : Bool, Lf (tkM (Int.toNat 4) x_3.2.2.1 x_3.2.2.2.1 = Prod.mk n_4 (Prod.mk l'_5 b'_6)) → Lf ((0 : Int) ≤ (1 : Int) ∧ (1 : Int) ≤ (4 : Int) ∧
 okH [Blk.mk BK.exact true [.int .i64 0, .int .i64 0, .int .i64 0, .int .i64 0, .int .i64 0, .int .i64 0, .int .i64 0, .int .i64 0, .nils, .nils, .int .i64 0, .int .i64 0, .nils], Blk.mk BK.exact false [.int .i64 2, .int .i64 n_0, .int .i64
 0, .int .i64 0, .int .i64 0, .int .i64 0, .int .i64 0, .int .i64 0, .sl 4 (7 * x_3.2.1.length) 0 x_3.2.1.length 7, .nils, .int .i64 0, .int .i64 0, .nils, .str l'_5, .bool b'_6], Blk.mk BK.exact true x_3.2.2.2.2.1, Blk.mk BK.exact true
 x_3.2.2.2.2.2, Blk.mk BK.grow true (cellsRM x_3.2.1)]) ∧ ∀ n_7 : Int, ∀ l'_8 : List UInt8, ∀ b'_9 : Bool, Lf (tkM (Int.toNat 1) l'_5 b'_6 = Prod.mk n_7 (Prod.mk l'_8 b'_9)) → Lf ((0 : Int) ≤ (3 : Int) ∧ (3 : Int) ≤ (4 : Int) ∧ okH [Blk.mk
 BK.exact true [.int .i64 0, .int .i64 0, .int .i64 0, .int .i64 0, .int .i64 0, .int .i64 0, .int .i64 0, .int .i64 0, .nils, .nils, .int .i64 0, .int .i64 0, .nils], Blk.mk BK.exact false [.int .i64 2, .int .i64 n_0, .int .i64 0, .int
 .i64 0, .int .i64 0, .int .i64 0, .int .i64 0, .int .i64 0, .sl 4 (7 * x_3.2.1.length) 0 x_3.2.1.length 7, .nils, .int .i64 0, .int .i64 0, .nils, .str l'_8, .bool b'_9], Blk.mk BK.exact true x_3.2.2.2.2.1, Blk.mk BK.exact true
 x_3.2.2.2.2.2, Blk.mk BK.grow true (cellsRM x_3.2.1), Blk.mk BK.exact true [.int .i64 n_4, .int .i64 n_7, .int .i64 0, .int .i64 0, .int .i64 0, .int .i64 0, .int .i64 0]]) ∧ ∀ n_10 : Int, ∀ l'_11 : List UInt8, ∀ b'_12 : Bool, Lf (tkM
 (Int.toNat 3) l'_8 b'_9 = Prod.mk n_10 (Prod.mk l'_11 b'_12)) → bif decide (n_10 ≥ 8388608) then exW .i64 (n_10 - 16777216) (fun n_13 => q4XN_38b_0 n_0 x_3 l'_11 b'_12 n_4 n_7 n_13 c l'_1 b'_2) else q4XN_38b_0 n_0 x_3 l'_11 b'_12 n_4 n_7
 n_10 c l'_1 b'_2 else bif x_3.2.2.2.1 then q4XN_38b_2 Q n_0 x_3 else bif eqB x_3.2.2.1 [] then ckQ (eqAVL [.str x_3.2.2.1] [.str x_3.2.2.1] && true) (Q (.ret (.tup [.agg [.int .i64 2, .int .i64 n_0, .int .i64 0, .int .i64 0, .int .i64 0,
 .int .i64 0, .int .i64 0, .int .i64 0, .sl 4 (7 * x_3.2.1.length) 0 x_3.2.1.length 7, .nils, .int .i64 0, .int .i64 0, .nils], .bool true])) [Blk.mk BK.exact false [.int .i64 2, .int .i64 n_0, .int .i64 0, .int .i64 0, .int .i64 0, .int
 .i64 0, .int .i64 0, .int .i64 0, .sl 4 (7 * x_3.2.1.length) 0 x_3.2.1.length 7, .nils, .int .i64 0, .int .i64 0, .nils], Blk.mk BK.exact false [.int .i64 2, .int .i64 n_0, .int .i64 0, .int .i64 0, .int .i64 0, .int .i64 0, .int .i64 0,
 .int .i64 0, .sl 4 (7 * x_3.2.1.length) 0 x_3.2.1.length 7, .nils, .int .i64 0, .int .i64 0, .nils, .str x_3.2.2.1, .bool x_3.2.2.2.1], Blk.mk BK.exact true x_3.2.2.2.2.1, Blk.mk BK.exact true x_3.2.2.2.2.2, Blk.mk BK.grow true (cellsRM
 x_3.2.1)] {}) else ckQ (eqAVL [.str x_3.2.2.1] [.str x_3.2.2.1] && true) (q4XN_38b_2 Q n_0 x_3)) := by kernel_rfl

noncomputable def goal_38a (hv : Nat → Option Pa) (hb : Nat → Option Bool) (c : Nat) (s : List UInt8) (Q : Out → List Blk → Gh → Prop) : Prop := go38 hv hb 200 (c : Int) s Q
def vc_38a_1 : Prop := (
((((AV.int .i64 (0 : Int)) :: ((AV.int .i64 (0 : Int)) :: ((AV.int .i64 (0 : Int)) :: ((AV.int .i64 (0 : Int)) :: ((AV.int .i64 (0 : Int)) :: ((AV.int .i64 (0 : Int)) :: ((AV.int .i64 (0 : Int)) :: ((AV.int .i64 (0 : Int)) :: (AV.nils :: (AV.nils :: ((AV.int .i64 (0 : Int)) :: ((AV.int .i64 (0 : Int)) :: (AV.nils :: []))))))))))))) = ((AV.int .i64 (0 : Int)) :: ((AV.int .i64 (0 : Int)) :: ((AV.int .i64 (0 : Int)) :: ((AV.int .i64 (0 : Int)) :: ((AV.int .i64 (0 : Int)) :: ((AV.int .i64 (0 : Int)) :: ((AV.int .i64 (0 : Int)) :: ((AV.int .i64 (0 : Int)) :: (AV.nils :: (AV.nils :: ((AV.int .i64 (0 : Int)) :: ((AV.int .i64 (0 : Int)) :: (AV.nils :: [])))))))))))))) ∧
 False))
def vc_38a_2 (c : Nat) : Prop := (
(∃ y_0 : Nat, ((Lf (y_0 = (0 : Nat))) ∧
 ((((Int.toNat (Nat.cast c : Int)) + (1 : Nat)) < ((Int.toNat (Nat.cast c : Int)) + (1 : Nat))) ∧
 vc_38a_1))))
abbrev q4XN_38a_0 (n_0 : Int) (n_3 : Int) (n_6 : Int) (n_9 : Int) (n_12 : Int) (n_15 : Int) (x_18 : Nat × List Rc × List UInt8 × Bool × List AV × List AV) (l'_26 : List UInt8) (b'_27 : Bool) (n_19 : Int) (n_22 : Int) (n_28 : Int) (c : Nat) (l'_16 : List UInt8) (b'_17 : Bool) : Prop :=
Lf ((0 : Int) ≤ (4 : Int) ∧ (4 : Int) ≤ (4 : Int) ∧ okH [Blk.mk BK.exact true [.int .i64 0, .int .i64 0, .int .i64 0, .int .i64 0, .int .i64 0, .int .i64 0, .int .i64 0, .int .i64 0, .nils, .nils, .int .i64 0, .int .i64 0, .nils], Blk.mk
 BK.exact false [.int .i64 1, .int .i64 n_0, .int .i64 0, .int .i64 n_3, .int .i64 n_6, .int .i64 n_9, .int .i64 n_12, .int .i64 n_15, .sl 4 (7 * x_18.2.1.length) 0 x_18.2.1.length 7, .nils, .int .i64 0, .int .i64 0, .nils, .str l'_26,
 .bool b'_27], Blk.mk BK.exact true x_18.2.2.2.2.1, Blk.mk BK.exact true x_18.2.2.2.2.2, Blk.mk BK.grow true (cellsRM x_18.2.1), Blk.mk BK.exact true [.int .i64 n_19, .int .i64 n_22, .int .i64 n_28, .int .i64 0, .int .i64 0, .int .i64 0,
 .int .i64 0]]) ∧ ∀ n_29 : Int, ∀ l'_30 : List UInt8, ∀ b'_31 : Bool, Lf (tkM (Int.toNat 4) l'_26 b'_27 = Prod.mk n_29 (Prod.mk l'_30 b'_31)) → Lf ((0 : Int) ≤ (4 : Int) ∧ (4 : Int) ≤ (4 : Int) ∧ okH [Blk.mk BK.exact true [.int .i64 0, .int
 .i64 0, .int .i64 0, .int .i64 0, .int .i64 0, .int .i64 0, .int .i64 0, .int .i64 0, .nils, .nils, .int .i64 0, .int .i64 0, .nils], Blk.mk BK.exact false [.int .i64 1, .int .i64 n_0, .int .i64 0, .int .i64 n_3, .int .i64 n_6, .int .i64
 n_9, .int .i64 n_12, .int .i64 n_15, .sl 4 (7 * x_18.2.1.length) 0 x_18.2.1.length 7, .nils, .int .i64 0, .int .i64 0, .nils, .str l'_30, .bool b'_31], Blk.mk BK.exact true x_18.2.2.2.2.1, Blk.mk BK.exact true x_18.2.2.2.2.2, Blk.mk
 BK.grow true (cellsRM x_18.2.1), Blk.mk BK.exact true [.int .i64 n_19, .int .i64 n_22, .int .i64 n_28, .int .i64 0, .int .i64 0, .int .i64 0, .int .i64 0]]) ∧ ∀ n_32 : Int, ∀ l'_33 : List UInt8, ∀ b'_34 : Bool, Lf (tkM (Int.toNat 4) l'_30
 b'_31 = Prod.mk n_32 (Prod.mk l'_33 b'_34)) → Lf ((0 : Int) ≤ (4 : Int) ∧ (4 : Int) ≤ (4 : Int) ∧ okH [Blk.mk BK.exact true [.int .i64 0, .int .i64 0, .int .i64 0, .int .i64 0, .int .i64 0, .int .i64 0, .int .i64 0, .int .i64 0, .nils,
 .nils, .int .i64 0, .int .i64 0, .nils], Blk.mk BK.exact false [.int .i64 1, .int .i64 n_0, .int .i64 0, .int .i64 n_3, .int .i64 n_6, .int .i64 n_9, .int .i64 n_12, .int .i64 n_15, .sl 4 (7 * x_18.2.1.length) 0 x_18.2.1.length 7, .nils,
 .int .i64 0, .int .i64 0, .nils, .str l'_33, .bool b'_34], Blk.mk BK.exact true x_18.2.2.2.2.1, Blk.mk BK.exact true x_18.2.2.2.2.2, Blk.mk BK.grow true (cellsRM x_18.2.1), Blk.mk BK.exact true [.int .i64 n_19, .int .i64 n_22, .int .i64
 n_28, .int .i64 0, .int .i64 0, .int .i64 0, .int .i64 0]]) ∧ ∀ n_35 : Int, ∀ l'_36 : List UInt8, ∀ b'_37 : Bool, Lf (tkM (Int.toNat 4) l'_33 b'_34 = Prod.mk n_35 (Prod.mk l'_36 b'_37)) → Lf ((0 : Int) ≤ (4 : Int) ∧ (4 : Int) ≤ (4 : Int) ∧
 okH [Blk.mk BK.exact true [.int .i64 0, .int .i64 0, .int .i64 0, .int .i64 0, .int .i64 0, .int .i64 0, .int .i64 0, .int .i64 0, .nils, .nils, .int .i64 0, .int .i64 0, .nils], Blk.mk BK.exact false [.int .i64 1, .int .i64 n_0, .int .i64
 0, .int .i64 n_3, .int .i64 n_6, .int .i64 n_9, .int .i64 n_12, .int .i64 n_15, .sl 4 (7 * x_18.2.1.length) 0 x_18.2.1.length 7, .nils, .int .i64 0, .int .i64 0, .nils, .str l'_36, .bool b'_37], Blk.mk BK.exact true x_18.2.2.2.2.1, Blk.mk
 BK.exact true x_18.2.2.2.2.2, Blk.mk BK.grow true (cellsRM x_18.2.1), Blk.mk BK.exact true [.int .i64 n_19, .int .i64 n_22, .int .i64 n_28, .int .i64 0, .int .i64 0, .int .i64 0, .int .i64 0]]) ∧ ∀ n_38 : Int, ∀ l'_39 : List UInt8, ∀ b'_40
 : Bool, Lf (tkM (Int.toNat 4) l'_36 b'_37 = Prod.mk n_38 (Prod.mk l'_39 b'_40)) → ckQ (Nat.beq (cellsRM x_18.2.1).length (7 * x_18.2.1.length) && true && Nat.beq (0 + x_18.2.1.length * 7) (7 * x_18.2.1.length) && Nat.ble (x_18.2.1.length +
 1) 1099511627776 && Nat.ble ((x_18.2.1.length + 1) * 56) 1099511627776) (exW .i64 ((x_18.1 : Int) + 1) fun n_41 => (True ∧ (0 : Nat) = (0 : Nat)) ∧ ((∃ y_42 : Nat, Lf (y_42 = 0) ∧ (c : Int).toNat + 1 < (c : Int).toNat - x_18.1 ∧ vc_38a_1)
 ∨ ∃ y_42 : Nat × List Rc × List UInt8 × Bool × List AV × List AV, Lf (1 ≤ y_42.1 ∧ y_42.1 ≤ (c : Int).toNat ∧ rgoM (c : Int).toNat l'_16 b'_17 y_42.1 y_42.2.1 y_42.2.2.1 y_42.2.2.2.1 ∧ flatL y_42.2.2.2.2.1 ∧ flatL y_42.2.2.2.2.2) ∧ (c :
 Int).toNat - y_42.1 < (c : Int).toNat - x_18.1 ∧ eqqQ [AV.int .i64 0, .int .i64 0, .int .i64 0, .int .i64 0, .int .i64 0, .int .i64 0, .int .i64 0, .int .i64 0, .nils, .nils, .int .i64 0, .int .i64 0, .nils] ∧ [AV.int .i64 1, .int .i64
 n_0, .int .i64 0, .int .i64 n_3, .int .i64 n_6, .int .i64 n_9, .int .i64 n_12, .int .i64 n_15, .sl 4 (7 * x_18.2.1.length + 7) 0 (x_18.2.1.length + 1) 7, .nils, .int .i64 0, .int .i64 0, .nils, .str l'_39, .bool b'_40] = [AV.int .i64 1,
 .int .i64 n_0, .int .i64 0, .int .i64 n_3, .int .i64 n_6, .int .i64 n_9, .int .i64 n_12, .int .i64 n_15, .sl 4 (7 * y_42.2.1.length) 0 y_42.2.1.length 7, .nils, .int .i64 0, .int .i64 0, .nils, .str y_42.2.2.1, .bool y_42.2.2.2.1] ∧
 x_18.2.2.2.2.1 = y_42.2.2.2.2.1 ∧ x_18.2.2.2.2.2 = y_42.2.2.2.2.2 ∧ cellsRM x_18.2.1 ++ [AV.int .i64 n_19, .int .i64 n_22, .int .i64 n_28, .int .i64 n_29, .int .i64 n_32, .int .i64 n_35, .int .i64 n_38] = cellsRM y_42.2.1 ∧ eqqQ (AV.ptr 1
 15 0) ∧ eqqQ (AV.int .i64 (c : Int)) ∧ AV.int .i64 n_41 = AV.int .i64 (y_42.1 : Int) ∧ True))
abbrev q4XN_38a_1 (n_0 : Int) (n_3 : Int) (n_6 : Int) (n_9 : Int) (n_12 : Int) (n_15 : Int) (l'_26 : List UInt8) (b'_27 : Bool) (n_19 : Int) (n_22 : Int) (n_28 : Int) (x_18 : Nat) (c : Nat) (l'_16 : List UInt8) (b'_17 : Bool) : Prop :=
Lf ((0 : Int) ≤ (4 : Int) ∧ (4 : Int) ≤ (4 : Int) ∧ okH [Blk.mk BK.exact true [.int .i64 0, .int .i64 0, .int .i64 0, .int .i64 0, .int .i64 0, .int .i64 0, .int .i64 0, .int .i64 0, .nils, .nils, .int .i64 0, .int .i64 0, .nils], Blk.mk
 BK.exact true [.int .i64 1, .int .i64 n_0, .int .i64 0, .int .i64 n_3, .int .i64 n_6, .int .i64 n_9, .int .i64 n_12, .int .i64 n_15, .nils, .nils, .int .i64 0, .int .i64 0, .nils, .str l'_26, .bool b'_27], Blk.mk BK.exact true [.int .i64
 n_19, .int .i64 n_22, .int .i64 n_28, .int .i64 0, .int .i64 0, .int .i64 0, .int .i64 0]]) ∧ ∀ n_29 : Int, ∀ l'_30 : List UInt8, ∀ b'_31 : Bool, Lf (tkM (Int.toNat 4) l'_26 b'_27 = Prod.mk n_29 (Prod.mk l'_30 b'_31)) → Lf ((0 : Int) ≤ (4
 : Int) ∧ (4 : Int) ≤ (4 : Int) ∧ okH [Blk.mk BK.exact true [.int .i64 0, .int .i64 0, .int .i64 0, .int .i64 0, .int .i64 0, .int .i64 0, .int .i64 0, .int .i64 0, .nils, .nils, .int .i64 0, .int .i64 0, .nils], Blk.mk BK.exact true [.int
 .i64 1, .int .i64 n_0, .int .i64 0, .int .i64 n_3, .int .i64 n_6, .int .i64 n_9, .int .i64 n_12, .int .i64 n_15, .nils, .nils, .int .i64 0, .int .i64 0, .nils, .str l'_30, .bool b'_31], Blk.mk BK.exact true [.int .i64 n_19, .int .i64 n_22,
 .int .i64 n_28, .int .i64 0, .int .i64 0, .int .i64 0, .int .i64 0]]) ∧ ∀ n_32 : Int, ∀ l'_33 : List UInt8, ∀ b'_34 : Bool, Lf (tkM (Int.toNat 4) l'_30 b'_31 = Prod.mk n_32 (Prod.mk l'_33 b'_34)) → Lf ((0 : Int) ≤ (4 : Int) ∧ (4 : Int) ≤
 (4 : Int) ∧ okH [Blk.mk BK.exact true [.int .i64 0, .int .i64 0, .int .i64 0, .int .i64 0, .int .i64 0, .int .i64 0, .int .i64 0, .int .i64 0, .nils, .nils, .int .i64 0, .int .i64 0, .nils], Blk.mk BK.exact true [.int .i64 1, .int .i64
 n_0, .int .i64 0, .int .i64 n_3, .int .i64 n_6, .int .i64 n_9, .int .i64 n_12, .int .i64 n_15, .nils, .nils, .int .i64 0, .int .i64 0, .nils, .str l'_33, .bool b'_34], Blk.mk BK.exact true [.int .i64 n_19, .int .i64 n_22, .int .i64 n_28,
 .int .i64 0, .int .i64 0, .int .i64 0, .int .i64 0]]) ∧ ∀ n_35 : Int, ∀ l'_36 : List UInt8, ∀ b'_37 : Bool, Lf (tkM (Int.toNat 4) l'_33 b'_34 = Prod.mk n_35 (Prod.mk l'_36 b'_37)) → Lf ((0 : Int) ≤ (4 : Int) ∧ (4 : Int) ≤ (4 : Int) ∧ okH
 [Blk.mk BK.exact true [.int .i64 0, .int .i64 0, .int .i64 0, .int .i64 0, .int .i64 0, .int .i64 0, .int .i64 0, .int .i64 0, .nils, .nils, .int .i64 0, .int .i64 0, .nils], Blk.mk BK.exact true [.int .i64 1, .int .i64 n_0, .int .i64 0,
 .int .i64 n_3, .int .i64 n_6, .int .i64 n_9, .int .i64 n_12, .int .i64 n_15, .nils, .nils, .int .i64 0, .int .i64 0, .nils, .str l'_36, .bool b'_37], Blk.mk BK.exact true [.int .i64 n_19, .int .i64 n_22, .int .i64 n_28, .int .i64 0, .int
 .i64 0, .int .i64 0, .int .i64 0]]) ∧ ∀ n_38 : Int, ∀ l'_39 : List UInt8, ∀ b'_40 : Bool, Lf (tkM (Int.toNat 4) l'_36 b'_37 = Prod.mk n_38 (Prod.mk l'_39 b'_40)) → exW .i64 ((x_18 : Int) + 1) fun n_41 => (True ∧ (0 : Nat) = (0 : Nat)) ∧
 (vc_38a_2 c ∨ ∃ y_42 : Nat × List Rc × List UInt8 × Bool × List AV × List AV, Lf (1 ≤ y_42.1 ∧ y_42.1 ≤ (c : Int).toNat ∧ rgoM (c : Int).toNat l'_16 b'_17 y_42.1 y_42.2.1 y_42.2.2.1 y_42.2.2.2.1 ∧ flatL y_42.2.2.2.2.1 ∧ flatL
 y_42.2.2.2.2.2) ∧ (c : Int).toNat - y_42.1 < (c : Int).toNat + 1 ∧ eqqQ [AV.int .i64 0, .int .i64 0, .int .i64 0, .int .i64 0, .int .i64 0, .int .i64 0, .int .i64 0, .int .i64 0, .nils, .nils, .int .i64 0, .int .i64 0, .nils] ∧ [AV.int
 .i64 1, .int .i64 n_0, .int .i64 0, .int .i64 n_3, .int .i64 n_6, .int .i64 n_9, .int .i64 n_12, .int .i64 n_15, .sl 4 7 0 1 7, .nils, .int .i64 0, .int .i64 0, .nils, .str l'_39, .bool b'_40] = [AV.int .i64 1, .int .i64 n_0, .int .i64 0,
 .int .i64 n_3, .int .i64 n_6, .int .i64 n_9, .int .i64 n_12, .int .i64 n_15, .sl 4 (7 * y_42.2.1.length) 0 y_42.2.1.length 7, .nils, .int .i64 0, .int .i64 0, .nils, .str y_42.2.2.1, .bool y_42.2.2.2.1] ∧ [AV.int .i64 n_19, .int .i64 n_22,
 .int .i64 n_28, .int .i64 n_29, .int .i64 n_32, .int .i64 n_35, .int .i64 n_38] = y_42.2.2.2.2.1 ∧ [AV.int .i64 n_19, .int .i64 n_22, .int .i64 n_28, .int .i64 n_29, .int .i64 n_32, .int .i64 n_35, .int .i64 n_38] = y_42.2.2.2.2.2 ∧
 [AV.int .i64 n_19, .int .i64 n_22, .int .i64 n_28, .int .i64 n_29, .int .i64 n_32, .int .i64 n_35, .int .i64 n_38] = cellsRM y_42.2.1 ∧ eqqQ (AV.ptr 1 15 0) ∧ eqqQ (AV.int .i64 (c : Int)) ∧ AV.int .i64 n_41 = AV.int .i64 (y_42.1 : Int) ∧
 True)
abbrev q4XN_38a_2 (n_0 : Int) (l'_1 : List UInt8) (b'_2 : Bool) : Prop :=
Lf ((0 : Int) ≤ (4 : Int) ∧ (4 : Int) ≤ (4 : Int) ∧ okH [Blk.mk BK.exact true [.int .i64 0, .int .i64 0, .int .i64 0, .int .i64 0, .int .i64 0, .int .i64 0, .int .i64 0, .int .i64 0, .nils, .nils, .int .i64 0, .int .i64 0, .nils], Blk.mk
 BK.exact true [.int .i64 1, .int .i64 n_0, .int .i64 0, .int .i64 0, .int .i64 0, .int .i64 0, .int .i64 0, .int .i64 0, .nils, .nils, .int .i64 0, .int .i64 0, .nils, .str l'_1, .bool b'_2]])
abbrev q4XN_38a_3 (Q : Out → List Blk → Gh → Prop) (n_0 : Int) (n_3 : Int) (n_6 : Int) (n_9 : Int) (n_12 : Int) (n_15 : Int) (x_18 : Nat × List Rc × List UInt8 × Bool × List AV × List AV) : Prop :=
Q (.ret (.tup [.agg [.int .i64 1, .int .i64 n_0, .int .i64 0, .int .i64 n_3, .int .i64 n_6, .int .i64 n_9, .int .i64 n_12, .int .i64 n_15, .sl 4 (7 * x_18.2.1.length) 0 x_18.2.1.length 7, .nils, .int .i64 0, .int .i64 0, .nils], .bool
 false])) [Blk.mk BK.exact false [.int .i64 1, .int .i64 n_0, .int .i64 0, .int .i64 n_3, .int .i64 n_6, .int .i64 n_9, .int .i64 n_12, .int .i64 n_15, .sl 4 (7 * x_18.2.1.length) 0 x_18.2.1.length 7, .nils, .int .i64 0, .int .i64 0,
 .nils], Blk.mk BK.exact false [.int .i64 1, .int .i64 n_0, .int .i64 0, .int .i64 n_3, .int .i64 n_6, .int .i64 n_9, .int .i64 n_12, .int .i64 n_15, .sl 4 (7 * x_18.2.1.length) 0 x_18.2.1.length 7, .nils, .int .i64 0, .int .i64 0, .nils,
 .str x_18.2.2.1, .bool x_18.2.2.2.1], Blk.mk BK.exact true x_18.2.2.2.2.1, Blk.mk BK.exact true x_18.2.2.2.2.2, Blk.mk BK.grow true (cellsRM x_18.2.1)] {}
theorem vc_38a (c : Nat) (s : List UInt8) (Q : Out → List Blk → Gh → Prop) : goal_38a (lookV [(241685, .int .i64), (241711, .int .i64)]) (lookB []) c s Q = (Lf ((0 : Int) ≤ (4 : Int) ∧ (4 : Int) ≤ (4 : Int) ∧ okH [Blk.mk BK.exact true [.int
 .i64 0, .int .i64 0, .int .i64 0, .int .i64 0, .int .i64 0, .int .i64 0, .int .i64 0, .int .i64 0, .nils, .nils, .int .i64 0, .int .i64 0, .nils], Blk.mk BK.exact true [.int .i64 0, .int .i64 0, .int .i64 0, .int .i64 0, .int .i64 0, .int
 .i64 0, .int .i64 0, .int .i64 0, .nils, .nils, .int .i64 0, .int .i64 0, .nils, .str s, .bool false]]) ∧ ∀ n_0 : Int, ∀ l'_1 : List UInt8, ∀ b'_2 : Bool, Lf (tkM (Int.toNat 4) s false = Prod.mk n_0 (Prod.mk l'_1 b'_2)) → q4XN_38a_2 n_0
 l'_1 b'_2 ∧ ∀ n_3 : Int, ∀ l'_4 : List UInt8, ∀ b'_5 : Bool, Lf (tkM (Int.toNat 4) l'_1 b'_2 = Prod.mk n_3 (Prod.mk l'_4 b'_5)) → q4XN_38a_2 n_0 l'_4 b'_5 ∧ ∀ n_6 : Int, ∀ l'_7 : List UInt8, ∀ b'_8 : Bool, Lf (tkM (Int.toNat 4) l'_4 b'_5 =
 Prod.mk n_6 (Prod.mk l'_7 b'_8)) → q4XN_38a_2 n_0 l'_7 b'_8 ∧ ∀ n_9 : Int, ∀ l'_10 : List UInt8, ∀ b'_11 : Bool, Lf (tkM (Int.toNat 4) l'_7 b'_8 = Prod.mk n_9 (Prod.mk l'_10 b'_11)) → q4XN_38a_2 n_0 l'_10 b'_11 ∧ ∀ n_12 : Int, ∀ l'_13 :
 List UInt8, ∀ b'_14 : Bool, Lf (tkM (Int.toNat 4) l'_10 b'_11 = Prod.mk n_12 (Prod.mk l'_13 b'_14)) → q4XN_38a_2 n_0 l'_13 b'_14 ∧ ∀ n_15 : Int, ∀ l'_16 : List UInt8, ∀ b'_17 : Bool, Lf (tkM (Int.toNat 4) l'_13 b'_14 = Prod.mk n_15
 (Prod.mk l'_16 b'_17)) → ((∃ x_18 : Nat, Lf (x_18 = 0) ∧ eqqQ [AV.int .i64 0, .int .i64 0, .int .i64 0, .int .i64 0, .int .i64 0, .int .i64 0, .int .i64 0, .int .i64 0, .nils, .nils, .int .i64 0, .int .i64 0, .nils] ∧ eqqQ [AV.int .i64 1,
 .int .i64 n_0, .int .i64 0, .int .i64 n_3, .int .i64 n_6, .int .i64 n_9, .int .i64 n_12, .int .i64 n_15, .nils, .nils, .int .i64 0, .int .i64 0, .nils, .str l'_16, .bool b'_17] ∧ eqqQ (AV.ptr 1 15 0) ∧ eqqQ (AV.int .i64 (c : Int)) ∧ AV.int
 .i64 0 = AV.int .i64 (x_18 : Int) ∧ True) ∨ ∃ x_18 : Nat × List Rc × List UInt8 × Bool × List AV × List AV, Lf (1 ≤ x_18.1 ∧ x_18.1 ≤ (c : Int).toNat ∧ rgoM (c : Int).toNat l'_16 b'_17 x_18.1 x_18.2.1 x_18.2.2.1 x_18.2.2.2.1 ∧ flatL
 x_18.2.2.2.2.1 ∧ flatL x_18.2.2.2.2.2) ∧ vc_38a_1) ∧ (∀ x_18 : Nat, Lf (x_18 = 0) → bif decide ((x_18 : Int) < (c : Int)) then Lf ((0 : Int) ≤ (4 : Int) ∧ (4 : Int) ≤ (4 : Int) ∧ okH [Blk.mk BK.exact true [.int .i64 0, .int .i64 0, .int
 .i64 0, .int .i64 0, .int .i64 0, .int .i64 0, .int .i64 0, .int .i64 0, .nils, .nils, .int .i64 0, .int .i64 0, .nils], Blk.mk BK.exact true [.int .i64 1, .int .i64 n_0, .int .i64 0, .int .i64 n_3, .int .i64 n_6, .int .i64 n_9, .int .i64
 n_12, .int .i64 n_15, .nils, .nils, .int .i64 0, .int .i64 0, .nils, .str l'_16, .bool b'_17]]) ∧ ∀ n_19 : Int, ∀ l'_20 : List UInt8, ∀ b'_21 : Bool, Lf (tkM (Int.toNat 4) l'_16 b'_17 = Prod.mk n_19 (Prod.mk l'_20 b'_21)) → Lf ((0 : Int) ≤
 (1 : Int) ∧ (1 : Int) ≤ (4 : Int) ∧ okH [Blk.mk BK.exact true [.int .i64 0, .int .i64 0, .int .i64 0, .int .i64 0, .int .i64 0, .int .i64 0, .int .i64 0, .int .i64 0, .nils, .nils, .int .i64 0, .int .i64 0, .nils], Blk.mk BK.exact true
 [.int .i64 1, .int .i64 n_0, .int .i64 0, .int .i64 n_3, .int .i64 n_6, .int .i64 n_9, .int .i64 n_12, .int .i64 n_15, .nils, .nils, .int .i64 0, .int .i64 0, .nils, .str l'_20, .bool b'_21]]) ∧ ∀ n_22 : Int, ∀ l'_23 : List UInt8, ∀ b'_24
 : Bool, Lf (tkM (Int.toNat 1) l'_20 b'_21 = Prod.mk n_22 (Prod.mk l'_23 b'_24)) → Lf ((0 : Int) ≤ (3 : Int) ∧ (3 : Int) ≤ (4 : Int) ∧ okH [Blk.mk BK.exact true [.int .i64 0, .int .i64 0, .int .i64 0, .int .i64 0, .int .i64 0, .int .i64 0,
 .int .i64 0, .int .i64 0, .nils, .nils, .int .i64 0, .int .i64 0, .nils], Blk.mk BK.exact true [.int .i64 1, .int .i64 n_0, .int .i64 0, .int .i64 n_3, .int .i64 n_6, .int .i64 n_9, .int .i64 n_12, .int .i64 n_15, .nils, .nils, .int .i64
 0, .int .i64 0, .nils, .str l'_23, .bool b'_24], Blk.mk BK.exact true [.int .i64 n_19, .int .i64 n_22, .int .i64 0, .int .i64 0, .int .i64 0, .int .i64 0, .int .i64 0]]) ∧ ∀ n_25 : Int, ∀ l'_26 : List UInt8, ∀ b'_27 : Bool, Lf (tkM
 (Int.toNat 3) l'_23 b'_24 = Prod.mk n_25 (Prod.mk l'_26 b'_27)) → bif decide (n_25 ≥ 8388608) then exW .i64 (n_25 - 16777216) (fun n_28 => q4XN_38a_1 n_0 n_3 n_6 n_9 n_12 n_15 l'_26 b'_27 n_19 n_22 n_28 x_18 c l'_16 b'_17) else q4XN_38a_1
 n_0 n_3 n_6 n_9 n_12 n_15 l'_26 b'_27 n_19 n_22 n_25 x_18 c l'_16 b'_17 else bif b'_17 then Q (.ret (.tup [.agg [.int .i64 1, .int .i64 n_0, .int .i64 0, .int .i64 n_3, .int .i64 n_6, .int .i64 n_9, .int .i64 n_12, .int .i64 n_15, .nils,
 .nils, .int .i64 0, .int .i64 0, .nils], .bool false])) [] {} else bif eqB l'_16 [] then ckQ (eqAVL [.str l'_16] [.str l'_16] && true) (Q (.ret (.tup [.agg [.int .i64 1, .int .i64 n_0, .int .i64 0, .int .i64 n_3, .int .i64 n_6, .int .i64
 n_9, .int .i64 n_12, .int .i64 n_15, .nils, .nils, .int .i64 0, .int .i64 0, .nils], .bool true])) [] {}) else ckQ (eqAVL [.str l'_16] [.str l'_16] && true) (Q (.ret (.tup [.agg [.int .i64 1, .int .i64 n_0, .int .i64 0, .int .i64 n_3, .int
 .i64 n_6, .int .i64 n_9, .int .i64 n_12, .int .i64 n_15, .nils, .nils, .int .i64 0, .int .i64 0, .nils], .bool false])) [] {})) ∧ ∀ x_18 : Nat × List Rc × List UInt8 × Bool × List AV × List AV, Lf (1 ≤ x_18.1 ∧ x_18.1 ≤ (c : Int).toNat ∧
 rgoM (c : Int).toNat l'_16 b'_17 x_18.1 x_18.2.1 x_18.2.2.1 x_18.2.2.2.1 ∧ flatL x_18.2.2.2.2.1 ∧ flatL x_18.2.2.2.2.2) → bif decide ((x_18.1 : Int) < (c : Int)) then Lf ((0 : Int) ≤ (4 : Int) ∧ (4 : Int) ≤ (4 : Int) ∧ okH [Blk.mk BK.exact
 true [.int .i64 0, .int .i64 0, .int .i64 0, .int .i64 0, .int .i64 0, .int .i64 0, .int .i64 0, .int .i64 0, .nils, .nils, .int .i64 0, .int .i64 0, .nils], Blk.mk BK.exact false [.int .i64 1, .int .i64 n_0, .int .i64 0, .int .i64 n_3,
 .int .i64 n_6, .int .i64 n_9, .int .i64 n_12, .int .i64 n_15, .sl 4 (7 * x_18.2.1.length) 0 x_18.2.1.length 7, .nils, .int .i64 0, .int .i64 0, .nils, .str x_18.2.2.1, .bool x_18.2.2.2.1], Blk.mk BK.exact true x_18.2.2.2.2.1, Blk.mk
 BK.exact true x_18.2.2.2.2.2, Blk.mk BK.grow true (cellsRM x_18.2.1)]) ∧ ∀ n_19 : Int, ∀ l'_20 : List UInt8, ∀ b'_21 : Bool, Lf (tkM (Int.toNat 4) x_18.2.2.1 x_18.2.2.2.1 = Prod.mk n_19 (Prod.mk l'_20 b'_21)) → Lf ((0 : Int) ≤ (1 : Int) ∧
 (1 : Int) ≤ (4 : Int) ∧ okH [Blk.mk BK.exact true [.int .i64 0, .int .i64 0, .int .i64 0, .int .i64 0, .int .i64 0, .int .i64 0, .int .i64 0, .int .i64 0, .nils, .nils, .int .i64 0, .int .i64 0, .nils], Blk.mk BK.exact false [.int .i64 1,
 .int .i64 n_0, .int .i64 0, .int .i64 n_3, .int .i64 n_6, .int .i64 n_9, .int .i64 n_12, .int .i64 n_15, .sl 4 (7 * x_18.2.1.length) 0 x_18.2.1.length 7, .nils, .int .i64 0, .int .i64 0, .nils, .str l'_20, .bool b'_21], Blk.mk BK.exact
 true x_18.2.2.2.2.1, Blk.mk BK.exact true x_18.2.2.2.2.2, Blk.mk BK.grow true (cellsRM x_18.2.1)]) ∧ ∀ n_22 : Int, ∀ l'_23 : List UInt8, ∀ b'_24 : Bool, Lf (tkM (Int.toNat 1) l'_20 b'_21 = Prod.mk n_22 (Prod.mk l'_23 b'_24)) → Lf ((0 :
 Int) ≤ (3 : Int) ∧ (3 : Int) ≤ (4 : Int) ∧ okH [Blk.mk BK.exact true [.int .i64 0, .int .i64 0, .int .i64 0, .int .i64 0, .int .i64 0, .int .i64 0, .int .i64 0, .int .i64 0, .nils, .nils, .int .i64 0, .int .i64 0, .nils], Blk.mk BK.exact
 false [.int .i64 1, .int .i64 n_0, .int .i64 0, .int .i64 n_3, .int .i64 n_6, .int .i64 n_9, .int .i64 n_12, .int .i64 n_15, .sl 4 (7 * x_18.2.1.length) 0 x_18.2.1.length 7, .nils, .int .i64 0, .int .i64 0, .nils, .str l'_23, .bool b'_24],
 Blk.mk BK.exact true x_18.2.2.2.2.1, Blk.mk BK.exact true x_18.2.2.2.2.2, Blk.mk BK.grow true (cellsRM x_18.2.1), Blk.mk BK.exact true [.int .i64 n_19, .int .i64 n_22, .int .i64 0, .int .i64 0, .int .i64 0, .int .i64 0, .int .i64 0]]) ∧ ∀
 n_25 : Int, ∀ l'_26 : List UInt8, ∀ b'_27 : Bool, Lf (tkM (Int.toNat 3) l'_23 b'_24 = Prod.mk n_25 (Prod.mk l'_26 b'_27)) → bif decide (n_25 ≥ 8388608) then exW .i64 (n_25 - 16777216) (fun n_28 => q4XN_38a_0 n_0 n_3 n_6 n_9 n_12 n_15 x_18
 l'_26 b'_27 n_19 n_22 n_28 c l'_16 b'_17) else q4XN_38a_0 n_0 n_3 n_6 n_9 n_12 n_15 x_18 l'_26 b'_27 n_19 n_22 n_25 c l'_16 b'_17 else bif x_18.2.2.2.1 then q4XN_38a_3 Q n_0 n_3 n_6 n_9 n_12 n_15 x_18 else bif eqB x_18.2.2.1 [] then ckQ
 (eqAVL [.str x_18.2.2.1] [.str x_18.2.2.1] && true) (Q (.ret (.tup [.agg [.int .i64 1, .int .i64 n_0, .int .i64 0, .int .i64 n_3, .int .i64 n_6, .int .i64 n_9, .int .i64 n_12, .int .i64 n_15, .sl 4 (7 * x_18.2.1.length) 0 x_18.2.1.length
 7, .nils, .int .i64 0, .int .i64 0, .nils], .bool true])) [Blk.mk BK.exact false [.int .i64 1, .int .i64 n_0, .int .i64 0, .int .i64 n_3, .int .i64 n_6, .int .i64 n_9, .int .i64 n_12, .int .i64 n_15, .sl 4 (7 * x_18.2.1.length) 0
 x_18.2.1.length 7, .nils, .int .i64 0, .int .i64 0, .nils], Blk.mk BK.exact false [.int .i64 1, .int .i64 n_0, .int .i64 0, .int .i64 n_3, .int .i64 n_6, .int .i64 n_9, .int .i64 n_12, .int .i64 n_15, .sl 4 (7 * x_18.2.1.length) 0
 x_18.2.1.length 7, .nils, .int .i64 0, .int .i64 0, .nils, .str x_18.2.2.1, .bool x_18.2.2.2.1], Blk.mk BK.exact true x_18.2.2.2.2.1, Blk.mk BK.exact true x_18.2.2.2.2.2, Blk.mk BK.grow true (cellsRM x_18.2.1)] {}) else ckQ (eqAVL [.str
 x_18.2.2.1] [.str x_18.2.2.1] && true) (q4XN_38a_3 Q n_0 n_3 n_6 n_9 n_12 n_15 x_18)) := by kernel_rfl

end Go.Proofs.YtafchcmemeinlaaDoor
