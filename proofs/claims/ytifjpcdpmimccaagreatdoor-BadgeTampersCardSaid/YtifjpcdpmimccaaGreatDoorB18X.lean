/-
  Chapter 18: the shown text of a badge, proved.
-/
import Derived.Test.YtifjpcdpmimccaaGreatDoorB18W
set_option linter.unusedSimpArgs false
set_option linter.unusedVariables false
set_option linter.unusedSectionVars false
namespace Go.Proofs.YtifjpcdpmimccaaGreatDoor
open Go.RowKit
set_option maxRecDepth 1000000

theorem tdn (c : Nat) : (Int.tdiv (c : Int) 16).toNat = c / 16 := by
  rw [Int.tdiv_eq_ediv_of_nonneg (by omega)]; omega
theorem tmn (c : Nat) : (Int.tmod (c : Int) 16).toNat = c % 16 := by
  rw [Int.tmod_eq_emod_of_nonneg (by omega)]; omega
theorem tdu (c : UInt8) : 0 ≤ Int.tdiv (c.toNat : Int) 16 ∧ Int.tdiv (c.toNat : Int) 16 < 16 := by
  have := c.toNat_lt
  rw [Int.tdiv_eq_ediv_of_nonneg (by omega)]; omega
theorem tmu (c : UInt8) : 0 ≤ Int.tmod (c.toNat : Int) 16 ∧ Int.tmod (c.toNat : Int) 16 < 16 := by
  rw [Int.tmod_eq_emod_of_nonneg (by omega)]; omega
theorem toB_of (k : IntKind) (c : UInt8) : toB (.int k (c.toNat : Int)) = c := by
  simp [toB]
theorem hexN (c : UInt8) : [AV.int .u8 ((hexL.getD (Int.tdiv (c.toNat : Int) 16).toNat (UInt8.ofNat 0)).toNat : Int), AV.int .u8 ((hexL.getD (Int.tmod (c.toNat : Int) 16).toNat (UInt8.ofNat 0)).toNat : Int)] = ofBytes (hex2M c) := by
  rw [tdn, tmn]; rfl
theorem hexB (c : UInt8) : [toB (.int .u8 ((hexL.getD (Int.tdiv (c.toNat : Int) 16).toNat (UInt8.ofNat 0)).toNat : Int)), toB (.int .u8 ((hexL.getD (Int.tmod (c.toNat : Int) 16).toNat (UInt8.ofNat 0)).toNat : Int))] = hex2M c := by
  rw [tdn, tmn, toB_of, toB_of]; rfl
theorem take_hx {d : List UInt8} {i : Nat} (hi : i < d.length) : cellsSM (hx (d.take (i + 1))) = cellsSM (hx (d.take i)) ++ [AV.str (hex2M (d.getD i (UInt8.ofNat 0)))] := by
  rw [List.take_add_one, List.getElem?_eq_getElem hi, List.getD_eq_getElem?_getD, List.getElem?_eq_getElem hi]
  simp only [cellsSM, hx, List.map_append]
  rfl
theorem jt_len (s : List UInt8) (h : s.length ≤ 1) : ∀ d : List UInt8, (Lib.joinTail s (hx d)).length ≤ 3 * d.length
  | [] => Nat.zero_le _
  | c :: t => by
    have := jt_len s h t
    have e : Lib.joinTail s (hx (c :: t)) = (s ++ hex2M c) ++ Lib.joinTail s (hx t) := rfl
    rw [e, List.length_append, List.length_append, List.length_cons, show (hex2M c).length = 2 from rfl]
    omega
theorem join_len (s : List UInt8) (h : s.length ≤ 1) : ∀ d : List UInt8, (joinM (hx d) s).length ≤ 3 * d.length
  | [] => Nat.zero_le _
  | c :: t => by
    have := jt_len s h t
    have e : joinM (hx (c :: t)) s = hex2M c ++ Lib.joinTail s (hx t) := Lib.join_cons _ _ _
    rw [e, List.length_append, List.length_cons, show (hex2M c).length = 2 from rfl]
    omega
theorem idxOk {z : Int} {n : Nat} (h0 : 0 ≤ z) (h1 : z < n) : (decide (0 ≤ z) && Nat.blt z.toNat n) = true := by
  rw [Bool.and_eq_true, decide_eq_true_eq, Nat.blt_eq]
  exact ⟨h0, by omega⟩
theorem frzCS (H : List Blk) (l : List (List UInt8)) : (cellsSM l).map (fun x => frzV 1 H 8 x) = cellsSM l := by
  rw [cellsSM, List.map_map]
  exact List.map_congr_left fun _ _ => rfl
theorem print_run (n k d : List UInt8) (f u m : Int) (hn : n.length ≤ 9223372036854775807) (hs : (encBM n k f u m).1.length ≤ 4096) (hd : d = sumSM (encBM n k f u m).1) (Q : Out → List Blk → Gh → Prop) (hq : ∀ g, Q (.ret (.str (shownM d))) [] g) : ∃ hv hb, goal_56 hv hb d n k f u m Q := by
  obtain ⟨hv', hb', e'⟩ : ∃ hv hb, goal_56 hv hb d n k f u m Q = _ := ⟨_, _, vc_56 d n k f u m Q⟩
  refine ⟨hv', hb', e'.mpr ?_⟩
  clear e'
  have hdl : d.length = 32 := hd ▸ sumS_len _
  refine ⟨⟨hn⟩, ?_⟩
  rintro s0 e1 ⟨he⟩
  have hs0 : s0 = (encBM n k f u m).1 := by rw [he]
  refine ⟨⟨by rw [hs0]; exact hs⟩, ?_⟩
  rintro x ⟨hx0⟩
  obtain rfl : x = d := by rw [hx0, hs0, hd]
  have bd : ∀ i : Nat, (x.getD i (UInt8.ofNat 0)).toNat < 256 := fun i => UInt8.toNat_lt _
  refine ⟨.inl ⟨0, ⟨rfl⟩, rfl, rfl, rfl, rfl, rfl, rfl, trivial⟩, ?_, ?_⟩
  · rintro i ⟨rfl⟩
    refine ⟨_, rfl, _, rfl, splitD (fun h => ?_) (fun h => absurd hdl (by omega))⟩
    have t1 := tdu (x.getD (Int.toNat 0) (UInt8.ofNat 0))
    have t2 := tmu (x.getD (Int.toNat 0) (UInt8.ofNat 0))
    refine ⟨_, rfl, ckI (idxOk (by omega) (by omega)) ⟨_, rfl, wrapU8 (by omega) (by omega) (ckI (idxOk t1.1 t1.2) ⟨_, rfl, _, rfl, ckI (idxOk t2.1 t2.2) ⟨_, rfl, _, rfl, _, rfl, wrapI (by omega) (by omega) ⟨⟨rfl, rfl⟩, .inr ⟨1, ⟨by omega, by omega, hdl⟩, by omega, rfl, rfl, rfl, hexN _, ?_, ?_, rfl, rfl, rfl, trivial⟩⟩⟩⟩)⟩⟩
    · have e := take_hx (d := x) (i := 0) (by omega)
      refine Eq.trans ?_ e.symm
      exact congrArg (fun z => [AV.str z]) (hexB _)
    · have e := take_hx (d := x) (i := 0) (by omega)
      refine Eq.trans ?_ e.symm
      exact congrArg (fun z => [AV.str z]) (hexB _)
  · rintro i ⟨i1, i2, _⟩
    refine ⟨_, rfl, _, rfl, splitD (fun h => ?_) (fun h => ?_)⟩
    · have t1 := tdu (x.getD (Int.toNat (i : Int)) (UInt8.ofNat 0))
      have t2 := tmu (x.getD (Int.toNat (i : Int)) (UInt8.ofNat 0))
      refine ⟨_, rfl, ckI (idxOk (by omega) (by omega)) ⟨_, rfl, wrapU8 (by omega) (by omega) (ckI (idxOk t1.1 t1.2) ⟨_, rfl, _, rfl, ckI (idxOk t2.1 t2.2) ⟨_, rfl, _, rfl, ckI (by simp [cellsS_len]; omega) ⟨_, rfl, wrapI (by omega) (by omega) ⟨⟨rfl, rfl⟩, .inr ⟨i + 1, ⟨by omega, by omega, hdl⟩, by omega, ?_⟩⟩⟩⟩⟩)⟩⟩
      have e := take_hx (d := x) (i := i) (by omega)
      refine ⟨rfl, rfl, rfl, rfl, rfl, ?_, rfl, rfl, rfl, trivial⟩
      refine Eq.trans ?_ e.symm
      exact congrArg (fun z => cellsSM (hx (x.take i)) ++ [AV.str z]) (hexB _)
    · have hi : i = x.length := by omega
      subst hi
      have hl := join_len [UInt8.ofNat 58] (Nat.le_refl _) x
      refine ckI (by rw [cellsS_len, List.length_map, List.take_of_length_le (Nat.le_refl _)]; simp) ?_
      refine ⟨hx x, ⟨?_, by simp, by simp; omega, Nat.le_trans hl (by omega)⟩, ?_⟩
      · rw [List.drop_zero, List.take_of_length_le (l := x) (Nat.le_refl _), List.take_of_length_le (l := cellsSM (List.map hex2M x)) (by rw [cellsS_len, List.length_map]; omega), frzCS]
      rintro y ⟨rfl⟩
      have hl2 : (joinM (hx x) [58]).length ≤ 3 * x.length := hl
      refine ckI (by simp; omega) ⟨_, rfl, ?_⟩
      exact hq _
def cPrintB : Con
  | [.agg [.str n, .str k, .int .i64 f, .int .i64 u, .int .i64 m]], H, K => Lf (n.length ≤ 9223372036854775807) ∧ ∀ s, Lf (s = shownM (sumSM (encBM n k f u m).1)) → K (.ret (.str s)) H
  | _, _, _ => False
theorem encB_len (n k : List UInt8) (f u m : Int) : (encBM n k f u m).1.length ≤ 86 := by
  unfold encBM
  split
  · rename_i h
    obtain ⟨h1, h2, _⟩ := (right_iff n k f u m).1 h
    have := ((name_iff n).1 h1).2.1
    show (octBM n k f u m).length ≤ 86
    rw [octB_len]; omega
  · simp
theorem printB_ok : ValidF Tryz.prog gl0 56 cPrintB := by
  refine valid_flat (enters_of (by kernel_rfl)) gl0_noY fun args H Q hc => ?_
  unfold cPrintB at hc
  split at hc
  · rename_i n k f u m
    obtain ⟨⟨h1⟩, hq⟩ := hc
    obtain ⟨hv, hb', h⟩ := print_run n k _ f u m h1 (Nat.le_trans (encB_len n k f u m) (by omega)) rfl (Q := fun o H' _ => H' = [] ∧ (∃ v, o = .ret v ∧ old 0 v = true ∧ noY v = true) ∧ Q o H) (fun _ => ⟨rfl, ⟨_, rfl, rfl, rfl⟩, hq _ ⟨rfl⟩⟩)
    exact ⟨rfl, rfl, _, 1000, envFor18 smP_ok _ hv hb', rfl, h⟩
  · exact hc.elim
end Go.Proofs.YtifjpcdpmimccaaGreatDoor
