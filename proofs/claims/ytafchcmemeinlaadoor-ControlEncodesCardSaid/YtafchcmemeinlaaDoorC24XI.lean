/-
  Chapter 24: a packet as octets.
-/
import Derived.Test.YtafchcmemeinlaaDoorC24XH
set_option linter.unusedSimpArgs false
set_option linter.unusedVariables false
set_option linter.unusedSectionVars false
namespace Go.Proofs.YtafchcmemeinlaaDoor
open Go.RowKit
set_option maxRecDepth 1000000

theorem padI {n : Nat} (hn : n ≤ 100000) {K : Int → Prop} (h : K (((4 - n % 4) % 4 : Nat) : Int)) :
  ∃ n2, AV.int .i64 (IntKind.wrap .i64 (0 - (n : Int))) = AV.int .i64 n2 ∧ ∃ n3, AV.int .i64 (IntKind.wrap .i64 (((n2 % 18446744073709551616).toNat &&& 3 : Nat) : Int)) = AV.int .i64 n3 ∧ K n3 := by
 refine wrapI (by omega) (by omega) ?_
 have e1 : ((0 - (n : Int)) % 18446744073709551616).toNat &&& 3 = (4 - n % 4) % 4 := by
  rw [show (3 : Nat) = 2 ^ 2 - 1 from rfl, Nat.and_two_pow_sub_one_eq_mod]
  omega
 rw [e1]
 exact wrapI (by omega) (by omega) h
def zerosM (p : Nat) : List AV := (List.replicate p [AV.int .u8 0]).flatten
theorem zeros_of : ∀ p : Nat, zerosM p = ofBytes (List.replicate p 0)
 | 0 => rfl
 | p + 1 => by
  have := zeros_of p
  rw [zerosM, List.replicate_succ, List.flatten_cons, List.replicate_succ]
  rw [zerosM] at this
  rw [this]
  rfl
theorem takeB (B : List UInt8) : List.take (B.length * 1) (List.drop 0 (ofBytes B)) = ofBytes B := by
 rw [List.drop_zero, Nat.mul_one]; exact List.take_of_length_le (by rw [ofB_len]; exact Nat.le_refl _)
theorem eqAVL_ints : ∀ l : List Int, eqAVL (cellsI l) (cellsI l) = true
 | [] => rfl
 | x :: l => by
  have := eqAVL_ints l
  simpa [cellsI, eqAVL, eqAV] using this
theorem orC {n : Nat} (hn : n < 128) {K : Int → Prop} (h : K (128 + (n : Int))) : ∃ n1, AV.int .i64 (IntKind.wrap .i64 ((128 ||| (((n : Nat) : Int) % 18446744073709551616).toNat : Nat) : Int)) = AV.int .i64 n1 ∧ K n1 := by
 have e1 : (((n : Nat) : Int) % 18446744073709551616).toNat = n := by omega
 have e2 : 128 ||| n = 128 + n := (Nat.two_pow_add_eq_or_of_lt (i := 7) (by omega) 1).symm
 rw [e1, e2]
 exact wrapI (by omega) (by omega) (by rwa [show ((128 + n : Nat) : Int) = 128 + (n : Int) by omega])
theorem rcs_take {l : List Rc} {i : Nat} {r : Rc} (h : l[i]? = some r) : rcsBM (l.take (i + 1)) = rcsBM (l.take i) ++ rcBM r := by
 rw [List.take_add_one, h, rcsBM, List.flatMap_append]
 simp [rcsBM]
theorem rcB_len (r : Rc) : (rcBM r).length = 24 := by simp [rcBM, put_len]
theorem rcsB_len : ∀ l : List Rc, (rcsBM l).length = 24 * l.length
 | [] => rfl
 | r :: l => by
  have := rcsB_len l
  rw [rcsBM, List.flatMap_cons, List.length_append, rcB_len, List.length_cons]
  rw [rcsBM] at this
  omega
theorem prs_take {l : List (Int × Int)} {i : Nat} {r : Int × Int} (h : l[i]? = some r) : prsBM (l.take (i + 1)) = prsBM (l.take i) ++ putM 2 [r.1, r.2] := by
 rw [List.take_add_one, h, prsBM, List.flatMap_append]
 simp [prsBM]
theorem prsB_len : ∀ l : List (Int × Int), (prsBM l).length = 4 * l.length
 | [] => rfl
 | r :: l => by
  have := prsB_len l
  rw [prsBM, List.flatMap_cons, List.length_append, put_len, List.length_cons]
  rw [prsBM] at this
  simp only [List.length_cons, List.length_nil]
  omega
theorem pairsGo_len : ∀ (l : List Int) (b m : Int), (pairsGo b m l).length ≤ l.length + 1
 | [], b, m => by simp [pairsGo]
 | n :: l, b, m => by
  rw [pairsGo]
  split
  ·have := pairsGo_len l n 0; simp; omega
  ·refine Nat.le_trans (pairsGo_len l b _) (by simp)
theorem pairsM_len (l : List Int) : (pairsM l).length ≤ l.length := by
 cases l with
 | nil => simp [pairsM]
 | cons n l => have := pairsGo_len l n 0; simp only [pairsM, List.length_cons]; omega
theorem cellsP_get {l : List (Int × Int)} {i j : Nat} (hi : i < l.length) (hj : j = 2 * i) : ∃ r, l[i]? = some r ∧ (cellsPM l |>.drop j).take 2 = [.int .i64 r.1, .int .i64 r.2] := by
 subst hj
 induction l generalizing i with
 | nil => simp at hi
 | cons x l ih =>
  cases i with
  | zero => exact ⟨x, rfl, rfl⟩
  | succ i =>
   obtain ⟨r, h1, h2⟩ := ih (i := i) (by simpa using hi)
   refine ⟨r, by simpa using h1, ?_⟩
   have e : cellsPM (x :: l) = [.int .i64 x.1, .int .i64 x.2] ++ cellsPM l := rfl
   rw [e, show 2 * (i + 1) = ([AV.int .i64 x.1, .int .i64 x.2] : List AV).length + 2 * i by simp; omega, ← List.drop_drop, List.drop_left]
   exact h2
theorem arr_len {xs : List Int} {ro : Int} (h : (stepsRM xs).2.2 = true) : (arrM xs ro).length ≤ 400 := by
 obtain ⟨ref, l, h1, h2, h3⟩ := stepsR_some h
 have h4 := steps_len h1
 have h5 := cnt_len xs
 have h6 := bits_len (sgsM xs l) ((xs.length + 6) / 7 * 7)
 have h7 := tail_len l
 simp only [arrM, h1, List.length_append, hdr_len]
 omega
theorem pk_n1 (f s1 s2 s3 s4 s5 : Int) (rs : List Rc) (hrs : rs.length ≤ 6) (Q : Out → List Blk → Gh → Prop) (hq : ∀ c1 c2 c3 R, (oldL 0 c1 = true ∧ noYL c1 = true) → (oldL 0 c2 = true ∧ noYL c2 = true) → (oldL 0 c3 = true ∧ noYL c3 = true) → R = oneM ⟨1, f, 0, s1, s2, s3, s4, s5, rs, [], 0, 0, []⟩ → Q (.ret (.sl 3 R.length 0 R.length 1)) [⟨.exact, true, c1⟩, ⟨.exact, true, c2⟩, ⟨.grow, true, c3⟩, ⟨.grow, true, ofBytes R⟩] {}) : ∃ hv hb, goal_46n1 hv hb f s1 s2 s3 s4 s5 rs Q := by
 obtain ⟨hv, hb', e⟩ : ∃ hv hb, goal_46n1 hv hb f s1 s2 s3 s4 s5 rs Q = _ := ⟨_, _, vc_46n1 f s1 s2 s3 s4 s5 rs Q⟩
 refine ⟨hv, hb', e.mpr ?_⟩
 delta zXH5 zXH53 zXH0 zXH4 zXH37 zXH2 zXH36 zXH13 zXH3 zXH12 zXH9 zXH23 zXH27 zXH14 zXH11 zXH47 zXH55 zXH21 zXH29 zXH49 zXH35 zXH33 zXH34 zXH54 zXH41 zXH52 zXH16 zXH50 zXH38 zXH17 zXH51 zXH39 zXH32 zXH19
 unfold tlB
 clear e
 have hR : oneM ⟨1, f, 0, s1, s2, s3, s4, s5, rs, [], 0, 0, []⟩ = oneBM (rs.length : Int) 200 (padM (putM 4 [f] ++ putM 4 [s1, s2, s3, s4, s5] ++ rcsBM rs)) := by simp [oneM, bodyM, cntCM, wireM, rcsBM, prsBM, pairsM]
 refine ⟨[f], ⟨rfl, rfl, by omega, by omega, by simp, by simp⟩, ⟨_, [s1, s2, s3, s4, s5], ⟨rfl, rfl, rfl, by simp [put_len], rfl, rfl, by omega, by omega, by simp⟩, _, rfl, _, rfl, ⟨(0, putM 4 [f] ++ putM 4 [s1, s2, s3, s4, s5]), ⟨Nat.zero_le _, by simp [rcsBM]⟩, rfl, rfl, rfl, rfl, rfl, rfl, rfl, rfl, rfl, rfl, rfl, trivial⟩, ?_⟩⟩
 rintro ⟨i, B⟩ ⟨g1, g2⟩
 dsimp only at g1 g2 ⊢
 have hl0 : 4 ≤ B.length ∧ B.length ≤ 500 := by rw [g2]; simp only [List.length_append, put_len, rcsB_len, List.length_take, List.length_cons, List.length_nil]; omega
 refine splitD (fun h => ?_) (fun h => ?_)
 ·have hi : i < rs.length := by omega
  obtain ⟨r, hr, hc⟩ := cellsR_get hi (Nat.mul_comm 7 i ▸ rfl : i * 7 = 7 * i)
  refine ckI (by simp; omega) (ckI (by simp [cellsR_len]; omega) ⟨r.1, r.2.1, r.2.2.1, r.2.2.2.1, r.2.2.2.2.1, r.2.2.2.2.2.1, r.2.2.2.2.2.2, by rw [Int.toNat_natCast, hc]; rfl, B, [r.1], ⟨rfl, rfl, rfl, by omega, rfl, rfl, by omega, by omega, by simp⟩, _, [r.2.1], ⟨rfl, rfl, rfl, by simp [put_len]; omega, rfl, rfl, by omega, by omega, by simp⟩, _, [r.2.2.1], ⟨rfl, rfl, rfl, by simp [put_len]; omega, rfl, rfl, by omega, by omega, by simp⟩, _, [r.2.2.2.1, r.2.2.2.2.1, r.2.2.2.2.2.1, r.2.2.2.2.2.2], ⟨rfl, rfl, rfl, by simp [put_len]; omega, rfl, rfl, by omega, by omega, by simp⟩, wrapI (by omega) (by omega) ⟨⟨trivial, rfl⟩, (i + 1, B ++ putM 4 [r.1] ++ putM 1 [r.2.1] ++ putM 3 [r.2.2.1] ++ putM 4 [r.2.2.2.1, r.2.2.2.2.1, r.2.2.2.2.2.1, r.2.2.2.2.2.2]), ⟨hi, by rw [rcs_take hr, g2, rcBM]; simp only [List.append_assoc]⟩, by dsimp only; omega, rfl, rfl, rfl, rfl, rfl, rfl, rfl, rfl, rfl, rfl, rfl, trivial⟩⟩)
 ·obtain rfl : i = rs.length := by omega
  rw [List.take_length] at g2
  rw [← g2] at hR
  have hl : 4 ≤ B.length ∧ B.length ≤ 5000 := by omega
  clear hl0
  have hp : padM B = B ++ List.replicate ((4 - B.length % 4) % 4) 0 := rfl
  refine ckI (by simp [ofB_len]) ⟨_, rfl, padI (by omega) ?_⟩
  have hpp : (4 - B.length % 4) % 4 < 4 := by omega
  have hz := zeros_of ((4 - B.length % 4) % 4)
  have hlp : (padM B).length = B.length + (4 - B.length % 4) % 4 := by rw [hp]; simp
  generalize (4 - B.length % 4) % 4 = p at hp hpp hz hlp ⊢
  rw [zerosM] at hz
  rw [Int.toNat_natCast, hz]
  refine ckI (by simp [oneL_ofB]; omega) (splitD (fun h0 => ?_) (fun h0 => ?_))
  ·obtain rfl : p = 0 := by omega
   rw [List.replicate_zero, List.append_nil] at hp
   rw [hp] at hR
   refine ckI rfl (ckI (by simp [ofB_len]) ?_)
   have htd : ((B.length : Nat) : Int).tdiv 4 = ((B.length / 4 : Nat) : Int) := rfl
   refine ⟨_, rfl, orC (by omega) (⟨[128 + (rs.length : Int), 200], ⟨rfl, rfl, by omega, by omega, by simp, by simp⟩, ckI (by simp [ofB_len]) ⟨_, rfl, ?_⟩⟩)⟩
   try dsimp only
   rw [htd]
   refine wrapI (by omega) (by omega) ⟨_, [_], ⟨rfl, rfl, rfl, by first | (simp [put_len]; done) | (simp [put_len]; omega), rfl, rfl, by omega, by omega, by simp⟩, ?_⟩
   rw [takeB]
   refine ckI (by simp [ofB_len, oneL_ofB]; omega) (splitB (fun h => by rw [nbeq] at h; exfalso; omega) (fun h => ckI (by simp; omega) (ckI (by simp [ofB_len, put_len]; omega) ?_)))
   rw [ofB_len, ofB_app, oldL_ofB, ← List.length_append]
   exact hq _ _ _ _ ⟨rfl, rfl⟩ ⟨rfl, rfl⟩ ⟨oldL_ofB _ _, noY_ofB _⟩ (by rw [hR]; rfl)
  ·rw [ofB_len (List.replicate p 0), List.length_replicate, oldL_ofB, ofB_app, ← hp]
   refine ckI (by simp; omega) (ckI (by simp [ofB_len]; omega) ?_)
   rw [← hlp]
   generalize padM B = P at hp hR hlp ⊢
   have htd : ((P.length : Nat) : Int).tdiv 4 = ((P.length / 4 : Nat) : Int) := rfl
   refine ⟨_, rfl, orC (by omega) (⟨[128 + (rs.length : Int), 200], ⟨rfl, rfl, by omega, by omega, by simp, by simp⟩, ckI (by simp [ofB_len]) ⟨_, rfl, ?_⟩⟩)⟩
   try dsimp only
   rw [htd]
   refine wrapI (by omega) (by omega) ⟨_, [_], ⟨rfl, rfl, rfl, by first | (simp [put_len]; done) | (simp [put_len]; omega), rfl, rfl, by omega, by omega, by simp⟩, ?_⟩
   rw [takeB]
   refine ckI (by simp [ofB_len, oneL_ofB]; omega) (splitB (fun h => by rw [nbeq] at h; exfalso; omega) (fun h => ckI (by simp; omega) (ckI (by simp [ofB_len, put_len]; omega) ?_)))
   rw [ofB_len, ofB_app, oldL_ofB, ← List.length_append]
   exact hq _ _ _ _ ⟨rfl, rfl⟩ ⟨rfl, rfl⟩ ⟨oldL_ofB _ _, noY_ofB _⟩ (by rw [hR]; rfl)
theorem pk_n2 (f : Int) (rs : List Rc) (hrs : rs.length ≤ 6) (Q : Out → List Blk → Gh → Prop) (hq : ∀ c1 c2 c3 R, (oldL 0 c1 = true ∧ noYL c1 = true) → (oldL 0 c2 = true ∧ noYL c2 = true) → (oldL 0 c3 = true ∧ noYL c3 = true) → R = oneM ⟨2, f, 0, 0, 0, 0, 0, 0, rs, [], 0, 0, []⟩ → Q (.ret (.sl 3 R.length 0 R.length 1)) [⟨.exact, true, c1⟩, ⟨.exact, true, c2⟩, ⟨.grow, true, c3⟩, ⟨.grow, true, ofBytes R⟩] {}) : ∃ hv hb, goal_46n2 hv hb f rs Q := by
 obtain ⟨hv, hb', e⟩ : ∃ hv hb, goal_46n2 hv hb f rs Q = _ := ⟨_, _, vc_46n2 f rs Q⟩
 refine ⟨hv, hb', e.mpr ?_⟩
 delta zXH5 zXH18 zXH53 zXH8 zXH22 zXH45 zXH11 zXH47 zXH55 zXH21 zXH29 zXH49 zXH35 zXH33 zXH1 zXH6 zXH34 zXH2 zXH54 zXH13 zXH3 zXH41 zXH27 zXH52 zXH14 zXH16 zXH50 zXH38 zXH17 zXH51 zXH39 zXH32 zXH19
 unfold tlB
 clear e
 have hR : oneM ⟨2, f, 0, 0, 0, 0, 0, 0, rs, [], 0, 0, []⟩ = oneBM (rs.length : Int) 201 (padM (putM 4 [f] ++ rcsBM rs)) := by simp [oneM, bodyM, cntCM, wireM, rcsBM, prsBM, pairsM]
 refine ⟨[f], ⟨rfl, rfl, by omega, by omega, by simp, by simp⟩, _, rfl, _, rfl, ⟨(0, putM 4 [f]), ⟨Nat.zero_le _, by simp [rcsBM]⟩, rfl, rfl, rfl, rfl, rfl, rfl, rfl, rfl, rfl, rfl, rfl, trivial⟩, ?_⟩
 rintro ⟨i, B⟩ ⟨g1, g2⟩
 dsimp only at g1 g2 ⊢
 have hl0 : 4 ≤ B.length ∧ B.length ≤ 500 := by rw [g2]; simp only [List.length_append, put_len, rcsB_len, List.length_take, List.length_cons, List.length_nil]; omega
 refine splitD (fun h => ?_) (fun h => ?_)
 ·have hi : i < rs.length := by omega
  obtain ⟨r, hr, hc⟩ := cellsR_get hi (Nat.mul_comm 7 i ▸ rfl : i * 7 = 7 * i)
  refine ckI (by simp; omega) (ckI (by simp [cellsR_len]; omega) ⟨r.1, r.2.1, r.2.2.1, r.2.2.2.1, r.2.2.2.2.1, r.2.2.2.2.2.1, r.2.2.2.2.2.2, by rw [Int.toNat_natCast, hc]; rfl, B, [r.1], ⟨rfl, rfl, rfl, by omega, rfl, rfl, by omega, by omega, by simp⟩, _, [r.2.1], ⟨rfl, rfl, rfl, by simp [put_len]; omega, rfl, rfl, by omega, by omega, by simp⟩, _, [r.2.2.1], ⟨rfl, rfl, rfl, by simp [put_len]; omega, rfl, rfl, by omega, by omega, by simp⟩, _, [r.2.2.2.1, r.2.2.2.2.1, r.2.2.2.2.2.1, r.2.2.2.2.2.2], ⟨rfl, rfl, rfl, by simp [put_len]; omega, rfl, rfl, by omega, by omega, by simp⟩, wrapI (by omega) (by omega) ⟨⟨trivial, rfl⟩, (i + 1, B ++ putM 4 [r.1] ++ putM 1 [r.2.1] ++ putM 3 [r.2.2.1] ++ putM 4 [r.2.2.2.1, r.2.2.2.2.1, r.2.2.2.2.2.1, r.2.2.2.2.2.2]), ⟨hi, by rw [rcs_take hr, g2, rcBM]; simp only [List.append_assoc]⟩, by dsimp only; omega, rfl, rfl, rfl, rfl, rfl, rfl, rfl, rfl, rfl, rfl, rfl, trivial⟩⟩)
 ·obtain rfl : i = rs.length := by omega
  rw [List.take_length] at g2
  rw [← g2] at hR
  have hl : 4 ≤ B.length ∧ B.length ≤ 5000 := by omega
  clear hl0
  have hp : padM B = B ++ List.replicate ((4 - B.length % 4) % 4) 0 := rfl
  refine ckI (by simp [ofB_len]) ⟨_, rfl, padI (by omega) ?_⟩
  have hpp : (4 - B.length % 4) % 4 < 4 := by omega
  have hz := zeros_of ((4 - B.length % 4) % 4)
  have hlp : (padM B).length = B.length + (4 - B.length % 4) % 4 := by rw [hp]; simp
  generalize (4 - B.length % 4) % 4 = p at hp hpp hz hlp ⊢
  rw [zerosM] at hz
  rw [Int.toNat_natCast, hz]
  refine ckI (by simp [oneL_ofB]; omega) (splitD (fun h0 => ?_) (fun h0 => ?_))
  ·obtain rfl : p = 0 := by omega
   rw [List.replicate_zero, List.append_nil] at hp
   rw [hp] at hR
   refine ckI rfl (ckI (by simp [ofB_len]) ?_)
   have htd : ((B.length : Nat) : Int).tdiv 4 = ((B.length / 4 : Nat) : Int) := rfl
   refine ⟨_, rfl, orC (by omega) (⟨[128 + (rs.length : Int), 201], ⟨rfl, rfl, by omega, by omega, by simp, by simp⟩, ckI (by simp [ofB_len]) ⟨_, rfl, ?_⟩⟩)⟩
   try dsimp only
   rw [htd]
   refine wrapI (by omega) (by omega) ⟨_, [_], ⟨rfl, rfl, rfl, by first | (simp [put_len]; done) | (simp [put_len]; omega), rfl, rfl, by omega, by omega, by simp⟩, ?_⟩
   rw [takeB]
   refine ckI (by simp [ofB_len, oneL_ofB]; omega) (splitB (fun h => by rw [nbeq] at h; exfalso; omega) (fun h => ckI (by simp; omega) (ckI (by simp [ofB_len, put_len]; omega) ?_)))
   rw [ofB_len, ofB_app, oldL_ofB, ← List.length_append]
   exact hq _ _ _ _ ⟨rfl, rfl⟩ ⟨rfl, rfl⟩ ⟨oldL_ofB _ _, noY_ofB _⟩ (by rw [hR]; rfl)
  ·rw [ofB_len (List.replicate p 0), List.length_replicate, oldL_ofB, ofB_app, ← hp]
   refine ckI (by simp; omega) (ckI (by simp [ofB_len]; omega) ?_)
   rw [← hlp]
   generalize padM B = P at hp hR hlp ⊢
   have htd : ((P.length : Nat) : Int).tdiv 4 = ((P.length / 4 : Nat) : Int) := rfl
   refine ⟨_, rfl, orC (by omega) (⟨[128 + (rs.length : Int), 201], ⟨rfl, rfl, by omega, by omega, by simp, by simp⟩, ckI (by simp [ofB_len]) ⟨_, rfl, ?_⟩⟩)⟩
   try dsimp only
   rw [htd]
   refine wrapI (by omega) (by omega) ⟨_, [_], ⟨rfl, rfl, rfl, by first | (simp [put_len]; done) | (simp [put_len]; omega), rfl, rfl, by omega, by omega, by simp⟩, ?_⟩
   rw [takeB]
   refine ckI (by simp [ofB_len, oneL_ofB]; omega) (splitB (fun h => by rw [nbeq] at h; exfalso; omega) (fun h => ckI (by simp; omega) (ckI (by simp [ofB_len, put_len]; omega) ?_)))
   rw [ofB_len, ofB_app, oldL_ofB, ← List.length_append]
   exact hq _ _ _ _ ⟨rfl, rfl⟩ ⟨rfl, rfl⟩ ⟨oldL_ofB _ _, noY_ofB _⟩ (by rw [hR]; rfl)
theorem pk_s1 (bs : List UInt8) (hbs : bs.length ≤ 20000) (f s1 s2 s3 s4 s5 : Int) (rs : List Rc) (hrs : rs.length ≤ 6) (Q : Out → List Blk → Gh → Prop) (hq : Q (.ret (.sl 0 (bs ++ oneM ⟨1, f, 0, s1, s2, s3, s4, s5, rs, [], 0, 0, []⟩).length 0 (bs ++ oneM ⟨1, f, 0, s1, s2, s3, s4, s5, rs, [], 0, 0, []⟩).length 1)) [⟨.grow, true, ofBytes (bs ++ oneM ⟨1, f, 0, s1, s2, s3, s4, s5, rs, [], 0, 0, []⟩)⟩] {}) : ∃ hv hb, goal_46s1 hv hb bs f s1 s2 s3 s4 s5 rs Q := by
 obtain ⟨hv, hb', e⟩ : ∃ hv hb, goal_46s1 hv hb bs f s1 s2 s3 s4 s5 rs Q = _ := ⟨_, _, vc_46s1 bs f s1 s2 s3 s4 s5 rs Q⟩
 refine ⟨hv, hb', e.mpr ?_⟩
 delta zXH5 zXH2 zXH53 zXH0 zXH4 zXH37 zXH36 zXH13 zXH3 zXH12 zXH9 zXH23 zXH27 zXH28 zXH42 zXH14 zXH26 zXH11 zXH47 zXH55 zXH21 zXH46 zXH29 zXH49 zXH35 zXH33 zXH34 zXH54 zXH41 zXH52 zXH16 zXH50 zXH38 zXH17 zXH51 zXH39 zXH32 zXH20
 unfold tlA
 clear e
 have hR : oneM ⟨1, f, 0, s1, s2, s3, s4, s5, rs, [], 0, 0, []⟩ = oneBM (rs.length : Int) 200 (padM (putM 4 [f] ++ putM 4 [s1, s2, s3, s4, s5] ++ rcsBM rs)) := by simp [oneM, bodyM, cntCM, wireM, rcsBM, prsBM, pairsM]
 refine ⟨[f], ⟨rfl, rfl, by omega, by omega, by simp, by simp⟩, ⟨_, [s1, s2, s3, s4, s5], ⟨rfl, rfl, rfl, by simp [put_len], rfl, rfl, by omega, by omega, by simp⟩, _, rfl, _, rfl, ⟨(0, putM 4 [f] ++ putM 4 [s1, s2, s3, s4, s5]), ⟨Nat.zero_le _, by simp [rcsBM]⟩, rfl, rfl, rfl, rfl, rfl, rfl, rfl, rfl, rfl, rfl, rfl, rfl, trivial⟩, ?_⟩⟩
 rintro ⟨i, B⟩ ⟨g1, g2⟩
 dsimp only at g1 g2 ⊢
 have hl0 : 4 ≤ B.length ∧ B.length ≤ 500 := by rw [g2]; simp only [List.length_append, put_len, rcsB_len, List.length_take, List.length_cons, List.length_nil]; omega
 refine splitD (fun h => ?_) (fun h => ?_)
 ·have hi : i < rs.length := by omega
  obtain ⟨r, hr, hc⟩ := cellsR_get hi (Nat.mul_comm 7 i ▸ rfl : i * 7 = 7 * i)
  refine ckI (by simp; omega) (ckI (by simp [cellsR_len]; omega) ⟨r.1, r.2.1, r.2.2.1, r.2.2.2.1, r.2.2.2.2.1, r.2.2.2.2.2.1, r.2.2.2.2.2.2, by rw [Int.toNat_natCast, hc]; rfl, B, [r.1], ⟨rfl, rfl, rfl, by omega, rfl, rfl, by omega, by omega, by simp⟩, _, [r.2.1], ⟨rfl, rfl, rfl, by simp [put_len]; omega, rfl, rfl, by omega, by omega, by simp⟩, _, [r.2.2.1], ⟨rfl, rfl, rfl, by simp [put_len]; omega, rfl, rfl, by omega, by omega, by simp⟩, _, [r.2.2.2.1, r.2.2.2.2.1, r.2.2.2.2.2.1, r.2.2.2.2.2.2], ⟨rfl, rfl, rfl, by simp [put_len]; omega, rfl, rfl, by omega, by omega, by simp⟩, wrapI (by omega) (by omega) ⟨⟨trivial, rfl⟩, (i + 1, B ++ putM 4 [r.1] ++ putM 1 [r.2.1] ++ putM 3 [r.2.2.1] ++ putM 4 [r.2.2.2.1, r.2.2.2.2.1, r.2.2.2.2.2.1, r.2.2.2.2.2.2]), ⟨hi, by rw [rcs_take hr, g2, rcBM]; simp only [List.append_assoc]⟩, by dsimp only; omega, rfl, rfl, rfl, rfl, rfl, rfl, rfl, rfl, rfl, rfl, rfl, rfl, trivial⟩⟩)
 ·obtain rfl : i = rs.length := by omega
  rw [List.take_length] at g2
  rw [← g2] at hR
  have hl : 4 ≤ B.length ∧ B.length ≤ 5000 := by omega
  clear hl0
  have hp : padM B = B ++ List.replicate ((4 - B.length % 4) % 4) 0 := rfl
  refine ckI (by simp [ofB_len]) ⟨_, rfl, padI (by omega) ?_⟩
  have hpp : (4 - B.length % 4) % 4 < 4 := by omega
  have hz := zeros_of ((4 - B.length % 4) % 4)
  have hlp : (padM B).length = B.length + (4 - B.length % 4) % 4 := by rw [hp]; simp
  generalize (4 - B.length % 4) % 4 = p at hp hpp hz hlp ⊢
  rw [zerosM] at hz
  rw [Int.toNat_natCast, hz]
  refine ckI (by simp [oneL_ofB]; omega) (splitD (fun h0 => ?_) (fun h0 => ?_))
  ·obtain rfl : p = 0 := by omega
   rw [List.replicate_zero, List.append_nil] at hp
   rw [hp] at hR
   refine ckI rfl (ckI (by simp [ofB_len]) ?_)
   have htd : ((B.length : Nat) : Int).tdiv 4 = ((B.length / 4 : Nat) : Int) := rfl
   refine ⟨_, rfl, orC (by omega) (⟨bs, [128 + (rs.length : Int), 200], ⟨rfl, rfl, rfl, by omega, rfl, rfl, by omega, by omega, by simp⟩, ckI (by simp [ofB_len]) ⟨_, rfl, ?_⟩⟩)⟩
   try dsimp only
   rw [htd]
   refine wrapI (by omega) (by omega) ⟨_, [_], ⟨rfl, rfl, rfl, by first | (simp [put_len]; done) | (simp [put_len]; omega), rfl, rfl, by omega, by omega, by simp⟩, ?_⟩
   rw [takeB]
   refine ckI (by simp [ofB_len, oneL_ofB]; omega) (splitB (fun h => by rw [nbeq] at h; exfalso; omega) (fun h => ckI (by simp; omega) (ckI (by simp [ofB_len, put_len]; omega) ?_)))
   rw [ofB_len, ofB_app, oldL_ofB, ← List.length_append]
   have hR2 : bs ++ putM 1 [128 + (rs.length : Int), 200] ++ putM 2 [((B.length / 4 : Nat) : Int)] ++ B = bs ++ oneM ⟨1, f, 0, s1, s2, s3, s4, s5, rs, [], 0, 0, []⟩ := by rw [hR, oneBM]; first | (simp only [List.append_assoc]; done) | (simp only [List.append_assoc]; rfl)
   rw [hR2]
   first | exact hq | exact ⟨rfl, hq⟩
  ·rw [ofB_len (List.replicate p 0), List.length_replicate, oldL_ofB, ofB_app, ← hp]
   refine ckI (by simp; omega) (ckI (by simp [ofB_len]; omega) ?_)
   rw [← hlp]
   generalize padM B = P at hp hR hlp ⊢
   have htd : ((P.length : Nat) : Int).tdiv 4 = ((P.length / 4 : Nat) : Int) := rfl
   refine ⟨_, rfl, orC (by omega) (⟨bs, [128 + (rs.length : Int), 200], ⟨rfl, rfl, rfl, by omega, rfl, rfl, by omega, by omega, by simp⟩, ckI (by simp [ofB_len]) ⟨_, rfl, ?_⟩⟩)⟩
   try dsimp only
   rw [htd]
   refine wrapI (by omega) (by omega) ⟨_, [_], ⟨rfl, rfl, rfl, by first | (simp [put_len]; done) | (simp [put_len]; omega), rfl, rfl, by omega, by omega, by simp⟩, ?_⟩
   rw [takeB]
   refine ckI (by simp [ofB_len, oneL_ofB]; omega) (splitB (fun h => by rw [nbeq] at h; exfalso; omega) (fun h => ckI (by simp; omega) (ckI (by simp [ofB_len, put_len]; omega) ?_)))
   rw [ofB_len, ofB_app, oldL_ofB, ← List.length_append]
   have hR2 : bs ++ putM 1 [128 + (rs.length : Int), 200] ++ putM 2 [((P.length / 4 : Nat) : Int)] ++ P = bs ++ oneM ⟨1, f, 0, s1, s2, s3, s4, s5, rs, [], 0, 0, []⟩ := by rw [hR, oneBM]; first | (simp only [List.append_assoc]; done) | (simp only [List.append_assoc]; rfl)
   rw [hR2]
   first | exact hq | exact ⟨rfl, hq⟩
theorem pk_s2 (bs : List UInt8) (hbs : bs.length ≤ 20000) (f : Int) (rs : List Rc) (hrs : rs.length ≤ 6) (Q : Out → List Blk → Gh → Prop) (hq : Q (.ret (.sl 0 (bs ++ oneM ⟨2, f, 0, 0, 0, 0, 0, 0, rs, [], 0, 0, []⟩).length 0 (bs ++ oneM ⟨2, f, 0, 0, 0, 0, 0, 0, rs, [], 0, 0, []⟩).length 1)) [⟨.grow, true, ofBytes (bs ++ oneM ⟨2, f, 0, 0, 0, 0, 0, 0, rs, [], 0, 0, []⟩)⟩] {}) : ∃ hv hb, goal_46s2 hv hb bs f rs Q := by
 obtain ⟨hv, hb', e⟩ : ∃ hv hb, goal_46s2 hv hb bs f rs Q = _ := ⟨_, _, vc_46s2 bs f rs Q⟩
 refine ⟨hv, hb', e.mpr ?_⟩
 delta zXH5 zXH18 zXH53 zXH8 zXH22 zXH28 zXH42 zXH45 zXH30 zXH11 zXH47 zXH55 zXH21 zXH46 zXH29 zXH49 zXH35 zXH33 zXH2 zXH1 zXH6 zXH34 zXH54 zXH13 zXH3 zXH41 zXH27 zXH52 zXH14 zXH16 zXH50 zXH38 zXH17 zXH51 zXH39 zXH32 zXH20
 unfold tlA
 clear e
 have hR : oneM ⟨2, f, 0, 0, 0, 0, 0, 0, rs, [], 0, 0, []⟩ = oneBM (rs.length : Int) 201 (padM (putM 4 [f] ++ rcsBM rs)) := by simp [oneM, bodyM, cntCM, wireM, rcsBM, prsBM, pairsM]
 refine ⟨[f], ⟨rfl, rfl, by omega, by omega, by simp, by simp⟩, _, rfl, _, rfl, ⟨(0, putM 4 [f]), ⟨Nat.zero_le _, by simp [rcsBM]⟩, rfl, rfl, rfl, rfl, rfl, rfl, rfl, rfl, rfl, rfl, rfl, rfl, trivial⟩, ?_⟩
 rintro ⟨i, B⟩ ⟨g1, g2⟩
 dsimp only at g1 g2 ⊢
 have hl0 : 4 ≤ B.length ∧ B.length ≤ 500 := by rw [g2]; simp only [List.length_append, put_len, rcsB_len, List.length_take, List.length_cons, List.length_nil]; omega
 refine splitD (fun h => ?_) (fun h => ?_)
 ·have hi : i < rs.length := by omega
  obtain ⟨r, hr, hc⟩ := cellsR_get hi (Nat.mul_comm 7 i ▸ rfl : i * 7 = 7 * i)
  refine ckI (by simp; omega) (ckI (by simp [cellsR_len]; omega) ⟨r.1, r.2.1, r.2.2.1, r.2.2.2.1, r.2.2.2.2.1, r.2.2.2.2.2.1, r.2.2.2.2.2.2, by rw [Int.toNat_natCast, hc]; rfl, B, [r.1], ⟨rfl, rfl, rfl, by omega, rfl, rfl, by omega, by omega, by simp⟩, _, [r.2.1], ⟨rfl, rfl, rfl, by simp [put_len]; omega, rfl, rfl, by omega, by omega, by simp⟩, _, [r.2.2.1], ⟨rfl, rfl, rfl, by simp [put_len]; omega, rfl, rfl, by omega, by omega, by simp⟩, _, [r.2.2.2.1, r.2.2.2.2.1, r.2.2.2.2.2.1, r.2.2.2.2.2.2], ⟨rfl, rfl, rfl, by simp [put_len]; omega, rfl, rfl, by omega, by omega, by simp⟩, wrapI (by omega) (by omega) ⟨⟨trivial, rfl⟩, (i + 1, B ++ putM 4 [r.1] ++ putM 1 [r.2.1] ++ putM 3 [r.2.2.1] ++ putM 4 [r.2.2.2.1, r.2.2.2.2.1, r.2.2.2.2.2.1, r.2.2.2.2.2.2]), ⟨hi, by rw [rcs_take hr, g2, rcBM]; simp only [List.append_assoc]⟩, by dsimp only; omega, rfl, rfl, rfl, rfl, rfl, rfl, rfl, rfl, rfl, rfl, rfl, rfl, trivial⟩⟩)
 ·obtain rfl : i = rs.length := by omega
  rw [List.take_length] at g2
  rw [← g2] at hR
  have hl : 4 ≤ B.length ∧ B.length ≤ 5000 := by omega
  clear hl0
  have hp : padM B = B ++ List.replicate ((4 - B.length % 4) % 4) 0 := rfl
  refine ckI (by simp [ofB_len]) ⟨_, rfl, padI (by omega) ?_⟩
  have hpp : (4 - B.length % 4) % 4 < 4 := by omega
  have hz := zeros_of ((4 - B.length % 4) % 4)
  have hlp : (padM B).length = B.length + (4 - B.length % 4) % 4 := by rw [hp]; simp
  generalize (4 - B.length % 4) % 4 = p at hp hpp hz hlp ⊢
  rw [zerosM] at hz
  rw [Int.toNat_natCast, hz]
  refine ckI (by simp [oneL_ofB]; omega) (splitD (fun h0 => ?_) (fun h0 => ?_))
  ·obtain rfl : p = 0 := by omega
   rw [List.replicate_zero, List.append_nil] at hp
   rw [hp] at hR
   refine ckI rfl (ckI (by simp [ofB_len]) ?_)
   have htd : ((B.length : Nat) : Int).tdiv 4 = ((B.length / 4 : Nat) : Int) := rfl
   refine ⟨_, rfl, orC (by omega) (⟨bs, [128 + (rs.length : Int), 201], ⟨rfl, rfl, rfl, by omega, rfl, rfl, by omega, by omega, by simp⟩, ckI (by simp [ofB_len]) ⟨_, rfl, ?_⟩⟩)⟩
   try dsimp only
   rw [htd]
   refine wrapI (by omega) (by omega) ⟨_, [_], ⟨rfl, rfl, rfl, by first | (simp [put_len]; done) | (simp [put_len]; omega), rfl, rfl, by omega, by omega, by simp⟩, ?_⟩
   rw [takeB]
   refine ckI (by simp [ofB_len, oneL_ofB]; omega) (splitB (fun h => by rw [nbeq] at h; exfalso; omega) (fun h => ckI (by simp; omega) (ckI (by simp [ofB_len, put_len]; omega) ?_)))
   rw [ofB_len, ofB_app, oldL_ofB, ← List.length_append]
   have hR2 : bs ++ putM 1 [128 + (rs.length : Int), 201] ++ putM 2 [((B.length / 4 : Nat) : Int)] ++ B = bs ++ oneM ⟨2, f, 0, 0, 0, 0, 0, 0, rs, [], 0, 0, []⟩ := by rw [hR, oneBM]; first | (simp only [List.append_assoc]; done) | (simp only [List.append_assoc]; rfl)
   rw [hR2]
   first | exact hq | exact ⟨rfl, hq⟩
  ·rw [ofB_len (List.replicate p 0), List.length_replicate, oldL_ofB, ofB_app, ← hp]
   refine ckI (by simp; omega) (ckI (by simp [ofB_len]; omega) ?_)
   rw [← hlp]
   generalize padM B = P at hp hR hlp ⊢
   have htd : ((P.length : Nat) : Int).tdiv 4 = ((P.length / 4 : Nat) : Int) := rfl
   refine ⟨_, rfl, orC (by omega) (⟨bs, [128 + (rs.length : Int), 201], ⟨rfl, rfl, rfl, by omega, rfl, rfl, by omega, by omega, by simp⟩, ckI (by simp [ofB_len]) ⟨_, rfl, ?_⟩⟩)⟩
   try dsimp only
   rw [htd]
   refine wrapI (by omega) (by omega) ⟨_, [_], ⟨rfl, rfl, rfl, by first | (simp [put_len]; done) | (simp [put_len]; omega), rfl, rfl, by omega, by omega, by simp⟩, ?_⟩
   rw [takeB]
   refine ckI (by simp [ofB_len, oneL_ofB]; omega) (splitB (fun h => by rw [nbeq] at h; exfalso; omega) (fun h => ckI (by simp; omega) (ckI (by simp [ofB_len, put_len]; omega) ?_)))
   rw [ofB_len, ofB_app, oldL_ofB, ← List.length_append]
   have hR2 : bs ++ putM 1 [128 + (rs.length : Int), 201] ++ putM 2 [((P.length / 4 : Nat) : Int)] ++ P = bs ++ oneM ⟨2, f, 0, 0, 0, 0, 0, 0, rs, [], 0, 0, []⟩ := by rw [hR, oneBM]; first | (simp only [List.append_assoc]; done) | (simp only [List.append_assoc]; rfl)
   rw [hR2]
   first | exact hq | exact ⟨rfl, hq⟩
theorem pk_s3 (bs : List UInt8) (hbs : bs.length ≤ 20000) (f : Int) (Q : Out → List Blk → Gh → Prop) (hq : Q (.ret (.sl 0 (bs ++ oneM ⟨3, f, 0, 0, 0, 0, 0, 0, [], [], 0, 0, []⟩).length 0 (bs ++ oneM ⟨3, f, 0, 0, 0, 0, 0, 0, [], [], 0, 0, []⟩).length 1)) [⟨.grow, true, ofBytes (bs ++ oneM ⟨3, f, 0, 0, 0, 0, 0, 0, [], [], 0, 0, []⟩)⟩] {}) : ∃ hv hb, goal_46s3 hv hb bs f Q := by
 obtain ⟨hv, hb', e⟩ : ∃ hv hb, goal_46s3 hv hb bs f Q = _ := ⟨_, _, vc_46s3 bs f Q⟩
 refine ⟨hv, hb', e.mpr ?_⟩
 unfold tlC
 clear e
 have hR : oneM ⟨3, f, 0, 0, 0, 0, 0, 0, [], [], 0, 0, []⟩ = oneBM 1 203 (padM (putM 4 [f])) := by simp [oneM, bodyM, cntCM, wireM, rcsBM, prsBM, pairsM]
 refine ⟨[f], ⟨rfl, rfl, by omega, by omega, by simp, by simp⟩, ?_⟩
 obtain ⟨B, hB⟩ : ∃ B, B = putM 4 [f] := ⟨_, rfl⟩
 have hl : 4 ≤ B.length ∧ B.length ≤ 5000 := by rw [hB, put_len]; simp
 rw [← hB] at hR ⊢
 have hp : padM B = B ++ List.replicate ((4 - B.length % 4) % 4) 0 := rfl
 refine ckI (by simp [ofB_len]) ⟨_, rfl, padI (by omega) ?_⟩
 have hpp : (4 - B.length % 4) % 4 < 4 := by omega
 have hz := zeros_of ((4 - B.length % 4) % 4)
 have hlp : (padM B).length = B.length + (4 - B.length % 4) % 4 := by rw [hp]; simp
 generalize (4 - B.length % 4) % 4 = p at hp hpp hz hlp ⊢
 rw [zerosM] at hz
 rw [Int.toNat_natCast, hz]
 refine ckI (by simp [oneL_ofB]; omega) (splitD (fun h0 => ?_) (fun h0 => ?_))
 ·obtain rfl : p = 0 := by omega
  rw [List.replicate_zero, List.append_nil] at hp
  rw [hp] at hR
  refine ckI rfl (ckI (by simp [ofB_len]) ?_)
  have htd : ((B.length : Nat) : Int).tdiv 4 = ((B.length / 4 : Nat) : Int) := rfl
  refine ⟨bs, [129, 203], ⟨rfl, rfl, rfl, by omega, rfl, rfl, by omega, by omega, by simp⟩, ckI (by simp [ofB_len]) ⟨_, rfl, ?_⟩⟩
  try dsimp only
  rw [htd]
  refine wrapI (by omega) (by omega) ⟨_, [_], ⟨rfl, rfl, rfl, by first | (simp [put_len]; done) | (simp [put_len]; omega), rfl, rfl, by omega, by omega, by simp⟩, ?_⟩
  rw [takeB]
  refine ckI (by simp [ofB_len, oneL_ofB]; omega) (splitB (fun h => by rw [nbeq] at h; exfalso; omega) (fun h => ckI (by simp; omega) (ckI (by simp [ofB_len, put_len]; omega) ?_)))
  rw [ofB_len, ofB_app, oldL_ofB, ← List.length_append]
  have hR2 : bs ++ putM 1 [129, 203] ++ putM 2 [((B.length / 4 : Nat) : Int)] ++ B = bs ++ oneM ⟨3, f, 0, 0, 0, 0, 0, 0, [], [], 0, 0, []⟩ := by rw [hR, oneBM]; first | (simp only [List.append_assoc]; done) | (simp only [List.append_assoc]; rfl)
  rw [hR2]
  first | exact hq | exact ⟨rfl, hq⟩
 ·rw [ofB_len (List.replicate p 0), List.length_replicate, oldL_ofB, ofB_app, ← hp]
  refine ckI (by simp; omega) (ckI (by simp [ofB_len]; omega) ?_)
  rw [← hlp]
  generalize padM B = P at hp hR hlp ⊢
  have htd : ((P.length : Nat) : Int).tdiv 4 = ((P.length / 4 : Nat) : Int) := rfl
  refine ⟨bs, [129, 203], ⟨rfl, rfl, rfl, by omega, rfl, rfl, by omega, by omega, by simp⟩, ckI (by simp [ofB_len]) ⟨_, rfl, ?_⟩⟩
  try dsimp only
  rw [htd]
  refine wrapI (by omega) (by omega) ⟨_, [_], ⟨rfl, rfl, rfl, by first | (simp [put_len]; done) | (simp [put_len]; omega), rfl, rfl, by omega, by omega, by simp⟩, ?_⟩
  rw [takeB]
  refine ckI (by simp [ofB_len, oneL_ofB]; omega) (splitB (fun h => by rw [nbeq] at h; exfalso; omega) (fun h => ckI (by simp; omega) (ckI (by simp [ofB_len, put_len]; omega) ?_)))
  rw [ofB_len, ofB_app, oldL_ofB, ← List.length_append]
  have hR2 : bs ++ putM 1 [129, 203] ++ putM 2 [((P.length / 4 : Nat) : Int)] ++ P = bs ++ oneM ⟨3, f, 0, 0, 0, 0, 0, 0, [], [], 0, 0, []⟩ := by rw [hR, oneBM]; first | (simp only [List.append_assoc]; done) | (simp only [List.append_assoc]; rfl)
  rw [hR2]
  first | exact hq | exact ⟨rfl, hq⟩
theorem pk_s4 (bs : List UInt8) (hbs : bs.length ≤ 20000) (f a : Int) (lo : List Int) (hlo : nacksM lo = true) (Q : Out → List Blk → Gh → Prop) (hq : Q (.ret (.sl 0 (bs ++ oneM ⟨4, f, a, 0, 0, 0, 0, 0, [], lo, 0, 0, []⟩).length 0 (bs ++ oneM ⟨4, f, a, 0, 0, 0, 0, 0, [], lo, 0, 0, []⟩).length 1)) [⟨.grow, true, ofBytes (bs ++ oneM ⟨4, f, a, 0, 0, 0, 0, 0, [], lo, 0, 0, []⟩)⟩] {}) : ∃ hv hb, goal_46s4 hv hb bs f a lo Q := by
 obtain ⟨hv, hb', e⟩ : ∃ hv hb, goal_46s4 hv hb bs f a lo Q = _ := ⟨_, _, vc_46s4 bs f a lo Q⟩
 refine ⟨hv, hb', e.mpr ?_⟩
 delta zXH5 zXH2 zXH40 zXH10 zXH24 zXH37 zXH36 zXH13 zXH3 zXH41 zXH31 zXH25 zXH43 zXH27 zXH28 zXH42 zXH14 zXH26 zXH48 zXH29 zXH46 zXH49 zXH34 zXH54 zXH32 zXH30
 unfold tlC
 clear e
 have hR : oneM ⟨4, f, a, 0, 0, 0, 0, 0, [], lo, 0, 0, []⟩ = oneBM 1 205 (padM (putM 4 [f] ++ putM 4 [a] ++ prsBM (pairsM lo))) := by simp [oneM, bodyM, cntCM, wireM, rcsBM, prsBM, pairsM]
 have hnp := nacks_parts hlo
 have hpl := pairsM_len lo
 refine ⟨[f], ⟨rfl, rfl, by omega, by omega, by simp, by simp⟩, ⟨_, [a], ⟨rfl, rfl, rfl, by simp [put_len], rfl, rfl, by omega, by omega, by simp⟩, lo, ⟨rfl, rfl, hlo⟩, _, rfl, ⟨(0, putM 4 [f] ++ putM 4 [a]), ⟨Nat.zero_le _, by simp [prsBM]⟩, rfl, rfl, rfl, rfl, rfl, rfl, rfl, rfl, rfl, rfl, rfl, rfl, trivial⟩, ?_⟩⟩
 rintro ⟨i, B⟩ ⟨g1, g2⟩
 dsimp only at g1 g2 ⊢
 have hl0 : 4 ≤ B.length ∧ B.length ≤ 500 := by rw [g2]; simp only [List.length_append, put_len, prsB_len, List.length_take, List.length_cons, List.length_nil]; omega
 refine splitD (fun h => ?_) (fun h => ?_)
 ·have hi : i < (pairsM lo).length := by omega
  obtain ⟨r, hr, hc⟩ := cellsP_get hi (Nat.mul_comm 2 i ▸ rfl : i * 2 = 2 * i)
  refine ckI (by simp; omega) (ckI (by first | (simp [cellsPM_len]; done) | (simp [cellsPM_len]; omega)) ⟨r.1, r.2, by first | (rw [Int.toNat_natCast, hc]; done) | (rw [Int.toNat_natCast, hc]; rfl), B, [r.1, r.2], _, _, ⟨rfl, rfl, rfl, by omega, rfl, by omega, rfl, rfl, by omega⟩, wrapI (by omega) (by omega) ⟨⟨trivial, rfl⟩, (i + 1, B ++ putM 2 [r.1, r.2]), ⟨hi, by rw [prs_take hr, g2]; simp only [List.append_assoc]⟩, by dsimp only; omega, rfl, rfl, rfl, rfl, rfl, rfl, rfl, rfl, rfl, rfl, rfl, rfl, trivial⟩⟩)
 ·obtain rfl : i = (pairsM lo).length := by omega
  rw [List.take_length] at g2
  rw [← g2] at hR
  have hl : 4 ≤ B.length ∧ B.length ≤ 5000 := by omega
  clear hl0
  have hp : padM B = B ++ List.replicate ((4 - B.length % 4) % 4) 0 := rfl
  refine ckI (by simp [ofB_len]) ⟨_, rfl, padI (by omega) ?_⟩
  have hpp : (4 - B.length % 4) % 4 < 4 := by omega
  have hz := zeros_of ((4 - B.length % 4) % 4)
  have hlp : (padM B).length = B.length + (4 - B.length % 4) % 4 := by rw [hp]; simp
  generalize (4 - B.length % 4) % 4 = p at hp hpp hz hlp ⊢
  rw [zerosM] at hz
  rw [Int.toNat_natCast, hz]
  refine ckI (by simp [oneL_ofB]; omega) (splitD (fun h0 => ?_) (fun h0 => ?_))
  ·obtain rfl : p = 0 := by omega
   rw [List.replicate_zero, List.append_nil] at hp
   rw [hp] at hR
   refine ckI rfl (ckI (by simp [ofB_len]) ?_)
   have htd : ((B.length : Nat) : Int).tdiv 4 = ((B.length / 4 : Nat) : Int) := rfl
   refine ⟨bs, [129, 205], ⟨rfl, rfl, rfl, by omega, rfl, rfl, by omega, by omega, by simp⟩, ckI (by simp [ofB_len]) ⟨_, rfl, ?_⟩⟩
   try dsimp only
   rw [htd]
   refine wrapI (by omega) (by omega) ⟨_, [_], ⟨rfl, rfl, rfl, by first | (simp [put_len]; done) | (simp [put_len]; omega), rfl, rfl, by omega, by omega, by simp⟩, ?_⟩
   rw [takeB]
   refine ckI (by simp [ofB_len, oneL_ofB]; omega) (splitB (fun h => by rw [nbeq] at h; exfalso; omega) (fun h => ckI (by simp; omega) (ckI (by simp [ofB_len, put_len]; omega) ?_)))
   rw [ofB_len, ofB_app, oldL_ofB, ← List.length_append]
   have hR2 : bs ++ putM 1 [129, 205] ++ putM 2 [((B.length / 4 : Nat) : Int)] ++ B = bs ++ oneM ⟨4, f, a, 0, 0, 0, 0, 0, [], lo, 0, 0, []⟩ := by rw [hR, oneBM]; first | (simp only [List.append_assoc]; done) | (simp only [List.append_assoc]; rfl)
   rw [hR2]
   first | exact hq | exact ⟨rfl, hq⟩
  ·rw [ofB_len (List.replicate p 0), List.length_replicate, oldL_ofB, ofB_app, ← hp]
   refine ckI (by simp; omega) (ckI (by simp [ofB_len]; omega) ?_)
   rw [← hlp]
   generalize padM B = P at hp hR hlp ⊢
   have htd : ((P.length : Nat) : Int).tdiv 4 = ((P.length / 4 : Nat) : Int) := rfl
   refine ⟨bs, [129, 205], ⟨rfl, rfl, rfl, by omega, rfl, rfl, by omega, by omega, by simp⟩, ckI (by simp [ofB_len]) ⟨_, rfl, ?_⟩⟩
   try dsimp only
   rw [htd]
   refine wrapI (by omega) (by omega) ⟨_, [_], ⟨rfl, rfl, rfl, by first | (simp [put_len]; done) | (simp [put_len]; omega), rfl, rfl, by omega, by omega, by simp⟩, ?_⟩
   rw [takeB]
   refine ckI (by simp [ofB_len, oneL_ofB]; omega) (splitB (fun h => by rw [nbeq] at h; exfalso; omega) (fun h => ckI (by simp; omega) (ckI (by simp [ofB_len, put_len]; omega) ?_)))
   rw [ofB_len, ofB_app, oldL_ofB, ← List.length_append]
   have hR2 : bs ++ putM 1 [129, 205] ++ putM 2 [((P.length / 4 : Nat) : Int)] ++ P = bs ++ oneM ⟨4, f, a, 0, 0, 0, 0, 0, [], lo, 0, 0, []⟩ := by rw [hR, oneBM]; first | (simp only [List.append_assoc]; done) | (simp only [List.append_assoc]; rfl)
   rw [hR2]
   first | exact hq | exact ⟨rfl, hq⟩
theorem pk_s5 (bs : List UInt8) (hbs : bs.length ≤ 20000) (f a : Int) (Q : Out → List Blk → Gh → Prop) (hq : Q (.ret (.sl 0 (bs ++ oneM ⟨5, f, a, 0, 0, 0, 0, 0, [], [], 0, 0, []⟩).length 0 (bs ++ oneM ⟨5, f, a, 0, 0, 0, 0, 0, [], [], 0, 0, []⟩).length 1)) [⟨.grow, true, ofBytes (bs ++ oneM ⟨5, f, a, 0, 0, 0, 0, 0, [], [], 0, 0, []⟩)⟩] {}) : ∃ hv hb, goal_46s5 hv hb bs f a Q := by
 obtain ⟨hv, hb', e⟩ : ∃ hv hb, goal_46s5 hv hb bs f a Q = _ := ⟨_, _, vc_46s5 bs f a Q⟩
 refine ⟨hv, hb', e.mpr ?_⟩
 unfold tlC
 clear e
 have hR : oneM ⟨5, f, a, 0, 0, 0, 0, 0, [], [], 0, 0, []⟩ = oneBM 1 206 (padM (putM 4 [f] ++ putM 4 [a])) := by simp [oneM, bodyM, cntCM, wireM, rcsBM, prsBM, pairsM]
 refine ⟨[f], ⟨rfl, rfl, by omega, by omega, by simp, by simp⟩, ⟨_, [a], ⟨rfl, rfl, rfl, by simp [put_len], rfl, rfl, by omega, by omega, by simp⟩, ?_⟩⟩
 obtain ⟨B, hB⟩ : ∃ B, B = putM 4 [f] ++ putM 4 [a] := ⟨_, rfl⟩
 have hl : 4 ≤ B.length ∧ B.length ≤ 5000 := by rw [hB]; simp [put_len]
 rw [← hB] at hR ⊢
 have hp : padM B = B ++ List.replicate ((4 - B.length % 4) % 4) 0 := rfl
 refine ckI (by simp [ofB_len]) ⟨_, rfl, padI (by omega) ?_⟩
 have hpp : (4 - B.length % 4) % 4 < 4 := by omega
 have hz := zeros_of ((4 - B.length % 4) % 4)
 have hlp : (padM B).length = B.length + (4 - B.length % 4) % 4 := by rw [hp]; simp
 generalize (4 - B.length % 4) % 4 = p at hp hpp hz hlp ⊢
 rw [zerosM] at hz
 rw [Int.toNat_natCast, hz]
 refine ckI (by simp [oneL_ofB]; omega) (splitD (fun h0 => ?_) (fun h0 => ?_))
 ·obtain rfl : p = 0 := by omega
  rw [List.replicate_zero, List.append_nil] at hp
  rw [hp] at hR
  refine ckI rfl (ckI (by simp [ofB_len]) ?_)
  have htd : ((B.length : Nat) : Int).tdiv 4 = ((B.length / 4 : Nat) : Int) := rfl
  refine ⟨bs, [129, 206], ⟨rfl, rfl, rfl, by omega, rfl, rfl, by omega, by omega, by simp⟩, ckI (by simp [ofB_len]) ⟨_, rfl, ?_⟩⟩
  try dsimp only
  rw [htd]
  refine wrapI (by omega) (by omega) ⟨_, [_], ⟨rfl, rfl, rfl, by first | (simp [put_len]; done) | (simp [put_len]; omega), rfl, rfl, by omega, by omega, by simp⟩, ?_⟩
  rw [takeB]
  refine ckI (by simp [ofB_len, oneL_ofB]; omega) (splitB (fun h => by rw [nbeq] at h; exfalso; omega) (fun h => ckI (by simp; omega) (ckI (by simp [ofB_len, put_len]; omega) ?_)))
  rw [ofB_len, ofB_app, oldL_ofB, ← List.length_append]
  have hR2 : bs ++ putM 1 [129, 206] ++ putM 2 [((B.length / 4 : Nat) : Int)] ++ B = bs ++ oneM ⟨5, f, a, 0, 0, 0, 0, 0, [], [], 0, 0, []⟩ := by rw [hR, oneBM]; first | (simp only [List.append_assoc]; done) | (simp only [List.append_assoc]; rfl)
  rw [hR2]
  first | exact hq | exact ⟨rfl, hq⟩
 ·rw [ofB_len (List.replicate p 0), List.length_replicate, oldL_ofB, ofB_app, ← hp]
  refine ckI (by simp; omega) (ckI (by simp [ofB_len]; omega) ?_)
  rw [← hlp]
  generalize padM B = P at hp hR hlp ⊢
  have htd : ((P.length : Nat) : Int).tdiv 4 = ((P.length / 4 : Nat) : Int) := rfl
  refine ⟨bs, [129, 206], ⟨rfl, rfl, rfl, by omega, rfl, rfl, by omega, by omega, by simp⟩, ckI (by simp [ofB_len]) ⟨_, rfl, ?_⟩⟩
  try dsimp only
  rw [htd]
  refine wrapI (by omega) (by omega) ⟨_, [_], ⟨rfl, rfl, rfl, by first | (simp [put_len]; done) | (simp [put_len]; omega), rfl, rfl, by omega, by omega, by simp⟩, ?_⟩
  rw [takeB]
  refine ckI (by simp [ofB_len, oneL_ofB]; omega) (splitB (fun h => by rw [nbeq] at h; exfalso; omega) (fun h => ckI (by simp; omega) (ckI (by simp [ofB_len, put_len]; omega) ?_)))
  rw [ofB_len, ofB_app, oldL_ofB, ← List.length_append]
  have hR2 : bs ++ putM 1 [129, 206] ++ putM 2 [((P.length / 4 : Nat) : Int)] ++ P = bs ++ oneM ⟨5, f, a, 0, 0, 0, 0, 0, [], [], 0, 0, []⟩ := by rw [hR, oneBM]; first | (simp only [List.append_assoc]; done) | (simp only [List.append_assoc]; rfl)
  rw [hR2]
  first | exact hq | exact ⟨rfl, hq⟩
theorem pk_s6 (bs : List UInt8) (hbs : bs.length ≤ 20000) (f a ba ro : Int) (ti : List Int) (hti : (stepsRM ti).2.2 = true) (Q : Out → List Blk → Gh → Prop) (hq : Q (.ret (.sl 0 (bs ++ oneM ⟨6, f, a, 0, 0, 0, 0, 0, [], [], ba, ro, ti⟩).length 0 (bs ++ oneM ⟨6, f, a, 0, 0, 0, 0, 0, [], [], ba, ro, ti⟩).length 1)) [⟨.grow, true, ofBytes (bs ++ oneM ⟨6, f, a, 0, 0, 0, 0, 0, [], [], ba, ro, ti⟩)⟩] {}) : ∃ hv hb, goal_46s6 hv hb bs f a ba ro ti Q := by
 obtain ⟨hv, hb', e⟩ : ∃ hv hb, goal_46s6 hv hb bs f a ba ro ti Q = _ := ⟨_, _, vc_46s6 bs f a ba ro ti Q⟩
 refine ⟨hv, hb', e.mpr ?_⟩
 delta zXH5 zXH2 zXH40 zXH7 zXH15 zXH37 zXH36 zXH13 zXH3 zXH41 zXH27 zXH52 zXH44 zXH14
 unfold tlC
 clear e
 have hR : oneM ⟨6, f, a, 0, 0, 0, 0, 0, [], [], ba, ro, ti⟩ = oneBM 15 205 (padM (putM 4 [f] ++ putM 4 [a] ++ (putM 2 [ba] ++ arrM ti ro))) := by simp [oneM, bodyM, cntCM, wireM, rcsBM, prsBM, pairsM]
 have hal := arr_len (ro := ro) hti
 refine ⟨[f], ⟨rfl, rfl, by omega, by omega, by simp, by simp⟩, ⟨_, [a], ⟨rfl, rfl, rfl, by simp [put_len], rfl, rfl, by omega, by omega, by simp⟩, _, [ba], _, _, ⟨rfl, rfl, rfl, by simp [put_len], rfl, by omega, rfl, rfl, by omega⟩, ?_⟩⟩
 refine ckI (by simp [eqAVL, eqAV]) (ckI (by simp [eqAVL, eqAV, eqAVL_ints]) ⟨_, ti, ⟨rfl, rfl, rfl, by simp [put_len], rfl, rfl, hti⟩, ?_⟩)
 obtain ⟨B, hB⟩ : ∃ B, B = putM 4 [f] ++ putM 4 [a] ++ putM 2 [ba] ++ arrM ti ro := ⟨_, rfl⟩
 have hl : 4 ≤ B.length ∧ B.length ≤ 5000 := by rw [hB]; simp [put_len]; omega
 rw [← List.append_assoc, ← hB] at hR
 rw [← hB]
 have hp : padM B = B ++ List.replicate ((4 - B.length % 4) % 4) 0 := rfl
 refine ckI (by simp [ofB_len]) ⟨_, rfl, padI (by omega) ?_⟩
 have hpp : (4 - B.length % 4) % 4 < 4 := by omega
 have hz := zeros_of ((4 - B.length % 4) % 4)
 have hlp : (padM B).length = B.length + (4 - B.length % 4) % 4 := by rw [hp]; simp
 generalize (4 - B.length % 4) % 4 = p at hp hpp hz hlp ⊢
 rw [zerosM] at hz
 rw [Int.toNat_natCast, hz]
 refine ckI (by simp [oneL_ofB]; omega) (splitD (fun h0 => ?_) (fun h0 => ?_))
 ·obtain rfl : p = 0 := by omega
  rw [List.replicate_zero, List.append_nil] at hp
  rw [hp] at hR
  refine ckI rfl (ckI (by simp [ofB_len]) ?_)
  have htd : ((B.length : Nat) : Int).tdiv 4 = ((B.length / 4 : Nat) : Int) := rfl
  refine ⟨bs, [143, 205], ⟨rfl, rfl, rfl, by omega, rfl, rfl, by omega, by omega, by simp⟩, ckI (by simp [ofB_len]) ⟨_, rfl, ?_⟩⟩
  try dsimp only
  rw [htd]
  refine wrapI (by omega) (by omega) ⟨_, [_], ⟨rfl, rfl, rfl, by first | (simp [put_len]; done) | (simp [put_len]; omega), rfl, rfl, by omega, by omega, by simp⟩, ?_⟩
  rw [takeB]
  refine ckI (by simp [ofB_len, oneL_ofB]; omega) (splitB (fun h => by rw [nbeq] at h; exfalso; omega) (fun h => ckI (by simp; omega) (ckI (by simp [ofB_len, put_len]; omega) ?_)))
  rw [ofB_len, ofB_app, oldL_ofB, ← List.length_append]
  have hR2 : bs ++ putM 1 [143, 205] ++ putM 2 [((B.length / 4 : Nat) : Int)] ++ B = bs ++ oneM ⟨6, f, a, 0, 0, 0, 0, 0, [], [], ba, ro, ti⟩ := by rw [hR, oneBM]; first | (simp only [List.append_assoc]; done) | (simp only [List.append_assoc]; rfl)
  rw [hR2]
  first | exact hq | exact ⟨rfl, hq⟩
 ·rw [ofB_len (List.replicate p 0), List.length_replicate, oldL_ofB, ofB_app, ← hp]
  refine ckI (by simp; omega) (ckI (by simp [ofB_len]; omega) ?_)
  rw [← hlp]
  generalize padM B = P at hp hR hlp ⊢
  have htd : ((P.length : Nat) : Int).tdiv 4 = ((P.length / 4 : Nat) : Int) := rfl
  refine ⟨bs, [143, 205], ⟨rfl, rfl, rfl, by omega, rfl, rfl, by omega, by omega, by simp⟩, ckI (by simp [ofB_len]) ⟨_, rfl, ?_⟩⟩
  try dsimp only
  rw [htd]
  refine wrapI (by omega) (by omega) ⟨_, [_], ⟨rfl, rfl, rfl, by first | (simp [put_len]; done) | (simp [put_len]; omega), rfl, rfl, by omega, by omega, by simp⟩, ?_⟩
  rw [takeB]
  refine ckI (by simp [ofB_len, oneL_ofB]; omega) (splitB (fun h => by rw [nbeq] at h; exfalso; omega) (fun h => ckI (by simp; omega) (ckI (by simp [ofB_len, put_len]; omega) ?_)))
  rw [ofB_len, ofB_app, oldL_ofB, ← List.length_append]
  have hR2 : bs ++ putM 1 [143, 205] ++ putM 2 [((P.length / 4 : Nat) : Int)] ++ P = bs ++ oneM ⟨6, f, a, 0, 0, 0, 0, 0, [], [], ba, ro, ti⟩ := by rw [hR, oneBM]; first | (simp only [List.append_assoc]; done) | (simp only [List.append_assoc]; rfl)
  rw [hR2]
  first | exact hq | exact ⟨rfl, hq⟩
end Go.Proofs.YtafchcmemeinlaaDoor
