/-
  Chapter 23: what is shorter than the header is too short; an extension is found (no program here).
-/
import Derived.Test.YtbchmkhliehbfaaDoorM23DP
import Derived.Test.YtbchmkhliehbfaaDoorM23M
set_option linter.unusedSimpArgs false
set_option linter.unusedVariables false
namespace Go.Proofs.YtbchmkhliehbfaaDoor
open Go.RowKit
set_option maxRecDepth 1000000

def codeM (s : List UInt8) : Int := (decM s).2.2.2.2.2.2.2.2.2
theorem decX_true (fl : Int) (l : List UInt8) : (decXM true fl l).2.1 = 7 := by
  unfold decXM
  split
  · split
    · rfl
    · rw [take_true, take_true, decTM, if_pos rfl]
  · rw [decTM, if_pos rfl]
theorem decT_true (bad : Bool) (fl : Int) (l : List UInt8) : (decTM true bad fl l).1 = 7 := by rw [decTM, if_pos rfl]
theorem fst_facts {cs : List Int} {ex : List Xt} {pad : Int} (h1 : cs.length ≤ 15) : fstM cs ex.length pad % 16 = cs.length ∧ 0 ≤ fstM cs ex.length pad ∧ fstM cs ex.length pad < 256 ∧ (ex ≠ [] → fstM cs ex.length pad / 16 % 2 = 1) := by
  have : ex ≠ [] ↔ 0 < ex.length := by rw [List.length_pos_iff]
  rw [this, fstM]
  split <;> split <;> omega
/-- octets that begin with the twelve of a head -/
theorem head12 {f k sq ti ss : Int} {R : List UInt8} (hf : 0 ≤ f ∧ f < 256) (hk : 0 ≤ k ∧ k < 256) (h2 : 0 ≤ sq ∧ sq < 65536) (h3 : 0 ≤ ti ∧ ti < 4294967296) (h4 : 0 ≤ ss ∧ ss < 4294967296) {s : List UInt8} (hs : s = beM f 1 ++ (beM k 1 ++ (beM sq 2 ++ (beM ti 4 ++ (beM ss 4 ++ R))))) :
    takeNM s 1 = f ∧ l5M s = R ∧ s5M s = false := by
  subst hs
  obtain ⟨a1, a2, a3⟩ := take_be (n := f) (k := 1) (j := 1) (r := beM k 1 ++ (beM sq 2 ++ (beM ti 4 ++ (beM ss 4 ++ R)))) rfl hf.1 hf.2 false
  obtain ⟨b1, b2, b3⟩ := take_be (n := k) (k := 1) (j := 1) (r := beM sq 2 ++ (beM ti 4 ++ (beM ss 4 ++ R))) rfl hk.1 hk.2 false
  obtain ⟨c1, c2, c3⟩ := take_be (n := sq) (k := 2) (j := 2) (r := beM ti 4 ++ (beM ss 4 ++ R)) rfl h2.1 h2.2 false
  obtain ⟨d1, d2, d3⟩ := take_be (n := ti) (k := 4) (j := 4) (r := beM ss 4 ++ R) rfl h3.1 h3.2 false
  obtain ⟨e1, e2, e3⟩ := take_be (n := ss) (k := 4) (j := 4) (r := R) rfl h4.1 h4.2 false
  exact ⟨a1, by rw [l5M, a2, b2, c2, d2, e2], by rw [s5M, a2, b2, c2, d2, a3, b3, c3, d3, e3]⟩
theorem s5_short {s : List UInt8} (h : s.length < 12) : s5M s = true := by
  cases hs : s5M s with
  | true => rfl
  | false =>
    have := congrArg List.length (s5_put hs)
    simp only [List.length_append, be_len] at this
    omega
theorem head_split (mk : Bool) (ty sq ti ss : Int) (cs : List Int) (ex : List Xt) (pad : Int) : headM mk ty sq ti ss cs ex pad = beM (fstM cs ex.length pad) 1 ++ (beM (kindM mk ty) 1 ++ (beM sq 2 ++ (beM ti 4 ++ (beM ss 4 ++ (putM 4 cs ++ extHM ex))))) := by
  rw [headM, headBM, ← extHM]
  simp [putM]
theorem tk_be {x : Int} {k : Nat} {R : List UInt8} {n : Nat} (h : k ≤ n) : (beM x k ++ R).take n = beM x k ++ R.take (n - k) := by rw [List.take_append, be_len, List.take_of_length_le (by rw [be_len]; omega)]
theorem code_short {mk : Bool} {ty sq ti ss : Int} {cs : List Int} {ex : List Xt} {pad : Int} (hr : rightM ty sq ti ss cs ex pad = true) (hl : (headM mk ty sq ti ss cs ex pad).length ≤ 1200) {n : Nat} (hn : n < (headM mk ty sq ti ss cs ex pad).length) : codeM ((headM mk ty sq ti ss cs ex pad).take n) = 7 := by
  rw [rightM, Bool.and_eq_true, flagsM, decide_eq_true_eq] at hr
  obtain ⟨⟨r1, r2, r3, r4, r5, r6, r7, r8, r9, r10, r11, r12, r13⟩, ho⟩ := hr
  obtain ⟨f1, f2, f3, f6⟩ := fst_facts (ex := ex) (pad := pad) r12
  have hk : 0 ≤ kindM mk ty ∧ kindM mk ty < 256 := by
    rw [kindM]
    split <;> omega
  have hsl : ((headM mk ty sq ti ss cs ex pad).take n).length = n := by rw [List.length_take]; omega
  have key : ∀ s : List UInt8, s.length ≤ 1200 → (decXM (lackM (s5M s) (l5M s) (takeNM s 1 % 16).toNat) (takeNM s 1) (leftM (l5M s) (takeNM s 1 % 16).toNat)).2.1 = 7 → codeM s = 7 := fun s h1 h2 => by
    rw [codeM, decM, if_neg (by omega), decPM, if_neg (by rw [h2]; omega), zerM]
    exact h2
  refine key _ (by omega) ?_
  by_cases h12 : n < 12
  · rw [s5_short (by omega), lack_true]
    exact decX_true _ _
  have hlen := congrArg List.length (head_split mk ty sq ti ss cs ex pad)
  simp only [List.length_append, be_len, put_len] at hlen
  have hs : (headM mk ty sq ti ss cs ex pad).take n = beM (fstM cs ex.length pad) 1 ++ (beM (kindM mk ty) 1 ++ (beM sq 2 ++ (beM ti 4 ++ (beM ss 4 ++ (putM 4 cs ++ extHM ex).take (n - 12))))) := by
    rw [head_split, tk_be (by omega), tk_be (by omega), tk_be (by omega), tk_be (by omega), tk_be (by omega), show n - 1 - 1 - 2 - 4 - 4 = n - 12 by omega]
  obtain ⟨g1, g2, g3⟩ := head12 ⟨f2, f3⟩ hk ⟨r3, by omega⟩ ⟨r5, by omega⟩ ⟨r7, by omega⟩ hs
  rw [g1, g2, g3, f1, Int.toNat_natCast]
  by_cases hc : n - 12 < 4 * cs.length
  · rw [cs_lack (l := (putM 4 cs ++ extHM ex).take (n - 12)) (sh := false) cs.length (by rw [List.length_take]; omega)]
    exact decX_true _ _
  have hR : (putM 4 cs ++ extHM ex).take (n - 12) = putM 4 cs ++ (extHM ex).take (n - 12 - 4 * cs.length) := by
    rw [List.take_append, put_len, List.take_of_length_le (by rw [put_len]; omega)]
  obtain ⟨c1, c2⟩ := cs_enc (rest := (extHM ex).take (n - 12 - 4 * cs.length)) cs r9 cs.length (Nat.le_refl _)
  rw [List.drop_length, putM, List.nil_append] at c2
  have hm : n - 12 - 4 * cs.length < (extHM ex).length := by omega
  rw [hR, c2, (cs_put (l := putM 4 cs ++ (extHM ex).take (n - 12 - 4 * cs.length)) (sh := false) cs.length (by rw [List.length_append, put_len]; omega)).1]
  generalize hM : n - 12 - 4 * cs.length = m at *
  have hne : ex ≠ [] := by
    rintro rfl
    simp [extHM] at hm
  have hne' : ex.length ≠ 0 := fun q => hne (List.length_eq_zero_iff.1 q)
  have h4 := extP_len4 ex
  have hE : extHM ex = beM (profM (shortM ex)) 2 ++ (beM (((extPM ex).length / 4 : Nat) : Int) 2 ++ extPM ex) := by
    rw [extHM, if_neg hne']
    simp [putM]
  have hEl := congrArg List.length hE
  simp only [List.length_append, be_len] at hEl
  have hLm : ((extHM ex).take m).length = m := by rw [List.length_take]; omega
  rw [decXM, if_pos (f6 hne)]
  split
  · rfl
  rename_i hw
  cases hT : takeSM (takeSM false ((extHM ex).take m) 2) (takeLM ((extHM ex).take m) 2) 2 with
  | true =>
    dsimp only
    rw [decTM, if_pos rfl]
  | false =>
    exfalso
    obtain ⟨t1, t2⟩ := takeS_false hT
    obtain ⟨_, t3⟩ := takeS_false t1
    have k1 := (take_put (l := (extHM ex).take m) (k := 2) (j := 2) rfl t3 false).2.2
    have k2 := (take_put (l := takeLM ((extHM ex).take m) 2) (k := 2) (j := 2) rfl t2 false).2.2
    have t2' : 2 ≤ (takeLM ((extHM ex).take m) 2).length := t2
    have t3' : 2 ≤ ((extHM ex).take m).length := t3
    have hpr := prof_in (shortM ex)
    have hEt : (extHM ex).take m = beM (profM (shortM ex)) 2 ++ (beM (((extPM ex).length / 4 : Nat) : Int) 2 ++ (extPM ex).take (m - 4)) := by
      rw [hE, tk_be (by omega), tk_be (by omega), show m - 2 - 2 = m - 4 by omega]
    obtain ⟨a1, a2, _⟩ := take_be (n := profM (shortM ex)) (k := 2) (j := 2) (r := beM (((extPM ex).length / 4 : Nat) : Int) 2 ++ (extPM ex).take (m - 4)) rfl hpr.1 hpr.2 false
    obtain ⟨b1, b2, _⟩ := take_be (n := (((extPM ex).length / 4 : Nat) : Int)) (k := 2) (j := 2) (r := (extPM ex).take (m - 4)) rfl (by omega) (show (((extPM ex).length / 4 : Nat) : Int) < 65536 by omega) false
    rw [hEt, a2, b2, b1, List.length_take] at hw
    omega
theorem find_self : ∀ (ex : List Xt) (a : Int), extsOkM a ex = true → ∀ (i : Nat) (h : i < ex.length), a < ex[i].1 ∧ findM ex[i].1 ex = some ex[i].2
  | x :: l, a, ho, 0, h => by
    rw [extsOkM, Bool.and_eq_true, decide_eq_true_eq] at ho
    exact ⟨ho.1.1, by rw [findM]; simp⟩
  | x :: l, a, ho, i + 1, h => by
    rw [extsOkM, Bool.and_eq_true, decide_eq_true_eq] at ho
    obtain ⟨h1, h2⟩ := find_self l x.1 ho.2 i (by simpa using h)
    simp only [List.getElem_cons_succ]
    exact ⟨by omega, by rw [findM, if_neg (by omega)]; exact h2⟩
end Go.Proofs.YtbchmkhliehbfaaDoor
