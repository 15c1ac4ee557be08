/-
  Chapter 24: arrivals, read back: the plain part.
-/
import Derived.Test.YtafchcmemeinlaaDoorC24XT
set_option linter.unusedSimpArgs false
set_option linter.unusedVariables false
namespace Go.Proofs.YtafchcmemeinlaaDoor
open Go.RowKit
set_option maxRecDepth 1000000

theorem steps_ext : ∀ (ts : List Int) (ref last : Int) (first : Bool) (acc : List Int) (R : Int) (L : List Int), stepsGoM ref last first ts acc = some (R, L) → (∃ m, L = acc ++ m) ∧ (first = false → R = ref)
 | [], ref, last, first, acc, R, L, h => by
  rw [stepsGoM] at h
  simp only [Option.some.injEq, Prod.mk.injEq] at h
  exact ⟨⟨[], by rw [List.append_nil]; exact h.2.symm⟩, fun _ => h.1.symm⟩
 | t :: ts, ref, last, first, acc, R, L, h => by
  rw [stepsGoM] at h
  split at h
  ·exact steps_ext ts _ _ _ _ _ _ h
  ·split at h
   ·cases h
   ·split at h
    ·obtain ⟨⟨m, hm⟩, hr⟩ := steps_ext ts _ _ _ _ _ _ h
     exact ⟨⟨t % 256 :: m, by rw [hm]; simp⟩, fun hf => by simp_all⟩
    ·split at h
     ·cases h
     ·obtain ⟨⟨m, hm⟩, hr⟩ := steps_ext ts _ _ _ _ _ _ h
      exact ⟨⟨(t - last) :: m, by rw [hm]; simp⟩, fun hf => hr rfl⟩
theorem tail_cons (d : Int) (l : List Int) : tailM (d :: l) = beM d (sgnM d).toNat ++ tailM l := by
 simp only [tailM, List.flatMap_cons, putM, List.append_nil]
theorem tm_go (sg : List Int) (rest : List UInt8) : ∀ (ts ls : List Int) (ref last : Int) (first : Bool) (accS : List Int) (R b : Int) (i : Nat) (acc : List Int), stepsGoM ref last first ts accS = some (R, accS ++ ls) → (if first = true then b = R * 256 else b = last) →
  (∀ j, j < ts.length → sg.getD (i + j) 0 = (sgsM ts ls).getD j 0) → tmRdM sg ts.length i b (tailM ls ++ rest) false acc = (acc ++ ts, false)
 | [], ls, ref, last, first, accS, R, b, i, acc, h, hb, hs => by simp [tmRdM]
 | t :: ts, ls, ref, last, first, accS, R, b, i, acc, h, hb, hs => by
  have h0 := hs 0 (by simp)
  have hs' : ∀ j, j < ts.length → sg.getD (i + 1 + j) 0 = (sgsM (t :: ts) ls).getD (j + 1) 0 := fun j hj => by
   rw [← hs (j + 1) (by simp; omega), show i + 1 + j = i + (j + 1) by omega]
  rw [stepsGoM] at h
  rw [List.length_cons, tmRdM]
  rw [Nat.add_zero] at h0
  split at h
  ·rename_i ht
   rw [sgsM, if_pos ht] at h0 hs'
   simp only [List.getD_cons_zero] at h0
   rw [if_neg (by rw [h0]; decide), if_pos h0]
   rw [tm_go sg rest ts ls ref last first accS R b (i + 1) _ h hb (fun j hj => by rw [hs' j hj]; simp)]
   simp [ht]
  ·rename_i ht
   rw [sgsM, if_neg ht] at h0 hs'
   simp only [List.getD_cons_zero] at h0
   have step : ∀ (d : Int) (m : List Int) (ref' : Int), ls = d :: m → (-32768 ≤ d ∧ d < 32768) → b + d = t → stepsGoM ref' t false ts (accS ++ [d]) = some (R, accS ++ [d] ++ m) → (if false = true ∨ sg.getD i 0 = 3 then (acc, true)
     else if sg.getD i 0 = 0 then tmRdM sg ts.length (i + 1) b (tailM ls ++ rest) false (acc ++ [-1])
     else if sg.getD i 0 = 1 then tmRdM sg ts.length (i + 1) (b + (tkM 1 (tailM ls ++ rest) false).1) (tkM 1 (tailM ls ++ rest) false).2.1 (tkM 1 (tailM ls ++ rest) false).2.2 (acc ++ [b + (tkM 1 (tailM ls ++ rest) false).1])
     else tmRdM sg ts.length (i + 1) (b + sxM (tkM 2 (tailM ls ++ rest) false).1) (tkM 2 (tailM ls ++ rest) false).2.1 (tkM 2 (tailM ls ++ rest) false).2.2 (acc ++ [b + sxM (tkM 2 (tailM ls ++ rest) false).1])) = (acc ++ t :: ts, false) := by
    intro d m ref' hls hd hbt hst
    subst hls
    simp only [List.getD_cons_zero] at h0
    have hs2 : ∀ j, j < ts.length → sg.getD (i + 1 + j) 0 = (sgsM ts m).getD j 0 := fun j hj => by rw [hs' j hj]; simp
    have ih := tm_go sg rest ts m ref' t false (accS ++ [d]) R t (i + 1) (acc ++ [t]) hst rfl hs2
    rw [List.append_assoc] at ih
    rw [tail_cons, List.append_assoc]
    by_cases h1 : 0 ≤ d ∧ d ≤ 255
    ·have e : sgnM d = 1 := by rw [sgnM, if_pos h1]
     rw [h0, e, if_neg (by decide), if_neg (by decide), if_pos rfl]
     have := tk1 (n := d) ⟨by omega, by omega⟩ (tailM m ++ rest) false
     rw [show (1 : Int).toNat = 1 from rfl, this]
     dsimp only
     rw [hbt]
     exact ih
    ·have e : sgnM d = 2 := by rw [sgnM, if_neg h1]
     rw [h0, e, if_neg (by decide), if_neg (by decide), if_neg (by decide)]
     rw [show (2 : Int).toNat = 2 from rfl, tk_be, be_num2]
     dsimp only
     have e2 : sxM (d % 65536) = d := by unfold sxM; split <;> omega
     rw [e2, hbt]
     exact ih
   split at h
   ·cases h
   ·split at h
    ·rename_i hf
     obtain ⟨⟨m, hm⟩, hr⟩ := steps_ext ts _ _ _ _ _ _ h
     have hls : ls = t % 256 :: m := by rw [List.append_assoc] at hm; exact List.append_cancel_left hm
     rw [if_pos hf] at hb
     have := hr rfl
     refine step (t % 256) m (t / 256) hls ⟨by omega, by omega⟩ (by omega) ?_
     rw [← hm]; exact h
    ·rename_i hf
     split at h
     ·cases h
     ·obtain ⟨⟨m, hm⟩, hr⟩ := steps_ext ts _ _ _ _ _ _ h
      have hls : ls = (t - last) :: m := by rw [List.append_assoc] at hm; exact List.append_cancel_left hm
      rw [if_neg hf] at hb
      refine step (t - last) m ref hls ⟨by omega, by omega⟩ (by omega) ?_
      rw [← hm]; exact h
def wdM (S : List Int) (j : Nat) : Int := 49152 + (4096 * S.getD (7 * j) 0 + 1024 * S.getD (7 * j + 1) 0 + 256 * S.getD (7 * j + 2) 0 + 64 * S.getD (7 * j + 3) 0 + 16 * S.getD (7 * j + 4) 0 + 4 * S.getD (7 * j + 5) 0 + S.getD (7 * j + 6) 0)
theorem cur_zero (S : List Int) : ∀ j, curM S (7 * j) = 0
 | 0 => rfl
 | j + 1 => by
  rw [show 7 * (j + 1) = 7 * j + 6 + 1 by omega, curM, if_pos (by omega)]
theorem bits_word (S : List Int) (j : Nat) : bitsM S (7 * (j + 1)) = bitsM S (7 * j) ++ beM (wdM S j) 2 := by
 have c1 : curM S (7 * j + 1) = S.getD (7 * j) 0 := by rw [curM, if_neg (by omega), cur_zero]; omega
 have c2 : curM S (7 * j + 2) = 4 * S.getD (7 * j) 0 + S.getD (7 * j + 1) 0 := by rw [curM, if_neg (by omega), c1]
 have c3 : curM S (7 * j + 3) = 4 * curM S (7 * j + 2) + S.getD (7 * j + 2) 0 := by rw [curM, if_neg (by omega)]
 have c4 : curM S (7 * j + 4) = 4 * curM S (7 * j + 3) + S.getD (7 * j + 3) 0 := by rw [curM, if_neg (by omega)]
 have c5 : curM S (7 * j + 5) = 4 * curM S (7 * j + 4) + S.getD (7 * j + 4) 0 := by rw [curM, if_neg (by omega)]
 have c6 : curM S (7 * j + 6) = 4 * curM S (7 * j + 5) + S.getD (7 * j + 5) 0 := by rw [curM, if_neg (by omega)]
 have b1 : bitsM S (7 * j + 6) = bitsM S (7 * j) := by
  rw [bitsM, if_neg (by omega), bitsM, if_neg (by omega), bitsM, if_neg (by omega), bitsM, if_neg (by omega), bitsM, if_neg (by omega), bitsM, if_neg (by omega)]
 rw [show 7 * (j + 1) = 7 * j + 6 + 1 by omega, bitsM, if_pos (by omega), b1, putM, putM, List.append_nil]
 congr 2
 rw [wdM, c6, c5, c4, c3, c2]
 omega
theorem sg7_wd {S : List Int} (h : ∀ i, 0 ≤ S.getD i 0 ∧ S.getD i 0 ≤ 3) (j : Nat) : sg7M (wdM S j) = [S.getD (7 * j) 0, S.getD (7 * j + 1) 0, S.getD (7 * j + 2) 0, S.getD (7 * j + 3) 0, S.getD (7 * j + 4) 0, S.getD (7 * j + 5) 0, S.getD (7 * j + 6) 0] := by
 have h0 := h (7 * j)
 have h1 := h (7 * j + 1)
 have h2 := h (7 * j + 2)
 have h3 := h (7 * j + 3)
 have h4 := h (7 * j + 4)
 have h5 := h (7 * j + 5)
 have h6 := h (7 * j + 6)
 rw [sg7M, wdM]
 generalize S.getD (7 * j) 0 = a0 at *
 generalize S.getD (7 * j + 1) 0 = a1 at *
 generalize S.getD (7 * j + 2) 0 = a2 at *
 generalize S.getD (7 * j + 3) 0 = a3 at *
 generalize S.getD (7 * j + 4) 0 = a4 at *
 generalize S.getD (7 * j + 5) 0 = a5 at *
 generalize S.getD (7 * j + 6) 0 = a6 at *
 simp only [List.cons.injEq, and_true]
 refine ⟨by omega, by omega, by omega, by omega, by omega, by omega, by omega⟩
def wordsM (S : List Int) (k : Nat) : Nat → List UInt8
 | 0 => []
 | m + 1 => beM (wdM S k) 2 ++ wordsM S (k + 1) m
def sevM (S : List Int) (k : Nat) : Nat → List Int
 | 0 => []
 | m + 1 => sg7M (wdM S k) ++ sevM S (k + 1) m
theorem bits_words (S : List Int) : ∀ m k, bitsM S (7 * (k + m)) = bitsM S (7 * k) ++ wordsM S k m
 | 0, k => by rw [wordsM, List.append_nil]; rfl
 | m + 1, k => by
  rw [show k + (m + 1) = k + 1 + m by omega, bits_words S m (k + 1), bits_word, wordsM, List.append_assoc]
theorem wd_lt {S : List Int} (h : ∀ i, 0 ≤ S.getD i 0 ∧ S.getD i 0 ≤ 3) (j : Nat) : 0 ≤ wdM S j ∧ wdM S j < 65536 := by
 have h0 := h (7 * j)
 have h1 := h (7 * j + 1)
 have h2 := h (7 * j + 2)
 have h3 := h (7 * j + 3)
 have h4 := h (7 * j + 4)
 have h5 := h (7 * j + 5)
 have h6 := h (7 * j + 6)
 rw [wdM]
 omega
theorem sg_read {S : List Int} (hS : ∀ i, 0 ≤ S.getD i 0 ∧ S.getD i 0 ≤ 3) (rest : List UInt8) (c : Int) : ∀ (m k fuel : Nat) (acc : List Int), acc.length = 7 * k → m ≤ fuel → c ≤ 7 * ((k : Int) + m) → 7 * ((k : Int) + m) < c + 7 → sgRdM fuel c acc (wordsM S k m ++ rest) false = (acc ++ sevM S k m, rest, false)
 | 0, k, fuel, acc, h1, h2, h3, h4 => by
  rw [wordsM, sevM, List.nil_append, List.append_nil]
  cases fuel with
  | zero => rfl
  | succ n => rw [sgRdM, if_neg (by omega)]
 | m + 1, k, fuel, acc, h1, h2, h3, h4 => by
  obtain ⟨fuel, rfl⟩ : ∃ g, fuel = g + 1 := ⟨fuel - 1, by omega⟩
  rw [sgRdM, if_pos ⟨by omega, rfl⟩, wordsM, List.append_assoc, tk2 (wd_lt hS k)]
  dsimp only
  rw [sg_read hS rest c m (k + 1) fuel _ (by rw [List.length_append, h1, sg7M]; simp; omega) (by omega) (by omega) (by omega), sevM, List.append_assoc]
theorem sev_get {S : List Int} (hS : ∀ i, 0 ≤ S.getD i 0 ∧ S.getD i 0 ≤ 3) : ∀ (m k i : Nat), i < 7 * m → (sevM S k m).getD i 0 = S.getD (7 * k + i) 0
 | 0, k, i, h => by omega
 | m + 1, k, i, h => by
  rw [sevM, sg7_wd hS]
  by_cases hi : i < 7
  ·match i, hi with
   | 0, _ => rfl
   | 1, _ => rfl
   | 2, _ => rfl
   | 3, _ => rfl
   | 4, _ => rfl
   | 5, _ => rfl
   | 6, _ => rfl
  ·obtain ⟨i, rfl⟩ : ∃ j, i = 7 + j := ⟨i - 7, by omega⟩
   have ih := sev_get hS m (k + 1) i (by omega)
   rw [List.getD_eq_getElem?_getD] at ih
   rw [List.getD_eq_getElem?_getD, List.getElem?_append_right (by simp), show 7 + i - [S.getD (7 * k) 0, S.getD (7 * k + 1) 0, S.getD (7 * k + 2) 0, S.getD (7 * k + 3) 0, S.getD (7 * k + 4) 0, S.getD (7 * k + 5) 0, S.getD (7 * k + 6) 0].length = i by simp, ih]
   congr 1
   omega
theorem sgs_bd : ∀ (ts ls : List Int) (i : Nat), 0 ≤ (sgsM ts ls).getD i 0 ∧ (sgsM ts ls).getD i 0 ≤ 3
 | [], ls, i => by simp [sgsM]
 | t :: ts, ls, i => by
  rw [sgsM]
  split
  ·cases i with
   | zero => simp
   | succ i => simpa using sgs_bd ts ls i
  ·cases i with
   | zero => simp only [List.getD_cons_zero]; unfold sgnM; split <;> omega
   | succ i => simpa using sgs_bd ts (ls.drop 1) i
theorem steps_ref_go : ∀ (ts : List Int) (ref last : Int) (first : Bool) (acc : List Int) (R : Int) (L : List Int), stepsGoM ref last first ts acc = some (R, L) → 0 ≤ ref ∧ ref < 16777216 → 0 ≤ R ∧ R < 16777216
 | [], ref, last, first, acc, R, L, h, hr => by
  rw [stepsGoM] at h
  simp only [Option.some.injEq, Prod.mk.injEq] at h
  rw [← h.1]; exact hr
 | t :: ts, ref, last, first, acc, R, L, h, hr => by
  rw [stepsGoM] at h
  split at h
  ·exact steps_ref_go ts _ _ _ _ _ _ h hr
  ·split at h
   ·cases h
   ·split at h
    ·exact steps_ref_go ts _ _ _ _ _ _ h ⟨by omega, by omega⟩
    ·split at h
     ·cases h
     ·exact steps_ref_go ts _ _ _ _ _ _ h hr
theorem steps_ref {ts : List Int} {R : Int} {L : List Int} (h : stepsM ts = some (R, L)) : 0 ≤ R ∧ R < 16777216 := steps_ref_go ts 0 0 true [] R L h ⟨by omega, by omega⟩
theorem rd_tm {f a ba ro : Int} {ti : List Int} (hf : in32 f) (ha : in32 a) (hb : 0 ≤ ba ∧ ba < 65536) (hr : 0 ≤ ro ∧ ro < 256) (ht : (stepsRM ti).2.2 = true) : readM 205 15 (padM (bodyM ⟨6, f, a, 0, 0, 0, 0, 0, [], [], ba, ro, ti⟩)) = (⟨6, f, a, 0, 0, 0, 0, 0, [], [], ba, ro, ti⟩, true) := by
 obtain ⟨R, L, h1, h2, h3⟩ : ∃ R L, stepsM ti = some (R, L) ∧ 1 ≤ ti.length ∧ ti.length ≤ 64 := by
  unfold stepsRM at ht
  split at ht
  ·rename_i p hp
   exact ⟨p.1, p.2, hp, by simpa using ht⟩
  ·cases ht
 have hR : 0 ≤ R ∧ R < 16777216 := steps_ref h1
 have hS := sgs_bd ti L
 have e : bodyM ⟨6, f, a, 0, 0, 0, 0, 0, [], [], ba, ro, ti⟩ = beM f 4 ++ (beM a 4 ++ (beM ba 2 ++ (beM (ti.length : Int) 2 ++ (beM R 3 ++ (beM ro 1 ++ (wordsM (sgsM ti L) 0 ((ti.length + 6) / 7) ++ tailM L)))))) := by
  have := bits_words (sgsM ti L) ((ti.length + 6) / 7) 0
  rw [Nat.zero_add, Nat.mul_comm 7] at this
  simp [bodyM, putM, pairsM, prsBM, rcsBM, arrM, h1, hdrM, this, bitsM]
 have hw := sg_read hS (tailM L ++ List.replicate ((4 - (bodyM ⟨6, f, a, 0, 0, 0, 0, 0, [], [], ba, ro, ti⟩).length % 4) % 4) 0) (ti.length : Int) ((ti.length + 6) / 7) 0 ti.length [] rfl (by omega) (by omega) (by omega)
 have ht := tm_go (sevM (sgsM ti L) 0 ((ti.length + 6) / 7)) (List.replicate ((4 - (bodyM ⟨6, f, a, 0, 0, 0, 0, 0, [], [], ba, ro, ti⟩).length % 4) % 4) 0) ti L 0 0 true [] R (R * 256) 0 [] h1 rfl (fun j hj => by rw [Nat.zero_add, sev_get hS _ _ _ (by omega)]; simp)
 rw [padM]
 generalize hz : List.replicate ((4 - (bodyM ⟨6, f, a, 0, 0, 0, 0, 0, [], [], ba, ro, ti⟩).length % 4) % 4) (0 : UInt8) = z at *
 rw [e]
 simp only [List.append_assoc]
 rw [readM, if_neg (by decide), if_neg (by decide), if_neg (by decide), if_neg (by decide), if_neg (by decide), if_pos ⟨rfl, rfl⟩, rdTM, tk4 hf]
 dsimp only
 rw [tk4 ha]
 dsimp only
 rw [tk2 hb]
 dsimp only
 rw [tk2 (n := (ti.length : Int)) ⟨by omega, by omega⟩]
 dsimp only
 rw [tk3 hR]
 dsimp only
 rw [tk1 hr]
 dsimp only
 rw [Int.toNat_natCast, hw]
 dsimp only
 rw [List.nil_append, ht]
 rfl
end Go.Proofs.YtafchcmemeinlaaDoor
