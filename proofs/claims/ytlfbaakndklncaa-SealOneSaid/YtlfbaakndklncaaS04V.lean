/-
  Chapter 4: plain lemmas of SealOne.
-/
import Derived.Test.YtlfbaakndklncaaS04Z
set_option linter.unusedSimpArgs false
set_option linter.unusedVariables false
namespace Go.Proofs.Ytlfbaakndklncaa
open Go.RowKit

def strAM : AV → List UInt8
  | .str x => x
  | _ => []
/-- the pieces, 16 octets each -/
def joinM : List AV → List UInt8
  | [] => []
  | c :: l => sizedM ((strAM c).take 16) 16 ++ joinM l
def valNM : List Nat → Nat
  | [] => 0
  | x :: l => x + 256 * valNM l
def wsM (s : List UInt8) : Nat → Nat
  | 0 => 0
  | i + 1 => wsM s i + (s.getD i 0).toNat * 256 ^ (i % 16)
def cellsNM (l : List Nat) : List AV := l.map fun (n : Nat) => AV.int .i64 (n : Int)
def unNM : AV → Nat
  | .int _ n => n.toNat
  | _ => 0
def fullM (L : List Nat) (i : Nat) : Bool := decide (L.getD 16 0 = 3 ∧ 251 ≤ L.getD 0 0 ∧ ∀ j, j < i → 1 ≤ j → L.getD j 0 = 255)
/-! ## plain lemmas -/
theorem cellsN_len (l : List Nat) : (cellsNM l).length = l.length := by simp [cellsNM]
theorem unN_map (l : List Nat) : (cellsNM l).map unNM = l := by
  induction l with
  | nil => rfl
  | cons x l ih => rw [cellsNM, List.map_cons, List.map_cons, show List.map unNM (List.map (fun (n : Nat) => AV.int .i64 (n : Int)) l) = l from ih]; rfl
theorem ldN {l : List Nat} {j m : Nat} (hj : j < l.length) (hm : m = j) {K : Int → Prop} (hk : K ((l.getD j 0 : Nat) : Int)) : ∃ n : Int, (List.take 1 (List.drop m (cellsNM l))).getD 0 AV.undef = AV.int .i64 n ∧ K n := by
  subst hm
  refine ⟨_, ?_, hk⟩
  rw [List.getD_eq_getElem?_getD, List.getElem?_take, if_pos (by omega), List.getElem?_drop, cellsNM, List.getElem?_map, Nat.add_zero, List.getElem?_eq_getElem hj]
  simp [List.getD_eq_getElem?_getD, hj]
theorem stN {L : List Nat} {j m x : Nat} (hj : j < L.length) (hm : m = j) : setRange (cellsNM L) m [AV.int .i64 (x : Int)] = cellsNM (L.set j x) := by
  subst hm
  rw [List.set_eq_take_append_cons_drop, if_pos hj]
  simp [setRange, cellsNM]
theorem val_set : ∀ (L : List Nat) (i x : Nat), i < L.length → valNM (L.set i x) + L.getD i 0 * 256 ^ i = valNM L + x * 256 ^ i
  | y :: L, 0, x, _ => by simp [valNM]; omega
  | y :: L, i + 1, x, h => by
    have ih := val_set L i x (by simpa using h)
    rw [List.set_cons_succ, valNM, valNM, List.getD_cons_succ, Nat.pow_succ, ← Nat.mul_assoc, ← Nat.mul_assoc]
    generalize L.getD i 0 * 256 ^ i = A at *
    generalize x * 256 ^ i = B at *
    omega
theorem set_get (L : List Nat) (i j x : Nat) (h : i < L.length) : (L.set i x).getD j 0 = if i = j then x else L.getD j 0 := by
  rw [List.getD_eq_getElem?_getD, List.getElem?_set]
  split
  · rename_i e
    subst e
    first | rfl | (rw [if_pos h]; rfl)
  · rw [List.getD_eq_getElem?_getD]
def psM : List UInt8 → Nat → Nat
  | _, 0 => 0
  | q, m + 1 => leNM (q.take 16) + psM (q.drop 16) m
theorem poly_one : ∀ (m f h : Nat) (q : List UInt8), q.length = 16 * m → m ≤ f → h < pM → polyM 1 f h q = (h + (psM q m + m * 340282366920938463463374607431768211456)) % pM
  | 0, f, h, q, hq, _, hp => by
    have : q = [] := List.length_eq_zero_iff.1 (by omega)
    rw [this, poly_nil, psM, Nat.zero_mul, Nat.add_zero, Nat.mod_eq_of_lt hp]
  | m + 1, 0, h, q, hq, hf, _ => by omega
  | m + 1, f + 1, h, q, hq, hf, hp => by
    have hne : ¬ q = [] := fun e => by rw [e] at hq; simp at hq
    have l16 : (q.take 16).length = 16 := by rw [List.length_take]; omega
    rw [polyM, if_neg hne, poly_one m f _ _ (by rw [List.length_drop]; omega) (by omega) (Nat.mod_lt _ (by decide)), Nat.mul_one, leN_app, l16, psM, Nat.mod_add_mod, Nat.succ_mul m]
    have e : leNM [1] * 2 ^ (8 * 16) = 340282366920938463463374607431768211456 := by decide +kernel
    have e2 : 2 ^ (8 * 16) * leNM [1] = 340282366920938463463374607431768211456 := by decide +kernel
    have ex : ∀ A B C : Nat, (0 : Nat) = 0 → h + (A + leNM [1] * 2 ^ (8 * 16)) + (B + C) = h + (A + B + (C + 340282366920938463463374607431768211456)) := fun A B C _ => by rw [e]; omega
    rw [ex _ _ _ rfl]
theorem ws_back (s : List UInt8) (k : Nat) : ∀ j, j ≤ 16 → 16 * k + j ≤ s.length → wsM s (16 * k + j) = wsM s (16 * k) + leNM ((s.drop (16 * k)).take j)
  | 0, _, _ => by simp [leNM]
  | j + 1, h, h2 => by
    have ih := ws_back s k j (by omega) (by omega)
    have hlt : j < (s.drop (16 * k)).length := by rw [List.length_drop]; omega
    have eg : (s.drop (16 * k)).getD j 0 = s.getD (16 * k + j) 0 := by simp [List.getD_eq_getElem?_getD]
    rw [← Nat.add_assoc, wsM, ih, leN_take hlt, eg, show (16 * k + j) % 16 = j by omega, Nat.pow_mul, show (2 : Nat) ^ 8 = 256 from rfl, Nat.add_assoc]
theorem ps_back : ∀ (m : Nat) (s : List UInt8), psM s (m + 1) = psM s m + leNM ((s.drop (16 * m)).take 16)
  | 0, s => by simp [psM]
  | m + 1, s => by
    have ih := ps_back m (s.drop 16)
    rw [psM, ih, psM, List.drop_drop, show 16 + 16 * m = 16 * (m + 1) by omega, Nat.add_assoc]
theorem ws_ps (s : List UInt8) : ∀ m, 16 * m ≤ s.length → wsM s (16 * m) = psM s m
  | 0, _ => rfl
  | m + 1, h => by
    have h1 := ws_back s m 16 (by omega) (by omega)
    rw [show 16 * (m + 1) = 16 * m + 16 by omega, h1, ws_ps s m (by omega), ps_back]
theorem ps_lt (s : List UInt8) : ∀ m, psM s m ≤ m * 340282366920938463463374607431768211456
  | 0 => by simp [psM]
  | m + 1 => by
    have h1 := ps_lt s m
    have h2 := leN_lt ((s.drop (16 * m)).take 16)
    have h3 : (2 : Nat) ^ (8 * ((s.drop (16 * m)).take 16).length) ≤ 2 ^ (8 * 16) := Nat.pow_le_pow_right (by decide) (by rw [List.length_take]; omega)
    have h4 : (2 : Nat) ^ (8 * 16) = 340282366920938463463374607431768211456 := by decide +kernel
    rw [ps_back, Nat.succ_mul m]
    rw [h4] at h3
    generalize leNM (List.take 16 (List.drop (16 * m) s)) = A at *
    omega
theorem val_div : ∀ (n : Nat) (L : List Nat), n ≤ L.length → (∀ j, j < n → L.getD j 0 ≤ 255) → ∃ S, valNM L = S + 256 ^ n * valNM (L.drop n) ∧ S < 256 ^ n
  | 0, L, _, _ => ⟨0, by simp, by decide⟩
  | n + 1, [], h, _ => by simp at h
  | n + 1, x :: L, h, hb => by
    have hx := hb 0 (by omega)
    rw [List.getD_cons_zero] at hx
    obtain ⟨S, h1, h2⟩ := val_div n L (by simpa using h) (fun j hj => by have := hb (j + 1) (by omega); rwa [List.getD_cons_succ] at this)
    refine ⟨x + 256 * S, ?_, ?_⟩
    · rw [valNM, h1, List.drop_succ_cons, Nat.pow_succ, Nat.mul_comm (256 ^ n) 256, Nat.mul_assoc, Nat.mul_add]
      omega
    · rw [Nat.pow_succ]; omega
theorem val_digit (L : List Nat) (hb : ∀ j, L.getD j 0 ≤ 255) (j : Nat) (hj : j < L.length) : L.getD j 0 = valNM L / 256 ^ j % 256 := by
  obtain ⟨S, h1, h2⟩ := val_div j L (by omega) (fun i _ => hb i)
  have h3 : L.drop j = L.getD j 0 :: L.drop (j + 1) := by
    rw [List.drop_eq_getElem_cons hj, List.getD_eq_getElem?_getD, List.getElem?_eq_getElem hj]; rfl
  have h4 := hb j
  rw [h1, Nat.add_mul_div_left _ _ (Nat.pow_pos (by decide)), Nat.div_eq_of_lt h2, Nat.zero_add, h3, valNM]
  omega
/-- the end of a round -/
theorem round_end (L : List Nat) (hl : L.length = 18) (hb : ∀ j, j < 17 → L.getD j 0 ≤ 255) (o : Nat) (ho : o = L.getD 16 0 / 4 + L.getD 17 0 * 64) (L3 : List Nat) (h3 : L3 = ((L.set 16 (L.getD 16 0 % 4)).set 17 0).set 0 (L.getD 0 0 + 5 * o)) :
    valNM L = valNM L3 + o * pM ∧ o = valNM L / 1361129467683753853853498429727072845824 ∧ L3.length = 18 ∧ L3.getD 17 0 = 0 ∧ L3.getD 16 0 ≤ 3 ∧ L3.getD 0 0 ≤ 255 + 5 * o ∧ (∀ j, 1 ≤ j → L3.getD j 0 ≤ 255) := by
  have v1 := val_set L 16 (L.getD 16 0 % 4) (by omega)
  have v2 := val_set (L.set 16 (L.getD 16 0 % 4)) 17 0 (by rw [List.length_set]; omega)
  have v3 := val_set ((L.set 16 (L.getD 16 0 % 4)).set 17 0) 0 (L.getD 0 0 + 5 * o) (by rw [List.length_set, List.length_set]; omega)
  have g : ∀ j, L3.getD j 0 = if 0 = j then L.getD 0 0 + 5 * o else if 17 = j then 0 else if 16 = j then L.getD 16 0 % 4 else L.getD j 0 := fun j => by
    rw [h3, set_get _ _ _ _ (by rw [List.length_set, List.length_set]; omega), set_get _ _ _ _ (by rw [List.length_set]; omega), set_get _ _ _ _ (by omega)]
  rw [← h3] at v3
  rw [set_get _ _ _ _ (by omega), if_neg (by decide)] at v2
  rw [set_get _ _ _ _ (by rw [List.length_set]; omega), if_neg (by decide), set_get _ _ _ _ (by omega), if_neg (by decide)] at v3
  obtain ⟨S, h1, h2⟩ := val_div 16 L (by omega) (fun j hj => hb j (by omega))
  have hd : L.drop 16 = [L.getD 16 0, L.getD 17 0] := by
    apply List.ext_getElem
    · simp [hl]
    · intro i h4 h5
      simp [hl] at h4
      have : i = 0 ∨ i = 1 := by omega
      rcases this with rfl | rfl <;> simp [List.getD_eq_getElem?_getD, hl]
  rw [hd] at h1
  simp only [valNM] at h1
  rw [show (256 : Nat) ^ 16 = 340282366920938463463374607431768211456 by decide] at *
  rw [show (256 : Nat) ^ 17 = 87112285931760246646623899502532662132736 by decide] at *
  rw [Nat.pow_zero] at v3
  have b0 := hb 0 (by decide)
  refine ⟨?_, ?_, by rw [h3]; simp [hl], by rw [g]; rfl, ?_, ?_, fun j hj => ?_⟩
  · unfold pM; omega
  · omega
  · rw [g, if_neg (by decide), if_neg (by decide), if_pos rfl]; omega
  · rw [g, if_pos rfl]; omega
  · rw [g, if_neg (by omega)]
    split
    · omega
    · split
      · omega
      · by_cases h6 : j < 17
        · exact hb j h6
        · rw [List.getD_eq_getElem?_getD, List.getElem?_eq_none (by omega)]; exact Nat.zero_le _
/-- the last subtraction -/
theorem full_end (L : List Nat) (hl : L.length = 18) (hb : ∀ j, L.getD j 0 ≤ 255) (hv : valNM L < 1361129467683753853853498429727072845824) :
    (fullM L 16 = true → valNM L % pM = L.getD 0 0 - 251 ∧ 251 ≤ L.getD 0 0) ∧ (fullM L 16 = false → valNM L % pM = valNM L) := by
  constructor
  · intro hf
    obtain ⟨f1, f2, f3⟩ := of_decide_eq_true hf
    have b0 := hb 0
    have h17 : L.getD 17 0 = 0 := by
      rw [val_digit L hb 17 (by omega)]
      rw [show (256 : Nat) ^ 17 = 87112285931760246646623899502532662132736 by decide]
      omega
    have hL : L = L.getD 0 0 :: (List.replicate 15 255 ++ [3, 0]) := by
      apply List.ext_getElem
      · simp [hl]
      · intro i h4 h5
        have e : L[i] = L.getD i 0 := by rw [List.getD_eq_getElem?_getD, List.getElem?_eq_getElem h4]; rfl
        rw [e]
        have c : i = 0 ∨ (1 ≤ i ∧ i < 16) ∨ i = 16 ∨ i = 17 := by omega
        rcases c with rfl | ⟨c1, c2⟩ | rfl | rfl
        · rfl
        · rw [f3 i c2 c1]
          obtain ⟨k, rfl⟩ : ∃ k, i = k + 1 := ⟨i - 1, by omega⟩
          rw [List.getElem_cons_succ, List.getElem_append_left (by rw [List.length_replicate]; omega), List.getElem_replicate]
        · rw [f1]; rfl
        · rw [h17]; rfl
    generalize L.getD 0 0 = x at *
    rw [hL]
    have e2 : valNM (x :: (List.replicate 15 255 ++ [3, 0])) = x + 256 * valNM (List.replicate 15 255 ++ [3, 0]) := rfl
    have e3 : valNM (List.replicate 15 255 ++ [3, 0]) = 5316911983139663491615228241121378303 := by decide +kernel
    rw [e2, e3]
    unfold pM
    omega
  · intro hf
    have hn := of_decide_eq_false hf
    refine Nat.mod_eq_of_lt (Nat.lt_of_not_le fun hge => hn ?_)
    have d := val_digit L hb
    have key : ∀ v, pM ≤ v → v < 1361129467683753853853498429727072845824 → v / 256 ^ 16 % 256 = 3 ∧ 251 ≤ v / 256 ^ 0 % 256 ∧ ∀ j, j < 16 → 1 ≤ j → v / 256 ^ j % 256 = 255 := fun v h1 h2 => by
      obtain ⟨e, rfl⟩ : ∃ e, v = pM + e := ⟨v - pM, by omega⟩
      have he : e < 5 := by unfold pM at h2; omega
      have : e = 0 ∨ e = 1 ∨ e = 2 ∨ e = 3 ∨ e = 4 := by omega
      rcases this with rfl | rfl | rfl | rfl | rfl <;> decide +kernel
    obtain ⟨k1, k2, k3⟩ := key _ hge hv
    refine ⟨by rw [d 16 (by omega)]; exact k1, by rw [d 0 (by omega)]; exact k2, fun j h1 h2 => by rw [d j (by omega)]; exact k3 j h1 h2⟩
theorem leB_val : ∀ (n : Nat) (L : List Nat), n ≤ L.length → (∀ j, L.getD j 0 ≤ 255) → leBM n (valNM L) = (L.take n).map UInt8.ofNat
  | 0, _, _, _ => by simp [leBM]
  | n + 1, [], h, _ => by simp at h
  | n + 1, x :: L, h, hb => by
    have hx := hb 0
    rw [List.getD_cons_zero] at hx
    rw [valNM, leB_cons hx, leB_val n L (by simpa using h) (fun j => by have := hb (j + 1); rwa [List.getD_cons_succ] at this), List.take_succ_cons, List.map_cons]
theorem join_snoc (a : List AV) (c : AV) : joinM (a ++ [c]) = joinM a ++ sizedM ((strAM c).take 16) 16 := by
  induction a with
  | nil => simp [joinM]
  | cons x a ih => rw [List.cons_append, joinM, ih, joinM, List.append_assoc]
end Go.Proofs.Ytlfbaakndklncaa
