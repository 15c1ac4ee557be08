/-
  Chapter 24: contracts of pairs, Pairs, the reference's Fraction; equal lists.
-/
import Derived.Test.YtafchcmemeinlaaDoorC24G
set_option linter.unusedSimpArgs false
set_option linter.unusedVariables false
namespace Go.Proofs.YtafchcmemeinlaaDoor
open Go.RowKit
set_option maxRecDepth 1000000

def plainB : AV → Bool
 | .int _ _ => true | .bool _ => true | .str _ => true | .nils => true | .nilp => true | _ => false
theorem map_plain (τ : Nat) (H : List Blk) (d : Nat) : ∀ l : List AV, (∀ x ∈ l, plainB x = true) → l.map (fun x => frzV τ H (d + 1) x) = l
 | [], _ => rfl
 | x :: l, h => by
  have hx : frzV τ H (d + 1) x = x := by
   have := h x (by simp)
   cases x <;> first | rfl | simp [plainB] at this
  rw [List.map_cons, map_plain τ H d l fun y hy => h y (by simp [hy]), hx]
theorem plain_cellsPM (ps : List (Int × Int)) : ∀ x ∈ cellsPM ps, plainB x = true := by
 intro x hx
 simp only [cellsPM, List.mem_flatMap, List.mem_cons, List.not_mem_nil, or_false] at hx
 obtain ⟨p, _, rfl | rfl⟩ := hx <;> rfl
theorem noT_cellsPM (ps : List (Int × Int)) : noTL (cellsPM ps) = true := by
 induction ps with
 | nil => rfl
 | cons p ps ih => simpa [cellsPM, noTL, noT] using ih
theorem fwd_of (x0 : Int) : ∀ (l : List Int) (far b : Int), nackGoM x0 far l = true → (b - x0) % 65536 ≤ far → fwdM b l = true
 | [], _, _, _, _ => rfl
 | n :: l, far, b, h, hb => by
  rw [nackGoM] at h
  split at h
  ·cases h
  ·rename_i hc
   have h1 : 1 ≤ (n - b) % 65536 := by omega
   rw [fwdM, decide_eq_true h1, Bool.true_and]
   refine fwd_of x0 l _ _ h ?_
   split <;> omega
theorem nacks_parts {xs : List Int} (h : nacksM xs = true) : xs.any (badM 16) = false ∧ (1 ≤ xs.length ∧ xs.length ≤ 64) ∧ fwdM (xs.getD 0 0) (xs.drop 1) = true ∧ nackGoM (xs.getD 0 0) (-1) xs = true := by
 simp only [nacksM, Bool.and_eq_true, decide_eq_true_eq, Bool.not_eq_true'] at h
 obtain ⟨⟨⟨h1, h2⟩, h3⟩, h4⟩ := h
 refine ⟨h3, ⟨h1, h2⟩, ?_, h4⟩
 cases xs with
 | nil => rfl
 | cons x l =>
  simp only [List.getD_cons_zero, List.drop_one, List.tail_cons] at h4 ⊢
  rw [nackGoM] at h4
  split at h4
  ·cases h4
  ·exact fwd_of x l _ x h4 (Int.le_refl _)
theorem frz_sl {τ : Nat} {H : List Blk} {d id tot off len sz : Nat} {b : Blk} {cs : List AV} (hb : H[id]? = some b) (h1 : b.cs.length = tot) (h2 : off + len * sz ≤ tot) (hk : b.k ≠ .ro) (hc : (b.cs.drop off).take (len * sz) = cs) (hp : ∀ x ∈ cs, plainB x = true) :
  frzV τ H (d + 2) (.sl id tot off len sz) = .lst τ cs len sz := by
 have c1 : b.cs.length.beq tot = true := beq_t h1
 have c2 : (off + len * sz).ble tot = true := ble_t h2
 have c3 : (b.k != .ro) = true := by simpa using hk
 rw [frzV]
 simp only [hb, c1, c2, c3, Bool.and_true, cond_true, hc, map_plain τ H d cs hp]
def cPairs : Con
 | [.lst _ l n 1], H, K => ∃ xs : List Int, Lf (l = cellsI xs ∧ n = xs.length ∧ nacksM xs = true) ∧ K (.ret (.lst 0 (cellsPM (pairsM xs)) (pairsM xs).length 2)) H
 | _, _, _ => False
theorem cPairs_view : ∀ args H Q, cPairs args H Q → cPairs args [] fun o H' => H' = [] ∧ (∃ v, o = .ret v ∧ noT v = true) ∧ Q o H := by
 intro args H Q hc
 unfold cPairs at hc
 split at hc
 ·obtain ⟨xs, h, hq⟩ := hc
  exact ⟨xs, h, rfl, ⟨_, rfl, by simp [noT, noT_cellsPM]⟩, hq⟩
 ·exact hc.elim
def cPairsV : Con := fun args H Q => lendL [1] H args fun a => cPairs a H Q

theorem pairs_raw : ValidF Tryd.prog glC 44 cPairs := by
 refine valid_frz (enters_of (by kernel_rfl)) glC_noY 9 (nlR [2]) (wk_nlR _) fun args H Q hc => ?_
 unfold cPairs at hc
 split at hc
 ·rename_i t l n
  obtain ⟨xs, ⟨rfl, rfl, hn⟩, hq⟩ := hc
  obtain ⟨h1, h2, h3, h4⟩ := nacks_parts hn
  obtain ⟨hv, hb', h⟩ := pairs_run t xs (fun o H' _ => ∃ v, o = .ret v ∧ Q (.ret (nlR [2] (frzV 0 H' 9 v))) H) h1 h2 h3 (fun A b m e => by
   refine ⟨_, rfl, ?_⟩
   have ec : cellsPM A ++ [AV.int .i64 b, .int .i64 m] = cellsPM (pairsM xs) := by rw [e]; simp [cellsPM]
   have el : (pairsM xs).length = A.length + 1 := by rw [e]; simp
   have hlen := cellsPM_len (pairsM xs)
   have hle : (cellsPM (pairsM xs)).length ≤ (A.length + 1) * 2 := by omega
   rw [frz_sl (cs := cellsPM (pairsM xs)) rfl (by rw [ec]; show (cellsPM (pairsM xs)).length = _; omega) (by omega) (by simp) (by rw [ec, List.drop_zero]; exact List.take_of_length_le hle) (plain_cellsPM _), ← el]
   exact hq)
  exact ⟨rfl, rfl, _, 1000, envFor24 sm0_ok _ _ _, rfl, h⟩
 ·exact hc.elim
theorem pairs_ok : ValidF Tryd.prog glC 44 cPairsV := valid_view pairs_raw glC_noY [1] cPairs_view

end Go.Proofs.YtafchcmemeinlaaDoor
