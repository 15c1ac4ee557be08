/-
  Chapter 24: Bend.Of as a contract.
-/
import Derived.Test.YtafchcmemeinlaaDoorC24ZF
set_option linter.unusedSimpArgs false
set_option linter.unusedVariables false
set_option linter.unusedSectionVars false
namespace Go.Proofs.YtafchcmemeinlaaDoor
open Go.RowKit
set_option maxRecDepth 1000000

noncomputable def env_30z (hv : Nat → Option Pa) (hb : Nat → Option Bool) : Env := e24 sm0 (fun _ => none) hv hb
noncomputable def goal_30z (hv : Nat → Option Pa) (hb : Nat → Option Bool) (what at' n : Int) (t : Nat) (Q : Out → List Blk → Gh → Prop) : Prop :=
 callx (env_30z hv hb) (wpx (env_30z hv hb) 1000) 30 [.agg (boxM what at' n), .lst t [] 0 13] [] {} Q
theorem vc_30z (what : Int) (at' : Int) (n : Int) (t : Nat) (Q : Out → List Blk → Gh → Prop) : goal_30z (lookV []) (lookB []) what at' n t Q = (
(Q (Out.ret (AV.sl (1 : Nat) (0 : Nat) (0 : Nat) (0 : Nat) (13 : Nat))) ((Blk.mk BK.exact true (boxM what at' n)) :: ((Blk.mk BK.exact true []) :: [])) (Gh.mk (0 : Nat) (0 : Nat) []))) := by kernel_rfl

def nilG : Nat → List AV → List AV
 | 0, l => l
 | n + 1, l => nlL [0, 0, 0, 0, 0, 0, 0, 0, 7, 1, 0, 0, 1] (l.take 13) ++ nilG n (l.drop 13)
def bdK : AV → AV
 | .lst 0 cs n 13 => .lst 0 (nilG n cs) n 13
 | v => v
theorem nlL_len : ∀ (zs : List Nat) (l : List AV), (nlL zs l).length = l.length
 | [], l => by cases l <;> rfl
 | z :: zs, [] => rfl
 | z :: zs, v :: l => by rw [nlL, List.length_cons, nlL_len zs l, List.length_cons]
theorem nilG_len : ∀ (n : Nat) (l : List AV), (nilG n l).length = l.length
 | 0, l => rfl
 | n + 1, l => by
  rw [nilG, List.length_append, nlL_len, nilG_len n, List.length_take, List.length_drop]; omega
theorem wkL_app {a a' b b' : List AV} (hl : a.length = a'.length) (h : wkL a a') (k : wkL b b') : wkL (a ++ b) (a' ++ b') := by
 intro m vs hv
 have h1 := (hv.take a.length)
 have h2 := (hv.drop a.length)
 rw [List.take_left] at h1
 rw [List.drop_left] at h2
 have := (h m _ h1).append (k m _ h2)
 rwa [List.take_append_drop] at this
theorem wk_nilG : ∀ (n : Nat) (l : List AV), wkL l (nilG n l)
 | 0, l => wkL_refl l
 | n + 1, l => by
  have := wkL_app (a := l.take 13) (b := l.drop 13) (by rw [nlL_len]) (wk_nlL [0, 0, 0, 0, 0, 0, 0, 0, 7, 1, 0, 0, 1] (l.take 13)) (wk_nilG n (l.drop 13))
  rwa [List.take_append_drop] at this
theorem wk_bdK (a : AV) : wk a (bdK a) := by
 unfold bdK
 split
 ·exact wk_lst (wk_nilG _ _) (nilG_len _ _) _ _ _
 ·exact wk_refl _
theorem nilG_C (m : Nat) (r : List AV) : ∀ l : List Ctl, nilG (l.length + m) (cellsCM l ++ r) = cellsCM l ++ nilG m r
 | [] => by simp [cellsCM]
 | c :: l => by
  have e : cellsCM (c :: l) = ctC c ++ cellsCM l := rfl
  rw [e, List.length_cons, show l.length + 1 + m = (l.length + m) + 1 by omega, nilG, List.append_assoc]
  rw [List.take_left' (ctC_len c), List.drop_left' (ctC_len c), nilG_C m r l, List.append_assoc]
  rfl
def byeC (n : Int) : Ctl := ⟨3, n, 0, 0, 0, 0, 0, 0, [], [], 0, 0, []⟩
theorem nilG_bye (n : Int) : ∀ m : Nat, nilG m (byesM n m) = cellsCM (List.replicate m (byeC n))
 | 0 => rfl
 | m + 1 => by
  have e : byesM n (m + 1) = byeM n ++ byesM n m := rfl
  rw [e, nilG, List.take_left' (show (byeM n).length = 13 from rfl), List.drop_left' (show (byeM n).length = 13 from rfl), nilG_bye n m, List.replicate_succ]
  rfl
theorem frzC (τ : Nat) (H : List Blk) (d : Nat) : ∀ l : List Ctl, (cellsCM l).map (frzV τ H (d + 1)) = cellsCM l
 | [] => rfl
 | c :: l => by
  have e : cellsCM (c :: l) = ctC c ++ cellsCM l := rfl
  rw [e, List.map_append, frzC τ H d l]
  rfl
theorem frz_bye (τ : Nat) (H : List Blk) (d : Nat) (n : Int) : ∀ m : Nat, (byesM n m).map (frzV τ H (d + 1)) = byesM n m
 | 0 => rfl
 | m + 1 => by
  have e : byesM n (m + 1) = byeM n ++ byesM n m := rfl
  rw [e, List.map_append, frz_bye τ H d n m]
  rfl
theorem frz_of {H : List Blk} {id tot off len : Nat} {b : Blk} (hb : H[id]? = some b) (h1 : b.cs.length = tot) (h2 : off + len * 13 ≤ tot) (hk : b.k ≠ .ro) : frzV 0 H 9 (.sl id tot off len 13) = .lst 0 (((b.cs.drop off).take (len * 13)).map (frzV 0 H 8)) len 13 := by
 rw [frzV]
 have c1 : b.cs.length.beq tot = true := beq_t h1
 have c2 : (off + len * 13).ble tot = true := ble_t h2
 have c3 : (b.k != .ro) = true := by simpa using hk
 simp only [hb, c1, c2, c3, Bool.and_self, cond_true]
def okN (N : Nat) (c : Ctl) : Prop := c.rs.length ≤ N ∧ c.lo.length ≤ N ∧ c.ti.length ≤ N
theorem okN_bye (N : Nat) (n : Int) : okN N (byeC n) := ⟨Nat.zero_le _, Nat.zero_le _, Nat.zero_le _⟩
def cBend : Con
 | [.agg [.int .u8 what, .int .u8 at', .int .i64 n], .lst _ cs k 13], H, K => ∃ (N : Nat) (l : List Ctl), Lf (cs = cellsCM l ∧ k = l.length ∧ l.length ≤ 1000 ∧ N ≤ 900000 ∧ (0 ≤ what ∧ what ≤ 255) ∧ (0 ≤ at' ∧ at' ≤ 255) ∧ ∀ c ∈ l, okN N c) ∧ ∀ l' : List Ctl, Lf (l'.length ≤ l.length + 9 ∧ ∀ c ∈ l', okN (N + 8) c) → K (.ret (.lst 0 (cellsCM l') l'.length 13)) H
 | _, _, _ => False
theorem len_eq (p q : List Ctl) (c : Ctl) : (p ++ c :: q).length = lenM p q := by
 rw [List.length_append, List.length_cons, lenM]; omega
theorem finA {H : List Blk} {p q : List Ctl} {c : Ctl} {n : Int} {m : Nat} {lf : Bool} (hH : H[2]? = some ⟨.grow, lf, cellsCM (p ++ c :: q) ++ byesM n m⟩) :
  bdK (frzV 0 H 9 (.sl 2 (13 * (lenM p q + m)) 0 (lenM p q + m) 13)) = .lst 0 (cellsCM ((p ++ c :: q) ++ List.replicate m (byeC n))) ((p ++ c :: q) ++ List.replicate m (byeC n)).length 13 := by
 have hl : (cellsCM (p ++ c :: q) ++ byesM n m).length = 13 * (lenM p q + m) := by rw [List.length_append, len_pq, byes_len]; omega
 rw [frz_of hH hl (by omega) (by simp)]
 dsimp only
 rw [List.drop_zero, List.take_of_length_le (by omega), List.map_append, frzC 0 H 7, frz_bye 0 H 7]
 have e : ((p ++ c :: q) ++ List.replicate m (byeC n)).length = lenM p q + m := by rw [List.length_append, len_eq, List.length_replicate]
 rw [e, bdK]
 have h2 := nilG_C m (byesM n m) (p ++ c :: q)
 rw [len_eq] at h2
 rw [h2, nilG_bye]
 simp [cellsCM]
theorem finB {H : List Blk} {p q : List Ctl} {c : Ctl} (hf : frzOK p q c H) : bdK (frzV 0 H 9 (.sl 2 (13 * lenM p q) 0 (lenM p q) 13)) = .lst 0 (cellsCM (p ++ c :: q)) (p ++ c :: q).length 13 := by
 obtain ⟨lf, x, hH, hx⟩ := hf
 have hx13 : x.length = 13 := by have := congrArg List.length hx; rwa [List.length_map, ctC_len] at this
 have hl := len_mix p q x hx13
 rw [frz_of hH hl (by omega) (by simp)]
 dsimp only
 rw [List.drop_zero, List.take_of_length_le (by omega), mixM, List.map_append, List.map_append, frzC 0 H 7, frzC 0 H 7, hx, ← at_pq, len_eq, bdK]
 have h2 := nilG_C 0 [] (p ++ c :: q)
 rw [List.append_nil, len_eq, Nat.add_zero] at h2
 rw [h2]; simp [nilG]
theorem finT {H : List Blk} {p q : List Ctl} {c : Ctl} {lf : Bool} (hH : H[2]? = some ⟨.grow, lf, cellsCM (p ++ c :: q)⟩) :
  bdK (frzV 0 H 9 (.sl 2 (13 * lenM p q) 13 (p.length + q.length) 13)) = .lst 0 (cellsCM ((p ++ c :: q).drop 1)) ((p ++ c :: q).drop 1).length 13 := by
 have hN : lenM p q = p.length + q.length + 1 := by unfold lenM; omega
 have hl := len_pq p q c
 rw [frz_of hH hl (by omega) (by simp)]
 dsimp only
 have hd : (cellsCM (p ++ c :: q)).drop 13 = cellsCM ((p ++ c :: q).drop 1) := by
  have e := len_eq p q c
  cases hL : p ++ c :: q with
  | nil => rw [hL] at e; simp at e; omega
  | cons d l => exact List.drop_left' (ctC_len d)
 have e : ((p ++ c :: q).drop 1).length = p.length + q.length := by rw [List.length_drop, len_eq]; omega
 rw [hd, List.take_of_length_le (by rw [cellsC_len, e]; omega), frzC 0 H 7, e, bdK]
 have h2 := nilG_C 0 [] ((p ++ c :: q).drop 1)
 rw [List.append_nil, e, Nat.add_zero] at h2
 rw [h2]; simp [nilG]
theorem split_ix (l : List Ctl) (hl : l ≠ []) (a : Int) (ha : 0 ≤ a) : ∃ p c q, l = p ++ c :: q ∧ a.tmod ((lenM p q : Nat) : Int) = (p.length : Int) := by
 have h1 : 0 < l.length := List.length_pos_iff.2 hl
 have hlt : (a % (l.length : Int)).toNat < l.length := by
  have := Int.emod_lt_of_pos a (show (0 : Int) < (l.length : Int) by omega)
  have := Int.emod_nonneg a (show ((l.length : Nat) : Int) ≠ 0 by omega)
  omega
 refine ⟨l.take (a % (l.length : Int)).toNat, l[(a % (l.length : Int)).toNat], l.drop ((a % (l.length : Int)).toNat + 1), ?_, ?_⟩
 ·rw [List.getElem_cons_drop, List.take_append_drop]
 ·have e : lenM (l.take (a % (l.length : Int)).toNat) (l.drop ((a % (l.length : Int)).toNat + 1)) = l.length := by
   rw [lenM, List.length_take, List.length_drop]; omega
  have := Int.emod_nonneg a (show ((l.length : Nat) : Int) ≠ 0 by omega)
  rw [e, Int.tmod_eq_emod_of_nonneg ha, List.length_take]; omega
theorem bend_raw : ValidF Tryd.prog glC 30 cBend := by
 refine valid_frz (enters_of (by kernel_rfl)) glC_noY 9 bdK wk_bdK fun args H Q hc => ?_
 unfold cBend at hc
 split at hc
 ·rename_i what at' n t cs k
  obtain ⟨N, l, ⟨rfl, rfl, hl, hN, hw, ha, hok⟩, hq⟩ := hc
  refine ⟨rfl, rfl, ?_⟩
  by_cases hnil : l = []
  ·subst hnil
   obtain ⟨hv, hb', e⟩ : ∃ hv hb, goal_30z hv hb what at' n t (fun o H' _ => ∃ v, o = .ret v ∧ Q (.ret (bdK (frzV 0 H' 9 v))) H) = _ := ⟨_, _, vc_30z what at' n t _⟩
   exact ⟨env_30z hv hb', 1000, envFor24 sm0_ok _ _ _, rfl, e.mpr ⟨_, rfl, hq [] ⟨by simp, by simp⟩⟩⟩
  ·obtain ⟨p, c, q, rfl, hp⟩ := split_ix l hnil at' ha.1
   have hlen := len_eq p q c
   have hcN := hok c (by simp)
   have hokC : okC c := ⟨by have := hcN.1; omega, by have := hcN.2.1; omega, by have := hcN.2.2; omega⟩
   have hpq : p.length + q.length ≤ 1000 := by rw [lenM] at hlen; omega
   have up : ∀ c', okB c c' → ∀ d ∈ p ++ c' :: q, okN (N + 8) d := fun c' hb d hd => by
    rcases List.mem_append.1 hd with h | h
    ·have := hok d (by simp [h]); exact ⟨by have := this.1; omega, by have := this.2.1; omega, by have := this.2.2; omega⟩
    ·rcases List.mem_cons.1 h with rfl | h
     ·exact ⟨by have := hcN.1; have := hb.1; omega, by have := hcN.2.1; have := hb.2.1; omega, by have := hcN.2.2; have := hb.2.2; omega⟩
     ·have := hok d (by simp [h]); exact ⟨by have := this.1; omega, by have := this.2.1; omega, by have := this.2.2; omega⟩
   have fB : ∀ c' H', okB c c' → frzOK p q c' H' → ∃ v, Out.ret (.sl 2 (13 * lenM p q) 0 (lenM p q) 13) = .ret v ∧ Q (.ret (bdK (frzV 0 H' 9 v))) H := fun c' H' hb hf => ⟨_, rfl, by
    rw [finB hf]
    exact hq _ ⟨by rw [len_eq, hlen]; omega, up c' hb⟩⟩
   rw [hlen]
   by_cases h4 : what.tmod 12 = 4 ∨ what.tmod 12 = 10
   ·by_cases hz : c.rs.length = 0
    ·have hcc : ({ c with rs := [] } : Ctl) = c := by have := List.eq_nil_of_length_eq_zero hz; rw [← this]
     obtain ⟨hv, hb', h⟩ := bend_rse what at' n t p q c h4 ha hp hpq hokC (fun o H' _ => ∃ v, o = .ret v ∧ Q (.ret (bdK (frzV 0 H' 9 v))) H) fB
     unfold goal_30_rse at h
     rw [hcc] at h
     exact ⟨_, 1000, ⟨mixed24, names24, tabA_ok, sm0_ok⟩, rfl, h⟩
    ·obtain ⟨hv, hb', h⟩ := bend_rsn what at' n t p q c h4 hz ha hp hpq hokC (fun o H' _ => ∃ v, o = .ret v ∧ Q (.ret (bdK (frzV 0 H' 9 v))) H) fB
     exact ⟨_, 1000, ⟨mixed24, names24, tabA_ok, sm0_ok⟩, rfl, h⟩
   by_cases h5 : what.tmod 12 = 5
   ·by_cases hz : c.lo.length = 0
    ·have hcc : ({ c with lo := [] } : Ctl) = c := by have := List.eq_nil_of_length_eq_zero hz; rw [← this]
     obtain ⟨hv, hb', h⟩ := bend_loe what at' n t p q c h5 ha hp hpq hokC (fun o H' _ => ∃ v, o = .ret v ∧ Q (.ret (bdK (frzV 0 H' 9 v))) H) fB
     unfold goal_30_loe at h
     rw [hcc] at h
     exact ⟨_, 1000, ⟨mixed24, names24, tabA_ok, sm0_ok⟩, rfl, h⟩
    ·obtain ⟨hv, hb', h⟩ := bend_lon what at' n t p q c h5 hz ha hp hpq hokC (fun o H' _ => ∃ v, o = .ret v ∧ Q (.ret (bdK (frzV 0 H' 9 v))) H) fB
     exact ⟨_, 1000, ⟨mixed24, names24, tabA_ok, sm0_ok⟩, rfl, h⟩
   by_cases h6 : what.tmod 12 = 6
   ·by_cases hz : c.ti.length = 0
    ·have hcc : ({ c with ti := [] } : Ctl) = c := by have := List.eq_nil_of_length_eq_zero hz; rw [← this]
     obtain ⟨hv, hb', h⟩ := bend_tie what at' n t p q c h6 ha hp hpq hokC (fun o H' _ => ∃ v, o = .ret v ∧ Q (.ret (bdK (frzV 0 H' 9 v))) H) fB
     unfold goal_30_tie at h
     rw [hcc] at h
     exact ⟨_, 1000, ⟨mixed24, names24, tabA_ok, sm0_ok⟩, rfl, h⟩
    ·obtain ⟨hv, hb', h⟩ := bend_tin what at' n t p q c h6 hz ha hp hpq hokC (fun o H' _ => ∃ v, o = .ret v ∧ Q (.ret (bdK (frzV 0 H' 9 v))) H) fB
     exact ⟨_, 1000, ⟨mixed24, names24, tabA_ok, sm0_ok⟩, rfl, h⟩
   obtain ⟨hv, hb', h⟩ := bendA_run what at' n t p q c hw (fun e => h4 (.inl e)) h5 h6 (fun e => h4 (.inr e)) ha hp hpq hokC (fun o H' _ => ∃ v, o = .ret v ∧ Q (.ret (bdK (frzV 0 H' 9 v))) H)
    (fun c' m hb hm => ⟨_, rfl, by
     rw [finA (lf := true) rfl]
     refine hq _ ⟨by rw [List.length_append, len_eq, hlen, List.length_replicate]; omega, fun d hd => ?_⟩
     rcases List.mem_append.1 hd with h | h
     ·exact up c' hb d h
     ·rw [List.eq_of_mem_replicate h]; exact okN_bye _ _⟩)
    ⟨_, rfl, by
     rw [finT (lf := true) rfl]
     exact hq _ ⟨by rw [List.length_drop]; omega, fun d hd => by
      have := hok d (List.mem_of_mem_drop hd)
      exact ⟨by have := this.1; omega, by have := this.2.1; omega, by have := this.2.2; omega⟩⟩⟩
   exact ⟨_, 1000, ⟨mixed24, names24, tabA_ok, sm0_ok⟩, rfl, h⟩
 ·exact hc.elim
end Go.Proofs.YtafchcmemeinlaaDoor
