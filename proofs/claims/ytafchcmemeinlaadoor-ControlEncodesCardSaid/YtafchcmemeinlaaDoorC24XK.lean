/-
  Chapter 24: Encode.
-/
import Derived.Test.YtafchcmemeinlaaDoorC24XJ
set_option linter.unusedSimpArgs false
set_option linter.unusedVariables false
set_option linter.unusedSectionVars false
namespace Go.Proofs.YtafchcmemeinlaaDoor
open Go.RowKit
set_option maxRecDepth 1000000

def encCM (l : List Ctl) : List UInt8 := l.flatMap oneM
def sm24 : SM := lookS [(25, cCheck), (46, cPacket)]
theorem sm24_ok : ∀ f g, sm24 f = some g → ValidF Tryd.prog glC f g := lookS_ok _ (by simp only [List.mem_cons, List.not_mem_nil, or_false, forall_eq_or_imp, forall_eq]; exact ⟨check_raw, packet_ok⟩)
abbrev X24 := Nat × List UInt8 × List AV × List AV × List AV × List AV
def inv_24 (t : Nat) (l : List Ctl) : List LInv := [
 { α := Nat, pre := fun i => Lf (i = 0 ∧ checkM l = true), st := fun i => ⟨mkT [(5, .nils), (13, .lst t (cellsCM l) l.length 13), (14, .int .i64 l.length), (15, .int .i64 (i : Nat))], []⟩, mu := fun i => l.length + 1 },
 { α := X24, pre := fun x => Lf (1 ≤ x.1 ∧ x.1 ≤ l.length ∧ checkM l = true ∧ x.2.1 = encCM (l.take x.1)), st := fun x => ⟨mkT [(5, .sl 4 x.2.1.length 0 x.2.1.length 1), (13, .lst t (cellsCM l) l.length 13), (14, .int .i64 l.length), (15, .int .i64 (x.1 : Nat))], [⟨.exact, true, x.2.2.1⟩, ⟨.exact, true, x.2.2.2.1⟩, ⟨.exact, true, x.2.2.2.2.1⟩, ⟨.grow, true, x.2.2.2.2.2⟩, ⟨.grow, true, ofBytes x.2.1⟩]⟩, mu := fun x => l.length - x.1 }]
noncomputable def env_24 (hv : Nat → Option Pa) (hb : Nat → Option Bool) (t : Nat) (l : List Ctl) : Env := e24 sm24 (fun i => bif Nat.beq i 24000 then some (fun _ => [inv_24 t l]) else none) hv hb
noncomputable def goal_24 (hv : Nat → Option Pa) (hb : Nat → Option Bool) (t : Nat) (l : List Ctl) (Q : Out → List Blk → Gh → Prop) : Prop :=
 callx (env_24 hv hb t l) (wpx (env_24 hv hb t l) 1000) 24 [.lst t (cellsCM l) l.length 13] [] {} Q
abbrev zXK3 (x_3 : Nat × List UInt8 × List AV × List AV × List AV × List AV) (l : List Ctl) : Prop := Lf (1 ≤ x_3.1 ∧ x_3.1 ≤ l.length ∧ checkM l = true ∧ x_3.2.1 = encCM (l.take x_3.1))
abbrev zXK2 (x_3 : Nat) (l : List Ctl) : List AV := ((cellsCM l).drop ((x_3 : Int).toNat * 13)).take 13
abbrev zXK0 : List AV := [.int .i64 0, .int .i64 0, .int .i64 0, .int .i64 0, .int .i64 0, .int .i64 0, .int .i64 0, .int .i64 0, .nils, .nils, .int .i64 0, .int .i64 0, .nils]
abbrev zXK1 (c_4 : Ctl) : List AV := [.int .i64 c_4.1, .int .i64 c_4.2, .int .i64 c_4.3, .int .i64 c_4.4, .int .i64 c_4.5, .int .i64 c_4.6, .int .i64 c_4.7, .int .i64 c_4.8, .lst 0 (cellsRM c_4.9) c_4.9.length 7, .lst 0 (cellsI c_4.10) c_4.10.length 1, .int .i64 c_4.11, .int .i64 c_4.12, .lst 0 (cellsI c_4.13) c_4.13.length 1]
abbrev zXK5 (t : Nat) (l : List Ctl) : Prop := eqqQ (AV.lst t (cellsCM l) l.length 13) ∧ eqqQ (AV.int .i64 (l.length : Int)) ∧ True
abbrev zXK4 (x_3 : Nat × List UInt8 × List AV × List AV × List AV × List AV) (l : List Ctl) : List AV := ((cellsCM l).drop ((x_3.1 : Int).toNat * 13)).take 13
theorem vc_24 (t : Nat) (l : List Ctl) (Q : Out → List Blk → Gh → Prop) : goal_24 (lookV [(98318, .int .i64), (98326, .int .i64), (98328, .int .i64), (98331, .str)]) (lookB []) t l Q = (∃ l_0 : List Ctl, Lf (cellsCM l = cellsCM l_0 ∧
 l.length = l_0.length ∧ l_0.length ≤ 1000000 ∧ ∀ c_1 : Ctl, Membership.mem l_0 c_1 → okC c_1) ∧ ∀ e_1 : Int, Lf (e_1 = ite (checkM l_0 = true) 0 240) → bif e_1 != 0 then Q (.ret (.tup [.str [], .int .i64 e_1])) [] {} else exI .i64
 (l.length : Int) (fun n_2 => ((∃ x_3 : Nat, Lf (x_3 = 0 ∧ checkM l = true) ∧ AV.int .i64 0 = AV.int .i64 (x_3 : Int) ∧ AV.nils = AV.nils ∧ eqqQ (AV.lst t (cellsCM l) l.length 13) ∧ AV.int .i64 n_2 = AV.int .i64 (l.length : Int) ∧ True) ∨ ∃
 x_3 : Nat × List UInt8 × List AV × List AV × List AV × List AV, zXK3 x_3 l ∧ False) ∧ (∀ x_3 : Nat, Lf (x_3 = 0 ∧ checkM l = true) → bif decide ((x_3 : Int) < (l.length : Int)) then ckQ (Nat.blt (x_3 : Int).toNat l.length && true) (ckQ
 (Nat.ble ((x_3 : Int).toNat * 13 + 13) (cellsCM l).length) (ckQ (Nat.beq (zXK2 x_3 l).length 13 && oneL (zXK2 x_3 l) && true) (ckQ (Nat.beq (setRange zXK0 0 (zXK2 x_3 l)).length 13 && true) (∃ c_4 : Ctl, Lf (((setRange zXK0 0 (zXK2 x_3
 l)).drop 0).take 13 = zXK1 c_4 ∧ validM c_4 = true ∧ (Ctl.k c_4 = 1 ∨ Ctl.k c_4 = 2)) ∧ ∀ c1_5 c2_6 c3_7 : List AV, ∀ R_8 : List UInt8, Lf (R_8 = oneM c_4) → exW .i64 ((x_3 : Int) + 1) (fun n_9 => (True ∧ (0 : Nat) = (0 : Nat)) ∧ ((∃ y_10
 : Nat, Lf (y_10 = 0 ∧ checkM l = true) ∧ l.length + 1 < l.length + 1 ∧ False) ∨ ∃ y_10 : Nat × List UInt8 × List AV × List AV × List AV × List AV, zXK3 y_10 l ∧ l.length - y_10.1 < l.length + 1 ∧ ckQ (oldL 0 (zXK2 x_3 l) == true) (setRange
 zXK0 0 (zXK2 x_3 l) = y_10.2.2.1 ∧ c1_5 = y_10.2.2.2.1 ∧ c2_6 = y_10.2.2.2.2.1 ∧ c3_7 = y_10.2.2.2.2.2 ∧ ofBytes R_8 = ofBytes y_10.2.1 ∧ AV.int .i64 n_9 = AV.int .i64 (y_10.1 : Int) ∧ AV.sl 4 R_8.length 0 R_8.length 1 = AV.sl 4
 y_10.2.1.length 0 y_10.2.1.length 1 ∧ zXK5 t l))))))) else exI .i64 0 (fun n_4 => bif decide (n_4 > 1200) then Q (.ret (.tup [.str [], .int .i64 3])) [] {} else exS (.str []) (fun s_5 => Q (.ret (.tup [.str s_5, .int .i64 0])) [] {}))) ∧ ∀
 x_3 : Nat × List UInt8 × List AV × List AV × List AV × List AV, zXK3 x_3 l → bif decide ((x_3.1 : Int) < (l.length : Int)) then ckQ (Nat.blt (x_3.1 : Int).toNat l.length && true) (ckQ (Nat.ble ((x_3.1 : Int).toNat * 13 + 13) (cellsCM
 l).length) (ckQ (Nat.beq (zXK4 x_3 l).length 13 && oneL (zXK4 x_3 l) && true) (ckQ (Nat.beq (setRange zXK0 0 (zXK4 x_3 l)).length 13 && true) (∃ bs_4 : List UInt8, ∃ c_5 : Ctl, Lf (GetElem?.getElem? [Blk.mk BK.exact true x_3.2.2.1, Blk.mk
 BK.exact true x_3.2.2.2.1, Blk.mk BK.exact true x_3.2.2.2.2.1, Blk.mk BK.grow true x_3.2.2.2.2.2, Blk.mk BK.grow true (ofBytes x_3.2.1), Blk.mk BK.exact (oldL 0 (zXK4 x_3 l)) (setRange zXK0 0 (zXK4 x_3 l))] 4 = Option.some (Blk.mk BK.grow
 true (ofBytes bs_4)) ∧ x_3.2.1.length = bs_4.length ∧ x_3.2.1.length = bs_4.length ∧ bs_4.length ≤ 20000 ∧ ((setRange zXK0 0 (zXK4 x_3 l)).drop 0).take 13 = zXK1 c_5 ∧ validM c_5 = true) ∧ ∀ R_6 : List UInt8, Lf (R_6 = bs_4 ++ oneM c_5) →
 exW .i64 ((x_3.1 : Int) + 1) (fun n_7 => (True ∧ (0 : Nat) = (0 : Nat)) ∧ ((∃ y_8 : Nat, Lf (y_8 = 0 ∧ checkM l = true) ∧ l.length + 1 < l.length - x_3.1 ∧ False) ∨ ∃ y_8 : Nat × List UInt8 × List AV × List AV × List AV × List AV, zXK3 y_8
 l ∧ l.length - y_8.1 < l.length - x_3.1 ∧ x_3.2.2.1 = y_8.2.2.1 ∧ x_3.2.2.2.1 = y_8.2.2.2.1 ∧ x_3.2.2.2.2.1 = y_8.2.2.2.2.1 ∧ x_3.2.2.2.2.2 = y_8.2.2.2.2.2 ∧ ofBytes R_6 = ofBytes y_8.2.1 ∧ AV.int .i64 n_7 = AV.int .i64 (y_8.1 : Int) ∧
 AV.sl 4 R_6.length 0 R_6.length 1 = AV.sl 4 y_8.2.1.length 0 y_8.2.1.length 1 ∧ zXK5 t l)))))) else ckQ (Nat.beq (ofBytes x_3.2.1).length x_3.2.1.length) (exI .i64 (x_3.2.1.length : Int) (fun n_4 => bif decide (n_4 > 1200) then Q (.ret
 (.tup [.str [], .int .i64 3])) [] {} else ckQ (Nat.beq (ofBytes x_3.2.1).length x_3.2.1.length && Nat.ble (0 + x_3.2.1.length) x_3.2.1.length && true && allU8 (((ofBytes x_3.2.1).drop 0).take x_3.2.1.length)) (exS (.str (List.map toB
 (((ofBytes x_3.2.1).drop 0).take x_3.2.1.length))) (fun s_5 => Q (.ret (.tup [.str s_5, .int .i64 0])) [] {})))))) := by kernel_rfl

theorem check_iff (l : List Ctl) : checkM l = true ↔ (1 ≤ l.length ∧ l.length ≤ 8) ∧ headOkM l = true ∧ ∀ c ∈ l, validM c = true := by
 simp only [checkM, Bool.and_eq_true, decide_eq_true_eq, List.all_eq_true, and_assoc]
theorem pad_len (b : List UInt8) : b.length ≤ (padM b).length ∧ (padM b).length ≤ b.length + 3 ∧ (padM b).length % 4 = 0 := by
 rw [padM, List.length_append, List.length_replicate]; omega
theorem oneB_len (n k : Int) (b : List UInt8) : (oneBM n k b).length = 4 + b.length := by
 simp only [oneBM, List.length_append, put_len, List.length_cons, List.length_nil]
theorem body_len {c : Ctl} (h : validM c = true) : 4 ≤ (bodyM c).length ∧ (bodyM c).length ≤ 450 := by
 rcases valid_cases h with ⟨f, s1, s2, s3, s4, s5, rs, rfl, hrs⟩ | ⟨f, rs, rfl, hrs⟩ | ⟨f, rfl⟩ | ⟨f, a, lo, rfl, hlo⟩ | ⟨f, a, rfl⟩ | ⟨f, a, ba, ro, ti, rfl, hti⟩
 all_goals simp only [bodyM, List.length_append, put_len, List.length_cons, List.length_nil, rcsB_len, prsB_len]
 ·simp [pairsM, put_len]; omega
 ·simp [pairsM]; omega
 ·simp [pairsM]
 ·have := pairsM_len lo
  have := (nacks_parts hlo).2.1
  simp [put_len]; omega
 ·simp [pairsM, put_len]
 ·have := arr_len (ro := ro) hti
  simp [pairsM, put_len]; omega
theorem one_len {c : Ctl} (h : validM c = true) : 8 ≤ (oneM c).length ∧ (oneM c).length ≤ 460 ∧ (oneM c).length % 4 = 0 := by
 have h1 := body_len h
 have h2 := pad_len (bodyM c)
 rw [oneM, oneB_len]; omega
theorem encC_app (a b : List Ctl) : encCM (a ++ b) = encCM a ++ encCM b := by simp [encCM]
theorem encC_take {l : List Ctl} {i : Nat} {c : Ctl} (h : l[i]? = some c) : encCM (l.take (i + 1)) = encCM (l.take i) ++ oneM c := by
 rw [List.take_add_one, h, encC_app]; simp [encCM]
theorem encC_le : ∀ l : List Ctl, (∀ c ∈ l, validM c = true) → (encCM l).length ≤ 460 * l.length
 | [], _ => by simp [encCM]
 | c :: l, h => by
  have h1 := one_len (h c (by simp))
  have h2 := encC_le l (fun d hd => h d (by simp [hd]))
  have e : encCM (c :: l) = oneM c ++ encCM l := rfl
  rw [e, List.length_append, List.length_cons]; omega
theorem setC (c : Ctl) : setRange [.int .i64 0, .int .i64 0, .int .i64 0, .int .i64 0, .int .i64 0, .int .i64 0, .int .i64 0, .int .i64 0, .nils, .nils, .int .i64 0, .int .i64 0, .nils] 0 (ctC c) = ctC c := rfl
theorem allU8_ofB : ∀ l : List UInt8, allU8 (ofBytes l) = true
 | [] => rfl
 | x :: l => allU8_ofB l
def encRM (l : List Ctl) : List UInt8 × Int := if checkM l = true then (if (encCM l).length ≤ 1200 then (encCM l, 0) else ([], 3)) else ([], 240)
theorem enc_run (t : Nat) (l : List Ctl) (hok : ∀ c ∈ l, okC c) (hl : l.length ≤ 1000000) (Q : Out → List Blk → Gh → Prop) (hq : ∀ s e, encRM l = (s, e) → Q (.ret (.tup [.str s, .int .i64 e])) [] {}) : ∃ hv hb, goal_24 hv hb t l Q := by
 obtain ⟨hv, hb', e⟩ : ∃ hv hb, goal_24 hv hb t l Q = _ := ⟨_, _, vc_24 t l Q⟩
 refine ⟨hv, hb', e.mpr ?_⟩
 delta zXK3 zXK2 zXK0 zXK1 zXK5 zXK4
 clear e
 refine ⟨l, ⟨rfl, rfl, hl, hok⟩, ?_⟩
 rintro e ⟨he⟩
 refine splitNE (fun h0 => ?_) (fun h0 => ?_)
 ·have hc : ¬ checkM l = true := fun h => h0 (by rw [he, if_pos h])
  rw [he, if_neg hc]
  exact hq _ _ (by rw [encRM, if_neg hc])
 ·have hc : checkM l = true := by
   cases h : checkM l
   ·rw [if_neg (by rw [h]; simp)] at he; omega
   ·rfl
  obtain ⟨k1, k2, k3⟩ := (check_iff l).1 hc
  refine ⟨_, rfl, .inl ⟨0, ⟨rfl, hc⟩, rfl, rfl, rfl, rfl, trivial⟩, ?_, ?_⟩
  ·rintro _ ⟨rfl, _⟩
   refine splitD (fun h => ?_) (fun h => by exfalso; omega)
   obtain ⟨c, hr, hcc⟩ := cellsC_get (l := l) (i := 0) (by omega) rfl
   have hm := List.mem_of_getElem? hr
   have hk : c.k = 1 ∨ c.k = 2 := by
    rw [headOk_eq k1.1, decide_eq_true_eq] at k2
    cases l with
    | nil => simp at hr
    | cons d l => simp at hr; subst hr; exact k2
   rw [show (Int.toNat ((0 : Nat) : Int)) * 13 = 0 from rfl]
   rw [show 13 * 0 = 0 from rfl] at hcc
   rw [hcc, setC]
   refine ckI (by simp; omega) (ckI (by simp [cellsC_len]; omega) (ckI rfl (ckI rfl ⟨c, ⟨rfl, k3 c hm, hk⟩, ?_⟩)))
   rintro c1 c2 c3 R ⟨hR⟩
   refine wrapI (by omega) (by omega) ⟨⟨trivial, rfl⟩, .inr ⟨(1, R, ctC c, c1, c2, c3), ⟨by simp, k1.1, hc, ?_⟩, by dsimp only; omega, ckI rfl ⟨rfl, rfl, rfl, rfl, rfl, rfl, rfl, rfl, rfl, trivial⟩⟩⟩
   rw [encC_take hr, hR]; simp [encCM]
  ·rintro ⟨i, B, J⟩ ⟨g1, g2, g3, g4⟩
   dsimp only at g1 g2 g4 ⊢
   have hBl : B.length ≤ 460 * 8 := by
    rw [g4]
    have := encC_le (l.take i) (fun c hcm => k3 c (List.mem_of_mem_take hcm))
    have h2 : (l.take i).length ≤ 8 := by rw [List.length_take]; omega
    omega
   refine splitD (fun h => ?_) (fun h => ?_)
   ·have hi : i < l.length := by omega
    obtain ⟨c, hr, hcc⟩ := cellsC_get hi (Nat.mul_comm 13 i ▸ rfl : i * 13 = 13 * i)
    have hm := List.mem_of_getElem? hr
    rw [Int.toNat_natCast, hcc, setC]
    refine ckI (by simp; omega) (ckI (by simp [cellsC_len]; omega) (ckI rfl (ckI rfl ⟨B, c, ⟨rfl, rfl, rfl, by omega, rfl, k3 c hm⟩, ?_⟩)))
    rintro R ⟨hR⟩
    exact wrapI (by omega) (by omega) ⟨⟨trivial, rfl⟩, .inr ⟨(i + 1, R, J), ⟨by simp, hi, hc, by rw [encC_take hr, hR, g4]⟩, by dsimp only; omega, rfl, rfl, rfl, rfl, rfl, rfl, rfl, rfl, rfl, trivial⟩⟩
   ·have hi : i = l.length := by omega
    subst hi
    rw [List.take_length] at g4
    subst g4
    have et : List.take (encCM l).length (List.drop 0 (ofBytes (encCM l))) = ofBytes (encCM l) := by
     rw [List.drop_zero]; exact List.take_of_length_le (by rw [ofB_len]; exact Nat.le_refl _)
    refine ckI (by simp [ofB_len]) ⟨_, rfl, splitD (fun h2 => ?_) (fun h2 => ?_)⟩
    ·exact hq _ _ (by rw [encRM, if_pos hc, if_neg (by omega)])
    ·rw [et, toB_ofB]
     exact ckI (by simp [ofB_len, allU8_ofB]) ⟨_, rfl, hq _ _ (by rw [encRM, if_pos hc, if_pos (by omega)])⟩
def cEnc : Con
 | [.lst _ cs n 13], H, K => ∃ l : List Ctl, Lf (cs = cellsCM l ∧ n = l.length ∧ l.length ≤ 1000000 ∧ ∀ c ∈ l, okC c) ∧ ∀ s e, Lf (encRM l = (s, e)) → K (.ret (.tup [.str s, .int .i64 e])) H
 | _, _, _ => False
theorem enc_raw : ValidF Tryd.prog glC 24 cEnc := by
 refine valid_flat (enters_of (by kernel_rfl)) glC_noY fun args H Q hc => ?_
 unfold cEnc at hc
 split at hc
 ·obtain ⟨l, ⟨rfl, rfl, h1, h2⟩, hq⟩ := hc
  obtain ⟨hv, hb', h⟩ := enc_run _ l h2 h1 (fun o H' _ => H' = [] ∧ (∃ v, o = .ret v ∧ old 0 v = true ∧ noY v = true) ∧ Q o H) (fun s e he => ⟨rfl, ⟨_, rfl, rfl, rfl⟩, hq s e ⟨he⟩⟩)
  exact ⟨rfl, rfl, _, 1000, envFor24 sm24_ok _ _ _, rfl, h⟩
 ·exact hc.elim
def cEncV : Con := fun args H Q => lendL [13] H args fun a => cEnc a H Q
theorem enc_ok : ValidF Tryd.prog glC 24 cEncV := valid_view enc_raw glC_noY [13] fun args H Q hc => by
 unfold cEnc at hc
 split at hc
 ·obtain ⟨xs, h, hq⟩ := hc
  exact ⟨xs, h, fun s e he => ⟨rfl, ⟨_, rfl, rfl⟩, hq s e he⟩⟩
 ·exact hc.elim
end Go.Proofs.YtafchcmemeinlaaDoor
