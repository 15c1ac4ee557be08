/-
  Chapter 4: Sized; the symbolic laws.
-/
import Derived.Test.YtlfbaakndklncaaS04N
set_option linter.unusedSimpArgs false
set_option linter.unusedVariables false
namespace Go.Proofs.Ytlfbaakndklncaa
open Go.RowKit
set_option maxRecDepth 1000000

def sizedM (s : List UInt8) (n : Nat) : List UInt8 := if s = [] then List.replicate n 0 else (List.range n).map fun i => s.getD (i % s.length) 0
def inv_12 (s : List UInt8) (n : Nat) : LInv where
  α := Nat × List UInt8
  pre p := Lf (p.1 ≤ n ∧ (p.1 = 0 ∨ s ≠ []) ∧ p.2 = (sizedM s n).take p.1 ++ List.replicate (n - p.1) 0)
  st p := ⟨mkT [(0, .str s), (1, .int .i64 (n : Nat)), (5, .sl 0 n 0 n 1), (6, .int .i64 (p.1 : Nat))], [⟨.exact, true, ofBytes p.2⟩]⟩
  mu p := n - p.1
noncomputable def env_12 (hv : Nat → Option Pa) (hb : Nat → Option Bool) (s : List UInt8) (n : Nat) : Env := e04 sm0 (fun i => bif Nat.beq i 12000 then some (fun _ => [[inv_12 s n]]) else none) hv hb
noncomputable def goal_12 (hv : Nat → Option Pa) (hb : Nat → Option Bool) (s : List UInt8) (n : Nat) (Q : Out → List Blk → Gh → Prop) : Prop :=
  callx (env_12 hv hb s n) (wpx (env_12 hv hb s n) 1000) 12 [.str s, .int .i64 (n : Nat)] [] {} Q
theorem vc_12 (s : List UInt8) (n : Nat) (Q : Out → List Blk → Gh → Prop) : goal_12 (lookV [(49166, .int .i64), (49176, .int .i64), (49177, .int .i64), (49178, .int .u8), (49170, .int .i64), (49181, .str)]) (lookB []) s n Q = (
(bif (((decide ((Nat.cast n : Int) ≤ (Nat.cast n : Int))) && (decide ((Nat.cast n : Int) ≤ (1099511627776 : Int)))) && (decide (((Nat.cast n : Int) * (1 : Int)) ≤ (1099511627776 : Int)))) then ((∃ x_0 : (Prod Nat (List UInt8)), ((Lf (((Prod.fst x_0) ≤ n) ∧
 ((((Prod.fst x_0) = (0 : Nat)) ∨
 (s ≠ [])) ∧
 ((Prod.snd x_0) = ((List.take (Prod.fst x_0) (sizedM s n)) ++ (List.replicate (n - (Prod.fst x_0)) (0 : UInt8))))))) ∧
 (bif ((oldL (0 : Nat) (List.flatten (List.replicate (Int.toNat (Nat.cast n : Int)) ((AV.int .u8 (0 : Int)) :: [])))) == true) then (((List.flatten (List.replicate (Int.toNat (Nat.cast n : Int)) ((AV.int .u8 (0 : Int)) :: []))) = (ofBytes (Prod.snd x_0))) ∧
 (((AV.str s) = (AV.str s)) ∧
 (((AV.int .i64 (Nat.cast n : Int)) = (AV.int .i64 (Nat.cast n : Int))) ∧
 (((AV.sl (0 : Nat) ((Int.toNat (Nat.cast n : Int)) * (1 : Nat)) (0 : Nat) (Int.toNat (Nat.cast n : Int)) (1 : Nat)) = (AV.sl (0 : Nat) n (0 : Nat) n (1 : Nat))) ∧
 (((AV.int .i64 (0 : Int)) = (AV.int .i64 (Nat.cast (Prod.fst x_0) : Int))) ∧
 True)))))
else False))) ∧
 (∀ x_0 : (Prod Nat (List UInt8)), ((Lf (((Prod.fst x_0) ≤ n) ∧
 ((((Prod.fst x_0) = (0 : Nat)) ∨
 (s ≠ [])) ∧
 ((Prod.snd x_0) = ((List.take (Prod.fst x_0) (sizedM s n)) ++ (List.replicate (n - (Prod.fst x_0)) (0 : UInt8))))))) →
(bif (decide ((Nat.cast (Prod.fst x_0) : Int) < (Nat.cast n : Int))) then (∃ n_1 : Int, (((AV.int .i64 (Nat.cast (List.length s) : Int)) = (AV.int .i64 n_1)) ∧
 (bif (decide (n_1 > (0 : Int))) then (∃ n_2 : Int, (((AV.int .i64 (Nat.cast (List.length s) : Int)) = (AV.int .i64 n_2)) ∧
 (bif ((n_2 != (0 : Int)) && true) then (∃ n_3 : Int, (((AV.int .i64 (Int.tmod (Nat.cast (Prod.fst x_0) : Int) n_2)) = (AV.int .i64 n_3)) ∧
 (bif ((decide ((0 : Int) ≤ n_3)) && (Nat.blt (Int.toNat n_3) (List.length s))) then (∃ n_4 : Int, (((AV.int .u8 (Nat.cast (UInt8.toNat (List.getD s (Int.toNat n_3) (UInt8.ofNat (0 : Nat)))) : Int)) = (AV.int .u8 n_4)) ∧
 (bif (((Nat.blt (Int.toNat (Nat.cast (Prod.fst x_0) : Int)) n) && (Nat.beq (List.length (ofBytes (Prod.snd x_0))) n)) && true) then (bif (((((Nat.beq (List.length (ofBytes (Prod.snd x_0))) n) && (Nat.ble (((0 : Nat) + ((Int.toNat (Nat.cast (Prod.fst x_0) : Int)) * (1 : Nat))) + (1 : Nat)) n)) && true) && true) && true) then (∃ n_5 : Int, (((AV.int .i64 (IntKind.wrap .i64 ((Nat.cast (Prod.fst x_0) : Int) + (1 : Int)))) = (AV.int .i64 n_5)) ∧
 ((True ∧
 ((0 : Nat) = (0 : Nat))) ∧
 (∃ y_6 : (Prod Nat (List UInt8)), ((Lf (((Prod.fst y_6) ≤ n) ∧
 ((((Prod.fst y_6) = (0 : Nat)) ∨
 (s ≠ [])) ∧
 ((Prod.snd y_6) = ((List.take (Prod.fst y_6) (sizedM s n)) ++ (List.replicate (n - (Prod.fst y_6)) (0 : UInt8))))))) ∧
 (((n - (Prod.fst y_6)) < (n - (Prod.fst x_0))) ∧
 (((setRange (ofBytes (Prod.snd x_0)) ((0 : Nat) + ((Int.toNat (Nat.cast (Prod.fst x_0) : Int)) * (1 : Nat))) ((AV.int .u8 n_4) :: [])) = (ofBytes (Prod.snd y_6))) ∧
 (((AV.str s) = (AV.str s)) ∧
 (((AV.int .i64 (Nat.cast n : Int)) = (AV.int .i64 (Nat.cast n : Int))) ∧
 (((AV.sl (0 : Nat) n (0 : Nat) n (1 : Nat)) = (AV.sl (0 : Nat) n (0 : Nat) n (1 : Nat))) ∧
 (((AV.int .i64 n_5) = (AV.int .i64 (Nat.cast (Prod.fst y_6) : Int))) ∧
 True)))))))))))
else False)
else False)))
else False)))
else False)))
else (bif ((((Nat.beq (List.length (ofBytes (Prod.snd x_0))) n) && (Nat.ble ((0 : Nat) + n) n)) && true) && (allU8 (List.take n (List.drop (0 : Nat) (ofBytes (Prod.snd x_0)))))) then (∃ s_2 : (List UInt8), (((AV.str (List.map toB (List.take n (List.drop (0 : Nat) (ofBytes (Prod.snd x_0)))))) = (AV.str s_2)) ∧
 (Q (Out.ret (AV.str s_2)) [] (Gh.mk (0 : Nat) (0 : Nat) []))))
else False))))
else (bif ((((Nat.beq (List.length (ofBytes (Prod.snd x_0))) n) && (Nat.ble ((0 : Nat) + n) n)) && true) && (allU8 (List.take n (List.drop (0 : Nat) (ofBytes (Prod.snd x_0)))))) then (∃ s_1 : (List UInt8), (((AV.str (List.map toB (List.take n (List.drop (0 : Nat) (ofBytes (Prod.snd x_0)))))) = (AV.str s_1)) ∧
 (Q (Out.ret (AV.str s_1)) [] (Gh.mk (0 : Nat) (0 : Nat) []))))
else False)))))
else False)) := by kernel_rfl

theorem sized_len (s : List UInt8) (n : Nat) : (sizedM s n).length = n := by
  unfold sizedM
  split <;> simp
theorem sized_run (s : List UInt8) (n : Nat) (Q : Out → List Blk → Gh → Prop) (hn : n ≤ 100000) (hs : s.length ≤ 9223372036854775807) (hq : Q (.ret (.str (sizedM s n))) [] {}) : ∃ hv hb, goal_12 hv hb s n Q := by
  obtain ⟨hv, hb', e⟩ : ∃ hv hb, goal_12 hv hb s n Q = _ := ⟨_, _, vc_12 s n Q⟩
  refine ⟨hv, hb', e.mpr ?_⟩
  clear e
  have z : List.flatten (List.replicate n [AV.int .u8 0]) = ofBytes (List.replicate n 0) := by
    have e1 : ∀ k, List.flatten (List.replicate k [AV.int .u8 0]) = List.replicate k (AV.int .u8 0) := fun k => by
      induction k with
      | zero => rfl
      | succ k ih => rw [List.replicate_succ, List.flatten_cons, ih]; rfl
    rw [e1]; simp [ofBytes]
  have hl := sized_len s n
  rw [Int.toNat_natCast, z]
  refine ckI (by simp; omega) ⟨⟨(0, List.replicate n 0), ⟨by simp, .inl rfl, by simp⟩, ckI (by rw [oldL_ofB]; rfl) ⟨rfl, rfl, rfl, by simp, rfl, trivial⟩⟩, ?_⟩
  rintro ⟨i, b⟩ ⟨g1, g2, g3⟩
  dsimp only at *
  have hb : b.length = n := by rw [g3, List.length_append, List.length_take, List.length_replicate, hl]; omega
  have fin : (i = n ∨ s = []) → b = sizedM s n := fun h => by
    rw [g3]
    rcases h with h | h
    · rw [h, Nat.sub_self, List.replicate_zero, List.append_nil, List.take_of_length_le (by omega)]
    · rcases g2 with g2 | g2
      · rw [g2, List.take_zero, List.nil_append, Nat.sub_zero, sizedM, if_pos h]
      · exact absurd h g2
  have cl : ((Nat.beq (List.length (ofBytes b)) n && Nat.ble (0 + n) n && true) && allU8 (List.take n (List.drop 0 (ofBytes b)))) = true := by
    rw [allU8_take, ofB_len, hb]; simp
  have st : List.map toB (List.take n (List.drop 0 (ofBytes b))) = b := strB hb.symm rfl
  refine splitD (fun hlt => ⟨_, rfl, splitD (fun hpos => ?_) (fun hz => ?_)⟩) (fun hge => ?_)
  · have hi : i < n := by omega
    have hs0 : s ≠ [] := fun h => by rw [h] at hpos; simp at hpos
    have hm : Int.tmod (i : Int) (s.length : Int) = ((i % s.length : Nat) : Int) := by rw [Int.tmod_eq_emod_of_nonneg (by omega)]; omega
    have hlt2 : i % s.length < s.length := Nat.mod_lt _ (by omega)
    have hx : b.getD i 0 = 0 ∨ True := .inr trivial
    refine ⟨_, rfl, ckI (by simp; omega) ⟨_, rfl, ckI (by rw [hm]; simp; omega) ⟨_, rfl, ckI (by rw [ofB_len]; simp; omega) (ckI (by rw [ofB_len]; simp; omega) ?_)⟩⟩⟩
    rw [hm, Int.toNat_natCast, Int.toNat_natCast, Nat.zero_add, Nat.mul_one, stB (by omega) rfl]
    refine wrapI (by omega) (by omega) ⟨⟨trivial, rfl⟩, (i + 1, b.set i (s.getD (i % s.length) 0)), ⟨hi, .inr hs0, ?_⟩, ?_, by simp⟩
    · show b.set i (s.getD (i % s.length) 0) = (sizedM s n).take (i + 1) ++ List.replicate (n - (i + 1)) 0
      have e1 : (sizedM s n).getD i 0 = s.getD (i % s.length) 0 := by
        rw [sizedM, if_neg hs0]
        simp [List.getD_eq_getElem?_getD, hi]
      have e2 : List.replicate (n - i) (0 : UInt8) = 0 :: List.replicate (n - (i + 1)) 0 := by
        rw [show n - i = (n - (i + 1)) + 1 by omega, List.replicate_succ]
      have e3 : ((sizedM s n).take i).length = i := by rw [List.length_take, hl]; omega
      rw [take_snocD _ 0 (by omega : i < (sizedM s n).length), e1, g3, e2, List.set_append_right _ _ (by omega), e3, Nat.sub_self, List.set_cons_zero, List.append_assoc]
      rfl
    · show n - (i + 1) < n - i
      omega
  · refine ckI cl ⟨_, rfl, ?_⟩
    rw [st, fin (.inr (List.length_eq_zero_iff.1 (by omega)))]
    exact hq
  · refine ckI cl ⟨_, rfl, ?_⟩
    rw [st, fin (.inl (by omega))]
    exact hq
def cSized : Con
  | [.str s, .int .i64 n], H, K => Lf (0 ≤ n ∧ n ≤ 100000 ∧ s.length ≤ 100000) ∧ ∀ t, Lf (t = sizedM s n.toNat) → K (.ret (.str t)) H
  | _, _, _ => False
theorem sized_ok : ValidF Try.prog gl0 12 cSized := by
  refine valid_flat (enters_of (by kernel_rfl)) gl0_noY fun args H Q hc => ?_
  unfold cSized at hc
  split at hc
  · rename_i s n
    obtain ⟨⟨h0, h1, h2⟩, hq⟩ := hc
    obtain ⟨m, rfl⟩ := Int.eq_ofNat_of_zero_le h0
    obtain ⟨hv, hb', h⟩ := sized_run s m (Q := fun o H' _ => H' = [] ∧ (∃ v, o = .ret v ∧ old 0 v = true ∧ noY v = true) ∧ Q o H) (by omega) (by omega) ⟨rfl, ⟨_, rfl, rfl, rfl⟩, hq _ ⟨rfl⟩⟩
    exact ⟨rfl, rfl, _, 1000, envFor04 sm0_ok _ _ _, rfl, h⟩
  · exact hc.elim
/-! ## contracts with named results -/
def cRepeatS : Con
  | [.str s, .int .i64 c], H, K => Lf (0 ≤ c ∧ c ≤ 100000 ∧ s.length ≤ 100000) ∧ ∀ t, Lf (t = repM s c.toNat) → K (.ret (.str t)) H
  | _, _, _ => False
end Go.Proofs.Ytlfbaakndklncaa
