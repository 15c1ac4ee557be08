/-
  Chapter 17: RecordForged.
-/
import Derived.Test.YtiholnebhmjbjaaM17W2
set_option linter.unusedSimpArgs false
set_option linter.unusedVariables false
set_option linter.unusedSectionVars false
namespace Go.Proofs.Ytiholnebhmjbjaa
open Go.RowKit
set_option maxRecDepth 1000000

/-! ## plain facts -/
theorem size_take {a b : List UInt8} (h : a.take 11 = b.take 11) : sizeRM a = sizeRM b := by
  have e : ∀ s : List UInt8, (s.drop 9).take 2 = (s.take 11).drop 9 := fun s => by rw [List.drop_take]
  rw [sizeRM, sizeRM, e, e, h]
theorem size_rec {r : Rc} (h : rightRM r = true) : sizeRM (recM r) = r.2.2.2.length := by
  obtain ⟨-, -, h3⟩ := rec_read h [0]
  have e := size_take (a := recM r ++ [0]) (b := recM r) (List.take_append_of_le_length (by rw [rec_len]; omega))
  have h4 := congrArg List.length h3
  rw [restRM, List.length_drop, List.length_append, rec_len, e] at h4
  have := be_nn (((recM r).drop 9).take 2)
  have e2 : sizeRM (recM r) = beM (((recM r).drop 9).take 2) := rfl
  simp only [List.length_cons, List.length_nil] at h4
  omega
theorem recs_nil : ∀ f, recsM f [] = ([], 0)
  | 0 => rfl
  | f + 1 => by rw [recsM, if_pos rfl]
theorem dec_same {t : List UInt8} {n : Nat} (hl : t.length = 11 + n) (hn : n ≤ 1000) (hs : sizeRM t = n) : decM t = ([firstRM t], 0) := by
  have hne : t ≠ [] := fun h => by rw [h] at hl; simp at hl; omega
  have hr : restRM t = [] := by rw [restRM, hs, Int.toNat_natCast, ← hl, List.drop_length]
  have hh : headEM t = 0 := by rw [headEM, if_neg (by omega), if_neg (by omega), if_neg (by omega)]
  rw [decM, if_neg (by omega), if_neg hne, hl, show 11 + n = (10 + n) + 1 by omega, recsM, if_neg hne, if_neg (by rw [hh]; simp), hr, recs_nil, if_neg (by simp)]
theorem recs_errs : ∀ (f : Nat) (s : List UInt8), (recsM f s).2 = 0 ∨ (recsM f s).2 = 7 ∨ (recsM f s).2 = 170
  | 0, s => .inl rfl
  | f + 1, s => by
    have ih := recs_errs f (restRM s)
    rw [recsM]
    split
    · exact .inl rfl
    · split
      · show headEM s = 0 ∨ headEM s = 7 ∨ headEM s = 170
        rw [headEM]
        split
        · simp
        · split
          · simp
          · split <;> simp
      · split
        · exact ih
        · exact .inl rfl
theorem dec_errs {s : List UInt8} {l : List Rc} {f : Int} (h : decM s = (l, f)) (hs : s.length ≤ 1200) (hf : f ≠ 0) : f = 7 ∨ f = 170 := by
  rw [decM, if_neg (by omega)] at h
  split at h
  · rw [Prod.mk.injEq] at h
    exact .inl h.2.symm
  · have := recs_errs s.length s
    rw [h] at this
    rcases this with g | g
    · exact absurd g hf
    · exact g
theorem mod_size {s : List UInt8} {i : Nat} {b : UInt8} (h9 : i ≠ 9) (h10 : i ≠ 10) : sizeRM (s.set i b) = sizeRM s := by
  by_cases h : i < 9
  · rw [sizeRM, sizeRM, List.drop_set_of_lt h]
  · exact size_take (List.take_set_of_le (by omega))
theorem seal_open {key no hd box body : List UInt8} (h1 : key.length = 32) (h2 : no.length = 12) (h3 : hd.length ≤ 4096) (h4 : box.length ≤ 1000) (h : openM key no hd box = (body, 0)) : (sealM key no hd body).1 = box ∧ box.length = body.length + 16 := by
  rw [openM, if_neg (by rw [right17 h1 h2]; simp), if_neg (by omega)] at h
  split at h
  · simp at h
  · rename_i h5
    split at h
    · rename_i h6
      rw [Prod.mk.injEq] at h
      obtain ⟨rfl, -⟩ := h
      have hl : (box.take (box.length - 16)).length = box.length - 16 := by rw [List.length_take]; omega
      have ha := app_len (firstM key no) 70 1 (box.take (box.length - 16)) (by omega)
      refine ⟨?_, by omega⟩
      rw [sealed17 h1 h2 h3 (by omega)]
      dsimp only
      rw [app_inv _ _ _ _ (by omega), ← h6, List.take_append_drop]
    · simp at h
theorem opens_mem (e : Int) (key salt : List UInt8) : ∀ (l : List Rc) (x : Wn × List Rc), ∀ p ∈ (l.foldl (stepRM e key salt) x).2, p ∈ x.2 ∨ ∃ r ∈ l, r.2.1 = e ∧ (openRM key salt r).2 = 0 ∧ p = (r.1, r.2.1, r.2.2.1, (openRM key salt r).1)
  | [], x, p, h => .inl h
  | r :: l, x, p, h => by
    rw [List.foldl_cons] at h
    rcases opens_mem e key salt l _ p h with h | ⟨r', h1, h2⟩
    · rw [stepRM] at h
      split at h
      · exact .inl h
      · rename_i g
        rcases List.mem_append.1 h with h | h
        · exact .inl h
        · refine .inr ⟨r, by simp, ?_, ?_, by simpa using h⟩
          · exact Decidable.of_not_not fun q => g (.inl q)
          · exact Decidable.of_not_not fun q => g (.inr (.inr q))
    · exact .inr ⟨r', by simp [h1], h2⟩
theorem opens_nil (e : Int) (key salt : List UInt8) : ∀ (l : List Rc) (x : Wn × List Rc), (l.foldl (stepRM e key salt) x).2 = [] → l.foldl (stepRM e key salt) x = x
  | [], x, h => rfl
  | r :: l, x, h => by
    rw [List.foldl_cons] at h ⊢
    have ih := opens_nil e key salt l _ h
    rw [ih] at h ⊢
    rw [stepRM] at h ⊢
    split
    · rfl
    · rename_i g
      rw [if_neg g] at h
      simp at h
/-- what was opened is what a sender makes of it -/
theorem again_enc {e : Int} {key salt : List UInt8} {w : Wn} {l : List Rc} {a : Wn} {out : List Rc} {p : Rc} (h1 : key.length = 32) (h2 : salt.length = 12) (ho : opensM e key salt w l = (a, out)) (hp : p ∈ out) (hr : l.all rightRM = true) :
    (0 ≤ p.1 ∧ p.1 ≤ 255) ∧ (0 ≤ p.2.2.1 ∧ p.2.2.1 ≤ 281474976710655) ∧ p.2.2.2.length ≤ 984 ∧ ∃ (k : Nat) (r : Rc), l[k]? = some r ∧ encM [r] = (boxM e p.2.2.1 key salt p.1 p.2.2.2, 0) := by
  have hm := opens_mem e key salt l (w, []) p (by rw [← opensM, ho]; exact hp)
  rcases hm with hm | ⟨r, hm, g1, g2, rfl⟩
  · simp at hm
  · have hrr := List.all_eq_true.1 hr r hm
    obtain ⟨k, hk1, hk2⟩ := List.getElem_of_mem hm
    obtain ⟨rk, re, rs, rb⟩ := r
    dsimp only at g1 g2 ⊢
    subst g1
    obtain ⟨k1, k2, k3, k4⟩ := (rightM_iff rk re rs rb).1 hrr
    obtain ⟨body, hb⟩ : ∃ body, openRM key salt (rk, re, rs, rb) = (body, 0) := ⟨(openRM key salt (rk, re, rs, rb)).1, by rw [← g2]⟩
    rw [hb]
    dsimp only
    have hso := seal_open h1 (by rw [nonce_len]; exact h2) (by rw [head_len]; omega) k4 hb
    refine ⟨k1, k3, by omega, k, (rk, re, rs, rb), by rw [List.getElem?_eq_getElem hk1, hk2], ?_⟩
    have hc : catM [(rk, re, rs, rb)] = boxM re rs key salt rk body := by
      rw [cat_cons]
      show recM (rk, re, rs, rb) ++ [] = _
      rw [List.append_nil, recM, boxM]
      have e1 : ((rb.length : Nat) : Int) = (body.length : Int) + 16 := by omega
      show headM (rk, re, rs, rb) (rb.length : Nat) ++ rb = headM (rk, re, rs, []) ((body.length : Int) + 16) ++ _
      rw [← e1, show headM (rk, re, rs, []) ((rb.length : Nat) : Int) = headM (rk, re, rs, rb) ((rb.length : Nat) : Int) from rfl, hso.1]
    have hl : (catM [(rk, re, rs, rb)]).length ≤ 1200 := by
      rw [hc, box_len h1 h2 (by omega)]
      omega
    rw [encM, if_neg (by simp), if_pos (by rw [List.all_cons, hrr]; rfl), if_neg (by omega), hc]
/-! ## the run -/
def inv_9 (s : S) : List (List LInv) := match s.tm.get 91 with
  | .int _ n => [[{ α := Nat, pre := fun i => Lf (i ≤ n.toNat), st := fun i => ⟨mkT [(4, s.tm.get 4), (11, s.tm.get 11), (12, s.tm.get 12), (14, s.tm.get 14), (18, s.tm.get 18), (21, s.tm.get 21), (90, s.tm.get 90), (91, s.tm.get 91), (92, .int .i64 (i : Nat))], s.hp⟩, mu := fun i => n.toNat - i }]]
  | _ => []
def inv_58f (s : S) : List (List LInv) := match s.hp, s.tm.get 7 with
  | [_, _, _, _, _, _, _, _, _, ⟨_, _, [.str ag]⟩], .int _ n => [[
    { α := Nat, pre := fun i => Lf (∃ (l : List Rc) (k : Nat) (r : Rc), s.tm.get 0 = .lst 0 (cellsRM l) l.length 4 ∧ i ≤ k ∧ l[k]? = some r ∧ encM [r] = (ag, 0)),
      st := fun i => ⟨mkT [(0, s.tm.get 0), (1, s.tm.get 1), (7, s.tm.get 7), (8, .int .i64 (i : Nat))], s.hp⟩, mu := fun i => n.toNat - i }]]
  | _, _ => []
def smF : SM := lookS [(10, cTrue), (13, cEnc), (16, cDec), (24, cDraftS), (26, cSealR), (27, cOpenR)]
theorem smF_ok : ∀ f g, smF f = some g → ValidF Try.prog gl0 f g := lookS_ok _ (by simp only [List.mem_cons, List.not_mem_nil, or_false, forall_eq_or_imp, forall_eq]; exact ⟨wakes_ok, enc_ok, dec_ok, draftS_ok, sealR_ok, openR_ok⟩)
noncomputable def env_9 (hv : Nat → Option Pa) (hb : Nat → Option Bool) : Env :=
  { e04 smF (fun i => bif Nat.beq i 9001 then some inv_9 else bif Nat.beq i 58000 then some inv_58f else none) hv hb with hz := fun k => Nat.beq k 135176 || Nat.beq k 36932 }
theorem envFor_9 (hv : Nat → Option Pa) (hb : Nat → Option Bool) : EnvFor Try.prog (env_9 hv hb) := ⟨mixed04, names04, tabA_ok, smF_ok⟩
noncomputable def goal_9 (hv : Nat → Option Pa) (hb : Nat → Option Bool) (ep st kk sk : Int) (sn : List UInt8) (body : List UInt8) (pos by' epoch : Int) (Q : Out → List Blk → Gh → Prop) : Prop :=
  callx (env_9 hv hb) (wpx (env_9 hv hb) 1000) 9 [.agg [.int .u16 ep, .int .u16 st, .int .u8 kk, .int .u8 sk, .lst 0 (ofBytes sn) sn.length 1], .str body, .int .u16 pos, .int .u8 by', .int .u8 epoch] [] {} Q
def endF (e_1 : Int) (epoch : Int) (key_2 : List UInt8) (salt_3 : List UInt8) (box_7 : List UInt8) (Q : Out → List Blk → Gh → Prop) : Prop :=
exW IntKind.i64 (e_1 + 1) fun n_34 => exW IntKind.i64 epoch fun n_35 => exW IntKind.i64 (n_34 + n_35) fun n_36 => exI IntKind.i64 (n_36.tmod 65536) fun n_37 => ∃ k_38 : Nat, Lf (0 = (k_38 : Int) ∧ k_38 < 18446744073709551616 ∧ rcvOkM n_37
 key_2 salt_3 (-1) k_38 = true ∧ box_7.length ≤ 9223372036854775807) ∧ ∀ l_39 : List Rc, ∀ f_40 : Int, Lf (decM box_7 = Prod.mk l_39 f_40) → bif f_40 != 0 then ∃ n_41 s_42 s_43 n_44 n_45, AV.agg [.int IntKind.i64 0, .str [], .str [],
 .int IntKind.i64 0, .int IntKind.u64 0] = AV.agg [.int IntKind.i64 n_41, .str s_42, .str s_43, .int IntKind.i64 n_44, .int IntKind.u64 n_45] ∧ bif f_40 == 0 then bif n_37 == e_1 then Q (.ret (.bool true)) [] {} else exI IntKind.i64 0
 fun n_46 => bif n_46 == 0 then bif n_41 == n_37 && (eqB s_42 key_2 && (eqB s_43 salt_3 && (n_44 == -1 && (n_45 == 0 && true) && true))) then Q (.ret (.bool true)) [] {} else Q (.ret (.bool false)) [] {} else Q (.ret
 (.bool false)) [] {} else Q (.ret (.bool false)) [] {} else ∀ a_41 : Int, ∀ b_42 : Nat, ∀ out_43 : List Rc, Lf (opensM n_37 key_2 salt_3 (Prod.mk (-(1 : Int)) k_38) l_39 = Prod.mk (Prod.mk a_41 b_42) out_43 ∧ okWM a_41 b_42 =
 true ∧ b_42 < 18446744073709551616 ∧ List.all l_39 rightRM = true) → ∃ n_44 s_45 s_46 n_47 n_48, AV.agg [.int IntKind.i64 n_37, .str key_2, .str salt_3, .int IntKind.i64 a_41, .int IntKind.u64 (b_42 : Int)] = AV.agg [.int
 IntKind.i64 n_44, .str s_45, .str s_46, .int IntKind.i64 n_47, .int IntKind.u64 n_48] ∧ bif n_37 == e_1 then Q (.ret (.bool true)) [] {} else exI IntKind.i64 (out_43.length : Int) fun n_49 => bif n_49 == 0 then bif n_44 == n_37 &&
 (eqB s_45 key_2 && (eqB s_46 salt_3 && (n_47 == -1 && (n_48 == 0 && true) && true))) then Q (.ret (.bool true)) [] {} else Q (.ret (.bool false)) [] {} else Q (.ret (.bool false)) [] {}
theorem vc_9 (ep : Int) (st : Int) (kk : Int) (sk : Int) (sn : List UInt8) (body : List UInt8) (pos : Int) (by' : Int) (epoch : Int) (Q : Out → List Blk → Gh → Prop) : goal_9 (lookV [(36903, .int .i64), (36904, .int .i64), (36905, .str),
 (36907, .agg [(.int .i64), (.int .i64), (.str), (.str)]), (36914, .int .i64), (36918, .int .i64), (36920, .int .i64), (36921, .int .i64), (36924, .str), (36927, .int .u8), (36929, .int .u8), (36930, .int .u8), (36931, .int .u8), (36933,
 .str), (36934, .str), (36937, .int .i64), (36938, .str), (36939, .str), (37009, .int .i64), (37011, .int .i64), (37012, .int .i64), (37013, .int .i64), (37019, .agg [(.int .i64), (.str), (.str), (.int .i64), (.int .u64)]), (37032, .int
 .i64), (36944, .agg [(.int .i64), (.str), (.str), (.int .i64), (.int .u64)]), (37002, .int .i64), (36955, .int .i64), (36959, .agg [.int .i64, .int .i64, .int .i64, .str]), (36971, .agg [(.int .i64), (.int .i64), (.str), (.str)]), (237575,
 .int .i64), (237578, .int .i64), (237583, .agg [.int .i64, .int .i64, .int .i64, .str]), (36982, .int .i64), (237586, .int .i64)]) (lookB []) ep st kk sk sn body pos by' epoch Q = (∃ s_0 : List UInt8, Lf (ofBytes sn = ofBytes s_0 ∧ (0 ≤ ep
 ∧ ep ≤ 65535) ∧ 0 ≤ st ∧ st ≤ 65535) ∧ ∀ e_1 : Int, ∀ key_2 salt_3 : List UInt8, Lf (e_1 = ep % 4 ∧ key_2.length = 32 ∧ salt_3.length = 12) → exI IntKind.i64 (body.length : Int) (fun n_4 => exI IntKind.i64 (imin n_4 50) (fun n_5 => ckQ
 (decide (0 ≤ n_5) && true && Nat.ble n_5.toNat body.length) (exS (.str ((body.drop 0).take (n_5.toNat - 0))) (fun s_6 => Lf (sndOkM e_1 st key_2 salt_3 = true ∧ st ≤ 281474976710655 ∧ ((0 : Int) ≤ (7 : Int) ∧ (7 : Int) ≤ (255 : Int)) ∧
 s_6.length ≤ 984) ∧ ∀ box_7 : List UInt8, Lf (box_7 = boxM e_1 st key_2 salt_3 7 s_6) → ∃ n_8 n_9 s_10 s_11, AV.agg [.int IntKind.i64 e_1, .int IntKind.i64 (st + 1), .str key_2, .str salt_3] = AV.agg [.int IntKind.i64 n_8, .int IntKind.i64
 n_9, .str s_10, .str s_11] ∧ exI IntKind.i64 (box_7.length : Int) (fun n_12 => bif decide (n_12 < 27) then Q (.ret (.bool false)) [] {} else exW IntKind.i64 pos (fun n_13 => exI IntKind.i64 (box_7.length : Int) (fun n_14 => ckQ (n_14 != 0
 && true) (exI IntKind.i64 (n_13.tmod n_14) (fun n_15 => ckQ (decide (0 ≤ n_15) && true && Nat.ble n_15.toNat box_7.length) (exS (.str ((box_7.drop 0).take (n_15.toNat - 0))) (fun s_16 => ckQ (decide (0 ≤ n_15) && Nat.blt n_15.toNat
 box_7.length) (exI IntKind.u8 (UInt8.toNat (box_7.getD n_15.toNat (UInt8.ofNat 0)) : Int) (fun n_17 => exI IntKind.u8 (by'.tmod 255) (fun n_18 => exW IntKind.u8 (1 + n_18) (fun n_19 => exW IntKind.u8 (((n_17 % 256).toNat ^^^ (n_19 %
 256).toNat : Nat) : Int) (fun n_20 => exS (.str [toB (.int IntKind.u8 n_20)]) (fun s_21 => ckQ (decide (s_16.length + s_21.length ≤ 9223372036854775807) && true) (exS (.str (s_16 ++ s_21)) (fun s_22 => exW IntKind.i64 (n_15 + 1) (fun n_23
 => ckQ (decide (0 ≤ n_23) && true && Nat.ble n_23.toNat box_7.length && Nat.ble box_7.length box_7.length) (exS (.str ((box_7.drop n_23.toNat).take (box_7.length - n_23.toNat))) (fun s_24 => ckQ (decide (s_22.length + s_24.length ≤
 9223372036854775807) && true) (exS (.str (s_22 ++ s_24)) (fun s_25 => ∃ k_26 : Nat, Lf (0 = (k_26 : Int) ∧ k_26 < 18446744073709551616 ∧ rcvOkM e_1 key_2 salt_3 (-1) k_26 = true ∧ s_25.length ≤ 9223372036854775807) ∧ ∀ l_27 : List Rc, ∀
 f_28 : Int, Lf (decM s_25 = Prod.mk l_27 f_28) → bif f_28 != 0 then ∃ n_29 s_30 s_31 n_32 n_33, AV.agg [.int IntKind.i64 0, .str [], .str [], .int IntKind.i64 0, .int IntKind.u64 0] = AV.agg [.int IntKind.i64 n_29, .str s_30, .str s_31,
 .int IntKind.i64 n_32, .int IntKind.u64 n_33] ∧ bif f_28 != 0 then bif n_15 != 9 then bif n_15 != 10 then Q (.ret (.bool false)) [] {} else bif f_28 != 7 then bif f_28 != 170 then Q (.ret (.bool false)) [] {} else endF e_1 epoch key_2
 salt_3 box_7 Q else endF e_1 epoch key_2 salt_3 box_7 Q else bif f_28 != 7 then bif f_28 != 170 then Q (.ret (.bool false)) [] {} else endF e_1 epoch key_2 salt_3 box_7 Q else endF e_1 epoch key_2 salt_3 box_7 Q else exI IntKind.i64 0 (fun
 n_34 => bif n_34 == 0 then bif !(n_29 == e_1 && (eqB s_30 key_2 && (eqB s_31 salt_3 && (n_32 == -1 && (n_33 == 0 && true) && true)))) then Q (.ret (.bool false)) [] {} else endF e_1 epoch key_2 salt_3 box_7 Q else Lf (s_25.length ≤
 9223372036854775807) ∧ ∀ l_35 : List Rc, ∀ e_36 : Int, Lf (decM s_25 = Prod.mk l_35 e_36) → bif e_36 != 0 then Q (.ret (.bool false)) [] {} else exI IntKind.i64 0 (fun n_37 => (∃ x_38 : Nat, Lf (x_38 ≤ n_37.toNat) ∧ eqqQ [AV.int .u16 ep,
 .int IntKind.u16 st, .int IntKind.u8 kk, .int IntKind.u8 sk, .lst 0 (ofBytes sn) sn.length 1] ∧ eqqQ [AV.int .i64 e_1, .int IntKind.i64 st, .str key_2, .str salt_3] ∧ eqqQ [AV.int .i64 e_1, .str key_2, .str salt_3, .int IntKind.i64 (-1),
 .int IntKind.u64 0] ∧ eqqQ [AV.int .i64 n_8, .int IntKind.i64 n_9, .str s_10, .str s_11] ∧ eqqQ [AV.int IntKind.u8 n_20] ∧ eqqQ [AV.int .i64 n_29, .str s_30, .str s_31, .int IntKind.i64 n_32, .int IntKind.u64 n_33] ∧ eqqQ (AV.ptr 1 4 0) ∧
 eqqQ (AV.int .i64 n_37) ∧ eqqQ (AV.lst 0 (cellsRM l_35) l_35.length 4) ∧ eqqQ (AV.int IntKind.u8 epoch) ∧ eqqQ (AV.ptr 2 5 0) ∧ AV.int .i64 0 = AV.int .i64 (x_38 : Int) ∧ eqqQ (AV.ptr 5 5 0) ∧ eqqQ (AV.lst 0 [] 0 4) ∧ eqqQ (AV.str box_7) ∧
 True) ∧ ∀ x_38 : Nat, Lf (x_38 ≤ n_37.toNat) → bif decide ((x_38 : Int) < n_37) then False else endF e_1 epoch key_2 salt_3 box_7 Q)) else ∀ a_29 : Int, ∀ b_30 : Nat, ∀ out_31 : List Rc, Lf (opensM e_1 key_2 salt_3 (Prod.mk (-(1 : Int))
 k_26) l_27 = Prod.mk (Prod.mk a_29 b_30) out_31 ∧ okWM a_29 b_30 = true ∧ b_30 < 18446744073709551616 ∧ List.all l_27 rightRM = true) → ∃ n_32 s_33 s_34 n_35 n_36, AV.agg [.int IntKind.i64 e_1, .str key_2, .str salt_3, .int IntKind.i64
 a_29, .int IntKind.u64 (b_30 : Int)] = AV.agg [.int IntKind.i64 n_32, .str s_33, .str s_34, .int IntKind.i64 n_35, .int IntKind.u64 n_36] ∧ exI IntKind.i64 (out_31.length : Int) (fun n_37 => bif n_37 == 0 then bif !(n_32 == e_1 && (eqB
 s_33 key_2 && (eqB s_34 salt_3 && (n_35 == -1 && (n_36 == 0 && true) && true)))) then Q (.ret (.bool false)) [] {} else endF e_1 epoch key_2 salt_3 box_7 Q else Lf (s_25.length ≤ 9223372036854775807) ∧ ∀ l_38 : List Rc, ∀ e_39 : Int, Lf
 (decM s_25 = Prod.mk l_38 e_39) → bif e_39 != 0 then Q (.ret (.bool false)) [] {} else exI IntKind.i64 (out_31.length : Int) (fun n_40 => (∃ x_41 : Nat, Lf (x_41 ≤ n_40.toNat) ∧ eqqQ [AV.int .u16 ep, .int IntKind.u16 st, .int IntKind.u8
 kk, .int IntKind.u8 sk, .lst 0 (ofBytes sn) sn.length 1] ∧ eqqQ [AV.int .i64 e_1, .int IntKind.i64 st, .str key_2, .str salt_3] ∧ eqqQ [AV.int .i64 e_1, .str key_2, .str salt_3, .int IntKind.i64 (-1), .int IntKind.u64 0] ∧ eqqQ [AV.int
 .i64 n_8, .int IntKind.i64 n_9, .str s_10, .str s_11] ∧ eqqQ [AV.int .u8 n_20] ∧ eqqQ [AV.int .i64 n_32, .str s_33, .str s_34, .int IntKind.i64 n_35, .int IntKind.u64 n_36] ∧ eqqQ (AV.ptr 1 4 0) ∧ eqqQ (AV.int .i64 n_40) ∧ eqqQ (AV.lst 0
 (cellsRM l_38) l_38.length 4) ∧ eqqQ (AV.int .u8 epoch) ∧ eqqQ (AV.ptr 2 5 0) ∧ AV.int .i64 0 = AV.int .i64 (x_41 : Int) ∧ eqqQ (AV.ptr 5 5 0) ∧ eqqQ (AV.lst 0 (cellsRM out_31) out_31.length 4) ∧ eqqQ (AV.str box_7) ∧ True) ∧ ∀ x_41 : Nat,
 Lf (x_41 ≤ n_40.toNat) → bif decide ((x_41 : Int) < n_40) then ckQ (Nat.blt (x_41 : Int).toNat out_31.length && true) (ckQ (Nat.ble ((x_41 : Int).toNat * 4 + 4) (cellsRM out_31).length) (∃ n_42 n_43 n_44 s_45, AV.agg (((cellsRM
 out_31).drop ((x_41 : Int).toNat * 4)).take 4) = AV.agg [.int IntKind.i64 n_42, .int IntKind.i64 n_43, .int IntKind.i64 n_44, .str s_45] ∧ Lf (sndOkM e_1 n_44 key_2 salt_3 = true ∧ n_44 ≤ 281474976710655 ∧ (0 ≤ n_42 ∧ n_42 ≤ 255) ∧
 s_45.length ≤ 984) ∧ ∀ box_46 : List UInt8, Lf (box_46 = boxM e_1 n_44 key_2 salt_3 n_42 s_45) → ∃ n_47 n_48 s_49 s_50, AV.agg [.int IntKind.i64 e_1, .int IntKind.i64 (n_44 + 1), .str key_2, .str salt_3] = AV.agg [.int IntKind.i64 n_47,
 .int IntKind.i64 n_48, .str s_49, .str s_50] ∧ exI IntKind.i64 (l_38.length : Int) (fun n_51 => (∃ x_52 : Nat, Lf (∃ l_53 : List Rc, ∃ k_54 : Nat, ∃ r_55 : Rc, AV.lst 0 (cellsRM l_38) l_38.length 4 = AV.lst 0 (cellsRM l_53) l_53.length 4 ∧
 x_52 ≤ k_54 ∧ GetElem?.getElem? l_53 k_54 = Option.some r_55 ∧ encM [r_55] = Prod.mk box_46 (0 : Int)) ∧ eqqQ [AV.int .u16 ep, .int IntKind.u16 st, .int IntKind.u8 kk, .int IntKind.u8 sk, .lst 0 (ofBytes sn) sn.length 1] ∧ eqqQ [AV.int
 .i64 e_1, .int IntKind.i64 st, .str key_2, .str salt_3] ∧ eqqQ [AV.int .i64 e_1, .str key_2, .str salt_3, .int IntKind.i64 (-1), .int IntKind.u64 0] ∧ eqqQ [AV.int .i64 n_8, .int IntKind.i64 n_9, .str s_10, .str s_11] ∧ eqqQ [AV.int .u8
 n_20] ∧ eqqQ [AV.int .i64 n_32, .str s_33, .str s_34, .int IntKind.i64 n_35, .int IntKind.u64 n_36] ∧ eqqQ [AV.int .i64 n_42, .int IntKind.i64 n_43, .int IntKind.i64 n_44, .str s_45] ∧ eqqQ [AV.int .i64 e_1, .int IntKind.i64 n_44, .str
 key_2, .str salt_3] ∧ eqqQ [AV.int .i64 n_47, .int IntKind.i64 n_48, .str s_49, .str s_50] ∧ eqqQ [AV.str box_46] ∧ eqqQ (AV.lst 0 (cellsRM l_38) l_38.length 4) ∧ eqqQ (AV.fn (Fn.func 33) [] [.ptr 9 1 0]) ∧ eqqQ (AV.int .i64 n_51) ∧ AV.int
 .i64 0 = AV.int .i64 (x_52 : Int) ∧ True) ∧ ∀ x_52 : Nat, Lf (∃ l_53 : List Rc, ∃ k_54 : Nat, ∃ r_55 : Rc, AV.lst 0 (cellsRM l_38) l_38.length 4 = AV.lst 0 (cellsRM l_53) l_53.length 4 ∧ x_52 ≤ k_54 ∧ GetElem?.getElem? l_53 k_54 =
 Option.some r_55 ∧ encM [r_55] = Prod.mk box_46 (0 : Int)) → bif decide ((x_52 : Int) < n_51) then exI IntKind.i64 (x_52 : Int) (fun n_53 => ckQ (decide (0 ≤ n_53) && Nat.blt n_53.toNat l_38.length && true) (ckQ (Nat.ble (n_53.toNat * 4 +
 4) (cellsRM l_38).length) (∃ n_54 n_55 n_56 s_57, AV.agg (((cellsRM l_38).drop (n_53.toNat * 4)).take 4) = AV.agg [.int IntKind.i64 n_54, .int IntKind.i64 n_55, .int IntKind.i64 n_56, .str s_57] ∧ ∃ l_58 : List Rc, Lf ([AV.int .i64 n_54,
 .int IntKind.i64 n_55, .int IntKind.i64 n_56, .str s_57] = cellsRM l_58 ∧ 1 = l_58.length ∧ l_58.length ≤ 100) ∧ ∀ s_59 : List UInt8, ∀ e_60 : Int, Lf (encM l_58 = Prod.mk s_59 e_60) → bif e_60 == 0 then bif eqB s_59 box_46 then bif decide
 (n_53 ≥ 0) then exW IntKind.i64 ((x_41 : Int) + 1) (fun n_61 => (True ∧ (0 : Nat) = (0 : Nat)) ∧ ∃ y_62 : Nat, Lf (y_62 ≤ n_40.toNat) ∧ n_40.toNat - y_62 < n_40.toNat - x_41 ∧ eqqQ [AV.int .u16 ep, .int IntKind.u16 st, .int IntKind.u8 kk,
 .int IntKind.u8 sk, .lst 0 (ofBytes sn) sn.length 1] ∧ eqqQ [AV.int .i64 e_1, .int IntKind.i64 st, .str key_2, .str salt_3] ∧ eqqQ [AV.int .i64 e_1, .str key_2, .str salt_3, .int IntKind.i64 (-1), .int IntKind.u64 0] ∧ eqqQ [AV.int .i64
 n_8, .int IntKind.i64 n_9, .str s_10, .str s_11] ∧ eqqQ [AV.int .u8 n_20] ∧ eqqQ [AV.int .i64 n_32, .str s_33, .str s_34, .int IntKind.i64 n_35, .int IntKind.u64 n_36] ∧ eqqQ (AV.ptr 1 4 0) ∧ eqqQ (AV.int .i64 n_40) ∧ eqqQ (AV.lst 0
 (cellsRM l_38) l_38.length 4) ∧ eqqQ (AV.int .u8 epoch) ∧ eqqQ (AV.ptr 2 5 0) ∧ AV.int .i64 n_61 = AV.int .i64 (y_62 : Int) ∧ eqqQ (AV.ptr 5 5 0) ∧ eqqQ (AV.lst 0 (cellsRM out_31) out_31.length 4) ∧ eqqQ (AV.str box_7) ∧ True) else Q (.ret
 (.bool false)) [] {} else exW IntKind.i64 ((x_52 : Int) + 1) (fun n_61 => (True ∧ (0 : Nat) = (0 : Nat)) ∧ ∃ y_62 : Nat, Lf (∃ l_63 : List Rc, ∃ k_64 : Nat, ∃ r_65 : Rc, AV.lst 0 (cellsRM l_38) l_38.length 4 = AV.lst 0 (cellsRM l_63)
 l_63.length 4 ∧ y_62 ≤ k_64 ∧ GetElem?.getElem? l_63 k_64 = Option.some r_65 ∧ encM [r_65] = Prod.mk box_46 (0 : Int)) ∧ n_51.toNat - y_62 < n_51.toNat - x_52 ∧ eqqQ [AV.int .u16 ep, .int IntKind.u16 st, .int IntKind.u8 kk, .int IntKind.u8
 sk, .lst 0 (ofBytes sn) sn.length 1] ∧ eqqQ [AV.int .i64 e_1, .int IntKind.i64 st, .str key_2, .str salt_3] ∧ eqqQ [AV.int .i64 e_1, .str key_2, .str salt_3, .int IntKind.i64 (-1), .int IntKind.u64 0] ∧ eqqQ [AV.int .i64 n_8, .int
 IntKind.i64 n_9, .str s_10, .str s_11] ∧ eqqQ [AV.int .u8 n_20] ∧ eqqQ [AV.int .i64 n_32, .str s_33, .str s_34, .int IntKind.i64 n_35, .int IntKind.u64 n_36] ∧ eqqQ [AV.int .i64 n_42, .int IntKind.i64 n_43, .int IntKind.i64 n_44, .str
 s_45] ∧ eqqQ [AV.int .i64 e_1, .int IntKind.i64 n_44, .str key_2, .str salt_3] ∧ eqqQ [AV.int .i64 n_47, .int IntKind.i64 n_48, .str s_49, .str s_50] ∧ eqqQ [AV.str box_46] ∧ eqqQ (AV.lst 0 (cellsRM l_38) l_38.length 4) ∧ eqqQ (AV.fn
 (Fn.func 33) [] [.ptr 9 1 0]) ∧ eqqQ (AV.int .i64 n_51) ∧ AV.int .i64 n_61 = AV.int .i64 (y_62 : Int) ∧ True) else exW IntKind.i64 ((x_52 : Int) + 1) (fun n_61 => (True ∧ (0 : Nat) = (0 : Nat)) ∧ ∃ y_62 : Nat, Lf (∃ l_63 : List Rc, ∃ k_64
 : Nat, ∃ r_65 : Rc, AV.lst 0 (cellsRM l_38) l_38.length 4 = AV.lst 0 (cellsRM l_63) l_63.length 4 ∧ y_62 ≤ k_64 ∧ GetElem?.getElem? l_63 k_64 = Option.some r_65 ∧ encM [r_65] = Prod.mk box_46 (0 : Int)) ∧ n_51.toNat - y_62 < n_51.toNat -
 x_52 ∧ eqqQ [AV.int .u16 ep, .int IntKind.u16 st, .int IntKind.u8 kk, .int IntKind.u8 sk, .lst 0 (ofBytes sn) sn.length 1] ∧ eqqQ [AV.int .i64 e_1, .int IntKind.i64 st, .str key_2, .str salt_3] ∧ eqqQ [AV.int .i64 e_1, .str key_2, .str
 salt_3, .int IntKind.i64 (-1), .int IntKind.u64 0] ∧ eqqQ [AV.int .i64 n_8, .int IntKind.i64 n_9, .str s_10, .str s_11] ∧ eqqQ [AV.int .u8 n_20] ∧ eqqQ [AV.int IntKind.i64 n_32, .str s_33, .str s_34, .int IntKind.i64 n_35, .int IntKind.u64
 n_36] ∧ eqqQ [AV.int .i64 n_42, .int IntKind.i64 n_43, .int IntKind.i64 n_44, .str s_45] ∧ eqqQ [AV.int .i64 e_1, .int IntKind.i64 n_44, .str key_2, .str salt_3] ∧ eqqQ [AV.int .i64 n_47, .int IntKind.i64 n_48, .str s_49, .str s_50] ∧ eqqQ
 [AV.str box_46] ∧ eqqQ (AV.lst 0 (cellsRM l_38) l_38.length 4) ∧ eqqQ (AV.fn (Fn.func 33) [] [.ptr 9 1 0]) ∧ eqqQ (AV.int .i64 n_51) ∧ AV.int .i64 n_61 = AV.int .i64 (y_62 : Int) ∧ True)))) else Q (.ret (.bool false)) [] {}))) else endF
 e_1 epoch key_2 salt_3 box_7 Q))))))))))))))))))))))))))) := by kernel_rfl

theorem exW_of {k : IntKind} {x y : Int} {K : Int → Prop} (h : IntKind.wrap k x = y) (hk : K y) : ∃ n, AV.int k (IntKind.wrap k x) = AV.int k n ∧ K n := ⟨y, by rw [h], hk⟩
theorem ckT {b : Bool} {A B : Prop} (h : b = true) (k : A) : (bif b then A else B) := by rw [h]; exact k
theorem getU {s : List UInt8} {j m : Nat} (hj : j < s.length) (hm : m = j) {K : Int → Prop} (hk : K ((s.getD j 0).toNat : Int)) : ∃ n : Int, AV.int .u8 ((s.getD m (UInt8.ofNat 0)).toNat : Int) = AV.int .u8 n ∧ K n := by
  subst hm
  exact ⟨_, rfl, hk⟩
theorem end_run {e : Int} {epoch : Int} {key salt box : List UInt8} {st : Int} {body : List UInt8} {Q : Out → List Blk → Gh → Prop} (he : 0 ≤ e ∧ e ≤ 65535) (hep : 0 ≤ epoch ∧ epoch ≤ 255) (h1 : key.length = 32) (h2 : salt.length = 12) (hb : body.length ≤ 50) (hst : 0 ≤ st ∧ st ≤ 65535) (hbox : box = boxM e st key salt 7 body)
    (hq : Q (.ret (.bool true)) [] {}) : endF e epoch key salt box Q := by
  unfold endF
  refine wrapI (by omega) (by omega) (wrapI (by omega) (by omega) (wrapI (by omega) (by omega) ⟨_, rfl, ?_⟩))
  obtain ⟨r, hr⟩ : ∃ r, (e + 1 + epoch).tmod 65536 = r := ⟨_, rfl⟩
  have hr0 : 0 ≤ r ∧ r ≤ 65535 := by
    rw [← hr, Int.tmod_eq_emod_of_nonneg (by omega)]
    omega
  rw [hr]
  have hdec := box_dec (e := e) (nx := st) (key := key) (salt := salt) (kind := 7) (body := body) h1 h2 (by omega) (by omega) he (by omega)
  rw [← hbox] at hdec
  refine ⟨0, ⟨rfl, by decide, (rcv_iff _ _ _ _ _).2 ⟨hr0, h1, h2, by decide⟩, by rw [hbox, box_len h1 h2 (by omega)]; omega⟩, ?_⟩
  rintro l f ⟨hd⟩
  rw [hdec, Prod.mk.injEq] at hd
  obtain ⟨rfl, rfl⟩ := hd
  refine splitNE (fun h => absurd rfl h) (fun _ => ?_)
  rintro a b out ⟨ho, -⟩
  refine agg5 (splitE (fun _ => hq) (fun hne => ?_))
  have hs : opensM r key salt (-1, 0) [boxR e st key salt 7 body] = ((-1, 0), []) := by
    rw [opensM, List.foldl_cons, step_no (.inl (fun h => hne h.symm))]
    rfl
  rw [hs, Prod.mk.injEq, Prod.mk.injEq] at ho
  obtain ⟨⟨rfl, rfl⟩, rfl⟩ := ho
  refine ⟨_, rfl, splitE (fun _ => ?_) (fun h => absurd rfl h)⟩
  exact ckT (by simp [eqB_refl]) hq
theorem forged_run (ep st kk sk : Int) (sn body : List UInt8) (pos by' epoch : Int) (h1 : 0 ≤ ep ∧ ep ≤ 65535) (h2 : 0 ≤ st ∧ st ≤ 65535) (h3 : 0 ≤ pos ∧ pos ≤ 65535) (h4 : 0 ≤ by' ∧ by' ≤ 255) (h5 : 0 ≤ epoch ∧ epoch ≤ 255) (Q : Out → List Blk → Gh → Prop) (hq : Q (.ret (.bool true)) [] {}) : ∃ hv hb, goal_9 hv hb ep st kk sk sn body pos by' epoch Q := by
  obtain ⟨hv, hb', e'⟩ : ∃ hv hb, goal_9 hv hb ep st kk sk sn body pos by' epoch Q = _ := ⟨_, _, vc_9 ep st kk sk sn body pos by' epoch Q⟩
  refine ⟨hv, hb', e'.mpr ?_⟩
  clear e'
  refine ⟨sn, ⟨rfl, h1, h2⟩, ?_⟩
  rintro e key salt ⟨he, hk, hs⟩
  have he1 : 0 ≤ e ∧ e ≤ 65535 := by omega
  clear he
  have hsnd : ∀ q : Int, 0 ≤ q ∧ q ≤ 281474976710655 → sndOkM e q key salt = true := fun q hq => (snd_iff _ _ _ _).2 ⟨he1, hk, hs, by omega, by omega⟩
  refine ⟨_, rfl, iminI (b := 50) rfl (ckI (by simp; omega) ⟨body.take 50, by rw [take_imin], ⟨hsnd st (by omega), by omega, by omega, by rw [List.length_take]; omega⟩, ?_⟩)⟩
  rintro box ⟨hbox⟩
  have hbl : (body.take 50).length ≤ 50 := by rw [List.length_take]; omega
  have hxl := box_len (e := e) (nx := st) (kind := 7) (body := body.take 50) hk hs (by omega)
  rw [← hbox] at hxl
  have hend := end_run (st := st) (Q := Q) he1 h5 hk hs hbl h2 hbox hq
  refine aggS ⟨_, rfl, splitD (fun h => by omega) (fun _ => wrapI (by omega) (by omega) ⟨_, rfl, ckI (by simp only [Bool.and_true, bne_iff_ne, ne_eq]; omega) ⟨_, rfl, ?_⟩⟩)⟩
  obtain ⟨i, hi⟩ : ∃ i : Nat, pos.tmod (box.length : Nat) = (i : Int) := ⟨(pos.tmod (box.length : Nat)).toNat, by rw [Int.tmod_eq_emod_of_nonneg (by omega)]; have := Int.emod_nonneg pos (b := (box.length : Nat)) (by omega); omega⟩
  have hil : i < box.length := by
    rw [Int.tmod_eq_emod_of_nonneg (by omega)] at hi
    have := Int.emod_lt_of_pos pos (b := (box.length : Nat)) (by omega)
    omega
  rw [hi]
  obtain ⟨y, hy⟩ : ∃ y : Int, by'.tmod 255 = y := ⟨_, rfl⟩
  have hyr : 0 ≤ y ∧ y ≤ 254 := by
    rw [← hy, Int.tmod_eq_emod_of_nonneg (by omega)]
    omega
  rw [hy]
  refine ckI (by simp; omega) ⟨_, rfl, ckI (by simp; omega) (getU (j := i) hil (by simp) ⟨_, rfl, wrapU8 (by omega) (by omega) ?_⟩)⟩
  obtain ⟨c, hc⟩ : ∃ c : UInt8, IntKind.wrap .u8 (((((box.getD i 0).toNat : Int) % 256).toNat ^^^ ((1 + y) % 256).toNat : Nat) : Int) = (c.toNat : Int) := by
    obtain ⟨n, hn⟩ : ∃ n : Nat, n = (((((box.getD i 0).toNat : Int) % 256).toNat ^^^ ((1 + y) % 256).toNat : Nat)) := ⟨_, rfl⟩
    rw [← hn]
    exact ⟨UInt8.ofNat n, by rw [UInt8.toNat_ofNat']; simp [IntKind.wrap, IntKind.bits, IntKind.signed]⟩
  refine exW_of hc ⟨[c], by simp [toB], ?_⟩
  have htk : (box.take i).length = i := by rw [List.length_take]; omega
  refine ckI (by simp; omega) ⟨_, rfl, wrapI (by omega) (by omega) (ckI (by simp; omega) ⟨_, rfl, ckI (by simp; omega) ⟨_, rfl, ?_⟩⟩)⟩
  obtain ⟨t, ht⟩ : ∃ t, List.take ((i : Int).toNat - 0) (List.drop 0 box) ++ [c] ++ List.take (box.length - ((i : Int) + 1).toNat) (List.drop ((i : Int) + 1).toNat box) = t := ⟨_, rfl⟩
  have hts : t = box.set i c := by
    have e1 : List.take (box.length - (i + 1)) (box.drop (i + 1)) = box.drop (i + 1) := List.take_of_length_le (by rw [List.length_drop]; omega)
    rw [← ht, List.set_eq_take_append_cons_drop, if_pos hil, show ((i : Int) + 1).toNat = i + 1 by omega, e1]
    simp
  rw [ht]
  have htl : t.length = 11 + ((body.take 50).length + 16) := by rw [hts, List.length_set]; omega
  refine ⟨0, ⟨rfl, by decide, (rcv_iff _ _ _ _ _).2 ⟨he1, hk, hs, by decide⟩, by omega⟩, ?_⟩
  rintro l f ⟨hd⟩
  have hok : i ≠ 9 → i ≠ 10 → f = 0 := fun h9 h10 => by
    have hz := mod_size (s := box) (b := c) h9 h10
    rw [← hts, hbox, box_rec hk hs (by omega), size_rec (boxR_right hk hs (by omega) (by omega) he1 (by omega)), boxR_len hk hs (by omega)] at hz
    have := dec_same htl (by omega) hz
    rw [hd, Prod.mk.injEq] at this
    exact this.2
  refine splitNE (fun hf => ?_) (fun hf => ?_)
  · have hfe := dec_errs hd (by omega) hf
    refine agg5 (splitNE (fun _ => ?_) (fun h => absurd h hf))
    have hi2 : i = 9 ∨ i = 10 := Decidable.of_not_not fun h => hf (hok (fun q => h (.inl q)) (fun q => h (.inr q)))
    have hff : (bif f != 7 then bif f != 170 then Q (.ret (.bool false)) [] {} else endF e epoch key salt box Q else endF e epoch key salt box Q) := splitNE (fun h7 => splitNE (fun h8 => by omega) (fun _ => hend)) (fun _ => hend)
    exact splitNE (fun h9 => splitNE (fun h10 => by omega) (fun _ => hff)) (fun _ => hff)
  · subst hf
    rintro a b out ⟨hop, hok2, hlt, hall⟩
    have hcl := cellsR_len
    have hdl := dec_len t
    rw [hd] at hdl
    dsimp only at hdl
    refine agg5 ⟨_, rfl, splitE (fun h0 => ?_) (fun h0 => ?_)⟩
    · have h00 : out = [] := List.eq_nil_of_length_eq_zero (by omega)
      subst h00
      have := opens_nil e key salt l ((-1, 0), []) (by rw [← opensM, hop])
      rw [← opensM, hop, Prod.mk.injEq, Prod.mk.injEq] at this
      obtain ⟨⟨rfl, rfl⟩, -⟩ := this
      exact ckNot (by simp [eqB_refl]) hend
    · refine ⟨⟨by omega⟩, ?_⟩
      rintro l2 f2 ⟨hd2⟩
      rw [hd, Prod.mk.injEq] at hd2
      obtain ⟨rfl, rfl⟩ := hd2
      have hol : out.length ≤ l.length := by
        have := opens_len e key salt l ((-1, 0), [])
        rw [← opensM, hop] at this
        simpa using this
      refine splitNE (fun h => absurd rfl h) (fun _ => ⟨_, rfl, ⟨0, ⟨by omega⟩, rfl, rfl, rfl, rfl, rfl, rfl, rfl, rfl, rfl, rfl, rfl, rfl, rfl, rfl, rfl, trivial⟩, ?_⟩)
      rintro j ⟨hj⟩
      refine splitD (fun hj2 => ?_) (fun _ => hend)
      have hjo : j < out.length := by omega
      obtain ⟨⟨pk, pe, ps, pb⟩, hp⟩ : ∃ p, out[j] = p := ⟨_, rfl⟩
      obtain ⟨m1, m2, m3, k, r, m4, m5⟩ := again_enc hk hs hop (p := (pk, pe, ps, pb)) (by rw [← hp]; exact List.getElem_mem hjo) hall
      dsimp only at m1 m2 m3 m5
      have hkl : k < l.length := (List.getElem?_eq_some_iff.1 m4).1
      refine ckI (by simp; omega) (ckI (by rw [hcl]; simp; omega) (getR hjo hp (by simp) ⟨⟨hsnd ps m2, m2.2, m1, m3⟩, ?_⟩))
      rintro ag ⟨hag⟩
      rw [← hag] at m5
      refine aggS ⟨_, rfl, ⟨0, ⟨l, k, r, rfl, by omega, m4, m5⟩, rfl, rfl, rfl, rfl, rfl, rfl, rfl, rfl, rfl, rfl, rfl, rfl, rfl, rfl, trivial⟩, ?_⟩
      rintro x ⟨l3, k3, r3, g1, g2, g3, g4⟩
      rw [AV.lst.injEq] at g1
      obtain rfl := cellsR_inj g1.2.1
      have hk3 : k3 < l.length := (List.getElem?_eq_some_iff.1 g3).1
      refine splitD (fun hx => ?_) (fun hx => by omega)
      have hxl2 : x < l.length := by omega
      obtain ⟨⟨rk, re, rs, rb⟩, hR⟩ : ∃ r, l[x] = r := ⟨_, rfl⟩
      refine ⟨_, rfl, ckI (by simp; omega) (ckI (by rw [hcl]; simp; omega) (getR hxl2 hR (by simp) ⟨[(rk, re, rs, rb)], ⟨rfl, rfl, by simp⟩, ?_⟩))⟩
      rintro s0 e0 ⟨henc⟩
      have hx3 : k3 = x → s0 = ag ∧ e0 = 0 := fun h => by
        subst h
        rw [List.getElem?_eq_getElem hxl2, hR, Option.some.injEq] at g3
        rw [← g3, henc, Prod.mk.injEq] at g4
        exact g4
      refine splitE (fun he0 => ?_) (fun he0 => ?_)
      · cases hb : eqB s0 ag with
        | true =>
          refine ckT rfl (splitD (fun _ => ?_) (fun h => absurd (by omega) h))
          exact wrapI (by omega) (by omega) ⟨⟨trivial, rfl⟩, j + 1, ⟨by omega⟩, by omega, rfl, rfl, rfl, rfl, rfl, rfl, rfl, rfl, rfl, rfl, rfl, rfl, rfl, rfl, rfl, trivial⟩
        | false =>
          have hkx : k3 ≠ x := fun h => by rw [(hx3 h).1, eqB_refl] at hb; cases hb
          exact wrapI (by omega) (by omega) ⟨⟨trivial, rfl⟩, x + 1, ⟨l, k3, r3, rfl, by omega, g3, g4⟩, by omega, rfl, rfl, rfl, rfl, rfl, rfl, rfl, rfl, rfl, rfl, rfl, rfl, rfl, rfl, trivial⟩
      · have hkx : k3 ≠ x := fun h => he0 (hx3 h).2
        exact wrapI (by omega) (by omega) ⟨⟨trivial, rfl⟩, x + 1, ⟨l, k3, r3, rfl, by omega, g3, g4⟩, by omega, rfl, rfl, rfl, rfl, rfl, rfl, rfl, rfl, rfl, rfl, rfl, rfl, rfl, rfl, trivial⟩
end Go.Proofs.Ytiholnebhmjbjaa
