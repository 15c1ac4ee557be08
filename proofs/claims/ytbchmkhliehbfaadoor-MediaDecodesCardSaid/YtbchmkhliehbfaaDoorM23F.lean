/-
  Chapter 23: short, Check.
-/
import Derived.Test.YtbchmkhliehbfaaDoorM23E
set_option linter.unusedSimpArgs false
set_option linter.unusedVariables false
namespace Go.Proofs.YtbchmkhliehbfaaDoor
open Go.RowKit
set_option maxRecDepth 1000000

/-- extensions: numbers and data -/
abbrev Xt := Int × List UInt8
def cellsXM : List Xt → List AV
  | [] => []
  | x :: l => .int .i64 x.1 :: .str x.2 :: cellsXM l
def isLongM (x : Xt) : Bool := decide (x.1 > 14) || decide ((x.2.length : Int) = 0) || decide ((x.2.length : Int) > 16)
def shortM (l : List Xt) : Bool := !l.any isLongM
theorem cellsX_len : ∀ l, (cellsXM l).length = 2 * l.length
  | [] => rfl
  | x :: l => by simp [cellsXM, cellsX_len l]; omega
theorem cellsX_drop : ∀ (l : List Xt) (i : Nat), (cellsXM l).drop (2 * i) = cellsXM (l.drop i)
  | l, 0 => rfl
  | [], i + 1 => by simp [cellsXM]
  | x :: l, i + 1 => by
    rw [show 2 * (i + 1) = 2 * i + 2 by omega, cellsXM, List.drop_succ_cons, List.drop_succ_cons, cellsX_drop l i, List.drop_succ_cons]
theorem cellsX_at {l : List Xt} {i m : Nat} (hi : i < l.length) (hm : m = 2 * i) : List.take 2 (List.drop m (cellsXM l)) = [.int .i64 l[i].1, .str l[i].2] := by
  subst hm
  rw [cellsX_drop, List.drop_eq_getElem_cons hi]
  rfl
theorem getX {l : List Xt} {i m : Nat} (hi : i < l.length) (hm : m = i * 2) {K : Int → List UInt8 → Prop} (hk : K l[i].1 l[i].2) : ∃ (n : Int) (s : List UInt8), AV.agg (List.take 2 (List.drop m (cellsXM l))) = AV.agg [AV.int .i64 n, AV.str s] ∧ K n s :=
  ⟨_, _, by rw [cellsX_at hi (by omega)], hk⟩

def inv_57 (t : Nat) (ex : List Xt) : LInv where
  α := Nat
  pre i := Lf (i ≤ ex.length ∧ (ex.take i).any isLongM = false)
  st i := ⟨mkT [(0, .lst t (cellsXM ex) ex.length 2), (1, .fn (.func 71) [] []), (7, .int .i64 ex.length), (8, .int .i64 (i : Nat))], []⟩
  mu i := ex.length - i
noncomputable def env_57 (hv : Nat → Option Pa) (hb : Nat → Option Bool) (t : Nat) (ex : List Xt) : Env := e23 sm0 (fun i => bif Nat.beq i 46000 then some (fun _ => [[inv_57 t ex]]) else none) hv hb
noncomputable def goal_57 (hv : Nat → Option Pa) (hb : Nat → Option Bool) (t : Nat) (ex : List Xt) (Q : Out → List Blk → Gh → Prop) : Prop :=
  callx (env_57 hv hb t ex) (wpx (env_57 hv hb t ex) 1000) 57 [.lst t (cellsXM ex) ex.length 2] [] {} Q
theorem vc_57 (t : Nat) (ex : List Xt) (Q : Out → List Blk → Gh → Prop) : goal_57 (lookV [(188423, .int .i64), (188426, .int .i64), (188431, .agg [(.int .i64), (.str)]), (290825, .int .i64), (290831, .int .i64), (188434, .int .i64)]) (lookB []) t ex Q = (
(∃ n_0 : Int, (((AV.int .i64 (Nat.cast (List.length ex) : Int)) = (AV.int .i64 n_0)) ∧
 ((∃ x_1 : Nat, ((Lf ((x_1 ≤ (List.length ex)) ∧
 ((List.any (List.take x_1 ex) isLongM) = false))) ∧
 (((AV.lst t (cellsXM ex) (List.length ex) (2 : Nat)) = (AV.lst t (cellsXM ex) (List.length ex) (2 : Nat))) ∧
 (((AV.fn (Fn.func (71 : Nat)) [] []) = (AV.fn (Fn.func (71 : Nat)) [] [])) ∧
 (((AV.int .i64 n_0) = (AV.int .i64 (Nat.cast (List.length ex) : Int))) ∧
 (((AV.int .i64 (0 : Int)) = (AV.int .i64 (Nat.cast x_1 : Int))) ∧
 True)))))) ∧
 (∀ x_1 : Nat, ((Lf ((x_1 ≤ (List.length ex)) ∧
 ((List.any (List.take x_1 ex) isLongM) = false))) →
(bif (decide ((Nat.cast x_1 : Int) < (Nat.cast (List.length ex) : Int))) then (∃ n_2 : Int, (((AV.int .i64 (Nat.cast x_1 : Int)) = (AV.int .i64 n_2)) ∧
 (bif (((decide ((0 : Int) ≤ n_2)) && (Nat.blt (Int.toNat n_2) (List.length ex))) && true) then (bif (Nat.ble (((Int.toNat n_2) * (2 : Nat)) + (2 : Nat)) (List.length (cellsXM ex))) then (∃ n_3 : Int, (∃ s_4 : (List UInt8), (((AV.agg (List.take (2 : Nat) (List.drop ((Int.toNat n_2) * (2 : Nat)) (cellsXM ex)))) = (AV.agg ((AV.int .i64 n_3) :: ((AV.str s_4) :: [])))) ∧
 (bif (decide (n_3 > (14 : Int))) then (bif (decide (n_2 ≥ (0 : Int))) then (Q (Out.ret (AV.bool false)) [] (Gh.mk (0 : Nat) (0 : Nat) []))
else (Q (Out.ret (AV.bool true)) [] (Gh.mk (0 : Nat) (0 : Nat) [])))
else (∃ n_5 : Int, (((AV.int .i64 (Nat.cast (List.length s_4) : Int)) = (AV.int .i64 n_5)) ∧
 (bif (n_5 == (0 : Int)) then (bif (decide (n_2 ≥ (0 : Int))) then (Q (Out.ret (AV.bool false)) [] (Gh.mk (0 : Nat) (0 : Nat) []))
else (Q (Out.ret (AV.bool true)) [] (Gh.mk (0 : Nat) (0 : Nat) [])))
else (∃ n_6 : Int, (((AV.int .i64 (Nat.cast (List.length s_4) : Int)) = (AV.int .i64 n_6)) ∧
 (bif (decide (n_6 > (16 : Int))) then (bif (decide (n_2 ≥ (0 : Int))) then (Q (Out.ret (AV.bool false)) [] (Gh.mk (0 : Nat) (0 : Nat) []))
else (Q (Out.ret (AV.bool true)) [] (Gh.mk (0 : Nat) (0 : Nat) [])))
else (∃ n_7 : Int, (((AV.int .i64 (IntKind.wrap .i64 ((Nat.cast x_1 : Int) + (1 : Int)))) = (AV.int .i64 n_7)) ∧
 ((True ∧
 ((0 : Nat) = (0 : Nat))) ∧
 (∃ y_8 : Nat, ((Lf ((y_8 ≤ (List.length ex)) ∧
 ((List.any (List.take y_8 ex) isLongM) = false))) ∧
 ((((List.length ex) - y_8) < ((List.length ex) - x_1)) ∧
 (((AV.lst t (cellsXM ex) (List.length ex) (2 : Nat)) = (AV.lst t (cellsXM ex) (List.length ex) (2 : Nat))) ∧
 (((AV.fn (Fn.func (71 : Nat)) [] []) = (AV.fn (Fn.func (71 : Nat)) [] [])) ∧
 (((AV.int .i64 (Nat.cast (List.length ex) : Int)) = (AV.int .i64 (Nat.cast (List.length ex) : Int))) ∧
 (((AV.int .i64 n_7) = (AV.int .i64 (Nat.cast y_8 : Int))) ∧
 True))))))))))))))))))))
else False)
else False)))
else (Q (Out.ret (AV.bool true)) [] (Gh.mk (0 : Nat) (0 : Nat) []))))))))) := by kernel_rfl

def extsOkM : Int → List Xt → Bool
  | _, [] => true
  | last, x :: l => decide (last < x.1 ∧ x.1 ≤ 255 ∧ x.2.length ≤ 255) && extsOkM x.1 l
def medM (mk : Bool) (ty seq ti ss : Int) (tc : Nat) (cs : List Int) (tx : Nat) (ex : List Xt) (pad : Int) (pl : List UInt8) : List AV := [.bool mk, .int .i64 ty, .int .i64 seq, .int .i64 ti, .int .i64 ss, .lst tc (cellsI cs) cs.length 1, .lst tx (cellsXM ex) ex.length 2, .int .i64 pad, .str pl]
def flagsM (ty seq ti ss : Int) (cs : List Int) (n : Nat) (pad : Int) : Bool := decide (0 ≤ ty ∧ ty ≤ 127 ∧ 0 ≤ seq ∧ seq ≤ 65535 ∧ 0 ≤ ti ∧ ti < 4294967296 ∧ 0 ≤ ss ∧ ss < 4294967296 ∧ (∀ x ∈ cs, 0 ≤ x ∧ x < 4294967296) ∧ 0 ≤ pad ∧ pad ≤ 255 ∧ cs.length ≤ 15 ∧ n ≤ 16)
theorem short_run (t : Nat) (ex : List Xt) (hx : ex.length ≤ 1000000) (hd : ∀ x ∈ ex, x.2.length ≤ 4611686018427387904) (Q : Out → List Blk → Gh → Prop) (hq : Q (.ret (.bool (shortM ex))) [] {}) : ∃ hv hb, goal_57 hv hb t ex Q := by
  obtain ⟨hv, hb', e⟩ : ∃ hv hb, goal_57 hv hb t ex Q = _ := ⟨_, _, vc_57 t ex Q⟩
  refine ⟨hv, hb', e.mpr ?_⟩
  clear e
  refine ⟨_, rfl, ⟨0, ⟨by omega, by simp⟩, rfl, rfl, rfl, rfl, trivial⟩, ?_⟩
  rintro i ⟨hi, hany⟩
  refine splitD (fun hlt => ?_) (fun hge => ?_)
  · have hlt' : i < ex.length := by omega
    have hdi := hd ex[i] (List.getElem_mem hlt')
    have hstep : (ex.take (i + 1)).any isLongM = isLongM ex[i] := by
      rw [List.take_add_one, List.any_append, hany]; simp [hlt']
    have hbad : isLongM ex[i] = true → shortM ex = false := fun h => by
      have : ex.any isLongM = true := List.any_eq_true.2 ⟨ex[i], List.getElem_mem _, h⟩
      rw [shortM, this]; rfl
    refine ⟨_, rfl, ckI (by simp; omega) (ckI (by rw [cellsX_len]; simp; omega) (getX hlt' (by simp) ?_))⟩
    refine splitD (fun h1 => splitD (fun _ => ?_) (fun h => by exfalso; omega)) (fun h1 => ⟨_, rfl, splitE (fun h2 => splitD (fun _ => ?_) (fun h => by exfalso; omega)) (fun h2 => ⟨_, rfl, splitD (fun h3 => splitD (fun _ => ?_) (fun h => by exfalso; omega)) (fun h3 => ?_)⟩)⟩)
    · rw [← hbad (by simp [isLongM, h1])]; exact hq
    · rw [← hbad (by simp only [isLongM, decide_eq_true h2, Bool.or_true, Bool.true_or])]; exact hq
    · rw [← hbad (by simp only [isLongM, decide_eq_true h3, Bool.or_true])]; exact hq
    · refine wrapI (by omega) (by omega) ⟨⟨trivial, rfl⟩, i + 1, ⟨hlt', ?_⟩, by omega, rfl, rfl, rfl, rfl, trivial⟩
      rw [hstep]
      simp only [isLongM, decide_eq_false h1, decide_eq_false h2, decide_eq_false h3, Bool.or_false]
  · have hle : i = ex.length := by omega
    subst hle
    rw [List.take_length] at hany
    have : shortM ex = true := by rw [shortM, hany]; rfl
    rw [← this]; exact hq
def lastOfM (a : Int) : List Xt → Int
  | [] => a
  | x :: l => lastOfM x.1 l
theorem exts_snoc (x : Xt) : ∀ (l : List Xt) (a : Int), extsOkM a (l ++ [x]) = (extsOkM a l && decide (lastOfM a l < x.1 ∧ x.1 ≤ 255 ∧ x.2.length ≤ 255))
  | [], a => by rw [List.nil_append, extsOkM, extsOkM, extsOkM, lastOfM, Bool.and_true, Bool.true_and]
  | y :: l, a => by rw [List.cons_append, extsOkM, exts_snoc x l y.1, extsOkM, lastOfM, Bool.and_assoc]
theorem last_take : ∀ (l : List Xt) (a : Int) (i : Nat) (h : i < l.length), lastOfM a (l.take (i + 1)) = l[i].1
  | x :: l, a, 0, _ => rfl
  | x :: l, a, i + 1, h => by
    rw [List.take_succ_cons, lastOfM, last_take l x.1 i (by simpa using h)]
    rfl
theorem exts_take {ex : List Xt} {i : Nat} (hi : i < ex.length) : extsOkM 0 (ex.take (i + 1)) = (extsOkM 0 (ex.take i) && decide (lastOfM 0 (ex.take i) < ex[i].1 ∧ ex[i].1 ≤ 255 ∧ ex[i].2.length ≤ 255)) := by
  rw [← exts_snoc, List.take_add_one, List.getElem?_eq_getElem hi]
  rfl
theorem getXi {l : List Xt} {i m : Nat} (hi : i < l.length) (hm : m = i * 2 + 0) {K : Int → Prop} (hk : K l[i].1) : ∃ n : Int, (cellsXM l).getD m AV.undef = AV.int .i64 n ∧ K n := by
  refine ⟨_, ?_, hk⟩
  subst hm
  have e := cellsX_at hi (m := i * 2) (by omega)
  have : ((cellsXM l).drop (i * 2))[0]? = some (AV.int .i64 l[i].1) := by
    have h2 : (List.take 2 (List.drop (i * 2) (cellsXM l)))[0]? = some (AV.int .i64 l[i].1) := by rw [e]; rfl
    rwa [List.getElem?_take, if_pos (by omega)] at h2
  rw [List.getElem?_drop] at this
  rw [List.getD_eq_getElem?_getD, this]
  rfl
def rightM (ty seq ti ss : Int) (cs : List Int) (ex : List Xt) (pad : Int) : Bool := flagsM ty seq ti ss cs ex.length pad && extsOkM 0 ex
def dataM (ex : List Xt) : Prop := ∀ x ∈ ex, x.2.length ≤ 4611686018427387904
def cShort : Con
  | [.lst _ l n 2], H, K => ∃ ex : List Xt, Lf (l = cellsXM ex ∧ n = ex.length ∧ ex.length ≤ 1000000 ∧ dataM ex) ∧ K (.ret (.bool (shortM ex))) H
  | _, _, _ => False
theorem short_ok : ValidF Tryd.prog gl0 57 cShort := by
  refine valid_flat (enters_of (by kernel_rfl)) gl0_noY fun args H Q hc => ?_
  unfold cShort at hc
  split at hc
  · rename_i t l n
    obtain ⟨ex, ⟨rfl, rfl, hl, hd⟩, hq⟩ := hc
    obtain ⟨hv, hb', h⟩ := short_run t ex hl hd (fun o H' _ => H' = [] ∧ (∃ v, o = .ret v ∧ old 0 v = true ∧ noY v = true) ∧ Q o H) ⟨rfl, ⟨_, rfl, rfl, rfl⟩, hq⟩
    exact ⟨rfl, rfl, _, 1000, envFor23 sm0_ok _ _ _, rfl, h⟩
  · exact hc.elim
end Go.Proofs.YtbchmkhliehbfaaDoor
