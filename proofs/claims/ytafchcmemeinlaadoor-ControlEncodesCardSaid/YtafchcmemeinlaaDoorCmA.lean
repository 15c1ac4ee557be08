/-
  Chapter 24: the package variables; the environment of runs; the chapter's examples hold.
-/
import Derived.Test.YtafchcmemeinlaaDoorC24U
import Derived.Test.YtafchcmemeinlaaDoorProg
import Derived.KernelRfl
import Derived.MakeChecks
set_option linter.unusedSimpArgs false
set_option linter.unusedVariables false
namespace Go.Proofs.YtafchcmemeinlaaDoor
open Go.RowKit

def b5 (a b c d e : Bool) : List AV := [.bool a, .bool b, .bool c, .bool d, .bool e]
def hasC : List AV := b5 false false false false false ++ b5 false true true false false ++ b5 false false true false false ++ b5 false false false false false ++ b5 true false false true false ++ b5 true false false false false ++ b5 true false false false true
def wireC : List AV := [.int .i64 0, .int .i64 200, .int .i64 201, .int .i64 203, .int .i64 205, .int .i64 206, .int .i64 205]
def glC : Nat → Option (List AV)
 | 0 => some hasC
 | 1 => some wireC
 | _ => none
theorem glC_noY : ∀ g cs, glC g = some cs → noYL cs = true := by
 intro g cs h
 unfold glC at h
 split at h
 ·cases h; rfl
 ·cases h; rfl
 ·cases h

abbrev SM := Nat → Option (List AV → List Blk → (Out → List Blk → Prop) → Prop)
def hz24 : List Nat := [16433, 24616, 24674, 24692, 32796, 32811, 32820, 32929, 32937, 41040, 61479, 69640, 69667, 69670, 69674, 69676, 69696, 86061, 86067, 123025, 123041, 143424, 143432, 143463, 143470, 143476, 143481, 147574, 147639, 147645, 159835, 159854, 180244, 188434, 188441, 188456, 188473, 188478, 188483, 188494, 188534, 188540, 200734, 200741, 200748, 225309, 225328, 225332, 225336, 225342, 225364, 225387, 245789, 245813, 249903, 249944, 249966, 258089, 262179, 262228, 262232, 274460, 278552, 278556, 278560, 278593, 278607, 286738, 286760, 319501, 319507]
noncomputable def e24 (sm : SM) (inv : Nat → Option (S → List (List LInv))) (hv : Nat → Option Pa) (hb : Nat → Option Bool) : Env :=
 { fn := fun f => lookF f tabA, sm := sm, gl := glC, inv := inv, hv := hv, hb := hb, hz := fun k => hz24.any (Nat.beq k) }

set_option maxRecDepth 1000000
theorem names24 : namesOk Tryd.prog = true := by kernel_rfl
theorem mixed24 : Tryd.prog.follows .mixedOrders = true := by kernel_rfl
theorem envFor24 {sm : SM} (h : ∀ f g, sm f = some g → ValidF Tryd.prog glC f g) (inv : Nat → Option (S → List (List LInv))) (hv : Nat → Option Pa) (hb : Nat → Option Bool) : EnvFor Tryd.prog (e24 sm inv hv hb) :=
 ⟨mixed24, names24, tabA_ok, h⟩
def sm0 : SM := fun _ => none
theorem sm0_ok : ∀ f g, sm0 f = some g → ValidF Tryd.prog glC f g := fun _ _ h => by cases h

def eW : Env := { fn := fun f => lookF f tabW, gl := glC }
theorem envForW : EnvFor Tryd.prog eW := ⟨mixed24, names24, tabW_ok, fun _ _ h => by cases h⟩
theorem works_run : callx eW (wpx eW 1000000) 17 [] [] {} isT0 = True := by kernel_rfl

theorem works_ok : ValidF Tryd.prog glC 17 cTrue := valid_true (enters_of (by kernel_rfl)) glC_noY envForW rfl works_run
end Go.Proofs.YtafchcmemeinlaaDoor

set_option linter.unusedSimpArgs false
set_option linter.unusedVariables false
namespace Go.Proofs.YtafchcmemeinlaaDoor
open Go.RowKit
set_option maxRecDepth 1000000

abbrev Con := List AV → List Blk → (Out → List Blk → Prop) → Prop
def lookS : List (Nat × Con) → SM
 | [], _ => none
 | (k, c) :: l, f => bif Nat.beq f k then some c else lookS l f
theorem lookS_ok : ∀ (l : List (Nat × Con)), (∀ p, p ∈ l → ValidF Tryd.prog glC p.1 p.2) → ∀ f g, lookS l f = some g → ValidF Tryd.prog glC f g
 | [], _, f, g, h => by simp [lookS] at h
 | (k, c) :: l, hl, f, g, h => by
  simp only [lookS] at h
  cases hk : Nat.beq f k
  ·rw [hk] at h
   exact lookS_ok l (fun p hp => hl p (by simp [hp])) f g h
  ·rw [hk] at h
   simp only [cond_true, Option.some.injEq] at h
   subst h
   obtain rfl := Nat.eq_of_beq_eq_true hk
   exact hl (f, c) (by simp)

theorem cellsI_get {xs : List Int} {i j : Nat} (hi : i < xs.length) {K : Int → Prop} (hk : K xs[i]) (hj : j = i) : ∃ n : Int, (cellsI xs).getD j AV.undef = AV.int .i64 n ∧ K n := by
 subst hj
 exact ⟨xs[j], by simp [cellsI, hi], hk⟩

def badM (bits n : Int) : Bool := decide (n < 0) || (n.fdiv (2 ^ min bits.toNat 64) != 0)
def inv_65 (t : Nat) (bits : Int) (xs : List Int) : LInv where
 α := Nat
 pre i := Lf (i ≤ xs.length ∧ (xs.take i).any (badM bits) = false)
 st i := ⟨mkT [(0, .lst t (cellsI xs) xs.length 1), (1, .fn (.func 76) [] [.ptr 0 1 0]), (7, .int .i64 xs.length), (8, .int .i64 i)], [⟨.exact, true, [.int .i64 bits]⟩]⟩
 mu i := xs.length - i
noncomputable def env_65 (hv : Nat → Option Pa) (hb : Nat → Option Bool) (t : Nat) (bits : Int) (xs : List Int) : Env :=
 e24 sm0 (fun i => bif Nat.beq i 79000 then some (fun _ => [[inv_65 t bits xs]]) else none) hv hb
noncomputable def goal_65 (hv : Nat → Option Pa) (hb : Nat → Option Bool) (t : Nat) (bits : Int) (xs : List Int) (Q : Out → List Blk → Gh → Prop) : Prop :=
 callx (env_65 hv hb t bits xs) (wpx (env_65 hv hb t bits xs) 1000) 65 [.int .i64 bits, .lst t (cellsI xs) xs.length 1] [] {} Q
abbrev z4D0 (x_1 : Nat) (xs : List Int) (bits : Int) : Prop := Lf (x_1 ≤ xs.length ∧ List.any (xs.take x_1) (badM bits) = Bool.false)
abbrev z4D1 : Out := .ret (.bool Bool.true)
theorem vc_65 (t : Nat) (bits : Int) (xs : List Int) (Q : Out → List Blk → Gh → Prop) : goal_65 (lookV [(323591, .int .i64), (323594, .int .i64), (323599, .int .i64), (311305, .int .i64), (323602, .int .i64)]) (lookB []) t bits xs Q = (exI
 IntKind.i64 (xs.length : Int) (fun n_0 => (∃ x_1 : Nat, z4D0 x_1 xs bits ∧ eqqQ [AV.int .i64 bits] ∧ eqqQ (AV.lst t (cellsI xs) xs.length 1) ∧ eqqQ (AV.fn (Fn.func 76) [] [.ptr 0 1 0]) ∧ AV.int .i64 n_0 = AV.int .i64
 (xs.length : Int) ∧ AV.int .i64 0 = AV.int .i64 (x_1 : Int) ∧ True) ∧ ∀ x_1 : Nat, z4D0 x_1 xs bits → bif decide ((x_1 : Int) < (xs.length : Int)) then exI .i64 (x_1 : Int) (fun n_2 => ckQ (decide (0 ≤ n_2) && Nat.blt
 n_2.toNat xs.length && Bool.true) (ckQ (Nat.blt (n_2.toNat * 1) (cellsI xs).length) (exV IntKind.i64 ((cellsI xs).getD (n_2.toNat * 1) AV.undef) (fun n_3 => bif decide (n_3 < 0) then bif decide (n_2 ≥ 0) then Q (.ret (.bool Bool.false)) []
 {} else Q z4D1 [] {} else ckQ (decide (0 ≤ bits) && Bool.true) (exI .i64 (Int.fdiv n_3 ((2 : Int) ^ Min.min bits.toNat 64)) (fun n_4 => bif n_4 != 0 then bif decide (n_2 ≥ 0) then Q (.ret (.bool Bool.false)) [] {} else Q z4D1 [] {}
 else exW .i64 ((x_1 : Int) + 1) (fun n_5 => (True ∧ (0 : Nat) = (0 : Nat)) ∧ ∃ y_6 : Nat, z4D0 y_6 xs bits ∧ xs.length - y_6 < xs.length - x_1 ∧ eqqQ [AV.int .i64 bits] ∧ eqqQ (AV.lst t (cellsI xs) xs.length 1) ∧ eqqQ (AV.fn
 (Fn.func 76) [] [.ptr 0 1 0]) ∧ eqqQ (AV.int .i64 (xs.length : Int)) ∧ AV.int .i64 n_5 = AV.int .i64 (y_6 : Int) ∧ True))))))) else Q z4D1 [] {})) := by kernel_rfl

theorem blt_of {a b : Nat} (h : a < b) : a.blt b = true := by rw [blt_iff]; exact h
theorem cellsI_length (xs : List Int) : (cellsI xs).length = xs.length := by simp [cellsI]

theorem fits_run (t : Nat) (bits : Int) (xs : List Int) (Q : Out → List Blk → Gh → Prop) (hx : xs.length ≤ 4611686018427387904) (hb : 0 ≤ bits)
  (hq : Q (.ret (.bool (!(xs.any (badM bits))))) [] {}) : ∃ hv hb, goal_65 hv hb t bits xs Q := by
 obtain ⟨hv, hb', e⟩ : ∃ hv hb, goal_65 hv hb t bits xs Q = _ := ⟨_, _, vc_65 t bits xs Q⟩
 refine ⟨hv, hb', e.mpr ?_⟩
 delta z4D0 z4D1
 clear e
 refine ⟨_, rfl, ⟨0, ⟨⟨by omega, by simp⟩⟩, by simp⟩, ?_⟩
 rintro i ⟨hi, hany⟩
 refine splitI (fun hlt => ?_) (fun hge => ?_)
 ·have hlt' : i < xs.length := by simpa using hlt
  refine ⟨_, rfl, ckI (by simp [Nat.blt]; exact hlt') (ckI (blt_of (by rw [cellsI_length]; simpa using hlt')) (cellsI_get hlt' ?_ (by simp)))⟩
  have hstep : (xs.take (i + 1)).any (badM bits) = badM bits xs[i] := by
   rw [List.take_add_one, List.any_append, hany]; simp [hlt']
  refine splitI (fun hn => ?_) (fun hn => ?_)
  ·have hbad : xs.any (badM bits) = true := by
    rw [List.any_eq_true]; exact ⟨xs[i], List.getElem_mem _, by simp [badM]; left; simpa using hn⟩
   rw [hbad] at hq
   refine splitI (fun _ => hq) (fun hc => ?_)
   simp at hc
  ·refine ckI (by simpa using hb) ⟨_, rfl, splitI (fun hz => ?_) (fun hz => ?_)⟩
   ·have hbad : xs.any (badM bits) = true := by
     rw [List.any_eq_true]; exact ⟨xs[i], List.getElem_mem _, by simp only [badM, Bool.or_eq_true]; right; exact hz⟩
    rw [hbad] at hq
    refine splitI (fun _ => hq) (fun hc => ?_)
    simp at hc
   ·refine wrapI (by omega) (by omega) ⟨⟨trivial, rfl⟩, i + 1, ⟨⟨hlt', ?_⟩⟩, Nat.sub_succ_lt_self _ _ hlt', by simp⟩
    rw [hstep, badM, hn, hz]; rfl
 ·have hle : xs.length ≤ i := by simpa using hge
  have : xs.take i = xs := List.take_of_length_le hle
  rw [this] at hany
  rw [hany] at hq
  exact hq

def cFits : Con
 | [.int .i64 bits, .lst _ l n 1], H, K => ∃ xs : List Int, Lf (l = cellsI xs ∧ n = xs.length ∧ 0 ≤ bits ∧ xs.length ≤ 4611686018427387904) ∧ K (.ret (.bool (!(xs.any (badM bits))))) H
 | _, _, _ => False

theorem noY_cellsI (xs : List Int) : noYL (cellsI xs) = true ∧ oldL 0 (cellsI xs) = true ∧ noTL (cellsI xs) = true := by
 induction xs with
 | nil => exact ⟨rfl, rfl, rfl⟩
 | cons x xs ih => exact ⟨by simpa [cellsI, noYL, noY] using ih.1, by simpa [cellsI, oldL, old] using ih.2.1, by simpa [cellsI, noTL, noT] using ih.2.2⟩

theorem fits_raw : ValidF Tryd.prog glC 65 cFits := by
 refine valid_flat (enters_of (by kernel_rfl)) glC_noY fun args H Q hc => ?_
 unfold cFits at hc
 split at hc
 ·rename_i bits t l n
  obtain ⟨xs, ⟨rfl, rfl, hb, hl⟩, hq⟩ := hc
  obtain ⟨hv, hb', h⟩ := fits_run t bits xs (hx := hl) (hb := hb) (Q := fun o H' _ => H' = [] ∧ (∃ v, o = .ret v ∧ old 0 v = true ∧ noY v = true) ∧ Q o H) ⟨rfl, ⟨_, rfl, rfl, rfl⟩, hq⟩
  exact ⟨rfl, rfl, _, 1000, envFor24 sm0_ok _ _ _, rfl, h⟩
 ·exact hc.elim
def cFitsV : Con := fun args H Q => lendL [0, 1] H args fun a => cFits a H Q
theorem fits_ok : ValidF Tryd.prog glC 65 cFitsV := valid_view fits_raw glC_noY [0, 1] fun args H Q hc => by
 unfold cFits at hc
 split at hc
 ·obtain ⟨xs, h, hq⟩ := hc
  exact ⟨xs, h, rfl, ⟨_, rfl, rfl⟩, hq⟩
 ·exact hc.elim
end Go.Proofs.YtafchcmemeinlaaDoor

set_option linter.unusedSimpArgs false
set_option linter.unusedVariables false
namespace Go.Proofs.YtafchcmemeinlaaDoor
open Go.RowKit
set_option maxRecDepth 1000000

def smE : SM := lookS [(65, cFitsV)]
theorem smE_ok : ∀ f g, smE f = some g → ValidF Tryd.prog glC f g := lookS_ok _ (by simp only [List.mem_cons, List.not_mem_nil, or_false, forall_eq]; exact fits_ok)

def nackGoM (b : Int) : Int → List Int → Bool
 | _, [] => true
 | far, n :: l => if (n - b) % 65536 ≤ far ∨ 32767 < (n - b) % 65536 then false else nackGoM b ((n - b) % 65536) l
def nacksM (xs : List Int) : Bool := decide (1 ≤ xs.length) && decide (xs.length ≤ 64) && !(xs.any (badM 16)) && nackGoM (xs.getD 0 0) (-1) xs

def inv_43 (t : Nat) (xs : List Int) : LInv where
 α := Nat × Int
 pre p := Lf (xs.any (badM 16) = false ∧ 1 ≤ xs.length ∧ xs.length ≤ 64 ∧ p.1 ≤ xs.length ∧ -1 ≤ p.2 ∧ p.2 ≤ 32767 ∧ nackGoM (xs.getD 0 0) (-1) xs = nackGoM (xs.getD 0 0) p.2 (xs.drop p.1))
 st p := ⟨mkT [(0, .lst t (cellsI xs) xs.length 1), (3, .int .i64 p.2), (20, .lst t (cellsI xs) xs.length 1), (21, .int .i64 xs.length), (22, .int .i64 p.1)], []⟩
 mu p := xs.length - p.1
noncomputable def goal_43 (hv : Nat → Option Pa) (hb : Nat → Option Bool) (t : Nat) (xs : List Int) (Q : Out → List Blk → Gh → Prop) : Prop :=
 callx (e24 smE (fun i => bif Nat.beq i 43000 then some (fun _ => [[inv_43 t xs]]) else none) hv hb) (wpx (e24 smE (fun i => bif Nat.beq i 43000 then some (fun _ => [[inv_43 t xs]]) else none) hv hb) 1000) 43 [.lst t (cellsI xs) xs.length 1] [] {} Q
abbrev z4E1 : Out := .ret (.bool Bool.false)
abbrev z4E0 (xs : List Int) (x_4 : Nat × Int) : Prop := Lf (List.any xs (badM 16) = Bool.false ∧ 1 ≤ xs.length ∧ xs.length ≤ 64 ∧ x_4.1 ≤ xs.length ∧ -1 ≤ x_4.2 ∧ x_4.2 ≤ 32767 ∧ nackGoM (xs.getD 0 0) (-1) xs = nackGoM (xs.getD 0 0) x_4.2 (xs.drop x_4.1))
abbrev z4E2 (t : Nat) (xs : List Int) : Prop := eqqQ (AV.lst t (cellsI xs) xs.length 1)
theorem vc_43 (t : Nat) (xs : List Int) (Q : Out → List Blk → Gh → Prop) : goal_43 (lookV [(176136, .int .i64), (176140, .int .i64), (176149, .int .i64), (176153, .int .i64), (176157, .int .i64), (176158, .int .i64), (176159, .int .i64),
 (176168, .int .i64)]) (lookB []) t xs Q = (exI .i64 (xs.length : Int) (fun n_0 => bif decide (n_0 < 1) then Q z4E1 [] {} else exI .i64 (xs.length : Int) (fun n_1 => bif decide (n_1 > 64) then Q z4E1 [] {} else ∃ xs_2 : List
 Int, Lf (cellsI xs = cellsI xs_2 ∧ xs.length = xs_2.length ∧ (0 : Int) ≤ (16 : Int) ∧ xs_2.length ≤ 4611686018427387904) ∧ bif !List.any xs_2 (badM 16) then exI .i64 (xs.length : Int) (fun n_3 => (∃ x_4 : Nat × Int, z4E0 xs x_4 ∧
 z4E2 t xs ∧ AV.int .i64 (-1) = AV.int .i64 x_4.2 ∧ AV.int .i64 n_3 = AV.int .i64 (xs.length : Int) ∧ z4E2 t xs ∧ AV.int .i64 0 = AV.int .i64 (x_4.1 : Int) ∧ True) ∧ ∀ x_4 : Nat × Int, z4E0 xs x_4 →
 bif decide ((x_4.1 : Int) < (xs.length : Int)) then ckQ (Nat.blt (x_4.1 : Int).toNat xs.length && Bool.true) (ckQ (Nat.blt ((x_4.1 : Int).toNat * 1) (cellsI xs).length) (exV IntKind.i64 ((cellsI xs).getD ((x_4.1 : Int).toNat * 1) AV.undef)
 (fun n_5 => ckQ (Nat.blt 0 xs.length && Bool.true) (ckQ (Nat.blt 0 (cellsI xs).length) (exV IntKind.i64 ((cellsI xs).getD 0 AV.undef) (fun n_6 => exW .i64 (n_5 - n_6) (fun n_7 => exW .i64 (((n_7 % 18446744073709551616).toNat
 &&& 65535 : Nat) : Int) (fun n_8 => bif decide (n_8 ≤ x_4.2) then Q z4E1 [] {} else bif decide (n_8 > 32767) then Q z4E1 [] {} else exW .i64 ((x_4.1 : Int) + 1) (fun n_9 => (True ∧ (0 : Nat) = (0 : Nat)) ∧ ∃ y_10 : Nat × Int, z4E0
 xs y_10 ∧ xs.length - y_10.1 < xs.length - x_4.1 ∧ z4E2 t xs ∧ AV.int .i64 n_8 = AV.int .i64 y_10.2 ∧ eqqQ (AV.int .i64 (xs.length : Int)) ∧ z4E2 t xs ∧ AV.int .i64 n_9 = AV.int .i64 (y_10.1 : Int) ∧
 True))))))))) else Q (.ret (.bool Bool.true)) [] {}) else Q z4E1 [] {}))) := by kernel_rfl

theorem maskI {z : Int} {K : Int → Prop} (h : K (z % 65536)) : ∃ n : Int, AV.int .i64 (IntKind.wrap .i64 (((z % 18446744073709551616).toNat &&& 65535 : Nat) : Int)) = AV.int .i64 n ∧ K n := by
 refine ⟨z % 65536, ?_, h⟩
 have e1 : ((z % 18446744073709551616).toNat &&& 65535) = (z % 18446744073709551616).toNat % 65536 := Nat.and_two_pow_sub_one_eq_mod _ 16
 have e2 : IntKind.wrap .i64 (((z % 18446744073709551616).toNat % 65536 : Nat) : Int) = z % 65536 := by rw [IntKind.wrap_i64]; omega
 rw [e1, e2]

theorem bad16 {xs : List Int} (h : xs.any (badM 16) = false) {i : Nat} (hi : i < xs.length) : 0 ≤ xs[i] ∧ xs[i] ≤ 65535 := by
 have hb : badM 16 xs[i] = false := by
  have := List.any_eq_false.1 h xs[i] (List.getElem_mem hi)
  simpa using this
 simp only [badM, Bool.or_eq_false_iff, decide_eq_false_iff_not] at hb
 have e : (2 : Int) ^ min (16 : Int).toNat 64 = 65536 := rfl
 rw [e] at hb
 have h2 : xs[i].fdiv 65536 = 0 := by simpa using hb.2
 rw [Int.fdiv_eq_ediv_of_nonneg _ (by omega)] at h2
 omega

theorem nacks_run (t : Nat) (xs : List Int) (Q : Out → List Blk → Gh → Prop) (hl : xs.length ≤ 4611686018427387904) (hq : Q (.ret (.bool (nacksM xs))) [] {}) : ∃ hv hb, goal_43 hv hb t xs Q := by
 obtain ⟨hv, hb', e⟩ : ∃ hv hb, goal_43 hv hb t xs Q = _ := ⟨_, _, vc_43 t xs Q⟩
 refine ⟨hv, hb', e.mpr ?_⟩
 delta z4E1 z4E0 z4E2
 clear e
 refine ⟨_, rfl, ?_⟩
 refine splitI (fun h1 => ?_) (fun h1 => ?_)
 ·have : nacksM xs = false := by
   simp only [decide_eq_true_eq] at h1
   have h0 : ¬ 1 ≤ xs.length := by omega
   simp only [nacksM, decide_eq_false h0, Bool.false_and]
  rw [this] at hq; exact hq
 refine ⟨_, rfl, ?_⟩
 refine splitI (fun h2 => ?_) (fun h2 => ?_)
 ·have : nacksM xs = false := by
   simp only [gt_iff_lt, decide_eq_true_eq] at h2
   have h0 : ¬ xs.length ≤ 64 := by omega
   simp only [nacksM, decide_eq_false h0, Bool.false_and, Bool.and_false]
  rw [this] at hq; exact hq
 refine ⟨xs, ⟨rfl, rfl, by omega, hl⟩, ?_⟩
 refine splitI (fun h3 => ?_) (fun h3 => ?_)
 ·simp only [decide_eq_false_iff_not, gt_iff_lt, Int.not_lt, Bool.not_eq_true'] at h1 h2 h3
  have hn : nacksM xs = nackGoM (xs.getD 0 0) (-1) xs := by
   simp only [nacksM, h3, Bool.not_false, Bool.and_true]
   rw [decide_eq_true (by omega), decide_eq_true (by omega)]; rfl
  refine ⟨_, rfl, ⟨(0, -1), ⟨⟨h3, by omega, by omega, by omega, by omega, by omega, by simp⟩⟩, by simp⟩, ?_⟩
  rintro ⟨i, far⟩ ⟨g1, g2, g3, g4, g5, g6, g7⟩
  simp only at g4 g5 g6 g7
  refine splitI (fun hlt => ?_) (fun hge => ?_)
  ·have hlt' : i < xs.length := by simpa using hlt
   have b0 := bad16 g1 (show 0 < xs.length by omega)
   have bi := bad16 g1 hlt'
   have hx0 : xs.getD 0 0 = xs[0] := by simp [show 0 < xs.length by omega]
   refine ckI (by simp [Nat.blt]; exact hlt') (ckI (blt_of (by rw [cellsI_length]; simpa using hlt')) (cellsI_get hlt' ?_ (by simp)))
   refine ckI (by simp [Nat.blt]; omega) (ckI (blt_of (by rw [cellsI_length]; omega)) (cellsI_get (show 0 < xs.length by omega) ?_ rfl))
   refine wrapI (by omega) (by omega) (maskI ?_)
   rw [List.drop_eq_getElem_cons hlt', nackGoM, hx0] at g7
   refine splitI (fun h4 => ?_) (fun h4 => splitI (fun h5 => ?_) (fun h5 => ?_))
   ·rw [if_pos (.inl (by simpa using h4))] at g7
    rw [hn, hx0, g7] at hq; exact hq
   ·rw [if_pos (.inr (by simpa using h5))] at g7
    rw [hn, hx0, g7] at hq; exact hq
   ·simp only [decide_eq_false_iff_not, gt_iff_lt, Int.not_lt, Int.not_le] at h4 h5
    rw [if_neg (by omega)] at g7
    refine wrapI (by omega) (by omega) ⟨⟨trivial, rfl⟩, (i + 1, (xs[i] - xs[0]) % 65536), ⟨⟨g1, g2, g3, hlt', by omega, h5, by rw [hx0]; exact g7⟩⟩, Nat.sub_succ_lt_self _ _ hlt', by simp⟩
  ·have hle : xs.length ≤ i := by simpa using hge
   rw [List.drop_of_length_le hle, nackGoM] at g7
   rw [hn, g7] at hq; exact hq
 ·have : nacksM xs = false := by
   simp only [Bool.not_eq_false'] at h3
   simp [nacksM, h3]
  rw [this] at hq; exact hq

def cNacks : Con
 | [.lst _ l n 1], H, K => ∃ xs : List Int, Lf (l = cellsI xs ∧ n = xs.length ∧ xs.length ≤ 4611686018427387904) ∧ K (.ret (.bool (nacksM xs))) H
 | _, _, _ => False
theorem cNacks_view : ∀ args H Q, cNacks args H Q → cNacks args [] fun o H' => H' = [] ∧ (∃ v, o = .ret v ∧ noT v = true) ∧ Q o H := by
 intro args H Q hc
 unfold cNacks at hc
 split at hc
 ·obtain ⟨xs, h, hq⟩ := hc
  exact ⟨xs, h, rfl, ⟨_, rfl, rfl⟩, hq⟩
 ·exact hc.elim
def cNacksV : Con := fun args H Q => lendL [1] H args fun a => cNacks a H Q

theorem nacks_ok : ValidF Tryd.prog glC 43 cNacksV := by
 refine valid_view (c := cNacks) (valid_flat (enters_of (by kernel_rfl)) glC_noY fun args H Q hc => ?_) glC_noY [1] cNacks_view
 unfold cNacks at hc
 split at hc
 ·rename_i t l n
  obtain ⟨xs, ⟨rfl, rfl, hl⟩, hq⟩ := hc
  obtain ⟨hv, hb', h⟩ := nacks_run t xs (hl := hl) (Q := fun o H' _ => H' = [] ∧ (∃ v, o = .ret v ∧ old 0 v = true ∧ noY v = true) ∧ Q o H) ⟨rfl, ⟨_, rfl, rfl, rfl⟩, hq⟩
  exact ⟨rfl, rfl, _, 1000, envFor24 smE_ok _ _ _, rfl, h⟩
 ·exact hc.elim
end Go.Proofs.YtafchcmemeinlaaDoor

set_option linter.unusedSimpArgs false
set_option linter.unusedVariables false
namespace Go.Proofs.YtafchcmemeinlaaDoor
open Go.RowKit
set_option maxRecDepth 1000000

def inv_19 (t : Nat) (xs : List Int) : LInv where
 α := Nat × Int
 pre p := Lf (1 ≤ xs.length ∧ xs.length ≤ 64 ∧ p.1 ≤ xs.length ∧ (xs.take p.1).any (badM 16) = false ∧ -1 ≤ p.2 ∧ p.2 ≤ 32767 ∧ nackGoM (xs.getD 0 0) (-1) xs = nackGoM (xs.getD 0 0) p.2 (xs.drop p.1))
 st p := ⟨mkT [(0, .lst t (cellsI xs) xs.length 1), (3, .int .i64 p.2), (4, .int .i64 p.1)], []⟩
 mu p := xs.length - p.1
noncomputable def goal_19 (hv : Nat → Option Pa) (hb : Nat → Option Bool) (t : Nat) (xs : List Int) (Q : Out → List Blk → Gh → Prop) : Prop :=
 callx (e24 sm0 (fun i => bif Nat.beq i 19000 then some (fun _ => [[inv_19 t xs]]) else none) hv hb) (wpx (e24 sm0 (fun i => bif Nat.beq i 19000 then some (fun _ => [[inv_19 t xs]]) else none) hv hb) 1000) 19 [.lst t (cellsI xs) xs.length 1] [] {} Q
abbrev z4F1 : Out := .ret (.bool Bool.false)
abbrev z4F0 (xs : List Int) (x_2 : Nat × Int) : Prop := Lf (1 ≤ xs.length ∧ xs.length ≤ 64 ∧ x_2.1 ≤ xs.length ∧ List.any (xs.take x_2.1) (badM 16) = Bool.false ∧ -1 ≤ x_2.2 ∧ x_2.2 ≤ 32767 ∧ nackGoM (xs.getD 0 0) (-1) xs = nackGoM (xs.getD 0 0) x_2.2 (xs.drop x_2.1))
theorem vc_19 (t : Nat) (xs : List Int) (Q : Out → List Blk → Gh → Prop) : goal_19 (lookV [(77831, .int .i64), (77835, .int .i64), (77838, .int .i64), (77840, .int .i64), (77845, .int .i64), (77847, .int .i64), (77851, .int .i64), (77853,
 .int .i64), (77856, .int .i64), (77857, .int .i64), (77858, .int .i64), (77859, .int .i64), (77842, .int .i64), (77843, .int .i64)]) (lookB []) t xs Q = (exI .i64 (xs.length : Int) (fun n_0 => bif decide (n_0 < 1) then Q z4F1 [] {}
 else exI .i64 (xs.length : Int) (fun n_1 => bif decide (n_1 > 64) then Q z4F1 [] {} else (∃ x_2 : Nat × Int, z4F0 xs x_2 ∧ eqqQ (AV.lst t (cellsI xs) xs.length 1) ∧ AV.int .i64 (-1) = AV.int .i64 x_2.2 ∧ AV.int
 IntKind.i64 0 = AV.int .i64 (x_2.1 : Int) ∧ True) ∧ ∀ x_2 : Nat × Int, z4F0 xs x_2 → exI .i64 (x_2.1 : Int) (fun n_3 => exI .i64 (xs.length : Int) (fun n_4 => bif decide (n_3 < n_4) then exI .i64 (x_2.1 : Int)
 (fun n_5 => ckQ (decide (0 ≤ n_5) && Nat.blt n_5.toNat xs.length && Bool.true) (ckQ (Nat.blt (n_5.toNat * 1) (cellsI xs).length) (exV IntKind.i64 ((cellsI xs).getD (n_5.toNat * 1) AV.undef) (fun n_6 => bif decide (n_6 ≥ 0) then bif decide
 (n_6 < 65536) then exI .i64 (x_2.1 : Int) (fun n_7 => ckQ (decide (0 ≤ n_7) && Nat.blt n_7.toNat xs.length && Bool.true) (ckQ (Nat.blt (n_7.toNat * 1) (cellsI xs).length) (exV IntKind.i64 ((cellsI xs).getD (n_7.toNat * 1) AV.undef)
 (fun n_8 => ckQ (Nat.blt 0 xs.length && Bool.true) (ckQ (Nat.blt 0 (cellsI xs).length) (exV IntKind.i64 ((cellsI xs).getD 0 AV.undef) (fun n_9 => exW .i64 (n_8 - n_9) (fun n_10 => exW .i64 (n_10 + 65536) (fun n_11 => exI
 IntKind.i64 (n_11.tmod 65536) (fun n_12 => bif decide (n_12 ≤ x_2.2) then Q z4F1 [] {} else bif decide (n_12 > 32767) then Q z4F1 [] {} else exI .i64 (x_2.1 : Int) (fun n_13 => exW .i64 (n_13 + 1) (fun n_14 => (True ∧ (0 :
 Nat) = (0 : Nat)) ∧ ∃ y_15 : Nat × Int, z4F0 xs y_15 ∧ xs.length - y_15.1 < xs.length - x_2.1 ∧ eqqQ (AV.lst t (cellsI xs) xs.length 1) ∧ AV.int .i64 n_12 = AV.int .i64 y_15.2 ∧ AV.int .i64 n_14 = AV.int .i64
 (y_15.1 : Int) ∧ True)))))))))))) else Q z4F1 [] {} else Q z4F1 [] {})))) else Q (.ret (.bool Bool.true)) [] {}))))) := by kernel_rfl

theorem badM16 (x : Int) : badM 16 x = true ↔ x < 0 ∨ 65536 ≤ x := by
 simp only [badM, Bool.or_eq_true, decide_eq_true_eq]
 have e : (2 : Int) ^ min (16 : Int).toNat 64 = 65536 := rfl
 rw [e, Int.fdiv_eq_ediv_of_nonneg _ (by omega), bne_iff_ne]
 omega

theorem refNacks_run (t : Nat) (xs : List Int) (Q : Out → List Blk → Gh → Prop) (hl : xs.length ≤ 4611686018427387904) (hq : Q (.ret (.bool (nacksM xs))) [] {}) : ∃ hv hb, goal_19 hv hb t xs Q := by
 obtain ⟨hv, hb', e⟩ : ∃ hv hb, goal_19 hv hb t xs Q = _ := ⟨_, _, vc_19 t xs Q⟩
 refine ⟨hv, hb', e.mpr ?_⟩
 delta z4F1 z4F0
 clear e
 refine ⟨_, rfl, ?_⟩
 refine splitI (fun h1 => ?_) (fun h1 => ?_)
 ·have : nacksM xs = false := by
   simp only [decide_eq_true_eq] at h1
   have h0 : ¬ 1 ≤ xs.length := by omega
   simp only [nacksM, decide_eq_false h0, Bool.false_and]
  rw [this] at hq; exact hq
 refine ⟨_, rfl, ?_⟩
 refine splitI (fun h2 => ?_) (fun h2 => ?_)
 ·have : nacksM xs = false := by
   simp only [gt_iff_lt, decide_eq_true_eq] at h2
   have h0 : ¬ xs.length ≤ 64 := by omega
   simp only [nacksM, decide_eq_false h0, Bool.false_and, Bool.and_false]
  rw [this] at hq; exact hq
 simp only [decide_eq_false_iff_not, gt_iff_lt, Int.not_lt] at h1 h2
 refine ⟨⟨(0, -1), ⟨⟨by omega, by omega, by omega, by simp, by omega, by omega, by simp⟩⟩, by simp⟩, ?_⟩
 rintro ⟨i, far⟩ ⟨g1, g2, g3, g4, g5, g6, g7⟩
 simp only at g3 g4 g5 g6 g7
 refine ⟨_, rfl, _, rfl, splitI (fun hlt => ?_) (fun hge => ?_)⟩
 ·have hlt' : i < xs.length := by simpa using hlt
  have hbad : ∀ j, (hj : j < xs.length) → badM 16 xs[j] = true → nacksM xs = false := fun j hj hb => by
   have : xs.any (badM 16) = true := List.any_eq_true.2 ⟨xs[j], List.getElem_mem hj, hb⟩
   simp only [nacksM, this, Bool.not_true, Bool.and_false, Bool.false_and]
  have hgo : nackGoM (xs.getD 0 0) (-1) xs = false → nacksM xs = false := fun h => by simp only [nacksM, h, Bool.and_false]
  have hx0 : xs.getD 0 0 = xs[0] := by simp [show 0 < xs.length by omega]
  refine ⟨_, rfl, ckI (by simp [Nat.blt]; exact hlt') (ckI (blt_of (by rw [cellsI_length]; simpa using hlt')) (cellsI_get hlt' ?_ (by simp)))⟩
  refine splitI (fun b1 => splitI (fun b2 => ?_) (fun b2 => ?_)) (fun b1 => ?_)
  ·simp only [ge_iff_le, decide_eq_true_eq] at b1 b2
   have hbi : badM 16 xs[i] = false := by
    cases h : badM 16 xs[i] with
    | false => rfl
    | true => have := (badM16 _).1 h; omega
   have hstep : (xs.take (i + 1)).any (badM 16) = false := by
    rw [List.take_add_one, List.any_append, g4]; simp [hlt', hbi]
   have b0 : 0 ≤ xs[0] ∧ xs[0] < 65536 := by
    have h0 : badM 16 xs[0] = false := by
     have := List.any_eq_false.1 hstep xs[0] (by
      rw [List.mem_take_iff_getElem]
      exact ⟨0, by omega, rfl⟩)
     simpa using this
    have : ¬ (xs[0] < 0 ∨ 65536 ≤ xs[0]) := fun h => by rw [(badM16 _).2 h] at h0; cases h0
    omega
   refine ⟨_, rfl, ckI (by simp [Nat.blt]; exact hlt') (ckI (blt_of (by rw [cellsI_length]; simpa using hlt')) (cellsI_get hlt' ?_ (by simp)))⟩
   refine ckI (by simp [Nat.blt]; omega) (ckI (blt_of (by rw [cellsI_length]; omega)) (cellsI_get (show 0 < xs.length by omega) ?_ rfl))
   refine wrapI (by omega) (by omega) (wrapI (by omega) (by omega) ⟨_, rfl, ?_⟩)
   have em : (xs[i] - xs[0] + 65536).tmod 65536 = (xs[i] - xs[0]) % 65536 := by
    rw [Int.tmod_eq_emod_of_nonneg (by omega)]; omega
   rw [em]
   rw [List.drop_eq_getElem_cons hlt', nackGoM, hx0] at g7
   refine splitI (fun h4 => ?_) (fun h4 => splitI (fun h5 => ?_) (fun h5 => ?_))
   ·rw [if_pos (.inl (by simpa using h4))] at g7
    rw [hgo (by rw [hx0]; exact g7)] at hq; exact hq
   ·rw [if_pos (.inr (by simpa using h5))] at g7
    rw [hgo (by rw [hx0]; exact g7)] at hq; exact hq
   ·simp only [decide_eq_false_iff_not, gt_iff_lt, Int.not_lt, Int.not_le] at h4 h5
    rw [if_neg (by omega)] at g7
    exact ⟨_, rfl, wrapI (by omega) (by omega) ⟨⟨trivial, rfl⟩, (i + 1, (xs[i] - xs[0]) % 65536), ⟨⟨g1, g2, hlt', hstep, by omega, h5, by rw [hx0]; exact g7⟩⟩, Nat.sub_succ_lt_self _ _ hlt', by simp⟩⟩
  ·simp only [decide_eq_false_iff_not] at b2
   rw [hbad i hlt' ((badM16 _).2 (by omega))] at hq; exact hq
  ·simp only [ge_iff_le, decide_eq_false_iff_not] at b1
   rw [hbad i hlt' ((badM16 _).2 (by omega))] at hq; exact hq
 ·have hle : xs.length ≤ i := by simpa using hge
  rw [List.drop_of_length_le hle, nackGoM] at g7
  rw [List.take_of_length_le hle] at g4
  have : nacksM xs = true := by
   simp only [nacksM, g4, g7, Bool.not_false, Bool.and_true]
   rw [decide_eq_true (by omega), decide_eq_true (by omega)]; rfl
  rw [this] at hq; exact hq

theorem refNacks_ok : ValidF Tryd.prog glC 19 cNacksV := by
 refine valid_view (c := cNacks) (valid_flat (enters_of (by kernel_rfl)) glC_noY fun args H Q hc => ?_) glC_noY [1] cNacks_view
 unfold cNacks at hc
 split at hc
 ·rename_i t l n
  obtain ⟨xs, ⟨rfl, rfl, hl⟩, hq⟩ := hc
  obtain ⟨hv, hb', h⟩ := refNacks_run t xs (hl := hl) (Q := fun o H' _ => H' = [] ∧ (∃ v, o = .ret v ∧ old 0 v = true ∧ noY v = true) ∧ Q o H) ⟨rfl, ⟨_, rfl, rfl, rfl⟩, hq⟩
  exact ⟨rfl, rfl, _, 1000, envFor24 sm0_ok _ _ _, rfl, h⟩
 ·exact hc.elim
end Go.Proofs.YtafchcmemeinlaaDoor
