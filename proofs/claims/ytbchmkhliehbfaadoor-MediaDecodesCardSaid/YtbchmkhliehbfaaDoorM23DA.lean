/-
  Chapter 23: contracts that change the caller's blocks in place; take, Trim.
-/
import Derived.Test.YtbchmkhliehbfaaDoorM23DD
set_option linter.unusedSimpArgs false
set_option linter.unusedVariables false
set_option linter.unusedSectionVars false
namespace Go.Proofs.YtbchmkhliehbfaaDoor
open Go.RowKit
set_option maxRecDepth 1000000

mutual
theorem ren_self : ∀ a : AV, noY a = true → ren id a = a
  | .undef, _ => rfl
  | .opq _, _ => rfl
  | .bool _, _ => rfl
  | .int _ _, _ => rfl
  | .str _, _ => rfl
  | .nilp, _ => rfl
  | .ptr _ _ _, _ => rfl
  | .gptr _ _, _ => rfl
  | .nils, _ => rfl
  | .sl _ _ _ _ _, _ => rfl
  | .nilf, _ => rfl
  | .fn f x y, h => by
    simp only [noY, Bool.and_eq_true] at h
    simp only [ren, renL_self x h.1, renL_self y h.2]
  | .yld _, h => by simp [noY] at h
  | .lst _ _ _ _, _ => rfl
  | .lptr _ _ _, _ => rfl
  | .nili, _ => rfl
  | .iface t v, h => by
    simp only [noY] at h
    simp only [ren, ren_self v h]
  | .agg l, h => by
    simp only [noY] at h
    simp only [ren, renL_self l h]
  | .tup l, h => by
    simp only [noY] at h
    simp only [ren, renL_self l h]
theorem renL_self : ∀ l : List AV, noYL l = true → renL id l = l
  | [], _ => rfl
  | a :: l, h => by
    simp only [noYL, Bool.and_eq_true] at h
    simp only [renL, ren_self a h.1, renL_self l h.2]
end
theorem sig_self (n : Nat) : sig id n n = id := by
  funext j
  simp only [sig, id]
  split
  · rfl
  · omega
/-- a contract over the caller's own blocks, all of them -/
theorem valid_id {P : Program} {gl : Nat → Option (List AV)} {f : FuncId} {c : List AV → List Blk → (Out → List Blk → Prop) → Prop} (he : Enters P f) (hgl : ∀ g cs, gl g = some cs → noYL cs = true)
    (h : ∀ args H Q, c args H Q → oldL H.length args = true ∧ noYL args = true ∧ (∀ b ∈ H, oldL H.length b.cs = true ∧ noYL b.cs = true ∧ (b.lf = true → oldL 0 b.cs = true) ∧ b.k ≠ .ro) ∧ ∃ (E : Env) (n : Nat), EnvFor P E ∧ E.gl = gl ∧
      callx E (wpx E n) f args H {} fun o H' _ => H.map (·.k) = (H'.map (·.k)).take H.length ∧ (∀ b ∈ H', noYL b.cs = true ∧ b.k ≠ .ro) ∧ (∃ v, o = .ret v ∧ noY v = true) ∧ Q o H') : ValidF P gl f c := by
  refine valid_of he hgl fun args H Q hc => ?_
  obtain ⟨h1, h2, h3, E, n, h4, h5, h6⟩ := h args H Q hc
  have hm : ∀ {j : Nat} {b : Blk} {H : List Blk}, H[j]? = some b → b ∈ H := fun h => List.mem_of_getElem? h
  refine ⟨E, n, id, args, H, _, h4, h5, (renL_self args h2).symm, h1, h2, ⟨fun j b0 hj => ?_, fun j j' b0 _ _ _ h => h⟩, h6, ?_⟩
  · obtain ⟨a1, a2, a3, a4⟩ := h3 b0 (hm hj)
    exact ⟨(List.getElem?_eq_some_iff.1 hj).1, a1, a2, a3, b0, hj, (renL_self _ a2).symm, .inr rfl⟩
  · rintro o H' g' ⟨k1, k2, ⟨v, rfl, k3⟩, k4⟩
    have hlen : H.length ≤ H'.length := by
      have := congrArg List.length k1
      simp only [List.length_map, List.length_take] at this
      omega
    refine ⟨H', ⟨hlen, fun j b0 hj hr => absurd hr (h3 b0 (hm hj)).2.2.2, fun j b0 hj hr => ?_, fun j b0 _ hj => (k2 b0 (hm hj)).2, by omega, fun i hi hn => ?_, fun j b hj _ => ?_⟩, ?_⟩
    · have hj' := (List.getElem?_eq_some_iff.1 hj).1
      have e := congrArg (·[j]?) k1
      simp only [List.getElem?_map, hj, Option.map_some, List.getElem?_take, if_pos hj'] at e
      rw [List.getElem?_eq_getElem (show j < H'.length by omega)] at e ⊢
      simp only [Option.map_some, Option.some.injEq] at e
      exact ⟨_, rfl, e.symm⟩
    · obtain ⟨b, hb⟩ : ∃ b, H[i]? = some b := ⟨_, List.getElem?_eq_getElem hi⟩
      exact absurd rfl (hn i b hb (h3 b (hm hb)).2.2.2)
    · rw [sig_self]
      have : renB id b = b := by simp only [renB, renL_self _ (k2 b (hm hj)).1]
      rw [this]
      exact hj
    · rw [sig_self]
      simpa only [renO, ren_self v k3] using k4
/-! ## take -/
def inv_40 (l : List UInt8) (s : S) : List (List LInv) := match s.tm.get 25 with
  | .int _ n => [[{ α := Nat, pre := fun i => Lf ((i : Int) ≤ n), st := fun i => ⟨mkT [(0, s.tm.get 0), (1, .ptr 2 1 0), (5, .int .i64 (numM (l.take i))), (24, s.tm.get 24), (25, .int .i64 n), (26, .int .i64 (i : Nat))], s.hp⟩, mu := fun i => n.toNat - i }]]
  | _ => []
def heapM (sq ti ss : Int) (cs : AV) (f1 : Bool) (l : List UInt8) (sh : Bool) (tl : List Blk) : List Blk := ⟨.exact, true, zeroMedM⟩ :: ⟨.exact, f1, readM sq ti ss cs l⟩ :: ⟨.exact, false, [.ptr 1 11 0]⟩ :: ⟨.exact, true, [.bool sh]⟩ :: tl
noncomputable def env_40 (hv : Nat → Option Pa) (hb : Nat → Option Bool) (l : List UInt8) : Env := { e23 sm0 (fun i => bif Nat.beq i 40000 then some (inv_40 l) else none) hv hb with hz := fun k => Nat.beq k 163864 }
noncomputable def goal_40a (hv : Nat → Option Pa) (hb : Nat → Option Bool) (k : Nat) (sq ti ss : Int) (l : List UInt8) (sh : Bool) (Q : Out → List Blk → Gh → Prop) : Prop :=
  callx (env_40 hv hb l) (wpx (env_40 hv hb l) 1000) 40 [.int .i64 (k : Nat), .ptr 2 1 0, .ptr 3 1 0] (heapM sq ti ss .nils true l sh []) {} Q
theorem vc_40a (k : Nat) (sq : Int) (ti : Int) (ss : Int) (l : List UInt8) (sh : Bool) (Q : Out → List Blk → Gh → Prop) : goal_40a (lookV [(163852, .int .i64), (163853, .int .i64), (163862, .int .i64), (163863, .str), (163865, .int .i64), (163869, .int .u8), (163870, .int .i64), (163871, .int .i64), (163873, .int .i64), (163874, .int .i64), (163875, .int .i64), (163881, .int .i64), (163882, .str), (163885, .int .i64)]) (lookB []) k sq ti ss l sh Q = (
(∃ n_0 : Int, (((AV.int .i64 (Nat.cast (List.length l) : Int)) = (AV.int .i64 n_0)) ∧
 (∃ n_1 : Int, (((AV.int .i64 (Nat.cast k : Int)) = (AV.int .i64 n_1)) ∧
 (bif (decide (n_0 < n_1)) then (Q (Out.ret (AV.int .i64 (0 : Int))) ((Blk.mk BK.exact true zeroMedM) :: ((Blk.mk BK.exact true ((AV.bool false) :: ((AV.int .i64 (0 : Int)) :: ((AV.int .i64 sq) :: ((AV.int .i64 ti) :: ((AV.int .i64 ss) :: (AV.nils :: (AV.nils :: ((AV.int .i64 (0 : Int)) :: ((AV.str []) :: ((AV.str []) :: ((AV.bool false) :: [])))))))))))) :: ((Blk.mk BK.exact false ((AV.ptr (1 : Nat) (11 : Nat) (0 : Nat)) :: [])) :: ((Blk.mk BK.exact true ((AV.bool true) :: [])) :: [])))) (Gh.mk (0 : Nat) (0 : Nat) []))
else (∃ n_2 : Int, (((AV.int .i64 (Nat.cast k : Int)) = (AV.int .i64 n_2)) ∧
 (bif (((decide ((0 : Int) ≤ n_2)) && true) && (Nat.ble (Int.toNat n_2) (List.length l))) then (∃ s_3 : (List UInt8), (((AV.str (List.take ((Int.toNat n_2) - (0 : Nat)) (List.drop (0 : Nat) l))) = (AV.str s_3)) ∧
 (bif ((((Nat.beq (List.length s_3) (List.length (ofBytes s_3))) && (Nat.beq ((List.length s_3) * (1 : Nat)) (List.length s_3))) && (oldL (0 : Nat) (ofBytes s_3))) && (noYL (ofBytes s_3))) then (∃ n_4 : Int, (((AV.int .i64 (Nat.cast (List.length s_3) : Int)) = (AV.int .i64 n_4)) ∧
 ((∃ x_5 : Nat, ((Lf ((Nat.cast x_5 : Int) ≤ n_4)) ∧
 ((((AV.bool false) :: ((AV.int .i64 (0 : Int)) :: ((AV.int .i64 (0 : Int)) :: ((AV.int .i64 (0 : Int)) :: ((AV.int .i64 (0 : Int)) :: (AV.nils :: (AV.nils :: ((AV.int .i64 (0 : Int)) :: ((AV.str []) :: []))))))))) = ((AV.bool false) :: ((AV.int .i64 (0 : Int)) :: ((AV.int .i64 (0 : Int)) :: ((AV.int .i64 (0 : Int)) :: ((AV.int .i64 (0 : Int)) :: (AV.nils :: (AV.nils :: ((AV.int .i64 (0 : Int)) :: ((AV.str []) :: [])))))))))) ∧
 ((((AV.bool false) :: ((AV.int .i64 (0 : Int)) :: ((AV.int .i64 sq) :: ((AV.int .i64 ti) :: ((AV.int .i64 ss) :: (AV.nils :: (AV.nils :: ((AV.int .i64 (0 : Int)) :: ((AV.str []) :: ((AV.str l) :: ((AV.bool false) :: []))))))))))) = ((AV.bool false) :: ((AV.int .i64 (0 : Int)) :: ((AV.int .i64 sq) :: ((AV.int .i64 ti) :: ((AV.int .i64 ss) :: (AV.nils :: (AV.nils :: ((AV.int .i64 (0 : Int)) :: ((AV.str []) :: ((AV.str l) :: ((AV.bool false) :: [])))))))))))) ∧
 ((((AV.ptr (1 : Nat) (11 : Nat) (0 : Nat)) :: []) = ((AV.ptr (1 : Nat) (11 : Nat) (0 : Nat)) :: [])) ∧
 ((((AV.bool sh) :: []) = ((AV.bool sh) :: [])) ∧
 (((AV.int .i64 (Nat.cast k : Int)) = (AV.int .i64 (Nat.cast k : Int))) ∧
 (((AV.ptr (2 : Nat) (1 : Nat) (0 : Nat)) = (AV.ptr (2 : Nat) (1 : Nat) (0 : Nat))) ∧
 (((AV.int .i64 (0 : Int)) = (AV.int .i64 (numM (List.take x_5 l)))) ∧
 (((AV.int .i64 n_4) = (AV.int .i64 n_4)) ∧
 (((AV.lst (0 : Nat) (ofBytes s_3) (List.length s_3) (1 : Nat)) = (AV.lst (0 : Nat) (ofBytes s_3) (List.length s_3) (1 : Nat))) ∧
 (((AV.int .i64 (0 : Int)) = (AV.int .i64 (Nat.cast x_5 : Int))) ∧
 True)))))))))))) ∧
 (∀ x_5 : Nat, ((Lf ((Nat.cast x_5 : Int) ≤ n_4)) →
(bif (decide ((Nat.cast x_5 : Int) < n_4)) then (bif ((Nat.blt (Int.toNat (Nat.cast x_5 : Int)) (List.length s_3)) && true) then (bif (Nat.blt ((Int.toNat (Nat.cast x_5 : Int)) * (1 : Nat)) (List.length (ofBytes s_3))) then (∃ n_6 : Int, (((List.getD (ofBytes s_3) ((Int.toNat (Nat.cast x_5 : Int)) * (1 : Nat)) AV.undef) = (AV.int .u8 n_6)) ∧
 (∃ n_7 : Int, (((AV.int .i64 (numM (List.take x_5 l))) = (AV.int .i64 n_7)) ∧
 (∃ n_8 : Int, (((AV.int .i64 (IntKind.wrap .i64 (n_7 * (256 : Int)))) = (AV.int .i64 n_8)) ∧
 (∃ n_9 : Int, (((AV.int .i64 (IntKind.wrap .i64 n_6)) = (AV.int .i64 n_9)) ∧
 (∃ n_10 : Int, (((AV.int .i64 (IntKind.wrap .i64 (Nat.cast ((Int.toNat (n_8 % (18446744073709551616 : Int))) ||| (Int.toNat (n_9 % (18446744073709551616 : Int)))) : Int))) = (AV.int .i64 n_10)) ∧
 (∃ n_11 : Int, (((AV.int .i64 (IntKind.wrap .i64 ((Nat.cast x_5 : Int) + (1 : Int)))) = (AV.int .i64 n_11)) ∧
 ((True ∧
 ((0 : Nat) = (0 : Nat))) ∧
 (∃ y_12 : Nat, ((Lf ((Nat.cast y_12 : Int) ≤ n_4)) ∧
 ((((Int.toNat n_4) - y_12) < ((Int.toNat n_4) - x_5)) ∧
 ((((AV.bool false) :: ((AV.int .i64 (0 : Int)) :: ((AV.int .i64 (0 : Int)) :: ((AV.int .i64 (0 : Int)) :: ((AV.int .i64 (0 : Int)) :: (AV.nils :: (AV.nils :: ((AV.int .i64 (0 : Int)) :: ((AV.str []) :: []))))))))) = ((AV.bool false) :: ((AV.int .i64 (0 : Int)) :: ((AV.int .i64 (0 : Int)) :: ((AV.int .i64 (0 : Int)) :: ((AV.int .i64 (0 : Int)) :: (AV.nils :: (AV.nils :: ((AV.int .i64 (0 : Int)) :: ((AV.str []) :: [])))))))))) ∧
 ((((AV.bool false) :: ((AV.int .i64 (0 : Int)) :: ((AV.int .i64 sq) :: ((AV.int .i64 ti) :: ((AV.int .i64 ss) :: (AV.nils :: (AV.nils :: ((AV.int .i64 (0 : Int)) :: ((AV.str []) :: ((AV.str l) :: ((AV.bool false) :: []))))))))))) = ((AV.bool false) :: ((AV.int .i64 (0 : Int)) :: ((AV.int .i64 sq) :: ((AV.int .i64 ti) :: ((AV.int .i64 ss) :: (AV.nils :: (AV.nils :: ((AV.int .i64 (0 : Int)) :: ((AV.str []) :: ((AV.str l) :: ((AV.bool false) :: [])))))))))))) ∧
 ((((AV.ptr (1 : Nat) (11 : Nat) (0 : Nat)) :: []) = ((AV.ptr (1 : Nat) (11 : Nat) (0 : Nat)) :: [])) ∧
 ((((AV.bool sh) :: []) = ((AV.bool sh) :: [])) ∧
 (((AV.int .i64 (Nat.cast k : Int)) = (AV.int .i64 (Nat.cast k : Int))) ∧
 (((AV.ptr (2 : Nat) (1 : Nat) (0 : Nat)) = (AV.ptr (2 : Nat) (1 : Nat) (0 : Nat))) ∧
 (((AV.int .i64 n_10) = (AV.int .i64 (numM (List.take y_12 l)))) ∧
 (((AV.int .i64 n_4) = (AV.int .i64 n_4)) ∧
 (((AV.lst (0 : Nat) (ofBytes s_3) (List.length s_3) (1 : Nat)) = (AV.lst (0 : Nat) (ofBytes s_3) (List.length s_3) (1 : Nat))) ∧
 (((AV.int .i64 n_11) = (AV.int .i64 (Nat.cast y_12 : Int))) ∧
 True))))))))))))))))))))))))))
else False)
else False)
else (∃ n_6 : Int, (((AV.int .i64 (Nat.cast k : Int)) = (AV.int .i64 n_6)) ∧
 (bif ((((decide ((0 : Int) ≤ n_6)) && true) && (Nat.ble (Int.toNat n_6) (List.length l))) && (Nat.ble (List.length l) (List.length l))) then (∃ s_7 : (List UInt8), (((AV.str (List.take ((List.length l) - (Int.toNat n_6)) (List.drop (Int.toNat n_6) l))) = (AV.str s_7)) ∧
 (∃ n_8 : Int, (((AV.int .i64 (numM (List.take x_5 l))) = (AV.int .i64 n_8)) ∧
 (Q (Out.ret (AV.int .i64 n_8)) ((Blk.mk BK.exact true zeroMedM) :: ((Blk.mk BK.exact true ((AV.bool false) :: ((AV.int .i64 (0 : Int)) :: ((AV.int .i64 sq) :: ((AV.int .i64 ti) :: ((AV.int .i64 ss) :: (AV.nils :: (AV.nils :: ((AV.int .i64 (0 : Int)) :: ((AV.str []) :: ((AV.str s_7) :: ((AV.bool false) :: [])))))))))))) :: ((Blk.mk BK.exact false ((AV.ptr (1 : Nat) (11 : Nat) (0 : Nat)) :: [])) :: ((Blk.mk BK.exact true ((AV.bool sh) :: [])) :: [])))) (Gh.mk (0 : Nat) (0 : Nat) []))))))
else False)))))))))
else False)))
else False))))))))) := by kernel_rfl

noncomputable def goal_40b (hv : Nat → Option Pa) (hb : Nat → Option Bool) (k : Nat) (sq ti ss : Int) (n : Nat) (l : List UInt8) (sh : Bool) (c4 c5 : List AV) (Q : Out → List Blk → Gh → Prop) : Prop :=
  callx (env_40 hv hb l) (wpx (env_40 hv hb l) 1000) 40 [.int .i64 (k : Nat), .ptr 2 1 0, .ptr 3 1 0] (heapM sq ti ss (.sl 5 n 0 n 1) false l sh [⟨.exact, true, c4⟩, ⟨.grow, true, c5⟩]) {} Q
theorem vc_40b (k : Nat) (sq : Int) (ti : Int) (ss : Int) (n : Nat) (l : List UInt8) (sh : Bool) (c4 : List AV) (c5 : List AV) (Q : Out → List Blk → Gh → Prop) : goal_40b (lookV [(163852, .int .i64), (163853, .int .i64), (163862, .int .i64), (163863, .str), (163865, .int .i64), (163869, .int .u8), (163870, .int .i64), (163871, .int .i64), (163873, .int .i64), (163874, .int .i64), (163875, .int .i64), (163881, .int .i64), (163882, .str), (163885, .int .i64)]) (lookB []) k sq ti ss n l sh c4 c5 Q = (
(∃ n_0 : Int, (((AV.int .i64 (Nat.cast (List.length l) : Int)) = (AV.int .i64 n_0)) ∧
 (∃ n_1 : Int, (((AV.int .i64 (Nat.cast k : Int)) = (AV.int .i64 n_1)) ∧
 (bif (decide (n_0 < n_1)) then (Q (Out.ret (AV.int .i64 (0 : Int))) ((Blk.mk BK.exact true zeroMedM) :: ((Blk.mk BK.exact false ((AV.bool false) :: ((AV.int .i64 (0 : Int)) :: ((AV.int .i64 sq) :: ((AV.int .i64 ti) :: ((AV.int .i64 ss) :: ((AV.sl (5 : Nat) n (0 : Nat) n (1 : Nat)) :: (AV.nils :: ((AV.int .i64 (0 : Int)) :: ((AV.str []) :: ((AV.str []) :: ((AV.bool false) :: [])))))))))))) :: ((Blk.mk BK.exact false ((AV.ptr (1 : Nat) (11 : Nat) (0 : Nat)) :: [])) :: ((Blk.mk BK.exact true ((AV.bool true) :: [])) :: ((Blk.mk BK.exact true c4) :: ((Blk.mk BK.grow true c5) :: [])))))) (Gh.mk (0 : Nat) (0 : Nat) []))
else (∃ n_2 : Int, (((AV.int .i64 (Nat.cast k : Int)) = (AV.int .i64 n_2)) ∧
 (bif (((decide ((0 : Int) ≤ n_2)) && true) && (Nat.ble (Int.toNat n_2) (List.length l))) then (∃ s_3 : (List UInt8), (((AV.str (List.take ((Int.toNat n_2) - (0 : Nat)) (List.drop (0 : Nat) l))) = (AV.str s_3)) ∧
 (bif ((((Nat.beq (List.length s_3) (List.length (ofBytes s_3))) && (Nat.beq ((List.length s_3) * (1 : Nat)) (List.length s_3))) && (oldL (0 : Nat) (ofBytes s_3))) && (noYL (ofBytes s_3))) then (∃ n_4 : Int, (((AV.int .i64 (Nat.cast (List.length s_3) : Int)) = (AV.int .i64 n_4)) ∧
 ((∃ x_5 : Nat, ((Lf ((Nat.cast x_5 : Int) ≤ n_4)) ∧
 ((((AV.bool false) :: ((AV.int .i64 (0 : Int)) :: ((AV.int .i64 (0 : Int)) :: ((AV.int .i64 (0 : Int)) :: ((AV.int .i64 (0 : Int)) :: (AV.nils :: (AV.nils :: ((AV.int .i64 (0 : Int)) :: ((AV.str []) :: []))))))))) = ((AV.bool false) :: ((AV.int .i64 (0 : Int)) :: ((AV.int .i64 (0 : Int)) :: ((AV.int .i64 (0 : Int)) :: ((AV.int .i64 (0 : Int)) :: (AV.nils :: (AV.nils :: ((AV.int .i64 (0 : Int)) :: ((AV.str []) :: [])))))))))) ∧
 ((((AV.bool false) :: ((AV.int .i64 (0 : Int)) :: ((AV.int .i64 sq) :: ((AV.int .i64 ti) :: ((AV.int .i64 ss) :: ((AV.sl (5 : Nat) n (0 : Nat) n (1 : Nat)) :: (AV.nils :: ((AV.int .i64 (0 : Int)) :: ((AV.str []) :: ((AV.str l) :: ((AV.bool false) :: []))))))))))) = ((AV.bool false) :: ((AV.int .i64 (0 : Int)) :: ((AV.int .i64 sq) :: ((AV.int .i64 ti) :: ((AV.int .i64 ss) :: ((AV.sl (5 : Nat) n (0 : Nat) n (1 : Nat)) :: (AV.nils :: ((AV.int .i64 (0 : Int)) :: ((AV.str []) :: ((AV.str l) :: ((AV.bool false) :: [])))))))))))) ∧
 ((((AV.ptr (1 : Nat) (11 : Nat) (0 : Nat)) :: []) = ((AV.ptr (1 : Nat) (11 : Nat) (0 : Nat)) :: [])) ∧
 ((((AV.bool sh) :: []) = ((AV.bool sh) :: [])) ∧
 ((c4 = c4) ∧
 ((c5 = c5) ∧
 (((AV.int .i64 (Nat.cast k : Int)) = (AV.int .i64 (Nat.cast k : Int))) ∧
 (((AV.ptr (2 : Nat) (1 : Nat) (0 : Nat)) = (AV.ptr (2 : Nat) (1 : Nat) (0 : Nat))) ∧
 (((AV.int .i64 (0 : Int)) = (AV.int .i64 (numM (List.take x_5 l)))) ∧
 (((AV.int .i64 n_4) = (AV.int .i64 n_4)) ∧
 (((AV.lst (0 : Nat) (ofBytes s_3) (List.length s_3) (1 : Nat)) = (AV.lst (0 : Nat) (ofBytes s_3) (List.length s_3) (1 : Nat))) ∧
 (((AV.int .i64 (0 : Int)) = (AV.int .i64 (Nat.cast x_5 : Int))) ∧
 True)))))))))))))) ∧
 (∀ x_5 : Nat, ((Lf ((Nat.cast x_5 : Int) ≤ n_4)) →
(bif (decide ((Nat.cast x_5 : Int) < n_4)) then (bif ((Nat.blt (Int.toNat (Nat.cast x_5 : Int)) (List.length s_3)) && true) then (bif (Nat.blt ((Int.toNat (Nat.cast x_5 : Int)) * (1 : Nat)) (List.length (ofBytes s_3))) then (∃ n_6 : Int, (((List.getD (ofBytes s_3) ((Int.toNat (Nat.cast x_5 : Int)) * (1 : Nat)) AV.undef) = (AV.int .u8 n_6)) ∧
 (∃ n_7 : Int, (((AV.int .i64 (numM (List.take x_5 l))) = (AV.int .i64 n_7)) ∧
 (∃ n_8 : Int, (((AV.int .i64 (IntKind.wrap .i64 (n_7 * (256 : Int)))) = (AV.int .i64 n_8)) ∧
 (∃ n_9 : Int, (((AV.int .i64 (IntKind.wrap .i64 n_6)) = (AV.int .i64 n_9)) ∧
 (∃ n_10 : Int, (((AV.int .i64 (IntKind.wrap .i64 (Nat.cast ((Int.toNat (n_8 % (18446744073709551616 : Int))) ||| (Int.toNat (n_9 % (18446744073709551616 : Int)))) : Int))) = (AV.int .i64 n_10)) ∧
 (∃ n_11 : Int, (((AV.int .i64 (IntKind.wrap .i64 ((Nat.cast x_5 : Int) + (1 : Int)))) = (AV.int .i64 n_11)) ∧
 ((True ∧
 ((0 : Nat) = (0 : Nat))) ∧
 (∃ y_12 : Nat, ((Lf ((Nat.cast y_12 : Int) ≤ n_4)) ∧
 ((((Int.toNat n_4) - y_12) < ((Int.toNat n_4) - x_5)) ∧
 ((((AV.bool false) :: ((AV.int .i64 (0 : Int)) :: ((AV.int .i64 (0 : Int)) :: ((AV.int .i64 (0 : Int)) :: ((AV.int .i64 (0 : Int)) :: (AV.nils :: (AV.nils :: ((AV.int .i64 (0 : Int)) :: ((AV.str []) :: []))))))))) = ((AV.bool false) :: ((AV.int .i64 (0 : Int)) :: ((AV.int .i64 (0 : Int)) :: ((AV.int .i64 (0 : Int)) :: ((AV.int .i64 (0 : Int)) :: (AV.nils :: (AV.nils :: ((AV.int .i64 (0 : Int)) :: ((AV.str []) :: [])))))))))) ∧
 ((((AV.bool false) :: ((AV.int .i64 (0 : Int)) :: ((AV.int .i64 sq) :: ((AV.int .i64 ti) :: ((AV.int .i64 ss) :: ((AV.sl (5 : Nat) n (0 : Nat) n (1 : Nat)) :: (AV.nils :: ((AV.int .i64 (0 : Int)) :: ((AV.str []) :: ((AV.str l) :: ((AV.bool false) :: []))))))))))) = ((AV.bool false) :: ((AV.int .i64 (0 : Int)) :: ((AV.int .i64 sq) :: ((AV.int .i64 ti) :: ((AV.int .i64 ss) :: ((AV.sl (5 : Nat) n (0 : Nat) n (1 : Nat)) :: (AV.nils :: ((AV.int .i64 (0 : Int)) :: ((AV.str []) :: ((AV.str l) :: ((AV.bool false) :: [])))))))))))) ∧
 ((((AV.ptr (1 : Nat) (11 : Nat) (0 : Nat)) :: []) = ((AV.ptr (1 : Nat) (11 : Nat) (0 : Nat)) :: [])) ∧
 ((((AV.bool sh) :: []) = ((AV.bool sh) :: [])) ∧
 ((c4 = c4) ∧
 ((c5 = c5) ∧
 (((AV.int .i64 (Nat.cast k : Int)) = (AV.int .i64 (Nat.cast k : Int))) ∧
 (((AV.ptr (2 : Nat) (1 : Nat) (0 : Nat)) = (AV.ptr (2 : Nat) (1 : Nat) (0 : Nat))) ∧
 (((AV.int .i64 n_10) = (AV.int .i64 (numM (List.take y_12 l)))) ∧
 (((AV.int .i64 n_4) = (AV.int .i64 n_4)) ∧
 (((AV.lst (0 : Nat) (ofBytes s_3) (List.length s_3) (1 : Nat)) = (AV.lst (0 : Nat) (ofBytes s_3) (List.length s_3) (1 : Nat))) ∧
 (((AV.int .i64 n_11) = (AV.int .i64 (Nat.cast y_12 : Int))) ∧
 True))))))))))))))))))))))))))))
else False)
else False)
else (∃ n_6 : Int, (((AV.int .i64 (Nat.cast k : Int)) = (AV.int .i64 n_6)) ∧
 (bif ((((decide ((0 : Int) ≤ n_6)) && true) && (Nat.ble (Int.toNat n_6) (List.length l))) && (Nat.ble (List.length l) (List.length l))) then (∃ s_7 : (List UInt8), (((AV.str (List.take ((List.length l) - (Int.toNat n_6)) (List.drop (Int.toNat n_6) l))) = (AV.str s_7)) ∧
 (∃ n_8 : Int, (((AV.int .i64 (numM (List.take x_5 l))) = (AV.int .i64 n_8)) ∧
 (Q (Out.ret (AV.int .i64 n_8)) ((Blk.mk BK.exact true zeroMedM) :: ((Blk.mk BK.exact false ((AV.bool false) :: ((AV.int .i64 (0 : Int)) :: ((AV.int .i64 sq) :: ((AV.int .i64 ti) :: ((AV.int .i64 ss) :: ((AV.sl (5 : Nat) n (0 : Nat) n (1 : Nat)) :: (AV.nils :: ((AV.int .i64 (0 : Int)) :: ((AV.str []) :: ((AV.str s_7) :: ((AV.bool false) :: [])))))))))))) :: ((Blk.mk BK.exact false ((AV.ptr (1 : Nat) (11 : Nat) (0 : Nat)) :: [])) :: ((Blk.mk BK.exact true ((AV.bool sh) :: [])) :: ((Blk.mk BK.exact true c4) :: ((Blk.mk BK.grow true c5) :: [])))))) (Gh.mk (0 : Nat) (0 : Nat) []))))))
else False)))))))))
else False)))
else False))))))))) := by kernel_rfl

theorem num_small3 {l : List UInt8} (h : l.length ≤ 3) : 0 ≤ numM l ∧ numM l < 16777216 := by
  have := num_lt l
  refine ⟨this.1, Int.lt_of_lt_of_le this.2 ?_⟩
  generalize l.length = n at *
  obtain rfl | rfl | rfl | rfl : n = 0 ∨ n = 1 ∨ n = 2 ∨ n = 3 := by omega
  all_goals decide
theorem getB {s : List UInt8} {i j : Nat} (hi : i < s.length) (hj : j = i) {K : Int → Prop} (hk : K (s[i].toNat : Int)) : ∃ n : Int, (ofBytes s).getD j AV.undef = AV.int .u8 n ∧ K n := by
  subst hj
  exact ⟨_, by simp [ofBytes, hi], hk⟩
theorem or256 {a c : Nat} (h : c < 256) : (a * 256) ||| c = a * 256 + c := by
  have := Nat.two_pow_add_eq_or_of_lt (i := 8) (b := c) h a
  rw [Nat.mul_comm a 256]
  exact this.symm
theorem num_take {l : List UInt8} {i : Nat} (h : i < l.length) : numM (l.take (i + 1)) = numM (l.take i) * 256 + (l[i].toNat : Int) := by
  rw [List.take_add_one, List.getElem?_eq_getElem h]
  exact num_app _ _
theorem take40_a (k : Nat) (sq ti ss : Int) (l : List UInt8) (sh : Bool) (Q : Out → List Blk → Gh → Prop) (hk : k ≤ 4) (hq : Q (.ret (.int .i64 (takeNM l k))) (heapM sq ti ss .nils true (takeLM l k) (takeSM sh l k) []) {}) : ∃ hv hb, goal_40a hv hb k sq ti ss l sh Q := by
  obtain ⟨hv, hb', e⟩ : ∃ hv hb, goal_40a hv hb k sq ti ss l sh Q = _ := ⟨_, _, vc_40a k sq ti ss l sh Q⟩
  refine ⟨hv, hb', e.mpr ?_⟩
  clear e
  rw [takeNM, takeLM, takeSM, Int.toNat_natCast] at hq
  refine ⟨_, rfl, _, rfl, splitD (fun h => ?_) (fun h => ?_)⟩
  · rw [if_pos (by omega), if_pos (by omega), show (sh || decide (l.length < k)) = true by rw [decide_eq_true (by omega)]; simp] at hq
    exact hq
  rw [if_neg (by omega), if_neg (by omega), show (sh || decide (l.length < k)) = sh by rw [decide_eq_false (by omega)]; simp] at hq
  have hlk : (l.take k).length = k := by rw [List.length_take]; omega
  refine ⟨_, rfl, ckI (by simp; omega) ⟨l.take k, by rw [Int.toNat_natCast, Nat.sub_zero, List.drop_zero], ckI (by simp [ofB_len, oldL_ofB, noY_ofB]) ⟨_, rfl, ⟨0, ⟨by omega⟩, rfl, rfl, rfl, rfl, rfl, rfl, rfl, rfl, rfl, rfl, trivial⟩, ?_⟩⟩⟩
  rw [hlk]
  rintro i ⟨hi⟩
  refine splitD (fun hlt => ?_) (fun hge => ?_)
  · have hi1 : i < (l.take k).length := by omega
    have hn := num_small3 (l := l.take i) (by rw [List.length_take]; omega)
    have hc := (l.take k)[i].toNat_lt
    have hc' : (l.take k)[i] = l[i]'(by omega) := List.getElem_take
    have hN := num_take (l := l) (i := i) (by omega)
    refine ckI (by simp; omega) (ckI (by simp [ofB_len]; omega) (getB hi1 (by simp) ⟨_, rfl, wrapI (by omega) (by omega) (wrapI (by omega) (by omega) ?_)⟩))
    obtain ⟨a, ha⟩ := Int.eq_ofNat_of_zero_le hn.1
    rw [ha] at hn ⊢
    rw [show Int.toNat (((a : Nat) : Int) * 256 % 18446744073709551616) = a * 256 by omega, show Int.toNat ((((l.take k)[i].toNat : Nat) : Int) % 18446744073709551616) = (l.take k)[i].toNat by omega, or256 (by omega)]
    refine wrapI (by omega) (by omega) (wrapI (by omega) (by omega) ⟨⟨trivial, rfl⟩, i + 1, ⟨by omega⟩, by omega, rfl, rfl, rfl, rfl, rfl, rfl, by rw [hN, ha, hc']; rfl, rfl, rfl, rfl, trivial⟩)
  · have hik : i = k := by omega
    subst hik
    refine ⟨_, rfl, ckI (by simp; omega) ⟨l.drop i, by rw [Int.toNat_natCast, List.take_of_length_le (by simp)], _, rfl, ?_⟩⟩
    exact hq
theorem take40_b (k : Nat) (sq ti ss : Int) (n : Nat) (l : List UInt8) (sh : Bool) (c4 c5 : List AV) (Q : Out → List Blk → Gh → Prop) (hk : k ≤ 4) (hq : Q (.ret (.int .i64 (takeNM l k))) (heapM sq ti ss (.sl 5 n 0 n 1) false (takeLM l k) (takeSM sh l k) [⟨.exact, true, c4⟩, ⟨.grow, true, c5⟩]) {}) : ∃ hv hb, goal_40b hv hb k sq ti ss n l sh c4 c5 Q := by
  obtain ⟨hv, hb', e⟩ : ∃ hv hb, goal_40b hv hb k sq ti ss n l sh c4 c5 Q = _ := ⟨_, _, vc_40b k sq ti ss n l sh c4 c5 Q⟩
  refine ⟨hv, hb', e.mpr ?_⟩
  clear e
  rw [takeNM, takeLM, takeSM, Int.toNat_natCast] at hq
  refine ⟨_, rfl, _, rfl, splitD (fun h => ?_) (fun h => ?_)⟩
  · rw [if_pos (by omega), if_pos (by omega), show (sh || decide (l.length < k)) = true by rw [decide_eq_true (by omega)]; simp] at hq
    exact hq
  rw [if_neg (by omega), if_neg (by omega), show (sh || decide (l.length < k)) = sh by rw [decide_eq_false (by omega)]; simp] at hq
  have hlk : (l.take k).length = k := by rw [List.length_take]; omega
  refine ⟨_, rfl, ckI (by simp; omega) ⟨l.take k, by rw [Int.toNat_natCast, Nat.sub_zero, List.drop_zero], ckI (by simp [ofB_len, oldL_ofB, noY_ofB]) ⟨_, rfl, ⟨0, ⟨by omega⟩, rfl, rfl, rfl, rfl, rfl, rfl, rfl, rfl, rfl, rfl, rfl, rfl, trivial⟩, ?_⟩⟩⟩
  rw [hlk]
  rintro i ⟨hi⟩
  refine splitD (fun hlt => ?_) (fun hge => ?_)
  · have hi1 : i < (l.take k).length := by omega
    have hn := num_small3 (l := l.take i) (by rw [List.length_take]; omega)
    have hc := (l.take k)[i].toNat_lt
    have hc' : (l.take k)[i] = l[i]'(by omega) := List.getElem_take
    have hN := num_take (l := l) (i := i) (by omega)
    refine ckI (by simp; omega) (ckI (by simp [ofB_len]; omega) (getB hi1 (by simp) ⟨_, rfl, wrapI (by omega) (by omega) (wrapI (by omega) (by omega) ?_)⟩))
    obtain ⟨a, ha⟩ := Int.eq_ofNat_of_zero_le hn.1
    rw [ha] at hn ⊢
    rw [show Int.toNat (((a : Nat) : Int) * 256 % 18446744073709551616) = a * 256 by omega, show Int.toNat ((((l.take k)[i].toNat : Nat) : Int) % 18446744073709551616) = (l.take k)[i].toNat by omega, or256 (by omega)]
    refine wrapI (by omega) (by omega) (wrapI (by omega) (by omega) ⟨⟨trivial, rfl⟩, i + 1, ⟨by omega⟩, by omega, rfl, rfl, rfl, rfl, rfl, rfl, rfl, rfl, by rw [hN, ha, hc']; rfl, rfl, rfl, rfl, trivial⟩)
  · have hik : i = k := by omega
    subst hik
    refine ⟨_, rfl, ckI (by simp; omega) ⟨l.drop i, by rw [Int.toNat_natCast, List.take_of_length_le (by simp)], _, rfl, ?_⟩⟩
    exact hq
theorem flatL_ok {c : List AV} (h : flatLM c = true) : oldL 0 c = true ∧ noYL c = true := by
  unfold flatLM at h
  simpa using h
theorem oldL_up (n : Nat) : ∀ l, oldL 0 l = true → oldL n l = true := fun l h => oldL_mono (Nat.zero_le n) l h
theorem take_ok : ValidF Tryd.prog gl0 40 cTake := by
  refine valid_id (enters_of (by kernel_rfl)) gl0_noY fun args H Q hc => ?_
  unfold cTake at hc
  split at hc
  · rename_i k sq ti ss l sh
    cases hb : decide (0 ≤ k) && decide (k ≤ 4)
    · rw [hb] at hc; exact hc.elim
    · rw [hb] at hc
      simp only [Bool.and_eq_true, decide_eq_true_eq] at hb
      obtain ⟨k, rfl⟩ := Int.eq_ofNat_of_zero_le hb.1
      obtain ⟨hv, hb', h⟩ := take40_a k sq ti ss l sh (fun o H' _ => (heapM sq ti ss .nils true l sh []).map (·.k) = (H'.map (·.k)).take 4 ∧ (∀ b ∈ H', noYL b.cs = true ∧ b.k ≠ .ro) ∧ (∃ v, o = .ret v ∧ noY v = true) ∧ Q o H') (by omega)
        ⟨rfl, by simp [heapM, readM, zeroMedM, noYL, noY], ⟨_, rfl, rfl⟩, hc⟩
      exact ⟨rfl, rfl, by simp [oldL, old, noYL, noY], _, 1000, ⟨mixed23, names23, tabA_ok, sm0_ok⟩, rfl, h⟩
  · rename_i k sq ti ss n n1 l sh c4 c5
    cases hb : decide (0 ≤ k) && decide (k ≤ 4) && Nat.beq n n1 && flatLM c5
    · rw [hb] at hc; exact hc.elim
    · rw [hb] at hc
      simp only [Bool.and_eq_true, decide_eq_true_eq, nbeq] at hb
      obtain ⟨⟨⟨hb1, hb2⟩, rfl⟩, hb4⟩ := hb
      obtain ⟨f1, f2⟩ := flatL_ok hb4
      obtain ⟨k, rfl⟩ := Int.eq_ofNat_of_zero_le hb1
      obtain ⟨hv, hb', h⟩ := take40_b k sq ti ss n l sh [.int .i64 c4] c5 (fun o H' _ => (heapM sq ti ss (.sl 5 n 0 n 1) false l sh [⟨.exact, true, [.int .i64 c4]⟩, ⟨.grow, true, c5⟩]).map (·.k) = (H'.map (·.k)).take 6 ∧ (∀ b ∈ H', noYL b.cs = true ∧ b.k ≠ .ro) ∧ (∃ v, o = .ret v ∧ noY v = true) ∧ Q o H') (by omega)
        ⟨rfl, by simp [heapM, readM, zeroMedM, noYL, noY, f2], ⟨_, rfl, rfl⟩, hc⟩
      exact ⟨rfl, rfl, by simp [oldL, old, noYL, noY, f1, f2, oldL_up 6 c5 f1], _, 1000, ⟨mixed23, names23, tabA_ok, sm0_ok⟩, rfl, h⟩
  · exact hc.elim
/-! ## Trim -/
def trimRM (s : List UInt8) : List UInt8 := (s.reverse.dropWhile (· == 0)).reverse
def trimLM (s : List UInt8) : List UInt8 := s.dropWhile (· == 0)
def inv_59 (s : List UInt8) : LInv where
  α := List UInt8
  pre x := Lf (trimRM x = trimRM s ∧ x.length ≤ s.length)
  st x := ⟨mkT [(0, .str x), (1, .int .u8 0)], []⟩
  mu x := x.length
def inv_58 (s : List UInt8) : LInv where
  α := List UInt8
  pre x := Lf (trimLM x = trimM s ∧ x.length ≤ s.length)
  st x := ⟨mkT [(0, .str x), (1, .int .u8 0)], []⟩
  mu x := x.length
noncomputable def env_42 (hv : Nat → Option Pa) (hb : Nat → Option Bool) (s : List UInt8) : Env := e23 sm0 (fun i => bif Nat.beq i 59000 then some (fun _ => [[inv_59 s]]) else bif Nat.beq i 58000 then some (fun _ => [[inv_58 s]]) else none) hv hb
noncomputable def goal_42 (hv : Nat → Option Pa) (hb : Nat → Option Bool) (s : List UInt8) (Q : Out → List Blk → Gh → Prop) : Prop :=
  callx (env_42 hv hb s) (wpx (env_42 hv hb s) 1000) 42 [.str s, .str [0]] [] {} Q
def vc_42_1 (s : List UInt8) (Q : Out → List Blk → Gh → Prop) : Prop := (
(∀ x_0 : (List UInt8), ((Lf (((trimLM x_0) = (trimM s)) ∧
 ((List.length x_0) ≤ (List.length s)))) →
(∃ n_1 : Int, (((AV.int .i64 (Nat.cast (List.length x_0) : Int)) = (AV.int .i64 n_1)) ∧
 (bif (decide (n_1 > (0 : Int))) then (bif (Nat.blt (0 : Nat) (List.length x_0)) then (∃ n_2 : Int, (((AV.int .u8 (Nat.cast (UInt8.toNat (List.getD x_0 (0 : Nat) (UInt8.ofNat (0 : Nat)))) : Int)) = (AV.int .u8 n_2)) ∧
 (bif (n_2 == (0 : Int)) then (bif ((Nat.ble (1 : Nat) (List.length x_0)) && (Nat.ble (List.length x_0) (List.length x_0))) then (∃ s_3 : (List UInt8), (((AV.str (List.take ((List.length x_0) - (1 : Nat)) (List.drop (1 : Nat) x_0))) = (AV.str s_3)) ∧
 ((True ∧
 ((0 : Nat) = (0 : Nat))) ∧
 (∃ y_4 : (List UInt8), ((Lf (((trimLM y_4) = (trimM s)) ∧
 ((List.length y_4) ≤ (List.length s)))) ∧
 (((List.length y_4) < (List.length x_0)) ∧
 (((AV.str s_3) = (AV.str y_4)) ∧
 (((AV.int .u8 (0 : Int)) = (AV.int .u8 (0 : Int))) ∧
 True))))))))
else False)
else (Q (Out.ret (AV.str x_0)) [] (Gh.mk (0 : Nat) (0 : Nat) [])))))
else False)
else (Q (Out.ret (AV.str x_0)) [] (Gh.mk (0 : Nat) (0 : Nat) []))))))))
theorem vc_42 (s : List UInt8) (Q : Out → List Blk → Gh → Prop) : goal_42 (lookV [(241670, .int .i64), (241675, .int .i64), (241676, .int .i64), (241677, .int .u8), (241683, .int .i64), (241684, .int .i64), (241685, .str), (237574, .int .i64), (237578, .int .u8), (237583, .str)]) (lookB []) s Q = (
(bif (eqB s []) then (Q (Out.ret (AV.str s)) [] (Gh.mk (0 : Nat) (0 : Nat) []))
else ((∃ x_0 : (List UInt8), ((Lf (((trimRM x_0) = (trimRM s)) ∧
 ((List.length x_0) ≤ (List.length s)))) ∧
 (((AV.str s) = (AV.str x_0)) ∧
 (((AV.int .u8 (0 : Int)) = (AV.int .u8 (0 : Int))) ∧
 True)))) ∧
 (∀ x_0 : (List UInt8), ((Lf (((trimRM x_0) = (trimRM s)) ∧
 ((List.length x_0) ≤ (List.length s)))) →
(∃ n_1 : Int, (((AV.int .i64 (Nat.cast (List.length x_0) : Int)) = (AV.int .i64 n_1)) ∧
 (bif (decide (n_1 > (0 : Int))) then (∃ n_2 : Int, (((AV.int .i64 (Nat.cast (List.length x_0) : Int)) = (AV.int .i64 n_2)) ∧
 (∃ n_3 : Int, (((AV.int .i64 (IntKind.wrap .i64 (n_2 - (1 : Int)))) = (AV.int .i64 n_3)) ∧
 (bif ((decide ((0 : Int) ≤ n_3)) && (Nat.blt (Int.toNat n_3) (List.length x_0))) then (∃ n_4 : Int, (((AV.int .u8 (Nat.cast (UInt8.toNat (List.getD x_0 (Int.toNat n_3) (UInt8.ofNat (0 : Nat)))) : Int)) = (AV.int .u8 n_4)) ∧
 (bif (n_4 == (0 : Int)) then (∃ n_5 : Int, (((AV.int .i64 (Nat.cast (List.length x_0) : Int)) = (AV.int .i64 n_5)) ∧
 (∃ n_6 : Int, (((AV.int .i64 (IntKind.wrap .i64 (n_5 - (1 : Int)))) = (AV.int .i64 n_6)) ∧
 (bif (((decide ((0 : Int) ≤ n_6)) && true) && (Nat.ble (Int.toNat n_6) (List.length x_0))) then (∃ s_7 : (List UInt8), (((AV.str (List.take ((Int.toNat n_6) - (0 : Nat)) (List.drop (0 : Nat) x_0))) = (AV.str s_7)) ∧
 ((True ∧
 ((0 : Nat) = (0 : Nat))) ∧
 (∃ y_8 : (List UInt8), ((Lf (((trimRM y_8) = (trimRM s)) ∧
 ((List.length y_8) ≤ (List.length s)))) ∧
 (((List.length y_8) < (List.length x_0)) ∧
 (((AV.str s_7) = (AV.str y_8)) ∧
 (((AV.int .u8 (0 : Int)) = (AV.int .u8 (0 : Int))) ∧
 True))))))))
else False)))))
else ((∃ x_5 : (List UInt8), ((Lf (((trimLM x_5) = (trimM s)) ∧
 ((List.length x_5) ≤ (List.length s)))) ∧
 (((AV.str x_0) = (AV.str x_5)) ∧
 (((AV.int .u8 (0 : Int)) = (AV.int .u8 (0 : Int))) ∧
 True)))) ∧
 (vc_42_1 s Q)))))
else False)))))
else ((∃ x_2 : (List UInt8), ((Lf (((trimLM x_2) = (trimM s)) ∧
 ((List.length x_2) ≤ (List.length s)))) ∧
 (((AV.str x_0) = (AV.str x_2)) ∧
 (((AV.int .u8 (0 : Int)) = (AV.int .u8 (0 : Int))) ∧
 True)))) ∧
 (vc_42_1 s Q)))))))))) := by kernel_rfl

theorem trimR_snoc (a : List UInt8) : trimRM (a ++ [0]) = trimRM a := by simp [trimRM]
theorem trimR_self (a : List UInt8) (c : UInt8) (h : c ≠ 0) : trimRM (a ++ [c]) = a ++ [c] := by simp [trimRM, h]
theorem trim_eq (s : List UInt8) : trimM s = trimLM (trimRM s) := rfl
theorem snoc_of {x : List UInt8} (h : 0 < x.length) : x = x.take (x.length - 1) ++ [x.getD (x.length - 1) 0] := by
  conv => lhs; rw [← List.take_append_drop (x.length - 1) x]
  congr 1
  rw [List.drop_eq_getElem_cons (by omega), List.drop_eq_nil_of_le (by omega)]
  simp [List.getD, List.getElem?_eq_getElem (show x.length - 1 < x.length by omega)]
theorem trim_run (s : List UInt8) (hs : s.length ≤ 1000000) (Q : Out → List Blk → Gh → Prop) (hq : Q (.ret (.str (trimM s))) [] {}) : ∃ hv hb, goal_42 hv hb s Q := by
  obtain ⟨hv, hb', e⟩ : ∃ hv hb, goal_42 hv hb s Q = _ := ⟨_, _, vc_42 s Q⟩
  refine ⟨hv, hb', e.mpr ?_⟩
  clear e
  have h1 : vc_42_1 s Q := by
    unfold vc_42_1
    rintro x ⟨hx, hl⟩
    refine ⟨_, rfl, splitD (fun h => ?_) (fun h => ?_)⟩
    · obtain ⟨c, r, rfl⟩ : ∃ c r, x = c :: r := by
        cases x with
        | nil => simp at h
        | cons c r => exact ⟨c, r, rfl⟩
      refine ckI (by simp) ⟨_, rfl, splitE (fun z => ?_) (fun z => ?_)⟩
      · have z' : c = 0 := by
          simp only [List.getD_cons_zero] at z
          exact UInt8.toNat_inj.1 (by simpa using z)
        subst z'
        exact ckI (by simp) ⟨r, by simp, ⟨trivial, rfl⟩, r, ⟨hx, by simp at hl ⊢; omega⟩, by simp, rfl, rfl, trivial⟩
      · have z' : c ≠ 0 := by
          rintro rfl
          simp at z
        rw [trimLM, List.dropWhile_cons_of_neg (by simpa using z')] at hx
        rw [hx]
        exact hq
    · have : x = [] := List.length_eq_zero_iff.1 (by omega)
      subst this
      rw [show trimLM [] = [] from rfl] at hx
      rw [hx]
      exact hq
  refine splitI (fun h => ?_) (fun h => ?_)
  · cases s with
    | nil => exact hq
    | cons a l => simp [eqB] at h
  refine ⟨⟨s, ⟨rfl, Nat.le_refl _⟩, rfl, rfl, trivial⟩, ?_⟩
  rintro x ⟨hx, hl⟩
  refine ⟨_, rfl, splitD (fun h => ?_) (fun h => ?_)⟩
  · have hn : 0 < x.length := by omega
    have e1 : Int.toNat ((x.length : Int) - 1) = x.length - 1 := by omega
    refine ⟨_, rfl, wrapI (by omega) (by omega) (ckI (by simp; omega) ⟨_, rfl, ?_⟩)⟩
    rw [e1]
    refine splitE (fun z => ?_) (fun z => ?_)
    · have z' : x.getD (x.length - 1) 0 = 0 := UInt8.toNat_inj.1 (by simpa using z)
      refine ⟨_, rfl, wrapI (by omega) (by omega) (ckI (by simp; omega) ⟨x.take (x.length - 1), by rw [e1, List.drop_zero, Nat.sub_zero], ⟨trivial, rfl⟩, x.take (x.length - 1), ⟨?_, by rw [List.length_take]; omega⟩, by rw [List.length_take]; omega, rfl, rfl, trivial⟩)⟩
      rw [← hx]
      conv => rhs; rw [snoc_of hn, z', trimR_snoc]
    · have z' : x.getD (x.length - 1) 0 ≠ 0 := by
        intro h
        apply z
        rw [show (UInt8.ofNat 0) = (0 : UInt8) from rfl, h]
        rfl
      refine ⟨⟨x, ⟨?_, hl⟩, rfl, rfl, trivial⟩, h1⟩
      rw [trim_eq, ← hx]
      conv => rhs; rw [snoc_of hn, trimR_self _ _ z', ← snoc_of hn]
  · have : x = [] := List.length_eq_zero_iff.1 (by omega)
    subst this
    exact ⟨⟨[], ⟨by rw [trim_eq, ← hx]; rfl, hl⟩, rfl, rfl, trivial⟩, h1⟩
theorem trimS_ok : ValidF Tryd.prog gl0 42 cTrim := by
  refine valid_flat (enters_of (by kernel_rfl)) gl0_noY fun args H Q hc => ?_
  unfold cTrim at hc
  split at hc
  · rename_i s
    cases hb : Nat.ble s.length 1000000
    · rw [hb] at hc; exact hc.elim
    · rw [hb] at hc
      rw [Nat.ble_eq] at hb
      obtain ⟨hv, hb', h⟩ := trim_run s hb (fun o H' _ => H' = [] ∧ (∃ v, o = .ret v ∧ old 0 v = true ∧ noY v = true) ∧ Q o H) ⟨rfl, ⟨_, rfl, rfl, rfl⟩, hc⟩
      exact ⟨rfl, rfl, _, 1000, ⟨mixed23, names23, tabA_ok, sm0_ok⟩, rfl, h⟩
  · exact hc.elim
end Go.Proofs.YtbchmkhliehbfaaDoor
