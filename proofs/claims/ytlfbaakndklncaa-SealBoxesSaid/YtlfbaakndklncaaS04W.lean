/-
  Chapter 4: contracts that compute; the examples hold.
-/
import Derived.Test.YtlfbaakndklncaaS04N
import Derived.Test.YtlfbaakndklncaaUh2
set_option linter.unusedSimpArgs false
set_option linter.unusedVariables false
namespace Go.Proofs.Ytlfbaakndklncaa
open Go.RowKit
set_option maxRecDepth 1000000

theorem valid_imp {P : Program} {gl : Nat → Option (List AV)} {f : FuncId} {c c' : List AV → List Blk → (Out → List Blk → Prop) → Prop} (hc : ValidF P gl f c) (h : ∀ args H K, c' args H K → c args H K) : ValidF P gl f c' :=
  ⟨hc.1, fun args H Q hq => hc.2 args H Q (h args H Q hq)⟩
def cTagC : Con
  | [.str key, .str s], H, K => K (.ret (.tup [.str (tagSM key s).1, .int .i64 (tagSM key s).2])) H
  | _, _, _ => False
def cSealC : Con
  | [.str a, .str b, .str c, .str d], H, K => K (.ret (.tup [.str (sealM a b c d).1, .int .i64 (sealM a b c d).2])) H
  | _, _, _ => False
def cOpenC : Con
  | [.str a, .str b, .str c, .str d], H, K => K (.ret (.tup [.str (openM a b c d).1, .int .i64 (openM a b c d).2])) H
  | _, _, _ => False
def cUnhexC : Con
  | [.str s], H, K => bif Nat.ble s.length 1000000000000 then K (.ret (.tup [.str (unhexR s).1, .int .i64 (unhexR s).2])) H else False
  | _, _, _ => False
theorem tagC_ok : ValidF Try.prog gl0 14 cTagC := valid_imp tagS_ok fun args H K h => by
  unfold cTagC at h
  split at h
  · exact fun t e he => by rw [he.h] at h; exact h
  · exact h.elim
theorem sealC_ok : ValidF Try.prog gl0 18 cSealC := valid_imp seal_ok fun args H K h => by
  unfold cSealC at h
  split at h
  · exact fun t e he => by rw [he.h] at h; exact h
  · exact h.elim
theorem openC_ok : ValidF Try.prog gl0 20 cOpenC := valid_imp open_ok fun args H K h => by
  unfold cOpenC at h
  split at h
  · exact fun t e he => by rw [he.h] at h; exact h
  · exact h.elim
theorem unhexC_ok : ValidF Try.prog gl0 29 cUnhexC := by
  refine valid_below (enters_of (by kernel_rfl)) fun args H Q hc m w vs hv => ?_
  unfold cUnhexC at hc
  split at hc
  · rename_i s
    cases hb : Nat.ble s.length 1000000000000
    · rw [hb] at hc; exact hc.elim
    · rw [hb] at hc
      rw [Nat.ble_eq] at hb
      obtain ⟨v1, l1, e1, h1, r1⟩ := VRL_consL hv
      rw [VRL_nil] at r1
      subst r1
      simp only [VR] at h1
      subst h1
      have ev : vs = #[.string ⟨s.toArray⟩] := by
        cases vs
        simp only at e1
        rw [e1]
      subst ev
      have hr := unhex_any ⟨s.toArray⟩ w (by simpa [ByteArray.size] using hb)
      exact ⟨_, _, hc, by simp [VR], hr⟩
  · exact hc.elim
def smC4 : SM := lookS [(14, cTagC), (18, cSealC), (20, cOpenC), (28, cRepeat), (29, cUnhexC)]
theorem smC4_ok : ∀ f g, smC4 f = some g → ValidF Try.prog gl0 f g := lookS_ok _ (by simp only [List.mem_cons, List.not_mem_nil, or_false, forall_eq_or_imp, forall_eq]; exact ⟨tagC_ok, sealC_ok, openC_ok, repeat_ok, unhexC_ok⟩)
def eC4 : Env := { fn := fun f => lookF f tabA, sm := smC4, gl := gl0 }
theorem envForC4 : EnvFor Try.prog eC4 := ⟨mixed04, names04, tabA_ok, smC4_ok⟩
theorem works_run : callx eC4 (wpx eC4 100000) 10 [] [] {} isT0 = True := by kernel_rfl
theorem works_ok : ValidF Try.prog gl0 10 cTrue := valid_true (enters_of (by kernel_rfl)) gl0_noY envForC4 rfl works_run
end Go.Proofs.Ytlfbaakndklncaa
