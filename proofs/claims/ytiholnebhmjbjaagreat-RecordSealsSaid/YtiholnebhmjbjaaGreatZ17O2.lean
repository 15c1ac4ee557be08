/-
  Chapter 17: what the cells of a draft and of a list of strings look like.
-/
import Derived.Test.YtiholnebhmjbjaaGreatZ17O
set_option linter.unusedSimpArgs false
set_option linter.unusedVariables false
namespace Go.Proofs.YtiholnebhmjbjaaGreat
open Go.RowKit
set_option maxRecDepth 1000000

theorem sh_draft {k : Nat} {l : List AV} (h : shP Tryz.prog (k + 3) 25 l) : ∃ (ep st kk sk : Int) (sn : List UInt8), l = [.int .u16 ep, .int .u16 st, .int .u8 kk, .int .u8 sk, .lst 0 (ofBytes sn) sn.length 1] ∧ (0 ≤ ep ∧ ep ≤ 65535) ∧ (0 ≤ st ∧ st ≤ 65535) ∧ (0 ≤ kk ∧ kk ≤ 255) ∧ (0 ≤ sk ∧ sk ≤ 255) ∧ sn.length ≤ 9223372036854775807 := by
  have h := struct_of (by kernel_rfl) h
  rw [show fldsOf 25 = [22, 22, 5, 5, 23] by kernel_rfl] at h
  obtain ⟨_, _, h1, ⟨_, _, h2, ⟨_, _, h3, ⟨_, _, h4, ⟨_, _, h5, rfl, rfl⟩, rfl⟩, rfl⟩, rfl⟩, rfl⟩ := h
  obtain ⟨a, rfl, ha⟩ := sh_u16 h1
  obtain ⟨b, rfl, hb⟩ := sh_u16 h2
  obtain ⟨c, rfl, hc⟩ := sh_u8 h3
  obtain ⟨d, rfl, hd⟩ := sh_u8 h4
  obtain ⟨s, rfl, hs⟩ := sh_u8s h5
  exact ⟨a, b, c, d, s, rfl, ha, hb, hc, hd, hs⟩
theorem draft_open {H : Type} {enc : TypeId × Value → H} {w : World} {v : Value} {d : DataW H} {p : List MemPlace} {base : Nat} (hval : Value.okWide Tryz.prog w .any base 25 v) (h : DataW.Trod enc Tryz.prog w 0 (fun _ => true) true 25 v d p) :
    ∃ (ep st kk sk : Int) (sn : List UInt8), VR (mAll w) (.agg [.int .u16 ep, .int .u16 st, .int .u8 kk, .int .u8 sk, .lst 0 (ofBytes sn) sn.length 1]) v ∧ (0 ≤ ep ∧ ep ≤ 65535) ∧ (0 ≤ st ∧ st ≤ 65535) ∧ (0 ≤ kk ∧ kk ≤ 255) ∧ (0 ≤ sk ∧ sk ≤ 255) ∧ sn.length ≤ 9223372036854775807 := by
  obtain ⟨cs, hv⟩ := okWide_st (by kernel_rfl) hval
  obtain ⟨l, h1, h2⟩ := open_agg (k := 4) hv (by kernel_rfl) h
  obtain ⟨ep, st, kk, sk, sn, rfl, hr⟩ := sh_draft (k := 1) h2
  exact ⟨ep, st, kk, sk, sn, h1, hr⟩
end Go.Proofs.YtiholnebhmjbjaaGreat
