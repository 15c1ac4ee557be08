/-
  Chapter 24: contract of packet; Encode.
-/
import Derived.Test.YtafchcmemeinlaaDoorC24XI
set_option linter.unusedSimpArgs false
set_option linter.unusedVariables false
set_option linter.unusedSectionVars false
namespace Go.Proofs.YtafchcmemeinlaaDoor
open Go.RowKit
set_option maxRecDepth 1000000

theorem valid_iff (c : Ctl) : validM c = true ↔ ((1 ≤ c.k ∧ c.k ≤ 6) ∧ in32 c.f ∧ in32 c.a ∧ in32 c.s1 ∧ in32 c.s2 ∧ in32 c.s3 ∧ in32 c.s4 ∧ in32 c.s5 ∧ (0 ≤ c.ba ∧ c.ba < 65536) ∧ (0 ≤ c.ro ∧ c.ro < 256)
  ∧ (c.k ≤ 3 → c.a = 0) ∧ (c.k ≠ 1 → c.s1 = 0 ∧ c.s2 = 0 ∧ c.s3 = 0 ∧ c.s4 = 0 ∧ c.s5 = 0) ∧ (c.k ≠ 6 → c.ba = 0 ∧ c.ro = 0 ∧ c.ti.length = 0) ∧ (3 ≤ c.k → c.rs.length = 0) ∧ (c.k ≠ 4 → c.lo.length = 0)
  ∧ (c.k = 6 → (stepsRM c.ti).2.2 = true) ∧ rcsOkM c.rs = true ∧ (c.k = 4 → nacksM c.lo = true)) := by
 rw [validM, decide_eq_true_eq]
theorem rcsOk_len {rs : List Rc} (h : rcsOkM rs = true) : rs.length ≤ 6 := by
 simp only [rcsOkM, Bool.and_eq_true, decide_eq_true_eq] at h
 exact h.1
theorem valid_cases {c : Ctl} (h : validM c = true) :
  (∃ f s1 s2 s3 s4 s5 rs, c = ⟨1, f, 0, s1, s2, s3, s4, s5, rs, [], 0, 0, []⟩ ∧ rs.length ≤ 6) ∨ (∃ f rs, c = ⟨2, f, 0, 0, 0, 0, 0, 0, rs, [], 0, 0, []⟩ ∧ rs.length ≤ 6) ∨ (∃ f, c = ⟨3, f, 0, 0, 0, 0, 0, 0, [], [], 0, 0, []⟩)
  ∨ (∃ f a lo, c = ⟨4, f, a, 0, 0, 0, 0, 0, [], lo, 0, 0, []⟩ ∧ nacksM lo = true) ∨ (∃ f a, c = ⟨5, f, a, 0, 0, 0, 0, 0, [], [], 0, 0, []⟩) ∨ (∃ f a ba ro ti, c = ⟨6, f, a, 0, 0, 0, 0, 0, [], [], ba, ro, ti⟩ ∧ (stepsRM ti).2.2 = true) := by
 rw [valid_iff] at h
 obtain ⟨k, f, a, s1, s2, s3, s4, s5, rs, lo, ba, ro, ti⟩ := c
 dsimp only at h
 obtain ⟨h1, hf, ha, hs1, hs2, hs3, hs4, hs5, hba, hro, h2, h3, h4, h5, h6, h7, h8, h9⟩ := h
 have hr := rcsOk_len h8
 have nil : ∀ {α : Type} {l : List α}, l.length = 0 → l = [] := fun h => List.eq_nil_of_length_eq_zero h
 obtain rfl | rfl | rfl | rfl | rfl | rfl : k = 1 ∨ k = 2 ∨ k = 3 ∨ k = 4 ∨ k = 5 ∨ k = 6 := by omega
 ·obtain ⟨rfl, rfl, e⟩ := h4 (by omega)
  obtain rfl := nil e
  obtain rfl := h2 (by omega)
  obtain rfl := nil (h6 (by omega))
  exact .inl ⟨f, s1, s2, s3, s4, s5, rs, rfl, hr⟩
 ·obtain ⟨rfl, rfl, e⟩ := h4 (by omega)
  obtain rfl := nil e
  obtain rfl := h2 (by omega)
  obtain ⟨rfl, rfl, rfl, rfl, rfl⟩ := h3 (by omega)
  obtain rfl := nil (h6 (by omega))
  exact .inr (.inl ⟨f, rs, rfl, hr⟩)
 ·obtain ⟨rfl, rfl, e⟩ := h4 (by omega)
  obtain rfl := nil e
  obtain rfl := h2 (by omega)
  obtain ⟨rfl, rfl, rfl, rfl, rfl⟩ := h3 (by omega)
  obtain rfl := nil (h6 (by omega))
  obtain rfl := nil (h5 (by omega))
  exact .inr (.inr (.inl ⟨f, rfl⟩))
 ·obtain ⟨rfl, rfl, e⟩ := h4 (by omega)
  obtain rfl := nil e
  obtain ⟨rfl, rfl, rfl, rfl, rfl⟩ := h3 (by omega)
  obtain rfl := nil (h5 (by omega))
  exact .inr (.inr (.inr (.inl ⟨f, a, lo, rfl, h9 rfl⟩)))
 ·obtain ⟨rfl, rfl, e⟩ := h4 (by omega)
  obtain rfl := nil e
  obtain ⟨rfl, rfl, rfl, rfl, rfl⟩ := h3 (by omega)
  obtain rfl := nil (h6 (by omega))
  obtain rfl := nil (h5 (by omega))
  exact .inr (.inr (.inr (.inr (.inl ⟨f, a, rfl⟩))))
 ·obtain ⟨rfl, rfl, rfl, rfl, rfl⟩ := h3 (by omega)
  obtain rfl := nil (h6 (by omega))
  obtain rfl := nil (h5 (by omega))
  exact .inr (.inr (.inr (.inr (.inr ⟨f, a, ba, ro, ti, rfl, h7 rfl⟩))))
def cPacket : Con
 | [.nils, .agg cs], H, K => ∃ c : Ctl, Lf (cs = ctC c ∧ validM c = true ∧ (c.k = 1 ∨ c.k = 2)) ∧ ∀ (c1 c2 c3 : List AV) (R : List UInt8), Lf (R = oneM c) → K (.ret (.sl (H.length + 3) R.length 0 R.length 1)) (H ++ [⟨.exact, true, c1⟩, ⟨.exact, true, c2⟩, ⟨.grow, true, c3⟩, ⟨.grow, true, ofBytes R⟩])
 | [.sl id tot 0 len 1, .agg cs], H, K => ∃ (bs : List UInt8) (c : Ctl), Lf (H[id]? = some ⟨.grow, true, ofBytes bs⟩ ∧ tot = bs.length ∧ len = bs.length ∧ bs.length ≤ 20000 ∧ cs = ctC c ∧ validM c = true) ∧ ∀ R : List UInt8, Lf (R = bs ++ oneM c) → K (.ret (.sl id R.length 0 R.length 1)) (H.set id ⟨.grow, true, ofBytes R⟩)
 | _, _, _ => False
theorem end_new4 {H : List Blk} {c1 c2 c3 : List AV} {R : List UInt8} (h1 : oldL 0 c1 = true ∧ noYL c1 = true) (h2 : oldL 0 c2 = true ∧ noYL c2 = true) (h3 : oldL 0 c3 = true ∧ noYL c3 = true) :
  FrEnd id [] [⟨.exact, true, c1⟩, ⟨.exact, true, c2⟩, ⟨.grow, true, c3⟩, ⟨.grow, true, ofBytes R⟩] H (H ++ [⟨.exact, true, c1⟩, ⟨.exact, true, c2⟩, ⟨.grow, true, c3⟩, ⟨.grow, true, ofBytes R⟩]) := by
 refine ⟨by simp, fun j b0 hb hk => by simp at hb, fun j b0 hb hk => by simp at hb, fun j b0 hj hb => ?_, by simp, fun k hk hn => ?_, fun j b hb hk => ?_⟩
 ·match j with
  | 0 => simp at hb; subst hb; simp
  | 1 => simp at hb; subst hb; simp
  | 2 => simp at hb; subst hb; simp
  | 3 => simp at hb; subst hb; simp
  | j + 4 => simp at hb
 ·rw [List.getElem?_append_left hk]
 ·have hs : sig id 0 H.length j = H.length + j := by simp [sig]
  show (H ++ _)[sig id 0 H.length j]? = _
  rw [hs, List.getElem?_append_right (by omega), Nat.add_sub_cancel_left]
  match j with
  | 0 => simp at hb; subst hb; simp only [List.getElem?_cons_zero, renB, renL_flat _ _ h1.1 h1.2]
  | 1 => simp at hb; subst hb; simp only [List.getElem?_cons_succ, List.getElem?_cons_zero, renB, renL_flat _ _ h2.1 h2.2]
  | 2 => simp at hb; subst hb; simp only [List.getElem?_cons_succ, List.getElem?_cons_zero, renB, renL_flat _ _ h3.1 h3.2]
  | 3 => simp at hb; subst hb; simp only [List.getElem?_cons_succ, List.getElem?_cons_zero, renB, renL_flat _ _ (oldL_ofB 0 _) (noY_ofB _)]
  | j + 4 => simp at hb
theorem packet_ok : ValidF Tryd.prog glC 46 cPacket := by
 refine valid_of (enters_of (by kernel_rfl)) glC_noY fun args H Q hc => ?_
 unfold cPacket at hc
 split at hc
 ·obtain ⟨c, ⟨rfl, h1, h2⟩, hq⟩ := hc
  rcases valid_cases h1 with ⟨f, s1, s2, s3, s4, s5, rs, rfl, hrs⟩ | ⟨f, rs, rfl, hrs⟩ | ⟨f, rfl⟩ | ⟨f, a, lo, rfl, hlo⟩ | ⟨f, a, rfl⟩ | ⟨f, a, ba, ro, ti, rfl, hti⟩
  ·obtain ⟨hv, hb', h⟩ := pk_n1 f s1 s2 s3 s4 s5 rs hrs (fun o H' _ => ∃ c1 c2 c3 R, (oldL 0 c1 = true ∧ noYL c1 = true) ∧ (oldL 0 c2 = true ∧ noYL c2 = true) ∧ (oldL 0 c3 = true ∧ noYL c3 = true) ∧ R = oneM ⟨1, f, 0, s1, s2, s3, s4, s5, rs, [], 0, 0, []⟩ ∧ o = .ret (.sl 3 R.length 0 R.length 1) ∧ H' = [⟨.exact, true, c1⟩, ⟨.exact, true, c2⟩, ⟨.grow, true, c3⟩, ⟨.grow, true, ofBytes R⟩])
    (fun c1 c2 c3 R g1 g2 g3 g4 => ⟨c1, c2, c3, R, g1, g2, g3, g4, rfl, rfl⟩)
   refine ⟨_, 1000, id, _, [], _, envFor24 sm46_ok _ _ _, rfl, (renL_flat id _ rfl rfl).symm, rfl, rfl, Fr.nil _, h, ?_⟩
   rintro o H0' g' ⟨c1, c2, c3, R, g1, g2, g3, g4, rfl, rfl⟩
   refine ⟨_, end_new4 g1 g2 g3, ?_⟩
   have := hq c1 c2 c3 R ⟨g4⟩
   simpa [renO, ren, sig] using this
  ·obtain ⟨hv, hb', h⟩ := pk_n2 f rs hrs (fun o H' _ => ∃ c1 c2 c3 R, (oldL 0 c1 = true ∧ noYL c1 = true) ∧ (oldL 0 c2 = true ∧ noYL c2 = true) ∧ (oldL 0 c3 = true ∧ noYL c3 = true) ∧ R = oneM ⟨2, f, 0, 0, 0, 0, 0, 0, rs, [], 0, 0, []⟩ ∧ o = .ret (.sl 3 R.length 0 R.length 1) ∧ H' = [⟨.exact, true, c1⟩, ⟨.exact, true, c2⟩, ⟨.grow, true, c3⟩, ⟨.grow, true, ofBytes R⟩])
    (fun c1 c2 c3 R g1 g2 g3 g4 => ⟨c1, c2, c3, R, g1, g2, g3, g4, rfl, rfl⟩)
   refine ⟨_, 1000, id, _, [], _, envFor24 sm46_ok _ _ _, rfl, (renL_flat id _ rfl rfl).symm, rfl, rfl, Fr.nil _, h, ?_⟩
   rintro o H0' g' ⟨c1, c2, c3, R, g1, g2, g3, g4, rfl, rfl⟩
   refine ⟨_, end_new4 g1 g2 g3, ?_⟩
   have := hq c1 c2 c3 R ⟨g4⟩
   simpa [renO, ren, sig] using this
  all_goals exact absurd h2 (by simp)
 ·rename_i id tot len cs
  obtain ⟨bs, c, ⟨h1, rfl, rfl, h3, rfl, h4⟩, hq⟩ := hc
  have hq := hq _ ⟨rfl⟩
  rcases valid_cases h4 with ⟨f, s1, s2, s3, s4, s5, rs, rfl, hrs⟩ | ⟨f, rs, rfl, hrs⟩ | ⟨f, rfl⟩ | ⟨f, a, lo, rfl, hlo⟩ | ⟨f, a, rfl⟩ | ⟨f, a, ba, ro, ti, rfl, hti⟩
  ·obtain ⟨hv, hb', h⟩ := pk_s1 bs h3 f s1 s2 s3 s4 s5 rs hrs (fun o H' _ => o = .ret (.sl 0 (bs ++ oneM ⟨1, f, 0, s1, s2, s3, s4, s5, rs, [], 0, 0, []⟩).length 0 (bs ++ oneM ⟨1, f, 0, s1, s2, s3, s4, s5, rs, [], 0, 0, []⟩).length 1) ∧ H' = [⟨.grow, true, ofBytes (bs ++ oneM ⟨1, f, 0, s1, s2, s3, s4, s5, rs, [], 0, 0, []⟩)⟩]) ⟨rfl, rfl⟩
   refine ⟨_, 1000, fun _ => id, [.sl 0 bs.length 0 bs.length 1, .agg (ctC ⟨1, f, 0, s1, s2, s3, s4, s5, rs, [], 0, 0, []⟩)], [⟨.grow, true, ofBytes bs⟩], _, envFor24 sm46_ok _ _ _, rfl, rfl, rfl, rfl, fr_own h1 (oldL_ofB 0 _) (oldL_ofB 1 _) (noY_ofB _), h, ?_⟩
   rintro o H0' g' ⟨rfl, rfl⟩
   exact ⟨_, end_own h1 (oldL_ofB 0 _) (noY_ofB _), hq⟩
  ·obtain ⟨hv, hb', h⟩ := pk_s2 bs h3 f rs hrs (fun o H' _ => o = .ret (.sl 0 (bs ++ oneM ⟨2, f, 0, 0, 0, 0, 0, 0, rs, [], 0, 0, []⟩).length 0 (bs ++ oneM ⟨2, f, 0, 0, 0, 0, 0, 0, rs, [], 0, 0, []⟩).length 1) ∧ H' = [⟨.grow, true, ofBytes (bs ++ oneM ⟨2, f, 0, 0, 0, 0, 0, 0, rs, [], 0, 0, []⟩)⟩]) ⟨rfl, rfl⟩
   refine ⟨_, 1000, fun _ => id, [.sl 0 bs.length 0 bs.length 1, .agg (ctC ⟨2, f, 0, 0, 0, 0, 0, 0, rs, [], 0, 0, []⟩)], [⟨.grow, true, ofBytes bs⟩], _, envFor24 sm46_ok _ _ _, rfl, rfl, rfl, rfl, fr_own h1 (oldL_ofB 0 _) (oldL_ofB 1 _) (noY_ofB _), h, ?_⟩
   rintro o H0' g' ⟨rfl, rfl⟩
   exact ⟨_, end_own h1 (oldL_ofB 0 _) (noY_ofB _), hq⟩
  ·obtain ⟨hv, hb', h⟩ := pk_s3 bs h3 f (fun o H' _ => o = .ret (.sl 0 (bs ++ oneM ⟨3, f, 0, 0, 0, 0, 0, 0, [], [], 0, 0, []⟩).length 0 (bs ++ oneM ⟨3, f, 0, 0, 0, 0, 0, 0, [], [], 0, 0, []⟩).length 1) ∧ H' = [⟨.grow, true, ofBytes (bs ++ oneM ⟨3, f, 0, 0, 0, 0, 0, 0, [], [], 0, 0, []⟩)⟩]) ⟨rfl, rfl⟩
   refine ⟨_, 1000, fun _ => id, [.sl 0 bs.length 0 bs.length 1, .agg (ctC ⟨3, f, 0, 0, 0, 0, 0, 0, [], [], 0, 0, []⟩)], [⟨.grow, true, ofBytes bs⟩], _, envFor24 sm46_ok _ _ _, rfl, rfl, rfl, rfl, fr_own h1 (oldL_ofB 0 _) (oldL_ofB 1 _) (noY_ofB _), h, ?_⟩
   rintro o H0' g' ⟨rfl, rfl⟩
   exact ⟨_, end_own h1 (oldL_ofB 0 _) (noY_ofB _), hq⟩
  ·obtain ⟨hv, hb', h⟩ := pk_s4 bs h3 f a lo hlo (fun o H' _ => o = .ret (.sl 0 (bs ++ oneM ⟨4, f, a, 0, 0, 0, 0, 0, [], lo, 0, 0, []⟩).length 0 (bs ++ oneM ⟨4, f, a, 0, 0, 0, 0, 0, [], lo, 0, 0, []⟩).length 1) ∧ H' = [⟨.grow, true, ofBytes (bs ++ oneM ⟨4, f, a, 0, 0, 0, 0, 0, [], lo, 0, 0, []⟩)⟩]) ⟨rfl, rfl⟩
   refine ⟨_, 1000, fun _ => id, [.sl 0 bs.length 0 bs.length 1, .agg (ctC ⟨4, f, a, 0, 0, 0, 0, 0, [], lo, 0, 0, []⟩)], [⟨.grow, true, ofBytes bs⟩], _, envFor24 sm464_ok _ _ _, rfl, rfl, rfl, rfl, fr_own h1 (oldL_ofB 0 _) (oldL_ofB 1 _) (noY_ofB _), h, ?_⟩
   rintro o H0' g' ⟨rfl, rfl⟩
   exact ⟨_, end_own h1 (oldL_ofB 0 _) (noY_ofB _), hq⟩
  ·obtain ⟨hv, hb', h⟩ := pk_s5 bs h3 f a (fun o H' _ => o = .ret (.sl 0 (bs ++ oneM ⟨5, f, a, 0, 0, 0, 0, 0, [], [], 0, 0, []⟩).length 0 (bs ++ oneM ⟨5, f, a, 0, 0, 0, 0, 0, [], [], 0, 0, []⟩).length 1) ∧ H' = [⟨.grow, true, ofBytes (bs ++ oneM ⟨5, f, a, 0, 0, 0, 0, 0, [], [], 0, 0, []⟩)⟩]) ⟨rfl, rfl⟩
   refine ⟨_, 1000, fun _ => id, [.sl 0 bs.length 0 bs.length 1, .agg (ctC ⟨5, f, a, 0, 0, 0, 0, 0, [], [], 0, 0, []⟩)], [⟨.grow, true, ofBytes bs⟩], _, envFor24 sm46_ok _ _ _, rfl, rfl, rfl, rfl, fr_own h1 (oldL_ofB 0 _) (oldL_ofB 1 _) (noY_ofB _), h, ?_⟩
   rintro o H0' g' ⟨rfl, rfl⟩
   exact ⟨_, end_own h1 (oldL_ofB 0 _) (noY_ofB _), hq⟩
  ·obtain ⟨hv, hb', h⟩ := pk_s6 bs h3 f a ba ro ti hti (fun o H' _ => o = .ret (.sl 0 (bs ++ oneM ⟨6, f, a, 0, 0, 0, 0, 0, [], [], ba, ro, ti⟩).length 0 (bs ++ oneM ⟨6, f, a, 0, 0, 0, 0, 0, [], [], ba, ro, ti⟩).length 1) ∧ H' = [⟨.grow, true, ofBytes (bs ++ oneM ⟨6, f, a, 0, 0, 0, 0, 0, [], [], ba, ro, ti⟩)⟩]) ⟨rfl, rfl⟩
   refine ⟨_, 1000, fun _ => id, [.sl 0 bs.length 0 bs.length 1, .agg (ctC ⟨6, f, a, 0, 0, 0, 0, 0, [], [], ba, ro, ti⟩)], [⟨.grow, true, ofBytes bs⟩], _, envFor24 sm46_ok _ _ _, rfl, rfl, rfl, rfl, fr_own h1 (oldL_ofB 0 _) (oldL_ofB 1 _) (noY_ofB _), h, ?_⟩
   rintro o H0' g' ⟨rfl, rfl⟩
   exact ⟨_, end_own h1 (oldL_ofB 0 _) (noY_ofB _), hq⟩
 ·exact hc.elim
end Go.Proofs.YtafchcmemeinlaaDoor
