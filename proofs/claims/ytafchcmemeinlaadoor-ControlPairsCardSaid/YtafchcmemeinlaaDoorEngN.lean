/-
  The engine, part N: calls, and regions that keep their order.
-/
import Derived.Test.YtafchcmemeinlaaDoorEngM
import Derived.RangeFuncRecord
set_option linter.unusedSimpArgs false
set_option linter.unusedVariables false
namespace Go.Proofs.YtafchcmemeinlaaDoor
open Go.RowKit

section
variable {P : Program} {gl : Nat → Option (List AV)} {nt B : Nat} {m : M} {s : S} {a : Act} {w : World}

def readOne (tmps : Array Value) : ResultVar → Sem Value
  | .tmp t => pure (tmps.getD t undef)
  | .cell a t => do loadVar t (← asAddr (tmps.getD a undef))

theorem res_ok (h : SR gl nt B m s a w) {E : Env} : ∀ (l : List ResultVar) (K : List AV → Prop), (∀ r ∈ l, resOk P r = true) → readRes E s (l.map (cRes P)) K →
    ∃ vs, K vs ∧ ∃ cvs : List Value, VRL m vs cvs ∧ (l.mapM (readOne a.tmps)).run P w = .ok cvs w
  | [], K, _, hK => ⟨[], hK, [], by simp, by simp⟩
  | .tmp t :: l, K, hr, hK => by
    simp only [List.map_cons, cRes, readRes] at hK
    obtain ⟨vs, h1, cvs, h2, h3⟩ := res_ok h l _ (fun r hr' => hr r (by simp [hr'])) hK
    refine ⟨_, h1, a.tmps.getD t undef :: cvs, by rw [VRL_cons]; exact ⟨h.tm t, h2⟩, ?_⟩
    rw [List.mapM_cons]
    simp only [readOne, Sem.run_bind, Sem.run_pure, Result.andThen_ok, h3]
  | .cell b t :: l, K, hr, hK => by
    simp only [List.map_cons, cRes, readRes] at hK
    have ht : knownT P t = true := hr (.cell b t) (by simp)
    have hb := h.tm b
    split at hK
    · rename_i id tot off he
      rw [he] at hb
      obtain ⟨hc, hK⟩ := ck_ok hK
      simp only [Bool.and_eq_true, Nat.ble_eq] at hc
      obtain ⟨vs, h1, cvs, h2, h3⟩ := res_ok h l _ (fun r hr' => hr r (by simp [hr'])) hK
      obtain ⟨I, hI, hIt, hv⟩ := h.hp.ptr hb hc.1
      obtain ⟨us, u1, u2, u3⟩ := h.hp.cells (off := off) (n := bif aggT P t then szT P t else 1) hc.1 hI hc.2
      obtain ⟨v, hrun, hv2⟩ := run_loadVar (w := w) ht I.b (I.d + off) us u2 (by rw [u1]; cases aggT P t <;> rfl)
      refine ⟨_, h1, v :: cvs, ?_, ?_⟩
      · rw [VRL_cons]
        refine ⟨?_, h2⟩
        cases ha : aggT P t
        · simp only [ha, Bool.false_eq_true, if_false, cond_false] at hv2 u3 ⊢
          subst hv2
          cases hcl : cellsAt s.hp id off 1 with
          | nil => rw [hcl] at u3; simp at u3
          | cons x l' => rw [hcl] at u3; simp only [VRL_cons] at u3; exact u3.1
        · simp only [ha, if_true, cond_true] at hv2 u3 ⊢
          subst hv2
          simp only [VR]
          exact ⟨_, rfl, by simpa using u3⟩
      · rw [List.mapM_cons]
        simp only [readOne, Sem.run_bind, hv, asAddr, Sem.run_pure, Result.andThen_ok, hrun, h3]
    · cases hK

theorem results_ok (h : SR gl nt B m s a w) {E : Env} {fn : Func} {K : List AV → Prop} (hr : ∀ r ∈ fn.results.toList, resOk P r = true) (hK : readRes E s (fn.results.toList.map (cRes P)) K) :
    ∃ vs, K vs ∧ ∃ v, (results fn a.tmps).run P w = .ok v w ∧ VR m (tupOf vs) v := by
  obtain ⟨vs, h1, cvs, h2, h3⟩ := res_ok h _ _ hr hK
  have e : (fn.results.mapM (readOne a.tmps)).run P w = .ok cvs.toArray w := by
    rw [Array.mapM_eq_mapM_toList]
    show ((fn.results.toList.mapM (readOne a.tmps)) >>= fun a => pure (List.toArray a)).run P w = _
    rw [Sem.run_bind, h3]
    rfl
  refine ⟨vs, h1, if h : cvs.toArray.size = 1 then cvs.toArray[0] else .tuple cvs.toArray, ?_, ?_⟩
  · show ((fn.results.mapM (readOne a.tmps)) >>= fun vs => pure (if h : vs.size = 1 then vs[0] else .tuple vs)).run P w = _
    rw [Sem.run_bind, e]
    rfl
  · match vs, cvs, h2 with
    | [], cvs, h2 =>
      rw [VRL_nil] at h2
      subst h2
      simp [tupOf, VR]
    | [x], cvs, h2 =>
      obtain ⟨v, vs', rfl, h4, h5⟩ := VRL_consL h2
      rw [VRL_nil] at h5
      subst h5
      simpa [tupOf] using h4
    | x :: y :: l, cvs, h2 =>
      obtain ⟨v, vs', rfl, h4, h5⟩ := VRL_consL h2
      obtain ⟨v2, vs2, rfl, h6, h7⟩ := VRL_consL h5
      have hn : ¬ (v :: v2 :: vs2).toArray.size = 1 := by simp
      rw [dif_neg hn]
      simp only [tupOf, VR]
      exact ⟨_, rfl, by simpa using ⟨h4, h6, h7⟩⟩

theorem leave_ok {E : Env} {base k : Nat} {v : AV} {H : List Blk} {K : List Blk → Prop} (h : leave E base k v H K) : K H ∨ ((old base v = true ∧ oldH base (H.take base) = true) ∧ K (H.take base)) := by
  unfold leave at h
  split at h
  · simp only [Bool.and_eq_true] at h; exact .inr h
  · exact .inl h
  · cases hc : (old base v && oldH base (H.take base))
    · simp only [hc, cond_false] at h; exact .inl h
    · simp only [hc, cond_true] at h
      simp only [Bool.and_eq_true] at hc
      exact .inr ⟨hc, h⟩

theorem oldH_get {b : Nat} : ∀ {H : List Blk} {id : Nat} {x : Blk}, oldH b H = true → H[id]? = some x → x.lf = true ∨ oldL b x.cs = true
  | [], id, x, _, h => by simp at h
  | y :: H, 0, x, ho, h => by
    simp at h
    subst h
    simp only [oldH, Bool.and_eq_true, Bool.or_eq_true] at ho
    exact ho.1
  | y :: H, id + 1, x, ho, h => by
    simp only [oldH, Bool.and_eq_true] at ho
    exact oldH_get ho.2 (by simpa using h)

/-- blocks that nobody can reach are dropped -/
theorem HR.take {m0 : M} {H0 H : List Blk} {w0 : World} {base : Nat} (hH : HR gl m H w) (ho : oldH base (H.take base) = true) : HR gl (m.below base) (H.take base) w := by
  have hb : ∀ id I, (m.below base).blk id = some I → id < base ∧ m.blk id = some I := by
    intro id I h
    simp only [M.below] at h
    split at h
    · rename_i h1; exact ⟨h1, h⟩
    · cases h
  refine ⟨fun id I h => ?_, fun id I b h hbk => ?_, fun i j I J b h1 h2 h3 h4 h5 => ?_, fun g cs hg => ?_, hH.gld, hH.frz, fun t k cs id I b hg h1 h2 h3 => ?_, fun g cs id I b hg h1 h2 h3 => ?_⟩
  · obtain ⟨h1, h2⟩ := hb id I h
    have := hH.dom id I h2
    simp; omega
  · obtain ⟨h1, h2⟩ := hb id I h
    rw [List.getElem?_take, if_pos h1] at hbk
    obtain ⟨q1, q2, cu, e, lo, hi, q3, q4, q5, q6, q7, q8⟩ := hH.blk id I b h2 hbk
    refine ⟨q1, q2, cu, e, lo, hi, q3, q4, q5, q6, q7, VRL.below _ _ ?_ q8⟩
    rcases oldH_get (id := id) (x := b) ho (by rw [List.getElem?_take, if_pos h1]; exact hbk) with h | h
    · exact oldL_mono (Nat.zero_le _) _ (q2 h)
    · exact h
  · obtain ⟨a1, a2⟩ := hb i I h1
    obtain ⟨b1, b2⟩ := hb j J h2
    rw [List.getElem?_take, if_pos a1] at h3
    exact hH.inj i j I J b a2 b2 h3 h4 h5
  · obtain ⟨cu, e, fr, h1, h2⟩ := hH.glb g cs hg
    exact ⟨cu, e, fr, h1, VRL.below _ _ (oldL_mono (Nat.zero_le _) _ (hH.gld g cs hg)) h2⟩
  · obtain ⟨a1, a2⟩ := hb id I h1
    rw [List.getElem?_take, if_pos a1] at h2
    exact hH.fow t k cs id I b hg a2 h2 h3
  · obtain ⟨a1, a2⟩ := hb id I h1
    rw [List.getElem?_take, if_pos a1] at h2
    exact hH.gow g cs id I b hg a2 h2 h3

theorem Mx.take {X : List Nat} {m0 : M} {H0 H : List Blk} {w0 : World} {base : Nat} (h : Mx X m0 H0 w0 m H w) (hd : ∀ id I, m0.blk id = some I → id < base) (hb : H0.length ≤ base) : Mx X m0 H0 w0 (m.below base) (H.take base) w := by
  refine ⟨⟨fun id I hI => ?_, h.ext.opq, h.ext.lp, h.ext.frz⟩, h.os, h.tape, h.output, h.size, h.keep, fun k hk => ?_, ?_, fun id hi hn => ?_, h.fz⟩
  · obtain ⟨I', h1, h2, h3⟩ := h.ext.blk id I hI
    exact ⟨I', by simp only [M.below, if_pos (hd id I hI)]; exact h1, h2, h3⟩
  · obtain ⟨id, I, b, h1, h2, h3, h4⟩ := hk
    simp only [M.below] at h1
    split at h1
    · rename_i hlt
      rw [List.getElem?_take, if_pos hlt] at h2
      exact h.own k ⟨id, I, b, h1, h2, h3, h4⟩
    · cases h1
  · have := h.len
    simp; omega
  · simp only [M.below, h.nw id hi hn, ite_self]

/-- the ranges' bounds lie below a number -/
def Low (X : List Ls) (base : Nat) : Prop := ∀ x ∈ X, x.ne ≤ base

theorem Lps.take {H : List Blk} {base : Nat} (hb : base ≤ H.length) : ∀ {X : List Ls} {l : List Lp}, Low X base → Lps P gl m H w X l → Lps P gl (m.below base) (H.take base) w X l
  | [], [], _, _ => trivial
  | [], _ :: _, _, h => h.elim
  | _ :: _, [], _, h => h.elim
  | x :: X, p :: l, hl, h => by
    obtain ⟨h1, h2⟩ := h
    have hx := hl x (by simp)
    refine ⟨⟨h1.u, h1.lp, h1.row, ⟨fun id I hI => ?_, h1.ext.opq, h1.ext.lp, h1.ext.frz⟩, h1.dom, by simp; omega, h1.tm, h1.nt, h1.ps, h1.ca, h1.cb, h1.ok⟩, Lps.take hb (fun y hy => hl y (by simp [hy])) h2⟩
    obtain ⟨I', q1, q2, q3⟩ := h1.ext.blk id I hI
    exact ⟨I', by simp only [M.below, if_pos (Nat.lt_of_lt_of_le (h1.dom id I hI) hx)]; exact q1, q2, q3⟩

theorem LpR.take {X : List Ls} {g : Gh} {H : List Blk} {base : Nat} (h : LpR P gl X g m H w) (hb : base ≤ H.length) (hl : Low X base) : LpR P gl X g (m.below base) (H.take base) w :=
  ⟨Lps.take hb hl h.all, h.key, h.us, h.ls⟩

theorem Lps.low {H : List Blk} : ∀ {X : List Ls} {l : List Lp}, Lps P gl m H w X l → Low X H.length
  | [], _, _ => fun x hx => by cases hx
  | _ :: _, [], h => h.elim
  | x :: X, p :: l, h => fun y hy => by
    rcases List.mem_cons.1 hy with rfl | hy
    · exact h.1.le
    · exact Lps.low h.2 y hy

theorem LpR.low {X : List Ls} {g : Gh} {H : List Blk} (h : LpR P gl X g m H w) : Low X H.length := Lps.low h.all

/-! ## rows that are no cells -/

theorem HR.putObj {H : List Blk} (hH : HR gl m H w) {k : Nat} {o0 : Obj} (hk : w.heap[k]? = some o0) (ho : ∀ cu e fr, o0 ≠ .cells cu e fr) (o : Obj) : HR gl m H (w.putObj k o) := by
  refine ⟨hH.dom, fun id I b h1 h2 => ?_, hH.inj, fun g cs hg => ?_, hH.gld, fun t b cs hg => ?_, hH.fow, hH.gow⟩
  · have hB := hH.blk id I b h1 h2
    obtain ⟨cu, e, lo, hi, h3, h4⟩ := hB.row
    refine ⟨hB.tot, hB.lf, cu, e, lo, hi, ?_, h4⟩
    rw [World.putObj_heap_other]
    · exact h3
    · intro e1
      rw [e1, hk] at h3
      cases h3
      exact ho _ _ _ rfl
  · obtain ⟨cu, e, fr, h3, h4⟩ := hH.glb g cs hg
    refine ⟨cu, e, fr, ?_, h4⟩
    rw [World.putObj_heap_other]
    · exact h3
    · intro e1
      rw [e1, hk] at h3
      cases h3
      exact ho _ _ _ rfl
  · obtain ⟨cu, e, fr, h3, h4⟩ := hH.frz t b cs hg
    refine ⟨cu, e, fr, ?_, h4⟩
    rw [World.putObj_heap_other]
    · exact h3
    · intro e1
      rw [e1, hk] at h3
      cases h3
      exact ho _ _ _ rfl

theorem Lps.putObj {H : List Blk} {k : Nat} (o : Obj) : ∀ {X : List Ls} {l : List Lp}, k ∉ X.map (·.l) → Lps P gl m H w X l → Lps P gl m H (w.putObj k o) X l
  | [], [], _, _ => trivial
  | [], _ :: _, _, h => h.elim
  | _ :: _, [], _, h => h.elim
  | x :: X, p :: l, hk, h => by
    obtain ⟨h1, h2⟩ := h
    simp only [List.map_cons, List.mem_cons, not_or] at hk
    refine ⟨⟨h1.u, h1.lp, ?_, h1.ext, h1.dom, h1.le, h1.tm, h1.nt, h1.ps, h1.ca, h1.cb, h1.ok⟩, Lps.putObj o hk.2 h2⟩
    rw [World.putObj_heap_other (Ne.symm hk.1)]
    exact h1.row

theorem Mx.putObj {X : List Nat} {m0 : M} {H0 H : List Blk} {w0 : World} (h : Mx X m0 H0 w0 m H w) {k : Nat} (hk : k ∈ X ∨ w0.heap.size ≤ k) (o : Obj) : Mx X m0 H0 w0 m H (w.putObj k o) := by
  refine ⟨h.ext, h.os, h.tape, h.output, by rw [World.putObj_size]; exact h.size, fun j hj ho hx => ?_, h.own, h.len, h.nw, h.fz⟩
  rw [World.putObj_heap_other]
  · exact h.keep j hj ho hx
  · intro e
    subst e
    rcases hk with hk | hk
    · exact hx hk
    · omega

/-- a frame's marks are taken -/
theorem leaves_ok {fn : Func} {tmps : Array Value} {R : Ending → World → Prop} {u : FrameMode} (hu : u ≠ .run) {X : List Ls} {g : Gh} {m0 : M} {H0 H : List Blk} {w0 : World} {B : Nat} (hB : w0.heap.size ≤ B) :
    ∀ (Ds : List Nat) (w : World), Ds.Nodup → (∀ D ∈ Ds, B ≤ D ∧ w.heap[D]? = some (.deferred (some []))) → HR gl m H w → LpR P gl X g m H w → Mx (X.map (·.l)) m0 H0 w0 m H w →
      (∀ w', HR gl m H w' → LpR P gl X g m H w' → Mx (X.map (·.l)) m0 H0 w0 m H w' → LeavesIn (Wd none) 0 P fn tmps R [] u w') → LeavesInM (Wd none) 0 P fn tmps R (Ds.map markOf) u w
  | [], w, _, _, h1, h2, h3, hk => hk w h1 h2 h3
  | D :: Ds, w, hn, hD, h1, h2, h3, hk => by
    have hd := hD D (by simp)
    rw [List.nodup_cons] at hn
    refine ⟨hu, .inl ⟨D, w.putObj D (.deferred none), rfl, run_takeDeferred hd.2, ?_⟩⟩
    refine leaves_ok hu hB Ds _ hn.2 (fun D' hD' => ⟨(hD D' (by simp [hD'])).1, ?_⟩) (h1.putObj hd.2 (by intros; simp) _) ⟨Lps.putObj _ (h2.no_row hd.2) h2.all, h2.key, h2.us, h2.ls⟩ (h3.putObj (.inr (by omega)) _) hk
    rw [World.putObj_heap_other]
    · exact (hD D' (by simp [hD'])).2
    · intro e
      subst e
      exact hn.1 hD'

def RecOk (P : Program) (E : Env) (rec : Rec) : Prop :=
  ∀ (nt B : Nat) (r : Option Nat) (X : List Ls) (code : Code) (c : AC) (s : S) (g : Gh) (Q : Ex → S → Gh → Prop) (m : M) (a : Act) (w : World), nt ≤ 4000 → B ≤ w.heap.size → (∀ l, r = some l → l ∈ X.map (·.l)) → Comp P E.gl nt code c → SR E.gl nt B m s a w → LpR P E.gl X g m s.hp w →
    rec c s g Q → code.wpIn (Wd r) 0 P (Post P E.gl nt B X m s.hp w Q) a w

theorem callx_ok {E : Env} (hE : EnvOk P E) {rec : Rec} (hrec : RecOk P E rec) {X : List Ls} {f : FuncId} {args : List AV} {H : List Blk} {g : Gh} {Q : Out → List Blk → Gh → Prop}
    (h : callx E rec f args H g Q) {vs : Array Value} (hv : VRL m args vs.toList) (hH : HR E.gl m H w) (hX : LpR P E.gl X g m H w) : Enters P f ∧ Calls P f vs w (CallPost P E.gl X m H w Q) := by
  unfold callx at h
  split at h
  · rename_i c hg
    obtain ⟨h1, h2⟩ := hE.sm f c hg
    refine ⟨h1, (h2 _ _ _ h m w vs hv hH).mono fun e w' hp => ?_⟩
    obtain ⟨o, H', m', q1, q2, q3, q4⟩ := hp
    exact ⟨o, H', g, m', q1, q2, q3, hX.step hH q4 rfl (Nat.le_refl _), q4.mx _⟩
  · split at h
    · rename_i c hg
      obtain ⟨h1, fn, body, f1, f2, f3, f4, f5, f6⟩ := hE.fn f c hg
      refine ⟨h1, ?_⟩
      cases hle : Nat.ble args.length 4000
      · simp [hle] at h
      rw [hle] at h
      simp only [cond_true] at h
      rw [Nat.ble_eq] at hle
      have hlen : args.length = vs.size := by simpa using hv.len
      have hsr : SR E.gl fn.ntmps w.heap.size m ⟨mkArgs 0 args .e, H⟩ { tmps := vs ++ Array.replicate (fn.ntmps - vs.size) undef, defers := [] } w := by
        refine ⟨fun j => ?_, by simp; omega, ⟨[], rfl, List.nodup_nil, fun D hD => by cases hD⟩, hH⟩
        rw [mkArgs_get args 0 .e j (by omega)]
        by_cases hj : j < args.length
        · rw [if_pos (by omega)]
          obtain ⟨v, hv1, hv2⟩ := hv.get (i := j) (a := args.getD j .undef) (by simp [hj])
          rw [Array.getElem?_toList] at hv1
          have : (vs ++ Array.replicate (fn.ntmps - vs.size) undef).getD j undef = v := by
            simp [Array.getElem?_append, show j < vs.size by omega]
            exact (Array.getElem?_eq_some_iff.1 hv1).2
          rw [this]
          simpa using hv2
        · rw [if_neg (by omega), T.get_e]
          simp [VR]
      have hwp := hrec fn.ntmps w.heap.size none X body c.body _ (g.at f) _ m _ w f6 (Nat.le_refl _) (fun l hl => by cases hl) f3 hsr (hX.step hH (Mv.refl _ _ _) rfl (Nat.le_refl _)) h
      refine callsIn_wide.1 (callsIn_of_wp_marks (F := Wd none) (n := 0) f1 f2 trivial (wpIn_mono hwp fun e a' w' hp => ?_) rfl)
      obtain ⟨ae, s', g', m', hq, hx, hs', hX', hmv⟩ := hp
      obtain ⟨Ds, d1, d2, d3⟩ := hs'.df
      rw [f4] at hq
      -- behind the results
      have fin : ∀ (o : Out) (e' : Ending) (v : AV) (cv : Value) (w'' : World), (∀ m'', VR m'' v cv → OutR m'' o e') → VR m' v cv → HR E.gl m' s'.hp w'' → LpR P E.gl X g' m' s'.hp w'' → Mx (X.map (·.l)) m H w m' s'.hp w'' → leave E H.length (g'.f * 4096 + 4094) v s'.hp (fun H' => Q o H' (g'.at g.f)) → CallPost P E.gl X m H w Q e' w'' := by
        intro o e' v cv w'' hout hv' hH'' hX'' hmv'' hl
        rcases leave_ok hl with h | ⟨⟨o1, o2⟩, h⟩
        · exact ⟨o, s'.hp, g'.at g.f, m', h, hout m' hv', hH'', ⟨hX''.all, hX''.key, hX''.us, hX''.ls⟩, hmv''⟩
        · have hX3 := hX''.take hmv''.len hX.low
          exact ⟨o, _, g'.at g.f, m'.below H.length, h, hout _ (VR.below _ _ o1 hv'), HR.take (m0 := m) (H0 := H) (w0 := w) hH'' o2, ⟨hX3.all, hX3.key, hX3.us, hX3.ls⟩, hmv''.take hH.dom (Nat.le_refl _)⟩
      have hl := fun (u : FrameMode) (hu : u ≠ .run) (R : Ending → World → Prop) => leaves_ok (P := P) (gl := E.gl) (fn := fn) (tmps := a'.tmps) (R := R) (u := u) hu (X := X) (g := g') (m := m') (m0 := m) (H0 := H) (H := s'.hp) (w0 := w) (B := w.heap.size) (Nat.le_refl _) Ds w' d2 d3 hs'.hp hX' hmv
      cases ae with
      | nrm =>
        cases e <;> simp only [ExR] at hx
        simp only [bodyPostM]
        rw [d1]
        refine hl .returning (by simp) _ fun w'' k1 k2 k3 => ?_
        obtain ⟨vs', r1, v, r2, r3⟩ := results_ok (P := P) (B := 0) (a := { tmps := a'.tmps, defers := [] }) (s := s') (w := w'') ⟨hs'.tm, hs'.nt, ⟨[], rfl, List.nodup_nil, fun D hD => by cases hD⟩, k1⟩ f5 hq
        exact ⟨v, r2, fin (.ret (tupOf vs')) (.returned v) _ v w'' (fun m'' h => h) r3 k1 k2 k3 r1⟩
      | ret =>
        cases e <;> simp only [ExR] at hx
        simp only [bodyPostM]
        rw [d1]
        refine hl .returning (by simp) _ fun w'' k1 k2 k3 => ?_
        obtain ⟨vs', r1, v, r2, r3⟩ := results_ok (P := P) (B := 0) (a := { tmps := a'.tmps, defers := [] }) (s := s') (w := w'') ⟨hs'.tm, hs'.nt, ⟨[], rfl, List.nodup_nil, fun D hD => by cases hD⟩, k1⟩ f5 hq
        exact ⟨v, r2, fin (.ret (tupOf vs')) (.returned v) _ v w'' (fun m'' h => h) r3 k1 k2 k3 r1⟩
      | exit i => cases hq
      | pan v =>
        cases e <;> simp only [ExR] at hx
        obtain ⟨cv, rfl, hcv⟩ := hx
        simp only [bodyPostM]
        rw [d1]
        refine hl (.panicking _) (by simp) _ fun w'' k1 k2 k3 => ?_
        exact fin (.pan v) (.panicked [{ v := cv, recovered := false }]) v cv w'' (fun m'' h => ⟨cv, rfl, h⟩) hcv k1 k2 k3 hq
    · cases h

/-- the operation of a call -/
theorem run_callOp {o : Oper} {f : Operand} {args : Array Operand} {ts : Array TypeId} (ho : o.op = .call { callee := .value f, args := args, argTypes := ts }) {ρ : Operand → Value} {fid : FuncId} {x y : Array Value} (hf : ρ f = .func (.func fid) x y) (he : Enters P fid) :
    (execOp ρ o).run P w = .ok (.enter fid (x ++ args.map ρ ++ y)) w := by
  obtain ⟨fn, h1, h2, h3⟩ := he
  have h3' : ¬ fn.name = "runtime.NumGoroutine" := by simpa using h3
  have h2' : ¬ fn.body = none := by
    intro e
    rw [e] at h2
    cases h2
  simp [execOp, ho, resolve, hf, Deferred.ofValue, invoke, callFunc, h1, h2', h3']

theorem cOp_call {op : Op} {f : AO} {args : List AO} (h : cOp P op = .call f args) : ∃ cf cargs ts, op = .call { callee := .value cf, args := cargs, argTypes := ts } ∧ f = cO cf ∧ args = cargs.toList.map cO := by
  cases op with
  | call c =>
    obtain ⟨callee, cargs, ts⟩ := c
    cases callee with
    | value cf =>
      simp only [cOp, AOp.call.injEq] at h
      exact ⟨cf, cargs, ts, rfl, h.1.symm, h.2.symm⟩
    | invoke f n => simp [cOp] at h
    | builtin b => simp only [cOp] at h; (repeat' split at h) <;> simp at h
  | slice t x lo hi mx => cases mx <;> simp only [cOp] at h <;> (repeat' split at h) <;> simp at h
  | _ => simp only [cOp] at h; (repeat' split at h) <;> simp at h

end
end Go.Proofs.YtafchcmemeinlaaDoor
