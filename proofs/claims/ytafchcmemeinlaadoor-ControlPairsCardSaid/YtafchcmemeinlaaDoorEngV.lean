/-
  The engine, part V: rounds of a range over a function; one operation.
-/
import Derived.Test.YtafchcmemeinlaaDoorEngN
set_option linter.unusedSimpArgs false
set_option linter.unusedVariables false
namespace Go.Proofs.YtafchcmemeinlaaDoor
open Go.RowKit

section
variable {P : Program} {gl : Nat → Option (List AV)} {nt B : Nat} {m : M} {s : S} {a : Act} {w : World}

theorem nodup_inj {α β : Type} {f : α → β} : ∀ {l : List α} {x y : α}, (l.map f).Nodup → x ∈ l → y ∈ l → f x = f y → x = y
  | [], _, _, _, h, _, _ => by cases h
  | z :: l, x, y, hn, hx, hy, e => by
    simp only [List.map_cons, List.nodup_cons] at hn
    rcases List.mem_cons.1 hx with h1 | h1 <;> rcases List.mem_cons.1 hy with h2 | h2
    · rw [h1, h2]
    · exact absurd (List.mem_map.2 ⟨y, h2, by rw [← e, h1]⟩) hn.1
    · exact absurd (List.mem_map.2 ⟨x, h1, by rw [e, h2]⟩) hn.1
    · exact nodup_inj hn.2 h1 h2 e

theorem Lps.find {H : List Blk} {u : Nat} : ∀ {X : List Ls} {l : List Lp} {p : Lp}, Lps P gl m H w X l → findLp u l = some p → ∃ x ∈ X, x.u = u ∧ Lp1 P gl m H w x p
  | [], [], p, _, h => by cases h
  | [], _ :: _, _, h, _ => h.elim
  | _ :: _, [], _, h, _ => h.elim
  | x :: X, q :: l, p, h, hf => by
    obtain ⟨h1, h2⟩ := h
    simp only [findLp] at hf
    cases hb : Nat.beq q.u u
    · rw [hb, cond_false] at hf
      obtain ⟨y, hy, q1, q2⟩ := Lps.find h2 hf
      exact ⟨y, by simp [hy], q1, q2⟩
    · rw [hb, cond_true] at hf
      cases hf
      exact ⟨x, by simp, by rw [← h1.u]; exact Nat.eq_of_beq_eq_true hb, h1⟩

theorem Lps.mem {H : List Blk} {x : Ls} : ∀ {X : List Ls} {l : List Lp}, Lps P gl m H w X l → x ∈ X → ∃ p, Lp1 P gl m H w x p
  | [], _, _, h => by cases h
  | _ :: _, [], h, _ => h.elim
  | y :: X, q :: l, h, hx => by
    rcases List.mem_cons.1 hx with rfl | hx
    · exact ⟨q, h.1⟩
    · exact Lps.mem h.2 hx

theorem Lps.setSt {H : List Blk} {x : Ls} {st : Lst} (hst : ∀ e, st = .done e → e = .ret ∨ ∃ i, e = .exit i) : ∀ {X : List Ls} {l : List Lp}, Lps P gl m H w X l → (X.map (·.u)).Nodup → (X.map (·.l)).Nodup → x ∈ X →
    Lps P gl m H (w.putObj x.l (.loop (x.row st))) X (setLp x.u st l)
  | [], _, _, _, _, h => by cases h
  | _ :: _, [], h, _, _, _ => h.elim
  | y :: X, q :: l, h, hu, hl, hx => by
    obtain ⟨h1, h2⟩ := h
    simp only [List.map_cons, List.nodup_cons] at hu hl
    simp only [setLp]
    rcases List.mem_cons.1 hx with rfl | hx
    · have hb : Nat.beq q.u x.u = true := by rw [h1.u]; exact Nat.beq_refl _
      rw [hb, cond_true]
      refine ⟨⟨h1.u, h1.lp, World.putObj_heap_same (Array.getElem?_eq_some_iff.1 h1.row).1, h1.ext, h1.dom, h1.le, h1.tm, h1.nt, h1.ps, h1.ca, h1.cb, hst⟩, Lps.putObj _ hl.1 h2⟩
    · have hne : ¬ q.u = x.u := by
        rw [h1.u]
        intro e
        exact hu.1 (e ▸ List.mem_map.2 ⟨x, hx, rfl⟩)
      have hb : Nat.beq q.u x.u = false := by
        cases hc : Nat.beq q.u x.u with
        | false => rfl
        | true => exact absurd (Nat.eq_of_beq_eq_true hc) hne
      have hne2 : y.l ≠ x.l := fun e => hl.1 (e ▸ List.mem_map.2 ⟨x, hx, rfl⟩)
      rw [hb, cond_false]
      refine ⟨⟨h1.u, h1.lp, ?_, h1.ext, h1.dom, h1.le, h1.tm, h1.nt, h1.ps, h1.ca, h1.cb, h1.ok⟩, Lps.setSt hst h2 hu.2 hl.2 hx⟩
      rw [World.putObj_heap_other hne2]
      exact h1.row

theorem LpR.setSt {X : List Ls} {g : Gh} {H : List Blk} (h : LpR P gl X g m H w) {x : Ls} (hx : x ∈ X) {st : Lst} (hst : ∀ e, st = .done e → e = .ret ∨ ∃ i, e = .exit i) : LpR P gl X (g.set x.u st) m H (w.putObj x.l (.loop (x.row st))) :=
  ⟨Lps.setSt hst h.all h.us h.ls hx, h.key, h.us, h.ls⟩

theorem SR.putObj (h : SR gl nt B m s a w) {k : Nat} {o0 : Obj} (hk : w.heap[k]? = some o0) (ho : ∀ cu e fr, o0 ≠ .cells cu e fr) (hd : ∀ d, o0 ≠ .deferred d) (o : Obj) : SR gl nt B m s a (w.putObj k o) := by
  refine ⟨h.tm, h.nt, ?_, h.hp.putObj hk ho o⟩
  obtain ⟨Ds, h1, h2, h3⟩ := h.df
  refine ⟨Ds, h1, h2, fun D hD => ⟨(h3 D hD).1, ?_⟩⟩
  rw [World.putObj_heap_other]
  · exact (h3 D hD).2
  · intro e
    have h4 := (h3 D hD).2
    rw [e, hk] at h4
    cases h4
    exact hd _ rfl

theorem putAll_ok {m : M} {n : Nat} (hn : n ≤ 4000) : ∀ (ps : List Nat) (args : List AV) (vs : List Value) (t : T) (tmps : Array Value), (∀ p ∈ ps, p < n) → n ≤ tmps.size → VRL m args vs → (∀ k, VR m (t.get k) (tmps.getD k undef)) →
    (∀ k, VR m ((putAll t ps args).get k) (((ps.zip vs).foldl (fun tmps (p : Nat × Value) => tmps.setIfInBounds p.1 p.2) tmps).getD k undef)) ∧ ((ps.zip vs).foldl (fun tmps (p : Nat × Value) => tmps.setIfInBounds p.1 p.2) tmps).size = tmps.size
  | [], args, vs, t, tmps, _, _, _, h => ⟨fun k => by simpa [putAll] using h k, by simp⟩
  | p :: ps, [], vs, t, tmps, _, _, hv, h => by
    rw [VRL_nil] at hv
    subst hv
    exact ⟨fun k => by simpa [putAll] using h k, by simp⟩
  | p :: ps, v :: args, vs, t, tmps, hp, hs, hv, h => by
    obtain ⟨cv, vs', rfl, h1, h2⟩ := VRL_consL hv
    have hpn := hp p (by simp)
    simp only [putAll, List.zip_cons_cons, List.foldl_cons]
    have ih := putAll_ok hn ps args vs' (T.put 12 t p v) (tmps.setIfInBounds p cv) (fun q hq => hp q (by simp [hq])) (by simpa using hs) h2 fun k => by
      rw [T.get_put 12 t p v k (by omega)]
      by_cases e : k = p
      · subst e
        rw [if_pos rfl]
        have : (tmps.setIfInBounds k cv).getD k undef = cv := by
          have hk : k < tmps.size := by omega
          simp [hk]
        rw [this]; exact h1
      · rw [if_neg e]
        have : (tmps.setIfInBounds p cv).getD k undef = tmps.getD k undef := by
          simp [Array.getElem?_setIfInBounds_ne (Ne.symm e)]
        rw [this]; exact h k
    exact ⟨ih.1, by rw [ih.2]; simp⟩

theorem yieldx_ok {E : Env} {rec : Rec} (hrec : RecOk P E rec) {X : List Ls} {u l : Nat} {args : List AV} {H : List Blk} {g : Gh} {Q : Out → List Blk → Gh → Prop} {r : Option Nat}
    (h : yieldx rec u args H g Q) {vs : Array Value} (hv : VRL m args vs.toList) (hH : HR E.gl m H w) (hX : LpR P E.gl X g m H w) (hl : m.lp u = some l) :
    ∃ f tmps asg body, (Instr.yield l vs).run P w = .ok (.round l f tmps asg body) w ∧ RoundIn (Wd r) 0 P l f tmps asg body w (CallPost P E.gl X m H w Q) := by
  unfold yieldx at h
  cases hf : findLp u g.lps with
  | none => rw [hf] at h; exact h.elim
  | some p =>
    rw [hf] at h
    simp only at h
    obtain ⟨x, hx, rfl, hp⟩ := hX.all.find hf
    have hll : x.l = l := by
      have := hp.lp
      rw [hl] at this
      exact (Option.some.inj this).symm
    subst hll
    cases hb : (Nat.beq args.length p.ps.length && g.isReady x.u)
    · rw [hb] at h; exact h.elim
    rw [hb, cond_true] at h
    simp only [Bool.and_eq_true, nbeq] at hb
    have hlen : vs.size = x.ps.size := by
      have h1 := hv.len
      have h2 := hb.1
      rw [hp.ps.1] at h2
      simp at h1 h2
      omega
    refine ⟨x.fn, _, x.asg, x.body, run_yield hp.row hlen, ?_⟩
    have hpa := putAll_ok (m := m) hp.nt.2 x.ps.toList args vs.toList p.tm x.tmps (by rw [← hp.ps.1]; exact hp.ps.2) hp.nt.1 hv (fun k => VR.mono hp.ext _ _ (hp.tm k))
    have hz : ((x.row p.st).params.zip vs).foldl (fun tmps (t, a) => tmps.setIfInBounds t a) (x.row p.st).tmps = (x.ps.toList.zip vs.toList).foldl (fun tmps (p : Nat × Value) => tmps.setIfInBounds p.1 p.2) x.tmps := by
      show (x.ps.zip vs).foldl _ x.tmps = _
      rw [← Array.foldl_toList, Array.toList_zip]
    rw [hz]
    have hmem : x.l ∈ X.map (·.l) := List.mem_map.2 ⟨x, hx, rfl⟩
    have hr : ∀ l', some x.l = some l' → l' ∈ X.map (·.l) := fun l' e => by cases e; exact hmem
    refine roundIn_of_wpIn trivial ?_
    have hsr : SR E.gl x.nt 0 m ⟨putAll p.tm p.ps args, H⟩ { tmps := (x.ps.toList.zip vs.toList).foldl (fun tmps (p : Nat × Value) => tmps.setIfInBounds p.1 p.2) x.tmps, defers := [] } w := by
      refine ⟨fun k => by rw [hp.ps.1]; exact hpa.1 k, by rw [hpa.2]; exact hp.nt.1, ⟨[], rfl, List.nodup_nil, fun D hD => by cases hD⟩, hH⟩
    refine wpIn_mono (hrec x.nt 0 (some x.l) X x.asg p.asg _ (g.at p.f) _ m _ w hp.nt.2 (Nat.zero_le _) hr hp.ca hsr (hX.step hH (Mv.refl _ _ _) rfl (Nat.le_refl _)) h) fun e a1 w1 hpost => ?_
    obtain ⟨ae, s1, g1, m1, q1, q2, q3, q4, q5⟩ := hpost
    cases ae with
    | exit i => exact q1.elim
    | ret => exact q1.elim
    | pan v => exact q1.elim
    | nrm =>
      cases e <;> simp only [ExR] at q2
      simp only at q1
      cases hrd : g1.isReady x.u
      · rw [hrd] at q1; exact q1.elim
      rw [hrd, cond_true] at q1
      -- the record is ready
      have hrow : w1.heap[x.l]? = some (.loop (x.row .ready)) := by
        unfold Gh.isReady at hrd
        split at hrd
        · rename_i p1 hf1
          split at hrd
          · rename_i hst
            obtain ⟨y, hy, hyu, hp1⟩ := q4.all.find hf1
            have hyx : y = x := nodup_inj q4.us hy hx hyu
            subst hyx
            have := hp1.row
            rw [hst] at this
            exact this
          · cases hrd
        · cases hrd
      refine ⟨_, run_beginRound hrow rfl, ?_⟩
      have q3' := q3.putObj hrow (by intros; simp) (by intros; simp) (.loop (x.row .busy))
      have q4' := q4.setSt hx (st := .busy) (fun e he => by cases he)
      have q5' := q5.putObj (.inl hmem) (.loop (x.row .busy))
      refine wpIn_mono (hrec x.nt 0 (some x.l) X x.body p.body s1 (g1.set x.u .busy) _ m1 a1 _ hp.nt.2 (Nat.zero_le _) hr hp.cb q3' q4' q1) fun e a2 w2 hpost => ?_
      obtain ⟨ae, s2, g2, m2, r1, r2, r3, r4, r5⟩ := hpost
      obtain ⟨p2, hp2⟩ := r4.all.mem hx
      have fin : ∀ (st : Lst) (b : Bool), (∀ e, st = .done e → e = .ret ∨ ∃ i, e = .exit i) → Q (.ret (.bool b)) s2.hp ((g2.at g.f).set x.u st) → CallPost P E.gl X m H w Q (.returned (.bool b)) (w2.putObj x.l (.loop (x.row st))) := by
        intro st b hst hq
        exact ⟨_, _, _, m2, hq, by simp [OutR, VR], r3.hp.putObj hp2.row (by intros; simp) _, (show LpR P E.gl X (g2.at g.f) m2 s2.hp w2 from ⟨r4.all, r4.key, r4.us, r4.ls⟩).setSt hx hst, (q5'.trans r5).putObj (.inl hmem) _⟩
      cases ae with
      | nrm =>
        cases e <;> simp only [ExR] at r2
        exact ⟨_, _, run_endRound none hp2.row, fin .ready true (fun e he => by cases he) r1⟩
      | ret =>
        cases e <;> simp only [ExR] at r2
        exact ⟨_, _, run_endRound (some .ret) hp2.row, fin (.done .ret) false (fun e he => by cases he; exact .inl rfl) r1⟩
      | exit i =>
        cases e <;> simp only [ExR] at r2
        subst r2
        exact ⟨_, _, run_endRound (some (.exit i)) hp2.row, fin (.done (.exit i)) false (fun e he => by cases he; exact .inr ⟨i, rfl⟩) r1⟩
      | pan v => exact r1.elim

theorem semAt_call {r : Option Nat} {o : Oper} {ρ : Operand → Value} (h : ∀ c, o.op ≠ .defer c) : Oper.semAt r ρ o = execOp ρ o := Oper.semAt_eq r ρ o h

theorem cOp_nodefer {op : Op} {c : Call} (h : op = .defer c) : cOp P op = .bad "op" := by subst h; rfl

/-- one operation, whatever is behind it -/
theorem op_ok {E : Env} (hE : EnvOk P E) {rec : Rec} (hrec : RecOk P E rec) {X : List Ls} {r : Option Nat} {ev : AO → AV} {H : List Blk} (hH : HR E.gl m H w) (hρ : ∀ x, VR m (ev (cO x)) (a.eval x)) {o : Oper}
    {next : Act → World → Prop} {QQ : Exit → Act → World → Prop} :
    (∀ (k : Nat) (K : AV → List Blk → Prop), hop E ev H k (cOp P o.op) K → (∀ m' w' av H' v, K av H' → HR E.gl m' H' w' → Mv m H w m' H' w' → VR m' av v → next (a.put o.dst v) w') → o.wpIn (Wd r) 0 P a w next QQ) ∧
    (∀ (f : AO) (args : List AO) (g : Gh) (K : Out → List Blk → Gh → Prop), LpR P E.gl X g m H w → cOp P o.op = .call f args → callv E rec (ev f) (args.map ev) H g K →
      (∀ m' w' ov H' g', K ov H' g' → HR E.gl m' H' w' → LpR P E.gl X g' m' H' w' → Mx (X.map (·.l)) m H w m' H' w' → (∀ av v, ov = .ret av → VR m' av v → next (a.put o.dst v) w') ∧ (∀ av v, ov = .pan av → VR m' av v → QQ (.panic [{ v := v, recovered := false }]) a w')) → o.wpIn (Wd r) 0 P a w next QQ) := by
  refine ⟨fun k K hK hn => ?_, fun f args g K hX hc hx hn => ?_⟩
  · have hnd : ∀ c, o.op ≠ .defer c := fun c hc => by rw [cOp_nodefer hc] at hK; exact hK.elim
    obtain ⟨av, H', v, w', m', q1, q2, q3, q4, q5⟩ := hop_ok (P := P) hH hρ o hK
    have := hn m' w' av H' v q1 q4 q5 q3
    unfold Oper.wpIn
    refine ⟨fun _ _ => trivial, ?_⟩
    rw [semAt_call hnd]
    rcases q2 with hrun | ⟨hrun, rfl⟩
    · rw [hrun, Oper.uponIn_value]; exact this
    · rw [hrun, Oper.uponIn_skip]; exact this
  · obtain ⟨cf, cargs, ts, ho, rfl, rfl⟩ := cOp_call hc
    have hnd : ∀ c, o.op ≠ .defer c := fun c hc => by rw [ho] at hc; cases hc
    have hcf := hρ cf
    have fin : ∀ e w', CallPost P E.gl X m H w K e w' → (match e, w' with
        | .returned v, w'' => next (a.put o.dst v) w''
        | .panicked chain, w'' => QQ (.panic chain) a w''
        | .outgrown, _ => LetsOut QQ) := by
      intro e w' hp
      obtain ⟨ov, H', g', m', q1, q2, q3, q4, q5⟩ := hp
      obtain ⟨n1, n2⟩ := hn m' w' ov H' g' q1 q3 q4 q5
      cases ov with
      | ret av =>
        cases e <;> simp only [OutR] at q2
        exact n1 av _ rfl q2
      | pan av =>
        cases e <;> simp only [OutR] at q2
        obtain ⟨cv, rfl, hcv⟩ := q2
        exact n2 av cv rfl hcv
    have hargs0 : VRL m ((cargs.toList.map cO).map ev) (cargs.map a.eval).toList := by
      simp only [Array.toList_map]
      exact mapVRL hρ _
    unfold callv at hx
    unfold Oper.wpIn
    refine ⟨fun _ _ => trivial, ?_⟩
    rw [semAt_call hnd]
    split at hx
    · rename_i fid x y hf
      rw [hf] at hcf
      simp only [VR] at hcf
      obtain ⟨x', y', e1, e2, e3⟩ := hcf
      have hargs : VRL m (x ++ (cargs.toList.map cO).map ev ++ y) (x' ++ cargs.map a.eval ++ y').toList := by
        simp only [Array.toList_append]
        exact (e2.append hargs0).append e3
      obtain ⟨hen, hcalls⟩ := callx_ok hE hrec hx hargs hH hX
      rw [run_callOp ho e1 hen, Oper.uponIn_enter]
      exact ⟨fun h => (by cases h), (callsIn_wide (n := 0 - 1).2 hcalls).mono fun e w' hp => fin e w' hp⟩
    · rename_i u hf
      rw [hf] at hcf
      simp only [VR] at hcf
      obtain ⟨l, hl, hv⟩ := hcf
      obtain ⟨f, tmps, asg, body, hrun, hround⟩ := yieldx_ok hrec (r := r) hx hargs0 hH hX hl
      have hex : (execOp a.eval o).run P w = .ok (.round l f tmps asg body) w := by
        simp [execOp, ho, resolve, hv, Deferred.ofValue, invoke, hrun]
      rw [hex, Oper.uponIn_round]
      exact ⟨fun h => (by cases h), hround.mono fun e w' hp => fin e w' hp⟩
    · cases hx

theorem quiet_ok {E : Env} (h : SR E.gl nt B m s a w) {r0 : Option Nat} {o : Oper} {next : Act → World → Prop} {QQ : Exit → Act → World → Prop} (r : LR) (hr : lop E.gl s.ev (cur s.hp) (cellsAt s.hp) s.hp.length (cOp P o.op) = some r) (hp : r.pre = true)
    (hn : ∀ m' w' v, SR E.gl nt B m' ⟨s.tm, s.hp ++ r.nb.toList⟩ a w' → Mv m s.hp w m' (s.hp ++ r.nb.toList) w' → VR m' r.v v → next (a.put o.dst v) w') : o.wpIn (Wd r0) 0 P a w next QQ := by
  have hnd : ∀ c, o.op ≠ .defer c := fun c hc => by rw [cOp_nodefer hc] at hr; cases hr
  have hl := lop_ok (P := P) h.hp h.ops (fun v => rfl) o s.hp.length hr hp
  unfold Oper.wpIn
  refine ⟨fun _ _ => trivial, ?_⟩
  rw [semAt_call hnd]
  rcases hl with ⟨hnb, v, hrun, hv⟩ | ⟨nb, v, w', I, hnb, hrun, hN, hv⟩
  · rw [hrun, Oper.uponIn_value]
    refine hn m w v ?_ ?_ hv
    · rw [hnb]; simpa using h
    · rw [hnb]; simpa using Mv.refl m s.hp w
  · rw [hrun, Oper.uponIn_value]
    obtain ⟨q1, q2⟩ := h.hp.new hN
    refine hn (m.set s.hp.length I) w' v ?_ ?_ (hv _ (M.set_same _ _ _))
    · rw [hnb]; exact h.step q2 q1
    · rw [hnb]; exact q2

/-- a new block that is frozen at once -/
theorem HR.newF {H : List Blk} {w' : World} (hH : HR gl m H w) {I : Inf} {nb : Blk} (hN : NewB m nb I w w') (hY : noYL nb.cs = true) (hlf : nb.lf = true) :
    ∃ m2, HR gl m2 H w' ∧ Mv m H w m2 H w' ∧ ∀ (len sz : Nat) (v : Value), VR (m.set H.length I) (.sl H.length nb.cs.length 0 len sz) v → len * sz = nb.cs.length → VR m2 (.lst 0 nb.cs len sz) v := by
  obtain ⟨cu, e, lo, hi, hh, h1, h2, h3, h4, h5, h6⟩ := hN.row
  have hkeep : ∀ j, j < w.heap.size → w'.heap[j]? = w.heap[j]? := fun j hj => by rw [hh, Array.getElem?_push, if_neg (by omega)]
  have hnew : w'.heap[I.b]? = some (.cells cu e (lo, hi)) := by rw [hh, hN.b]; simp
  have hnf : ∀ t cs, m.frz t I.b = some cs → False := fun t cs hf => by
    obtain ⟨_, _, _, h, _⟩ := hH.frz t _ cs hf
    have := (Array.getElem?_eq_some_iff.1 h).1
    rw [hN.b] at this
    omega
  have hlt : ∀ id J, m.blk id = some J → J.b < w.heap.size := fun id J h => by
    have hd := hH.dom id J h
    obtain ⟨cu, e, lo, hi, q1, _⟩ := (hH.blk id J H[id] h (List.getElem?_eq_getElem hd)).row
    exact (Array.getElem?_eq_some_iff.1 q1).1
  obtain ⟨m2, hm2⟩ : ∃ m2 : M, m2 = ⟨m.blk, m.opq, m.lp, fun t b => if t = 0 ∧ b = I.b then some (cu.toList.take I.tot) else m.frz t b⟩ := ⟨_, rfl⟩
  have hext : Ext m m2 := by
    subst hm2
    refine ⟨fun _ J h => ⟨J, h, Nat.le_refl _, fun _ => rfl⟩, rfl, fun _ _ h => h, fun t b cs h => ?_⟩
    simp only
    rw [if_neg]
    · exact h
    · rintro ⟨_, rfl⟩; exact hnf t cs h
  have hlen : (cu.toList.take I.tot).length = I.tot := by simp; omega
  refine ⟨m2, ⟨fun id J h => hH.dom id J (by subst hm2; exact h), fun id J b h hb => ?_, fun i j J K b a1 a2 => hH.inj i j J K b (by subst hm2; exact a1) (by subst hm2; exact a2), fun g cs hg => ?_, hH.gld, fun t k cs hf => ?_, fun t k cs id J b hf a1 a2 a3 => ?_, fun g cs id J b a1 a2 => hH.gow g cs id J b a1 (by subst hm2; exact a2)⟩,
    ⟨⟨hext, hN.os, hN.tape, hN.output, by rw [hh]; simp, fun k hk _ => hkeep k hk, fun k hk => .inr ?_, fun u l h => by subst hm2; exact h, fun t k cs hf => ?_⟩, Nat.le_refl _, fun id _ h => by subst hm2; exact h⟩, fun len sz v hv hl => ?_⟩
  · have h' : m.blk id = some J := by subst hm2; exact h
    exact (hH.blk id J b h' hb).mono hext (hkeep _ (hlt id J h'))
  · obtain ⟨cu', e', fr', q1, q2⟩ := hH.glb g cs hg
    exact ⟨cu', e', fr', (hkeep g (Array.getElem?_eq_some_iff.1 q1).1).trans q1, VRL.mono hext _ _ q2⟩
  · subst hm2
    simp only at hf
    split at hf
    · rename_i hc
      cases hf
      rw [hc.2]
      exact ⟨cu, e, _, hnew, by rw [hlen]⟩
    · obtain ⟨cu', e', fr', q1, q2⟩ := hH.frz t k cs hf
      exact ⟨cu', e', fr', (hkeep k (Array.getElem?_eq_some_iff.1 q1).1).trans q1, q2⟩
  · have a1' : m.blk id = some J := by subst hm2; exact a1
    subst hm2
    simp only at hf
    split at hf
    · rename_i hc
      rw [hc.2, hN.b]
      have := hlt id J a1'
      omega
    · exact hH.fow t k cs id J b hf a1' a2 a3
  · obtain ⟨id, J, b, b1, b2⟩ := hk
    exact ⟨id, J, b, by subst hm2; exact b1, b2⟩
  · subst hm2
    simp only at hf
    split at hf
    · rename_i hc
      exact .inr (.inl (by rw [hc.2, hN.b]; exact Nat.le_refl _))
    · exact .inl hf
  · simp only [VR] at hv ⊢
    obtain ⟨v1, J, v2, v3, v4⟩ := hv
    rw [M.set_same] at v2
    cases v2
    obtain ⟨o, cap, rfl, v5, v6⟩ := v4 hN.tot.symm
    refine ⟨v1, hl.symm, some ⟨I.b, o, none⟩, cap, rfl, v5, ?_⟩
    rcases v6 with ⟨v6, _⟩ | ⟨v6, v7⟩
    · left
      rw [hN.d] at v6
      obtain rfl : o = 0 := by omega
      refine ⟨⟨I.b, 0, none⟩, cu.toList.take I.tot, rfl, rfl, by subst hm2; simp [M.strip], by rw [hlen, hN.tot]; simp, ?_⟩
      rw [List.drop_zero, List.take_of_length_le (by rw [hlen, hN.tot]; exact Nat.le_refl _)]
      exact VRL.flat (m := m) (m' := m2.strip) (by subst hm2; rfl) hext.strip _ _ (hN.lf hlf) hY h6
    · right
      subst v6
      refine ⟨rfl, List.eq_nil_of_length_eq_zero (by omega), fun h => by cases h⟩

theorem quietF_ok {E : Env} (h : SR E.gl nt B m s a w) {r0 : Option Nat} {o : Oper} {next : Act → World → Prop} {QQ : Exit → Act → World → Prop} (r : LR) (hr : lop E.gl s.ev (cur s.hp) (cellsAt s.hp) s.hp.length (cOp P o.op) = some r) (hp : r.pre = true) {K : AV → Prop}
    (hf : frzN s.hp.length r.v r.nb K) (hn : ∀ m' w' av v, K av → SR E.gl nt B m' s a w' → Mv m s.hp w m' s.hp w' → VR m' av v → next (a.put o.dst v) w') : o.wpIn (Wd r0) 0 P a w next QQ := by
  have hnd : ∀ c, o.op ≠ .defer c := fun c hc => by rw [cOp_nodefer hc] at hr; cases hr
  have hl := lop_ok (P := P) h.hp h.ops (fun v => rfl) o s.hp.length hr hp
  unfold Oper.wpIn
  refine ⟨fun _ _ => trivial, ?_⟩
  rw [semAt_call hnd]
  unfold frzN at hf
  split at hf
  · rename_i id tot off len sz nb hv hnb
    cases hc : (Nat.beq id s.hp.length && Nat.beq off 0 && Nat.beq tot nb.cs.length && Nat.beq (len * sz) tot && nb.lf && noYL nb.cs)
    · rw [hc] at hf; exact hf.elim
    · rw [hc, cond_true] at hf
      simp only [Bool.and_eq_true, nbeq] at hc
      obtain ⟨⟨⟨⟨⟨rfl, rfl⟩, rfl⟩, c4⟩, c5⟩, c6⟩ := hc
      rcases hl with ⟨hnb', _⟩ | ⟨nb', v, w', I, hnb', hrun, hN, hvv⟩
      · rw [hnb] at hnb'; cases hnb'
      · rw [hnb] at hnb'
        cases hnb'
        rw [hrun, Oper.uponIn_value]
        obtain ⟨m2, q1, q2, q3⟩ := h.hp.newF hN c6 c5
        have := hvv (m.set s.hp.length I) (M.set_same _ _ _)
        rw [hv] at this
        exact hn m2 w' _ v hf (h.step q2 q1) q2 (q3 _ _ _ this c4)
  · exact hf.elim

/-- a region that keeps its order -/
theorem rOps_ok {E : Env} (hE : EnvOk P E) {rec : Rec} (hrec : RecOk P E rec) (hnt : nt ≤ 4000) (ops : Array Oper) {X : List Ls} {r0 : Option Nat} {m0 : M} {H0 : List Blk} {w0 : World} {Q : Ex → S → Gh → Prop} :
    ∀ (l : List Oper) (s : S) (g : Gh) (m : M) (a : Act) (w : World), SR E.gl nt B m s a w → LpR P E.gl X g m s.hp w → Mx (X.map (·.l)) m0 H0 w0 m s.hp w → rOps E rec (l.map (cOper P nt ops)) s g Q → wpListIn (Wd r0) 0 P ops (Post P E.gl nt B X m0 H0 w0 Q) l a w
  | [], s, g, m, a, w, h, hX, hmv, hr => ⟨.nrm, s, g, m, hr, trivial, h, hX, hmv⟩
  | o :: l, s, g, m, a, w, h, hX, hmv, hr => by
    simp only [List.map_cons, rOps] at hr
    have ih := fun s g m a w => rOps_ok hE hrec hnt ops (X := X) (r0 := r0) (m0 := m0) (H0 := H0) (w0 := w0) (Q := Q) l s g m a w
    rcases cOper_cases P nt ops o with ⟨why, hbad⟩ | ⟨hd, c1, c2, c3⟩
    · rw [hbad] at hr
      simp [gd, lop, hop] at hr
    · rw [c1, c2] at hr
      cases hg : gd s (cOper P nt ops o).guard with
      | none => rw [hg] at hr; cases hr
      | some t =>
        rw [hg] at hr
        have hw := guard_same h c3 hg
        refine wpListIn_step fun K hK => ?_
        rw [hw]
        cases t with
        | false =>
          simp only at hr
          simp only [Bool.false_eq_true, if_false]
          refine ⟨fun _ _ => trivial, hK _ _ (ih _ _ m _ w (h.put (by simp [VR, undef]) hd hnt) ?_ ?_ hr)⟩
          · have := hX.step (g' := g) h.hp (Mv.refl _ _ _) rfl (Nat.le_refl _)
            cases o.dst <;> exact this
          · cases o.dst <;> exact hmv
        | true =>
          simp only at hr
          simp only [if_true]
          obtain ⟨o2, o3⟩ := op_ok hE hrec (X := X) (r := r0) h.hp h.ops (o := o) (next := K) (QQ := Post P E.gl nt B X m0 H0 w0 Q)
          split at hr
          · rename_i f args hop
            refine o3 f args g _ hX hop hr fun m' w' ov H' g' hq hH' hX' hmv' => ⟨fun av v e hv => ?_, fun av v e hv => ?_⟩
            · subst e
              have hs' := h.stepx hX hmv' hH'
              refine hK _ _ (ih _ _ m' _ w' (hs'.put hv hd hnt) ?_ ?_ (hint_ok hq))
              · cases o.dst <;> exact hX'
              · have := hmv.trans hmv'
                cases o.dst <;> exact this
            · subst e
              exact ⟨.pan av, _, g', m', hq, ⟨v, rfl, hv⟩, h.stepx hX hmv' hH', hX', hmv.trans hmv'⟩
          · rename_i hne
            split at hr
            · rename_i r hl
              obtain ⟨hp, hr⟩ := ck_ok hr
              cases hz : E.hz (g.key o.dst) with
              | true =>
                rw [hz, cond_true] at hr
                refine quietF_ok h r hl hp hr fun m' w' av v hr' hs' hmv' hv => ?_
                refine hK _ _ (ih _ _ m' _ w' (hs'.put hv hd hnt) ?_ ?_ hr')
                · have := hX.step (g' := g) h.hp hmv' rfl (Nat.le_refl _)
                  cases o.dst <;> exact this
                · have := hmv.trans (hmv'.mx _)
                  cases o.dst <;> exact this
              | false =>
              rw [hz, cond_false] at hr
              refine quiet_ok h r hl hp fun m' w' v hs' hmv' hv => ?_
              refine hK _ _ (ih _ _ m' _ w' (hs'.put hv hd hnt) ?_ ?_ (hint_ok hr))
              · have := hX.step (g' := g) h.hp hmv' rfl (Nat.le_refl _)
                cases o.dst <;> exact this
              · have := hmv.trans (hmv'.mx _)
                cases o.dst <;> exact this
            · refine o2 _ _ hr fun m' w' av H' v hq hH' hmv' hv => ?_
              have hs' := h.step hmv' hH'
              refine hK _ _ (ih _ _ m' _ w' (hs'.put hv hd hnt) ?_ ?_ (hint_ok hq))
              · have := hX.step (g' := g) h.hp hmv' rfl (Nat.le_refl _)
                cases o.dst <;> exact this
              · have := hmv.trans (hmv'.mx _)
                cases o.dst <;> exact this
end
end Go.Proofs.YtafchcmemeinlaaDoor
