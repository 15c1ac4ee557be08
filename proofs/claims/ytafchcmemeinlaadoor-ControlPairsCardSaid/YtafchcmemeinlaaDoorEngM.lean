/-
  The engine, part M: frames, calls, and regions in their order.
-/
import Derived.Test.YtafchcmemeinlaaDoorEngL
import Derived.Scope
import Derived.RangeFuncLeaves
import Derived.OrdersIn
import Derived.LoopNIn
import Derived.TacticsIn
set_option linter.unusedSimpArgs false
set_option linter.unusedVariables false
namespace Go.Proofs.YtafchcmemeinlaaDoor
open Go.RowKit

theorem T.get_e (k : Nat) : T.get .e k = .undef := by cases k <;> rfl

theorem T.get_put : ∀ (d : Nat) (t : T) (k : Nat) (v : AV) (j : Nat), k + 1 < 2 ^ d → (T.put d t k v).get j = if j = k then v else t.get j
  | 0, t, k, v, j, h => by simp at h
  | d + 1, .e, 0, v, j, _ => by
    simp only [T.put]
    cases j with
    | zero => simp [T.get]
    | succ j => simp [T.get, T.get_e]
  | d + 1, .e, k + 1, v, j, h => by
    have hk : k / 2 + 1 < 2 ^ d := by rw [Nat.pow_succ] at h; omega
    have ih := fun j => T.get_put d .e (k / 2) v j hk
    simp only [T.put]
    by_cases hp : k % 2 = 0
    · rw [if_pos hp]
      cases j with
      | zero => simp [T.get]
      | succ j =>
        simp only [T.get]
        by_cases hj : j % 2 = 0
        · rw [if_pos hj, ih]
          by_cases e : j = k
          · simp [e]
          · rw [if_neg (by omega), if_neg (by omega), T.get_e]
        · rw [if_neg hj, if_neg (by omega)]; try simp only [T.get_e]
    · rw [if_neg hp]
      cases j with
      | zero => simp [T.get]
      | succ j =>
        simp only [T.get]
        by_cases hj : j % 2 = 0
        · rw [if_pos hj, if_neg (by omega)]; try simp only [T.get_e]
        · rw [if_neg hj, ih]
          by_cases e : j = k
          · simp [e]
          · rw [if_neg (by omega), if_neg (by omega), T.get_e]
  | d + 1, .n l x r, 0, v, j, _ => by
    simp only [T.put]
    cases j with
    | zero => simp [T.get]
    | succ j => simp [T.get]
  | d + 1, .n l x r, k + 1, v, j, h => by
    have hk : k / 2 + 1 < 2 ^ d := by rw [Nat.pow_succ] at h; omega
    have ihl := fun j => T.get_put d l (k / 2) v j hk
    have ihr := fun j => T.get_put d r (k / 2) v j hk
    simp only [T.put]
    by_cases hp : k % 2 = 0
    · rw [if_pos hp]
      cases j with
      | zero => simp [T.get]
      | succ j =>
        simp only [T.get]
        by_cases hj : j % 2 = 0
        · rw [if_pos hj, ihl, if_pos hj]
          by_cases e : j = k
          · simp [e]
          · rw [if_neg (by omega), if_neg (by omega)]
        · rw [if_neg hj, if_neg hj, if_neg (by omega)]
    · rw [if_neg hp]
      cases j with
      | zero => simp [T.get]
      | succ j =>
        simp only [T.get]
        by_cases hj : j % 2 = 0
        · rw [if_pos hj, if_pos hj, if_neg (by omega)]
        · rw [if_neg hj, ihr, if_neg hj]
          by_cases e : j = k
          · simp [e]
          · rw [if_neg (by omega), if_neg (by omega)]

theorem T.get_mk' (l : T) (v : AV) (r : T) (j : Nat) : (T.mk' l v r).get j = (T.n l v r).get j := by
  unfold T.mk'
  split
  · rw [T.get_e]
    cases j with
    | zero => rfl
    | succ j => simp [T.get, T.get_e]
  · rfl

theorem T.get_keep (mask : Nat) : ∀ (t : T) (a b j : Nat), (t.keep mask a b).get j = t.get j ∨ (t.keep mask a b).get j = .undef
  | .e, a, b, j => .inl rfl
  | .n l v r, a, b, j => by
    simp only [T.keep, T.get_mk']
    cases j with
    | zero =>
      simp only [T.get]
      cases mask.testBit b <;> simp
    | succ j =>
      simp only [T.get]
      split
      · exact T.get_keep mask l _ _ _
      · exact T.get_keep mask r _ _ _

theorem T.old_get {b : Nat} : ∀ (t : T) (j : Nat), t.old b = true → YtafchcmemeinlaaDoor.old b (t.get j) = true
  | .e, j, _ => by rw [T.get_e]; rfl
  | .n l v r, j, h => by
    simp only [T.old, Bool.and_eq_true] at h
    cases j with
    | zero => exact h.1.1
    | succ j =>
      simp only [T.get]
      split
      · exact T.old_get l _ h.1.2
      · exact T.old_get r _ h.2

theorem mkArgs_get : ∀ (l : List AV) (i : Nat) (t : T) (j : Nat), i + l.length ≤ 4000 → (mkArgs i l t).get j = if i ≤ j ∧ j < i + l.length then l.getD (j - i) .undef else t.get j
  | [], i, t, j, _ => by
    simp only [mkArgs, List.length_nil, Nat.add_zero]
    rw [if_neg (by omega)]
  | v :: l, i, t, j, h => by
    simp only [mkArgs]
    rw [mkArgs_get l (i + 1) _ j (by simp at h; omega), T.get_put 12 t i v j (by simp at h; omega)]
    simp only [List.length_cons]
    by_cases h1 : i + 1 ≤ j ∧ j < i + 1 + l.length
    · rw [if_pos h1, if_pos (by omega)]
      have : j - i = (j - (i + 1)) + 1 := by omega
      rw [this, List.getD_cons_succ]
    · rw [if_neg h1]
      by_cases h2 : j = i
      · rw [if_pos h2, if_pos (by omega)]
        simp [h2]
      · rw [if_neg h2, if_neg (by omega)]

/-- the fence that lets everything in, for a frame of a function or of a round -/
abbrev Wd (r : Option Nat) : Fence := { Fence.wide with round := r }

/-- what a range over a function leaves among a frame's deferred calls -/
def markOf (D : Nat) : Deferred := { target := .collected D, args := #[] }

/-- a state and what it stands for -/
structure SR (gl : Nat → Option (List AV)) (nt B : Nat) (m : M) (s : S) (a : Act) (w : World) : Prop where
  tm : ∀ k, VR m (s.tm.get k) (a.tmps.getD k undef)
  nt : nt ≤ a.tmps.size
  df : ∃ Ds : List Nat, a.defers = Ds.map markOf ∧ Ds.Nodup ∧ ∀ D ∈ Ds, B ≤ D ∧ w.heap[D]? = some (.deferred (some []))
  hp : HR gl m s.hp w

def ExR (m : M) : Ex → Exit → Prop
  | .nrm, .normal => True
  | .exit i, .exit j => i = j
  | .ret, .ret => True
  | .pan v, .panic ch => ∃ cv, ch = [{ v := cv, recovered := false }] ∧ VR m v cv
  | _, _ => False

def OutR (m : M) : Out → Ending → Prop
  | .ret v, .returned cv => VR m v cv
  | .pan v, .panicked ch => ∃ cv, ch = [{ v := cv, recovered := false }] ∧ VR m v cv
  | _, _ => False

/-- what may be called so -/
def Enters (P : Program) (f : FuncId) : Prop := ∃ fn, P.funcs[f]? = some fn ∧ fn.body.isNone = false ∧ (fn.name == "runtime.NumGoroutine") = false

/-- a contract of code: it leaves the ranges over functions that are under way alone -/
def ValidC (P : Program) (gl : Nat → Option (List AV)) (nt : Nat) (code : Code) (g : S → (Ex → S → Prop) → Prop) : Prop :=
  ∀ B r s Q m a w, SR gl nt B m s a w → B ≤ w.heap.size → g s Q → code.wpIn (Wd r) 0 P (fun e a' w' => ∃ ae s' m', Q ae s' ∧ ExR m' ae e ∧ SR gl nt B m' s' a' w' ∧ Mv m s.hp w m' s'.hp w') a w

/-- a contract of a function -/
def ValidF (P : Program) (gl : Nat → Option (List AV)) (f : FuncId) (g : List AV → List Blk → (Out → List Blk → Prop) → Prop) : Prop :=
  Enters P f ∧ ∀ args H Q, g args H Q → ∀ m w (vs : Array Value), VRL m args vs.toList → HR gl m H w → Calls P f vs w fun e w' => ∃ o H' m', Q o H' ∧ OutR m' o e ∧ HR gl m' H' w' ∧ Mv m H w m' H' w'

/-- code and what it is compiled to -/
inductive Comp (P : Program) (gl : Nat → Option (List AV)) (nt : Nat) : Code → AC → Prop
  | skip : Comp P gl nt .skip .skip
  | label (l : Nat) : Comp P gl nt (.label l) .skip
  | region (id : Nat) (ops : Array Oper) : Comp P gl nt (.region id ops false) (.region (ops.toList.map (cOper P nt ops)))
  | drawn (id : Nat) (ops : Array Oper) (l : List AOper) (h : drawnOf P nt ops = .drawn l) : Comp P gl nt (.region id ops true) (.drawn l)
  | seq {a b : Code} {a' b' : AC} (h1 : Comp P gl nt a a') (h2 : Comp P gl nt b b') : Comp P gl nt (.seq a b) (.seq a' b')
  | cond (c : Operand) {a b : Code} {a' b' : AC} (h1 : Comp P gl nt a a') (h2 : Comp P gl nt b b') : Comp P gl nt (.cond c a b) (.cond (cO c) a' b')
  | block (id : Nat) {b : Code} {b' : AC} (h : Comp P gl nt b b') : Comp P gl nt (.block id b) (.block id b')
  | loop (id lv : Nat) {b : Code} {b' : AC} (h : Comp P gl nt b b') : Comp P gl nt (.loop b) (.loop id lv b')
  | rfn (f : Operand) (ps : Array Tmp) {a b : Code} {a' b' : AC} (h1 : Comp P gl nt a a') (h2 : Comp P gl nt b b') (hps : ∀ p ∈ ps.toList, p < nt) : Comp P gl nt (.rangeFunc f ps a b) (.rfn (cO f) ps.toList a' b')
  | exit (id : Nat) : Comp P gl nt (.exit id) (.exit id)
  | scope {b : Code} {b' : AC} (h : Comp P gl nt b b') : Comp P gl nt (.scope b) b'
  | ret : Comp P gl nt .ret .ret
  | bad (code : Code) (why : String) : Comp P gl nt code (.bad why)
  | sum (code : Code) (g : S → (Ex → S → Prop) → Prop) (h : ValidC P gl nt code g) : Comp P gl nt code (.sum g)

structure EnvOk (P : Program) (E : Env) : Prop where
  mixed : P.follows .mixedOrders = true
  fn : ∀ f g, E.fn f = some g → Enters P f ∧ ∃ fn body, P.funcs[f]? = some fn ∧ fn.body = some body ∧ Comp P E.gl fn.ntmps body g.body ∧ g.res = fn.results.toList.map (cRes P) ∧ (∀ r ∈ fn.results.toList, resOk P r = true) ∧ fn.ntmps ≤ 4000
  sm : ∀ f g, E.sm f = some g → ValidF P E.gl f g

/-! ## ranges over functions that are under way -/

def stOf : Lst → LoopState
  | .ready => .ready
  | .busy => .busy
  | .done _ => .done

def jmpOf : Lst → Option Code
  | .done .ret => some .ret
  | .done (.exit i) => some (.exit i)
  | _ => none

/-- what does not change of a range while it is under way -/
structure Ls where
  l : Nat
  u : Nat
  me : M
  ne : Nat
  tmps : Array Value
  fn : FuncId
  ps : Array Tmp
  asg : Code
  body : Code
  dD : Nat
  nt : Nat

def Ls.row (x : Ls) (st : Lst) : Loop := { state := stOf st, pending := jmpOf st, fn := x.fn, tmps := x.tmps, params := x.ps, assign := x.asg, body := x.body, defers := x.dD }

structure Lp1 (P : Program) (gl : Nat → Option (List AV)) (m : M) (hp : List Blk) (w : World) (x : Ls) (p : Lp) : Prop where
  u : p.u = x.u
  lp : m.lp x.u = some x.l
  row : w.heap[x.l]? = some (.loop (x.row p.st))
  ext : Ext x.me m
  dom : ∀ id I, x.me.blk id = some I → id < x.ne
  le : x.ne ≤ hp.length
  tm : ∀ k, VR x.me (p.tm.get k) (x.tmps.getD k undef)
  nt : x.nt ≤ x.tmps.size ∧ x.nt ≤ 4000
  ps : p.ps = x.ps.toList ∧ ∀ t ∈ p.ps, t < x.nt
  ca : Comp P gl x.nt x.asg p.asg
  cb : Comp P gl x.nt x.body p.body
  ok : ∀ e, p.st = .done e → e = .ret ∨ ∃ i, e = .exit i

def Lps (P : Program) (gl : Nat → Option (List AV)) (m : M) (hp : List Blk) (w : World) : List Ls → List Lp → Prop
  | [], [] => True
  | x :: X, p :: l => Lp1 P gl m hp w x p ∧ Lps P gl m hp w X l
  | _, _ => False

structure LpR (P : Program) (gl : Nat → Option (List AV)) (X : List Ls) (g : Gh) (m : M) (hp : List Blk) (w : World) : Prop where
  all : Lps P gl m hp w X g.lps
  key : ∀ u l, m.lp u = some l → u < g.n
  us : (X.map (·.u)).Nodup
  ls : (X.map (·.l)).Nodup

/-- what a part of a run does, where rounds may run in it: the records of the ranges under way may change -/
structure Mx (X : List Nat) (m : M) (H : List Blk) (w : World) (m' : M) (H' : List Blk) (w' : World) : Prop where
  ext : Ext m m'
  os : w'.os = w.os
  tape : w'.tape = w.tape
  output : w'.output = w.output
  size : w.heap.size ≤ w'.heap.size
  keep : ∀ k, k < w.heap.size → ¬ Owned m H k → k ∉ X → w'.heap[k]? = w.heap[k]?
  own : ∀ k, Owned m' H' k → w.heap.size ≤ k ∨ Owned m H k
  len : H.length ≤ H'.length
  nw : ∀ id, id < H.length → m.blk id = none → m'.blk id = none
  fz : ∀ t k cs, m'.frz t k = some cs → m.frz t k = some cs ∨ w.heap.size ≤ k ∨ Owned m H k

theorem Mv.mx {m m' : M} {H H' : List Blk} {w w' : World} (h : Mv m H w m' H' w') (X : List Nat) : Mx X m H w m' H' w' :=
  ⟨h.ext, h.os, h.tape, h.output, h.size, fun k hk ho _ => h.keep k hk ho, h.own, h.len, h.nw, h.fz⟩

theorem Mx.trans {X : List Nat} {m1 m2 m3 : M} {H1 H2 H3 : List Blk} {w1 w2 w3 : World} (h : Mx X m1 H1 w1 m2 H2 w2) (k : Mx X m2 H2 w2 m3 H3 w3) : Mx X m1 H1 w1 m3 H3 w3 := by
  refine ⟨h.ext.trans k.ext, k.os.trans h.os, k.tape.trans h.tape, k.output.trans h.output, Nat.le_trans h.size k.size, fun b hb ho hx => ?_, fun b hb => ?_, Nat.le_trans h.len k.len, fun id hi hn => k.nw id (Nat.lt_of_lt_of_le hi h.len) (h.nw id hi hn), fun t b cs hc => ?_⟩
  · refine (k.keep b (Nat.lt_of_lt_of_le hb h.size) (fun ho' => ?_) hx).trans (h.keep b hb ho hx)
    rcases h.own b ho' with h1 | h1
    · omega
    · exact ho h1
  · rcases k.own b hb with h1 | h1
    · exact .inl (Nat.le_trans h.size h1)
    · exact h.own b h1
  · rcases k.fz t b cs hc with h1 | h1 | h1
    · exact h.fz t b cs h1
    · exact .inr (.inl (Nat.le_trans h.size h1))
    · rcases h.own b h1 with h2 | h2
      · exact .inr (.inl h2)
      · exact .inr (.inr h2)

def Post (P : Program) (gl : Nat → Option (List AV)) (nt B : Nat) (X : List Ls) (m : M) (H : List Blk) (w : World) (Q : Ex → S → Gh → Prop) (e : Exit) (a' : Act) (w' : World) : Prop :=
  ∃ ae s' g' m', Q ae s' g' ∧ ExR m' ae e ∧ SR gl nt B m' s' a' w' ∧ LpR P gl X g' m' s'.hp w' ∧ Mx (X.map (·.l)) m H w m' s'.hp w'

def CallPost (P : Program) (gl : Nat → Option (List AV)) (X : List Ls) (m : M) (H : List Blk) (w : World) (Q : Out → List Blk → Gh → Prop) (e : Ending) (w' : World) : Prop :=
  ∃ o H' g' m', Q o H' g' ∧ OutR m' o e ∧ HR gl m' H' w' ∧ LpR P gl X g' m' H' w' ∧ Mx (X.map (·.l)) m H w m' H' w'

theorem HR.not_owned {gl : Nat → Option (List AV)} {m : M} {H : List Blk} {w : World} (hH : HR gl m H w) {k : Nat} {o : Obj} (hk : w.heap[k]? = some o) (ho : ∀ cu e fr, o ≠ .cells cu e fr) : ¬ Owned m H k := by
  rintro ⟨id, I, b, h1, h2, _, rfl⟩
  obtain ⟨cu, e, lo, hi, h3, _⟩ := (hH.blk id I b h1 h2).row
  rw [h3] at hk
  cases hk
  exact ho _ _ _ rfl

theorem Lps.step {P : Program} {gl : Nat → Option (List AV)} {m m' : M} {hp hp' : List Blk} {w w' : World} (hH : HR gl m hp w) (hm : Mw m hp w m' hp' w') (hlen : hp.length ≤ hp'.length) : ∀ {X : List Ls} {l : List Lp}, Lps P gl m hp w X l → Lps P gl m' hp' w' X l
  | [], [], _ => trivial
  | [], _ :: _, h => h.elim
  | _ :: _, [], h => h.elim
  | x :: X, p :: l, h => by
    obtain ⟨h1, h2⟩ := h
    refine ⟨⟨h1.u, hm.ext.lp _ _ h1.lp, ?_, h1.ext.trans hm.ext, h1.dom, Nat.le_trans h1.le hlen, h1.tm, h1.nt, h1.ps, h1.ca, h1.cb, h1.ok⟩, Lps.step hH hm hlen h2⟩
    rw [hm.keep _ (Array.getElem?_eq_some_iff.1 h1.row).1 (hH.not_owned h1.row (by intros; simp))]
    exact h1.row

theorem Lps.no_row {P : Program} {gl : Nat → Option (List AV)} {m : M} {hp : List Blk} {w : World} {k : Nat} {o : Obj} (hk : w.heap[k]? = some o) (ho : ∀ r, o ≠ .loop r) : ∀ {X : List Ls} {l : List Lp}, Lps P gl m hp w X l → k ∉ X.map (·.l)
  | [], _, _ => by simp
  | _ :: _, [], h => h.elim
  | x :: X, p :: l, h => by
    obtain ⟨h1, h2⟩ := h
    have ih := Lps.no_row hk ho h2
    simp only [List.map_cons, List.mem_cons, not_or]
    refine ⟨fun e => ?_, ih⟩
    subst e
    rw [h1.row] at hk
    cases hk
    exact ho _ rfl

theorem LpR.no_row {P : Program} {gl : Nat → Option (List AV)} {X : List Ls} {g : Gh} {m : M} {hp : List Blk} {w : World} (h : LpR P gl X g m hp w) {k : Nat} {ds : Option (List Deferred)} (hk : w.heap[k]? = some (.deferred ds)) : k ∉ X.map (·.l) :=
  Lps.no_row hk (by intros; simp) h.all

/-- an operation leaves the ranges alone -/
theorem LpR.step {P : Program} {gl : Nat → Option (List AV)} {X : List Ls} {g g' : Gh} {m m' : M} {hp hp' : List Blk} {w w' : World} (h : LpR P gl X g m hp w) (hH : HR gl m hp w) (hm : Mv m hp w m' hp' w') (hl : g'.lps = g.lps) (hn : g.n ≤ g'.n) : LpR P gl X g' m' hp' w' :=
  ⟨by rw [hl]; exact Lps.step hH hm.toMw hm.len h.all, fun u l hu => Nat.lt_of_lt_of_le (h.key u l (hm.nl u l hu)) hn, h.us, h.ls⟩

theorem LpR.stepw {P : Program} {gl : Nat → Option (List AV)} {X : List Ls} {g g' : Gh} {m m' : M} {hp hp' : List Blk} {w w' : World} (h : LpR P gl X g m hp w) (hH : HR gl m hp w) (hm : Mw m hp w m' hp' w') (hlen : hp.length ≤ hp'.length) (hl : g'.lps = g.lps) (hn : g.n ≤ g'.n) : LpR P gl X g' m' hp' w' :=
  ⟨by rw [hl]; exact Lps.step hH hm hlen h.all, fun u l hu => Nat.lt_of_lt_of_le (h.key u l (hm.nl u l hu)) hn, h.us, h.ls⟩

/-- a frame's marks lie as they were laid -/
def DF (B : Nat) (ds : List Deferred) (w : World) : Prop := ∃ Ds : List Nat, ds = Ds.map markOf ∧ Ds.Nodup ∧ ∀ D ∈ Ds, B ≤ D ∧ w.heap[D]? = some (.deferred (some []))

theorem DF.step {gl : Nat → Option (List AV)} {B : Nat} {ds : List Deferred} {m m' : M} {H H' : List Blk} {w w' : World} (h : DF B ds w) (hH : HR gl m H w) (hm : Mw m H w m' H' w') : DF B ds w' := by
  obtain ⟨Ds, h1, h2, h3⟩ := h
  refine ⟨Ds, h1, h2, fun D hD => ⟨(h3 D hD).1, ?_⟩⟩
  have hr := (h3 D hD).2
  rw [hm.keep D (Array.getElem?_eq_some_iff.1 hr).1 (hH.not_owned hr (by intros; simp))]
  exact hr

theorem DF.stepx {P : Program} {gl : Nat → Option (List AV)} {X : List Ls} {g : Gh} {B : Nat} {ds : List Deferred} {m m' : M} {H H' : List Blk} {w w' : World} (h : DF B ds w) (hH : HR gl m H w) (hX : LpR P gl X g m H w) (hm : Mx (X.map (·.l)) m H w m' H' w') : DF B ds w' := by
  obtain ⟨Ds, h1, h2, h3⟩ := h
  refine ⟨Ds, h1, h2, fun D hD => ⟨(h3 D hD).1, ?_⟩⟩
  have hr := (h3 D hD).2
  rw [hm.keep D (Array.getElem?_eq_some_iff.1 hr).1 (hH.not_owned hr (by intros; simp)) (hX.no_row hr)]
  exact hr

section
variable {P : Program} {gl : Nat → Option (List AV)} {nt B : Nat} {m : M} {s : S} {a : Act} {w : World}

theorem SR.ops (h : SR gl nt B m s a w) (x : Operand) : VR m (s.ev (cO x)) (a.eval x) := by
  cases x with
  | tmp t => exact h.tm t
  | const v => exact ofV_ok m 4 v
  | global g => simp [cO, S.ev, Act.eval, VR]
  | func f => simp [cO, S.ev, Act.eval, VR]

theorem SR.put (h : SR gl nt B m s a w) {av : AV} {v : Value} (hv : VR m av v) {dst : Option Nat} (hd : ∀ d, dst = some d → d < nt) (hnt : nt ≤ 4000) : SR gl nt B m (s.put dst av) (a.put dst v) w := by
  cases dst with
  | none => exact h
  | some d =>
    have hlt := hd d rfl
    have hn := h.nt
    refine ⟨fun k => ?_, by simpa [Act.put] using h.nt, h.df, h.hp⟩
    simp only [S.put, Act.put]
    rw [T.get_put 12 s.tm d av k (by omega)]
    by_cases e : k = d
    · subst e
      rw [if_pos rfl]
      have : (a.tmps.setIfInBounds k v).getD k undef = v := by
        have hk : k < a.tmps.size := by omega
        simp [hk]
      rw [this]
      exact hv
    · rw [if_neg e]
      have : (a.tmps.setIfInBounds d v).getD k undef = a.tmps.getD k undef := by
        simp [Array.getElem?_setIfInBounds_ne (Ne.symm e)]
      rw [this]
      exact h.tm k

theorem SR.step (h : SR gl nt B m s a w) {m' : M} {H' : List Blk} {w' : World} (hm : Mv m s.hp w m' H' w') (hH : HR gl m' H' w') : SR gl nt B m' ⟨s.tm, H'⟩ a w' := by
  refine ⟨fun k => VR.mono hm.ext _ _ (h.tm k), h.nt, ?_, hH⟩
  obtain ⟨Ds, h1, h2, h3⟩ := h.df
  refine ⟨Ds, h1, h2, fun D hD => ⟨(h3 D hD).1, ?_⟩⟩
  have hr := (h3 D hD).2
  rw [hm.keep D (Array.getElem?_eq_some_iff.1 hr).1 (h.hp.not_owned hr (by intros; simp))]
  exact hr

/-- .. and rounds: their records are no blocks of deferred calls -/
theorem SR.stepx (h : SR gl nt B m s a w) {X : List Ls} {g : Gh} (hX : LpR P gl X g m s.hp w) {m' : M} {H' : List Blk} {w' : World} (hm : Mx (X.map (·.l)) m s.hp w m' H' w') (hH : HR gl m' H' w') : SR gl nt B m' ⟨s.tm, H'⟩ a w' := by
  refine ⟨fun k => VR.mono hm.ext _ _ (h.tm k), h.nt, ?_, hH⟩
  obtain ⟨Ds, h1, h2, h3⟩ := h.df
  refine ⟨Ds, h1, h2, fun D hD => ⟨(h3 D hD).1, ?_⟩⟩
  have hr := (h3 D hD).2
  rw [hm.keep D (Array.getElem?_eq_some_iff.1 hr).1 (h.hp.not_owned hr (by intros; simp)) (hX.no_row hr)]
  exact hr

mutual
theorem exP_ok : ∀ (p : Pa) (K : AV → Prop), exP p K → ∃ v, K v
  | .int _, _, h => by simp only [exP] at h; obtain ⟨n, h⟩ := h; exact ⟨_, h⟩
  | .bool, _, h => by simp only [exP] at h; obtain ⟨n, h⟩ := h; exact ⟨_, h⟩
  | .str, _, h => by simp only [exP] at h; obtain ⟨n, h⟩ := h; exact ⟨_, h⟩
  | .agg l, _, h => by simp only [exP] at h; obtain ⟨n, h⟩ := exPL_ok l _ h; exact ⟨_, h⟩
  | .sl _, _, h => by simp only [exP] at h; obtain ⟨_, _, _, _, h⟩ := h; exact ⟨_, h⟩
  | .any, _, h => by simp only [exP] at h; exact h
  | .lit _, _, h => by simp only [exP] at h; exact ⟨_, h⟩
  | .split, _, h => by simp only [exP] at h
theorem exPL_ok : ∀ (l : List Pa) (K : List AV → Prop), exPL l K → ∃ v, K v
  | [], _, h => by simp only [exPL] at h; exact ⟨_, h⟩
  | p :: l, _, h => by
    simp only [exPL] at h
    obtain ⟨_, h⟩ := exP_ok p _ h
    obtain ⟨_, h⟩ := exPL_ok l _ h
    exact ⟨_, h⟩
end

theorem hint_ok {E : Env} {k : Nat} {v : AV} {c : AV → Prop} (h : hint E k v c) : c v := by
  unfold hint at h
  split at h
  · split at h
    · rename_i b
      cases b
      · exact h
      · exact h
    · exact h
  · exact h
  · obtain ⟨u, h1, h2⟩ := exP_ok _ _ h
    rw [h1]; exact h2

/-- what a compiled operation says of the operation -/
theorem cOper_cases (P : Program) (nt : Nat) (ops : Array Oper) (o : Oper) :
    (∃ why, (cOper P nt ops o) = { dst := none, op := .bad why, guard := none }) ∨
    ((∀ d, o.dst = some d → d < nt) ∧ (cOper P nt ops o).dst = o.dst ∧ (cOper P nt ops o).op = cOp P o.op ∧
      ((o.guard = none ∧ (cOper P nt ops o).guard = none) ∨ ∃ j b g, o.guard = some (j, b) ∧ (ops[j]?).bind (·.dst) = some g ∧ g < nt ∧ (cOper P nt ops o).guard = some (g, b))) := by
  unfold cOper
  cases hg : o.guard with
  | none =>
    cases hd : o.dst with
    | none => right; simp
    | some d =>
      simp only
      split
      · rename_i h
        rw [blt_iff] at h
        right
        exact ⟨fun d' hd' => (by cases hd'; exact h), by simp, by simp, .inl (by simp)⟩
      · left; exact ⟨_, rfl⟩
  | some jb =>
    obtain ⟨j, b⟩ := jb
    simp only
    cases hj : (ops[j]?).bind (·.dst) with
    | none => left; exact ⟨_, rfl⟩
    | some g =>
      simp only
      split
      · rename_i h
        rw [blt_iff] at h
        cases hd : o.dst with
        | none => right; exact ⟨by simp, by simp, by simp, .inr ⟨j, b, g, by simp, hj, h, by simp⟩⟩
        | some d =>
          simp only
          split
          · rename_i h2
            rw [blt_iff] at h2
            right
            exact ⟨fun d' hd' => (by cases hd'; exact h2), by simp, by simp, .inr ⟨j, b, g, by simp, hj, h, by simp⟩⟩
          · left; exact ⟨_, rfl⟩
      · left; exact ⟨_, rfl⟩

/-- a guard reads the same in both -/
theorem guard_same (h : SR gl nt B m s a w) {ops : Array Oper} {o : Oper} {ag : Option (Nat × Bool)} (hg : (o.guard = none ∧ ag = none) ∨ ∃ j b g, o.guard = some (j, b) ∧ (ops[j]?).bind (·.dst) = some g ∧ g < nt ∧ ag = some (g, b))
    {r : Bool} (hr : gd s ag = some r) : Region.wanted o (yielded ops a.tmps) = r := by
  rcases hg with ⟨h1, rfl⟩ | ⟨j, b, g, h1, h2, h3, rfl⟩
  · simp only [gd, Option.some.injEq] at hr
    subst hr
    simp [Region.wanted, h1]
  · have hn := h.nt
    have ht := h.tm g
    have hget : a.tmps[g]? = some (a.tmps.getD g undef) := by
      have : g < a.tmps.size := Nat.lt_of_lt_of_le h3 h.nt
      simp [this]
    simp only [gd] at hr
    simp only [Region.wanted, h1, yielded, h2, Option.bind_some, hget]
    split at hr
    · rename_i x hx
      rw [hx] at ht
      simp only [VR] at ht
      rw [ht]
      simp only [Option.some.injEq] at hr
      subst hr
      cases b <;> cases x <;> rfl
    · rename_i hx
      rw [hx] at ht
      simp only [VR] at ht
      obtain ⟨cs, e1, e2⟩ := ht
      rw [e1]
      simp only [Option.some.injEq] at hr
      subst hr
      rfl
    · cases hr
end
end Go.Proofs.YtafchcmemeinlaaDoor
