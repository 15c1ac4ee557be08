/-
  The engine, part U: a program's functions as they are compiled; what a run of the evaluator says of a call.
-/
import Derived.Test.YtafchcmemeinlaaDoorEngT
set_option linter.unusedSimpArgs false
set_option linter.unusedVariables false
namespace Go.Proofs.YtafchcmemeinlaaDoor
open Go.RowKit

section
variable {P : Program} {gl : Nat → Option (List AV)} {nt : Nat}

theorem cC_comp (fid : Nat) : ∀ (code : Code) (i : Nat), Comp P gl nt code (cC P fid nt i code)
  | .skip, _ => .skip
  | .label l, _ => .label l
  | .region id ops draw, _ => by
    cases draw
    · exact .region id ops
    · show Comp P gl nt _ (drawnOf P nt ops)
      have : (∃ l, drawnOf P nt ops = .drawn l) ∨ ∃ why, drawnOf P nt ops = .bad why := by
        unfold drawnOf
        simp only
        generalize (Nat.beq _ _ && _ && _ && _) = b
        cases b
        · exact .inr ⟨_, rfl⟩
        · exact .inl ⟨_, rfl⟩
      rcases this with ⟨l, h⟩ | ⟨why, h⟩
      · rw [h]; exact .drawn id ops l h
      · rw [h]; exact .bad _ why
  | .seq a b, i => .seq (cC_comp fid a i) (cC_comp fid b i)
  | .cond c a b, i => .cond c (cC_comp fid a i) (cC_comp fid b i)
  | .block id b, _ => .block id (cC_comp fid b id)
  | .loop b, i => .loop _ _ (cC_comp fid b i)
  | .exit id, _ => .exit id
  | .scope b, i => .scope (cC_comp fid b i)
  | .goto _, _ => .bad _ _
  | .ret, _ => .ret
  | .rangeFunc g ps a b, i => by
    show Comp P gl nt _ (bif ps.toList.all (fun p => Nat.blt p nt) then .rfn (cO g) ps.toList (cC P fid nt i a) (cC P fid nt i b) else .bad "rangeFunc")
    cases hc : ps.toList.all (fun p => Nat.blt p nt)
    · exact .bad _ _
    · rw [cond_true]
      refine .rfn g ps (cC_comp fid a i) (cC_comp fid b i) fun p hp => ?_
      rw [List.all_eq_true] at hc
      have := hc p hp
      rwa [blt_iff] at this
  | .refuse w, _ => .bad _ w

theorem an_comp {code : Code} {c : AC} (h : Comp P gl nt code c) : ∀ (L : Nat) (xs : List (Nat × Nat)) (R : Nat), Comp P gl nt code (an c L xs R).1 := by
  induction h with
  | skip => intro L xs R; exact .skip
  | label l => intro L xs R; exact .label l
  | region id ops => intro L xs R; exact .region id ops
  | drawn id ops l h => intro L xs R; exact .drawn id ops l h
  | seq h1 h2 ih1 ih2 => intro L xs R; exact .seq (ih1 _ _ _) (ih2 _ _ _)
  | cond c h1 h2 ih1 ih2 => intro L xs R; exact .cond c (ih1 _ _ _) (ih2 _ _ _)
  | block id h ih => intro L xs R; exact .block id (ih _ _ _)
  | loop id lv h ih => intro L xs R; exact .loop id _ (ih _ _ _)
  | exit id => intro L xs R; exact .exit id
  | scope h ih => intro L xs R; exact .scope (ih _ _ _)
  | ret => intro L xs R; exact .ret
  | bad code why => intro L xs R; exact .bad code why
  | sum code g h => intro L xs R; exact .sum code g h
  | rfn f ps h1 h2 hps ih1 ih2 => intro L xs R; exact .rfn f ps (ih1 _ _ _) (ih2 _ _ _) hps

/-- no function of the program is the one that the model treats apart -/
def namesOk (P : Program) : Bool := P.funcs.toList.all fun f => !(f.name == "runtime.NumGoroutine")

theorem fnOf_ok (hN : namesOk P = true) {f : Nat} {g : AFn} (h : fnOf P f = some g) : Enters P f ∧ ∃ fn body, P.funcs[f]? = some fn ∧ fn.body = some body ∧ Comp P gl fn.ntmps body g.body ∧ g.res = fn.results.toList.map (cRes P) ∧ (∀ r ∈ fn.results.toList, resOk P r = true) ∧ fn.ntmps ≤ 4000 := by
  unfold fnOf at h
  split at h
  · rename_i fn hf
    split at h
    · rename_i body hb
      cases hc : (fn.results.toList.all (resOk P) && Nat.ble fn.ntmps 4000)
      · rw [hc] at h; cases h
      · rw [hc] at h
        simp only [cond_true, Option.some.injEq] at h
        subst h
        simp only [Bool.and_eq_true, List.all_eq_true, Nat.ble_eq] at hc
        refine ⟨⟨fn, hf, by rw [hb]; rfl, ?_⟩, fn, body, hf, hb, an_comp (cC_comp f body 0) _ _ _, rfl, hc.1, hc.2⟩
        unfold namesOk at hN
        rw [List.all_eq_true] at hN
        have := hN fn (by simpa using Array.mem_of_getElem? hf)
        simpa using this
    · cases h
  · cases h

/-- an environment for a program: functions as they are compiled, and contracts -/
structure EnvFor (P : Program) (E : Env) : Prop where
  mixed : P.follows .mixedOrders = true
  names : namesOk P = true
  fn : ∀ f g, E.fn f = some g → fnOf P f = some g
  sm : ∀ f g, E.sm f = some g → ValidF P E.gl f g

theorem EnvFor.ok {E : Env} (h : EnvFor P E) : EnvOk P E := ⟨h.mixed, fun f g hf => fnOf_ok h.names (h.fn f g hf), h.sm⟩

/-- a run of the evaluator says what a call does -/
theorem call_ok {E : Env} (hE : EnvFor P E) {n : Nat} {f : FuncId} {args : List AV} {H : List Blk} {Q : Out → List Blk → Gh → Prop} (h : callx E (wpx E n) f args H {} Q) {m : M} {vs : Array Value} {w : World} (hv : VRL m args vs.toList) (hH : HR E.gl m H w) (hl : m.lp = fun _ => none) :
    Calls P f vs w (CallPost P E.gl [] m H w Q) :=
  (callx_ok hE.ok (rec_ok hE.ok n) h hv hH (X := []) ⟨trivial, fun u l hu => (by rw [hl] at hu; cases hu), List.nodup_nil, List.nodup_nil⟩).2

theorem Mx.below {m m' : M} {H H' : List Blk} {w w' : World} (h : Mx [] m H w m' H' w') {B : Nat} (hB : B ≤ w.heap.size) (ho : ∀ k, Owned m H k → B ≤ k) : Below B w w' :=
  ⟨h.os, h.tape, h.output, h.size, fun k hk => h.keep k (by omega) (fun hk' => by have := ho k hk'; omega) (by simp)⟩

def m00 : M := ⟨fun _ => none, fun _ => undef, fun _ => none, fun _ _ => none⟩

/-- package variables whose cells are known -/
def Glob (gl : Nat → Option (List AV)) (w : World) : Prop := ∀ g cs, gl g = some cs → oldL 0 cs = true ∧ ∃ cu e fr, w.heap[g]? = some (.cells cu e fr) ∧ VRL m00 cs cu.toList

theorem HR.glob {gl : Nat → Option (List AV)} {w : World} (h : Glob gl w) : HR gl m00 [] w :=
  ⟨fun id I h => (by cases h), fun id I b h => (by cases h), fun i j I J b h => (by cases h), fun g cs hg => (h g cs hg).2, fun g cs hg => (h g cs hg).1, fun t k cs h => (by cases h), fun t k cs id I b h => (by cases h), fun g cs id I b _ h => (by cases h)⟩

/-- a call whose arguments refer to nothing -/
theorem call_none {E : Env} (hE : EnvFor P E) {n : Nat} {f : FuncId} {args : List AV} {Q : Out → List Blk → Gh → Prop} (h : callx E (wpx E n) f args [] {} Q) {vs : Array Value} (w : World) (hg : Glob E.gl w) (hv : VRL m00 args vs.toList) :
    Calls P f vs w fun e w' => Below w.heap.size w w' ∧ ∃ o H' k' m', Q o H' k' ∧ OutR m' o e := by
  have hc := call_ok hE h hv (HR.glob hg) rfl
  refine hc.mono fun e w' hp => ?_
  obtain ⟨o, H', k', m', q1, q2, q3, _, q4⟩ := hp
  refine ⟨Mx.below (by simpa using q4) (Nat.le_refl _) fun b hb => ?_, o, H', k', m', q1, q2⟩
  obtain ⟨id, I, x, h1, _⟩ := hb
  cases h1

/-- a law that is to say 'true' -/
def isT (o : Out) (_ : List Blk) (_ : Gh) : Prop := match o with
  | .ret (.bool true) => True
  | _ => False

theorem call_true {E : Env} (hE : EnvFor P E) {n : Nat} {f : FuncId} {args : List AV} (h : callx E (wpx E n) f args [] {} isT) {vs : Array Value} (w : World) (hg : Glob E.gl w) (hv : VRL m00 args vs.toList) :
    Calls P f vs w fun e w' => e = .returned (.bool true) ∧ Below w.heap.size w w' := by
  refine (call_none hE h w hg hv).mono fun e w' hp => ?_
  obtain ⟨q1, o, H', k', m', q2, q3⟩ := hp
  refine ⟨?_, q1⟩
  unfold isT at q2
  split at q2
  · cases e <;> simp only [OutR, VR] at q3
    rw [q3]
  · cases q2
end
end Go.Proofs.YtafchcmemeinlaaDoor
