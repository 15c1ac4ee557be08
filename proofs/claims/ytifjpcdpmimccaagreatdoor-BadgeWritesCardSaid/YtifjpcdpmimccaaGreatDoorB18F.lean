/-
  Chapter 18: the program's mix.
-/
import Derived.Test.YtifjpcdpmimccaaGreatDoorB18E
set_option linter.unusedSimpArgs false
set_option linter.unusedVariables false
set_option linter.unusedSectionVars false
namespace Go.Proofs.YtifjpcdpmimccaaGreatDoor
open Go.RowKit
set_option maxRecDepth 1000000

/-- eight words -/
structure W8 where
  a : Nat
  b : Nat
  c : Nat
  d : Nat
  e : Nat
  f : Nat
  g : Nat
  h : Nat
def andW (x y : Nat) : Nat := (x % 4294967296) &&& (y % 4294967296)
def notW (x : Nat) : Nat := 4294967295 ^^^ (x % 4294967296)
def x3W (x y z : Nat) : Nat := xorW (xorW x y) z
def oneW (k w : Nat) (v : W8) : Nat := addW (addW (addW (addW v.h (x3W (rotW 26 v.e) (rotW 21 v.e) (rotW 7 v.e))) (xorW (andW v.e v.f) (andW (notW v.e) v.g))) k) w
def twoW (v : W8) : Nat := addW (x3W (rotW 30 v.a) (rotW 19 v.a) (rotW 10 v.a)) (x3W (andW v.a v.b) (andW v.a v.c) (andW v.b v.c))
def rndW (k w : Nat) (v : W8) : W8 := ⟨addW (oneW k w v) (twoW v), v.a, v.b, v.c, addW v.d (oneW k w v), v.e, v.f, v.g⟩
def rndsM (k w : List Nat) : Nat → W8 → W8
  | 0, v => v
  | t + 1, v => rndW (k.getD t 0) (w.getD t 0) (rndsM k w t v)
def be4W (b : List UInt8) (i : Nat) : Nat := (((b.getD i 0).toNat * 256 + (b.getD (i + 1) 0).toNat) * 256 + (b.getD (i + 2) 0).toNat) * 256 + (b.getD (i + 3) 0).toNat
def nextW (w : List Nat) (t : Nat) : Nat := addW (addW (addW (w.getD (t - 16) 0) (w.getD (t - 7) 0)) (x3W (rotW 25 (w.getD (t - 15) 0)) (rotW 14 (w.getD (t - 15) 0)) (w.getD (t - 15) 0 / 8))) (x3W (rotW 15 (w.getD (t - 2) 0)) (rotW 13 (w.getD (t - 2) 0)) (w.getD (t - 2) 0 / 1024))
def schM (b : List UInt8) : Nat → List Nat
  | 0 => []
  | t + 1 => schM b t ++ [if t < 16 then be4W b (4 * t) else nextW (schM b t) t]
def addsM (v u : W8) : W8 := ⟨addW v.a u.a, addW v.b u.b, addW v.c u.c, addW v.d u.d, addW v.e u.e, addW v.f u.f, addW v.g u.g, addW v.h u.h⟩
def hashM (k : List Nat) (v : W8) (b : List UInt8) : W8 := addsM v (rndsM k (schM b 64) 64 v)
def mixM (k : List Nat) : Nat → W8 → List UInt8 → W8
  | 0, v, _ => v
  | f + 1, v, s => if 64 ≤ s.length then mixM k f (hashM k v (s.take 64)) (s.drop 64) else v
abbrev cel8 (v : W8) : List AV := [.int .u32 (v.a : Int), .int .u32 (v.b : Int), .int .u32 (v.c : Int), .int .u32 (v.d : Int), .int .u32 (v.e : Int), .int .u32 (v.f : Int), .int .u32 (v.g : Int), .int .u32 (v.h : Int)]
def celT (v : W8) (t : List UInt8) (n : Int) : List AV := [.int .u32 (v.a : Int), .int .u32 (v.b : Int), .int .u32 (v.c : Int), .int .u32 (v.d : Int), .int .u32 (v.e : Int), .int .u32 (v.f : Int), .int .u32 (v.g : Int), .int .u32 (v.h : Int), .str t, .int .i64 n]
abbrev okW8 (v : W8) : Prop := v.a < 4294967296 ∧ v.b < 4294967296 ∧ v.c < 4294967296 ∧ v.d < 4294967296 ∧ v.e < 4294967296 ∧ v.f < 4294967296 ∧ v.g < 4294967296 ∧ v.h < 4294967296
def smX : SM := lookS [(160, cRot)]
theorem smX_ok : ∀ f g, smX f = some g → ValidF Tryz.prog gl0 f g := lookS_ok _ (by simp only [List.mem_cons, List.not_mem_nil, or_false, forall_eq]; exact rot_ok)
def unI : AV → Nat
  | .int _ n => n.toNat
  | _ => 0
def wsM (l : List AV) : List Nat := l.map unI
def inv_162 (v0 : W8) (t : List UInt8) (n : Int) (s0 : List UInt8) (ks : List Nat) (s : S) : List (List LInv) := match s.hp with
  | [⟨k0, f0, _⟩, b1, b2, ⟨k3, f3, _⟩] => [[{ α := W8 × List UInt8, pre := fun x => Lf (okW8 x.1 ∧ x.2.length ≤ s0.length ∧ mixM ks (x.2.length / 64) x.1 x.2 = mixM ks (s0.length / 64) v0 s0), st := fun x => ⟨mkT [(0, s.tm.get 0), (1, s.tm.get 1)], [⟨k0, f0, celT x.1 t n⟩, b1, b2, ⟨k3, f3, [.str x.2]⟩]⟩, mu := fun x => x.2.length }]]
  | _ => []
def inv_154a (s : S) : List (List LInv) := match s.hp, s.tm.get 6 with
  | [b0, b1, b2, b3, ⟨k, f, _⟩], .str b => [[{ α := Nat × List Nat, pre := fun x => Lf (x.1 ≤ 64 ∧ x.2.length = 64 ∧ x.2.take x.1 = schM b x.1), st := fun x => ⟨mkT [(3, s.tm.get 3), (5, s.tm.get 5), (6, s.tm.get 6), (7, s.tm.get 7), (22, .int .i64 (x.1 : Nat))], [b0, b1, b2, b3, ⟨k, f, cells32M x.2⟩]⟩, mu := fun x => 64 - x.1 }]]
  | _, _ => []
def inv_154b (ks : List Nat) (s : S) : List (List LInv) := match s.hp with
  | [⟨k0, f0, [.int p0 a, .int p1 b, .int p2 c, .int p3 d, .int p4 e, .int p5 f, .int p6 g, .int p7 h, x8, x9]⟩, b1, b2, b3, ⟨k4, f4, cs⟩, ⟨k5, f5, _⟩] =>
    [[{ α := Nat × W8, pre := fun x => Lf (x.1 ≤ 64 ∧ okW8 x.2 ∧ x.2 = rndsM ks (wsM cs) x.1 ⟨a.toNat, b.toNat, c.toNat, d.toNat, e.toNat, f.toNat, g.toNat, h.toNat⟩), st := fun x => ⟨mkT [(3, s.tm.get 3), (5, s.tm.get 5), (7, s.tm.get 7), (12, s.tm.get 12), (97, .int .i64 (x.1 : Nat))], [⟨k0, f0, [.int p0 a, .int p1 b, .int p2 c, .int p3 d, .int p4 e, .int p5 f, .int p6 g, .int p7 h, x8, x9]⟩, b1, b2, b3, ⟨k4, f4, cs⟩, ⟨k5, f5, cel8 x.2⟩]⟩, mu := fun x => 64 - x.1 }]]
  | _ => []
noncomputable def env_154 (hv : Nat → Option Pa) (hb : Nat → Option Bool) (v0 : W8) (t : List UInt8) (n : Int) (s0 : List UInt8) (ks : List Nat) : Env := e18 smX (fun i => bif Nat.beq i 162000 then some (inv_162 v0 t n s0 ks) else bif Nat.beq i 154002 then some inv_154a else bif Nat.beq i 154004 then some (inv_154b ks) else none) hv hb
noncomputable def goal_154 (hv : Nat → Option Pa) (hb : Nat → Option Bool) (v : W8) (t : List UInt8) (n : Int) (s : List UInt8) (ks : List Nat) (Q : Out → List Blk → Gh → Prop) : Prop :=
  callx (env_154 hv hb v t n s ks) (wpx (env_154 hv hb v t n s ks) 1000) 154 [.ptr 0 10 0, .str s, .agg (cells32M ks)] [⟨.exact, true, celT v t n⟩] {} Q
def vc_154_1 (s : List UInt8) (ks : List Nat) : Prop := (
((((Lp.mk (0 : Nat) (T.n (T.n (T.n T.e (AV.ptr (1 : Nat) (1 : Nat) (0 : Nat)) (T.n (T.n T.e (AV.str s) T.e) AV.undef T.e)) (AV.str s) (T.n T.e (AV.ptr (2 : Nat) (List.length (cells32M ks)) (0 : Nat)) T.e)) (AV.ptr (0 : Nat) (10 : Nat) (0 : Nat)) (T.n (T.n T.e AV.undef (T.n (T.n T.e (AV.fn (Fn.func (162 : Nat)) [] ((AV.ptr (3 : Nat) (1 : Nat) (0 : Nat)) :: [])) T.e) AV.undef T.e)) (AV.agg (cells32M ks)) T.e)) ((21 : Nat) :: []) (rfA fn154.body) (rfB fn154.body) Lst.busy (154 : Nat)) :: []) = ((Lp.mk (0 : Nat) (T.n (T.n (T.n T.e (AV.ptr (1 : Nat) (1 : Nat) (0 : Nat)) (T.n (T.n T.e (AV.str s) T.e) AV.undef T.e)) (AV.str s) (T.n T.e (AV.ptr (2 : Nat) (List.length (cells32M ks)) (0 : Nat)) T.e)) (AV.ptr (0 : Nat) (10 : Nat) (0 : Nat)) (T.n (T.n T.e AV.undef (T.n (T.n T.e (AV.fn (Fn.func (162 : Nat)) [] ((AV.ptr (3 : Nat) (1 : Nat) (0 : Nat)) :: [])) T.e) AV.undef T.e)) (AV.agg (cells32M ks)) T.e)) ((21 : Nat) :: []) (rfA fn154.body) (rfB fn154.body) Lst.busy (154 : Nat)) :: [])) ∧
 ((1 : Nat) = (1 : Nat))))
theorem vc_154 (v : W8) (t : List UInt8) (n : Int) (s : List UInt8) (ks : List Nat) (Q : Out → List Blk → Gh → Prop) : goal_154 (lookV [(663556, .int .i64), (663562, .str), (630808, .int .i64), (630813, .int .i64), (630815, .int .i64), (630816, .int .i64), (630817, .str), (630820, .int .u8), (630821, .int .u32), (630822, .int .u32), (630824, .int .u8), (630825, .int .u32), (630826, .int .u32), (630827, .int .u32), (630829, .int .u8), (630830, .int .u32), (630831, .int .u32), (630832, .int .u32), (630834, .int .u8), (630835, .int .u32), (630836, .int .u32), (630875, .int .i64), (630839, .int .i64), (630841, .int .u32), (630843, .int .i64), (630845, .int .u32), (630848, .int .i64), (630850, .int .u32), (630852, .int .i64), (630854, .int .u32), (630855, .int .u32), (630862, .int .u32), (630871, .int .u32), (630857, .int .u32), (630859, .int .u32), (630860, .int .u32), (630863, .int .u32), (630864, .int .u32), (630866, .int .u32), (630868, .int .u32), (630869, .int .u32), (630872, .int .u32), (630873, .int .u32), (630880, .agg [(.int .u32), (.int .u32), (.int .u32), (.int .u32), (.int .u32), (.int .u32), (.int .u32), (.int .u32)]), (630883, .int .i64), (630885, .int .u32), (630887, .int .u32), (630889, .int .u32), (630901, .int .u32), (630902, .int .u32), (630904, .int .u32), (630906, .int .u32), (630907, .int .u32), (630908, .int .u32), (630912, .int .u32), (630916, .int .u32), (630891, .int .u32), (630893, .int .u32), (630894, .int .u32), (630896, .int .u32), (630897, .int .u32), (630898, .int .u32), (630909, .int .u32), (630913, .int .u32), (630917, .int .u32), (630928, .int .u32), (630929, .int .u32), (630932, .int .u32), (630933, .int .u32), (630934, .int .u32), (630936, .int .u32), (630938, .int .u32), (630939, .int .u32), (630940, .int .u32), (630919, .int .u32), (630921, .int .u32), (630922, .int .u32), (630924, .int .u32), (630925, .int .u32), (630941, .int .u32), (630944, .int .u32), (630946, .int .u32), (630948, .int .u32), (630950, .int .u32), (630952, .int .u32), (630954, .int .u32), (630956, .int .u32), (630958, .int .u32), (630960, .int .u32), (630962, .int .i64), (630972, .int .u32), (630975, .int .u32), (630976, .int .u32), (663559, .str)]) (lookB [(1630792192, true), (1630800384, true), (1630808576, true), (1663552000, true), (667646, true)]) v t n s ks Q = (
((∃ x_0 : (Prod W8 (List UInt8)), ((Lf ((okW8 (Prod.fst x_0)) ∧
 (((List.length (Prod.snd x_0)) ≤ (List.length s)) ∧
 ((mixM ks ((List.length (Prod.snd x_0)) / (64 : Nat)) (Prod.fst x_0) (Prod.snd x_0)) = (mixM ks ((List.length s) / (64 : Nat)) v s))))) ∧
 ((((AV.int .u32 (Nat.cast (v).1 : Int)) :: ((AV.int .u32 (Nat.cast (v).2 : Int)) :: ((AV.int .u32 (Nat.cast (v).3 : Int)) :: ((AV.int .u32 (Nat.cast (v).4 : Int)) :: ((AV.int .u32 (Nat.cast (v).5 : Int)) :: ((AV.int .u32 (Nat.cast (v).6 : Int)) :: ((AV.int .u32 (Nat.cast (v).7 : Int)) :: ((AV.int .u32 (Nat.cast (v).8 : Int)) :: ((AV.str t) :: ((AV.int .i64 n) :: [])))))))))) = ((AV.int .u32 (Nat.cast ((Prod.fst x_0)).1 : Int)) :: ((AV.int .u32 (Nat.cast ((Prod.fst x_0)).2 : Int)) :: ((AV.int .u32 (Nat.cast ((Prod.fst x_0)).3 : Int)) :: ((AV.int .u32 (Nat.cast ((Prod.fst x_0)).4 : Int)) :: ((AV.int .u32 (Nat.cast ((Prod.fst x_0)).5 : Int)) :: ((AV.int .u32 (Nat.cast ((Prod.fst x_0)).6 : Int)) :: ((AV.int .u32 (Nat.cast ((Prod.fst x_0)).7 : Int)) :: ((AV.int .u32 (Nat.cast ((Prod.fst x_0)).8 : Int)) :: ((AV.str t) :: ((AV.int .i64 n) :: []))))))))))) ∧
 ((((AV.ptr (0 : Nat) (10 : Nat) (0 : Nat)) :: []) = ((AV.ptr (0 : Nat) (10 : Nat) (0 : Nat)) :: [])) ∧
 (bif ((oldL (0 : Nat) (cells32M ks)) == (oldL (0 : Nat) (cells32M ks))) then (((cells32M ks) = (cells32M ks)) ∧
 ((((AV.str s) :: []) = ((AV.str (Prod.snd x_0)) :: [])) ∧
 (((AV.yld (0 : Nat)) = (AV.yld (0 : Nat))) ∧
 (((AV.ptr (3 : Nat) (1 : Nat) (0 : Nat)) = (AV.ptr (3 : Nat) (1 : Nat) (0 : Nat))) ∧
 True))))
else False))))) ∧
 (∀ x_0 : (Prod W8 (List UInt8)), ((Lf ((okW8 (Prod.fst x_0)) ∧
 (((List.length (Prod.snd x_0)) ≤ (List.length s)) ∧
 ((mixM ks ((List.length (Prod.snd x_0)) / (64 : Nat)) (Prod.fst x_0) (Prod.snd x_0)) = (mixM ks ((List.length s) / (64 : Nat)) v s))))) →
(∃ n_1 : Int, (((AV.int .i64 (Nat.cast (List.length (Prod.snd x_0)) : Int)) = (AV.int .i64 n_1)) ∧
 (bif (decide (n_1 ≥ (64 : Int))) then (bif (Nat.ble (64 : Nat) (List.length (Prod.snd x_0))) then (∃ s_2 : (List UInt8), (((AV.str (List.take (64 : Nat) (List.drop (0 : Nat) (Prod.snd x_0)))) = (AV.str s_2)) ∧
 ((∃ x_3 : (Prod Nat (List Nat)), ((Lf (((Prod.fst x_3) ≤ (64 : Nat)) ∧
 (((List.length (Prod.snd x_3)) = (64 : Nat)) ∧
 ((List.take (Prod.fst x_3) (Prod.snd x_3)) = (schM s_2 (Prod.fst x_3)))))) ∧
 ((((AV.int .u32 (Nat.cast ((Prod.fst x_0)).1 : Int)) :: ((AV.int .u32 (Nat.cast ((Prod.fst x_0)).2 : Int)) :: ((AV.int .u32 (Nat.cast ((Prod.fst x_0)).3 : Int)) :: ((AV.int .u32 (Nat.cast ((Prod.fst x_0)).4 : Int)) :: ((AV.int .u32 (Nat.cast ((Prod.fst x_0)).5 : Int)) :: ((AV.int .u32 (Nat.cast ((Prod.fst x_0)).6 : Int)) :: ((AV.int .u32 (Nat.cast ((Prod.fst x_0)).7 : Int)) :: ((AV.int .u32 (Nat.cast ((Prod.fst x_0)).8 : Int)) :: ((AV.str t) :: ((AV.int .i64 n) :: [])))))))))) = ((AV.int .u32 (Nat.cast ((Prod.fst x_0)).1 : Int)) :: ((AV.int .u32 (Nat.cast ((Prod.fst x_0)).2 : Int)) :: ((AV.int .u32 (Nat.cast ((Prod.fst x_0)).3 : Int)) :: ((AV.int .u32 (Nat.cast ((Prod.fst x_0)).4 : Int)) :: ((AV.int .u32 (Nat.cast ((Prod.fst x_0)).5 : Int)) :: ((AV.int .u32 (Nat.cast ((Prod.fst x_0)).6 : Int)) :: ((AV.int .u32 (Nat.cast ((Prod.fst x_0)).7 : Int)) :: ((AV.int .u32 (Nat.cast ((Prod.fst x_0)).8 : Int)) :: ((AV.str t) :: ((AV.int .i64 n) :: []))))))))))) ∧
 ((((AV.ptr (0 : Nat) (10 : Nat) (0 : Nat)) :: []) = ((AV.ptr (0 : Nat) (10 : Nat) (0 : Nat)) :: [])) ∧
 (bif ((oldL (0 : Nat) (cells32M ks)) == (oldL (0 : Nat) (cells32M ks))) then (((cells32M ks) = (cells32M ks)) ∧
 ((((AV.str (Prod.snd x_0)) :: []) = ((AV.str (Prod.snd x_0)) :: [])) ∧
 ((((AV.int .u32 (0 : Int)) :: ((AV.int .u32 (0 : Int)) :: ((AV.int .u32 (0 : Int)) :: ((AV.int .u32 (0 : Int)) :: ((AV.int .u32 (0 : Int)) :: ((AV.int .u32 (0 : Int)) :: ((AV.int .u32 (0 : Int)) :: ((AV.int .u32 (0 : Int)) :: ((AV.int .u32 (0 : Int)) :: ((AV.int .u32 (0 : Int)) :: ((AV.int .u32 (0 : Int)) :: ((AV.int .u32 (0 : Int)) :: ((AV.int .u32 (0 : Int)) :: ((AV.int .u32 (0 : Int)) :: ((AV.int .u32 (0 : Int)) :: ((AV.int .u32 (0 : Int)) :: ((AV.int .u32 (0 : Int)) :: ((AV.int .u32 (0 : Int)) :: ((AV.int .u32 (0 : Int)) :: ((AV.int .u32 (0 : Int)) :: ((AV.int .u32 (0 : Int)) :: ((AV.int .u32 (0 : Int)) :: ((AV.int .u32 (0 : Int)) :: ((AV.int .u32 (0 : Int)) :: ((AV.int .u32 (0 : Int)) :: ((AV.int .u32 (0 : Int)) :: ((AV.int .u32 (0 : Int)) :: ((AV.int .u32 (0 : Int)) :: ((AV.int .u32 (0 : Int)) :: ((AV.int .u32 (0 : Int)) :: ((AV.int .u32 (0 : Int)) :: ((AV.int .u32 (0 : Int)) :: ((AV.int .u32 (0 : Int)) :: ((AV.int .u32 (0 : Int)) :: ((AV.int .u32 (0 : Int)) :: ((AV.int .u32 (0 : Int)) :: ((AV.int .u32 (0 : Int)) :: ((AV.int .u32 (0 : Int)) :: ((AV.int .u32 (0 : Int)) :: ((AV.int .u32 (0 : Int)) :: ((AV.int .u32 (0 : Int)) :: ((AV.int .u32 (0 : Int)) :: ((AV.int .u32 (0 : Int)) :: ((AV.int .u32 (0 : Int)) :: ((AV.int .u32 (0 : Int)) :: ((AV.int .u32 (0 : Int)) :: ((AV.int .u32 (0 : Int)) :: ((AV.int .u32 (0 : Int)) :: ((AV.int .u32 (0 : Int)) :: ((AV.int .u32 (0 : Int)) :: ((AV.int .u32 (0 : Int)) :: ((AV.int .u32 (0 : Int)) :: ((AV.int .u32 (0 : Int)) :: ((AV.int .u32 (0 : Int)) :: ((AV.int .u32 (0 : Int)) :: ((AV.int .u32 (0 : Int)) :: ((AV.int .u32 (0 : Int)) :: ((AV.int .u32 (0 : Int)) :: ((AV.int .u32 (0 : Int)) :: ((AV.int .u32 (0 : Int)) :: ((AV.int .u32 (0 : Int)) :: ((AV.int .u32 (0 : Int)) :: ((AV.int .u32 (0 : Int)) :: ((AV.int .u32 (0 : Int)) :: [])))))))))))))))))))))))))))))))))))))))))))))))))))))))))))))))) = (cells32M (Prod.snd x_3))) ∧
 (((AV.ptr (1 : Nat) (1 : Nat) (0 : Nat)) = (AV.ptr (1 : Nat) (1 : Nat) (0 : Nat))) ∧
 (((AV.ptr (4 : Nat) (64 : Nat) (0 : Nat)) = (AV.ptr (4 : Nat) (64 : Nat) (0 : Nat))) ∧
 (((AV.ptr (2 : Nat) (List.length (cells32M ks)) (0 : Nat)) = (AV.ptr (2 : Nat) (List.length (cells32M ks)) (0 : Nat))) ∧
 (((AV.str s_2) = (AV.str s_2)) ∧
 (((AV.int .i64 (0 : Int)) = (AV.int .i64 (Nat.cast (Prod.fst x_3) : Int))) ∧
 True))))))))
else False))))) ∧
 (∀ x_3 : (Prod Nat (List Nat)), ((Lf (((Prod.fst x_3) ≤ (64 : Nat)) ∧
 (((List.length (Prod.snd x_3)) = (64 : Nat)) ∧
 ((List.take (Prod.fst x_3) (Prod.snd x_3)) = (schM s_2 (Prod.fst x_3)))))) →
(bif (decide ((Nat.cast (Prod.fst x_3) : Int) < (64 : Int))) then (∃ n_4 : Int, (((AV.int .i64 (Nat.cast (Prod.fst x_3) : Int)) = (AV.int .i64 n_4)) ∧
 (bif (decide (n_4 < (16 : Int))) then (∃ n_5 : Int, (((AV.int .i64 (IntKind.wrap .i64 ((4 : Int) * n_4))) = (AV.int .i64 n_5)) ∧
 (∃ n_6 : Int, (((AV.int .i64 (IntKind.wrap .i64 ((4 : Int) * n_4))) = (AV.int .i64 n_6)) ∧
 (∃ n_7 : Int, (((AV.int .i64 (IntKind.wrap .i64 (n_6 + (4 : Int)))) = (AV.int .i64 n_7)) ∧
 (bif ((((decide ((0 : Int) ≤ n_5)) && (decide ((0 : Int) ≤ n_7))) && (Nat.ble (Int.toNat n_5) (Int.toNat n_7))) && (Nat.ble (Int.toNat n_7) (List.length s_2))) then (∃ s_8 : (List UInt8), (((AV.str (List.take ((Int.toNat n_7) - (Int.toNat n_5)) (List.drop (Int.toNat n_5) s_2))) = (AV.str s_8)) ∧
 (bif (Nat.blt (0 : Nat) (List.length s_8)) then (∃ n_9 : Int, (((AV.int .u8 (Nat.cast (UInt8.toNat (List.getD s_8 (0 : Nat) (UInt8.ofNat (0 : Nat)))) : Int)) = (AV.int .u8 n_9)) ∧
 (∃ n_10 : Int, (((AV.int .u32 (IntKind.wrap .u32 n_9)) = (AV.int .u32 n_10)) ∧
 (∃ n_11 : Int, (((AV.int .u32 (IntKind.wrap .u32 (n_10 * (16777216 : Int)))) = (AV.int .u32 n_11)) ∧
 (bif (Nat.blt (1 : Nat) (List.length s_8)) then (∃ n_12 : Int, (((AV.int .u8 (Nat.cast (UInt8.toNat (List.getD s_8 (1 : Nat) (UInt8.ofNat (0 : Nat)))) : Int)) = (AV.int .u8 n_12)) ∧
 (∃ n_13 : Int, (((AV.int .u32 (IntKind.wrap .u32 n_12)) = (AV.int .u32 n_13)) ∧
 (∃ n_14 : Int, (((AV.int .u32 (IntKind.wrap .u32 (n_13 * (65536 : Int)))) = (AV.int .u32 n_14)) ∧
 (∃ n_15 : Int, (((AV.int .u32 (IntKind.wrap .u32 (Nat.cast ((Int.toNat (n_11 % (4294967296 : Int))) ||| (Int.toNat (n_14 % (4294967296 : Int)))) : Int))) = (AV.int .u32 n_15)) ∧
 (bif (Nat.blt (2 : Nat) (List.length s_8)) then (∃ n_16 : Int, (((AV.int .u8 (Nat.cast (UInt8.toNat (List.getD s_8 (2 : Nat) (UInt8.ofNat (0 : Nat)))) : Int)) = (AV.int .u8 n_16)) ∧
 (∃ n_17 : Int, (((AV.int .u32 (IntKind.wrap .u32 n_16)) = (AV.int .u32 n_17)) ∧
 (∃ n_18 : Int, (((AV.int .u32 (IntKind.wrap .u32 (n_17 * (256 : Int)))) = (AV.int .u32 n_18)) ∧
 (∃ n_19 : Int, (((AV.int .u32 (IntKind.wrap .u32 (Nat.cast ((Int.toNat (n_15 % (4294967296 : Int))) ||| (Int.toNat (n_18 % (4294967296 : Int)))) : Int))) = (AV.int .u32 n_19)) ∧
 (bif (Nat.blt (3 : Nat) (List.length s_8)) then (∃ n_20 : Int, (((AV.int .u8 (Nat.cast (UInt8.toNat (List.getD s_8 (3 : Nat) (UInt8.ofNat (0 : Nat)))) : Int)) = (AV.int .u8 n_20)) ∧
 (∃ n_21 : Int, (((AV.int .u32 (IntKind.wrap .u32 n_20)) = (AV.int .u32 n_21)) ∧
 (∃ n_22 : Int, (((AV.int .u32 (IntKind.wrap .u32 (Nat.cast ((Int.toNat (n_19 % (4294967296 : Int))) ||| (Int.toNat (n_21 % (4294967296 : Int)))) : Int))) = (AV.int .u32 n_22)) ∧
 (bif (((decide ((0 : Int) ≤ n_4)) && (Nat.blt (Int.toNat n_4) (64 : Nat))) && (Nat.beq (List.length (cells32M (Prod.snd x_3))) (64 : Nat))) then (bif (((((Nat.beq (List.length (cells32M (Prod.snd x_3))) (64 : Nat)) && (Nat.ble (((0 : Nat) + ((Int.toNat n_4) * (1 : Nat))) + (1 : Nat)) (64 : Nat))) && true) && true) && true) then (∃ n_23 : Int, (((AV.int .i64 (IntKind.wrap .i64 ((Nat.cast (Prod.fst x_3) : Int) + (1 : Int)))) = (AV.int .i64 n_23)) ∧
 (((((oldL (0 : Nat) (cells32M ks)) || (oldL (5 : Nat) (cells32M ks))) && true) = true) ∧
 ((vc_154_1 s ks) ∧
 (∃ y_24 : (Prod Nat (List Nat)), ((Lf (((Prod.fst y_24) ≤ (64 : Nat)) ∧
 (((List.length (Prod.snd y_24)) = (64 : Nat)) ∧
 ((List.take (Prod.fst y_24) (Prod.snd y_24)) = (schM s_2 (Prod.fst y_24)))))) ∧
 ((((64 : Nat) - (Prod.fst y_24)) < ((64 : Nat) - (Prod.fst x_3))) ∧
 ((((AV.int .u32 (Nat.cast ((Prod.fst x_0)).1 : Int)) :: ((AV.int .u32 (Nat.cast ((Prod.fst x_0)).2 : Int)) :: ((AV.int .u32 (Nat.cast ((Prod.fst x_0)).3 : Int)) :: ((AV.int .u32 (Nat.cast ((Prod.fst x_0)).4 : Int)) :: ((AV.int .u32 (Nat.cast ((Prod.fst x_0)).5 : Int)) :: ((AV.int .u32 (Nat.cast ((Prod.fst x_0)).6 : Int)) :: ((AV.int .u32 (Nat.cast ((Prod.fst x_0)).7 : Int)) :: ((AV.int .u32 (Nat.cast ((Prod.fst x_0)).8 : Int)) :: ((AV.str t) :: ((AV.int .i64 n) :: [])))))))))) = ((AV.int .u32 (Nat.cast ((Prod.fst x_0)).1 : Int)) :: ((AV.int .u32 (Nat.cast ((Prod.fst x_0)).2 : Int)) :: ((AV.int .u32 (Nat.cast ((Prod.fst x_0)).3 : Int)) :: ((AV.int .u32 (Nat.cast ((Prod.fst x_0)).4 : Int)) :: ((AV.int .u32 (Nat.cast ((Prod.fst x_0)).5 : Int)) :: ((AV.int .u32 (Nat.cast ((Prod.fst x_0)).6 : Int)) :: ((AV.int .u32 (Nat.cast ((Prod.fst x_0)).7 : Int)) :: ((AV.int .u32 (Nat.cast ((Prod.fst x_0)).8 : Int)) :: ((AV.str t) :: ((AV.int .i64 n) :: []))))))))))) ∧
 ((((AV.ptr (0 : Nat) (10 : Nat) (0 : Nat)) :: []) = ((AV.ptr (0 : Nat) (10 : Nat) (0 : Nat)) :: [])) ∧
 (bif ((oldL (0 : Nat) (cells32M ks)) == (oldL (0 : Nat) (cells32M ks))) then (((cells32M ks) = (cells32M ks)) ∧
 ((((AV.str (Prod.snd x_0)) :: []) = ((AV.str (Prod.snd x_0)) :: [])) ∧
 (((setRange (cells32M (Prod.snd x_3)) ((0 : Nat) + ((Int.toNat n_4) * (1 : Nat))) ((AV.int .u32 n_22) :: [])) = (cells32M (Prod.snd y_24))) ∧
 (((AV.ptr (1 : Nat) (1 : Nat) (0 : Nat)) = (AV.ptr (1 : Nat) (1 : Nat) (0 : Nat))) ∧
 (((AV.ptr (4 : Nat) (64 : Nat) (0 : Nat)) = (AV.ptr (4 : Nat) (64 : Nat) (0 : Nat))) ∧
 (((AV.ptr (2 : Nat) (List.length (cells32M ks)) (0 : Nat)) = (AV.ptr (2 : Nat) (List.length (cells32M ks)) (0 : Nat))) ∧
 (((AV.str s_2) = (AV.str s_2)) ∧
 (((AV.int .i64 n_23) = (AV.int .i64 (Nat.cast (Prod.fst y_24) : Int))) ∧
 True))))))))
else False))))))))))
else False)
else False)))))))
else False)))))))))
else False)))))))))
else False)))))))
else False)))
else False)))))))
else (∃ n_5 : Int, (((AV.int .i64 (IntKind.wrap .i64 (n_4 - (15 : Int)))) = (AV.int .i64 n_5)) ∧
 (bif (((decide ((0 : Int) ≤ n_5)) && (Nat.blt (Int.toNat n_5) (64 : Nat))) && (Nat.beq (List.length (cells32M (Prod.snd x_3))) (64 : Nat))) then (bif ((Nat.beq (List.length (cells32M (Prod.snd x_3))) (64 : Nat)) && (Nat.blt ((0 : Nat) + ((Int.toNat n_5) * (1 : Nat))) (64 : Nat))) then (∃ n_6 : Int, (((List.getD (List.take (1 : Nat) (List.drop ((0 : Nat) + ((Int.toNat n_5) * (1 : Nat))) (cells32M (Prod.snd x_3)))) (0 : Nat) AV.undef) = (AV.int .u32 n_6)) ∧
 (∃ n_7 : Int, (((AV.int .i64 (IntKind.wrap .i64 (n_4 - (2 : Int)))) = (AV.int .i64 n_7)) ∧
 (bif (((decide ((0 : Int) ≤ n_7)) && (Nat.blt (Int.toNat n_7) (64 : Nat))) && (Nat.beq (List.length (cells32M (Prod.snd x_3))) (64 : Nat))) then (bif ((Nat.beq (List.length (cells32M (Prod.snd x_3))) (64 : Nat)) && (Nat.blt ((0 : Nat) + ((Int.toNat n_7) * (1 : Nat))) (64 : Nat))) then (∃ n_8 : Int, (((List.getD (List.take (1 : Nat) (List.drop ((0 : Nat) + ((Int.toNat n_7) * (1 : Nat))) (cells32M (Prod.snd x_3)))) (0 : Nat) AV.undef) = (AV.int .u32 n_8)) ∧
 (∃ n_9 : Int, (((AV.int .i64 (IntKind.wrap .i64 (n_4 - (16 : Int)))) = (AV.int .i64 n_9)) ∧
 (bif (((decide ((0 : Int) ≤ n_9)) && (Nat.blt (Int.toNat n_9) (64 : Nat))) && (Nat.beq (List.length (cells32M (Prod.snd x_3))) (64 : Nat))) then (bif ((Nat.beq (List.length (cells32M (Prod.snd x_3))) (64 : Nat)) && (Nat.blt ((0 : Nat) + ((Int.toNat n_9) * (1 : Nat))) (64 : Nat))) then (∃ n_10 : Int, (((List.getD (List.take (1 : Nat) (List.drop ((0 : Nat) + ((Int.toNat n_9) * (1 : Nat))) (cells32M (Prod.snd x_3)))) (0 : Nat) AV.undef) = (AV.int .u32 n_10)) ∧
 (∃ n_11 : Int, (((AV.int .i64 (IntKind.wrap .i64 (n_4 - (7 : Int)))) = (AV.int .i64 n_11)) ∧
 (bif (((decide ((0 : Int) ≤ n_11)) && (Nat.blt (Int.toNat n_11) (64 : Nat))) && (Nat.beq (List.length (cells32M (Prod.snd x_3))) (64 : Nat))) then (bif ((Nat.beq (List.length (cells32M (Prod.snd x_3))) (64 : Nat)) && (Nat.blt ((0 : Nat) + ((Int.toNat n_11) * (1 : Nat))) (64 : Nat))) then (∃ n_12 : Int, (((List.getD (List.take (1 : Nat) (List.drop ((0 : Nat) + ((Int.toNat n_11) * (1 : Nat))) (cells32M (Prod.snd x_3)))) (0 : Nat) AV.undef) = (AV.int .u32 n_12)) ∧
 (∃ n_13 : Int, (((AV.int .u32 (IntKind.wrap .u32 (n_10 + n_12))) = (AV.int .u32 n_13)) ∧
 (∃ n_14 : Int, (((AV.int .u32 (Int.fdiv n_6 (8 : Int))) = (AV.int .u32 n_14)) ∧
 (∃ n_15 : Int, (((AV.int .u32 (Int.fdiv n_8 (1024 : Int))) = (AV.int .u32 n_15)) ∧
 (∃ n_16 : Nat, ((Lf ((n_6 = (Nat.cast n_16 : Int)) ∧
 ((n_16 < (4294967296 : Nat)) ∧
 (rotOk (Int.negSucc (6 : Nat)))))) ∧
 (∀ r_17 : Nat, ((Lf (r_17 = (rotW (Int.toNat ((32 : Int) + (Int.negSucc (6 : Nat)))) n_16))) →
(bif ((eqAVL (List.take (1 : Nat) (List.drop ((0 : Nat) + ((Int.toNat n_11) * (1 : Nat))) (cells32M (Prod.snd x_3)))) (List.take (1 : Nat) (List.drop ((0 : Nat) + ((Int.toNat n_11) * (1 : Nat))) (cells32M (Prod.snd x_3))))) && ((Option.some (List.length (cells32M (Prod.snd x_3)))) == (Option.some (List.length (cells32M (Prod.snd x_3)))))) then (bif ((Option.some (List.length (cells32M (Prod.snd x_3)))) == (Option.some (List.length (cells32M (Prod.snd x_3))))) then (bif ((eqAVL (List.take (1 : Nat) (List.drop ((0 : Nat) + ((Int.toNat n_9) * (1 : Nat))) (cells32M (Prod.snd x_3)))) (List.take (1 : Nat) (List.drop ((0 : Nat) + ((Int.toNat n_9) * (1 : Nat))) (cells32M (Prod.snd x_3))))) && ((Option.some (List.length (cells32M (Prod.snd x_3)))) == (Option.some (List.length (cells32M (Prod.snd x_3)))))) then (bif ((Option.some (List.length (cells32M (Prod.snd x_3)))) == (Option.some (List.length (cells32M (Prod.snd x_3))))) then (∃ n_18 : Int, (((AV.int .u32 (Nat.cast r_17 : Int)) = (AV.int .u32 n_18)) ∧
 (∃ n_19 : Nat, ((Lf ((n_6 = (Nat.cast n_19 : Int)) ∧
 ((n_19 < (4294967296 : Nat)) ∧
 (rotOk (Int.negSucc (17 : Nat)))))) ∧
 (∀ r_20 : Nat, ((Lf (r_20 = (rotW (Int.toNat ((32 : Int) + (Int.negSucc (17 : Nat)))) n_19))) →
(bif ((eqAVL (List.take (1 : Nat) (List.drop ((0 : Nat) + ((Int.toNat n_11) * (1 : Nat))) (cells32M (Prod.snd x_3)))) (List.take (1 : Nat) (List.drop ((0 : Nat) + ((Int.toNat n_11) * (1 : Nat))) (cells32M (Prod.snd x_3))))) && ((Option.some (List.length (cells32M (Prod.snd x_3)))) == (Option.some (List.length (cells32M (Prod.snd x_3)))))) then (bif ((Option.some (List.length (cells32M (Prod.snd x_3)))) == (Option.some (List.length (cells32M (Prod.snd x_3))))) then (bif ((eqAVL (List.take (1 : Nat) (List.drop ((0 : Nat) + ((Int.toNat n_9) * (1 : Nat))) (cells32M (Prod.snd x_3)))) (List.take (1 : Nat) (List.drop ((0 : Nat) + ((Int.toNat n_9) * (1 : Nat))) (cells32M (Prod.snd x_3))))) && ((Option.some (List.length (cells32M (Prod.snd x_3)))) == (Option.some (List.length (cells32M (Prod.snd x_3)))))) then (bif ((Option.some (List.length (cells32M (Prod.snd x_3)))) == (Option.some (List.length (cells32M (Prod.snd x_3))))) then (∃ n_21 : Int, (((AV.int .u32 (Nat.cast r_20 : Int)) = (AV.int .u32 n_21)) ∧
 (∃ n_22 : Int, (((AV.int .u32 (IntKind.wrap .u32 (Nat.cast ((Int.toNat (n_18 % (4294967296 : Int))) ^^^ (Int.toNat (n_21 % (4294967296 : Int)))) : Int))) = (AV.int .u32 n_22)) ∧
 (∃ n_23 : Int, (((AV.int .u32 (IntKind.wrap .u32 (Nat.cast ((Int.toNat (n_22 % (4294967296 : Int))) ^^^ (Int.toNat (n_14 % (4294967296 : Int)))) : Int))) = (AV.int .u32 n_23)) ∧
 (∃ n_24 : Int, (((AV.int .u32 (IntKind.wrap .u32 (n_13 + n_23))) = (AV.int .u32 n_24)) ∧
 (∃ n_25 : Nat, ((Lf ((n_8 = (Nat.cast n_25 : Int)) ∧
 ((n_25 < (4294967296 : Nat)) ∧
 (rotOk (Int.negSucc (16 : Nat)))))) ∧
 (∀ r_26 : Nat, ((Lf (r_26 = (rotW (Int.toNat ((32 : Int) + (Int.negSucc (16 : Nat)))) n_25))) →
(bif ((eqAVL (List.take (1 : Nat) (List.drop ((0 : Nat) + ((Int.toNat n_11) * (1 : Nat))) (cells32M (Prod.snd x_3)))) (List.take (1 : Nat) (List.drop ((0 : Nat) + ((Int.toNat n_11) * (1 : Nat))) (cells32M (Prod.snd x_3))))) && ((Option.some (List.length (cells32M (Prod.snd x_3)))) == (Option.some (List.length (cells32M (Prod.snd x_3)))))) then (bif ((Option.some (List.length (cells32M (Prod.snd x_3)))) == (Option.some (List.length (cells32M (Prod.snd x_3))))) then (bif ((eqAVL (List.take (1 : Nat) (List.drop ((0 : Nat) + ((Int.toNat n_9) * (1 : Nat))) (cells32M (Prod.snd x_3)))) (List.take (1 : Nat) (List.drop ((0 : Nat) + ((Int.toNat n_9) * (1 : Nat))) (cells32M (Prod.snd x_3))))) && ((Option.some (List.length (cells32M (Prod.snd x_3)))) == (Option.some (List.length (cells32M (Prod.snd x_3)))))) then (bif ((Option.some (List.length (cells32M (Prod.snd x_3)))) == (Option.some (List.length (cells32M (Prod.snd x_3))))) then (∃ n_27 : Int, (((AV.int .u32 (Nat.cast r_26 : Int)) = (AV.int .u32 n_27)) ∧
 (∃ n_28 : Nat, ((Lf ((n_8 = (Nat.cast n_28 : Int)) ∧
 ((n_28 < (4294967296 : Nat)) ∧
 (rotOk (Int.negSucc (18 : Nat)))))) ∧
 (∀ r_29 : Nat, ((Lf (r_29 = (rotW (Int.toNat ((32 : Int) + (Int.negSucc (18 : Nat)))) n_28))) →
(bif ((eqAVL (List.take (1 : Nat) (List.drop ((0 : Nat) + ((Int.toNat n_11) * (1 : Nat))) (cells32M (Prod.snd x_3)))) (List.take (1 : Nat) (List.drop ((0 : Nat) + ((Int.toNat n_11) * (1 : Nat))) (cells32M (Prod.snd x_3))))) && ((Option.some (List.length (cells32M (Prod.snd x_3)))) == (Option.some (List.length (cells32M (Prod.snd x_3)))))) then (bif ((Option.some (List.length (cells32M (Prod.snd x_3)))) == (Option.some (List.length (cells32M (Prod.snd x_3))))) then (bif ((eqAVL (List.take (1 : Nat) (List.drop ((0 : Nat) + ((Int.toNat n_9) * (1 : Nat))) (cells32M (Prod.snd x_3)))) (List.take (1 : Nat) (List.drop ((0 : Nat) + ((Int.toNat n_9) * (1 : Nat))) (cells32M (Prod.snd x_3))))) && ((Option.some (List.length (cells32M (Prod.snd x_3)))) == (Option.some (List.length (cells32M (Prod.snd x_3)))))) then (bif ((Option.some (List.length (cells32M (Prod.snd x_3)))) == (Option.some (List.length (cells32M (Prod.snd x_3))))) then (∃ n_30 : Int, (((AV.int .u32 (Nat.cast r_29 : Int)) = (AV.int .u32 n_30)) ∧
 (∃ n_31 : Int, (((AV.int .u32 (IntKind.wrap .u32 (Nat.cast ((Int.toNat (n_27 % (4294967296 : Int))) ^^^ (Int.toNat (n_30 % (4294967296 : Int)))) : Int))) = (AV.int .u32 n_31)) ∧
 (∃ n_32 : Int, (((AV.int .u32 (IntKind.wrap .u32 (Nat.cast ((Int.toNat (n_31 % (4294967296 : Int))) ^^^ (Int.toNat (n_15 % (4294967296 : Int)))) : Int))) = (AV.int .u32 n_32)) ∧
 (∃ n_33 : Int, (((AV.int .u32 (IntKind.wrap .u32 (n_24 + n_32))) = (AV.int .u32 n_33)) ∧
 (bif (((decide ((0 : Int) ≤ n_4)) && (Nat.blt (Int.toNat n_4) (64 : Nat))) && (Nat.beq (List.length (cells32M (Prod.snd x_3))) (64 : Nat))) then (bif (((((Nat.beq (List.length (cells32M (Prod.snd x_3))) (64 : Nat)) && (Nat.ble (((0 : Nat) + ((Int.toNat n_4) * (1 : Nat))) + (1 : Nat)) (64 : Nat))) && true) && true) && true) then (∃ n_34 : Int, (((AV.int .i64 (IntKind.wrap .i64 ((Nat.cast (Prod.fst x_3) : Int) + (1 : Int)))) = (AV.int .i64 n_34)) ∧
 (((((oldL (0 : Nat) (cells32M ks)) || (oldL (5 : Nat) (cells32M ks))) && true) = true) ∧
 ((vc_154_1 s ks) ∧
 (∃ y_35 : (Prod Nat (List Nat)), ((Lf (((Prod.fst y_35) ≤ (64 : Nat)) ∧
 (((List.length (Prod.snd y_35)) = (64 : Nat)) ∧
 ((List.take (Prod.fst y_35) (Prod.snd y_35)) = (schM s_2 (Prod.fst y_35)))))) ∧
 ((((64 : Nat) - (Prod.fst y_35)) < ((64 : Nat) - (Prod.fst x_3))) ∧
 ((((AV.int .u32 (Nat.cast ((Prod.fst x_0)).1 : Int)) :: ((AV.int .u32 (Nat.cast ((Prod.fst x_0)).2 : Int)) :: ((AV.int .u32 (Nat.cast ((Prod.fst x_0)).3 : Int)) :: ((AV.int .u32 (Nat.cast ((Prod.fst x_0)).4 : Int)) :: ((AV.int .u32 (Nat.cast ((Prod.fst x_0)).5 : Int)) :: ((AV.int .u32 (Nat.cast ((Prod.fst x_0)).6 : Int)) :: ((AV.int .u32 (Nat.cast ((Prod.fst x_0)).7 : Int)) :: ((AV.int .u32 (Nat.cast ((Prod.fst x_0)).8 : Int)) :: ((AV.str t) :: ((AV.int .i64 n) :: [])))))))))) = ((AV.int .u32 (Nat.cast ((Prod.fst x_0)).1 : Int)) :: ((AV.int .u32 (Nat.cast ((Prod.fst x_0)).2 : Int)) :: ((AV.int .u32 (Nat.cast ((Prod.fst x_0)).3 : Int)) :: ((AV.int .u32 (Nat.cast ((Prod.fst x_0)).4 : Int)) :: ((AV.int .u32 (Nat.cast ((Prod.fst x_0)).5 : Int)) :: ((AV.int .u32 (Nat.cast ((Prod.fst x_0)).6 : Int)) :: ((AV.int .u32 (Nat.cast ((Prod.fst x_0)).7 : Int)) :: ((AV.int .u32 (Nat.cast ((Prod.fst x_0)).8 : Int)) :: ((AV.str t) :: ((AV.int .i64 n) :: []))))))))))) ∧
 ((((AV.ptr (0 : Nat) (10 : Nat) (0 : Nat)) :: []) = ((AV.ptr (0 : Nat) (10 : Nat) (0 : Nat)) :: [])) ∧
 (bif ((oldL (0 : Nat) (cells32M ks)) == (oldL (0 : Nat) (cells32M ks))) then (((cells32M ks) = (cells32M ks)) ∧
 ((((AV.str (Prod.snd x_0)) :: []) = ((AV.str (Prod.snd x_0)) :: [])) ∧
 (((setRange (cells32M (Prod.snd x_3)) ((0 : Nat) + ((Int.toNat n_4) * (1 : Nat))) ((AV.int .u32 n_33) :: [])) = (cells32M (Prod.snd y_35))) ∧
 (((AV.ptr (1 : Nat) (1 : Nat) (0 : Nat)) = (AV.ptr (1 : Nat) (1 : Nat) (0 : Nat))) ∧
 (((AV.ptr (4 : Nat) (64 : Nat) (0 : Nat)) = (AV.ptr (4 : Nat) (64 : Nat) (0 : Nat))) ∧
 (((AV.ptr (2 : Nat) (List.length (cells32M ks)) (0 : Nat)) = (AV.ptr (2 : Nat) (List.length (cells32M ks)) (0 : Nat))) ∧
 (((AV.str s_2) = (AV.str s_2)) ∧
 (((AV.int .i64 n_34) = (AV.int .i64 (Nat.cast (Prod.fst y_35) : Int))) ∧
 True))))))))
else False))))))))))
else False)
else False)))))))))
else False)
else False)
else False)
else False)))))))
else False)
else False)
else False)
else False)))))))))))))
else False)
else False)
else False)
else False)))))))
else False)
else False)
else False)
else False)))))))))))))
else False)
else False)))))
else False)
else False)))))
else False)
else False)))))
else False)
else False))))))
else (∃ n_4 : Int, (∃ n_5 : Int, (∃ n_6 : Int, (∃ n_7 : Int, (∃ n_8 : Int, (∃ n_9 : Int, (∃ n_10 : Int, (∃ n_11 : Int, (((AV.agg ((AV.int .u32 (Nat.cast ((Prod.fst x_0)).1 : Int)) :: ((AV.int .u32 (Nat.cast ((Prod.fst x_0)).2 : Int)) :: ((AV.int .u32 (Nat.cast ((Prod.fst x_0)).3 : Int)) :: ((AV.int .u32 (Nat.cast ((Prod.fst x_0)).4 : Int)) :: ((AV.int .u32 (Nat.cast ((Prod.fst x_0)).5 : Int)) :: ((AV.int .u32 (Nat.cast ((Prod.fst x_0)).6 : Int)) :: ((AV.int .u32 (Nat.cast ((Prod.fst x_0)).7 : Int)) :: ((AV.int .u32 (Nat.cast ((Prod.fst x_0)).8 : Int)) :: []))))))))) = (AV.agg ((AV.int .u32 n_4) :: ((AV.int .u32 n_5) :: ((AV.int .u32 n_6) :: ((AV.int .u32 n_7) :: ((AV.int .u32 n_8) :: ((AV.int .u32 n_9) :: ((AV.int .u32 n_10) :: ((AV.int .u32 n_11) :: [])))))))))) ∧
 ((∃ x_12 : (Prod Nat W8), ((Lf (((Prod.fst x_12) ≤ (64 : Nat)) ∧
 ((okW8 (Prod.snd x_12)) ∧
 ((Prod.snd x_12) = (rndsM ks (wsM (cells32M (Prod.snd x_3))) (Prod.fst x_12) (W8.mk (Int.toNat (Nat.cast ((Prod.fst x_0)).1 : Int)) (Int.toNat (Nat.cast ((Prod.fst x_0)).2 : Int)) (Int.toNat (Nat.cast ((Prod.fst x_0)).3 : Int)) (Int.toNat (Nat.cast ((Prod.fst x_0)).4 : Int)) (Int.toNat (Nat.cast ((Prod.fst x_0)).5 : Int)) (Int.toNat (Nat.cast ((Prod.fst x_0)).6 : Int)) (Int.toNat (Nat.cast ((Prod.fst x_0)).7 : Int)) (Int.toNat (Nat.cast ((Prod.fst x_0)).8 : Int)))))))) ∧
 ((((AV.int .u32 (Nat.cast ((Prod.fst x_0)).1 : Int)) :: ((AV.int .u32 (Nat.cast ((Prod.fst x_0)).2 : Int)) :: ((AV.int .u32 (Nat.cast ((Prod.fst x_0)).3 : Int)) :: ((AV.int .u32 (Nat.cast ((Prod.fst x_0)).4 : Int)) :: ((AV.int .u32 (Nat.cast ((Prod.fst x_0)).5 : Int)) :: ((AV.int .u32 (Nat.cast ((Prod.fst x_0)).6 : Int)) :: ((AV.int .u32 (Nat.cast ((Prod.fst x_0)).7 : Int)) :: ((AV.int .u32 (Nat.cast ((Prod.fst x_0)).8 : Int)) :: ((AV.str t) :: ((AV.int .i64 n) :: [])))))))))) = ((AV.int .u32 (Nat.cast ((Prod.fst x_0)).1 : Int)) :: ((AV.int .u32 (Nat.cast ((Prod.fst x_0)).2 : Int)) :: ((AV.int .u32 (Nat.cast ((Prod.fst x_0)).3 : Int)) :: ((AV.int .u32 (Nat.cast ((Prod.fst x_0)).4 : Int)) :: ((AV.int .u32 (Nat.cast ((Prod.fst x_0)).5 : Int)) :: ((AV.int .u32 (Nat.cast ((Prod.fst x_0)).6 : Int)) :: ((AV.int .u32 (Nat.cast ((Prod.fst x_0)).7 : Int)) :: ((AV.int .u32 (Nat.cast ((Prod.fst x_0)).8 : Int)) :: ((AV.str t) :: ((AV.int .i64 n) :: []))))))))))) ∧
 ((((AV.ptr (0 : Nat) (10 : Nat) (0 : Nat)) :: []) = ((AV.ptr (0 : Nat) (10 : Nat) (0 : Nat)) :: [])) ∧
 (bif ((oldL (0 : Nat) (cells32M ks)) == (oldL (0 : Nat) (cells32M ks))) then (((cells32M ks) = (cells32M ks)) ∧
 ((((AV.str (Prod.snd x_0)) :: []) = ((AV.str (Prod.snd x_0)) :: [])) ∧
 (((cells32M (Prod.snd x_3)) = (cells32M (Prod.snd x_3))) ∧
 ((((AV.int .u32 n_4) :: ((AV.int .u32 n_5) :: ((AV.int .u32 n_6) :: ((AV.int .u32 n_7) :: ((AV.int .u32 n_8) :: ((AV.int .u32 n_9) :: ((AV.int .u32 n_10) :: ((AV.int .u32 n_11) :: [])))))))) = ((AV.int .u32 (Nat.cast ((Prod.snd x_12)).1 : Int)) :: ((AV.int .u32 (Nat.cast ((Prod.snd x_12)).2 : Int)) :: ((AV.int .u32 (Nat.cast ((Prod.snd x_12)).3 : Int)) :: ((AV.int .u32 (Nat.cast ((Prod.snd x_12)).4 : Int)) :: ((AV.int .u32 (Nat.cast ((Prod.snd x_12)).5 : Int)) :: ((AV.int .u32 (Nat.cast ((Prod.snd x_12)).6 : Int)) :: ((AV.int .u32 (Nat.cast ((Prod.snd x_12)).7 : Int)) :: ((AV.int .u32 (Nat.cast ((Prod.snd x_12)).8 : Int)) :: []))))))))) ∧
 (((AV.ptr (1 : Nat) (1 : Nat) (0 : Nat)) = (AV.ptr (1 : Nat) (1 : Nat) (0 : Nat))) ∧
 (((AV.ptr (4 : Nat) (64 : Nat) (0 : Nat)) = (AV.ptr (4 : Nat) (64 : Nat) (0 : Nat))) ∧
 (((AV.ptr (2 : Nat) (List.length (cells32M ks)) (0 : Nat)) = (AV.ptr (2 : Nat) (List.length (cells32M ks)) (0 : Nat))) ∧
 (((AV.int .i64 (0 : Int)) = (AV.int .i64 (Nat.cast (Prod.fst x_12) : Int))) ∧
 (((AV.ptr (5 : Nat) (8 : Nat) (0 : Nat)) = (AV.ptr (5 : Nat) (8 : Nat) (0 : Nat))) ∧
 True)))))))))
else False))))) ∧
 (∀ x_12 : (Prod Nat W8), ((Lf (((Prod.fst x_12) ≤ (64 : Nat)) ∧
 ((okW8 (Prod.snd x_12)) ∧
 ((Prod.snd x_12) = (rndsM ks (wsM (cells32M (Prod.snd x_3))) (Prod.fst x_12) (W8.mk (Int.toNat (Nat.cast ((Prod.fst x_0)).1 : Int)) (Int.toNat (Nat.cast ((Prod.fst x_0)).2 : Int)) (Int.toNat (Nat.cast ((Prod.fst x_0)).3 : Int)) (Int.toNat (Nat.cast ((Prod.fst x_0)).4 : Int)) (Int.toNat (Nat.cast ((Prod.fst x_0)).5 : Int)) (Int.toNat (Nat.cast ((Prod.fst x_0)).6 : Int)) (Int.toNat (Nat.cast ((Prod.fst x_0)).7 : Int)) (Int.toNat (Nat.cast ((Prod.fst x_0)).8 : Int)))))))) →
(bif (decide ((Nat.cast (Prod.fst x_12) : Int) < (64 : Int))) then (∃ n_13 : Int, (((AV.int .i64 (Nat.cast (Prod.fst x_12) : Int)) = (AV.int .i64 n_13)) ∧
 (∃ n_14 : Int, (((AV.int .u32 (Nat.cast ((Prod.snd x_12)).1 : Int)) = (AV.int .u32 n_14)) ∧
 (∃ n_15 : Int, (((AV.int .u32 (Nat.cast ((Prod.snd x_12)).5 : Int)) = (AV.int .u32 n_15)) ∧
 (∃ n_16 : Int, (((AV.int .u32 (Nat.cast ((Prod.snd x_12)).8 : Int)) = (AV.int .u32 n_16)) ∧
 (∃ n_17 : Int, (((AV.int .u32 (Nat.cast ((Prod.snd x_12)).6 : Int)) = (AV.int .u32 n_17)) ∧
 (∃ n_18 : Int, (((AV.int .u32 (IntKind.wrap .u32 (Nat.cast ((Int.toNat (n_15 % (4294967296 : Int))) &&& (Int.toNat (n_17 % (4294967296 : Int)))) : Int))) = (AV.int .u32 n_18)) ∧
 (∃ n_19 : Int, (((AV.int .u32 (IntKind.wrap .u32 (Nat.cast ((4294967295 : Nat) ^^^ (Int.toNat (n_15 % (4294967296 : Int)))) : Int))) = (AV.int .u32 n_19)) ∧
 (∃ n_20 : Int, (((AV.int .u32 (Nat.cast ((Prod.snd x_12)).7 : Int)) = (AV.int .u32 n_20)) ∧
 (∃ n_21 : Int, (((AV.int .u32 (IntKind.wrap .u32 (Nat.cast ((Int.toNat (n_19 % (4294967296 : Int))) &&& (Int.toNat (n_20 % (4294967296 : Int)))) : Int))) = (AV.int .u32 n_21)) ∧
 (∃ n_22 : Int, (((AV.int .u32 (IntKind.wrap .u32 (Nat.cast ((Int.toNat (n_18 % (4294967296 : Int))) ^^^ (Int.toNat (n_21 % (4294967296 : Int)))) : Int))) = (AV.int .u32 n_22)) ∧
 (bif (((decide ((0 : Int) ≤ n_13)) && (Nat.blt (Int.toNat n_13) (64 : Nat))) && (Nat.beq (List.length (cells32M ks)) (List.length (cells32M ks)))) then (bif ((Nat.beq (List.length (cells32M ks)) (List.length (cells32M ks))) && (Nat.blt ((0 : Nat) + ((Int.toNat n_13) * (1 : Nat))) (List.length (cells32M ks)))) then (∃ n_23 : Int, (((List.getD (List.take (1 : Nat) (List.drop ((0 : Nat) + ((Int.toNat n_13) * (1 : Nat))) (cells32M ks))) (0 : Nat) AV.undef) = (AV.int .u32 n_23)) ∧
 (bif (((decide ((0 : Int) ≤ n_13)) && (Nat.blt (Int.toNat n_13) (64 : Nat))) && (Nat.beq (List.length (cells32M (Prod.snd x_3))) (64 : Nat))) then (bif ((Nat.beq (List.length (cells32M (Prod.snd x_3))) (64 : Nat)) && (Nat.blt ((0 : Nat) + ((Int.toNat n_13) * (1 : Nat))) (64 : Nat))) then (∃ n_24 : Int, (((List.getD (List.take (1 : Nat) (List.drop ((0 : Nat) + ((Int.toNat n_13) * (1 : Nat))) (cells32M (Prod.snd x_3)))) (0 : Nat) AV.undef) = (AV.int .u32 n_24)) ∧
 (∃ n_25 : Nat, ((Lf ((n_15 = (Nat.cast n_25 : Int)) ∧
 ((n_25 < (4294967296 : Nat)) ∧
 (rotOk (Int.negSucc (5 : Nat)))))) ∧
 (∀ r_26 : Nat, ((Lf (r_26 = (rotW (Int.toNat ((32 : Int) + (Int.negSucc (5 : Nat)))) n_25))) →
(bif ((eqAVL (List.take (1 : Nat) (List.drop ((0 : Nat) + ((Int.toNat n_13) * (1 : Nat))) (cells32M (Prod.snd x_3)))) (List.take (1 : Nat) (List.drop ((0 : Nat) + ((Int.toNat n_13) * (1 : Nat))) (cells32M (Prod.snd x_3))))) && ((Option.some (List.length (cells32M (Prod.snd x_3)))) == (Option.some (List.length (cells32M (Prod.snd x_3)))))) then (bif ((Option.some (List.length (cells32M (Prod.snd x_3)))) == (Option.some (List.length (cells32M (Prod.snd x_3))))) then (bif ((eqAVL (List.take (1 : Nat) (List.drop ((0 : Nat) + ((Int.toNat n_13) * (1 : Nat))) (cells32M ks))) (List.take (1 : Nat) (List.drop ((0 : Nat) + ((Int.toNat n_13) * (1 : Nat))) (cells32M ks)))) && ((Option.some (List.length (cells32M ks))) == (Option.some (List.length (cells32M ks))))) then (bif ((Option.some (List.length (cells32M ks))) == (Option.some (List.length (cells32M ks)))) then (bif ((eqAVL ((AV.int .u32 (Nat.cast ((Prod.snd x_12)).7 : Int)) :: []) ((AV.int .u32 (Nat.cast ((Prod.snd x_12)).7 : Int)) :: [])) && true) then (bif ((eqAVL ((AV.int .u32 (Nat.cast ((Prod.snd x_12)).6 : Int)) :: []) ((AV.int .u32 (Nat.cast ((Prod.snd x_12)).6 : Int)) :: [])) && true) then (bif ((eqAVL ((AV.int .u32 (Nat.cast ((Prod.snd x_12)).8 : Int)) :: []) ((AV.int .u32 (Nat.cast ((Prod.snd x_12)).8 : Int)) :: [])) && true) then (∃ n_27 : Int, (((AV.int .u32 (Nat.cast r_26 : Int)) = (AV.int .u32 n_27)) ∧
 (∃ n_28 : Nat, ((Lf ((n_15 = (Nat.cast n_28 : Int)) ∧
 ((n_28 < (4294967296 : Nat)) ∧
 (rotOk (Int.negSucc (10 : Nat)))))) ∧
 (∀ r_29 : Nat, ((Lf (r_29 = (rotW (Int.toNat ((32 : Int) + (Int.negSucc (10 : Nat)))) n_28))) →
(bif ((eqAVL (List.take (1 : Nat) (List.drop ((0 : Nat) + ((Int.toNat n_13) * (1 : Nat))) (cells32M (Prod.snd x_3)))) (List.take (1 : Nat) (List.drop ((0 : Nat) + ((Int.toNat n_13) * (1 : Nat))) (cells32M (Prod.snd x_3))))) && ((Option.some (List.length (cells32M (Prod.snd x_3)))) == (Option.some (List.length (cells32M (Prod.snd x_3)))))) then (bif ((Option.some (List.length (cells32M (Prod.snd x_3)))) == (Option.some (List.length (cells32M (Prod.snd x_3))))) then (bif ((eqAVL (List.take (1 : Nat) (List.drop ((0 : Nat) + ((Int.toNat n_13) * (1 : Nat))) (cells32M ks))) (List.take (1 : Nat) (List.drop ((0 : Nat) + ((Int.toNat n_13) * (1 : Nat))) (cells32M ks)))) && ((Option.some (List.length (cells32M ks))) == (Option.some (List.length (cells32M ks))))) then (bif ((Option.some (List.length (cells32M ks))) == (Option.some (List.length (cells32M ks)))) then (bif ((eqAVL ((AV.int .u32 (Nat.cast ((Prod.snd x_12)).7 : Int)) :: []) ((AV.int .u32 (Nat.cast ((Prod.snd x_12)).7 : Int)) :: [])) && true) then (bif ((eqAVL ((AV.int .u32 (Nat.cast ((Prod.snd x_12)).6 : Int)) :: []) ((AV.int .u32 (Nat.cast ((Prod.snd x_12)).6 : Int)) :: [])) && true) then (bif ((eqAVL ((AV.int .u32 (Nat.cast ((Prod.snd x_12)).8 : Int)) :: []) ((AV.int .u32 (Nat.cast ((Prod.snd x_12)).8 : Int)) :: [])) && true) then (∃ n_30 : Int, (((AV.int .u32 (Nat.cast r_29 : Int)) = (AV.int .u32 n_30)) ∧
 (∃ n_31 : Int, (((AV.int .u32 (IntKind.wrap .u32 (Nat.cast ((Int.toNat (n_27 % (4294967296 : Int))) ^^^ (Int.toNat (n_30 % (4294967296 : Int)))) : Int))) = (AV.int .u32 n_31)) ∧
 (∃ n_32 : Nat, ((Lf ((n_15 = (Nat.cast n_32 : Int)) ∧
 ((n_32 < (4294967296 : Nat)) ∧
 (rotOk (Int.negSucc (24 : Nat)))))) ∧
 (∀ r_33 : Nat, ((Lf (r_33 = (rotW (Int.toNat ((32 : Int) + (Int.negSucc (24 : Nat)))) n_32))) →
(bif ((eqAVL (List.take (1 : Nat) (List.drop ((0 : Nat) + ((Int.toNat n_13) * (1 : Nat))) (cells32M (Prod.snd x_3)))) (List.take (1 : Nat) (List.drop ((0 : Nat) + ((Int.toNat n_13) * (1 : Nat))) (cells32M (Prod.snd x_3))))) && ((Option.some (List.length (cells32M (Prod.snd x_3)))) == (Option.some (List.length (cells32M (Prod.snd x_3)))))) then (bif ((Option.some (List.length (cells32M (Prod.snd x_3)))) == (Option.some (List.length (cells32M (Prod.snd x_3))))) then (bif ((eqAVL (List.take (1 : Nat) (List.drop ((0 : Nat) + ((Int.toNat n_13) * (1 : Nat))) (cells32M ks))) (List.take (1 : Nat) (List.drop ((0 : Nat) + ((Int.toNat n_13) * (1 : Nat))) (cells32M ks)))) && ((Option.some (List.length (cells32M ks))) == (Option.some (List.length (cells32M ks))))) then (bif ((Option.some (List.length (cells32M ks))) == (Option.some (List.length (cells32M ks)))) then (bif ((eqAVL ((AV.int .u32 (Nat.cast ((Prod.snd x_12)).7 : Int)) :: []) ((AV.int .u32 (Nat.cast ((Prod.snd x_12)).7 : Int)) :: [])) && true) then (bif ((eqAVL ((AV.int .u32 (Nat.cast ((Prod.snd x_12)).6 : Int)) :: []) ((AV.int .u32 (Nat.cast ((Prod.snd x_12)).6 : Int)) :: [])) && true) then (bif ((eqAVL ((AV.int .u32 (Nat.cast ((Prod.snd x_12)).8 : Int)) :: []) ((AV.int .u32 (Nat.cast ((Prod.snd x_12)).8 : Int)) :: [])) && true) then (∃ n_34 : Int, (((AV.int .u32 (Nat.cast r_33 : Int)) = (AV.int .u32 n_34)) ∧
 (∃ n_35 : Int, (((AV.int .u32 (IntKind.wrap .u32 (Nat.cast ((Int.toNat (n_31 % (4294967296 : Int))) ^^^ (Int.toNat (n_34 % (4294967296 : Int)))) : Int))) = (AV.int .u32 n_35)) ∧
 (∃ n_36 : Int, (((AV.int .u32 (IntKind.wrap .u32 (n_16 + n_35))) = (AV.int .u32 n_36)) ∧
 (∃ n_37 : Int, (((AV.int .u32 (IntKind.wrap .u32 (n_36 + n_22))) = (AV.int .u32 n_37)) ∧
 (∃ n_38 : Int, (((AV.int .u32 (IntKind.wrap .u32 (n_37 + n_23))) = (AV.int .u32 n_38)) ∧
 (∃ n_39 : Int, (((AV.int .u32 (IntKind.wrap .u32 (n_38 + n_24))) = (AV.int .u32 n_39)) ∧
 (∃ n_40 : Int, (((AV.int .u32 (Nat.cast ((Prod.snd x_12)).2 : Int)) = (AV.int .u32 n_40)) ∧
 (∃ n_41 : Int, (((AV.int .u32 (IntKind.wrap .u32 (Nat.cast ((Int.toNat (n_14 % (4294967296 : Int))) &&& (Int.toNat (n_40 % (4294967296 : Int)))) : Int))) = (AV.int .u32 n_41)) ∧
 (∃ n_42 : Int, (((AV.int .u32 (Nat.cast ((Prod.snd x_12)).3 : Int)) = (AV.int .u32 n_42)) ∧
 (∃ n_43 : Int, (((AV.int .u32 (IntKind.wrap .u32 (Nat.cast ((Int.toNat (n_14 % (4294967296 : Int))) &&& (Int.toNat (n_42 % (4294967296 : Int)))) : Int))) = (AV.int .u32 n_43)) ∧
 (∃ n_44 : Int, (((AV.int .u32 (IntKind.wrap .u32 (Nat.cast ((Int.toNat (n_41 % (4294967296 : Int))) ^^^ (Int.toNat (n_43 % (4294967296 : Int)))) : Int))) = (AV.int .u32 n_44)) ∧
 (∃ n_45 : Int, (((AV.int .u32 (Nat.cast ((Prod.snd x_12)).2 : Int)) = (AV.int .u32 n_45)) ∧
 (∃ n_46 : Int, (((AV.int .u32 (Nat.cast ((Prod.snd x_12)).3 : Int)) = (AV.int .u32 n_46)) ∧
 (∃ n_47 : Int, (((AV.int .u32 (IntKind.wrap .u32 (Nat.cast ((Int.toNat (n_45 % (4294967296 : Int))) &&& (Int.toNat (n_46 % (4294967296 : Int)))) : Int))) = (AV.int .u32 n_47)) ∧
 (∃ n_48 : Int, (((AV.int .u32 (IntKind.wrap .u32 (Nat.cast ((Int.toNat (n_44 % (4294967296 : Int))) ^^^ (Int.toNat (n_47 % (4294967296 : Int)))) : Int))) = (AV.int .u32 n_48)) ∧
 (∃ n_49 : Nat, ((Lf ((n_14 = (Nat.cast n_49 : Int)) ∧
 ((n_49 < (4294967296 : Nat)) ∧
 (rotOk (Int.negSucc (1 : Nat)))))) ∧
 (∀ r_50 : Nat, ((Lf (r_50 = (rotW (Int.toNat ((32 : Int) + (Int.negSucc (1 : Nat)))) n_49))) →
(bif ((eqAVL ((AV.int .u32 (Nat.cast ((Prod.snd x_12)).3 : Int)) :: []) ((AV.int .u32 (Nat.cast ((Prod.snd x_12)).3 : Int)) :: [])) && true) then (bif ((eqAVL ((AV.int .u32 (Nat.cast ((Prod.snd x_12)).2 : Int)) :: []) ((AV.int .u32 (Nat.cast ((Prod.snd x_12)).2 : Int)) :: [])) && true) then (bif ((eqAVL ((AV.int .u32 (Nat.cast ((Prod.snd x_12)).3 : Int)) :: []) ((AV.int .u32 (Nat.cast ((Prod.snd x_12)).3 : Int)) :: [])) && true) then (bif ((eqAVL ((AV.int .u32 (Nat.cast ((Prod.snd x_12)).2 : Int)) :: []) ((AV.int .u32 (Nat.cast ((Prod.snd x_12)).2 : Int)) :: [])) && true) then (∃ n_51 : Int, (((AV.int .u32 (Nat.cast r_50 : Int)) = (AV.int .u32 n_51)) ∧
 (∃ n_52 : Nat, ((Lf ((n_14 = (Nat.cast n_52 : Int)) ∧
 ((n_52 < (4294967296 : Nat)) ∧
 (rotOk (Int.negSucc (12 : Nat)))))) ∧
 (∀ r_53 : Nat, ((Lf (r_53 = (rotW (Int.toNat ((32 : Int) + (Int.negSucc (12 : Nat)))) n_52))) →
(bif ((eqAVL ((AV.int .u32 (Nat.cast ((Prod.snd x_12)).3 : Int)) :: []) ((AV.int .u32 (Nat.cast ((Prod.snd x_12)).3 : Int)) :: [])) && true) then (bif ((eqAVL ((AV.int .u32 (Nat.cast ((Prod.snd x_12)).2 : Int)) :: []) ((AV.int .u32 (Nat.cast ((Prod.snd x_12)).2 : Int)) :: [])) && true) then (bif ((eqAVL ((AV.int .u32 (Nat.cast ((Prod.snd x_12)).3 : Int)) :: []) ((AV.int .u32 (Nat.cast ((Prod.snd x_12)).3 : Int)) :: [])) && true) then (bif ((eqAVL ((AV.int .u32 (Nat.cast ((Prod.snd x_12)).2 : Int)) :: []) ((AV.int .u32 (Nat.cast ((Prod.snd x_12)).2 : Int)) :: [])) && true) then (∃ n_54 : Int, (((AV.int .u32 (Nat.cast r_53 : Int)) = (AV.int .u32 n_54)) ∧
 (∃ n_55 : Int, (((AV.int .u32 (IntKind.wrap .u32 (Nat.cast ((Int.toNat (n_51 % (4294967296 : Int))) ^^^ (Int.toNat (n_54 % (4294967296 : Int)))) : Int))) = (AV.int .u32 n_55)) ∧
 (∃ n_56 : Nat, ((Lf ((n_14 = (Nat.cast n_56 : Int)) ∧
 ((n_56 < (4294967296 : Nat)) ∧
 (rotOk (Int.negSucc (21 : Nat)))))) ∧
 (∀ r_57 : Nat, ((Lf (r_57 = (rotW (Int.toNat ((32 : Int) + (Int.negSucc (21 : Nat)))) n_56))) →
(bif ((eqAVL ((AV.int .u32 (Nat.cast ((Prod.snd x_12)).3 : Int)) :: []) ((AV.int .u32 (Nat.cast ((Prod.snd x_12)).3 : Int)) :: [])) && true) then (bif ((eqAVL ((AV.int .u32 (Nat.cast ((Prod.snd x_12)).2 : Int)) :: []) ((AV.int .u32 (Nat.cast ((Prod.snd x_12)).2 : Int)) :: [])) && true) then (bif ((eqAVL ((AV.int .u32 (Nat.cast ((Prod.snd x_12)).3 : Int)) :: []) ((AV.int .u32 (Nat.cast ((Prod.snd x_12)).3 : Int)) :: [])) && true) then (bif ((eqAVL ((AV.int .u32 (Nat.cast ((Prod.snd x_12)).2 : Int)) :: []) ((AV.int .u32 (Nat.cast ((Prod.snd x_12)).2 : Int)) :: [])) && true) then (∃ n_58 : Int, (((AV.int .u32 (Nat.cast r_57 : Int)) = (AV.int .u32 n_58)) ∧
 (∃ n_59 : Int, (((AV.int .u32 (IntKind.wrap .u32 (Nat.cast ((Int.toNat (n_55 % (4294967296 : Int))) ^^^ (Int.toNat (n_58 % (4294967296 : Int)))) : Int))) = (AV.int .u32 n_59)) ∧
 (∃ n_60 : Int, (((AV.int .u32 (IntKind.wrap .u32 (n_59 + n_48))) = (AV.int .u32 n_60)) ∧
 (∃ n_61 : Int, (((AV.int .u32 (IntKind.wrap .u32 (n_39 + n_60))) = (AV.int .u32 n_61)) ∧
 (∃ n_62 : Int, (((AV.int .u32 (Nat.cast ((Prod.snd x_12)).1 : Int)) = (AV.int .u32 n_62)) ∧
 (∃ n_63 : Int, (((AV.int .u32 (Nat.cast ((Prod.snd x_12)).2 : Int)) = (AV.int .u32 n_63)) ∧
 (∃ n_64 : Int, (((AV.int .u32 (Nat.cast ((Prod.snd x_12)).3 : Int)) = (AV.int .u32 n_64)) ∧
 (∃ n_65 : Int, (((AV.int .u32 (Nat.cast ((Prod.snd x_12)).4 : Int)) = (AV.int .u32 n_65)) ∧
 (∃ n_66 : Int, (((AV.int .u32 (IntKind.wrap .u32 (n_65 + n_39))) = (AV.int .u32 n_66)) ∧
 (∃ n_67 : Int, (((AV.int .u32 (Nat.cast ((Prod.snd x_12)).5 : Int)) = (AV.int .u32 n_67)) ∧
 (∃ n_68 : Int, (((AV.int .u32 (Nat.cast ((Prod.snd x_12)).6 : Int)) = (AV.int .u32 n_68)) ∧
 (∃ n_69 : Int, (((AV.int .u32 (Nat.cast ((Prod.snd x_12)).7 : Int)) = (AV.int .u32 n_69)) ∧
 (∃ n_70 : Int, (((AV.int .i64 (IntKind.wrap .i64 ((Nat.cast (Prod.fst x_12) : Int) + (1 : Int)))) = (AV.int .i64 n_70)) ∧
 (((((oldL (0 : Nat) (cells32M ks)) || (oldL (6 : Nat) (cells32M ks))) && true) = true) ∧
 ((vc_154_1 s ks) ∧
 (∃ y_71 : (Prod Nat W8), ((Lf (((Prod.fst y_71) ≤ (64 : Nat)) ∧
 ((okW8 (Prod.snd y_71)) ∧
 ((Prod.snd y_71) = (rndsM ks (wsM (cells32M (Prod.snd x_3))) (Prod.fst y_71) (W8.mk (Int.toNat (Nat.cast ((Prod.fst x_0)).1 : Int)) (Int.toNat (Nat.cast ((Prod.fst x_0)).2 : Int)) (Int.toNat (Nat.cast ((Prod.fst x_0)).3 : Int)) (Int.toNat (Nat.cast ((Prod.fst x_0)).4 : Int)) (Int.toNat (Nat.cast ((Prod.fst x_0)).5 : Int)) (Int.toNat (Nat.cast ((Prod.fst x_0)).6 : Int)) (Int.toNat (Nat.cast ((Prod.fst x_0)).7 : Int)) (Int.toNat (Nat.cast ((Prod.fst x_0)).8 : Int)))))))) ∧
 ((((64 : Nat) - (Prod.fst y_71)) < ((64 : Nat) - (Prod.fst x_12))) ∧
 ((((AV.int .u32 (Nat.cast ((Prod.fst x_0)).1 : Int)) :: ((AV.int .u32 (Nat.cast ((Prod.fst x_0)).2 : Int)) :: ((AV.int .u32 (Nat.cast ((Prod.fst x_0)).3 : Int)) :: ((AV.int .u32 (Nat.cast ((Prod.fst x_0)).4 : Int)) :: ((AV.int .u32 (Nat.cast ((Prod.fst x_0)).5 : Int)) :: ((AV.int .u32 (Nat.cast ((Prod.fst x_0)).6 : Int)) :: ((AV.int .u32 (Nat.cast ((Prod.fst x_0)).7 : Int)) :: ((AV.int .u32 (Nat.cast ((Prod.fst x_0)).8 : Int)) :: ((AV.str t) :: ((AV.int .i64 n) :: [])))))))))) = ((AV.int .u32 (Nat.cast ((Prod.fst x_0)).1 : Int)) :: ((AV.int .u32 (Nat.cast ((Prod.fst x_0)).2 : Int)) :: ((AV.int .u32 (Nat.cast ((Prod.fst x_0)).3 : Int)) :: ((AV.int .u32 (Nat.cast ((Prod.fst x_0)).4 : Int)) :: ((AV.int .u32 (Nat.cast ((Prod.fst x_0)).5 : Int)) :: ((AV.int .u32 (Nat.cast ((Prod.fst x_0)).6 : Int)) :: ((AV.int .u32 (Nat.cast ((Prod.fst x_0)).7 : Int)) :: ((AV.int .u32 (Nat.cast ((Prod.fst x_0)).8 : Int)) :: ((AV.str t) :: ((AV.int .i64 n) :: []))))))))))) ∧
 ((((AV.ptr (0 : Nat) (10 : Nat) (0 : Nat)) :: []) = ((AV.ptr (0 : Nat) (10 : Nat) (0 : Nat)) :: [])) ∧
 (bif ((oldL (0 : Nat) (cells32M ks)) == (oldL (0 : Nat) (cells32M ks))) then (((cells32M ks) = (cells32M ks)) ∧
 ((((AV.str (Prod.snd x_0)) :: []) = ((AV.str (Prod.snd x_0)) :: [])) ∧
 (((cells32M (Prod.snd x_3)) = (cells32M (Prod.snd x_3))) ∧
 ((((AV.int .u32 n_61) :: ((AV.int .u32 n_62) :: ((AV.int .u32 n_63) :: ((AV.int .u32 n_64) :: ((AV.int .u32 n_66) :: ((AV.int .u32 n_67) :: ((AV.int .u32 n_68) :: ((AV.int .u32 n_69) :: [])))))))) = ((AV.int .u32 (Nat.cast ((Prod.snd y_71)).1 : Int)) :: ((AV.int .u32 (Nat.cast ((Prod.snd y_71)).2 : Int)) :: ((AV.int .u32 (Nat.cast ((Prod.snd y_71)).3 : Int)) :: ((AV.int .u32 (Nat.cast ((Prod.snd y_71)).4 : Int)) :: ((AV.int .u32 (Nat.cast ((Prod.snd y_71)).5 : Int)) :: ((AV.int .u32 (Nat.cast ((Prod.snd y_71)).6 : Int)) :: ((AV.int .u32 (Nat.cast ((Prod.snd y_71)).7 : Int)) :: ((AV.int .u32 (Nat.cast ((Prod.snd y_71)).8 : Int)) :: []))))))))) ∧
 (((AV.ptr (1 : Nat) (1 : Nat) (0 : Nat)) = (AV.ptr (1 : Nat) (1 : Nat) (0 : Nat))) ∧
 (((AV.ptr (4 : Nat) (64 : Nat) (0 : Nat)) = (AV.ptr (4 : Nat) (64 : Nat) (0 : Nat))) ∧
 (((AV.ptr (2 : Nat) (List.length (cells32M ks)) (0 : Nat)) = (AV.ptr (2 : Nat) (List.length (cells32M ks)) (0 : Nat))) ∧
 (((AV.int .i64 n_70) = (AV.int .i64 (Nat.cast (Prod.fst y_71) : Int))) ∧
 (((AV.ptr (5 : Nat) (8 : Nat) (0 : Nat)) = (AV.ptr (5 : Nat) (8 : Nat) (0 : Nat))) ∧
 True)))))))))
else False))))))))))))))))))))))))))))))))))
else False)
else False)
else False)
else False)))))))))
else False)
else False)
else False)
else False)))))))
else False)
else False)
else False)
else False)))))))))))))))))))))))))))))))))))
else False)
else False)
else False)
else False)
else False)
else False)
else False)))))))))
else False)
else False)
else False)
else False)
else False)
else False)
else False)))))))
else False)
else False)
else False)
else False)
else False)
else False)
else False)))))))
else False)
else False)))
else False)
else False)))))))))))))))))))))
else (∃ n_13 : Int, (((AV.int .u32 (Nat.cast ((Prod.fst x_0)).1 : Int)) = (AV.int .u32 n_13)) ∧
 (∃ n_14 : Int, (((AV.int .u32 (Nat.cast ((Prod.snd x_12)).1 : Int)) = (AV.int .u32 n_14)) ∧
 (∃ n_15 : Int, (((AV.int .u32 (IntKind.wrap .u32 (n_13 + n_14))) = (AV.int .u32 n_15)) ∧
 (((((oldL (0 : Nat) (cells32M ks)) || (oldL (6 : Nat) (cells32M ks))) && true) = true) ∧
 (∃ n_16 : Int, (((AV.int .u32 (Nat.cast ((Prod.fst x_0)).2 : Int)) = (AV.int .u32 n_16)) ∧
 (∃ n_17 : Int, (((AV.int .u32 (Nat.cast ((Prod.snd x_12)).2 : Int)) = (AV.int .u32 n_17)) ∧
 (∃ n_18 : Int, (((AV.int .u32 (IntKind.wrap .u32 (n_16 + n_17))) = (AV.int .u32 n_18)) ∧
 (((((oldL (0 : Nat) (cells32M ks)) || (oldL (6 : Nat) (cells32M ks))) && true) = true) ∧
 (∃ n_19 : Int, (((AV.int .u32 (Nat.cast ((Prod.fst x_0)).3 : Int)) = (AV.int .u32 n_19)) ∧
 (∃ n_20 : Int, (((AV.int .u32 (Nat.cast ((Prod.snd x_12)).3 : Int)) = (AV.int .u32 n_20)) ∧
 (∃ n_21 : Int, (((AV.int .u32 (IntKind.wrap .u32 (n_19 + n_20))) = (AV.int .u32 n_21)) ∧
 (((((oldL (0 : Nat) (cells32M ks)) || (oldL (6 : Nat) (cells32M ks))) && true) = true) ∧
 (∃ n_22 : Int, (((AV.int .u32 (Nat.cast ((Prod.fst x_0)).4 : Int)) = (AV.int .u32 n_22)) ∧
 (∃ n_23 : Int, (((AV.int .u32 (Nat.cast ((Prod.snd x_12)).4 : Int)) = (AV.int .u32 n_23)) ∧
 (∃ n_24 : Int, (((AV.int .u32 (IntKind.wrap .u32 (n_22 + n_23))) = (AV.int .u32 n_24)) ∧
 (((((oldL (0 : Nat) (cells32M ks)) || (oldL (6 : Nat) (cells32M ks))) && true) = true) ∧
 (∃ n_25 : Int, (((AV.int .u32 (Nat.cast ((Prod.fst x_0)).5 : Int)) = (AV.int .u32 n_25)) ∧
 (∃ n_26 : Int, (((AV.int .u32 (Nat.cast ((Prod.snd x_12)).5 : Int)) = (AV.int .u32 n_26)) ∧
 (∃ n_27 : Int, (((AV.int .u32 (IntKind.wrap .u32 (n_25 + n_26))) = (AV.int .u32 n_27)) ∧
 (((((oldL (0 : Nat) (cells32M ks)) || (oldL (6 : Nat) (cells32M ks))) && true) = true) ∧
 (∃ n_28 : Int, (((AV.int .u32 (Nat.cast ((Prod.fst x_0)).6 : Int)) = (AV.int .u32 n_28)) ∧
 (∃ n_29 : Int, (((AV.int .u32 (Nat.cast ((Prod.snd x_12)).6 : Int)) = (AV.int .u32 n_29)) ∧
 (∃ n_30 : Int, (((AV.int .u32 (IntKind.wrap .u32 (n_28 + n_29))) = (AV.int .u32 n_30)) ∧
 (((((oldL (0 : Nat) (cells32M ks)) || (oldL (6 : Nat) (cells32M ks))) && true) = true) ∧
 (∃ n_31 : Int, (((AV.int .u32 (Nat.cast ((Prod.fst x_0)).7 : Int)) = (AV.int .u32 n_31)) ∧
 (∃ n_32 : Int, (((AV.int .u32 (Nat.cast ((Prod.snd x_12)).7 : Int)) = (AV.int .u32 n_32)) ∧
 (∃ n_33 : Int, (((AV.int .u32 (IntKind.wrap .u32 (n_31 + n_32))) = (AV.int .u32 n_33)) ∧
 (((((oldL (0 : Nat) (cells32M ks)) || (oldL (6 : Nat) (cells32M ks))) && true) = true) ∧
 (∃ n_34 : Int, (((AV.int .u32 (Nat.cast ((Prod.fst x_0)).8 : Int)) = (AV.int .u32 n_34)) ∧
 (∃ n_35 : Int, (((AV.int .u32 (Nat.cast ((Prod.snd x_12)).8 : Int)) = (AV.int .u32 n_35)) ∧
 (∃ n_36 : Int, (((AV.int .u32 (IntKind.wrap .u32 (n_34 + n_35))) = (AV.int .u32 n_36)) ∧
 (((((oldL (0 : Nat) (cells32M ks)) || (oldL (6 : Nat) (cells32M ks))) && true) = true) ∧
 (bif ((Nat.ble (64 : Nat) (List.length (Prod.snd x_0))) && (Nat.ble (List.length (Prod.snd x_0)) (List.length (Prod.snd x_0)))) then (∃ s_37 : (List UInt8), (((AV.str (List.take ((List.length (Prod.snd x_0)) - (64 : Nat)) (List.drop (64 : Nat) (Prod.snd x_0)))) = (AV.str s_37)) ∧
 (((((oldL (0 : Nat) (cells32M ks)) || (oldL (4 : Nat) (cells32M ks))) && true) = true) ∧
 (((((Lp.mk (0 : Nat) (T.n (T.n (T.n T.e (AV.ptr (1 : Nat) (1 : Nat) (0 : Nat)) (T.n (T.n T.e (AV.str s) T.e) AV.undef T.e)) (AV.str s) (T.n T.e (AV.ptr (2 : Nat) (List.length (cells32M ks)) (0 : Nat)) T.e)) (AV.ptr (0 : Nat) (10 : Nat) (0 : Nat)) (T.n (T.n T.e AV.undef (T.n (T.n T.e (AV.fn (Fn.func (162 : Nat)) [] ((AV.ptr (3 : Nat) (1 : Nat) (0 : Nat)) :: [])) T.e) AV.undef T.e)) (AV.agg (cells32M ks)) T.e)) ((21 : Nat) :: []) (rfA fn154.body) (rfB fn154.body) Lst.ready (154 : Nat)) :: []) = ((Lp.mk (0 : Nat) (T.n (T.n (T.n T.e (AV.ptr (1 : Nat) (1 : Nat) (0 : Nat)) (T.n (T.n T.e (AV.str s) T.e) AV.undef T.e)) (AV.str s) (T.n T.e (AV.ptr (2 : Nat) (List.length (cells32M ks)) (0 : Nat)) T.e)) (AV.ptr (0 : Nat) (10 : Nat) (0 : Nat)) (T.n (T.n T.e AV.undef (T.n (T.n T.e (AV.fn (Fn.func (162 : Nat)) [] ((AV.ptr (3 : Nat) (1 : Nat) (0 : Nat)) :: [])) T.e) AV.undef T.e)) (AV.agg (cells32M ks)) T.e)) ((21 : Nat) :: []) (rfA fn154.body) (rfB fn154.body) Lst.ready (154 : Nat)) :: [])) ∧
 ((1 : Nat) = (1 : Nat))) ∧
 (∃ y_38 : (Prod W8 (List UInt8)), ((Lf ((okW8 (Prod.fst y_38)) ∧
 (((List.length (Prod.snd y_38)) ≤ (List.length s)) ∧
 ((mixM ks ((List.length (Prod.snd y_38)) / (64 : Nat)) (Prod.fst y_38) (Prod.snd y_38)) = (mixM ks ((List.length s) / (64 : Nat)) v s))))) ∧
 (((List.length (Prod.snd y_38)) < (List.length (Prod.snd x_0))) ∧
 ((((AV.int .u32 n_15) :: ((AV.int .u32 n_18) :: ((AV.int .u32 n_21) :: ((AV.int .u32 n_24) :: ((AV.int .u32 n_27) :: ((AV.int .u32 n_30) :: ((AV.int .u32 n_33) :: ((AV.int .u32 n_36) :: ((AV.str t) :: ((AV.int .i64 n) :: [])))))))))) = ((AV.int .u32 (Nat.cast ((Prod.fst y_38)).1 : Int)) :: ((AV.int .u32 (Nat.cast ((Prod.fst y_38)).2 : Int)) :: ((AV.int .u32 (Nat.cast ((Prod.fst y_38)).3 : Int)) :: ((AV.int .u32 (Nat.cast ((Prod.fst y_38)).4 : Int)) :: ((AV.int .u32 (Nat.cast ((Prod.fst y_38)).5 : Int)) :: ((AV.int .u32 (Nat.cast ((Prod.fst y_38)).6 : Int)) :: ((AV.int .u32 (Nat.cast ((Prod.fst y_38)).7 : Int)) :: ((AV.int .u32 (Nat.cast ((Prod.fst y_38)).8 : Int)) :: ((AV.str t) :: ((AV.int .i64 n) :: []))))))))))) ∧
 ((((AV.ptr (0 : Nat) (10 : Nat) (0 : Nat)) :: []) = ((AV.ptr (0 : Nat) (10 : Nat) (0 : Nat)) :: [])) ∧
 (bif ((oldL (0 : Nat) (cells32M ks)) == (oldL (0 : Nat) (cells32M ks))) then (((cells32M ks) = (cells32M ks)) ∧
 ((((AV.str s_37) :: []) = ((AV.str (Prod.snd y_38)) :: [])) ∧
 (((AV.yld (0 : Nat)) = (AV.yld (0 : Nat))) ∧
 (((AV.ptr (3 : Nat) (1 : Nat) (0 : Nat)) = (AV.ptr (3 : Nat) (1 : Nat) (0 : Nat))) ∧
 True))))
else False))))))))))
else False))))))))))))))))))))))))))))))))))))))))))))))))))))))))))))))))))))))))))))
else False)
else (((((oldL (0 : Nat) (cells32M ks)) || (oldL (4 : Nat) (cells32M ks))) && true) = true) ∧
 (Q (Out.ret (AV.tup [])) ((Blk.mk BK.exact true ((AV.int .u32 (Nat.cast ((Prod.fst x_0)).1 : Int)) :: ((AV.int .u32 (Nat.cast ((Prod.fst x_0)).2 : Int)) :: ((AV.int .u32 (Nat.cast ((Prod.fst x_0)).3 : Int)) :: ((AV.int .u32 (Nat.cast ((Prod.fst x_0)).4 : Int)) :: ((AV.int .u32 (Nat.cast ((Prod.fst x_0)).5 : Int)) :: ((AV.int .u32 (Nat.cast ((Prod.fst x_0)).6 : Int)) :: ((AV.int .u32 (Nat.cast ((Prod.fst x_0)).7 : Int)) :: ((AV.int .u32 (Nat.cast ((Prod.fst x_0)).8 : Int)) :: ((AV.str t) :: ((AV.int .i64 n) :: []))))))))))) :: []) (Gh.mk (0 : Nat) (1 : Nat) [])))))))))) := by kernel_rfl

end Go.Proofs.YtifjpcdpmimccaaGreatDoor
