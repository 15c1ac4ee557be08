/-
  Chapter 3: the block of a counter.
-/
import Derived.Test.YtiholnebhmjbjaaM17SA
set_option linter.unusedSimpArgs false
set_option linter.unusedVariables false
namespace Go.Proofs.Ytiholnebhmjbjaa
open Go.RowKit
set_option maxRecDepth 1000000

/-- words -/
def addW (x y : Nat) : Nat := (x + y) % 4294967296
def xorW (x y : Nat) : Nat := (x % 4294967296) ^^^ (y % 4294967296)
def rotW (k x : Nat) : Nat := ((x * 2 ^ k) % 4294967296) ||| ((x / 2 ^ (32 - k)) % 4294967296)
def leW (x : Nat) : List Nat := [x % 256, x / 256 % 256, x / 65536 % 256, x / 16777216 % 256]
/-- a quarter round -/
def quM (a b c d : Nat) : Nat × Nat × Nat × Nat :=
  let a := addW a b
  let d := rotW 16 (xorW d a)
  let c := addW c d
  let b := rotW 12 (xorW b c)
  let a := addW a b
  let d := rotW 8 (xorW d a)
  let c := addW c d
  let b := rotW 7 (xorW b c)
  (a, b, c, d)
theorem u32_wrap (x : Nat) : IntKind.wrap .u32 (x : Int) = ((x % 4294967296 : Nat) : Int) := by
  show (x : Int) % 4294967296 = _
  omega
theorem u8_wrap (x : Nat) : IntKind.wrap .u8 (x : Int) = ((x % 256 : Nat) : Int) := by
  show (x : Int) % 256 = _
  omega
theorem addW_w (x y : Nat) : IntKind.wrap .u32 ((x : Int) + (y : Int)) = ((addW x y : Nat) : Int) := by
  rw [← Int.natCast_add, u32_wrap]; rfl
theorem mod32 (x : Nat) : ((x : Int) % 4294967296).toNat = x % 4294967296 := by omega
theorem bits32 {x : Nat} (h : x < 4294967296) : x % 4294967296 = x := Nat.mod_eq_of_lt h
theorem xorW_lt (x y : Nat) : xorW x y < 4294967296 := Nat.xor_lt_two_pow (n := 32) (Nat.mod_lt _ (by omega)) (Nat.mod_lt _ (by omega))
theorem rotW_lt (k x : Nat) : rotW k x < 4294967296 := Nat.or_lt_two_pow (n := 32) (Nat.mod_lt _ (by omega)) (Nat.mod_lt _ (by omega))
theorem xorW_w (x y : Nat) : IntKind.wrap .u32 ((((x : Int) % 4294967296).toNat ^^^ ((y : Int) % 4294967296).toNat : Nat) : Int) = ((xorW x y : Nat) : Int) := by
  rw [mod32, mod32, u32_wrap]
  exact congrArg _ (bits32 (xorW_lt x y))
theorem rotW_w (k x : Nat) (M N : Int) (hm : M = ((2 ^ k : Nat) : Int)) (hn : N = ((2 ^ (32 - k) : Nat) : Int)) :
    IntKind.wrap .u32 (((IntKind.wrap .u32 ((x : Int) * M) % 4294967296).toNat ||| (Int.fdiv (x : Int) N % 4294967296).toNat : Nat) : Int) = ((rotW k x : Nat) : Int) := by
  subst hm hn
  have h0 : (0 : Int) ≤ ((2 ^ (32 - k) : Nat) : Int) := Int.natCast_nonneg _
  have e1 := u32_wrap (x * 2 ^ k)
  rw [← Int.natCast_mul, e1, Int.fdiv_eq_ediv_of_nonneg _ h0, ← Int.natCast_ediv, mod32, mod32, u32_wrap, Nat.mod_mod]
  exact congrArg _ (bits32 (rotW_lt k x))
theorem fdivN (x : Nat) (N : Int) (n : Nat) (h : N = (n : Int)) : Int.fdiv (x : Int) N = ((x / n : Nat) : Int) := by
  subst h
  rw [Int.fdiv_eq_ediv_of_nonneg _ (Int.natCast_nonneg _), Int.natCast_ediv]
theorem quI {a b c d : Nat} {K : Int → Int → Int → Int → Prop} (h : ∀ a' b' c' d' : Nat, quM a b c d = (a', b', c', d') → K a' b' c' d') :
(∃ n_2 : Int, (((AV.int .u32 (IntKind.wrap .u32 ((Nat.cast a : Int) + (Nat.cast b : Int)))) = (AV.int .u32 n_2)) ∧
 (∃ n_3 : Int, (((AV.int .u32 (IntKind.wrap .u32 (Nat.cast ((Int.toNat ((Nat.cast d : Int) % (4294967296 : Int))) ^^^ (Int.toNat (n_2 % (4294967296 : Int)))) : Int))) = (AV.int .u32 n_3)) ∧
 (∃ n_4 : Int, (((AV.int .u32 (IntKind.wrap .u32 (n_3 * (65536 : Int)))) = (AV.int .u32 n_4)) ∧
 (∃ n_5 : Int, (((AV.int .u32 (Int.fdiv n_3 (65536 : Int))) = (AV.int .u32 n_5)) ∧
 (∃ n_6 : Int, (((AV.int .u32 (IntKind.wrap .u32 (Nat.cast ((Int.toNat (n_4 % (4294967296 : Int))) ||| (Int.toNat (n_5 % (4294967296 : Int)))) : Int))) = (AV.int .u32 n_6)) ∧
 (∃ n_7 : Int, (((AV.int .u32 (IntKind.wrap .u32 ((Nat.cast c : Int) + n_6))) = (AV.int .u32 n_7)) ∧
 (∃ n_8 : Int, (((AV.int .u32 (IntKind.wrap .u32 (Nat.cast ((Int.toNat ((Nat.cast b : Int) % (4294967296 : Int))) ^^^ (Int.toNat (n_7 % (4294967296 : Int)))) : Int))) = (AV.int .u32 n_8)) ∧
 (∃ n_9 : Int, (((AV.int .u32 (IntKind.wrap .u32 (n_8 * (4096 : Int)))) = (AV.int .u32 n_9)) ∧
 (∃ n_10 : Int, (((AV.int .u32 (Int.fdiv n_8 (1048576 : Int))) = (AV.int .u32 n_10)) ∧
 (∃ n_11 : Int, (((AV.int .u32 (IntKind.wrap .u32 (Nat.cast ((Int.toNat (n_9 % (4294967296 : Int))) ||| (Int.toNat (n_10 % (4294967296 : Int)))) : Int))) = (AV.int .u32 n_11)) ∧
 (∃ n_12 : Int, (((AV.int .u32 (IntKind.wrap .u32 (n_2 + n_11))) = (AV.int .u32 n_12)) ∧
 (∃ n_13 : Int, (((AV.int .u32 (IntKind.wrap .u32 (Nat.cast ((Int.toNat (n_6 % (4294967296 : Int))) ^^^ (Int.toNat (n_12 % (4294967296 : Int)))) : Int))) = (AV.int .u32 n_13)) ∧
 (∃ n_14 : Int, (((AV.int .u32 (IntKind.wrap .u32 (n_13 * (256 : Int)))) = (AV.int .u32 n_14)) ∧
 (∃ n_15 : Int, (((AV.int .u32 (Int.fdiv n_13 (16777216 : Int))) = (AV.int .u32 n_15)) ∧
 (∃ n_16 : Int, (((AV.int .u32 (IntKind.wrap .u32 (Nat.cast ((Int.toNat (n_14 % (4294967296 : Int))) ||| (Int.toNat (n_15 % (4294967296 : Int)))) : Int))) = (AV.int .u32 n_16)) ∧
 (∃ n_17 : Int, (((AV.int .u32 (IntKind.wrap .u32 (n_7 + n_16))) = (AV.int .u32 n_17)) ∧
 (∃ n_18 : Int, (((AV.int .u32 (IntKind.wrap .u32 (Nat.cast ((Int.toNat (n_11 % (4294967296 : Int))) ^^^ (Int.toNat (n_17 % (4294967296 : Int)))) : Int))) = (AV.int .u32 n_18)) ∧
 (∃ n_19 : Int, (((AV.int .u32 (IntKind.wrap .u32 (n_18 * (128 : Int)))) = (AV.int .u32 n_19)) ∧
 (∃ n_20 : Int, (((AV.int .u32 (Int.fdiv n_18 (33554432 : Int))) = (AV.int .u32 n_20)) ∧
 (∃ n_21 : Int, (((AV.int .u32 (IntKind.wrap .u32 (Nat.cast ((Int.toNat (n_19 % (4294967296 : Int))) ||| (Int.toNat (n_20 % (4294967296 : Int)))) : Int))) = (AV.int .u32 n_21)) ∧ K n_12 n_21 n_17 n_16)))))))))))))))))))))))))))))))))))))))) := by
  obtain ⟨a1, e1⟩ : ∃ y, addW a b = y := ⟨_, rfl⟩
  obtain ⟨d1, e2⟩ : ∃ y, rotW 16 (xorW d a1) = y := ⟨_, rfl⟩
  obtain ⟨c1, e3⟩ : ∃ y, addW c d1 = y := ⟨_, rfl⟩
  obtain ⟨b1, e4⟩ : ∃ y, rotW 12 (xorW b c1) = y := ⟨_, rfl⟩
  obtain ⟨a2, e5⟩ : ∃ y, addW a1 b1 = y := ⟨_, rfl⟩
  obtain ⟨d2, e6⟩ : ∃ y, rotW 8 (xorW d1 a2) = y := ⟨_, rfl⟩
  obtain ⟨c2, e7⟩ : ∃ y, addW c1 d2 = y := ⟨_, rfl⟩
  obtain ⟨b2, e8⟩ : ∃ y, rotW 7 (xorW b1 c2) = y := ⟨_, rfl⟩
  have hh := h a2 b2 c2 d2 (by simp only [quM, e1, e2, e3, e4, e5, e6, e7, e8])
  refine ⟨a1, by rw [addW_w, e1], xorW d a1, by rw [xorW_w], _, rfl, _, rfl, d1, (congrArg (AV.int .u32) ((rotW_w 16 (xorW d a1) 65536 65536 rfl rfl).trans (by rw [e2]))), ?_⟩
  refine ⟨c1, by rw [addW_w, e3], xorW b c1, by rw [xorW_w], _, rfl, _, rfl, b1, (congrArg (AV.int .u32) ((rotW_w 12 (xorW b c1) 4096 1048576 rfl rfl).trans (by rw [e4]))), ?_⟩
  refine ⟨a2, by rw [addW_w, e5], xorW d1 a2, by rw [xorW_w], _, rfl, _, rfl, d2, (congrArg (AV.int .u32) ((rotW_w 8 (xorW d1 a2) 256 16777216 rfl rfl).trans (by rw [e6]))), ?_⟩
  exact ⟨c2, by rw [addW_w, e7], xorW b1 c2, by rw [xorW_w], _, rfl, _, rfl, b2, (congrArg (AV.int .u32) ((rotW_w 7 (xorW b1 c2) 128 33554432 rfl rfl).trans (by rw [e8]))), hh⟩
theorem woI {a m : Nat} {K : Int → Int → Int → Int → Prop} (h : ∀ p q r s : Nat, leW (addW a m) = [p, q, r, s] → K p q r s) :
(∃ n_2 : Int, (((AV.int .u32 (Nat.cast a : Int)) = (AV.int .u32 n_2)) ∧
 (∃ n_3 : Int, (((AV.int .u32 (IntKind.wrap .u32 (n_2 + (Nat.cast m : Int)))) = (AV.int .u32 n_3)) ∧
 (∃ n_4 : Int, (((AV.int .u8 (IntKind.wrap .u8 n_3)) = (AV.int .u8 n_4)) ∧
 (∃ n_5 : Int, (((AV.int .u32 (Int.fdiv n_3 (256 : Int))) = (AV.int .u32 n_5)) ∧
 (∃ n_6 : Int, (((AV.int .u8 (IntKind.wrap .u8 n_5)) = (AV.int .u8 n_6)) ∧
 (∃ n_7 : Int, (((AV.int .u32 (Int.fdiv n_3 (65536 : Int))) = (AV.int .u32 n_7)) ∧
 (∃ n_8 : Int, (((AV.int .u8 (IntKind.wrap .u8 n_7)) = (AV.int .u8 n_8)) ∧
 (∃ n_9 : Int, (((AV.int .u32 (Int.fdiv n_3 (16777216 : Int))) = (AV.int .u32 n_9)) ∧
 (∃ n_10 : Int, (((AV.int .u8 (IntKind.wrap .u8 n_9)) = (AV.int .u8 n_10)) ∧ K n_4 n_6 n_8 n_10)))))))))))))))))) := by
  obtain ⟨x, e1⟩ : ∃ y, addW a m = y := ⟨_, rfl⟩
  rw [e1] at h
  exact ⟨_, rfl, x, by rw [addW_w, e1], _, by rw [u8_wrap], _, (congrArg (AV.int .u32) (fdivN x 256 256 rfl)), _, by rw [u8_wrap], _, (congrArg (AV.int .u32) (fdivN x 65536 65536 rfl)), _, by rw [u8_wrap], _, (congrArg (AV.int .u32) (fdivN x 16777216 16777216 rfl)), _, by rw [u8_wrap], h _ _ _ _ rfl⟩
/-- sixteen words -/
structure W16 where
  (x0 x1 x2 x3 x4 x5 x6 x7 x8 x9 x10 x11 x12 x13 x14 x15 : Nat)
/-- two rounds -/
def roundM (w : W16) : W16 :=
  let p := quM w.x0 w.x4 w.x8 w.x12
  let q := quM w.x1 w.x5 w.x9 w.x13
  let r := quM w.x2 w.x6 w.x10 w.x14
  let s := quM w.x3 w.x7 w.x11 w.x15
  let a := quM p.1 q.2.1 r.2.2.1 s.2.2.2
  let b := quM q.1 r.2.1 s.2.2.1 p.2.2.2
  let c := quM r.1 s.2.1 p.2.2.1 q.2.2.2
  let d := quM s.1 p.2.1 q.2.2.1 r.2.2.2
  ⟨a.1, b.1, c.1, d.1, d.2.1, a.2.1, b.2.1, c.2.1, c.2.2.1, d.2.2.1, a.2.2.1, b.2.2.1, b.2.2.2, c.2.2.2, d.2.2.2, a.2.2.2⟩
def roundsM : Nat → W16 → W16
  | 0, w => w
  | n + 1, w => roundM (roundsM n w)
def outM (w m : W16) : List Nat := leW (addW w.x0 m.x0) ++ leW (addW w.x1 m.x1) ++ leW (addW w.x2 m.x2) ++ leW (addW w.x3 m.x3) ++ leW (addW w.x4 m.x4) ++ leW (addW w.x5 m.x5) ++ leW (addW w.x6 m.x6) ++ leW (addW w.x7 m.x7) ++ leW (addW w.x8 m.x8) ++ leW (addW w.x9 m.x9) ++ leW (addW w.x10 m.x10) ++ leW (addW w.x11 m.x11) ++ leW (addW w.x12 m.x12) ++ leW (addW w.x13 m.x13) ++ leW (addW w.x14 m.x14) ++ leW (addW w.x15 m.x15)
def cells8NM (l : List Nat) : List AV := l.map fun (n : Nat) => AV.int .u8 (n : Int)
/-- the block of a counter -/
def blkM (w : W16) (c : Int) : List Nat := outM { w with x12 := (c % 4294967296).toNat } (roundsM 10 { w with x12 := (c % 4294967296).toNat })
def W16.cells (w : W16) : List AV := [.int .u32 w.x0, .int .u32 w.x1, .int .u32 w.x2, .int .u32 w.x3, .int .u32 w.x4, .int .u32 w.x5, .int .u32 w.x6, .int .u32 w.x7, .int .u32 w.x8, .int .u32 w.x9, .int .u32 w.x10, .int .u32 w.x11, .int .u32 w.x12, .int .u32 w.x13, .int .u32 w.x14, .int .u32 w.x15]
def zeros64 : List AV := List.replicate 64 (.int .u8 0)
def inv_47 (w : W16) : LInv where
  α := Nat × W16
  pre p := Lf (p.1 ≤ 10 ∧ p.2 = roundsM p.1 w)
  st p := ⟨mkT [(2, .ptr 0 16 0), (4, .ptr 1 64 0), (5, .ptr 2 16 0), (6, .ptr 3 1 0), (15, .int .i64 p.1)], [⟨.exact, true, w.cells⟩, ⟨.exact, true, zeros64⟩, ⟨.exact, true, p.2.cells⟩, ⟨.exact, false, [.ptr 2 16 0]⟩]⟩
  mu p := 10 - p.1
noncomputable def env_47 (hv : Nat → Option Pa) (hb : Nat → Option Bool) (w : W16) : Env := e04 sm0 (fun i => bif Nat.beq i 91000 then some (fun _ => [[inv_47 w]]) else none) hv hb
noncomputable def goal_47 (hv : Nat → Option Pa) (hb : Nat → Option Bool) (w : W16) (c : Int) (Q : Out → List Blk → Gh → Prop) : Prop :=
  callx (env_47 hv hb { w with x12 := (c % 4294967296).toNat }) (wpx (env_47 hv hb { w with x12 := (c % 4294967296).toNat }) 1000) 91 [.agg w.cells, .int .i64 c] [] {} Q
theorem vc_47 (w : W16) (c : Int) (Q : Out → List Blk → Gh → Prop) : goal_47 (lookV [(372747, .int .u32), (401451, .int .u32), (401460, .int .u32), (409611, .int .u32), (409615, .int .u32), (409616, .int .u32), (401469, .int .u32), (401478, .int .u32), (401487, .int .u32), (401496, .int .u32), (401505, .int .u32), (401514, .int .u32), (372761, .int .i64), (372771, .int .u32), (372784, .int .u8), (372786, .int .u32), (372787, .int .u8), (372789, .int .u32), (372790, .int .u8), (372792, .int .u32), (372793, .int .u8), (372767, .int .u32)]) (lookB []) w c Q = (
(∃ n_0 : Int, (((AV.int .u32 (IntKind.wrap .u32 c)) = (AV.int .u32 n_0)) ∧
 ((∃ x_1 : (Prod Nat W16), ((Lf (((Prod.fst x_1) ≤ (10 : Nat)) ∧
 ((Prod.snd x_1) = (roundsM (Prod.fst x_1) (W16.mk (W16.x0 w) (W16.x1 w) (W16.x2 w) (W16.x3 w) (W16.x4 w) (W16.x5 w) (W16.x6 w) (W16.x7 w) (W16.x8 w) (W16.x9 w) (W16.x10 w) (W16.x11 w) (Int.toNat (c % (4294967296 : Int))) (W16.x13 w) (W16.x14 w) (W16.x15 w)))))) ∧
 ((((AV.int .u32 (Nat.cast (w).1 : Int)) :: ((AV.int .u32 (Nat.cast (w).2 : Int)) :: ((AV.int .u32 (Nat.cast (w).3 : Int)) :: ((AV.int .u32 (Nat.cast (w).4 : Int)) :: ((AV.int .u32 (Nat.cast (w).5 : Int)) :: ((AV.int .u32 (Nat.cast (w).6 : Int)) :: ((AV.int .u32 (Nat.cast (w).7 : Int)) :: ((AV.int .u32 (Nat.cast (w).8 : Int)) :: ((AV.int .u32 (Nat.cast (w).9 : Int)) :: ((AV.int .u32 (Nat.cast (w).10 : Int)) :: ((AV.int .u32 (Nat.cast (w).11 : Int)) :: ((AV.int .u32 (Nat.cast (w).12 : Int)) :: ((AV.int .u32 n_0) :: ((AV.int .u32 (Nat.cast (w).14 : Int)) :: ((AV.int .u32 (Nat.cast (w).15 : Int)) :: ((AV.int .u32 (Nat.cast (w).16 : Int)) :: [])))))))))))))))) = ((AV.int .u32 (Nat.cast (w).1 : Int)) :: ((AV.int .u32 (Nat.cast (w).2 : Int)) :: ((AV.int .u32 (Nat.cast (w).3 : Int)) :: ((AV.int .u32 (Nat.cast (w).4 : Int)) :: ((AV.int .u32 (Nat.cast (w).5 : Int)) :: ((AV.int .u32 (Nat.cast (w).6 : Int)) :: ((AV.int .u32 (Nat.cast (w).7 : Int)) :: ((AV.int .u32 (Nat.cast (w).8 : Int)) :: ((AV.int .u32 (Nat.cast (w).9 : Int)) :: ((AV.int .u32 (Nat.cast (w).10 : Int)) :: ((AV.int .u32 (Nat.cast (w).11 : Int)) :: ((AV.int .u32 (Nat.cast (w).12 : Int)) :: ((AV.int .u32 (Nat.cast (Int.toNat (c % (4294967296 : Int))) : Int)) :: ((AV.int .u32 (Nat.cast (w).14 : Int)) :: ((AV.int .u32 (Nat.cast (w).15 : Int)) :: ((AV.int .u32 (Nat.cast (w).16 : Int)) :: []))))))))))))))))) ∧
 ((((AV.int .u8 (0 : Int)) :: ((AV.int .u8 (0 : Int)) :: ((AV.int .u8 (0 : Int)) :: ((AV.int .u8 (0 : Int)) :: ((AV.int .u8 (0 : Int)) :: ((AV.int .u8 (0 : Int)) :: ((AV.int .u8 (0 : Int)) :: ((AV.int .u8 (0 : Int)) :: ((AV.int .u8 (0 : Int)) :: ((AV.int .u8 (0 : Int)) :: ((AV.int .u8 (0 : Int)) :: ((AV.int .u8 (0 : Int)) :: ((AV.int .u8 (0 : Int)) :: ((AV.int .u8 (0 : Int)) :: ((AV.int .u8 (0 : Int)) :: ((AV.int .u8 (0 : Int)) :: ((AV.int .u8 (0 : Int)) :: ((AV.int .u8 (0 : Int)) :: ((AV.int .u8 (0 : Int)) :: ((AV.int .u8 (0 : Int)) :: ((AV.int .u8 (0 : Int)) :: ((AV.int .u8 (0 : Int)) :: ((AV.int .u8 (0 : Int)) :: ((AV.int .u8 (0 : Int)) :: ((AV.int .u8 (0 : Int)) :: ((AV.int .u8 (0 : Int)) :: ((AV.int .u8 (0 : Int)) :: ((AV.int .u8 (0 : Int)) :: ((AV.int .u8 (0 : Int)) :: ((AV.int .u8 (0 : Int)) :: ((AV.int .u8 (0 : Int)) :: ((AV.int .u8 (0 : Int)) :: ((AV.int .u8 (0 : Int)) :: ((AV.int .u8 (0 : Int)) :: ((AV.int .u8 (0 : Int)) :: ((AV.int .u8 (0 : Int)) :: ((AV.int .u8 (0 : Int)) :: ((AV.int .u8 (0 : Int)) :: ((AV.int .u8 (0 : Int)) :: ((AV.int .u8 (0 : Int)) :: ((AV.int .u8 (0 : Int)) :: ((AV.int .u8 (0 : Int)) :: ((AV.int .u8 (0 : Int)) :: ((AV.int .u8 (0 : Int)) :: ((AV.int .u8 (0 : Int)) :: ((AV.int .u8 (0 : Int)) :: ((AV.int .u8 (0 : Int)) :: ((AV.int .u8 (0 : Int)) :: ((AV.int .u8 (0 : Int)) :: ((AV.int .u8 (0 : Int)) :: ((AV.int .u8 (0 : Int)) :: ((AV.int .u8 (0 : Int)) :: ((AV.int .u8 (0 : Int)) :: ((AV.int .u8 (0 : Int)) :: ((AV.int .u8 (0 : Int)) :: ((AV.int .u8 (0 : Int)) :: ((AV.int .u8 (0 : Int)) :: ((AV.int .u8 (0 : Int)) :: ((AV.int .u8 (0 : Int)) :: ((AV.int .u8 (0 : Int)) :: ((AV.int .u8 (0 : Int)) :: ((AV.int .u8 (0 : Int)) :: ((AV.int .u8 (0 : Int)) :: ((AV.int .u8 (0 : Int)) :: [])))))))))))))))))))))))))))))))))))))))))))))))))))))))))))))))) = ((AV.int .u8 (0 : Int)) :: ((AV.int .u8 (0 : Int)) :: ((AV.int .u8 (0 : Int)) :: ((AV.int .u8 (0 : Int)) :: ((AV.int .u8 (0 : Int)) :: ((AV.int .u8 (0 : Int)) :: ((AV.int .u8 (0 : Int)) :: ((AV.int .u8 (0 : Int)) :: ((AV.int .u8 (0 : Int)) :: ((AV.int .u8 (0 : Int)) :: ((AV.int .u8 (0 : Int)) :: ((AV.int .u8 (0 : Int)) :: ((AV.int .u8 (0 : Int)) :: ((AV.int .u8 (0 : Int)) :: ((AV.int .u8 (0 : Int)) :: ((AV.int .u8 (0 : Int)) :: ((AV.int .u8 (0 : Int)) :: ((AV.int .u8 (0 : Int)) :: ((AV.int .u8 (0 : Int)) :: ((AV.int .u8 (0 : Int)) :: ((AV.int .u8 (0 : Int)) :: ((AV.int .u8 (0 : Int)) :: ((AV.int .u8 (0 : Int)) :: ((AV.int .u8 (0 : Int)) :: ((AV.int .u8 (0 : Int)) :: ((AV.int .u8 (0 : Int)) :: ((AV.int .u8 (0 : Int)) :: ((AV.int .u8 (0 : Int)) :: ((AV.int .u8 (0 : Int)) :: ((AV.int .u8 (0 : Int)) :: ((AV.int .u8 (0 : Int)) :: ((AV.int .u8 (0 : Int)) :: ((AV.int .u8 (0 : Int)) :: ((AV.int .u8 (0 : Int)) :: ((AV.int .u8 (0 : Int)) :: ((AV.int .u8 (0 : Int)) :: ((AV.int .u8 (0 : Int)) :: ((AV.int .u8 (0 : Int)) :: ((AV.int .u8 (0 : Int)) :: ((AV.int .u8 (0 : Int)) :: ((AV.int .u8 (0 : Int)) :: ((AV.int .u8 (0 : Int)) :: ((AV.int .u8 (0 : Int)) :: ((AV.int .u8 (0 : Int)) :: ((AV.int .u8 (0 : Int)) :: ((AV.int .u8 (0 : Int)) :: ((AV.int .u8 (0 : Int)) :: ((AV.int .u8 (0 : Int)) :: ((AV.int .u8 (0 : Int)) :: ((AV.int .u8 (0 : Int)) :: ((AV.int .u8 (0 : Int)) :: ((AV.int .u8 (0 : Int)) :: ((AV.int .u8 (0 : Int)) :: ((AV.int .u8 (0 : Int)) :: ((AV.int .u8 (0 : Int)) :: ((AV.int .u8 (0 : Int)) :: ((AV.int .u8 (0 : Int)) :: ((AV.int .u8 (0 : Int)) :: ((AV.int .u8 (0 : Int)) :: ((AV.int .u8 (0 : Int)) :: ((AV.int .u8 (0 : Int)) :: ((AV.int .u8 (0 : Int)) :: ((AV.int .u8 (0 : Int)) :: ((AV.int .u8 (0 : Int)) :: []))))))))))))))))))))))))))))))))))))))))))))))))))))))))))))))))) ∧
 ((((AV.int .u32 (Nat.cast (w).1 : Int)) :: ((AV.int .u32 (Nat.cast (w).2 : Int)) :: ((AV.int .u32 (Nat.cast (w).3 : Int)) :: ((AV.int .u32 (Nat.cast (w).4 : Int)) :: ((AV.int .u32 (Nat.cast (w).5 : Int)) :: ((AV.int .u32 (Nat.cast (w).6 : Int)) :: ((AV.int .u32 (Nat.cast (w).7 : Int)) :: ((AV.int .u32 (Nat.cast (w).8 : Int)) :: ((AV.int .u32 (Nat.cast (w).9 : Int)) :: ((AV.int .u32 (Nat.cast (w).10 : Int)) :: ((AV.int .u32 (Nat.cast (w).11 : Int)) :: ((AV.int .u32 (Nat.cast (w).12 : Int)) :: ((AV.int .u32 n_0) :: ((AV.int .u32 (Nat.cast (w).14 : Int)) :: ((AV.int .u32 (Nat.cast (w).15 : Int)) :: ((AV.int .u32 (Nat.cast (w).16 : Int)) :: [])))))))))))))))) = ((AV.int .u32 (Nat.cast ((Prod.snd x_1)).1 : Int)) :: ((AV.int .u32 (Nat.cast ((Prod.snd x_1)).2 : Int)) :: ((AV.int .u32 (Nat.cast ((Prod.snd x_1)).3 : Int)) :: ((AV.int .u32 (Nat.cast ((Prod.snd x_1)).4 : Int)) :: ((AV.int .u32 (Nat.cast ((Prod.snd x_1)).5 : Int)) :: ((AV.int .u32 (Nat.cast ((Prod.snd x_1)).6 : Int)) :: ((AV.int .u32 (Nat.cast ((Prod.snd x_1)).7 : Int)) :: ((AV.int .u32 (Nat.cast ((Prod.snd x_1)).8 : Int)) :: ((AV.int .u32 (Nat.cast ((Prod.snd x_1)).9 : Int)) :: ((AV.int .u32 (Nat.cast ((Prod.snd x_1)).10 : Int)) :: ((AV.int .u32 (Nat.cast ((Prod.snd x_1)).11 : Int)) :: ((AV.int .u32 (Nat.cast ((Prod.snd x_1)).12 : Int)) :: ((AV.int .u32 (Nat.cast ((Prod.snd x_1)).13 : Int)) :: ((AV.int .u32 (Nat.cast ((Prod.snd x_1)).14 : Int)) :: ((AV.int .u32 (Nat.cast ((Prod.snd x_1)).15 : Int)) :: ((AV.int .u32 (Nat.cast ((Prod.snd x_1)).16 : Int)) :: []))))))))))))))))) ∧
 ((((AV.ptr (2 : Nat) (16 : Nat) (0 : Nat)) :: []) = ((AV.ptr (2 : Nat) (16 : Nat) (0 : Nat)) :: [])) ∧
 (((AV.int .i64 (0 : Int)) = (AV.int .i64 (Nat.cast (Prod.fst x_1) : Int))) ∧
 (((AV.ptr (2 : Nat) (16 : Nat) (0 : Nat)) = (AV.ptr (2 : Nat) (16 : Nat) (0 : Nat))) ∧
 (((AV.ptr (0 : Nat) (16 : Nat) (0 : Nat)) = (AV.ptr (0 : Nat) (16 : Nat) (0 : Nat))) ∧
 (((AV.ptr (1 : Nat) (64 : Nat) (0 : Nat)) = (AV.ptr (1 : Nat) (64 : Nat) (0 : Nat))) ∧
 (((AV.ptr (3 : Nat) (1 : Nat) (0 : Nat)) = (AV.ptr (3 : Nat) (1 : Nat) (0 : Nat))) ∧
 True))))))))))) ∧
 (∀ x_1 : (Prod Nat W16), ((Lf (((Prod.fst x_1) ≤ (10 : Nat)) ∧
 ((Prod.snd x_1) = (roundsM (Prod.fst x_1) (W16.mk (W16.x0 w) (W16.x1 w) (W16.x2 w) (W16.x3 w) (W16.x4 w) (W16.x5 w) (W16.x6 w) (W16.x7 w) (W16.x8 w) (W16.x9 w) (W16.x10 w) (W16.x11 w) (Int.toNat (c % (4294967296 : Int))) (W16.x13 w) (W16.x14 w) (W16.x15 w)))))) →
(bif (decide ((Nat.cast (Prod.fst x_1) : Int) < (10 : Int))) then (∃ n_2 : Int, (((AV.int .u32 (IntKind.wrap .u32 ((Nat.cast ((Prod.snd x_1)).1 : Int) + (Nat.cast ((Prod.snd x_1)).5 : Int)))) = (AV.int .u32 n_2)) ∧
 (∃ n_3 : Int, (((AV.int .u32 (IntKind.wrap .u32 (Nat.cast ((Int.toNat ((Nat.cast ((Prod.snd x_1)).13 : Int) % (4294967296 : Int))) ^^^ (Int.toNat (n_2 % (4294967296 : Int)))) : Int))) = (AV.int .u32 n_3)) ∧
 (∃ n_4 : Int, (((AV.int .u32 (IntKind.wrap .u32 (n_3 * (65536 : Int)))) = (AV.int .u32 n_4)) ∧
 (∃ n_5 : Int, (((AV.int .u32 (Int.fdiv n_3 (65536 : Int))) = (AV.int .u32 n_5)) ∧
 (∃ n_6 : Int, (((AV.int .u32 (IntKind.wrap .u32 (Nat.cast ((Int.toNat (n_4 % (4294967296 : Int))) ||| (Int.toNat (n_5 % (4294967296 : Int)))) : Int))) = (AV.int .u32 n_6)) ∧
 (∃ n_7 : Int, (((AV.int .u32 (IntKind.wrap .u32 ((Nat.cast ((Prod.snd x_1)).9 : Int) + n_6))) = (AV.int .u32 n_7)) ∧
 (∃ n_8 : Int, (((AV.int .u32 (IntKind.wrap .u32 (Nat.cast ((Int.toNat ((Nat.cast ((Prod.snd x_1)).5 : Int) % (4294967296 : Int))) ^^^ (Int.toNat (n_7 % (4294967296 : Int)))) : Int))) = (AV.int .u32 n_8)) ∧
 (∃ n_9 : Int, (((AV.int .u32 (IntKind.wrap .u32 (n_8 * (4096 : Int)))) = (AV.int .u32 n_9)) ∧
 (∃ n_10 : Int, (((AV.int .u32 (Int.fdiv n_8 (1048576 : Int))) = (AV.int .u32 n_10)) ∧
 (∃ n_11 : Int, (((AV.int .u32 (IntKind.wrap .u32 (Nat.cast ((Int.toNat (n_9 % (4294967296 : Int))) ||| (Int.toNat (n_10 % (4294967296 : Int)))) : Int))) = (AV.int .u32 n_11)) ∧
 (∃ n_12 : Int, (((AV.int .u32 (IntKind.wrap .u32 (n_2 + n_11))) = (AV.int .u32 n_12)) ∧
 (∃ n_13 : Int, (((AV.int .u32 (IntKind.wrap .u32 (Nat.cast ((Int.toNat (n_6 % (4294967296 : Int))) ^^^ (Int.toNat (n_12 % (4294967296 : Int)))) : Int))) = (AV.int .u32 n_13)) ∧
 (∃ n_14 : Int, (((AV.int .u32 (IntKind.wrap .u32 (n_13 * (256 : Int)))) = (AV.int .u32 n_14)) ∧
 (∃ n_15 : Int, (((AV.int .u32 (Int.fdiv n_13 (16777216 : Int))) = (AV.int .u32 n_15)) ∧
 (∃ n_16 : Int, (((AV.int .u32 (IntKind.wrap .u32 (Nat.cast ((Int.toNat (n_14 % (4294967296 : Int))) ||| (Int.toNat (n_15 % (4294967296 : Int)))) : Int))) = (AV.int .u32 n_16)) ∧
 (∃ n_17 : Int, (((AV.int .u32 (IntKind.wrap .u32 (n_7 + n_16))) = (AV.int .u32 n_17)) ∧
 (∃ n_18 : Int, (((AV.int .u32 (IntKind.wrap .u32 (Nat.cast ((Int.toNat (n_11 % (4294967296 : Int))) ^^^ (Int.toNat (n_17 % (4294967296 : Int)))) : Int))) = (AV.int .u32 n_18)) ∧
 (∃ n_19 : Int, (((AV.int .u32 (IntKind.wrap .u32 (n_18 * (128 : Int)))) = (AV.int .u32 n_19)) ∧
 (∃ n_20 : Int, (((AV.int .u32 (Int.fdiv n_18 (33554432 : Int))) = (AV.int .u32 n_20)) ∧
 (∃ n_21 : Int, (((AV.int .u32 (IntKind.wrap .u32 (Nat.cast ((Int.toNat (n_19 % (4294967296 : Int))) ||| (Int.toNat (n_20 % (4294967296 : Int)))) : Int))) = (AV.int .u32 n_21)) ∧
 (∃ n_22 : Int, (((AV.int .u32 (IntKind.wrap .u32 ((Nat.cast ((Prod.snd x_1)).2 : Int) + (Nat.cast ((Prod.snd x_1)).6 : Int)))) = (AV.int .u32 n_22)) ∧
 (∃ n_23 : Int, (((AV.int .u32 (IntKind.wrap .u32 (Nat.cast ((Int.toNat ((Nat.cast ((Prod.snd x_1)).14 : Int) % (4294967296 : Int))) ^^^ (Int.toNat (n_22 % (4294967296 : Int)))) : Int))) = (AV.int .u32 n_23)) ∧
 (∃ n_24 : Int, (((AV.int .u32 (IntKind.wrap .u32 (n_23 * (65536 : Int)))) = (AV.int .u32 n_24)) ∧
 (∃ n_25 : Int, (((AV.int .u32 (Int.fdiv n_23 (65536 : Int))) = (AV.int .u32 n_25)) ∧
 (∃ n_26 : Int, (((AV.int .u32 (IntKind.wrap .u32 (Nat.cast ((Int.toNat (n_24 % (4294967296 : Int))) ||| (Int.toNat (n_25 % (4294967296 : Int)))) : Int))) = (AV.int .u32 n_26)) ∧
 (∃ n_27 : Int, (((AV.int .u32 (IntKind.wrap .u32 ((Nat.cast ((Prod.snd x_1)).10 : Int) + n_26))) = (AV.int .u32 n_27)) ∧
 (∃ n_28 : Int, (((AV.int .u32 (IntKind.wrap .u32 (Nat.cast ((Int.toNat ((Nat.cast ((Prod.snd x_1)).6 : Int) % (4294967296 : Int))) ^^^ (Int.toNat (n_27 % (4294967296 : Int)))) : Int))) = (AV.int .u32 n_28)) ∧
 (∃ n_29 : Int, (((AV.int .u32 (IntKind.wrap .u32 (n_28 * (4096 : Int)))) = (AV.int .u32 n_29)) ∧
 (∃ n_30 : Int, (((AV.int .u32 (Int.fdiv n_28 (1048576 : Int))) = (AV.int .u32 n_30)) ∧
 (∃ n_31 : Int, (((AV.int .u32 (IntKind.wrap .u32 (Nat.cast ((Int.toNat (n_29 % (4294967296 : Int))) ||| (Int.toNat (n_30 % (4294967296 : Int)))) : Int))) = (AV.int .u32 n_31)) ∧
 (∃ n_32 : Int, (((AV.int .u32 (IntKind.wrap .u32 (n_22 + n_31))) = (AV.int .u32 n_32)) ∧
 (∃ n_33 : Int, (((AV.int .u32 (IntKind.wrap .u32 (Nat.cast ((Int.toNat (n_26 % (4294967296 : Int))) ^^^ (Int.toNat (n_32 % (4294967296 : Int)))) : Int))) = (AV.int .u32 n_33)) ∧
 (∃ n_34 : Int, (((AV.int .u32 (IntKind.wrap .u32 (n_33 * (256 : Int)))) = (AV.int .u32 n_34)) ∧
 (∃ n_35 : Int, (((AV.int .u32 (Int.fdiv n_33 (16777216 : Int))) = (AV.int .u32 n_35)) ∧
 (∃ n_36 : Int, (((AV.int .u32 (IntKind.wrap .u32 (Nat.cast ((Int.toNat (n_34 % (4294967296 : Int))) ||| (Int.toNat (n_35 % (4294967296 : Int)))) : Int))) = (AV.int .u32 n_36)) ∧
 (∃ n_37 : Int, (((AV.int .u32 (IntKind.wrap .u32 (n_27 + n_36))) = (AV.int .u32 n_37)) ∧
 (∃ n_38 : Int, (((AV.int .u32 (IntKind.wrap .u32 (Nat.cast ((Int.toNat (n_31 % (4294967296 : Int))) ^^^ (Int.toNat (n_37 % (4294967296 : Int)))) : Int))) = (AV.int .u32 n_38)) ∧
 (∃ n_39 : Int, (((AV.int .u32 (IntKind.wrap .u32 (n_38 * (128 : Int)))) = (AV.int .u32 n_39)) ∧
 (∃ n_40 : Int, (((AV.int .u32 (Int.fdiv n_38 (33554432 : Int))) = (AV.int .u32 n_40)) ∧
 (∃ n_41 : Int, (((AV.int .u32 (IntKind.wrap .u32 (Nat.cast ((Int.toNat (n_39 % (4294967296 : Int))) ||| (Int.toNat (n_40 % (4294967296 : Int)))) : Int))) = (AV.int .u32 n_41)) ∧
 (∃ n_42 : Int, (((AV.int .u32 (IntKind.wrap .u32 ((Nat.cast ((Prod.snd x_1)).3 : Int) + (Nat.cast ((Prod.snd x_1)).7 : Int)))) = (AV.int .u32 n_42)) ∧
 (∃ n_43 : Int, (((AV.int .u32 (IntKind.wrap .u32 (Nat.cast ((Int.toNat ((Nat.cast ((Prod.snd x_1)).15 : Int) % (4294967296 : Int))) ^^^ (Int.toNat (n_42 % (4294967296 : Int)))) : Int))) = (AV.int .u32 n_43)) ∧
 (∃ n_44 : Int, (((AV.int .u32 (IntKind.wrap .u32 (n_43 * (65536 : Int)))) = (AV.int .u32 n_44)) ∧
 (∃ n_45 : Int, (((AV.int .u32 (Int.fdiv n_43 (65536 : Int))) = (AV.int .u32 n_45)) ∧
 (∃ n_46 : Int, (((AV.int .u32 (IntKind.wrap .u32 (Nat.cast ((Int.toNat (n_44 % (4294967296 : Int))) ||| (Int.toNat (n_45 % (4294967296 : Int)))) : Int))) = (AV.int .u32 n_46)) ∧
 (∃ n_47 : Int, (((AV.int .u32 (IntKind.wrap .u32 ((Nat.cast ((Prod.snd x_1)).11 : Int) + n_46))) = (AV.int .u32 n_47)) ∧
 (∃ n_48 : Int, (((AV.int .u32 (IntKind.wrap .u32 (Nat.cast ((Int.toNat ((Nat.cast ((Prod.snd x_1)).7 : Int) % (4294967296 : Int))) ^^^ (Int.toNat (n_47 % (4294967296 : Int)))) : Int))) = (AV.int .u32 n_48)) ∧
 (∃ n_49 : Int, (((AV.int .u32 (IntKind.wrap .u32 (n_48 * (4096 : Int)))) = (AV.int .u32 n_49)) ∧
 (∃ n_50 : Int, (((AV.int .u32 (Int.fdiv n_48 (1048576 : Int))) = (AV.int .u32 n_50)) ∧
 (∃ n_51 : Int, (((AV.int .u32 (IntKind.wrap .u32 (Nat.cast ((Int.toNat (n_49 % (4294967296 : Int))) ||| (Int.toNat (n_50 % (4294967296 : Int)))) : Int))) = (AV.int .u32 n_51)) ∧
 (∃ n_52 : Int, (((AV.int .u32 (IntKind.wrap .u32 (n_42 + n_51))) = (AV.int .u32 n_52)) ∧
 (∃ n_53 : Int, (((AV.int .u32 (IntKind.wrap .u32 (Nat.cast ((Int.toNat (n_46 % (4294967296 : Int))) ^^^ (Int.toNat (n_52 % (4294967296 : Int)))) : Int))) = (AV.int .u32 n_53)) ∧
 (∃ n_54 : Int, (((AV.int .u32 (IntKind.wrap .u32 (n_53 * (256 : Int)))) = (AV.int .u32 n_54)) ∧
 (∃ n_55 : Int, (((AV.int .u32 (Int.fdiv n_53 (16777216 : Int))) = (AV.int .u32 n_55)) ∧
 (∃ n_56 : Int, (((AV.int .u32 (IntKind.wrap .u32 (Nat.cast ((Int.toNat (n_54 % (4294967296 : Int))) ||| (Int.toNat (n_55 % (4294967296 : Int)))) : Int))) = (AV.int .u32 n_56)) ∧
 (∃ n_57 : Int, (((AV.int .u32 (IntKind.wrap .u32 (n_47 + n_56))) = (AV.int .u32 n_57)) ∧
 (∃ n_58 : Int, (((AV.int .u32 (IntKind.wrap .u32 (Nat.cast ((Int.toNat (n_51 % (4294967296 : Int))) ^^^ (Int.toNat (n_57 % (4294967296 : Int)))) : Int))) = (AV.int .u32 n_58)) ∧
 (∃ n_59 : Int, (((AV.int .u32 (IntKind.wrap .u32 (n_58 * (128 : Int)))) = (AV.int .u32 n_59)) ∧
 (∃ n_60 : Int, (((AV.int .u32 (Int.fdiv n_58 (33554432 : Int))) = (AV.int .u32 n_60)) ∧
 (∃ n_61 : Int, (((AV.int .u32 (IntKind.wrap .u32 (Nat.cast ((Int.toNat (n_59 % (4294967296 : Int))) ||| (Int.toNat (n_60 % (4294967296 : Int)))) : Int))) = (AV.int .u32 n_61)) ∧
 (∃ n_62 : Int, (((AV.int .u32 (IntKind.wrap .u32 ((Nat.cast ((Prod.snd x_1)).4 : Int) + (Nat.cast ((Prod.snd x_1)).8 : Int)))) = (AV.int .u32 n_62)) ∧
 (∃ n_63 : Int, (((AV.int .u32 (IntKind.wrap .u32 (Nat.cast ((Int.toNat ((Nat.cast ((Prod.snd x_1)).16 : Int) % (4294967296 : Int))) ^^^ (Int.toNat (n_62 % (4294967296 : Int)))) : Int))) = (AV.int .u32 n_63)) ∧
 (∃ n_64 : Int, (((AV.int .u32 (IntKind.wrap .u32 (n_63 * (65536 : Int)))) = (AV.int .u32 n_64)) ∧
 (∃ n_65 : Int, (((AV.int .u32 (Int.fdiv n_63 (65536 : Int))) = (AV.int .u32 n_65)) ∧
 (∃ n_66 : Int, (((AV.int .u32 (IntKind.wrap .u32 (Nat.cast ((Int.toNat (n_64 % (4294967296 : Int))) ||| (Int.toNat (n_65 % (4294967296 : Int)))) : Int))) = (AV.int .u32 n_66)) ∧
 (∃ n_67 : Int, (((AV.int .u32 (IntKind.wrap .u32 ((Nat.cast ((Prod.snd x_1)).12 : Int) + n_66))) = (AV.int .u32 n_67)) ∧
 (∃ n_68 : Int, (((AV.int .u32 (IntKind.wrap .u32 (Nat.cast ((Int.toNat ((Nat.cast ((Prod.snd x_1)).8 : Int) % (4294967296 : Int))) ^^^ (Int.toNat (n_67 % (4294967296 : Int)))) : Int))) = (AV.int .u32 n_68)) ∧
 (∃ n_69 : Int, (((AV.int .u32 (IntKind.wrap .u32 (n_68 * (4096 : Int)))) = (AV.int .u32 n_69)) ∧
 (∃ n_70 : Int, (((AV.int .u32 (Int.fdiv n_68 (1048576 : Int))) = (AV.int .u32 n_70)) ∧
 (∃ n_71 : Int, (((AV.int .u32 (IntKind.wrap .u32 (Nat.cast ((Int.toNat (n_69 % (4294967296 : Int))) ||| (Int.toNat (n_70 % (4294967296 : Int)))) : Int))) = (AV.int .u32 n_71)) ∧
 (∃ n_72 : Int, (((AV.int .u32 (IntKind.wrap .u32 (n_62 + n_71))) = (AV.int .u32 n_72)) ∧
 (∃ n_73 : Int, (((AV.int .u32 (IntKind.wrap .u32 (Nat.cast ((Int.toNat (n_66 % (4294967296 : Int))) ^^^ (Int.toNat (n_72 % (4294967296 : Int)))) : Int))) = (AV.int .u32 n_73)) ∧
 (∃ n_74 : Int, (((AV.int .u32 (IntKind.wrap .u32 (n_73 * (256 : Int)))) = (AV.int .u32 n_74)) ∧
 (∃ n_75 : Int, (((AV.int .u32 (Int.fdiv n_73 (16777216 : Int))) = (AV.int .u32 n_75)) ∧
 (∃ n_76 : Int, (((AV.int .u32 (IntKind.wrap .u32 (Nat.cast ((Int.toNat (n_74 % (4294967296 : Int))) ||| (Int.toNat (n_75 % (4294967296 : Int)))) : Int))) = (AV.int .u32 n_76)) ∧
 (∃ n_77 : Int, (((AV.int .u32 (IntKind.wrap .u32 (n_67 + n_76))) = (AV.int .u32 n_77)) ∧
 (∃ n_78 : Int, (((AV.int .u32 (IntKind.wrap .u32 (Nat.cast ((Int.toNat (n_71 % (4294967296 : Int))) ^^^ (Int.toNat (n_77 % (4294967296 : Int)))) : Int))) = (AV.int .u32 n_78)) ∧
 (∃ n_79 : Int, (((AV.int .u32 (IntKind.wrap .u32 (n_78 * (128 : Int)))) = (AV.int .u32 n_79)) ∧
 (∃ n_80 : Int, (((AV.int .u32 (Int.fdiv n_78 (33554432 : Int))) = (AV.int .u32 n_80)) ∧
 (∃ n_81 : Int, (((AV.int .u32 (IntKind.wrap .u32 (Nat.cast ((Int.toNat (n_79 % (4294967296 : Int))) ||| (Int.toNat (n_80 % (4294967296 : Int)))) : Int))) = (AV.int .u32 n_81)) ∧
 (∃ n_82 : Int, (((AV.int .u32 (IntKind.wrap .u32 (n_12 + n_41))) = (AV.int .u32 n_82)) ∧
 (∃ n_83 : Int, (((AV.int .u32 (IntKind.wrap .u32 (Nat.cast ((Int.toNat (n_76 % (4294967296 : Int))) ^^^ (Int.toNat (n_82 % (4294967296 : Int)))) : Int))) = (AV.int .u32 n_83)) ∧
 (∃ n_84 : Int, (((AV.int .u32 (IntKind.wrap .u32 (n_83 * (65536 : Int)))) = (AV.int .u32 n_84)) ∧
 (∃ n_85 : Int, (((AV.int .u32 (Int.fdiv n_83 (65536 : Int))) = (AV.int .u32 n_85)) ∧
 (∃ n_86 : Int, (((AV.int .u32 (IntKind.wrap .u32 (Nat.cast ((Int.toNat (n_84 % (4294967296 : Int))) ||| (Int.toNat (n_85 % (4294967296 : Int)))) : Int))) = (AV.int .u32 n_86)) ∧
 (∃ n_87 : Int, (((AV.int .u32 (IntKind.wrap .u32 (n_57 + n_86))) = (AV.int .u32 n_87)) ∧
 (∃ n_88 : Int, (((AV.int .u32 (IntKind.wrap .u32 (Nat.cast ((Int.toNat (n_41 % (4294967296 : Int))) ^^^ (Int.toNat (n_87 % (4294967296 : Int)))) : Int))) = (AV.int .u32 n_88)) ∧
 (∃ n_89 : Int, (((AV.int .u32 (IntKind.wrap .u32 (n_88 * (4096 : Int)))) = (AV.int .u32 n_89)) ∧
 (∃ n_90 : Int, (((AV.int .u32 (Int.fdiv n_88 (1048576 : Int))) = (AV.int .u32 n_90)) ∧
 (∃ n_91 : Int, (((AV.int .u32 (IntKind.wrap .u32 (Nat.cast ((Int.toNat (n_89 % (4294967296 : Int))) ||| (Int.toNat (n_90 % (4294967296 : Int)))) : Int))) = (AV.int .u32 n_91)) ∧
 (∃ n_92 : Int, (((AV.int .u32 (IntKind.wrap .u32 (n_82 + n_91))) = (AV.int .u32 n_92)) ∧
 (∃ n_93 : Int, (((AV.int .u32 (IntKind.wrap .u32 (Nat.cast ((Int.toNat (n_86 % (4294967296 : Int))) ^^^ (Int.toNat (n_92 % (4294967296 : Int)))) : Int))) = (AV.int .u32 n_93)) ∧
 (∃ n_94 : Int, (((AV.int .u32 (IntKind.wrap .u32 (n_93 * (256 : Int)))) = (AV.int .u32 n_94)) ∧
 (∃ n_95 : Int, (((AV.int .u32 (Int.fdiv n_93 (16777216 : Int))) = (AV.int .u32 n_95)) ∧
 (∃ n_96 : Int, (((AV.int .u32 (IntKind.wrap .u32 (Nat.cast ((Int.toNat (n_94 % (4294967296 : Int))) ||| (Int.toNat (n_95 % (4294967296 : Int)))) : Int))) = (AV.int .u32 n_96)) ∧
 (∃ n_97 : Int, (((AV.int .u32 (IntKind.wrap .u32 (n_87 + n_96))) = (AV.int .u32 n_97)) ∧
 (∃ n_98 : Int, (((AV.int .u32 (IntKind.wrap .u32 (Nat.cast ((Int.toNat (n_91 % (4294967296 : Int))) ^^^ (Int.toNat (n_97 % (4294967296 : Int)))) : Int))) = (AV.int .u32 n_98)) ∧
 (∃ n_99 : Int, (((AV.int .u32 (IntKind.wrap .u32 (n_98 * (128 : Int)))) = (AV.int .u32 n_99)) ∧
 (∃ n_100 : Int, (((AV.int .u32 (Int.fdiv n_98 (33554432 : Int))) = (AV.int .u32 n_100)) ∧
 (∃ n_101 : Int, (((AV.int .u32 (IntKind.wrap .u32 (Nat.cast ((Int.toNat (n_99 % (4294967296 : Int))) ||| (Int.toNat (n_100 % (4294967296 : Int)))) : Int))) = (AV.int .u32 n_101)) ∧
 (∃ n_102 : Int, (((AV.int .u32 (IntKind.wrap .u32 (n_32 + n_61))) = (AV.int .u32 n_102)) ∧
 (∃ n_103 : Int, (((AV.int .u32 (IntKind.wrap .u32 (Nat.cast ((Int.toNat (n_16 % (4294967296 : Int))) ^^^ (Int.toNat (n_102 % (4294967296 : Int)))) : Int))) = (AV.int .u32 n_103)) ∧
 (∃ n_104 : Int, (((AV.int .u32 (IntKind.wrap .u32 (n_103 * (65536 : Int)))) = (AV.int .u32 n_104)) ∧
 (∃ n_105 : Int, (((AV.int .u32 (Int.fdiv n_103 (65536 : Int))) = (AV.int .u32 n_105)) ∧
 (∃ n_106 : Int, (((AV.int .u32 (IntKind.wrap .u32 (Nat.cast ((Int.toNat (n_104 % (4294967296 : Int))) ||| (Int.toNat (n_105 % (4294967296 : Int)))) : Int))) = (AV.int .u32 n_106)) ∧
 (∃ n_107 : Int, (((AV.int .u32 (IntKind.wrap .u32 (n_77 + n_106))) = (AV.int .u32 n_107)) ∧
 (∃ n_108 : Int, (((AV.int .u32 (IntKind.wrap .u32 (Nat.cast ((Int.toNat (n_61 % (4294967296 : Int))) ^^^ (Int.toNat (n_107 % (4294967296 : Int)))) : Int))) = (AV.int .u32 n_108)) ∧
 (∃ n_109 : Int, (((AV.int .u32 (IntKind.wrap .u32 (n_108 * (4096 : Int)))) = (AV.int .u32 n_109)) ∧
 (∃ n_110 : Int, (((AV.int .u32 (Int.fdiv n_108 (1048576 : Int))) = (AV.int .u32 n_110)) ∧
 (∃ n_111 : Int, (((AV.int .u32 (IntKind.wrap .u32 (Nat.cast ((Int.toNat (n_109 % (4294967296 : Int))) ||| (Int.toNat (n_110 % (4294967296 : Int)))) : Int))) = (AV.int .u32 n_111)) ∧
 (∃ n_112 : Int, (((AV.int .u32 (IntKind.wrap .u32 (n_102 + n_111))) = (AV.int .u32 n_112)) ∧
 (∃ n_113 : Int, (((AV.int .u32 (IntKind.wrap .u32 (Nat.cast ((Int.toNat (n_106 % (4294967296 : Int))) ^^^ (Int.toNat (n_112 % (4294967296 : Int)))) : Int))) = (AV.int .u32 n_113)) ∧
 (∃ n_114 : Int, (((AV.int .u32 (IntKind.wrap .u32 (n_113 * (256 : Int)))) = (AV.int .u32 n_114)) ∧
 (∃ n_115 : Int, (((AV.int .u32 (Int.fdiv n_113 (16777216 : Int))) = (AV.int .u32 n_115)) ∧
 (∃ n_116 : Int, (((AV.int .u32 (IntKind.wrap .u32 (Nat.cast ((Int.toNat (n_114 % (4294967296 : Int))) ||| (Int.toNat (n_115 % (4294967296 : Int)))) : Int))) = (AV.int .u32 n_116)) ∧
 (∃ n_117 : Int, (((AV.int .u32 (IntKind.wrap .u32 (n_107 + n_116))) = (AV.int .u32 n_117)) ∧
 (∃ n_118 : Int, (((AV.int .u32 (IntKind.wrap .u32 (Nat.cast ((Int.toNat (n_111 % (4294967296 : Int))) ^^^ (Int.toNat (n_117 % (4294967296 : Int)))) : Int))) = (AV.int .u32 n_118)) ∧
 (∃ n_119 : Int, (((AV.int .u32 (IntKind.wrap .u32 (n_118 * (128 : Int)))) = (AV.int .u32 n_119)) ∧
 (∃ n_120 : Int, (((AV.int .u32 (Int.fdiv n_118 (33554432 : Int))) = (AV.int .u32 n_120)) ∧
 (∃ n_121 : Int, (((AV.int .u32 (IntKind.wrap .u32 (Nat.cast ((Int.toNat (n_119 % (4294967296 : Int))) ||| (Int.toNat (n_120 % (4294967296 : Int)))) : Int))) = (AV.int .u32 n_121)) ∧
 (∃ n_122 : Int, (((AV.int .u32 (IntKind.wrap .u32 (n_52 + n_81))) = (AV.int .u32 n_122)) ∧
 (∃ n_123 : Int, (((AV.int .u32 (IntKind.wrap .u32 (Nat.cast ((Int.toNat (n_36 % (4294967296 : Int))) ^^^ (Int.toNat (n_122 % (4294967296 : Int)))) : Int))) = (AV.int .u32 n_123)) ∧
 (∃ n_124 : Int, (((AV.int .u32 (IntKind.wrap .u32 (n_123 * (65536 : Int)))) = (AV.int .u32 n_124)) ∧
 (∃ n_125 : Int, (((AV.int .u32 (Int.fdiv n_123 (65536 : Int))) = (AV.int .u32 n_125)) ∧
 (∃ n_126 : Int, (((AV.int .u32 (IntKind.wrap .u32 (Nat.cast ((Int.toNat (n_124 % (4294967296 : Int))) ||| (Int.toNat (n_125 % (4294967296 : Int)))) : Int))) = (AV.int .u32 n_126)) ∧
 (∃ n_127 : Int, (((AV.int .u32 (IntKind.wrap .u32 (n_17 + n_126))) = (AV.int .u32 n_127)) ∧
 (∃ n_128 : Int, (((AV.int .u32 (IntKind.wrap .u32 (Nat.cast ((Int.toNat (n_81 % (4294967296 : Int))) ^^^ (Int.toNat (n_127 % (4294967296 : Int)))) : Int))) = (AV.int .u32 n_128)) ∧
 (∃ n_129 : Int, (((AV.int .u32 (IntKind.wrap .u32 (n_128 * (4096 : Int)))) = (AV.int .u32 n_129)) ∧
 (∃ n_130 : Int, (((AV.int .u32 (Int.fdiv n_128 (1048576 : Int))) = (AV.int .u32 n_130)) ∧
 (∃ n_131 : Int, (((AV.int .u32 (IntKind.wrap .u32 (Nat.cast ((Int.toNat (n_129 % (4294967296 : Int))) ||| (Int.toNat (n_130 % (4294967296 : Int)))) : Int))) = (AV.int .u32 n_131)) ∧
 (∃ n_132 : Int, (((AV.int .u32 (IntKind.wrap .u32 (n_122 + n_131))) = (AV.int .u32 n_132)) ∧
 (∃ n_133 : Int, (((AV.int .u32 (IntKind.wrap .u32 (Nat.cast ((Int.toNat (n_126 % (4294967296 : Int))) ^^^ (Int.toNat (n_132 % (4294967296 : Int)))) : Int))) = (AV.int .u32 n_133)) ∧
 (∃ n_134 : Int, (((AV.int .u32 (IntKind.wrap .u32 (n_133 * (256 : Int)))) = (AV.int .u32 n_134)) ∧
 (∃ n_135 : Int, (((AV.int .u32 (Int.fdiv n_133 (16777216 : Int))) = (AV.int .u32 n_135)) ∧
 (∃ n_136 : Int, (((AV.int .u32 (IntKind.wrap .u32 (Nat.cast ((Int.toNat (n_134 % (4294967296 : Int))) ||| (Int.toNat (n_135 % (4294967296 : Int)))) : Int))) = (AV.int .u32 n_136)) ∧
 (∃ n_137 : Int, (((AV.int .u32 (IntKind.wrap .u32 (n_127 + n_136))) = (AV.int .u32 n_137)) ∧
 (∃ n_138 : Int, (((AV.int .u32 (IntKind.wrap .u32 (Nat.cast ((Int.toNat (n_131 % (4294967296 : Int))) ^^^ (Int.toNat (n_137 % (4294967296 : Int)))) : Int))) = (AV.int .u32 n_138)) ∧
 (∃ n_139 : Int, (((AV.int .u32 (IntKind.wrap .u32 (n_138 * (128 : Int)))) = (AV.int .u32 n_139)) ∧
 (∃ n_140 : Int, (((AV.int .u32 (Int.fdiv n_138 (33554432 : Int))) = (AV.int .u32 n_140)) ∧
 (∃ n_141 : Int, (((AV.int .u32 (IntKind.wrap .u32 (Nat.cast ((Int.toNat (n_139 % (4294967296 : Int))) ||| (Int.toNat (n_140 % (4294967296 : Int)))) : Int))) = (AV.int .u32 n_141)) ∧
 (∃ n_142 : Int, (((AV.int .u32 (IntKind.wrap .u32 (n_72 + n_21))) = (AV.int .u32 n_142)) ∧
 (∃ n_143 : Int, (((AV.int .u32 (IntKind.wrap .u32 (Nat.cast ((Int.toNat (n_56 % (4294967296 : Int))) ^^^ (Int.toNat (n_142 % (4294967296 : Int)))) : Int))) = (AV.int .u32 n_143)) ∧
 (∃ n_144 : Int, (((AV.int .u32 (IntKind.wrap .u32 (n_143 * (65536 : Int)))) = (AV.int .u32 n_144)) ∧
 (∃ n_145 : Int, (((AV.int .u32 (Int.fdiv n_143 (65536 : Int))) = (AV.int .u32 n_145)) ∧
 (∃ n_146 : Int, (((AV.int .u32 (IntKind.wrap .u32 (Nat.cast ((Int.toNat (n_144 % (4294967296 : Int))) ||| (Int.toNat (n_145 % (4294967296 : Int)))) : Int))) = (AV.int .u32 n_146)) ∧
 (∃ n_147 : Int, (((AV.int .u32 (IntKind.wrap .u32 (n_37 + n_146))) = (AV.int .u32 n_147)) ∧
 (∃ n_148 : Int, (((AV.int .u32 (IntKind.wrap .u32 (Nat.cast ((Int.toNat (n_21 % (4294967296 : Int))) ^^^ (Int.toNat (n_147 % (4294967296 : Int)))) : Int))) = (AV.int .u32 n_148)) ∧
 (∃ n_149 : Int, (((AV.int .u32 (IntKind.wrap .u32 (n_148 * (4096 : Int)))) = (AV.int .u32 n_149)) ∧
 (∃ n_150 : Int, (((AV.int .u32 (Int.fdiv n_148 (1048576 : Int))) = (AV.int .u32 n_150)) ∧
 (∃ n_151 : Int, (((AV.int .u32 (IntKind.wrap .u32 (Nat.cast ((Int.toNat (n_149 % (4294967296 : Int))) ||| (Int.toNat (n_150 % (4294967296 : Int)))) : Int))) = (AV.int .u32 n_151)) ∧
 (∃ n_152 : Int, (((AV.int .u32 (IntKind.wrap .u32 (n_142 + n_151))) = (AV.int .u32 n_152)) ∧
 (∃ n_153 : Int, (((AV.int .u32 (IntKind.wrap .u32 (Nat.cast ((Int.toNat (n_146 % (4294967296 : Int))) ^^^ (Int.toNat (n_152 % (4294967296 : Int)))) : Int))) = (AV.int .u32 n_153)) ∧
 (∃ n_154 : Int, (((AV.int .u32 (IntKind.wrap .u32 (n_153 * (256 : Int)))) = (AV.int .u32 n_154)) ∧
 (∃ n_155 : Int, (((AV.int .u32 (Int.fdiv n_153 (16777216 : Int))) = (AV.int .u32 n_155)) ∧
 (∃ n_156 : Int, (((AV.int .u32 (IntKind.wrap .u32 (Nat.cast ((Int.toNat (n_154 % (4294967296 : Int))) ||| (Int.toNat (n_155 % (4294967296 : Int)))) : Int))) = (AV.int .u32 n_156)) ∧
 (∃ n_157 : Int, (((AV.int .u32 (IntKind.wrap .u32 (n_147 + n_156))) = (AV.int .u32 n_157)) ∧
 (∃ n_158 : Int, (((AV.int .u32 (IntKind.wrap .u32 (Nat.cast ((Int.toNat (n_151 % (4294967296 : Int))) ^^^ (Int.toNat (n_157 % (4294967296 : Int)))) : Int))) = (AV.int .u32 n_158)) ∧
 (∃ n_159 : Int, (((AV.int .u32 (IntKind.wrap .u32 (n_158 * (128 : Int)))) = (AV.int .u32 n_159)) ∧
 (∃ n_160 : Int, (((AV.int .u32 (Int.fdiv n_158 (33554432 : Int))) = (AV.int .u32 n_160)) ∧
 (∃ n_161 : Int, (((AV.int .u32 (IntKind.wrap .u32 (Nat.cast ((Int.toNat (n_159 % (4294967296 : Int))) ||| (Int.toNat (n_160 % (4294967296 : Int)))) : Int))) = (AV.int .u32 n_161)) ∧
 (∃ n_162 : Int, (((AV.int .i64 (IntKind.wrap .i64 ((Nat.cast (Prod.fst x_1) : Int) + (1 : Int)))) = (AV.int .i64 n_162)) ∧
 ((True ∧
 ((0 : Nat) = (0 : Nat))) ∧
 (∃ y_163 : (Prod Nat W16), ((Lf (((Prod.fst y_163) ≤ (10 : Nat)) ∧
 ((Prod.snd y_163) = (roundsM (Prod.fst y_163) (W16.mk (W16.x0 w) (W16.x1 w) (W16.x2 w) (W16.x3 w) (W16.x4 w) (W16.x5 w) (W16.x6 w) (W16.x7 w) (W16.x8 w) (W16.x9 w) (W16.x10 w) (W16.x11 w) (Int.toNat (c % (4294967296 : Int))) (W16.x13 w) (W16.x14 w) (W16.x15 w)))))) ∧
 ((((10 : Nat) - (Prod.fst y_163)) < ((10 : Nat) - (Prod.fst x_1))) ∧
 ((((AV.int .u32 (Nat.cast (w).1 : Int)) :: ((AV.int .u32 (Nat.cast (w).2 : Int)) :: ((AV.int .u32 (Nat.cast (w).3 : Int)) :: ((AV.int .u32 (Nat.cast (w).4 : Int)) :: ((AV.int .u32 (Nat.cast (w).5 : Int)) :: ((AV.int .u32 (Nat.cast (w).6 : Int)) :: ((AV.int .u32 (Nat.cast (w).7 : Int)) :: ((AV.int .u32 (Nat.cast (w).8 : Int)) :: ((AV.int .u32 (Nat.cast (w).9 : Int)) :: ((AV.int .u32 (Nat.cast (w).10 : Int)) :: ((AV.int .u32 (Nat.cast (w).11 : Int)) :: ((AV.int .u32 (Nat.cast (w).12 : Int)) :: ((AV.int .u32 (Nat.cast (Int.toNat (c % (4294967296 : Int))) : Int)) :: ((AV.int .u32 (Nat.cast (w).14 : Int)) :: ((AV.int .u32 (Nat.cast (w).15 : Int)) :: ((AV.int .u32 (Nat.cast (w).16 : Int)) :: [])))))))))))))))) = ((AV.int .u32 (Nat.cast (w).1 : Int)) :: ((AV.int .u32 (Nat.cast (w).2 : Int)) :: ((AV.int .u32 (Nat.cast (w).3 : Int)) :: ((AV.int .u32 (Nat.cast (w).4 : Int)) :: ((AV.int .u32 (Nat.cast (w).5 : Int)) :: ((AV.int .u32 (Nat.cast (w).6 : Int)) :: ((AV.int .u32 (Nat.cast (w).7 : Int)) :: ((AV.int .u32 (Nat.cast (w).8 : Int)) :: ((AV.int .u32 (Nat.cast (w).9 : Int)) :: ((AV.int .u32 (Nat.cast (w).10 : Int)) :: ((AV.int .u32 (Nat.cast (w).11 : Int)) :: ((AV.int .u32 (Nat.cast (w).12 : Int)) :: ((AV.int .u32 (Nat.cast (Int.toNat (c % (4294967296 : Int))) : Int)) :: ((AV.int .u32 (Nat.cast (w).14 : Int)) :: ((AV.int .u32 (Nat.cast (w).15 : Int)) :: ((AV.int .u32 (Nat.cast (w).16 : Int)) :: []))))))))))))))))) ∧
 ((((AV.int .u8 (0 : Int)) :: ((AV.int .u8 (0 : Int)) :: ((AV.int .u8 (0 : Int)) :: ((AV.int .u8 (0 : Int)) :: ((AV.int .u8 (0 : Int)) :: ((AV.int .u8 (0 : Int)) :: ((AV.int .u8 (0 : Int)) :: ((AV.int .u8 (0 : Int)) :: ((AV.int .u8 (0 : Int)) :: ((AV.int .u8 (0 : Int)) :: ((AV.int .u8 (0 : Int)) :: ((AV.int .u8 (0 : Int)) :: ((AV.int .u8 (0 : Int)) :: ((AV.int .u8 (0 : Int)) :: ((AV.int .u8 (0 : Int)) :: ((AV.int .u8 (0 : Int)) :: ((AV.int .u8 (0 : Int)) :: ((AV.int .u8 (0 : Int)) :: ((AV.int .u8 (0 : Int)) :: ((AV.int .u8 (0 : Int)) :: ((AV.int .u8 (0 : Int)) :: ((AV.int .u8 (0 : Int)) :: ((AV.int .u8 (0 : Int)) :: ((AV.int .u8 (0 : Int)) :: ((AV.int .u8 (0 : Int)) :: ((AV.int .u8 (0 : Int)) :: ((AV.int .u8 (0 : Int)) :: ((AV.int .u8 (0 : Int)) :: ((AV.int .u8 (0 : Int)) :: ((AV.int .u8 (0 : Int)) :: ((AV.int .u8 (0 : Int)) :: ((AV.int .u8 (0 : Int)) :: ((AV.int .u8 (0 : Int)) :: ((AV.int .u8 (0 : Int)) :: ((AV.int .u8 (0 : Int)) :: ((AV.int .u8 (0 : Int)) :: ((AV.int .u8 (0 : Int)) :: ((AV.int .u8 (0 : Int)) :: ((AV.int .u8 (0 : Int)) :: ((AV.int .u8 (0 : Int)) :: ((AV.int .u8 (0 : Int)) :: ((AV.int .u8 (0 : Int)) :: ((AV.int .u8 (0 : Int)) :: ((AV.int .u8 (0 : Int)) :: ((AV.int .u8 (0 : Int)) :: ((AV.int .u8 (0 : Int)) :: ((AV.int .u8 (0 : Int)) :: ((AV.int .u8 (0 : Int)) :: ((AV.int .u8 (0 : Int)) :: ((AV.int .u8 (0 : Int)) :: ((AV.int .u8 (0 : Int)) :: ((AV.int .u8 (0 : Int)) :: ((AV.int .u8 (0 : Int)) :: ((AV.int .u8 (0 : Int)) :: ((AV.int .u8 (0 : Int)) :: ((AV.int .u8 (0 : Int)) :: ((AV.int .u8 (0 : Int)) :: ((AV.int .u8 (0 : Int)) :: ((AV.int .u8 (0 : Int)) :: ((AV.int .u8 (0 : Int)) :: ((AV.int .u8 (0 : Int)) :: ((AV.int .u8 (0 : Int)) :: ((AV.int .u8 (0 : Int)) :: ((AV.int .u8 (0 : Int)) :: [])))))))))))))))))))))))))))))))))))))))))))))))))))))))))))))))) = ((AV.int .u8 (0 : Int)) :: ((AV.int .u8 (0 : Int)) :: ((AV.int .u8 (0 : Int)) :: ((AV.int .u8 (0 : Int)) :: ((AV.int .u8 (0 : Int)) :: ((AV.int .u8 (0 : Int)) :: ((AV.int .u8 (0 : Int)) :: ((AV.int .u8 (0 : Int)) :: ((AV.int .u8 (0 : Int)) :: ((AV.int .u8 (0 : Int)) :: ((AV.int .u8 (0 : Int)) :: ((AV.int .u8 (0 : Int)) :: ((AV.int .u8 (0 : Int)) :: ((AV.int .u8 (0 : Int)) :: ((AV.int .u8 (0 : Int)) :: ((AV.int .u8 (0 : Int)) :: ((AV.int .u8 (0 : Int)) :: ((AV.int .u8 (0 : Int)) :: ((AV.int .u8 (0 : Int)) :: ((AV.int .u8 (0 : Int)) :: ((AV.int .u8 (0 : Int)) :: ((AV.int .u8 (0 : Int)) :: ((AV.int .u8 (0 : Int)) :: ((AV.int .u8 (0 : Int)) :: ((AV.int .u8 (0 : Int)) :: ((AV.int .u8 (0 : Int)) :: ((AV.int .u8 (0 : Int)) :: ((AV.int .u8 (0 : Int)) :: ((AV.int .u8 (0 : Int)) :: ((AV.int .u8 (0 : Int)) :: ((AV.int .u8 (0 : Int)) :: ((AV.int .u8 (0 : Int)) :: ((AV.int .u8 (0 : Int)) :: ((AV.int .u8 (0 : Int)) :: ((AV.int .u8 (0 : Int)) :: ((AV.int .u8 (0 : Int)) :: ((AV.int .u8 (0 : Int)) :: ((AV.int .u8 (0 : Int)) :: ((AV.int .u8 (0 : Int)) :: ((AV.int .u8 (0 : Int)) :: ((AV.int .u8 (0 : Int)) :: ((AV.int .u8 (0 : Int)) :: ((AV.int .u8 (0 : Int)) :: ((AV.int .u8 (0 : Int)) :: ((AV.int .u8 (0 : Int)) :: ((AV.int .u8 (0 : Int)) :: ((AV.int .u8 (0 : Int)) :: ((AV.int .u8 (0 : Int)) :: ((AV.int .u8 (0 : Int)) :: ((AV.int .u8 (0 : Int)) :: ((AV.int .u8 (0 : Int)) :: ((AV.int .u8 (0 : Int)) :: ((AV.int .u8 (0 : Int)) :: ((AV.int .u8 (0 : Int)) :: ((AV.int .u8 (0 : Int)) :: ((AV.int .u8 (0 : Int)) :: ((AV.int .u8 (0 : Int)) :: ((AV.int .u8 (0 : Int)) :: ((AV.int .u8 (0 : Int)) :: ((AV.int .u8 (0 : Int)) :: ((AV.int .u8 (0 : Int)) :: ((AV.int .u8 (0 : Int)) :: ((AV.int .u8 (0 : Int)) :: ((AV.int .u8 (0 : Int)) :: []))))))))))))))))))))))))))))))))))))))))))))))))))))))))))))))))) ∧
 ((((AV.int .u32 n_92) :: ((AV.int .u32 n_112) :: ((AV.int .u32 n_132) :: ((AV.int .u32 n_152) :: ((AV.int .u32 n_161) :: ((AV.int .u32 n_101) :: ((AV.int .u32 n_121) :: ((AV.int .u32 n_141) :: ((AV.int .u32 n_137) :: ((AV.int .u32 n_157) :: ((AV.int .u32 n_97) :: ((AV.int .u32 n_117) :: ((AV.int .u32 n_116) :: ((AV.int .u32 n_136) :: ((AV.int .u32 n_156) :: ((AV.int .u32 n_96) :: [])))))))))))))))) = ((AV.int .u32 (Nat.cast ((Prod.snd y_163)).1 : Int)) :: ((AV.int .u32 (Nat.cast ((Prod.snd y_163)).2 : Int)) :: ((AV.int .u32 (Nat.cast ((Prod.snd y_163)).3 : Int)) :: ((AV.int .u32 (Nat.cast ((Prod.snd y_163)).4 : Int)) :: ((AV.int .u32 (Nat.cast ((Prod.snd y_163)).5 : Int)) :: ((AV.int .u32 (Nat.cast ((Prod.snd y_163)).6 : Int)) :: ((AV.int .u32 (Nat.cast ((Prod.snd y_163)).7 : Int)) :: ((AV.int .u32 (Nat.cast ((Prod.snd y_163)).8 : Int)) :: ((AV.int .u32 (Nat.cast ((Prod.snd y_163)).9 : Int)) :: ((AV.int .u32 (Nat.cast ((Prod.snd y_163)).10 : Int)) :: ((AV.int .u32 (Nat.cast ((Prod.snd y_163)).11 : Int)) :: ((AV.int .u32 (Nat.cast ((Prod.snd y_163)).12 : Int)) :: ((AV.int .u32 (Nat.cast ((Prod.snd y_163)).13 : Int)) :: ((AV.int .u32 (Nat.cast ((Prod.snd y_163)).14 : Int)) :: ((AV.int .u32 (Nat.cast ((Prod.snd y_163)).15 : Int)) :: ((AV.int .u32 (Nat.cast ((Prod.snd y_163)).16 : Int)) :: []))))))))))))))))) ∧
 ((((AV.ptr (2 : Nat) (16 : Nat) (0 : Nat)) :: []) = ((AV.ptr (2 : Nat) (16 : Nat) (0 : Nat)) :: [])) ∧
 (((AV.int .i64 n_162) = (AV.int .i64 (Nat.cast (Prod.fst y_163) : Int))) ∧
 (((AV.ptr (2 : Nat) (16 : Nat) (0 : Nat)) = (AV.ptr (2 : Nat) (16 : Nat) (0 : Nat))) ∧
 (((AV.ptr (0 : Nat) (16 : Nat) (0 : Nat)) = (AV.ptr (0 : Nat) (16 : Nat) (0 : Nat))) ∧
 (((AV.ptr (1 : Nat) (64 : Nat) (0 : Nat)) = (AV.ptr (1 : Nat) (64 : Nat) (0 : Nat))) ∧
 (((AV.ptr (3 : Nat) (1 : Nat) (0 : Nat)) = (AV.ptr (3 : Nat) (1 : Nat) (0 : Nat))) ∧
 True)))))))))))))))))))))))))))))))))))))))))))))))))))))))))))))))))))))))))))))))))))))))))))))))))))))))))))))))))))))))))))))))))))))))))))))))))))))))))))))))))))))))))))))))))))))))))))))))))))))))))))))))))))))))))))))))))))))))))))))))))))))))))))))))))))))))))))))))))))))))))))))))))))))))))))))))))))))))))))))))))))))))))))))))
else (∃ n_2 : Int, (((AV.int .u32 (Nat.cast (w).1 : Int)) = (AV.int .u32 n_2)) ∧
 (∃ n_3 : Int, (((AV.int .u32 (IntKind.wrap .u32 (n_2 + (Nat.cast ((Prod.snd x_1)).1 : Int)))) = (AV.int .u32 n_3)) ∧
 (∃ n_4 : Int, (((AV.int .u8 (IntKind.wrap .u8 n_3)) = (AV.int .u8 n_4)) ∧
 (∃ n_5 : Int, (((AV.int .u32 (Int.fdiv n_3 (256 : Int))) = (AV.int .u32 n_5)) ∧
 (∃ n_6 : Int, (((AV.int .u8 (IntKind.wrap .u8 n_5)) = (AV.int .u8 n_6)) ∧
 (∃ n_7 : Int, (((AV.int .u32 (Int.fdiv n_3 (65536 : Int))) = (AV.int .u32 n_7)) ∧
 (∃ n_8 : Int, (((AV.int .u8 (IntKind.wrap .u8 n_7)) = (AV.int .u8 n_8)) ∧
 (∃ n_9 : Int, (((AV.int .u32 (Int.fdiv n_3 (16777216 : Int))) = (AV.int .u32 n_9)) ∧
 (∃ n_10 : Int, (((AV.int .u8 (IntKind.wrap .u8 n_9)) = (AV.int .u8 n_10)) ∧
 (∃ n_11 : Int, (((AV.int .u32 (Nat.cast (w).2 : Int)) = (AV.int .u32 n_11)) ∧
 (∃ n_12 : Int, (((AV.int .u32 (IntKind.wrap .u32 (n_11 + (Nat.cast ((Prod.snd x_1)).2 : Int)))) = (AV.int .u32 n_12)) ∧
 (∃ n_13 : Int, (((AV.int .u8 (IntKind.wrap .u8 n_12)) = (AV.int .u8 n_13)) ∧
 (∃ n_14 : Int, (((AV.int .u32 (Int.fdiv n_12 (256 : Int))) = (AV.int .u32 n_14)) ∧
 (∃ n_15 : Int, (((AV.int .u8 (IntKind.wrap .u8 n_14)) = (AV.int .u8 n_15)) ∧
 (∃ n_16 : Int, (((AV.int .u32 (Int.fdiv n_12 (65536 : Int))) = (AV.int .u32 n_16)) ∧
 (∃ n_17 : Int, (((AV.int .u8 (IntKind.wrap .u8 n_16)) = (AV.int .u8 n_17)) ∧
 (∃ n_18 : Int, (((AV.int .u32 (Int.fdiv n_12 (16777216 : Int))) = (AV.int .u32 n_18)) ∧
 (∃ n_19 : Int, (((AV.int .u8 (IntKind.wrap .u8 n_18)) = (AV.int .u8 n_19)) ∧
 (∃ n_20 : Int, (((AV.int .u32 (Nat.cast (w).3 : Int)) = (AV.int .u32 n_20)) ∧
 (∃ n_21 : Int, (((AV.int .u32 (IntKind.wrap .u32 (n_20 + (Nat.cast ((Prod.snd x_1)).3 : Int)))) = (AV.int .u32 n_21)) ∧
 (∃ n_22 : Int, (((AV.int .u8 (IntKind.wrap .u8 n_21)) = (AV.int .u8 n_22)) ∧
 (∃ n_23 : Int, (((AV.int .u32 (Int.fdiv n_21 (256 : Int))) = (AV.int .u32 n_23)) ∧
 (∃ n_24 : Int, (((AV.int .u8 (IntKind.wrap .u8 n_23)) = (AV.int .u8 n_24)) ∧
 (∃ n_25 : Int, (((AV.int .u32 (Int.fdiv n_21 (65536 : Int))) = (AV.int .u32 n_25)) ∧
 (∃ n_26 : Int, (((AV.int .u8 (IntKind.wrap .u8 n_25)) = (AV.int .u8 n_26)) ∧
 (∃ n_27 : Int, (((AV.int .u32 (Int.fdiv n_21 (16777216 : Int))) = (AV.int .u32 n_27)) ∧
 (∃ n_28 : Int, (((AV.int .u8 (IntKind.wrap .u8 n_27)) = (AV.int .u8 n_28)) ∧
 (∃ n_29 : Int, (((AV.int .u32 (Nat.cast (w).4 : Int)) = (AV.int .u32 n_29)) ∧
 (∃ n_30 : Int, (((AV.int .u32 (IntKind.wrap .u32 (n_29 + (Nat.cast ((Prod.snd x_1)).4 : Int)))) = (AV.int .u32 n_30)) ∧
 (∃ n_31 : Int, (((AV.int .u8 (IntKind.wrap .u8 n_30)) = (AV.int .u8 n_31)) ∧
 (∃ n_32 : Int, (((AV.int .u32 (Int.fdiv n_30 (256 : Int))) = (AV.int .u32 n_32)) ∧
 (∃ n_33 : Int, (((AV.int .u8 (IntKind.wrap .u8 n_32)) = (AV.int .u8 n_33)) ∧
 (∃ n_34 : Int, (((AV.int .u32 (Int.fdiv n_30 (65536 : Int))) = (AV.int .u32 n_34)) ∧
 (∃ n_35 : Int, (((AV.int .u8 (IntKind.wrap .u8 n_34)) = (AV.int .u8 n_35)) ∧
 (∃ n_36 : Int, (((AV.int .u32 (Int.fdiv n_30 (16777216 : Int))) = (AV.int .u32 n_36)) ∧
 (∃ n_37 : Int, (((AV.int .u8 (IntKind.wrap .u8 n_36)) = (AV.int .u8 n_37)) ∧
 (∃ n_38 : Int, (((AV.int .u32 (Nat.cast (w).5 : Int)) = (AV.int .u32 n_38)) ∧
 (∃ n_39 : Int, (((AV.int .u32 (IntKind.wrap .u32 (n_38 + (Nat.cast ((Prod.snd x_1)).5 : Int)))) = (AV.int .u32 n_39)) ∧
 (∃ n_40 : Int, (((AV.int .u8 (IntKind.wrap .u8 n_39)) = (AV.int .u8 n_40)) ∧
 (∃ n_41 : Int, (((AV.int .u32 (Int.fdiv n_39 (256 : Int))) = (AV.int .u32 n_41)) ∧
 (∃ n_42 : Int, (((AV.int .u8 (IntKind.wrap .u8 n_41)) = (AV.int .u8 n_42)) ∧
 (∃ n_43 : Int, (((AV.int .u32 (Int.fdiv n_39 (65536 : Int))) = (AV.int .u32 n_43)) ∧
 (∃ n_44 : Int, (((AV.int .u8 (IntKind.wrap .u8 n_43)) = (AV.int .u8 n_44)) ∧
 (∃ n_45 : Int, (((AV.int .u32 (Int.fdiv n_39 (16777216 : Int))) = (AV.int .u32 n_45)) ∧
 (∃ n_46 : Int, (((AV.int .u8 (IntKind.wrap .u8 n_45)) = (AV.int .u8 n_46)) ∧
 (∃ n_47 : Int, (((AV.int .u32 (Nat.cast (w).6 : Int)) = (AV.int .u32 n_47)) ∧
 (∃ n_48 : Int, (((AV.int .u32 (IntKind.wrap .u32 (n_47 + (Nat.cast ((Prod.snd x_1)).6 : Int)))) = (AV.int .u32 n_48)) ∧
 (∃ n_49 : Int, (((AV.int .u8 (IntKind.wrap .u8 n_48)) = (AV.int .u8 n_49)) ∧
 (∃ n_50 : Int, (((AV.int .u32 (Int.fdiv n_48 (256 : Int))) = (AV.int .u32 n_50)) ∧
 (∃ n_51 : Int, (((AV.int .u8 (IntKind.wrap .u8 n_50)) = (AV.int .u8 n_51)) ∧
 (∃ n_52 : Int, (((AV.int .u32 (Int.fdiv n_48 (65536 : Int))) = (AV.int .u32 n_52)) ∧
 (∃ n_53 : Int, (((AV.int .u8 (IntKind.wrap .u8 n_52)) = (AV.int .u8 n_53)) ∧
 (∃ n_54 : Int, (((AV.int .u32 (Int.fdiv n_48 (16777216 : Int))) = (AV.int .u32 n_54)) ∧
 (∃ n_55 : Int, (((AV.int .u8 (IntKind.wrap .u8 n_54)) = (AV.int .u8 n_55)) ∧
 (∃ n_56 : Int, (((AV.int .u32 (Nat.cast (w).7 : Int)) = (AV.int .u32 n_56)) ∧
 (∃ n_57 : Int, (((AV.int .u32 (IntKind.wrap .u32 (n_56 + (Nat.cast ((Prod.snd x_1)).7 : Int)))) = (AV.int .u32 n_57)) ∧
 (∃ n_58 : Int, (((AV.int .u8 (IntKind.wrap .u8 n_57)) = (AV.int .u8 n_58)) ∧
 (∃ n_59 : Int, (((AV.int .u32 (Int.fdiv n_57 (256 : Int))) = (AV.int .u32 n_59)) ∧
 (∃ n_60 : Int, (((AV.int .u8 (IntKind.wrap .u8 n_59)) = (AV.int .u8 n_60)) ∧
 (∃ n_61 : Int, (((AV.int .u32 (Int.fdiv n_57 (65536 : Int))) = (AV.int .u32 n_61)) ∧
 (∃ n_62 : Int, (((AV.int .u8 (IntKind.wrap .u8 n_61)) = (AV.int .u8 n_62)) ∧
 (∃ n_63 : Int, (((AV.int .u32 (Int.fdiv n_57 (16777216 : Int))) = (AV.int .u32 n_63)) ∧
 (∃ n_64 : Int, (((AV.int .u8 (IntKind.wrap .u8 n_63)) = (AV.int .u8 n_64)) ∧
 (∃ n_65 : Int, (((AV.int .u32 (Nat.cast (w).8 : Int)) = (AV.int .u32 n_65)) ∧
 (∃ n_66 : Int, (((AV.int .u32 (IntKind.wrap .u32 (n_65 + (Nat.cast ((Prod.snd x_1)).8 : Int)))) = (AV.int .u32 n_66)) ∧
 (∃ n_67 : Int, (((AV.int .u8 (IntKind.wrap .u8 n_66)) = (AV.int .u8 n_67)) ∧
 (∃ n_68 : Int, (((AV.int .u32 (Int.fdiv n_66 (256 : Int))) = (AV.int .u32 n_68)) ∧
 (∃ n_69 : Int, (((AV.int .u8 (IntKind.wrap .u8 n_68)) = (AV.int .u8 n_69)) ∧
 (∃ n_70 : Int, (((AV.int .u32 (Int.fdiv n_66 (65536 : Int))) = (AV.int .u32 n_70)) ∧
 (∃ n_71 : Int, (((AV.int .u8 (IntKind.wrap .u8 n_70)) = (AV.int .u8 n_71)) ∧
 (∃ n_72 : Int, (((AV.int .u32 (Int.fdiv n_66 (16777216 : Int))) = (AV.int .u32 n_72)) ∧
 (∃ n_73 : Int, (((AV.int .u8 (IntKind.wrap .u8 n_72)) = (AV.int .u8 n_73)) ∧
 (∃ n_74 : Int, (((AV.int .u32 (Nat.cast (w).9 : Int)) = (AV.int .u32 n_74)) ∧
 (∃ n_75 : Int, (((AV.int .u32 (IntKind.wrap .u32 (n_74 + (Nat.cast ((Prod.snd x_1)).9 : Int)))) = (AV.int .u32 n_75)) ∧
 (∃ n_76 : Int, (((AV.int .u8 (IntKind.wrap .u8 n_75)) = (AV.int .u8 n_76)) ∧
 (∃ n_77 : Int, (((AV.int .u32 (Int.fdiv n_75 (256 : Int))) = (AV.int .u32 n_77)) ∧
 (∃ n_78 : Int, (((AV.int .u8 (IntKind.wrap .u8 n_77)) = (AV.int .u8 n_78)) ∧
 (∃ n_79 : Int, (((AV.int .u32 (Int.fdiv n_75 (65536 : Int))) = (AV.int .u32 n_79)) ∧
 (∃ n_80 : Int, (((AV.int .u8 (IntKind.wrap .u8 n_79)) = (AV.int .u8 n_80)) ∧
 (∃ n_81 : Int, (((AV.int .u32 (Int.fdiv n_75 (16777216 : Int))) = (AV.int .u32 n_81)) ∧
 (∃ n_82 : Int, (((AV.int .u8 (IntKind.wrap .u8 n_81)) = (AV.int .u8 n_82)) ∧
 (∃ n_83 : Int, (((AV.int .u32 (Nat.cast (w).10 : Int)) = (AV.int .u32 n_83)) ∧
 (∃ n_84 : Int, (((AV.int .u32 (IntKind.wrap .u32 (n_83 + (Nat.cast ((Prod.snd x_1)).10 : Int)))) = (AV.int .u32 n_84)) ∧
 (∃ n_85 : Int, (((AV.int .u8 (IntKind.wrap .u8 n_84)) = (AV.int .u8 n_85)) ∧
 (∃ n_86 : Int, (((AV.int .u32 (Int.fdiv n_84 (256 : Int))) = (AV.int .u32 n_86)) ∧
 (∃ n_87 : Int, (((AV.int .u8 (IntKind.wrap .u8 n_86)) = (AV.int .u8 n_87)) ∧
 (∃ n_88 : Int, (((AV.int .u32 (Int.fdiv n_84 (65536 : Int))) = (AV.int .u32 n_88)) ∧
 (∃ n_89 : Int, (((AV.int .u8 (IntKind.wrap .u8 n_88)) = (AV.int .u8 n_89)) ∧
 (∃ n_90 : Int, (((AV.int .u32 (Int.fdiv n_84 (16777216 : Int))) = (AV.int .u32 n_90)) ∧
 (∃ n_91 : Int, (((AV.int .u8 (IntKind.wrap .u8 n_90)) = (AV.int .u8 n_91)) ∧
 (∃ n_92 : Int, (((AV.int .u32 (Nat.cast (w).11 : Int)) = (AV.int .u32 n_92)) ∧
 (∃ n_93 : Int, (((AV.int .u32 (IntKind.wrap .u32 (n_92 + (Nat.cast ((Prod.snd x_1)).11 : Int)))) = (AV.int .u32 n_93)) ∧
 (∃ n_94 : Int, (((AV.int .u8 (IntKind.wrap .u8 n_93)) = (AV.int .u8 n_94)) ∧
 (∃ n_95 : Int, (((AV.int .u32 (Int.fdiv n_93 (256 : Int))) = (AV.int .u32 n_95)) ∧
 (∃ n_96 : Int, (((AV.int .u8 (IntKind.wrap .u8 n_95)) = (AV.int .u8 n_96)) ∧
 (∃ n_97 : Int, (((AV.int .u32 (Int.fdiv n_93 (65536 : Int))) = (AV.int .u32 n_97)) ∧
 (∃ n_98 : Int, (((AV.int .u8 (IntKind.wrap .u8 n_97)) = (AV.int .u8 n_98)) ∧
 (∃ n_99 : Int, (((AV.int .u32 (Int.fdiv n_93 (16777216 : Int))) = (AV.int .u32 n_99)) ∧
 (∃ n_100 : Int, (((AV.int .u8 (IntKind.wrap .u8 n_99)) = (AV.int .u8 n_100)) ∧
 (∃ n_101 : Int, (((AV.int .u32 (Nat.cast (w).12 : Int)) = (AV.int .u32 n_101)) ∧
 (∃ n_102 : Int, (((AV.int .u32 (IntKind.wrap .u32 (n_101 + (Nat.cast ((Prod.snd x_1)).12 : Int)))) = (AV.int .u32 n_102)) ∧
 (∃ n_103 : Int, (((AV.int .u8 (IntKind.wrap .u8 n_102)) = (AV.int .u8 n_103)) ∧
 (∃ n_104 : Int, (((AV.int .u32 (Int.fdiv n_102 (256 : Int))) = (AV.int .u32 n_104)) ∧
 (∃ n_105 : Int, (((AV.int .u8 (IntKind.wrap .u8 n_104)) = (AV.int .u8 n_105)) ∧
 (∃ n_106 : Int, (((AV.int .u32 (Int.fdiv n_102 (65536 : Int))) = (AV.int .u32 n_106)) ∧
 (∃ n_107 : Int, (((AV.int .u8 (IntKind.wrap .u8 n_106)) = (AV.int .u8 n_107)) ∧
 (∃ n_108 : Int, (((AV.int .u32 (Int.fdiv n_102 (16777216 : Int))) = (AV.int .u32 n_108)) ∧
 (∃ n_109 : Int, (((AV.int .u8 (IntKind.wrap .u8 n_108)) = (AV.int .u8 n_109)) ∧
 (∃ n_110 : Int, (((AV.int .u32 (Nat.cast (Int.toNat (c % (4294967296 : Int))) : Int)) = (AV.int .u32 n_110)) ∧
 (∃ n_111 : Int, (((AV.int .u32 (IntKind.wrap .u32 (n_110 + (Nat.cast ((Prod.snd x_1)).13 : Int)))) = (AV.int .u32 n_111)) ∧
 (∃ n_112 : Int, (((AV.int .u8 (IntKind.wrap .u8 n_111)) = (AV.int .u8 n_112)) ∧
 (∃ n_113 : Int, (((AV.int .u32 (Int.fdiv n_111 (256 : Int))) = (AV.int .u32 n_113)) ∧
 (∃ n_114 : Int, (((AV.int .u8 (IntKind.wrap .u8 n_113)) = (AV.int .u8 n_114)) ∧
 (∃ n_115 : Int, (((AV.int .u32 (Int.fdiv n_111 (65536 : Int))) = (AV.int .u32 n_115)) ∧
 (∃ n_116 : Int, (((AV.int .u8 (IntKind.wrap .u8 n_115)) = (AV.int .u8 n_116)) ∧
 (∃ n_117 : Int, (((AV.int .u32 (Int.fdiv n_111 (16777216 : Int))) = (AV.int .u32 n_117)) ∧
 (∃ n_118 : Int, (((AV.int .u8 (IntKind.wrap .u8 n_117)) = (AV.int .u8 n_118)) ∧
 (∃ n_119 : Int, (((AV.int .u32 (Nat.cast (w).14 : Int)) = (AV.int .u32 n_119)) ∧
 (∃ n_120 : Int, (((AV.int .u32 (IntKind.wrap .u32 (n_119 + (Nat.cast ((Prod.snd x_1)).14 : Int)))) = (AV.int .u32 n_120)) ∧
 (∃ n_121 : Int, (((AV.int .u8 (IntKind.wrap .u8 n_120)) = (AV.int .u8 n_121)) ∧
 (∃ n_122 : Int, (((AV.int .u32 (Int.fdiv n_120 (256 : Int))) = (AV.int .u32 n_122)) ∧
 (∃ n_123 : Int, (((AV.int .u8 (IntKind.wrap .u8 n_122)) = (AV.int .u8 n_123)) ∧
 (∃ n_124 : Int, (((AV.int .u32 (Int.fdiv n_120 (65536 : Int))) = (AV.int .u32 n_124)) ∧
 (∃ n_125 : Int, (((AV.int .u8 (IntKind.wrap .u8 n_124)) = (AV.int .u8 n_125)) ∧
 (∃ n_126 : Int, (((AV.int .u32 (Int.fdiv n_120 (16777216 : Int))) = (AV.int .u32 n_126)) ∧
 (∃ n_127 : Int, (((AV.int .u8 (IntKind.wrap .u8 n_126)) = (AV.int .u8 n_127)) ∧
 (∃ n_128 : Int, (((AV.int .u32 (Nat.cast (w).15 : Int)) = (AV.int .u32 n_128)) ∧
 (∃ n_129 : Int, (((AV.int .u32 (IntKind.wrap .u32 (n_128 + (Nat.cast ((Prod.snd x_1)).15 : Int)))) = (AV.int .u32 n_129)) ∧
 (∃ n_130 : Int, (((AV.int .u8 (IntKind.wrap .u8 n_129)) = (AV.int .u8 n_130)) ∧
 (∃ n_131 : Int, (((AV.int .u32 (Int.fdiv n_129 (256 : Int))) = (AV.int .u32 n_131)) ∧
 (∃ n_132 : Int, (((AV.int .u8 (IntKind.wrap .u8 n_131)) = (AV.int .u8 n_132)) ∧
 (∃ n_133 : Int, (((AV.int .u32 (Int.fdiv n_129 (65536 : Int))) = (AV.int .u32 n_133)) ∧
 (∃ n_134 : Int, (((AV.int .u8 (IntKind.wrap .u8 n_133)) = (AV.int .u8 n_134)) ∧
 (∃ n_135 : Int, (((AV.int .u32 (Int.fdiv n_129 (16777216 : Int))) = (AV.int .u32 n_135)) ∧
 (∃ n_136 : Int, (((AV.int .u8 (IntKind.wrap .u8 n_135)) = (AV.int .u8 n_136)) ∧
 (∃ n_137 : Int, (((AV.int .u32 (Nat.cast (w).16 : Int)) = (AV.int .u32 n_137)) ∧
 (∃ n_138 : Int, (((AV.int .u32 (IntKind.wrap .u32 (n_137 + (Nat.cast ((Prod.snd x_1)).16 : Int)))) = (AV.int .u32 n_138)) ∧
 (∃ n_139 : Int, (((AV.int .u8 (IntKind.wrap .u8 n_138)) = (AV.int .u8 n_139)) ∧
 (∃ n_140 : Int, (((AV.int .u32 (Int.fdiv n_138 (256 : Int))) = (AV.int .u32 n_140)) ∧
 (∃ n_141 : Int, (((AV.int .u8 (IntKind.wrap .u8 n_140)) = (AV.int .u8 n_141)) ∧
 (∃ n_142 : Int, (((AV.int .u32 (Int.fdiv n_138 (65536 : Int))) = (AV.int .u32 n_142)) ∧
 (∃ n_143 : Int, (((AV.int .u8 (IntKind.wrap .u8 n_142)) = (AV.int .u8 n_143)) ∧
 (∃ n_144 : Int, (((AV.int .u32 (Int.fdiv n_138 (16777216 : Int))) = (AV.int .u32 n_144)) ∧
 (∃ n_145 : Int, (((AV.int .u8 (IntKind.wrap .u8 n_144)) = (AV.int .u8 n_145)) ∧
 (Q (Out.ret (AV.agg ((AV.int .u8 n_4) :: ((AV.int .u8 n_6) :: ((AV.int .u8 n_8) :: ((AV.int .u8 n_10) :: ((AV.int .u8 n_13) :: ((AV.int .u8 n_15) :: ((AV.int .u8 n_17) :: ((AV.int .u8 n_19) :: ((AV.int .u8 n_22) :: ((AV.int .u8 n_24) :: ((AV.int .u8 n_26) :: ((AV.int .u8 n_28) :: ((AV.int .u8 n_31) :: ((AV.int .u8 n_33) :: ((AV.int .u8 n_35) :: ((AV.int .u8 n_37) :: ((AV.int .u8 n_40) :: ((AV.int .u8 n_42) :: ((AV.int .u8 n_44) :: ((AV.int .u8 n_46) :: ((AV.int .u8 n_49) :: ((AV.int .u8 n_51) :: ((AV.int .u8 n_53) :: ((AV.int .u8 n_55) :: ((AV.int .u8 n_58) :: ((AV.int .u8 n_60) :: ((AV.int .u8 n_62) :: ((AV.int .u8 n_64) :: ((AV.int .u8 n_67) :: ((AV.int .u8 n_69) :: ((AV.int .u8 n_71) :: ((AV.int .u8 n_73) :: ((AV.int .u8 n_76) :: ((AV.int .u8 n_78) :: ((AV.int .u8 n_80) :: ((AV.int .u8 n_82) :: ((AV.int .u8 n_85) :: ((AV.int .u8 n_87) :: ((AV.int .u8 n_89) :: ((AV.int .u8 n_91) :: ((AV.int .u8 n_94) :: ((AV.int .u8 n_96) :: ((AV.int .u8 n_98) :: ((AV.int .u8 n_100) :: ((AV.int .u8 n_103) :: ((AV.int .u8 n_105) :: ((AV.int .u8 n_107) :: ((AV.int .u8 n_109) :: ((AV.int .u8 n_112) :: ((AV.int .u8 n_114) :: ((AV.int .u8 n_116) :: ((AV.int .u8 n_118) :: ((AV.int .u8 n_121) :: ((AV.int .u8 n_123) :: ((AV.int .u8 n_125) :: ((AV.int .u8 n_127) :: ((AV.int .u8 n_130) :: ((AV.int .u8 n_132) :: ((AV.int .u8 n_134) :: ((AV.int .u8 n_136) :: ((AV.int .u8 n_139) :: ((AV.int .u8 n_141) :: ((AV.int .u8 n_143) :: ((AV.int .u8 n_145) :: [])))))))))))))))))))))))))))))))))))))))))))))))))))))))))))))))))) [] (Gh.mk (0 : Nat) (0 : Nat) []))))))))))))))))))))))))))))))))))))))))))))))))))))))))))))))))))))))))))))))))))))))))))))))))))))))))))))))))))))))))))))))))))))))))))))))))))))))))))))))))))))))))))))))))))))))))))))))))))))))))))))))))))))))))))))))))))))))))))))))))))))))))))))))))))))))))))))))))))))))))))))))))))))))))) := by kernel_rfl


theorem blk_run (w : W16) (c : Int) (Q : Out → List Blk → Gh → Prop) (hq : Q (.ret (.agg (cells8NM (blkM w c)))) [] {}) : ∃ hv hb, goal_47 hv hb w c Q := by
  obtain ⟨hv, hb', e⟩ : ∃ hv hb, goal_47 hv hb w c Q = _ := ⟨_, _, vc_47 w c Q⟩
  refine ⟨hv, hb', e.mpr ?_⟩
  clear e
  unfold blkM at hq
  generalize hw : { w with x12 := (c % 4294967296).toNat } = w' at *
  have h12 : IntKind.wrap .u32 c = (((c % 4294967296).toNat : Nat) : Int) := by
    show c % 4294967296 = _
    omega
  have hcs : w'.cells = [.int .u32 w.x0, .int .u32 w.x1, .int .u32 w.x2, .int .u32 w.x3, .int .u32 w.x4, .int .u32 w.x5, .int .u32 w.x6, .int .u32 w.x7, .int .u32 w.x8, .int .u32 w.x9, .int .u32 w.x10, .int .u32 w.x11, .int .u32 (((c % 4294967296).toNat : Nat) : Int), .int .u32 w.x13, .int .u32 w.x14, .int .u32 w.x15] := by subst hw; rfl
  simp only [W16.cells] at hcs
  refine ⟨_, by rw [h12], ⟨(0, w'), ⟨by omega, rfl⟩, ?_⟩, ?_⟩
  · rw [hcs]
    simp
  rintro ⟨k, v⟩ ⟨hk, hv2⟩
  dsimp only at hk hv2
  refine splitD (fun h => ?_) (fun h => ?_)
  · dsimp only at h ⊢
    refine quI (fun a0 b0 c0 d0 e0 => ?_)
    refine quI (fun a1 b1 c1 d1 e1 => ?_)
    refine quI (fun a2 b2 c2 d2 e2 => ?_)
    refine quI (fun a3 b3 c3 d3 e3 => ?_)
    refine quI (fun a4 b4 c4 d4 e4 => ?_)
    refine quI (fun a5 b5 c5 d5 e5 => ?_)
    refine quI (fun a6 b6 c6 d6 e6 => ?_)
    refine quI (fun a7 b7 c7 d7 e7 => ?_)
    have er : roundM v = ⟨a4, a5, a6, a7, b7, b4, b5, b6, c6, c7, c4, c5, d5, d6, d7, d4⟩ := by simp only [roundM, e0, e1, e2, e3, e4, e5, e6, e7]
    refine wrapI (by omega) (by omega) ⟨⟨trivial, by trivial⟩, (k + 1, roundM v), ⟨by omega, by rw [hv2]; rfl⟩, ?_, ?_⟩
    · dsimp only; omega
    · rw [er]
      simp
  · obtain rfl : k = 10 := by dsimp only at h; omega
    dsimp only
    refine woI (fun p0 q0 r0 s0 f0 => ?_)
    refine woI (fun p1 q1 r1 s1 f1 => ?_)
    refine woI (fun p2 q2 r2 s2 f2 => ?_)
    refine woI (fun p3 q3 r3 s3 f3 => ?_)
    refine woI (fun p4 q4 r4 s4 f4 => ?_)
    refine woI (fun p5 q5 r5 s5 f5 => ?_)
    refine woI (fun p6 q6 r6 s6 f6 => ?_)
    refine woI (fun p7 q7 r7 s7 f7 => ?_)
    refine woI (fun p8 q8 r8 s8 f8 => ?_)
    refine woI (fun p9 q9 r9 s9 f9 => ?_)
    refine woI (fun p10 q10 r10 s10 f10 => ?_)
    refine woI (fun p11 q11 r11 s11 f11 => ?_)
    refine woI (fun p12 q12 r12 s12 f12 => ?_)
    refine woI (fun p13 q13 r13 s13 f13 => ?_)
    refine woI (fun p14 q14 r14 s14 f14 => ?_)
    refine woI (fun p15 q15 r15 s15 f15 => ?_)
    subst hw
    rw [← hv2] at hq
    simp only [outM, f0, f1, f2, f3, f4, f5, f6, f7, f8, f9, f10, f11, f12, f13, f14, f15, cells8NM, List.cons_append, List.nil_append, List.map_cons, List.map_nil] at hq
    exact hq
end Go.Proofs.Ytiholnebhmjbjaa
