/-
  Chapter 4: the contract of number; the run of tag.
-/
import Derived.Test.YtiholnebhmjbjaaM17SF
set_option linter.unusedSimpArgs false
set_option linter.unusedVariables false
namespace Go.Proofs.Ytiholnebhmjbjaa
open Go.RowKit
set_option maxRecDepth 1000000

def cNumber : Con
  | [.lst _ l n 1], H, K => ∃ s : List UInt8, Lf (l = ofBytes s ∧ n = s.length ∧ s.length ≤ 17 ∧ leNM s < 1361129467683753853853498429727072845824) ∧ ∀ a b c d e : Nat, Lf (limM (leNM s) = [a, b, c, d, e]) → K (.ret (.agg [.int .u64 a, .int .u64 b, .int .u64 c, .int .u64 d, .int .u64 e])) H
  | _, _, _ => False
theorem number_raw : ValidF Try.prog gl0 94 cNumber := by
  refine valid_flat (enters_of (by kernel_rfl)) gl0_noY fun args H Q hc => ?_
  unfold cNumber at hc
  split at hc
  · rename_i t l n
    obtain ⟨s, ⟨rfl, rfl, h1, h2⟩, hq⟩ := hc
    obtain ⟨hv, hb', h⟩ := number_run t s (Q := fun o H' _ => H' = [] ∧ (∃ v, o = .ret v ∧ old 0 v = true ∧ noY v = true) ∧ Q o H) h1 h2 ⟨rfl, ⟨_, rfl, by rw [old, oldL_U], by rw [noY, noY_U]⟩, hq _ _ _ _ _ ⟨rfl⟩⟩
    exact ⟨rfl, rfl, _, 1000, envFor04 sm0_ok _ _ _, rfl, h⟩
  · exact hc.elim
def cNumberV : Con := fun args H Q => lendL [1] H args fun a => cNumber a H Q
theorem number_ok : ValidF Try.prog gl0 94 cNumberV := valid_view number_raw gl0_noY [1] fun args H Q hc => by
  unfold cNumber at hc
  split at hc
  · obtain ⟨s, h, hq⟩ := hc
    exact ⟨s, h, fun a b c d e he => ⟨rfl, ⟨_, rfl, rfl⟩, hq a b c d e he⟩⟩
  · exact hc.elim
def smG : SM := lookS [(94, cNumberV)]
theorem smG_ok : ∀ f g, smG f = some g → ValidF Try.prog gl0 f g := lookS_ok _ (by simp only [List.mem_cons, List.not_mem_nil, or_false, forall_eq]; exact number_ok)

/-- 2^130 - 5 -/
def pM : Nat := 1361129467683753853853498429727072845819
def polyM (r : Nat) : Nat → Nat → List UInt8 → Nat
  | 0, h, _ => h
  | f + 1, h, q => if q = [] then h else polyM r f ((h + leNM (q.take 16 ++ [1])) * r % pM) (q.drop 16)
def valM (a b c d e : Nat) : Nat := a + b * 67108864 + c * 4503599627370496 + d * 302231454903657293676544 + e * 20282409603651670423947251286016
abbrev X75 := List UInt8 × Nat × Nat × Nat × Nat × Nat × Nat
def inv_75 (rb s : List UInt8) (r0 r1 r2 r3 r4 : Nat) : LInv where
  α := X75
  pre p := Lf (p.1.length ≤ p.2.1 ∧ p.2.1 ≤ s.length ∧ p.2.2.1 ≤ 67108864 ∧ p.2.2.2.1 ≤ 67108864 ∧ p.2.2.2.2.1 ≤ 67108864 ∧ p.2.2.2.2.2.1 ≤ 67108864 ∧ p.2.2.2.2.2.2 ≤ 67108864 ∧ polyM (leNM rb) p.2.1 (valM p.2.2.1 p.2.2.2.1 p.2.2.2.2.1 p.2.2.2.2.2.1 p.2.2.2.2.2.2 % pM) p.1 = polyM (leNM rb) s.length 0 s)
  st p := ⟨mkT [(0, .yld 0), (1, .ptr 2 1 0)], [⟨.grow, true, ofBytes rb⟩, ⟨.exact, true, [.int .u64 (p.2.2.1 : Nat), .int .u64 (p.2.2.2.1 : Nat), .int .u64 (p.2.2.2.2.1 : Nat), .int .u64 (p.2.2.2.2.2.1 : Nat), .int .u64 (p.2.2.2.2.2.2 : Nat), .int .u64 (r0 : Nat), .int .u64 (r1 : Nat), .int .u64 (r2 : Nat), .int .u64 (r3 : Nat), .int .u64 (r4 : Nat)]⟩, ⟨.exact, true, [.str p.1]⟩]⟩
  mu p := p.2.1
noncomputable def env_34 (hv : Nat → Option Pa) (hb : Nat → Option Bool) (rb s : List UInt8) (r0 r1 r2 r3 r4 : Nat) : Env :=
  e04 smG (fun i => bif Nat.beq i 99000 then some (fun _ => [[inv_75 rb s r0 r1 r2 r3 r4]]) else none) hv hb
noncomputable def goal_34 (hv : Nat → Option Pa) (hb : Nat → Option Bool) (rb : List UInt8) (r0 r1 r2 r3 r4 : Nat) (key s : List UInt8) (Q : Out → List Blk → Gh → Prop) : Prop :=
  callx (env_34 hv hb rb s r0 r1 r2 r3 r4) (wpx (env_34 hv hb rb s r0 r1 r2 r3 r4) 1000) 84 [.str key, .str s] [] {} Q
theorem vc_34 (rb : List UInt8) (r0 : Nat) (r1 : Nat) (r2 : Nat) (r3 : Nat) (r4 : Nat) (key : List UInt8) (s : List UInt8) (Q : Out → List Blk → Gh → Prop) : goal_34 (lookV [(344085, .str), (344094, .int .u8), (344095, .int .u8), (344104, .int .u8), (344105, .int .u8), (405509, .int .i64), (405512, .int .i64), (405513, .int .i64), (405517, .str), (393240, .int .u64), (393272, .int .u64), (393273, .int .u64), (393282, .int .u64), (393284, .int .u64), (393285, .int .u64), (397327, .int .u64), (397335, .int .u64), (397341, .int .u64), (397350, .int .u64), (397351, .int .u64), (397363, .int .u64), (397364, .int .u64), (397371, .int .u64), (405525, .str), (344121, .int .u64), (344130, .int .u64), (344135, .int .u64), (344139, .int .u64), (344147, .str), (344159, .int .u64), (344173, .int .u64), (344175, .int .u64), (344178, .int .u64), (344180, .int .u64), (344181, .int .u64), (344188, .int .u8), (344192, .int .u64), (344196, .str)]) (lookB [(1344064000, true), (1344072192, true), (1393216000, true), (1393232384, true), (1393224192, true), (1397320192, true), (1397312000, true), (401406, true), (397310, true), (1344096768, true), (1344104960, false)]) rb r0 r1 r2 r3 r4 key s Q = (
(bif (Nat.ble (16 : Nat) (List.length key)) then (∃ s_0 : (List UInt8), (((AV.str (List.take (16 : Nat) (List.drop (0 : Nat) key))) = (AV.str s_0)) ∧
 (bif (((Nat.blt (3 : Nat) (List.length s_0)) && (Nat.beq (List.length (ofBytes s_0)) (List.length s_0))) && true) then (bif ((Nat.beq (List.length (ofBytes s_0)) (List.length s_0)) && (Nat.blt (3 : Nat) (List.length s_0))) then (∃ n_1 : Int, (((List.getD (List.take (1 : Nat) (List.drop (3 : Nat) (ofBytes s_0))) (0 : Nat) AV.undef) = (AV.int .u8 n_1)) ∧
 (∃ n_2 : Int, (((AV.int .u8 (IntKind.wrap .u8 (Nat.cast ((Int.toNat (n_1 % (256 : Int))) &&& (15 : Nat)) : Int))) = (AV.int .u8 n_2)) ∧
 (bif (((Nat.blt (3 : Nat) (List.length s_0)) && (Nat.beq (List.length (ofBytes s_0)) (List.length s_0))) && true) then (bif (((((Nat.beq (List.length (ofBytes s_0)) (List.length s_0)) && (Nat.ble (4 : Nat) (List.length s_0))) && true) && true) && true) then ((((((oldL (0 : Nat) (ofBytes s_0)) && true) || (oldL (1 : Nat) (setRange (ofBytes s_0) (3 : Nat) ((AV.int .u8 n_2) :: [])))) && true) = true) ∧
 (bif (((Nat.blt (7 : Nat) (List.length s_0)) && (Nat.beq (List.length (setRange (ofBytes s_0) (3 : Nat) ((AV.int .u8 n_2) :: []))) (List.length s_0))) && true) then (bif ((Nat.beq (List.length (setRange (ofBytes s_0) (3 : Nat) ((AV.int .u8 n_2) :: []))) (List.length s_0)) && (Nat.blt (7 : Nat) (List.length s_0))) then (∃ n_3 : Int, (((List.getD (List.take (1 : Nat) (List.drop (7 : Nat) (setRange (ofBytes s_0) (3 : Nat) ((AV.int .u8 n_2) :: [])))) (0 : Nat) AV.undef) = (AV.int .u8 n_3)) ∧
 (∃ n_4 : Int, (((AV.int .u8 (IntKind.wrap .u8 (Nat.cast ((Int.toNat (n_3 % (256 : Int))) &&& (15 : Nat)) : Int))) = (AV.int .u8 n_4)) ∧
 (bif (((Nat.blt (7 : Nat) (List.length s_0)) && (Nat.beq (List.length (setRange (ofBytes s_0) (3 : Nat) ((AV.int .u8 n_2) :: []))) (List.length s_0))) && true) then (bif (((((Nat.beq (List.length (setRange (ofBytes s_0) (3 : Nat) ((AV.int .u8 n_2) :: []))) (List.length s_0)) && (Nat.ble (8 : Nat) (List.length s_0))) && true) && true) && true) then (((((((oldL (0 : Nat) (ofBytes s_0)) && true) && true) || (oldL (1 : Nat) (setRange (setRange (ofBytes s_0) (3 : Nat) ((AV.int .u8 n_2) :: [])) (7 : Nat) ((AV.int .u8 n_4) :: [])))) && true) = true) ∧
 (bif (((Nat.blt (11 : Nat) (List.length s_0)) && (Nat.beq (List.length (setRange (setRange (ofBytes s_0) (3 : Nat) ((AV.int .u8 n_2) :: [])) (7 : Nat) ((AV.int .u8 n_4) :: []))) (List.length s_0))) && true) then (bif ((Nat.beq (List.length (setRange (setRange (ofBytes s_0) (3 : Nat) ((AV.int .u8 n_2) :: [])) (7 : Nat) ((AV.int .u8 n_4) :: []))) (List.length s_0)) && (Nat.blt (11 : Nat) (List.length s_0))) then (∃ n_5 : Int, (((List.getD (List.take (1 : Nat) (List.drop (11 : Nat) (setRange (setRange (ofBytes s_0) (3 : Nat) ((AV.int .u8 n_2) :: [])) (7 : Nat) ((AV.int .u8 n_4) :: [])))) (0 : Nat) AV.undef) = (AV.int .u8 n_5)) ∧
 (∃ n_6 : Int, (((AV.int .u8 (IntKind.wrap .u8 (Nat.cast ((Int.toNat (n_5 % (256 : Int))) &&& (15 : Nat)) : Int))) = (AV.int .u8 n_6)) ∧
 (bif (((Nat.blt (11 : Nat) (List.length s_0)) && (Nat.beq (List.length (setRange (setRange (ofBytes s_0) (3 : Nat) ((AV.int .u8 n_2) :: [])) (7 : Nat) ((AV.int .u8 n_4) :: []))) (List.length s_0))) && true) then (bif (((((Nat.beq (List.length (setRange (setRange (ofBytes s_0) (3 : Nat) ((AV.int .u8 n_2) :: [])) (7 : Nat) ((AV.int .u8 n_4) :: []))) (List.length s_0)) && (Nat.ble (12 : Nat) (List.length s_0))) && true) && true) && true) then ((((((((oldL (0 : Nat) (ofBytes s_0)) && true) && true) && true) || (oldL (1 : Nat) (setRange (setRange (setRange (ofBytes s_0) (3 : Nat) ((AV.int .u8 n_2) :: [])) (7 : Nat) ((AV.int .u8 n_4) :: [])) (11 : Nat) ((AV.int .u8 n_6) :: [])))) && true) = true) ∧
 (bif (((Nat.blt (15 : Nat) (List.length s_0)) && (Nat.beq (List.length (setRange (setRange (setRange (ofBytes s_0) (3 : Nat) ((AV.int .u8 n_2) :: [])) (7 : Nat) ((AV.int .u8 n_4) :: [])) (11 : Nat) ((AV.int .u8 n_6) :: []))) (List.length s_0))) && true) then (bif ((Nat.beq (List.length (setRange (setRange (setRange (ofBytes s_0) (3 : Nat) ((AV.int .u8 n_2) :: [])) (7 : Nat) ((AV.int .u8 n_4) :: [])) (11 : Nat) ((AV.int .u8 n_6) :: []))) (List.length s_0)) && (Nat.blt (15 : Nat) (List.length s_0))) then (∃ n_7 : Int, (((List.getD (List.take (1 : Nat) (List.drop (15 : Nat) (setRange (setRange (setRange (ofBytes s_0) (3 : Nat) ((AV.int .u8 n_2) :: [])) (7 : Nat) ((AV.int .u8 n_4) :: [])) (11 : Nat) ((AV.int .u8 n_6) :: [])))) (0 : Nat) AV.undef) = (AV.int .u8 n_7)) ∧
 (∃ n_8 : Int, (((AV.int .u8 (IntKind.wrap .u8 (Nat.cast ((Int.toNat (n_7 % (256 : Int))) &&& (15 : Nat)) : Int))) = (AV.int .u8 n_8)) ∧
 (bif (((Nat.blt (15 : Nat) (List.length s_0)) && (Nat.beq (List.length (setRange (setRange (setRange (ofBytes s_0) (3 : Nat) ((AV.int .u8 n_2) :: [])) (7 : Nat) ((AV.int .u8 n_4) :: [])) (11 : Nat) ((AV.int .u8 n_6) :: []))) (List.length s_0))) && true) then (bif (((((Nat.beq (List.length (setRange (setRange (setRange (ofBytes s_0) (3 : Nat) ((AV.int .u8 n_2) :: [])) (7 : Nat) ((AV.int .u8 n_4) :: [])) (11 : Nat) ((AV.int .u8 n_6) :: []))) (List.length s_0)) && (Nat.ble (16 : Nat) (List.length s_0))) && true) && true) && true) then (((((((((oldL (0 : Nat) (ofBytes s_0)) && true) && true) && true) && true) || (oldL (1 : Nat) (setRange (setRange (setRange (setRange (ofBytes s_0) (3 : Nat) ((AV.int .u8 n_2) :: [])) (7 : Nat) ((AV.int .u8 n_4) :: [])) (11 : Nat) ((AV.int .u8 n_6) :: [])) (15 : Nat) ((AV.int .u8 n_8) :: [])))) && true) = true) ∧
 (bif (((Nat.blt (4 : Nat) (List.length s_0)) && (Nat.beq (List.length (setRange (setRange (setRange (setRange (ofBytes s_0) (3 : Nat) ((AV.int .u8 n_2) :: [])) (7 : Nat) ((AV.int .u8 n_4) :: [])) (11 : Nat) ((AV.int .u8 n_6) :: [])) (15 : Nat) ((AV.int .u8 n_8) :: []))) (List.length s_0))) && true) then (bif ((Nat.beq (List.length (setRange (setRange (setRange (setRange (ofBytes s_0) (3 : Nat) ((AV.int .u8 n_2) :: [])) (7 : Nat) ((AV.int .u8 n_4) :: [])) (11 : Nat) ((AV.int .u8 n_6) :: [])) (15 : Nat) ((AV.int .u8 n_8) :: []))) (List.length s_0)) && (Nat.blt (4 : Nat) (List.length s_0))) then (∃ n_9 : Int, (((List.getD (List.take (1 : Nat) (List.drop (4 : Nat) (setRange (setRange (setRange (setRange (ofBytes s_0) (3 : Nat) ((AV.int .u8 n_2) :: [])) (7 : Nat) ((AV.int .u8 n_4) :: [])) (11 : Nat) ((AV.int .u8 n_6) :: [])) (15 : Nat) ((AV.int .u8 n_8) :: [])))) (0 : Nat) AV.undef) = (AV.int .u8 n_9)) ∧
 (∃ n_10 : Int, (((AV.int .u8 (IntKind.wrap .u8 (Nat.cast ((Int.toNat (n_9 % (256 : Int))) &&& (252 : Nat)) : Int))) = (AV.int .u8 n_10)) ∧
 (bif (((Nat.blt (4 : Nat) (List.length s_0)) && (Nat.beq (List.length (setRange (setRange (setRange (setRange (ofBytes s_0) (3 : Nat) ((AV.int .u8 n_2) :: [])) (7 : Nat) ((AV.int .u8 n_4) :: [])) (11 : Nat) ((AV.int .u8 n_6) :: [])) (15 : Nat) ((AV.int .u8 n_8) :: []))) (List.length s_0))) && true) then (bif (((((Nat.beq (List.length (setRange (setRange (setRange (setRange (ofBytes s_0) (3 : Nat) ((AV.int .u8 n_2) :: [])) (7 : Nat) ((AV.int .u8 n_4) :: [])) (11 : Nat) ((AV.int .u8 n_6) :: [])) (15 : Nat) ((AV.int .u8 n_8) :: []))) (List.length s_0)) && (Nat.ble (5 : Nat) (List.length s_0))) && true) && true) && true) then ((((((((((oldL (0 : Nat) (ofBytes s_0)) && true) && true) && true) && true) && true) || (oldL (1 : Nat) (setRange (setRange (setRange (setRange (setRange (ofBytes s_0) (3 : Nat) ((AV.int .u8 n_2) :: [])) (7 : Nat) ((AV.int .u8 n_4) :: [])) (11 : Nat) ((AV.int .u8 n_6) :: [])) (15 : Nat) ((AV.int .u8 n_8) :: [])) (4 : Nat) ((AV.int .u8 n_10) :: [])))) && true) = true) ∧
 (bif (((Nat.blt (8 : Nat) (List.length s_0)) && (Nat.beq (List.length (setRange (setRange (setRange (setRange (setRange (ofBytes s_0) (3 : Nat) ((AV.int .u8 n_2) :: [])) (7 : Nat) ((AV.int .u8 n_4) :: [])) (11 : Nat) ((AV.int .u8 n_6) :: [])) (15 : Nat) ((AV.int .u8 n_8) :: [])) (4 : Nat) ((AV.int .u8 n_10) :: []))) (List.length s_0))) && true) then (bif ((Nat.beq (List.length (setRange (setRange (setRange (setRange (setRange (ofBytes s_0) (3 : Nat) ((AV.int .u8 n_2) :: [])) (7 : Nat) ((AV.int .u8 n_4) :: [])) (11 : Nat) ((AV.int .u8 n_6) :: [])) (15 : Nat) ((AV.int .u8 n_8) :: [])) (4 : Nat) ((AV.int .u8 n_10) :: []))) (List.length s_0)) && (Nat.blt (8 : Nat) (List.length s_0))) then (∃ n_11 : Int, (((List.getD (List.take (1 : Nat) (List.drop (8 : Nat) (setRange (setRange (setRange (setRange (setRange (ofBytes s_0) (3 : Nat) ((AV.int .u8 n_2) :: [])) (7 : Nat) ((AV.int .u8 n_4) :: [])) (11 : Nat) ((AV.int .u8 n_6) :: [])) (15 : Nat) ((AV.int .u8 n_8) :: [])) (4 : Nat) ((AV.int .u8 n_10) :: [])))) (0 : Nat) AV.undef) = (AV.int .u8 n_11)) ∧
 (∃ n_12 : Int, (((AV.int .u8 (IntKind.wrap .u8 (Nat.cast ((Int.toNat (n_11 % (256 : Int))) &&& (252 : Nat)) : Int))) = (AV.int .u8 n_12)) ∧
 (bif (((Nat.blt (8 : Nat) (List.length s_0)) && (Nat.beq (List.length (setRange (setRange (setRange (setRange (setRange (ofBytes s_0) (3 : Nat) ((AV.int .u8 n_2) :: [])) (7 : Nat) ((AV.int .u8 n_4) :: [])) (11 : Nat) ((AV.int .u8 n_6) :: [])) (15 : Nat) ((AV.int .u8 n_8) :: [])) (4 : Nat) ((AV.int .u8 n_10) :: []))) (List.length s_0))) && true) then (bif (((((Nat.beq (List.length (setRange (setRange (setRange (setRange (setRange (ofBytes s_0) (3 : Nat) ((AV.int .u8 n_2) :: [])) (7 : Nat) ((AV.int .u8 n_4) :: [])) (11 : Nat) ((AV.int .u8 n_6) :: [])) (15 : Nat) ((AV.int .u8 n_8) :: [])) (4 : Nat) ((AV.int .u8 n_10) :: []))) (List.length s_0)) && (Nat.ble (9 : Nat) (List.length s_0))) && true) && true) && true) then (((((((((((oldL (0 : Nat) (ofBytes s_0)) && true) && true) && true) && true) && true) && true) || (oldL (1 : Nat) (setRange (setRange (setRange (setRange (setRange (setRange (ofBytes s_0) (3 : Nat) ((AV.int .u8 n_2) :: [])) (7 : Nat) ((AV.int .u8 n_4) :: [])) (11 : Nat) ((AV.int .u8 n_6) :: [])) (15 : Nat) ((AV.int .u8 n_8) :: [])) (4 : Nat) ((AV.int .u8 n_10) :: [])) (8 : Nat) ((AV.int .u8 n_12) :: [])))) && true) = true) ∧
 (bif (((Nat.blt (12 : Nat) (List.length s_0)) && (Nat.beq (List.length (setRange (setRange (setRange (setRange (setRange (setRange (ofBytes s_0) (3 : Nat) ((AV.int .u8 n_2) :: [])) (7 : Nat) ((AV.int .u8 n_4) :: [])) (11 : Nat) ((AV.int .u8 n_6) :: [])) (15 : Nat) ((AV.int .u8 n_8) :: [])) (4 : Nat) ((AV.int .u8 n_10) :: [])) (8 : Nat) ((AV.int .u8 n_12) :: []))) (List.length s_0))) && true) then (bif ((Nat.beq (List.length (setRange (setRange (setRange (setRange (setRange (setRange (ofBytes s_0) (3 : Nat) ((AV.int .u8 n_2) :: [])) (7 : Nat) ((AV.int .u8 n_4) :: [])) (11 : Nat) ((AV.int .u8 n_6) :: [])) (15 : Nat) ((AV.int .u8 n_8) :: [])) (4 : Nat) ((AV.int .u8 n_10) :: [])) (8 : Nat) ((AV.int .u8 n_12) :: []))) (List.length s_0)) && (Nat.blt (12 : Nat) (List.length s_0))) then (∃ n_13 : Int, (((List.getD (List.take (1 : Nat) (List.drop (12 : Nat) (setRange (setRange (setRange (setRange (setRange (setRange (ofBytes s_0) (3 : Nat) ((AV.int .u8 n_2) :: [])) (7 : Nat) ((AV.int .u8 n_4) :: [])) (11 : Nat) ((AV.int .u8 n_6) :: [])) (15 : Nat) ((AV.int .u8 n_8) :: [])) (4 : Nat) ((AV.int .u8 n_10) :: [])) (8 : Nat) ((AV.int .u8 n_12) :: [])))) (0 : Nat) AV.undef) = (AV.int .u8 n_13)) ∧
 (∃ n_14 : Int, (((AV.int .u8 (IntKind.wrap .u8 (Nat.cast ((Int.toNat (n_13 % (256 : Int))) &&& (252 : Nat)) : Int))) = (AV.int .u8 n_14)) ∧
 (bif (((Nat.blt (12 : Nat) (List.length s_0)) && (Nat.beq (List.length (setRange (setRange (setRange (setRange (setRange (setRange (ofBytes s_0) (3 : Nat) ((AV.int .u8 n_2) :: [])) (7 : Nat) ((AV.int .u8 n_4) :: [])) (11 : Nat) ((AV.int .u8 n_6) :: [])) (15 : Nat) ((AV.int .u8 n_8) :: [])) (4 : Nat) ((AV.int .u8 n_10) :: [])) (8 : Nat) ((AV.int .u8 n_12) :: []))) (List.length s_0))) && true) then (bif (((((Nat.beq (List.length (setRange (setRange (setRange (setRange (setRange (setRange (ofBytes s_0) (3 : Nat) ((AV.int .u8 n_2) :: [])) (7 : Nat) ((AV.int .u8 n_4) :: [])) (11 : Nat) ((AV.int .u8 n_6) :: [])) (15 : Nat) ((AV.int .u8 n_8) :: [])) (4 : Nat) ((AV.int .u8 n_10) :: [])) (8 : Nat) ((AV.int .u8 n_12) :: []))) (List.length s_0)) && (Nat.ble (13 : Nat) (List.length s_0))) && true) && true) && true) then ((((((((((((oldL (0 : Nat) (ofBytes s_0)) && true) && true) && true) && true) && true) && true) && true) || (oldL (1 : Nat) (setRange (setRange (setRange (setRange (setRange (setRange (setRange (ofBytes s_0) (3 : Nat) ((AV.int .u8 n_2) :: [])) (7 : Nat) ((AV.int .u8 n_4) :: [])) (11 : Nat) ((AV.int .u8 n_6) :: [])) (15 : Nat) ((AV.int .u8 n_8) :: [])) (4 : Nat) ((AV.int .u8 n_10) :: [])) (8 : Nat) ((AV.int .u8 n_12) :: [])) (12 : Nat) ((AV.int .u8 n_14) :: [])))) && true) = true) ∧
 (bif (((Nat.beq (List.length (setRange (setRange (setRange (setRange (setRange (setRange (setRange (ofBytes s_0) (3 : Nat) ((AV.int .u8 n_2) :: [])) (7 : Nat) ((AV.int .u8 n_4) :: [])) (11 : Nat) ((AV.int .u8 n_6) :: [])) (15 : Nat) ((AV.int .u8 n_8) :: [])) (4 : Nat) ((AV.int .u8 n_10) :: [])) (8 : Nat) ((AV.int .u8 n_12) :: [])) (12 : Nat) ((AV.int .u8 n_14) :: []))) (List.length s_0)) && (Nat.ble ((0 : Nat) + ((List.length s_0) * (1 : Nat))) (List.length s_0))) && true) then (∃ s_15 : (List UInt8), ((Lf (((List.map (fun x_16 : AV => (frzV (1 : Nat) ((Blk.mk BK.grow ((((((((oldL (0 : Nat) (ofBytes s_0)) && true) && true) && true) && true) && true) && true) && true) (setRange (setRange (setRange (setRange (setRange (setRange (setRange (ofBytes s_0) (3 : Nat) ((AV.int .u8 n_2) :: [])) (7 : Nat) ((AV.int .u8 n_4) :: [])) (11 : Nat) ((AV.int .u8 n_6) :: [])) (15 : Nat) ((AV.int .u8 n_8) :: [])) (4 : Nat) ((AV.int .u8 n_10) :: [])) (8 : Nat) ((AV.int .u8 n_12) :: [])) (12 : Nat) ((AV.int .u8 n_14) :: []))) :: []) (8 : Nat) x_16)) (List.take ((List.length s_0) * (1 : Nat)) (List.drop (0 : Nat) (setRange (setRange (setRange (setRange (setRange (setRange (setRange (ofBytes s_0) (3 : Nat) ((AV.int .u8 n_2) :: [])) (7 : Nat) ((AV.int .u8 n_4) :: [])) (11 : Nat) ((AV.int .u8 n_6) :: [])) (15 : Nat) ((AV.int .u8 n_8) :: [])) (4 : Nat) ((AV.int .u8 n_10) :: [])) (8 : Nat) ((AV.int .u8 n_12) :: [])) (12 : Nat) ((AV.int .u8 n_14) :: []))))) = (ofBytes s_15)) ∧
 (((List.length s_0) = (List.length s_15)) ∧
 (((List.length s_15) ≤ (17 : Nat)) ∧
 ((leNM s_15) < (1361129467683753853853498429727072845824 : Nat)))))) ∧
 (∀ a_16 : Nat, (∀ b_17 : Nat, (∀ c_18 : Nat, (∀ d_19 : Nat, (∀ e_20 : Nat, ((Lf ((limM (leNM s_15)) = (a_16 :: (b_17 :: (c_18 :: (d_19 :: (e_20 :: []))))))) →
((∃ x_21 : (Prod (List UInt8) (Prod Nat (Prod Nat (Prod Nat (Prod Nat (Prod Nat Nat)))))), ((Lf (((List.length (Prod.fst x_21)) ≤ (Prod.fst (Prod.snd x_21))) ∧
 (((Prod.fst (Prod.snd x_21)) ≤ (List.length s)) ∧
 (((Prod.fst (Prod.snd (Prod.snd x_21))) ≤ (67108864 : Nat)) ∧
 (((Prod.fst (Prod.snd (Prod.snd (Prod.snd x_21)))) ≤ (67108864 : Nat)) ∧
 (((Prod.fst (Prod.snd (Prod.snd (Prod.snd (Prod.snd x_21))))) ≤ (67108864 : Nat)) ∧
 (((Prod.fst (Prod.snd (Prod.snd (Prod.snd (Prod.snd (Prod.snd x_21)))))) ≤ (67108864 : Nat)) ∧
 (((Prod.snd (Prod.snd (Prod.snd (Prod.snd (Prod.snd (Prod.snd x_21)))))) ≤ (67108864 : Nat)) ∧
 ((polyM (leNM rb) (Prod.fst (Prod.snd x_21)) ((valM (Prod.fst (Prod.snd (Prod.snd x_21))) (Prod.fst (Prod.snd (Prod.snd (Prod.snd x_21)))) (Prod.fst (Prod.snd (Prod.snd (Prod.snd (Prod.snd x_21))))) (Prod.fst (Prod.snd (Prod.snd (Prod.snd (Prod.snd (Prod.snd x_21)))))) (Prod.snd (Prod.snd (Prod.snd (Prod.snd (Prod.snd (Prod.snd x_21))))))) % pM) (Prod.fst x_21)) = (polyM (leNM rb) (List.length s) (0 : Nat) s)))))))))) ∧
 (bif (((((((((oldL (0 : Nat) (ofBytes s_0)) && true) && true) && true) && true) && true) && true) && true) == true) then (((setRange (setRange (setRange (setRange (setRange (setRange (setRange (ofBytes s_0) (3 : Nat) ((AV.int .u8 n_2) :: [])) (7 : Nat) ((AV.int .u8 n_4) :: [])) (11 : Nat) ((AV.int .u8 n_6) :: [])) (15 : Nat) ((AV.int .u8 n_8) :: [])) (4 : Nat) ((AV.int .u8 n_10) :: [])) (8 : Nat) ((AV.int .u8 n_12) :: [])) (12 : Nat) ((AV.int .u8 n_14) :: [])) = (ofBytes rb)) ∧
 ((((AV.int .u64 (0 : Int)) :: ((AV.int .u64 (0 : Int)) :: ((AV.int .u64 (0 : Int)) :: ((AV.int .u64 (0 : Int)) :: ((AV.int .u64 (0 : Int)) :: ((AV.int .u64 (Nat.cast a_16 : Int)) :: ((AV.int .u64 (Nat.cast b_17 : Int)) :: ((AV.int .u64 (Nat.cast c_18 : Int)) :: ((AV.int .u64 (Nat.cast d_19 : Int)) :: ((AV.int .u64 (Nat.cast e_20 : Int)) :: [])))))))))) = ((AV.int .u64 (Nat.cast (Prod.fst (Prod.snd (Prod.snd x_21))) : Int)) :: ((AV.int .u64 (Nat.cast (Prod.fst (Prod.snd (Prod.snd (Prod.snd x_21)))) : Int)) :: ((AV.int .u64 (Nat.cast (Prod.fst (Prod.snd (Prod.snd (Prod.snd (Prod.snd x_21))))) : Int)) :: ((AV.int .u64 (Nat.cast (Prod.fst (Prod.snd (Prod.snd (Prod.snd (Prod.snd (Prod.snd x_21)))))) : Int)) :: ((AV.int .u64 (Nat.cast (Prod.snd (Prod.snd (Prod.snd (Prod.snd (Prod.snd (Prod.snd x_21)))))) : Int)) :: ((AV.int .u64 (Nat.cast r0 : Int)) :: ((AV.int .u64 (Nat.cast r1 : Int)) :: ((AV.int .u64 (Nat.cast r2 : Int)) :: ((AV.int .u64 (Nat.cast r3 : Int)) :: ((AV.int .u64 (Nat.cast r4 : Int)) :: []))))))))))) ∧
 ((((AV.str s) :: []) = ((AV.str (Prod.fst x_21)) :: [])) ∧
 (((AV.yld (0 : Nat)) = (AV.yld (0 : Nat))) ∧
 (((AV.ptr (2 : Nat) (1 : Nat) (0 : Nat)) = (AV.ptr (2 : Nat) (1 : Nat) (0 : Nat))) ∧
 True)))))
else False))) ∧
 (∀ x_21 : (Prod (List UInt8) (Prod Nat (Prod Nat (Prod Nat (Prod Nat (Prod Nat Nat)))))), ((Lf (((List.length (Prod.fst x_21)) ≤ (Prod.fst (Prod.snd x_21))) ∧
 (((Prod.fst (Prod.snd x_21)) ≤ (List.length s)) ∧
 (((Prod.fst (Prod.snd (Prod.snd x_21))) ≤ (67108864 : Nat)) ∧
 (((Prod.fst (Prod.snd (Prod.snd (Prod.snd x_21)))) ≤ (67108864 : Nat)) ∧
 (((Prod.fst (Prod.snd (Prod.snd (Prod.snd (Prod.snd x_21))))) ≤ (67108864 : Nat)) ∧
 (((Prod.fst (Prod.snd (Prod.snd (Prod.snd (Prod.snd (Prod.snd x_21)))))) ≤ (67108864 : Nat)) ∧
 (((Prod.snd (Prod.snd (Prod.snd (Prod.snd (Prod.snd (Prod.snd x_21)))))) ≤ (67108864 : Nat)) ∧
 ((polyM (leNM rb) (Prod.fst (Prod.snd x_21)) ((valM (Prod.fst (Prod.snd (Prod.snd x_21))) (Prod.fst (Prod.snd (Prod.snd (Prod.snd x_21)))) (Prod.fst (Prod.snd (Prod.snd (Prod.snd (Prod.snd x_21))))) (Prod.fst (Prod.snd (Prod.snd (Prod.snd (Prod.snd (Prod.snd x_21)))))) (Prod.snd (Prod.snd (Prod.snd (Prod.snd (Prod.snd (Prod.snd x_21))))))) % pM) (Prod.fst x_21)) = (polyM (leNM rb) (List.length s) (0 : Nat) s)))))))))) →
(∃ n_22 : Int, (((AV.int .i64 (Nat.cast (List.length (Prod.fst x_21)) : Int)) = (AV.int .i64 n_22)) ∧
 (bif (decide (n_22 > (0 : Int))) then (∃ n_23 : Int, (((AV.int .i64 (Nat.cast (List.length (Prod.fst x_21)) : Int)) = (AV.int .i64 n_23)) ∧
 (∃ n_24 : Int, (((AV.int .i64 (imin n_23 (16 : Int))) = (AV.int .i64 n_24)) ∧
 (bif (((decide ((0 : Int) ≤ n_24)) && true) && (Nat.ble (Int.toNat n_24) (List.length (Prod.fst x_21)))) then (∃ s_25 : (List UInt8), (((AV.str (List.take ((Int.toNat n_24) - (0 : Nat)) (List.drop (0 : Nat) (Prod.fst x_21)))) = (AV.str s_25)) ∧
 (bif (((((Nat.beq (List.length (ofBytes s_25)) (List.length s_25)) && true) && (Nat.beq ((0 : Nat) + ((List.length s_25) * (1 : Nat))) (List.length s_25))) && (Nat.ble ((List.length s_25) + (1 : Nat)) (1099511627776 : Nat))) && (Nat.ble (((List.length s_25) + (1 : Nat)) * (1 : Nat)) (1099511627776 : Nat))) then (bif (((Nat.beq (List.length ((ofBytes s_25) ++ ((AV.int .u8 (1 : Int)) :: []))) ((List.length s_25) + (1 : Nat))) && (Nat.ble ((0 : Nat) + (((List.length s_25) + (1 : Nat)) * (1 : Nat))) ((List.length s_25) + (1 : Nat)))) && true) then (∃ s_26 : (List UInt8), ((Lf (((List.map (fun x_27 : AV => (frzV (1 : Nat) ((Blk.mk BK.grow true (ofBytes rb)) :: ((Blk.mk BK.exact true ((AV.int .u64 (Nat.cast (Prod.fst (Prod.snd (Prod.snd x_21))) : Int)) :: ((AV.int .u64 (Nat.cast (Prod.fst (Prod.snd (Prod.snd (Prod.snd x_21)))) : Int)) :: ((AV.int .u64 (Nat.cast (Prod.fst (Prod.snd (Prod.snd (Prod.snd (Prod.snd x_21))))) : Int)) :: ((AV.int .u64 (Nat.cast (Prod.fst (Prod.snd (Prod.snd (Prod.snd (Prod.snd (Prod.snd x_21)))))) : Int)) :: ((AV.int .u64 (Nat.cast (Prod.snd (Prod.snd (Prod.snd (Prod.snd (Prod.snd (Prod.snd x_21)))))) : Int)) :: ((AV.int .u64 (Nat.cast r0 : Int)) :: ((AV.int .u64 (Nat.cast r1 : Int)) :: ((AV.int .u64 (Nat.cast r2 : Int)) :: ((AV.int .u64 (Nat.cast r3 : Int)) :: ((AV.int .u64 (Nat.cast r4 : Int)) :: []))))))))))) :: ((Blk.mk BK.exact true ((AV.str (Prod.fst x_21)) :: [])) :: ((Blk.mk BK.grow ((oldL (0 : Nat) (ofBytes s_25)) && true) ((ofBytes s_25) ++ ((AV.int .u8 (1 : Int)) :: []))) :: ((Blk.mk BK.exact true ((AV.int .u8 (1 : Int)) :: [])) :: []))))) (8 : Nat) x_27)) (List.take (((List.length s_25) + (1 : Nat)) * (1 : Nat)) (List.drop (0 : Nat) ((ofBytes s_25) ++ ((AV.int .u8 (1 : Int)) :: []))))) = (ofBytes s_26)) ∧
 ((((List.length s_25) + (1 : Nat)) = (List.length s_26)) ∧
 (((List.length s_26) ≤ (17 : Nat)) ∧
 ((leNM s_26) < (1361129467683753853853498429727072845824 : Nat)))))) ∧
 (∀ a_27 : Nat, (∀ b_28 : Nat, (∀ c_29 : Nat, (∀ d_30 : Nat, (∀ e_31 : Nat, ((Lf ((limM (leNM s_26)) = (a_27 :: (b_28 :: (c_29 :: (d_30 :: (e_31 :: []))))))) →
(∃ n_32 : Int, (((AV.int .u64 (IntKind.wrap .u64 ((Nat.cast (Prod.fst (Prod.snd (Prod.snd x_21))) : Int) + (Nat.cast a_27 : Int)))) = (AV.int .u64 n_32)) ∧
 ((((((oldL (0 : Nat) (ofBytes s_25)) && true) || (oldL (5 : Nat) ((ofBytes s_25) ++ ((AV.int .u8 (1 : Int)) :: [])))) && true) = true) ∧
 (∃ n_33 : Int, (((AV.int .u64 (IntKind.wrap .u64 ((Nat.cast (Prod.fst (Prod.snd (Prod.snd (Prod.snd x_21)))) : Int) + (Nat.cast b_28 : Int)))) = (AV.int .u64 n_33)) ∧
 ((((((oldL (0 : Nat) (ofBytes s_25)) && true) || (oldL (5 : Nat) ((ofBytes s_25) ++ ((AV.int .u8 (1 : Int)) :: [])))) && true) = true) ∧
 (∃ n_34 : Int, (((AV.int .u64 (IntKind.wrap .u64 ((Nat.cast (Prod.fst (Prod.snd (Prod.snd (Prod.snd (Prod.snd x_21))))) : Int) + (Nat.cast c_29 : Int)))) = (AV.int .u64 n_34)) ∧
 ((((((oldL (0 : Nat) (ofBytes s_25)) && true) || (oldL (5 : Nat) ((ofBytes s_25) ++ ((AV.int .u8 (1 : Int)) :: [])))) && true) = true) ∧
 (∃ n_35 : Int, (((AV.int .u64 (IntKind.wrap .u64 ((Nat.cast (Prod.fst (Prod.snd (Prod.snd (Prod.snd (Prod.snd (Prod.snd x_21)))))) : Int) + (Nat.cast d_30 : Int)))) = (AV.int .u64 n_35)) ∧
 ((((((oldL (0 : Nat) (ofBytes s_25)) && true) || (oldL (5 : Nat) ((ofBytes s_25) ++ ((AV.int .u8 (1 : Int)) :: [])))) && true) = true) ∧
 (∃ n_36 : Int, (((AV.int .u64 (IntKind.wrap .u64 ((Nat.cast (Prod.snd (Prod.snd (Prod.snd (Prod.snd (Prod.snd (Prod.snd x_21)))))) : Int) + (Nat.cast e_31 : Int)))) = (AV.int .u64 n_36)) ∧
 ((((((oldL (0 : Nat) (ofBytes s_25)) && true) || (oldL (5 : Nat) ((ofBytes s_25) ++ ((AV.int .u8 (1 : Int)) :: [])))) && true) = true) ∧
 (∃ n_37 : Int, (((AV.int .u64 (IntKind.wrap .u64 (n_32 * (Nat.cast r0 : Int)))) = (AV.int .u64 n_37)) ∧
 (∃ n_38 : Int, (((AV.int .u64 (IntKind.wrap .u64 ((0 : Int) + n_37))) = (AV.int .u64 n_38)) ∧
 ((((((oldL (0 : Nat) (ofBytes s_25)) && true) || (oldL (6 : Nat) ((ofBytes s_25) ++ ((AV.int .u8 (1 : Int)) :: [])))) && true) = true) ∧
 (∃ n_39 : Int, (((AV.int .u64 (IntKind.wrap .u64 (n_32 * (Nat.cast r1 : Int)))) = (AV.int .u64 n_39)) ∧
 (∃ n_40 : Int, (((AV.int .u64 (IntKind.wrap .u64 ((0 : Int) + n_39))) = (AV.int .u64 n_40)) ∧
 ((((((oldL (0 : Nat) (ofBytes s_25)) && true) || (oldL (6 : Nat) ((ofBytes s_25) ++ ((AV.int .u8 (1 : Int)) :: [])))) && true) = true) ∧
 (∃ n_41 : Int, (((AV.int .u64 (IntKind.wrap .u64 (n_32 * (Nat.cast r2 : Int)))) = (AV.int .u64 n_41)) ∧
 (∃ n_42 : Int, (((AV.int .u64 (IntKind.wrap .u64 ((0 : Int) + n_41))) = (AV.int .u64 n_42)) ∧
 ((((((oldL (0 : Nat) (ofBytes s_25)) && true) || (oldL (6 : Nat) ((ofBytes s_25) ++ ((AV.int .u8 (1 : Int)) :: [])))) && true) = true) ∧
 (∃ n_43 : Int, (((AV.int .u64 (IntKind.wrap .u64 (n_32 * (Nat.cast r3 : Int)))) = (AV.int .u64 n_43)) ∧
 (∃ n_44 : Int, (((AV.int .u64 (IntKind.wrap .u64 ((0 : Int) + n_43))) = (AV.int .u64 n_44)) ∧
 ((((((oldL (0 : Nat) (ofBytes s_25)) && true) || (oldL (6 : Nat) ((ofBytes s_25) ++ ((AV.int .u8 (1 : Int)) :: [])))) && true) = true) ∧
 (∃ n_45 : Int, (((AV.int .u64 (IntKind.wrap .u64 (n_32 * (Nat.cast r4 : Int)))) = (AV.int .u64 n_45)) ∧
 (∃ n_46 : Int, (((AV.int .u64 (IntKind.wrap .u64 ((0 : Int) + n_45))) = (AV.int .u64 n_46)) ∧
 ((((((oldL (0 : Nat) (ofBytes s_25)) && true) || (oldL (6 : Nat) ((ofBytes s_25) ++ ((AV.int .u8 (1 : Int)) :: [])))) && true) = true) ∧
 ((((((oldL (0 : Nat) (ofBytes s_25)) && true) || (oldL (6 : Nat) ((ofBytes s_25) ++ ((AV.int .u8 (1 : Int)) :: [])))) && true) = true) ∧
 (∃ n_47 : Int, (((AV.int .u64 (IntKind.wrap .u64 (n_33 * (Nat.cast r0 : Int)))) = (AV.int .u64 n_47)) ∧
 (∃ n_48 : Int, (((AV.int .u64 (IntKind.wrap .u64 (n_40 + n_47))) = (AV.int .u64 n_48)) ∧
 ((((((oldL (0 : Nat) (ofBytes s_25)) && true) || (oldL (6 : Nat) ((ofBytes s_25) ++ ((AV.int .u8 (1 : Int)) :: [])))) && true) = true) ∧
 (∃ n_49 : Int, (((AV.int .u64 (IntKind.wrap .u64 (n_33 * (Nat.cast r1 : Int)))) = (AV.int .u64 n_49)) ∧
 (∃ n_50 : Int, (((AV.int .u64 (IntKind.wrap .u64 (n_42 + n_49))) = (AV.int .u64 n_50)) ∧
 ((((((oldL (0 : Nat) (ofBytes s_25)) && true) || (oldL (6 : Nat) ((ofBytes s_25) ++ ((AV.int .u8 (1 : Int)) :: [])))) && true) = true) ∧
 (∃ n_51 : Int, (((AV.int .u64 (IntKind.wrap .u64 (n_33 * (Nat.cast r2 : Int)))) = (AV.int .u64 n_51)) ∧
 (∃ n_52 : Int, (((AV.int .u64 (IntKind.wrap .u64 (n_44 + n_51))) = (AV.int .u64 n_52)) ∧
 ((((((oldL (0 : Nat) (ofBytes s_25)) && true) || (oldL (6 : Nat) ((ofBytes s_25) ++ ((AV.int .u8 (1 : Int)) :: [])))) && true) = true) ∧
 (∃ n_53 : Int, (((AV.int .u64 (IntKind.wrap .u64 (n_33 * (Nat.cast r3 : Int)))) = (AV.int .u64 n_53)) ∧
 (∃ n_54 : Int, (((AV.int .u64 (IntKind.wrap .u64 (n_46 + n_53))) = (AV.int .u64 n_54)) ∧
 ((((((oldL (0 : Nat) (ofBytes s_25)) && true) || (oldL (6 : Nat) ((ofBytes s_25) ++ ((AV.int .u8 (1 : Int)) :: [])))) && true) = true) ∧
 (∃ n_55 : Int, (((AV.int .u64 (IntKind.wrap .u64 ((5 : Int) * n_33))) = (AV.int .u64 n_55)) ∧
 (∃ n_56 : Int, (((AV.int .u64 (IntKind.wrap .u64 (n_55 * (Nat.cast r4 : Int)))) = (AV.int .u64 n_56)) ∧
 (∃ n_57 : Int, (((AV.int .u64 (IntKind.wrap .u64 (n_38 + n_56))) = (AV.int .u64 n_57)) ∧
 ((((((oldL (0 : Nat) (ofBytes s_25)) && true) || (oldL (6 : Nat) ((ofBytes s_25) ++ ((AV.int .u8 (1 : Int)) :: [])))) && true) = true) ∧
 ((((((oldL (0 : Nat) (ofBytes s_25)) && true) || (oldL (6 : Nat) ((ofBytes s_25) ++ ((AV.int .u8 (1 : Int)) :: [])))) && true) = true) ∧
 (∃ n_58 : Int, (((AV.int .u64 (IntKind.wrap .u64 (n_34 * (Nat.cast r0 : Int)))) = (AV.int .u64 n_58)) ∧
 (∃ n_59 : Int, (((AV.int .u64 (IntKind.wrap .u64 (n_50 + n_58))) = (AV.int .u64 n_59)) ∧
 ((((((oldL (0 : Nat) (ofBytes s_25)) && true) || (oldL (6 : Nat) ((ofBytes s_25) ++ ((AV.int .u8 (1 : Int)) :: [])))) && true) = true) ∧
 (∃ n_60 : Int, (((AV.int .u64 (IntKind.wrap .u64 (n_34 * (Nat.cast r1 : Int)))) = (AV.int .u64 n_60)) ∧
 (∃ n_61 : Int, (((AV.int .u64 (IntKind.wrap .u64 (n_52 + n_60))) = (AV.int .u64 n_61)) ∧
 ((((((oldL (0 : Nat) (ofBytes s_25)) && true) || (oldL (6 : Nat) ((ofBytes s_25) ++ ((AV.int .u8 (1 : Int)) :: [])))) && true) = true) ∧
 (∃ n_62 : Int, (((AV.int .u64 (IntKind.wrap .u64 (n_34 * (Nat.cast r2 : Int)))) = (AV.int .u64 n_62)) ∧
 (∃ n_63 : Int, (((AV.int .u64 (IntKind.wrap .u64 (n_54 + n_62))) = (AV.int .u64 n_63)) ∧
 ((((((oldL (0 : Nat) (ofBytes s_25)) && true) || (oldL (6 : Nat) ((ofBytes s_25) ++ ((AV.int .u8 (1 : Int)) :: [])))) && true) = true) ∧
 (∃ n_64 : Int, (((AV.int .u64 (IntKind.wrap .u64 ((5 : Int) * n_34))) = (AV.int .u64 n_64)) ∧
 (∃ n_65 : Int, (((AV.int .u64 (IntKind.wrap .u64 (n_64 * (Nat.cast r3 : Int)))) = (AV.int .u64 n_65)) ∧
 (∃ n_66 : Int, (((AV.int .u64 (IntKind.wrap .u64 (n_57 + n_65))) = (AV.int .u64 n_66)) ∧
 ((((((oldL (0 : Nat) (ofBytes s_25)) && true) || (oldL (6 : Nat) ((ofBytes s_25) ++ ((AV.int .u8 (1 : Int)) :: [])))) && true) = true) ∧
 (∃ n_67 : Int, (((AV.int .u64 (IntKind.wrap .u64 ((5 : Int) * n_34))) = (AV.int .u64 n_67)) ∧
 (∃ n_68 : Int, (((AV.int .u64 (IntKind.wrap .u64 (n_67 * (Nat.cast r4 : Int)))) = (AV.int .u64 n_68)) ∧
 (∃ n_69 : Int, (((AV.int .u64 (IntKind.wrap .u64 (n_48 + n_68))) = (AV.int .u64 n_69)) ∧
 ((((((oldL (0 : Nat) (ofBytes s_25)) && true) || (oldL (6 : Nat) ((ofBytes s_25) ++ ((AV.int .u8 (1 : Int)) :: [])))) && true) = true) ∧
 ((((((oldL (0 : Nat) (ofBytes s_25)) && true) || (oldL (6 : Nat) ((ofBytes s_25) ++ ((AV.int .u8 (1 : Int)) :: [])))) && true) = true) ∧
 (∃ n_70 : Int, (((AV.int .u64 (IntKind.wrap .u64 (n_35 * (Nat.cast r0 : Int)))) = (AV.int .u64 n_70)) ∧
 (∃ n_71 : Int, (((AV.int .u64 (IntKind.wrap .u64 (n_61 + n_70))) = (AV.int .u64 n_71)) ∧
 ((((((oldL (0 : Nat) (ofBytes s_25)) && true) || (oldL (6 : Nat) ((ofBytes s_25) ++ ((AV.int .u8 (1 : Int)) :: [])))) && true) = true) ∧
 (∃ n_72 : Int, (((AV.int .u64 (IntKind.wrap .u64 (n_35 * (Nat.cast r1 : Int)))) = (AV.int .u64 n_72)) ∧
 (∃ n_73 : Int, (((AV.int .u64 (IntKind.wrap .u64 (n_63 + n_72))) = (AV.int .u64 n_73)) ∧
 ((((((oldL (0 : Nat) (ofBytes s_25)) && true) || (oldL (6 : Nat) ((ofBytes s_25) ++ ((AV.int .u8 (1 : Int)) :: [])))) && true) = true) ∧
 (∃ n_74 : Int, (((AV.int .u64 (IntKind.wrap .u64 ((5 : Int) * n_35))) = (AV.int .u64 n_74)) ∧
 (∃ n_75 : Int, (((AV.int .u64 (IntKind.wrap .u64 (n_74 * (Nat.cast r2 : Int)))) = (AV.int .u64 n_75)) ∧
 (∃ n_76 : Int, (((AV.int .u64 (IntKind.wrap .u64 (n_66 + n_75))) = (AV.int .u64 n_76)) ∧
 ((((((oldL (0 : Nat) (ofBytes s_25)) && true) || (oldL (6 : Nat) ((ofBytes s_25) ++ ((AV.int .u8 (1 : Int)) :: [])))) && true) = true) ∧
 (∃ n_77 : Int, (((AV.int .u64 (IntKind.wrap .u64 ((5 : Int) * n_35))) = (AV.int .u64 n_77)) ∧
 (∃ n_78 : Int, (((AV.int .u64 (IntKind.wrap .u64 (n_77 * (Nat.cast r3 : Int)))) = (AV.int .u64 n_78)) ∧
 (∃ n_79 : Int, (((AV.int .u64 (IntKind.wrap .u64 (n_69 + n_78))) = (AV.int .u64 n_79)) ∧
 ((((((oldL (0 : Nat) (ofBytes s_25)) && true) || (oldL (6 : Nat) ((ofBytes s_25) ++ ((AV.int .u8 (1 : Int)) :: [])))) && true) = true) ∧
 (∃ n_80 : Int, (((AV.int .u64 (IntKind.wrap .u64 ((5 : Int) * n_35))) = (AV.int .u64 n_80)) ∧
 (∃ n_81 : Int, (((AV.int .u64 (IntKind.wrap .u64 (n_80 * (Nat.cast r4 : Int)))) = (AV.int .u64 n_81)) ∧
 (∃ n_82 : Int, (((AV.int .u64 (IntKind.wrap .u64 (n_59 + n_81))) = (AV.int .u64 n_82)) ∧
 ((((((oldL (0 : Nat) (ofBytes s_25)) && true) || (oldL (6 : Nat) ((ofBytes s_25) ++ ((AV.int .u8 (1 : Int)) :: [])))) && true) = true) ∧
 ((((((oldL (0 : Nat) (ofBytes s_25)) && true) || (oldL (6 : Nat) ((ofBytes s_25) ++ ((AV.int .u8 (1 : Int)) :: [])))) && true) = true) ∧
 (∃ n_83 : Int, (((AV.int .u64 (IntKind.wrap .u64 (n_36 * (Nat.cast r0 : Int)))) = (AV.int .u64 n_83)) ∧
 (∃ n_84 : Int, (((AV.int .u64 (IntKind.wrap .u64 (n_73 + n_83))) = (AV.int .u64 n_84)) ∧
 ((((((oldL (0 : Nat) (ofBytes s_25)) && true) || (oldL (6 : Nat) ((ofBytes s_25) ++ ((AV.int .u8 (1 : Int)) :: [])))) && true) = true) ∧
 (∃ n_85 : Int, (((AV.int .u64 (IntKind.wrap .u64 ((5 : Int) * n_36))) = (AV.int .u64 n_85)) ∧
 (∃ n_86 : Int, (((AV.int .u64 (IntKind.wrap .u64 (n_85 * (Nat.cast r1 : Int)))) = (AV.int .u64 n_86)) ∧
 (∃ n_87 : Int, (((AV.int .u64 (IntKind.wrap .u64 (n_76 + n_86))) = (AV.int .u64 n_87)) ∧
 ((((((oldL (0 : Nat) (ofBytes s_25)) && true) || (oldL (6 : Nat) ((ofBytes s_25) ++ ((AV.int .u8 (1 : Int)) :: [])))) && true) = true) ∧
 (∃ n_88 : Int, (((AV.int .u64 (IntKind.wrap .u64 ((5 : Int) * n_36))) = (AV.int .u64 n_88)) ∧
 (∃ n_89 : Int, (((AV.int .u64 (IntKind.wrap .u64 (n_88 * (Nat.cast r2 : Int)))) = (AV.int .u64 n_89)) ∧
 (∃ n_90 : Int, (((AV.int .u64 (IntKind.wrap .u64 (n_79 + n_89))) = (AV.int .u64 n_90)) ∧
 ((((((oldL (0 : Nat) (ofBytes s_25)) && true) || (oldL (6 : Nat) ((ofBytes s_25) ++ ((AV.int .u8 (1 : Int)) :: [])))) && true) = true) ∧
 (∃ n_91 : Int, (((AV.int .u64 (IntKind.wrap .u64 ((5 : Int) * n_36))) = (AV.int .u64 n_91)) ∧
 (∃ n_92 : Int, (((AV.int .u64 (IntKind.wrap .u64 (n_91 * (Nat.cast r3 : Int)))) = (AV.int .u64 n_92)) ∧
 (∃ n_93 : Int, (((AV.int .u64 (IntKind.wrap .u64 (n_82 + n_92))) = (AV.int .u64 n_93)) ∧
 ((((((oldL (0 : Nat) (ofBytes s_25)) && true) || (oldL (6 : Nat) ((ofBytes s_25) ++ ((AV.int .u8 (1 : Int)) :: [])))) && true) = true) ∧
 (∃ n_94 : Int, (((AV.int .u64 (IntKind.wrap .u64 ((5 : Int) * n_36))) = (AV.int .u64 n_94)) ∧
 (∃ n_95 : Int, (((AV.int .u64 (IntKind.wrap .u64 (n_94 * (Nat.cast r4 : Int)))) = (AV.int .u64 n_95)) ∧
 (∃ n_96 : Int, (((AV.int .u64 (IntKind.wrap .u64 (n_71 + n_95))) = (AV.int .u64 n_96)) ∧
 ((((((oldL (0 : Nat) (ofBytes s_25)) && true) || (oldL (6 : Nat) ((ofBytes s_25) ++ ((AV.int .u8 (1 : Int)) :: [])))) && true) = true) ∧
 ((((((oldL (0 : Nat) (ofBytes s_25)) && true) || (oldL (6 : Nat) ((ofBytes s_25) ++ ((AV.int .u8 (1 : Int)) :: [])))) && true) = true) ∧
 (∃ n_97 : Int, (((AV.int .u64 (IntKind.wrap .u64 (n_87 + (0 : Int)))) = (AV.int .u64 n_97)) ∧
 (∃ n_98 : Int, (((AV.int .u64 (Int.fdiv n_97 (67108864 : Int))) = (AV.int .u64 n_98)) ∧
 (∃ n_99 : Int, (((AV.int .u64 (IntKind.wrap .u64 (Nat.cast ((Int.toNat (n_97 % (18446744073709551616 : Int))) &&& (67108863 : Nat)) : Int))) = (AV.int .u64 n_99)) ∧
 ((((((oldL (0 : Nat) (ofBytes s_25)) && true) || (oldL (6 : Nat) ((ofBytes s_25) ++ ((AV.int .u8 (1 : Int)) :: [])))) && true) = true) ∧
 (∃ n_100 : Int, (((AV.int .u64 (IntKind.wrap .u64 (n_90 + n_98))) = (AV.int .u64 n_100)) ∧
 (∃ n_101 : Int, (((AV.int .u64 (Int.fdiv n_100 (67108864 : Int))) = (AV.int .u64 n_101)) ∧
 (∃ n_102 : Int, (((AV.int .u64 (IntKind.wrap .u64 (Nat.cast ((Int.toNat (n_100 % (18446744073709551616 : Int))) &&& (67108863 : Nat)) : Int))) = (AV.int .u64 n_102)) ∧
 ((((((oldL (0 : Nat) (ofBytes s_25)) && true) || (oldL (6 : Nat) ((ofBytes s_25) ++ ((AV.int .u8 (1 : Int)) :: [])))) && true) = true) ∧
 (∃ n_103 : Int, (((AV.int .u64 (IntKind.wrap .u64 (n_93 + n_101))) = (AV.int .u64 n_103)) ∧
 (∃ n_104 : Int, (((AV.int .u64 (Int.fdiv n_103 (67108864 : Int))) = (AV.int .u64 n_104)) ∧
 (∃ n_105 : Int, (((AV.int .u64 (IntKind.wrap .u64 (Nat.cast ((Int.toNat (n_103 % (18446744073709551616 : Int))) &&& (67108863 : Nat)) : Int))) = (AV.int .u64 n_105)) ∧
 ((((((oldL (0 : Nat) (ofBytes s_25)) && true) || (oldL (6 : Nat) ((ofBytes s_25) ++ ((AV.int .u8 (1 : Int)) :: [])))) && true) = true) ∧
 (∃ n_106 : Int, (((AV.int .u64 (IntKind.wrap .u64 (n_96 + n_104))) = (AV.int .u64 n_106)) ∧
 (∃ n_107 : Int, (((AV.int .u64 (Int.fdiv n_106 (67108864 : Int))) = (AV.int .u64 n_107)) ∧
 (∃ n_108 : Int, (((AV.int .u64 (IntKind.wrap .u64 (Nat.cast ((Int.toNat (n_106 % (18446744073709551616 : Int))) &&& (67108863 : Nat)) : Int))) = (AV.int .u64 n_108)) ∧
 ((((((oldL (0 : Nat) (ofBytes s_25)) && true) || (oldL (6 : Nat) ((ofBytes s_25) ++ ((AV.int .u8 (1 : Int)) :: [])))) && true) = true) ∧
 (∃ n_109 : Int, (((AV.int .u64 (IntKind.wrap .u64 (n_84 + n_107))) = (AV.int .u64 n_109)) ∧
 (∃ n_110 : Int, (((AV.int .u64 (Int.fdiv n_109 (67108864 : Int))) = (AV.int .u64 n_110)) ∧
 (∃ n_111 : Int, (((AV.int .u64 (IntKind.wrap .u64 (Nat.cast ((Int.toNat (n_109 % (18446744073709551616 : Int))) &&& (67108863 : Nat)) : Int))) = (AV.int .u64 n_111)) ∧
 ((((((oldL (0 : Nat) (ofBytes s_25)) && true) || (oldL (6 : Nat) ((ofBytes s_25) ++ ((AV.int .u8 (1 : Int)) :: [])))) && true) = true) ∧
 (∃ n_112 : Int, (((AV.int .u64 (IntKind.wrap .u64 ((5 : Int) * n_110))) = (AV.int .u64 n_112)) ∧
 (∃ n_113 : Int, (((AV.int .u64 (IntKind.wrap .u64 (n_99 + n_112))) = (AV.int .u64 n_113)) ∧
 ((((((oldL (0 : Nat) (ofBytes s_25)) && true) || (oldL (6 : Nat) ((ofBytes s_25) ++ ((AV.int .u8 (1 : Int)) :: [])))) && true) = true) ∧
 (∃ n_114 : Int, (((AV.int .u64 (IntKind.wrap .u64 (n_113 + (0 : Int)))) = (AV.int .u64 n_114)) ∧
 (∃ n_115 : Int, (((AV.int .u64 (Int.fdiv n_114 (67108864 : Int))) = (AV.int .u64 n_115)) ∧
 (∃ n_116 : Int, (((AV.int .u64 (IntKind.wrap .u64 (Nat.cast ((Int.toNat (n_114 % (18446744073709551616 : Int))) &&& (67108863 : Nat)) : Int))) = (AV.int .u64 n_116)) ∧
 ((((((oldL (0 : Nat) (ofBytes s_25)) && true) || (oldL (6 : Nat) ((ofBytes s_25) ++ ((AV.int .u8 (1 : Int)) :: [])))) && true) = true) ∧
 (∃ n_117 : Int, (((AV.int .u64 (IntKind.wrap .u64 (n_102 + n_115))) = (AV.int .u64 n_117)) ∧
 (∃ n_118 : Int, (((AV.int .u64 (Int.fdiv n_117 (67108864 : Int))) = (AV.int .u64 n_118)) ∧
 (∃ n_119 : Int, (((AV.int .u64 (IntKind.wrap .u64 (Nat.cast ((Int.toNat (n_117 % (18446744073709551616 : Int))) &&& (67108863 : Nat)) : Int))) = (AV.int .u64 n_119)) ∧
 ((((((oldL (0 : Nat) (ofBytes s_25)) && true) || (oldL (6 : Nat) ((ofBytes s_25) ++ ((AV.int .u8 (1 : Int)) :: [])))) && true) = true) ∧
 (∃ n_120 : Int, (((AV.int .u64 (IntKind.wrap .u64 (n_105 + n_118))) = (AV.int .u64 n_120)) ∧
 (∃ n_121 : Int, (((AV.int .u64 (Int.fdiv n_120 (67108864 : Int))) = (AV.int .u64 n_121)) ∧
 (∃ n_122 : Int, (((AV.int .u64 (IntKind.wrap .u64 (Nat.cast ((Int.toNat (n_120 % (18446744073709551616 : Int))) &&& (67108863 : Nat)) : Int))) = (AV.int .u64 n_122)) ∧
 ((((((oldL (0 : Nat) (ofBytes s_25)) && true) || (oldL (6 : Nat) ((ofBytes s_25) ++ ((AV.int .u8 (1 : Int)) :: [])))) && true) = true) ∧
 (∃ n_123 : Int, (((AV.int .u64 (IntKind.wrap .u64 (n_108 + n_121))) = (AV.int .u64 n_123)) ∧
 (∃ n_124 : Int, (((AV.int .u64 (Int.fdiv n_123 (67108864 : Int))) = (AV.int .u64 n_124)) ∧
 (∃ n_125 : Int, (((AV.int .u64 (IntKind.wrap .u64 (Nat.cast ((Int.toNat (n_123 % (18446744073709551616 : Int))) &&& (67108863 : Nat)) : Int))) = (AV.int .u64 n_125)) ∧
 ((((((oldL (0 : Nat) (ofBytes s_25)) && true) || (oldL (6 : Nat) ((ofBytes s_25) ++ ((AV.int .u8 (1 : Int)) :: [])))) && true) = true) ∧
 (∃ n_126 : Int, (((AV.int .u64 (IntKind.wrap .u64 (n_111 + n_124))) = (AV.int .u64 n_126)) ∧
 (∃ n_127 : Int, (((AV.int .u64 (Int.fdiv n_126 (67108864 : Int))) = (AV.int .u64 n_127)) ∧
 (∃ n_128 : Int, (((AV.int .u64 (IntKind.wrap .u64 (Nat.cast ((Int.toNat (n_126 % (18446744073709551616 : Int))) &&& (67108863 : Nat)) : Int))) = (AV.int .u64 n_128)) ∧
 ((((((oldL (0 : Nat) (ofBytes s_25)) && true) || (oldL (6 : Nat) ((ofBytes s_25) ++ ((AV.int .u8 (1 : Int)) :: [])))) && true) = true) ∧
 (∃ n_129 : Int, (((AV.int .u64 (IntKind.wrap .u64 ((5 : Int) * n_127))) = (AV.int .u64 n_129)) ∧
 (∃ n_130 : Int, (((AV.int .u64 (IntKind.wrap .u64 (n_116 + n_129))) = (AV.int .u64 n_130)) ∧
 ((((((oldL (0 : Nat) (ofBytes s_25)) && true) || (oldL (6 : Nat) ((ofBytes s_25) ++ ((AV.int .u8 (1 : Int)) :: [])))) && true) = true) ∧
 (∃ n_131 : Int, (((AV.int .u64 (Int.fdiv n_130 (67108864 : Int))) = (AV.int .u64 n_131)) ∧
 (∃ n_132 : Int, (((AV.int .u64 (IntKind.wrap .u64 (n_119 + n_131))) = (AV.int .u64 n_132)) ∧
 (∃ n_133 : Int, (((AV.int .u64 (IntKind.wrap .u64 (Nat.cast ((Int.toNat (n_130 % (18446744073709551616 : Int))) &&& (67108863 : Nat)) : Int))) = (AV.int .u64 n_133)) ∧
 ((((((oldL (0 : Nat) (ofBytes s_25)) && true) || (oldL (6 : Nat) ((ofBytes s_25) ++ ((AV.int .u8 (1 : Int)) :: [])))) && true) = true) ∧
 ((((((oldL (0 : Nat) (ofBytes s_25)) && true) || (oldL (5 : Nat) ((ofBytes s_25) ++ ((AV.int .u8 (1 : Int)) :: [])))) && true) = true) ∧
 (bif ((((decide ((0 : Int) ≤ n_24)) && true) && (Nat.ble (Int.toNat n_24) (List.length (Prod.fst x_21)))) && (Nat.ble (List.length (Prod.fst x_21)) (List.length (Prod.fst x_21)))) then (∃ s_134 : (List UInt8), (((AV.str (List.take ((List.length (Prod.fst x_21)) - (Int.toNat n_24)) (List.drop (Int.toNat n_24) (Prod.fst x_21)))) = (AV.str s_134)) ∧
 (((((Lp.mk (0 : Nat) (T.n (T.n (T.n (T.n (T.n T.e AV.undef (T.n T.e (AV.fn (Fn.func (99 : Nat)) [] ((AV.ptr (2 : Nat) (1 : Nat) (0 : Nat)) :: [])) T.e)) (AV.int .i64 (16 : Int)) T.e) AV.undef (T.n T.e AV.undef (T.n (T.n T.e (AV.sl (0 : Nat) (List.length s_0) (0 : Nat) (List.length s_0) (1 : Nat)) T.e) AV.undef T.e))) (AV.str s) (T.n (T.n (T.n (T.n T.e (AV.int .i64 (16 : Int)) T.e) AV.undef T.e) AV.undef T.e) (AV.sl (0 : Nat) (List.length s_0) (0 : Nat) (List.length s_0) (1 : Nat)) (T.n T.e AV.undef (T.n (T.n T.e (AV.agg ((AV.int .u64 (0 : Int)) :: ((AV.int .u64 (0 : Int)) :: ((AV.int .u64 (0 : Int)) :: ((AV.int .u64 (0 : Int)) :: ((AV.int .u64 (0 : Int)) :: ((AV.int .u64 (Nat.cast a_16 : Int)) :: ((AV.int .u64 (Nat.cast b_17 : Int)) :: ((AV.int .u64 (Nat.cast c_18 : Int)) :: ((AV.int .u64 (Nat.cast d_19 : Int)) :: ((AV.int .u64 (Nat.cast e_20 : Int)) :: []))))))))))) T.e) AV.undef T.e)))) (AV.str key) (T.n (T.n (T.n T.e (AV.ptr (1 : Nat) (10 : Nat) (0 : Nat)) T.e) (AV.str []) (T.n T.e AV.undef (T.n (T.n T.e (AV.agg ((AV.int .u64 (Nat.cast a_16 : Int)) :: ((AV.int .u64 (Nat.cast b_17 : Int)) :: ((AV.int .u64 (Nat.cast c_18 : Int)) :: ((AV.int .u64 (Nat.cast d_19 : Int)) :: ((AV.int .u64 (Nat.cast e_20 : Int)) :: [])))))) T.e) AV.undef T.e))) AV.undef (T.n (T.n (T.n (T.n T.e (AV.bool false) T.e) AV.undef T.e) AV.undef T.e) AV.undef (T.n T.e AV.undef (T.n (T.n T.e (AV.str s) T.e) AV.undef T.e))))) ((48 : Nat) :: []) (AC.region ((AOper.mk (Option.some (9 : Nat)) (AOp.mv (AO.t (48 : Nat))) (Option.none) (0 : Nat) (0 : Nat)) :: [])) (AC.block (5 : Nat) (AC.region ((AOper.mk (Option.some (49 : Nat)) (AOp.mv (AO.t (9 : Nat))) (Option.none) (0 : Nat) (0 : Nat)) :: ((AOper.mk (Option.some (50 : Nat)) (AOp.call (AO.c (AV.fn (Fn.func (96 : Nat)) [] [])) ((AO.t (8 : Nat)) :: ((AO.t (49 : Nat)) :: []))) (Option.none) (0 : Nat) (0 : Nat)) :: [])))) Lst.ready (84 : Nat)) :: []) = ((Lp.mk (0 : Nat) (T.n (T.n (T.n (T.n (T.n T.e AV.undef (T.n T.e (AV.fn (Fn.func (99 : Nat)) [] ((AV.ptr (2 : Nat) (1 : Nat) (0 : Nat)) :: [])) T.e)) (AV.int .i64 (16 : Int)) T.e) AV.undef (T.n T.e AV.undef (T.n (T.n T.e (AV.sl (0 : Nat) (List.length s_0) (0 : Nat) (List.length s_0) (1 : Nat)) T.e) AV.undef T.e))) (AV.str s) (T.n (T.n (T.n (T.n T.e (AV.int .i64 (16 : Int)) T.e) AV.undef T.e) AV.undef T.e) (AV.sl (0 : Nat) (List.length s_0) (0 : Nat) (List.length s_0) (1 : Nat)) (T.n T.e AV.undef (T.n (T.n T.e (AV.agg ((AV.int .u64 (0 : Int)) :: ((AV.int .u64 (0 : Int)) :: ((AV.int .u64 (0 : Int)) :: ((AV.int .u64 (0 : Int)) :: ((AV.int .u64 (0 : Int)) :: ((AV.int .u64 (Nat.cast a_16 : Int)) :: ((AV.int .u64 (Nat.cast b_17 : Int)) :: ((AV.int .u64 (Nat.cast c_18 : Int)) :: ((AV.int .u64 (Nat.cast d_19 : Int)) :: ((AV.int .u64 (Nat.cast e_20 : Int)) :: []))))))))))) T.e) AV.undef T.e)))) (AV.str key) (T.n (T.n (T.n T.e (AV.ptr (1 : Nat) (10 : Nat) (0 : Nat)) T.e) (AV.str []) (T.n T.e AV.undef (T.n (T.n T.e (AV.agg ((AV.int .u64 (Nat.cast a_16 : Int)) :: ((AV.int .u64 (Nat.cast b_17 : Int)) :: ((AV.int .u64 (Nat.cast c_18 : Int)) :: ((AV.int .u64 (Nat.cast d_19 : Int)) :: ((AV.int .u64 (Nat.cast e_20 : Int)) :: [])))))) T.e) AV.undef T.e))) AV.undef (T.n (T.n (T.n (T.n T.e (AV.bool false) T.e) AV.undef T.e) AV.undef T.e) AV.undef (T.n T.e AV.undef (T.n (T.n T.e (AV.str s) T.e) AV.undef T.e))))) ((48 : Nat) :: []) (AC.region ((AOper.mk (Option.some (9 : Nat)) (AOp.mv (AO.t (48 : Nat))) (Option.none) (0 : Nat) (0 : Nat)) :: [])) (AC.block (5 : Nat) (AC.region ((AOper.mk (Option.some (49 : Nat)) (AOp.mv (AO.t (9 : Nat))) (Option.none) (0 : Nat) (0 : Nat)) :: ((AOper.mk (Option.some (50 : Nat)) (AOp.call (AO.c (AV.fn (Fn.func (96 : Nat)) [] [])) ((AO.t (8 : Nat)) :: ((AO.t (49 : Nat)) :: []))) (Option.none) (0 : Nat) (0 : Nat)) :: [])))) Lst.ready (84 : Nat)) :: [])) ∧
 ((1 : Nat) = (1 : Nat))) ∧
 (∃ y_135 : (Prod (List UInt8) (Prod Nat (Prod Nat (Prod Nat (Prod Nat (Prod Nat Nat)))))), ((Lf (((List.length (Prod.fst y_135)) ≤ (Prod.fst (Prod.snd y_135))) ∧
 (((Prod.fst (Prod.snd y_135)) ≤ (List.length s)) ∧
 (((Prod.fst (Prod.snd (Prod.snd y_135))) ≤ (67108864 : Nat)) ∧
 (((Prod.fst (Prod.snd (Prod.snd (Prod.snd y_135)))) ≤ (67108864 : Nat)) ∧
 (((Prod.fst (Prod.snd (Prod.snd (Prod.snd (Prod.snd y_135))))) ≤ (67108864 : Nat)) ∧
 (((Prod.fst (Prod.snd (Prod.snd (Prod.snd (Prod.snd (Prod.snd y_135)))))) ≤ (67108864 : Nat)) ∧
 (((Prod.snd (Prod.snd (Prod.snd (Prod.snd (Prod.snd (Prod.snd y_135)))))) ≤ (67108864 : Nat)) ∧
 ((polyM (leNM rb) (Prod.fst (Prod.snd y_135)) ((valM (Prod.fst (Prod.snd (Prod.snd y_135))) (Prod.fst (Prod.snd (Prod.snd (Prod.snd y_135)))) (Prod.fst (Prod.snd (Prod.snd (Prod.snd (Prod.snd y_135))))) (Prod.fst (Prod.snd (Prod.snd (Prod.snd (Prod.snd (Prod.snd y_135)))))) (Prod.snd (Prod.snd (Prod.snd (Prod.snd (Prod.snd (Prod.snd y_135))))))) % pM) (Prod.fst y_135)) = (polyM (leNM rb) (List.length s) (0 : Nat) s)))))))))) ∧
 (((Prod.fst (Prod.snd y_135)) < (Prod.fst (Prod.snd x_21))) ∧
 (((ofBytes rb) = (ofBytes rb)) ∧
 ((((AV.int .u64 n_133) :: ((AV.int .u64 n_132) :: ((AV.int .u64 n_122) :: ((AV.int .u64 n_125) :: ((AV.int .u64 n_128) :: ((AV.int .u64 (Nat.cast r0 : Int)) :: ((AV.int .u64 (Nat.cast r1 : Int)) :: ((AV.int .u64 (Nat.cast r2 : Int)) :: ((AV.int .u64 (Nat.cast r3 : Int)) :: ((AV.int .u64 (Nat.cast r4 : Int)) :: [])))))))))) = ((AV.int .u64 (Nat.cast (Prod.fst (Prod.snd (Prod.snd y_135))) : Int)) :: ((AV.int .u64 (Nat.cast (Prod.fst (Prod.snd (Prod.snd (Prod.snd y_135)))) : Int)) :: ((AV.int .u64 (Nat.cast (Prod.fst (Prod.snd (Prod.snd (Prod.snd (Prod.snd y_135))))) : Int)) :: ((AV.int .u64 (Nat.cast (Prod.fst (Prod.snd (Prod.snd (Prod.snd (Prod.snd (Prod.snd y_135)))))) : Int)) :: ((AV.int .u64 (Nat.cast (Prod.snd (Prod.snd (Prod.snd (Prod.snd (Prod.snd (Prod.snd y_135)))))) : Int)) :: ((AV.int .u64 (Nat.cast r0 : Int)) :: ((AV.int .u64 (Nat.cast r1 : Int)) :: ((AV.int .u64 (Nat.cast r2 : Int)) :: ((AV.int .u64 (Nat.cast r3 : Int)) :: ((AV.int .u64 (Nat.cast r4 : Int)) :: []))))))))))) ∧
 ((((AV.str s_134) :: []) = ((AV.str (Prod.fst y_135)) :: [])) ∧
 (((AV.yld (0 : Nat)) = (AV.yld (0 : Nat))) ∧
 (((AV.ptr (2 : Nat) (1 : Nat) (0 : Nat)) = (AV.ptr (2 : Nat) (1 : Nat) (0 : Nat))) ∧
 True)))))))))))
else False))))))))))))))))))))))))))))))))))))))))))))))))))))))))))))))))))))))))))))))))))))))))))))))))))))))))))))))))))))))))))))))))))))))))))))))))))))))))))))))))))))))))))))))))))))))))))))))))))))))))))))))))))))))))))))))))))))))))))))))))))))))))))))))))))))))
else False)
else False)))
else False)))))
else (∃ n_23 : Int, (((AV.int .u64 (IntKind.wrap .u64 ((Nat.cast (Prod.fst (Prod.snd (Prod.snd x_21))) : Int) + (0 : Int)))) = (AV.int .u64 n_23)) ∧
 (∃ n_24 : Int, (((AV.int .u64 (Int.fdiv n_23 (67108864 : Int))) = (AV.int .u64 n_24)) ∧
 (∃ n_25 : Int, (((AV.int .u64 (IntKind.wrap .u64 (Nat.cast ((Int.toNat (n_23 % (18446744073709551616 : Int))) &&& (67108863 : Nat)) : Int))) = (AV.int .u64 n_25)) ∧
 ((true = true) ∧
 (∃ n_26 : Int, (((AV.int .u64 (IntKind.wrap .u64 ((Nat.cast (Prod.fst (Prod.snd (Prod.snd (Prod.snd x_21)))) : Int) + n_24))) = (AV.int .u64 n_26)) ∧
 (∃ n_27 : Int, (((AV.int .u64 (Int.fdiv n_26 (67108864 : Int))) = (AV.int .u64 n_27)) ∧
 (∃ n_28 : Int, (((AV.int .u64 (IntKind.wrap .u64 (Nat.cast ((Int.toNat (n_26 % (18446744073709551616 : Int))) &&& (67108863 : Nat)) : Int))) = (AV.int .u64 n_28)) ∧
 ((true = true) ∧
 (∃ n_29 : Int, (((AV.int .u64 (IntKind.wrap .u64 ((Nat.cast (Prod.fst (Prod.snd (Prod.snd (Prod.snd (Prod.snd x_21))))) : Int) + n_27))) = (AV.int .u64 n_29)) ∧
 (∃ n_30 : Int, (((AV.int .u64 (Int.fdiv n_29 (67108864 : Int))) = (AV.int .u64 n_30)) ∧
 (∃ n_31 : Int, (((AV.int .u64 (IntKind.wrap .u64 (Nat.cast ((Int.toNat (n_29 % (18446744073709551616 : Int))) &&& (67108863 : Nat)) : Int))) = (AV.int .u64 n_31)) ∧
 ((true = true) ∧
 (∃ n_32 : Int, (((AV.int .u64 (IntKind.wrap .u64 ((Nat.cast (Prod.fst (Prod.snd (Prod.snd (Prod.snd (Prod.snd (Prod.snd x_21)))))) : Int) + n_30))) = (AV.int .u64 n_32)) ∧
 (∃ n_33 : Int, (((AV.int .u64 (Int.fdiv n_32 (67108864 : Int))) = (AV.int .u64 n_33)) ∧
 (∃ n_34 : Int, (((AV.int .u64 (IntKind.wrap .u64 (Nat.cast ((Int.toNat (n_32 % (18446744073709551616 : Int))) &&& (67108863 : Nat)) : Int))) = (AV.int .u64 n_34)) ∧
 ((true = true) ∧
 (∃ n_35 : Int, (((AV.int .u64 (IntKind.wrap .u64 ((Nat.cast (Prod.snd (Prod.snd (Prod.snd (Prod.snd (Prod.snd (Prod.snd x_21)))))) : Int) + n_33))) = (AV.int .u64 n_35)) ∧
 (∃ n_36 : Int, (((AV.int .u64 (Int.fdiv n_35 (67108864 : Int))) = (AV.int .u64 n_36)) ∧
 (∃ n_37 : Int, (((AV.int .u64 (IntKind.wrap .u64 (Nat.cast ((Int.toNat (n_35 % (18446744073709551616 : Int))) &&& (67108863 : Nat)) : Int))) = (AV.int .u64 n_37)) ∧
 ((true = true) ∧
 (∃ n_38 : Int, (((AV.int .u64 (IntKind.wrap .u64 ((5 : Int) * n_36))) = (AV.int .u64 n_38)) ∧
 (∃ n_39 : Int, (((AV.int .u64 (IntKind.wrap .u64 (n_25 + n_38))) = (AV.int .u64 n_39)) ∧
 ((true = true) ∧
 (∃ n_40 : Int, (((AV.int .u64 (IntKind.wrap .u64 (n_39 + (0 : Int)))) = (AV.int .u64 n_40)) ∧
 (∃ n_41 : Int, (((AV.int .u64 (Int.fdiv n_40 (67108864 : Int))) = (AV.int .u64 n_41)) ∧
 (∃ n_42 : Int, (((AV.int .u64 (IntKind.wrap .u64 (Nat.cast ((Int.toNat (n_40 % (18446744073709551616 : Int))) &&& (67108863 : Nat)) : Int))) = (AV.int .u64 n_42)) ∧
 ((true = true) ∧
 (∃ n_43 : Int, (((AV.int .u64 (IntKind.wrap .u64 (n_28 + n_41))) = (AV.int .u64 n_43)) ∧
 (∃ n_44 : Int, (((AV.int .u64 (Int.fdiv n_43 (67108864 : Int))) = (AV.int .u64 n_44)) ∧
 (∃ n_45 : Int, (((AV.int .u64 (IntKind.wrap .u64 (Nat.cast ((Int.toNat (n_43 % (18446744073709551616 : Int))) &&& (67108863 : Nat)) : Int))) = (AV.int .u64 n_45)) ∧
 ((true = true) ∧
 (∃ n_46 : Int, (((AV.int .u64 (IntKind.wrap .u64 (n_31 + n_44))) = (AV.int .u64 n_46)) ∧
 (∃ n_47 : Int, (((AV.int .u64 (Int.fdiv n_46 (67108864 : Int))) = (AV.int .u64 n_47)) ∧
 (∃ n_48 : Int, (((AV.int .u64 (IntKind.wrap .u64 (Nat.cast ((Int.toNat (n_46 % (18446744073709551616 : Int))) &&& (67108863 : Nat)) : Int))) = (AV.int .u64 n_48)) ∧
 ((true = true) ∧
 (∃ n_49 : Int, (((AV.int .u64 (IntKind.wrap .u64 (n_34 + n_47))) = (AV.int .u64 n_49)) ∧
 (∃ n_50 : Int, (((AV.int .u64 (Int.fdiv n_49 (67108864 : Int))) = (AV.int .u64 n_50)) ∧
 (∃ n_51 : Int, (((AV.int .u64 (IntKind.wrap .u64 (Nat.cast ((Int.toNat (n_49 % (18446744073709551616 : Int))) &&& (67108863 : Nat)) : Int))) = (AV.int .u64 n_51)) ∧
 ((true = true) ∧
 (∃ n_52 : Int, (((AV.int .u64 (IntKind.wrap .u64 (n_37 + n_50))) = (AV.int .u64 n_52)) ∧
 (∃ n_53 : Int, (((AV.int .u64 (Int.fdiv n_52 (67108864 : Int))) = (AV.int .u64 n_53)) ∧
 (∃ n_54 : Int, (((AV.int .u64 (IntKind.wrap .u64 (Nat.cast ((Int.toNat (n_52 % (18446744073709551616 : Int))) &&& (67108863 : Nat)) : Int))) = (AV.int .u64 n_54)) ∧
 ((true = true) ∧
 (∃ n_55 : Int, (((AV.int .u64 (IntKind.wrap .u64 ((5 : Int) * n_53))) = (AV.int .u64 n_55)) ∧
 (∃ n_56 : Int, (((AV.int .u64 (IntKind.wrap .u64 (n_42 + n_55))) = (AV.int .u64 n_56)) ∧
 ((true = true) ∧
 (∃ n_57 : Int, (((AV.int .u64 (Int.fdiv n_56 (67108864 : Int))) = (AV.int .u64 n_57)) ∧
 (∃ n_58 : Int, (((AV.int .u64 (IntKind.wrap .u64 (n_45 + n_57))) = (AV.int .u64 n_58)) ∧
 (∃ n_59 : Int, (((AV.int .u64 (IntKind.wrap .u64 (Nat.cast ((Int.toNat (n_56 % (18446744073709551616 : Int))) &&& (67108863 : Nat)) : Int))) = (AV.int .u64 n_59)) ∧
 ((true = true) ∧
 (∃ n_60 : Int, (((AV.int .u64 (IntKind.wrap .u64 (n_59 + (5 : Int)))) = (AV.int .u64 n_60)) ∧
 (∃ n_61 : Int, (((AV.int .u64 (IntKind.wrap .u64 (n_60 + (0 : Int)))) = (AV.int .u64 n_61)) ∧
 (∃ n_62 : Int, (((AV.int .u64 (Int.fdiv n_61 (67108864 : Int))) = (AV.int .u64 n_62)) ∧
 (∃ n_63 : Int, (((AV.int .u64 (IntKind.wrap .u64 (Nat.cast ((Int.toNat (n_61 % (18446744073709551616 : Int))) &&& (67108863 : Nat)) : Int))) = (AV.int .u64 n_63)) ∧
 (∃ n_64 : Int, (((AV.int .u64 (IntKind.wrap .u64 (n_58 + n_62))) = (AV.int .u64 n_64)) ∧
 (∃ n_65 : Int, (((AV.int .u64 (Int.fdiv n_64 (67108864 : Int))) = (AV.int .u64 n_65)) ∧
 (∃ n_66 : Int, (((AV.int .u64 (IntKind.wrap .u64 (Nat.cast ((Int.toNat (n_64 % (18446744073709551616 : Int))) &&& (67108863 : Nat)) : Int))) = (AV.int .u64 n_66)) ∧
 (∃ n_67 : Int, (((AV.int .u64 (IntKind.wrap .u64 (n_48 + n_65))) = (AV.int .u64 n_67)) ∧
 (∃ n_68 : Int, (((AV.int .u64 (Int.fdiv n_67 (67108864 : Int))) = (AV.int .u64 n_68)) ∧
 (∃ n_69 : Int, (((AV.int .u64 (IntKind.wrap .u64 (Nat.cast ((Int.toNat (n_67 % (18446744073709551616 : Int))) &&& (67108863 : Nat)) : Int))) = (AV.int .u64 n_69)) ∧
 (∃ n_70 : Int, (((AV.int .u64 (IntKind.wrap .u64 (n_51 + n_68))) = (AV.int .u64 n_70)) ∧
 (∃ n_71 : Int, (((AV.int .u64 (Int.fdiv n_70 (67108864 : Int))) = (AV.int .u64 n_71)) ∧
 (∃ n_72 : Int, (((AV.int .u64 (IntKind.wrap .u64 (Nat.cast ((Int.toNat (n_70 % (18446744073709551616 : Int))) &&& (67108863 : Nat)) : Int))) = (AV.int .u64 n_72)) ∧
 (∃ n_73 : Int, (((AV.int .u64 (IntKind.wrap .u64 (n_54 + n_71))) = (AV.int .u64 n_73)) ∧
 (∃ n_74 : Int, (((AV.int .u64 (Int.fdiv n_73 (67108864 : Int))) = (AV.int .u64 n_74)) ∧
 (∃ n_75 : Int, (((AV.int .u64 (IntKind.wrap .u64 (Nat.cast ((Int.toNat (n_73 % (18446744073709551616 : Int))) &&& (67108863 : Nat)) : Int))) = (AV.int .u64 n_75)) ∧
 (bif (decide (n_74 > (0 : Int))) then (bif ((Nat.ble (16 : Nat) (List.length key)) && (Nat.ble (List.length key) (List.length key))) then (∃ s_76 : (List UInt8), (((AV.str (List.take ((List.length key) - (16 : Nat)) (List.drop (16 : Nat) key))) = (AV.str s_76)) ∧
 (bif (((Nat.beq (List.length (ofBytes s_76)) (List.length s_76)) && (Nat.ble ((0 : Nat) + ((List.length s_76) * (1 : Nat))) (List.length s_76))) && true) then (∃ s_77 : (List UInt8), ((Lf (((List.map (fun x_78 : AV => (frzV (1 : Nat) ((Blk.mk BK.grow true (ofBytes rb)) :: ((Blk.mk BK.exact true ((AV.int .u64 n_63) :: ((AV.int .u64 n_66) :: ((AV.int .u64 n_69) :: ((AV.int .u64 n_72) :: ((AV.int .u64 n_75) :: ((AV.int .u64 (Nat.cast r0 : Int)) :: ((AV.int .u64 (Nat.cast r1 : Int)) :: ((AV.int .u64 (Nat.cast r2 : Int)) :: ((AV.int .u64 (Nat.cast r3 : Int)) :: ((AV.int .u64 (Nat.cast r4 : Int)) :: []))))))))))) :: ((Blk.mk BK.exact true ((AV.str (Prod.fst x_21)) :: [])) :: ((Blk.mk BK.exact true ((AV.int .u64 n_63) :: ((AV.int .u64 n_66) :: ((AV.int .u64 n_69) :: ((AV.int .u64 n_72) :: ((AV.int .u64 n_75) :: [])))))) :: ((Blk.mk BK.grow (oldL (0 : Nat) (ofBytes s_76)) (ofBytes s_76)) :: []))))) (8 : Nat) x_78)) (List.take ((List.length s_76) * (1 : Nat)) (List.drop (0 : Nat) (ofBytes s_76)))) = (ofBytes s_77)) ∧
 (((List.length s_76) = (List.length s_77)) ∧
 (((List.length s_77) ≤ (17 : Nat)) ∧
 ((leNM s_77) < (1361129467683753853853498429727072845824 : Nat)))))) ∧
 (∀ a_78 : Nat, (∀ b_79 : Nat, (∀ c_80 : Nat, (∀ d_81 : Nat, (∀ e_82 : Nat, ((Lf ((limM (leNM s_77)) = (a_78 :: (b_79 :: (c_80 :: (d_81 :: (e_82 :: []))))))) →
(∃ n_83 : Int, (((AV.int .u64 (IntKind.wrap .u64 (n_63 + (Nat.cast a_78 : Int)))) = (AV.int .u64 n_83)) ∧
 (((((oldL (0 : Nat) (ofBytes s_76)) || (oldL (5 : Nat) (ofBytes s_76))) && true) = true) ∧
 (∃ n_84 : Int, (((AV.int .u64 (IntKind.wrap .u64 (n_66 + (Nat.cast b_79 : Int)))) = (AV.int .u64 n_84)) ∧
 (((((oldL (0 : Nat) (ofBytes s_76)) || (oldL (5 : Nat) (ofBytes s_76))) && true) = true) ∧
 (∃ n_85 : Int, (((AV.int .u64 (IntKind.wrap .u64 (n_69 + (Nat.cast c_80 : Int)))) = (AV.int .u64 n_85)) ∧
 (((((oldL (0 : Nat) (ofBytes s_76)) || (oldL (5 : Nat) (ofBytes s_76))) && true) = true) ∧
 (∃ n_86 : Int, (((AV.int .u64 (IntKind.wrap .u64 (n_72 + (Nat.cast d_81 : Int)))) = (AV.int .u64 n_86)) ∧
 (((((oldL (0 : Nat) (ofBytes s_76)) || (oldL (5 : Nat) (ofBytes s_76))) && true) = true) ∧
 (∃ n_87 : Int, (((AV.int .u64 (IntKind.wrap .u64 (n_75 + (Nat.cast e_82 : Int)))) = (AV.int .u64 n_87)) ∧
 (((((oldL (0 : Nat) (ofBytes s_76)) || (oldL (5 : Nat) (ofBytes s_76))) && true) = true) ∧
 (∃ n_88 : Int, (((AV.int .u64 (IntKind.wrap .u64 (n_83 + (0 : Int)))) = (AV.int .u64 n_88)) ∧
 (∃ n_89 : Int, (((AV.int .u64 (Int.fdiv n_88 (67108864 : Int))) = (AV.int .u64 n_89)) ∧
 (∃ n_90 : Int, (((AV.int .u64 (IntKind.wrap .u64 (Nat.cast ((Int.toNat (n_88 % (18446744073709551616 : Int))) &&& (67108863 : Nat)) : Int))) = (AV.int .u64 n_90)) ∧
 (∃ n_91 : Int, (((AV.int .u64 (IntKind.wrap .u64 (n_90 * (1 : Int)))) = (AV.int .u64 n_91)) ∧
 (∃ n_92 : Int, (((AV.int .u64 (IntKind.wrap .u64 (Nat.cast ((0 : Nat) ||| (Int.toNat (n_91 % (18446744073709551616 : Int)))) : Int))) = (AV.int .u64 n_92)) ∧
 (∃ n_93 : Int, (((AV.int .u8 (IntKind.wrap .u8 n_92)) = (AV.int .u8 n_93)) ∧
 (∃ n_94 : Int, (((AV.int .u64 (Int.fdiv n_92 (256 : Int))) = (AV.int .u64 n_94)) ∧
 (∃ n_95 : Int, (((AV.int .u8 (IntKind.wrap .u8 n_94)) = (AV.int .u8 n_95)) ∧
 (∃ n_96 : Int, (((AV.int .u64 (Int.fdiv n_94 (256 : Int))) = (AV.int .u64 n_96)) ∧
 (∃ n_97 : Int, (((AV.int .u8 (IntKind.wrap .u8 n_96)) = (AV.int .u8 n_97)) ∧
 (∃ n_98 : Int, (((AV.int .u64 (Int.fdiv n_96 (256 : Int))) = (AV.int .u64 n_98)) ∧
 (∃ n_99 : Int, (((AV.int .u64 (IntKind.wrap .u64 (n_84 + n_89))) = (AV.int .u64 n_99)) ∧
 (∃ n_100 : Int, (((AV.int .u64 (Int.fdiv n_99 (67108864 : Int))) = (AV.int .u64 n_100)) ∧
 (∃ n_101 : Int, (((AV.int .u64 (IntKind.wrap .u64 (Nat.cast ((Int.toNat (n_99 % (18446744073709551616 : Int))) &&& (67108863 : Nat)) : Int))) = (AV.int .u64 n_101)) ∧
 (∃ n_102 : Int, (((AV.int .u64 (IntKind.wrap .u64 (n_101 * (4 : Int)))) = (AV.int .u64 n_102)) ∧
 (∃ n_103 : Int, (((AV.int .u64 (IntKind.wrap .u64 (Nat.cast ((Int.toNat (n_98 % (18446744073709551616 : Int))) ||| (Int.toNat (n_102 % (18446744073709551616 : Int)))) : Int))) = (AV.int .u64 n_103)) ∧
 (∃ n_104 : Int, (((AV.int .u8 (IntKind.wrap .u8 n_103)) = (AV.int .u8 n_104)) ∧
 (∃ n_105 : Int, (((AV.int .u64 (Int.fdiv n_103 (256 : Int))) = (AV.int .u64 n_105)) ∧
 (∃ n_106 : Int, (((AV.int .u8 (IntKind.wrap .u8 n_105)) = (AV.int .u8 n_106)) ∧
 (∃ n_107 : Int, (((AV.int .u64 (Int.fdiv n_105 (256 : Int))) = (AV.int .u64 n_107)) ∧
 (∃ n_108 : Int, (((AV.int .u8 (IntKind.wrap .u8 n_107)) = (AV.int .u8 n_108)) ∧
 (∃ n_109 : Int, (((AV.int .u64 (Int.fdiv n_107 (256 : Int))) = (AV.int .u64 n_109)) ∧
 (∃ n_110 : Int, (((AV.int .u64 (IntKind.wrap .u64 (n_85 + n_100))) = (AV.int .u64 n_110)) ∧
 (∃ n_111 : Int, (((AV.int .u64 (Int.fdiv n_110 (67108864 : Int))) = (AV.int .u64 n_111)) ∧
 (∃ n_112 : Int, (((AV.int .u64 (IntKind.wrap .u64 (Nat.cast ((Int.toNat (n_110 % (18446744073709551616 : Int))) &&& (67108863 : Nat)) : Int))) = (AV.int .u64 n_112)) ∧
 (∃ n_113 : Int, (((AV.int .u64 (IntKind.wrap .u64 (n_112 * (16 : Int)))) = (AV.int .u64 n_113)) ∧
 (∃ n_114 : Int, (((AV.int .u64 (IntKind.wrap .u64 (Nat.cast ((Int.toNat (n_109 % (18446744073709551616 : Int))) ||| (Int.toNat (n_113 % (18446744073709551616 : Int)))) : Int))) = (AV.int .u64 n_114)) ∧
 (∃ n_115 : Int, (((AV.int .u8 (IntKind.wrap .u8 n_114)) = (AV.int .u8 n_115)) ∧
 (∃ n_116 : Int, (((AV.int .u64 (Int.fdiv n_114 (256 : Int))) = (AV.int .u64 n_116)) ∧
 (∃ n_117 : Int, (((AV.int .u8 (IntKind.wrap .u8 n_116)) = (AV.int .u8 n_117)) ∧
 (∃ n_118 : Int, (((AV.int .u64 (Int.fdiv n_116 (256 : Int))) = (AV.int .u64 n_118)) ∧
 (∃ n_119 : Int, (((AV.int .u8 (IntKind.wrap .u8 n_118)) = (AV.int .u8 n_119)) ∧
 (∃ n_120 : Int, (((AV.int .u64 (Int.fdiv n_118 (256 : Int))) = (AV.int .u64 n_120)) ∧
 (∃ n_121 : Int, (((AV.int .u64 (IntKind.wrap .u64 (n_86 + n_111))) = (AV.int .u64 n_121)) ∧
 (∃ n_122 : Int, (((AV.int .u64 (Int.fdiv n_121 (67108864 : Int))) = (AV.int .u64 n_122)) ∧
 (∃ n_123 : Int, (((AV.int .u64 (IntKind.wrap .u64 (Nat.cast ((Int.toNat (n_121 % (18446744073709551616 : Int))) &&& (67108863 : Nat)) : Int))) = (AV.int .u64 n_123)) ∧
 (∃ n_124 : Int, (((AV.int .u64 (IntKind.wrap .u64 (n_123 * (64 : Int)))) = (AV.int .u64 n_124)) ∧
 (∃ n_125 : Int, (((AV.int .u64 (IntKind.wrap .u64 (Nat.cast ((Int.toNat (n_120 % (18446744073709551616 : Int))) ||| (Int.toNat (n_124 % (18446744073709551616 : Int)))) : Int))) = (AV.int .u64 n_125)) ∧
 (∃ n_126 : Int, (((AV.int .u8 (IntKind.wrap .u8 n_125)) = (AV.int .u8 n_126)) ∧
 (∃ n_127 : Int, (((AV.int .u64 (Int.fdiv n_125 (256 : Int))) = (AV.int .u64 n_127)) ∧
 (∃ n_128 : Int, (((AV.int .u8 (IntKind.wrap .u8 n_127)) = (AV.int .u8 n_128)) ∧
 (∃ n_129 : Int, (((AV.int .u64 (Int.fdiv n_127 (256 : Int))) = (AV.int .u64 n_129)) ∧
 (∃ n_130 : Int, (((AV.int .u8 (IntKind.wrap .u8 n_129)) = (AV.int .u8 n_130)) ∧
 (∃ n_131 : Int, (((AV.int .u64 (Int.fdiv n_129 (256 : Int))) = (AV.int .u64 n_131)) ∧
 (∃ n_132 : Int, (((AV.int .u8 (IntKind.wrap .u8 n_131)) = (AV.int .u8 n_132)) ∧
 (∃ n_133 : Int, (((AV.int .u64 (Int.fdiv n_131 (256 : Int))) = (AV.int .u64 n_133)) ∧
 (∃ n_134 : Int, (((AV.int .u64 (IntKind.wrap .u64 (n_87 + n_122))) = (AV.int .u64 n_134)) ∧
 (∃ n_135 : Int, (((AV.int .u64 (Int.fdiv n_134 (67108864 : Int))) = (AV.int .u64 n_135)) ∧
 (∃ n_136 : Int, (((AV.int .u64 (IntKind.wrap .u64 (Nat.cast ((Int.toNat (n_134 % (18446744073709551616 : Int))) &&& (67108863 : Nat)) : Int))) = (AV.int .u64 n_136)) ∧
 (∃ n_137 : Int, (((AV.int .u64 (IntKind.wrap .u64 (n_136 * (1 : Int)))) = (AV.int .u64 n_137)) ∧
 (∃ n_138 : Int, (((AV.int .u64 (IntKind.wrap .u64 (Nat.cast ((Int.toNat (n_133 % (18446744073709551616 : Int))) ||| (Int.toNat (n_137 % (18446744073709551616 : Int)))) : Int))) = (AV.int .u64 n_138)) ∧
 (∃ n_139 : Int, (((AV.int .u8 (IntKind.wrap .u8 n_138)) = (AV.int .u8 n_139)) ∧
 (∃ n_140 : Int, (((AV.int .u64 (Int.fdiv n_138 (256 : Int))) = (AV.int .u64 n_140)) ∧
 (∃ n_141 : Int, (((AV.int .u8 (IntKind.wrap .u8 n_140)) = (AV.int .u8 n_141)) ∧
 (∃ n_142 : Int, (((AV.int .u64 (Int.fdiv n_140 (256 : Int))) = (AV.int .u64 n_142)) ∧
 (∃ n_143 : Int, (((AV.int .u8 (IntKind.wrap .u8 n_142)) = (AV.int .u8 n_143)) ∧
 (∃ n_144 : Int, (((AV.int .u64 (Int.fdiv n_142 (256 : Int))) = (AV.int .u64 n_144)) ∧
 (∃ s_145 : (List UInt8), (((AV.str ((toB (AV.int .u8 n_93)) :: ((toB (AV.int .u8 n_95)) :: ((toB (AV.int .u8 n_97)) :: ((toB (AV.int .u8 n_104)) :: ((toB (AV.int .u8 n_106)) :: ((toB (AV.int .u8 n_108)) :: ((toB (AV.int .u8 n_115)) :: ((toB (AV.int .u8 n_117)) :: ((toB (AV.int .u8 n_119)) :: ((toB (AV.int .u8 n_126)) :: ((toB (AV.int .u8 n_128)) :: ((toB (AV.int .u8 n_130)) :: ((toB (AV.int .u8 n_132)) :: ((toB (AV.int .u8 n_139)) :: ((toB (AV.int .u8 n_141)) :: ((toB (AV.int .u8 n_143)) :: []))))))))))))))))) = (AV.str s_145)) ∧
 (Q (Out.ret (AV.str s_145)) [] (Gh.mk (0 : Nat) (1 : Nat) [])))))))))))))))))))))))))))))))))))))))))))))))))))))))))))))))))))))))))))))))))))))))))))))))))))))))))))))))))))))))))))))))))))))))))))))
else False)))
else False)
else (bif ((Nat.ble (16 : Nat) (List.length key)) && (Nat.ble (List.length key) (List.length key))) then (∃ s_76 : (List UInt8), (((AV.str (List.take ((List.length key) - (16 : Nat)) (List.drop (16 : Nat) key))) = (AV.str s_76)) ∧
 (bif (((Nat.beq (List.length (ofBytes s_76)) (List.length s_76)) && (Nat.ble ((0 : Nat) + ((List.length s_76) * (1 : Nat))) (List.length s_76))) && true) then (∃ s_77 : (List UInt8), ((Lf (((List.map (fun x_78 : AV => (frzV (1 : Nat) ((Blk.mk BK.grow true (ofBytes rb)) :: ((Blk.mk BK.exact true ((AV.int .u64 n_59) :: ((AV.int .u64 n_58) :: ((AV.int .u64 n_48) :: ((AV.int .u64 n_51) :: ((AV.int .u64 n_54) :: ((AV.int .u64 (Nat.cast r0 : Int)) :: ((AV.int .u64 (Nat.cast r1 : Int)) :: ((AV.int .u64 (Nat.cast r2 : Int)) :: ((AV.int .u64 (Nat.cast r3 : Int)) :: ((AV.int .u64 (Nat.cast r4 : Int)) :: []))))))))))) :: ((Blk.mk BK.exact true ((AV.str (Prod.fst x_21)) :: [])) :: ((Blk.mk BK.exact true ((AV.int .u64 n_63) :: ((AV.int .u64 n_66) :: ((AV.int .u64 n_69) :: ((AV.int .u64 n_72) :: ((AV.int .u64 n_75) :: [])))))) :: ((Blk.mk BK.grow (oldL (0 : Nat) (ofBytes s_76)) (ofBytes s_76)) :: []))))) (8 : Nat) x_78)) (List.take ((List.length s_76) * (1 : Nat)) (List.drop (0 : Nat) (ofBytes s_76)))) = (ofBytes s_77)) ∧
 (((List.length s_76) = (List.length s_77)) ∧
 (((List.length s_77) ≤ (17 : Nat)) ∧
 ((leNM s_77) < (1361129467683753853853498429727072845824 : Nat)))))) ∧
 (∀ a_78 : Nat, (∀ b_79 : Nat, (∀ c_80 : Nat, (∀ d_81 : Nat, (∀ e_82 : Nat, ((Lf ((limM (leNM s_77)) = (a_78 :: (b_79 :: (c_80 :: (d_81 :: (e_82 :: []))))))) →
(∃ n_83 : Int, (((AV.int .u64 (IntKind.wrap .u64 (n_59 + (Nat.cast a_78 : Int)))) = (AV.int .u64 n_83)) ∧
 (((((oldL (0 : Nat) (ofBytes s_76)) || (oldL (5 : Nat) (ofBytes s_76))) && true) = true) ∧
 (∃ n_84 : Int, (((AV.int .u64 (IntKind.wrap .u64 (n_58 + (Nat.cast b_79 : Int)))) = (AV.int .u64 n_84)) ∧
 (((((oldL (0 : Nat) (ofBytes s_76)) || (oldL (5 : Nat) (ofBytes s_76))) && true) = true) ∧
 (∃ n_85 : Int, (((AV.int .u64 (IntKind.wrap .u64 (n_48 + (Nat.cast c_80 : Int)))) = (AV.int .u64 n_85)) ∧
 (((((oldL (0 : Nat) (ofBytes s_76)) || (oldL (5 : Nat) (ofBytes s_76))) && true) = true) ∧
 (∃ n_86 : Int, (((AV.int .u64 (IntKind.wrap .u64 (n_51 + (Nat.cast d_81 : Int)))) = (AV.int .u64 n_86)) ∧
 (((((oldL (0 : Nat) (ofBytes s_76)) || (oldL (5 : Nat) (ofBytes s_76))) && true) = true) ∧
 (∃ n_87 : Int, (((AV.int .u64 (IntKind.wrap .u64 (n_54 + (Nat.cast e_82 : Int)))) = (AV.int .u64 n_87)) ∧
 (((((oldL (0 : Nat) (ofBytes s_76)) || (oldL (5 : Nat) (ofBytes s_76))) && true) = true) ∧
 (∃ n_88 : Int, (((AV.int .u64 (IntKind.wrap .u64 (n_83 + (0 : Int)))) = (AV.int .u64 n_88)) ∧
 (∃ n_89 : Int, (((AV.int .u64 (Int.fdiv n_88 (67108864 : Int))) = (AV.int .u64 n_89)) ∧
 (∃ n_90 : Int, (((AV.int .u64 (IntKind.wrap .u64 (Nat.cast ((Int.toNat (n_88 % (18446744073709551616 : Int))) &&& (67108863 : Nat)) : Int))) = (AV.int .u64 n_90)) ∧
 (∃ n_91 : Int, (((AV.int .u64 (IntKind.wrap .u64 (n_90 * (1 : Int)))) = (AV.int .u64 n_91)) ∧
 (∃ n_92 : Int, (((AV.int .u64 (IntKind.wrap .u64 (Nat.cast ((0 : Nat) ||| (Int.toNat (n_91 % (18446744073709551616 : Int)))) : Int))) = (AV.int .u64 n_92)) ∧
 (∃ n_93 : Int, (((AV.int .u8 (IntKind.wrap .u8 n_92)) = (AV.int .u8 n_93)) ∧
 (∃ n_94 : Int, (((AV.int .u64 (Int.fdiv n_92 (256 : Int))) = (AV.int .u64 n_94)) ∧
 (∃ n_95 : Int, (((AV.int .u8 (IntKind.wrap .u8 n_94)) = (AV.int .u8 n_95)) ∧
 (∃ n_96 : Int, (((AV.int .u64 (Int.fdiv n_94 (256 : Int))) = (AV.int .u64 n_96)) ∧
 (∃ n_97 : Int, (((AV.int .u8 (IntKind.wrap .u8 n_96)) = (AV.int .u8 n_97)) ∧
 (∃ n_98 : Int, (((AV.int .u64 (Int.fdiv n_96 (256 : Int))) = (AV.int .u64 n_98)) ∧
 (∃ n_99 : Int, (((AV.int .u64 (IntKind.wrap .u64 (n_84 + n_89))) = (AV.int .u64 n_99)) ∧
 (∃ n_100 : Int, (((AV.int .u64 (Int.fdiv n_99 (67108864 : Int))) = (AV.int .u64 n_100)) ∧
 (∃ n_101 : Int, (((AV.int .u64 (IntKind.wrap .u64 (Nat.cast ((Int.toNat (n_99 % (18446744073709551616 : Int))) &&& (67108863 : Nat)) : Int))) = (AV.int .u64 n_101)) ∧
 (∃ n_102 : Int, (((AV.int .u64 (IntKind.wrap .u64 (n_101 * (4 : Int)))) = (AV.int .u64 n_102)) ∧
 (∃ n_103 : Int, (((AV.int .u64 (IntKind.wrap .u64 (Nat.cast ((Int.toNat (n_98 % (18446744073709551616 : Int))) ||| (Int.toNat (n_102 % (18446744073709551616 : Int)))) : Int))) = (AV.int .u64 n_103)) ∧
 (∃ n_104 : Int, (((AV.int .u8 (IntKind.wrap .u8 n_103)) = (AV.int .u8 n_104)) ∧
 (∃ n_105 : Int, (((AV.int .u64 (Int.fdiv n_103 (256 : Int))) = (AV.int .u64 n_105)) ∧
 (∃ n_106 : Int, (((AV.int .u8 (IntKind.wrap .u8 n_105)) = (AV.int .u8 n_106)) ∧
 (∃ n_107 : Int, (((AV.int .u64 (Int.fdiv n_105 (256 : Int))) = (AV.int .u64 n_107)) ∧
 (∃ n_108 : Int, (((AV.int .u8 (IntKind.wrap .u8 n_107)) = (AV.int .u8 n_108)) ∧
 (∃ n_109 : Int, (((AV.int .u64 (Int.fdiv n_107 (256 : Int))) = (AV.int .u64 n_109)) ∧
 (∃ n_110 : Int, (((AV.int .u64 (IntKind.wrap .u64 (n_85 + n_100))) = (AV.int .u64 n_110)) ∧
 (∃ n_111 : Int, (((AV.int .u64 (Int.fdiv n_110 (67108864 : Int))) = (AV.int .u64 n_111)) ∧
 (∃ n_112 : Int, (((AV.int .u64 (IntKind.wrap .u64 (Nat.cast ((Int.toNat (n_110 % (18446744073709551616 : Int))) &&& (67108863 : Nat)) : Int))) = (AV.int .u64 n_112)) ∧
 (∃ n_113 : Int, (((AV.int .u64 (IntKind.wrap .u64 (n_112 * (16 : Int)))) = (AV.int .u64 n_113)) ∧
 (∃ n_114 : Int, (((AV.int .u64 (IntKind.wrap .u64 (Nat.cast ((Int.toNat (n_109 % (18446744073709551616 : Int))) ||| (Int.toNat (n_113 % (18446744073709551616 : Int)))) : Int))) = (AV.int .u64 n_114)) ∧
 (∃ n_115 : Int, (((AV.int .u8 (IntKind.wrap .u8 n_114)) = (AV.int .u8 n_115)) ∧
 (∃ n_116 : Int, (((AV.int .u64 (Int.fdiv n_114 (256 : Int))) = (AV.int .u64 n_116)) ∧
 (∃ n_117 : Int, (((AV.int .u8 (IntKind.wrap .u8 n_116)) = (AV.int .u8 n_117)) ∧
 (∃ n_118 : Int, (((AV.int .u64 (Int.fdiv n_116 (256 : Int))) = (AV.int .u64 n_118)) ∧
 (∃ n_119 : Int, (((AV.int .u8 (IntKind.wrap .u8 n_118)) = (AV.int .u8 n_119)) ∧
 (∃ n_120 : Int, (((AV.int .u64 (Int.fdiv n_118 (256 : Int))) = (AV.int .u64 n_120)) ∧
 (∃ n_121 : Int, (((AV.int .u64 (IntKind.wrap .u64 (n_86 + n_111))) = (AV.int .u64 n_121)) ∧
 (∃ n_122 : Int, (((AV.int .u64 (Int.fdiv n_121 (67108864 : Int))) = (AV.int .u64 n_122)) ∧
 (∃ n_123 : Int, (((AV.int .u64 (IntKind.wrap .u64 (Nat.cast ((Int.toNat (n_121 % (18446744073709551616 : Int))) &&& (67108863 : Nat)) : Int))) = (AV.int .u64 n_123)) ∧
 (∃ n_124 : Int, (((AV.int .u64 (IntKind.wrap .u64 (n_123 * (64 : Int)))) = (AV.int .u64 n_124)) ∧
 (∃ n_125 : Int, (((AV.int .u64 (IntKind.wrap .u64 (Nat.cast ((Int.toNat (n_120 % (18446744073709551616 : Int))) ||| (Int.toNat (n_124 % (18446744073709551616 : Int)))) : Int))) = (AV.int .u64 n_125)) ∧
 (∃ n_126 : Int, (((AV.int .u8 (IntKind.wrap .u8 n_125)) = (AV.int .u8 n_126)) ∧
 (∃ n_127 : Int, (((AV.int .u64 (Int.fdiv n_125 (256 : Int))) = (AV.int .u64 n_127)) ∧
 (∃ n_128 : Int, (((AV.int .u8 (IntKind.wrap .u8 n_127)) = (AV.int .u8 n_128)) ∧
 (∃ n_129 : Int, (((AV.int .u64 (Int.fdiv n_127 (256 : Int))) = (AV.int .u64 n_129)) ∧
 (∃ n_130 : Int, (((AV.int .u8 (IntKind.wrap .u8 n_129)) = (AV.int .u8 n_130)) ∧
 (∃ n_131 : Int, (((AV.int .u64 (Int.fdiv n_129 (256 : Int))) = (AV.int .u64 n_131)) ∧
 (∃ n_132 : Int, (((AV.int .u8 (IntKind.wrap .u8 n_131)) = (AV.int .u8 n_132)) ∧
 (∃ n_133 : Int, (((AV.int .u64 (Int.fdiv n_131 (256 : Int))) = (AV.int .u64 n_133)) ∧
 (∃ n_134 : Int, (((AV.int .u64 (IntKind.wrap .u64 (n_87 + n_122))) = (AV.int .u64 n_134)) ∧
 (∃ n_135 : Int, (((AV.int .u64 (Int.fdiv n_134 (67108864 : Int))) = (AV.int .u64 n_135)) ∧
 (∃ n_136 : Int, (((AV.int .u64 (IntKind.wrap .u64 (Nat.cast ((Int.toNat (n_134 % (18446744073709551616 : Int))) &&& (67108863 : Nat)) : Int))) = (AV.int .u64 n_136)) ∧
 (∃ n_137 : Int, (((AV.int .u64 (IntKind.wrap .u64 (n_136 * (1 : Int)))) = (AV.int .u64 n_137)) ∧
 (∃ n_138 : Int, (((AV.int .u64 (IntKind.wrap .u64 (Nat.cast ((Int.toNat (n_133 % (18446744073709551616 : Int))) ||| (Int.toNat (n_137 % (18446744073709551616 : Int)))) : Int))) = (AV.int .u64 n_138)) ∧
 (∃ n_139 : Int, (((AV.int .u8 (IntKind.wrap .u8 n_138)) = (AV.int .u8 n_139)) ∧
 (∃ n_140 : Int, (((AV.int .u64 (Int.fdiv n_138 (256 : Int))) = (AV.int .u64 n_140)) ∧
 (∃ n_141 : Int, (((AV.int .u8 (IntKind.wrap .u8 n_140)) = (AV.int .u8 n_141)) ∧
 (∃ n_142 : Int, (((AV.int .u64 (Int.fdiv n_140 (256 : Int))) = (AV.int .u64 n_142)) ∧
 (∃ n_143 : Int, (((AV.int .u8 (IntKind.wrap .u8 n_142)) = (AV.int .u8 n_143)) ∧
 (∃ n_144 : Int, (((AV.int .u64 (Int.fdiv n_142 (256 : Int))) = (AV.int .u64 n_144)) ∧
 (∃ s_145 : (List UInt8), (((AV.str ((toB (AV.int .u8 n_93)) :: ((toB (AV.int .u8 n_95)) :: ((toB (AV.int .u8 n_97)) :: ((toB (AV.int .u8 n_104)) :: ((toB (AV.int .u8 n_106)) :: ((toB (AV.int .u8 n_108)) :: ((toB (AV.int .u8 n_115)) :: ((toB (AV.int .u8 n_117)) :: ((toB (AV.int .u8 n_119)) :: ((toB (AV.int .u8 n_126)) :: ((toB (AV.int .u8 n_128)) :: ((toB (AV.int .u8 n_130)) :: ((toB (AV.int .u8 n_132)) :: ((toB (AV.int .u8 n_139)) :: ((toB (AV.int .u8 n_141)) :: ((toB (AV.int .u8 n_143)) :: []))))))))))))))))) = (AV.str s_145)) ∧
 (Q (Out.ret (AV.str s_145)) [] (Gh.mk (0 : Nat) (1 : Nat) [])))))))))))))))))))))))))))))))))))))))))))))))))))))))))))))))))))))))))))))))))))))))))))))))))))))))))))))))))))))))))))))))))))))))))))))
else False)))
else False)))))))))))))))))))))))))))))))))))))))))))))))))))))))))))))))))))))))))))))))))))))))))))))))))))))))))))))))))))))))))))))))))))))))
else False))
else False)
else False)))))
else False)
else False))
else False)
else False)))))
else False)
else False))
else False)
else False)))))
else False)
else False))
else False)
else False)))))
else False)
else False))
else False)
else False)))))
else False)
else False))
else False)
else False)))))
else False)
else False))
else False)
else False)))))
else False)
else False)))
else False)) := by kernel_rfl

end Go.Proofs.Ytiholnebhmjbjaa
