/-
  Chapter 17: what was sealed is opened once (plain).
-/
import Derived.Test.YtiholnebhmjbjaaM17N
set_option linter.unusedSimpArgs false
set_option linter.unusedVariables false
set_option linter.unusedSectionVars false
namespace Go.Proofs.Ytiholnebhmjbjaa
open Go.RowKit
set_option maxRecDepth 1000000

theorem mark_fresh {t:Int} {k:Nat} {q p:Int} (hk:k<18446744073709551616) (hf:freshWM t k q=0) (h0:0≤p) (h1:t-64<p) (h2:q-64<p):isFreshM (markWM t k q).1 (markWM t k q).2 p=(isFreshM t k p&&decide (p≠q)):=by
 obtain ⟨g1,g2,g3⟩:=fresh_parts hf
 unfold isFreshM
 by_cases hqt:q≤t
 ·have g4:=(g3 hqt).1
  rw[markWM,if_pos hqt]
  dsimp only
  by_cases hp:t<p
  ·rw[decide_eq_true hp,decide_eq_true (by omega:p≠q)];rfl
  ·rw[decide_eq_false hp,decide_eq_true h1,bitW_test,bitW_test,Nat.testBit_or,Nat.testBit_two_pow]
   by_cases hpq:p=q
   ·subst hpq
    simp
   ·rw[decide_eq_false (by omega:¬ (t-q).toNat=(t-p).toNat),decide_eq_true hpq]
    simp
 ·have htr:(t = -1∧k=0)∨0≤t:=by rcases ok_parts g1 with h | h<;>omega
  rw[markWM,if_neg hqt]
  dsimp only
  by_cases hp:q<p
  ·rw[decide_eq_true hp,decide_eq_true (by omega:t<p),decide_eq_true (by omega:p≠q)];rfl
  ·rw[decide_eq_false hp,decide_eq_true h2,decide_eq_true h1]
   by_cases hpq:p=q
   ·subst hpq
    rw[bitW_test,Nat.testBit_or]
    simp
   ·rw[decide_eq_true hpq,bitW_test,Nat.testBit_or,show (18446744073709551616:Nat)=2^64 from rfl,Nat.testBit_mod_two_pow,Nat.testBit_mul_two_pow,show Nat.testBit 1 (q-p).toNat=false by rw[show (1:Nat)=2^0 from rfl,Nat.testBit_two_pow,decide_eq_false (by omega)],Bool.or_false,decide_eq_true (by omega:(q-p).toNat<64)]
    rcases htr with ⟨rfl,rfl⟩ | ht
    ·rw[if_pos (by omega),decide_eq_true (by omega:(-1:Int)<p)]
     simp
    ·rw[if_neg (by omega)]
     by_cases hpt:t<p
     ·rw[decide_eq_true hpt,decide_eq_false (by omega:¬ (q-p).toNat≥min (q-t).toNat 64)]
      rfl
     ·rw[decide_eq_false hpt,decide_eq_true (by omega:(q-p).toNat≥min (q-t).toNat 64),bitW_test,show (q-p).toNat-min (q-t).toNat 64=(t-p).toNat by omega]
      simp
end Go.Proofs.Ytiholnebhmjbjaa
