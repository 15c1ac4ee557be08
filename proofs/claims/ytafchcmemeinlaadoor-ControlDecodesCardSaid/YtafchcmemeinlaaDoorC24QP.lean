/-
  Chapter 24: the pairs of valid numbers: bounds.
-/
import Derived.Test.YtafchcmemeinlaaDoorC24XH
set_option linter.unusedSimpArgs false
set_option linter.unusedVariables false
namespace Go.Proofs.YtafchcmemeinlaaDoor
open Go.RowKit
set_option maxRecDepth 1000000
theorem aF8:∀ (l:List Int) (b m:Int),(∀n∈l,0≤n∧n≤65535)→(0≤b∧b≤65535)→(0≤m∧m≤65535)→∀p∈dQ b m l,(0≤p.1∧p.1<65536)∧0≤p.2∧p.2<65536
 | [],b,m,_,hb,hm,p,hp=>by
  simp only[dQ,List.mem_cons,List.not_mem_nil,or_false] at hp
  subst hp
  exact ⟨by dsimp only;omega,by dsimp only;omega⟩
 | n::l,b,m,h,hb,hm,p,hp=>by
  have hn:=h n (by simp)
  have hl:∀n∈l,0≤n∧n≤65535:=fun x hx=>h x (by simp[hx])
  rw[dQ] at hp
  split at hp
  ·rw[List.mem_cons] at hp
   rcases hp with rfl | hp
   ·exact ⟨by dsimp only;omega,by dsimp only;omega⟩
   ·exact aF8 l n 0 hl hn ⟨by omega,by omega⟩ p hp
  ·refine aF8 l b _ hl hb ⟨by omega, ?_⟩ p hp
   have h1:(m%18446744073709551616).toNat<2^16:=by omega
   have h2:2^((n-b)%65536-1).toNat<2^16:=Nat.pow_lt_pow_right (by decide) (by omega)
   have h3:=Nat.or_lt_two_pow h1 h2
   omega
theorem aKz {lo:List Int} (h:bV lo=true):∀p∈aM lo,(0≤p.1∧p.1<65536)∧0≤p.2∧p.2<65536:=by
 simp only[bV,Bool.and_eq_true,decide_eq_true_eq,Bool.not_eq_true',List.any_eq_false] at h
 have hr:∀n∈lo,0≤n∧n≤65535:=fun n hn=>by
  have:=h.1.2 n hn
  rw[tC] at this
  omega
 cases lo with
 | nil=>intro p hp;simp[aM] at hp
 | cons n l=>exact aF8 l n 0 (fun x hx=>hr x (by simp[hx])) (hr n (by simp)) ⟨by omega,by omega⟩
theorem aCp (ps:List (Int×Int)):(dE ps).length=4*ps.length:=by
 induction ps with
 | nil=>rfl
 | cons p ps ih=>
  have e:dE (p::ps)=aJ 2 [p.1,p.2]++dE ps:=rfl
  rw[e,List.length_append,ih,aH,List.length_cons,List.length_cons,List.length_cons,List.length_nil];omega
end Go.Proofs.YtafchcmemeinlaaDoor
