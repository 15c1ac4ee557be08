/-
  Chapter 4: plain lemmas of SealOne.
-/
import Derived.Test.YtiholnebhmjbjaaGreatZgC
set_option linter.unusedSimpArgs false
set_option linter.unusedVariables false
namespace Go.Proofs.YtiholnebhmjbjaaGreat
open Go.RowKit
set_option maxRecDepth 1000000
theorem leB_mod (n:Nat):∀x,leBM n (x%2^(8*n))=leBM n x:=by
 induction n with
 | zero=>intro x;rfl
 | succ n ih=>
  intro x
  have e:x%2^(8*(n+1))=x%256+256*(x/256%2^(8*n)):=by rw[show 8*(n+1)=8+8*n by omega,Nat.pow_add,show (2:Nat)^8=256 from rfl,Nat.mod_mul]
  rw[leBM,leBM,e,show (x%256+256*(x/256%2^(8*n)))%256=x%256 by omega,show (x%256+256*(x/256%2^(8*n)))/256=x/256%2^(8*n) by omega,ih]

def valNM:List Nat→Nat
 | []=>0
 | x::l=>x+256*valNM l
def cellsNM (l:List Nat):List AV:=l.map fun (n:Nat)=>AV.int .i64 (n:Int)
def unNM:AV→Nat
 | .int _ n=>n.toNat
 | _=>0
theorem cellsN_len (l:List Nat):(cellsNM l).length=l.length:=by simp[cellsNM]
theorem unN_map (l:List Nat):(cellsNM l).map unNM=l:=by
 induction l with
 | nil=>rfl
 | cons x l ih=>rw[cellsNM,List.map_cons,List.map_cons,show List.map unNM (List.map (fun (n:Nat)=>AV.int .i64 (n:Int)) l)=l from ih];rfl
theorem ldN {l:List Nat} {j m:Nat} (hj:j<l.length) (hm:m=j) {K:Int→Prop} (hk:K ((l.getD j 0:Nat):Int)):∃n:Int,(List.take 1 (List.drop m (cellsNM l))).getD 0 AV.undef=AV.int .i64 n∧K n:=by
 subst hm
 refine ⟨_, ?_,hk⟩
 rw[List.getD_eq_getElem?_getD,List.getElem?_take,if_pos (by omega),List.getElem?_drop,cellsNM,List.getElem?_map,Nat.add_zero,List.getElem?_eq_getElem hj]
 simp[List.getD_eq_getElem?_getD,hj]
theorem stN {L:List Nat} {j m x:Nat} (hj:j<L.length) (hm:m=j):setRange (cellsNM L) m [AV.int .i64 (x:Int)]=cellsNM (L.set j x):=by
 subst hm
 rw[List.set_eq_take_append_cons_drop,if_pos hj]
 simp[setRange,cellsNM]
theorem val_set:∀ (L:List Nat) (i x:Nat),i<L.length→valNM (L.set i x)+L.getD i 0*256^i=valNM L+x*256^i
 | y::L,0,x,_=>by simp[valNM];omega
 | y::L,i+1,x,h=>by
  have ih:=val_set L i x (by simpa using h)
  rw[List.set_cons_succ,valNM,valNM,List.getD_cons_succ,Nat.pow_succ,←Nat.mul_assoc,←Nat.mul_assoc]
  generalize L.getD i 0*256^i=A at *
  generalize x*256^i=B at *
  omega
theorem set_get (L:List Nat) (i j x:Nat) (h:i<L.length):(L.set i x).getD j 0=if i=j then x else L.getD j 0:=by
 rw[List.getD_eq_getElem?_getD,List.getElem?_set]
 split
 ·rename_i e
  subst e
  first | rfl | (rw[if_pos h];rfl)
 ·rw[List.getD_eq_getElem?_getD]
theorem val_div:∀ (n:Nat) (L:List Nat),n≤L.length→(∀j,j<n→L.getD j 0≤255)→∃S,valNM L=S+256^n*valNM (L.drop n)∧S<256^n
 | 0,L,_,_=>⟨0,by simp,by decide⟩
 | n+1,[],h,_=>by simp at h
 | n+1,x::L,h,hb=>by
  have hx:=hb 0 (by omega)
  rw[List.getD_cons_zero] at hx
  obtain ⟨S,h1,h2⟩:=val_div n L (by simpa using h) (fun j hj=>by have:=hb (j+1) (by omega);rwa [List.getD_cons_succ] at this)
  refine ⟨x+256*S, ?_, ?_⟩
  ·rw[valNM,h1,List.drop_succ_cons,Nat.pow_succ,Nat.mul_comm (256^n) 256,Nat.mul_assoc,Nat.mul_add]
   omega
  ·rw[Nat.pow_succ];omega
theorem val_digit (L:List Nat) (hb:∀j,L.getD j 0≤255) (j:Nat) (hj:j<L.length):L.getD j 0=valNM L/256^j%256:=by
 obtain ⟨S,h1,h2⟩:=val_div j L (by omega) (fun i _=>hb i)
 have h3:L.drop j=L.getD j 0::L.drop (j+1):=by
  rw[List.drop_eq_getElem_cons hj,List.getD_eq_getElem?_getD,List.getElem?_eq_getElem hj];rfl
 have h4:=hb j
 rw[h1,Nat.add_mul_div_left _ _ (Nat.pow_pos (by decide)),Nat.div_eq_of_lt h2,Nat.zero_add,h3,valNM]
 omega
end Go.Proofs.YtiholnebhmjbjaaGreat
