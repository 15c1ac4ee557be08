/-
  Chapter 24: Draft: pieces are valid: the plain part.
-/
import Derived.Test.YtafchcmemeinlaaDoorCmG
set_option linter.unusedSimpArgs false
set_option linter.unusedVariables false
namespace Go.Proofs.YtafchcmemeinlaaDoor
open Go.RowKit
set_option maxRecDepth 1000000

theorem aD3 (S:List Int):∀m k,(nH S k m).length=2*m
 | 0,k=>rfl
 | m+1,k=>by rw[nH,List.length_append,gG,aD3 S m (k+1)];omega
theorem aQh {c:Ctl} (h:aQ c=true):(cZ c).length≤272:=by
 have h2:=aGi (dG c)
 have h3:(dG c).length≤268:=by
  clear h2
  rcases eO h with ⟨f,s1,s2,s3,s4,s5,rs,rfl,hrs⟩ | ⟨f,rs,rfl,hrs⟩ | ⟨f,rfl⟩ | ⟨f,a,lo,rfl,hlo⟩ | ⟨f,a,rfl⟩ | ⟨f,a,ba,ro,ti,rfl,hti⟩
  all_goals simp only[dG,List.length_append,aH,List.length_cons,List.length_nil,iI,vJ]
  ·simp[aM,aH];omega
  ·simp[aM];omega
  ·simp[aM]
  ·have:=rO lo
   have:=(eQ hlo).2.1
   simp[aH];omega
  ·simp[aM,aH]
  ·obtain ⟨ref,l,h1,h2,h3⟩:=fI hti
   have h4:=lH h1
   have h5:=xQ ti
   have h7:=jJ l
   have h8:=rP (bA ti l) ((ti.length+6)/7) 0
   rw[Nat.zero_add,Nat.mul_comm 7] at h8
   have h9:=aD3 (bA ti l) ((ti.length+6)/7) 0
   have:(pJ ti ro).length≤200:=by
    simp only[pJ,h1,List.length_append,gJ,h8,h9]
    simp[aW]
    omega
   simp[aM,aH];omega
 rw[cZ,aB5];omega
theorem aAw:∀l:List Ctl,(∀c∈l,aQ c=true)→(bX l).length≤272*l.length
 | [],_=>by simp[bX]
 | c::l,h=>by
  have h1:=aQh (h c (by simp))
  have h2:=aAw l (fun d hd=>h d (by simp[hd]))
  have e:bX (c::l)=cZ c++bX l:=rfl
  rw[e,List.length_append,List.length_cons];omega
def aQ8 (b:Int):Int→List Int→Int
 | far,[]=>far
 | _,x::l=>aQ8 b ((x-b)%65536) l
theorem aEf (b n:Int):∀ (l:List Int) (far:Int),aU b far l=true→aQ8 b far l<(n-b)%65536→(n-b)%65536≤32767→aU b far (l++[n])=true∧aQ8 b far (l++[n])=(n-b)%65536
 | [],far,_,h2,h3=>by
  rw[aQ8] at h2
  rw[List.nil_append,aU,if_neg (by omega),aU,aQ8,aQ8]
  exact ⟨rfl,rfl⟩
 | x::l,far,h1,h2,h3=>by
  rw[aU] at h1
  rw[aQ8] at h2
  split at h1
  ·cases h1
  ·rename_i hx
   rw[List.cons_append,aU,if_neg hx,aQ8]
   exact aEf b n l _ h1 h2 h3
def nkP (f at':Int) (l:List Int):Prop:=(1≤l.length∧l.length≤64)∧(∀x∈l,0≤x∧x≤65535)∧l.getD 0 0=f∧aU f (-1) l=true∧aQ8 f (-1) l=at'∧0≤at'∧at'≤20*((l.length:Int)-1)
theorem aP0 {f:Int} (h:0≤f∧f≤65535):nkP f 0 [f]:=by
 refine ⟨by simp,by simpa using h,rfl, ?_, ?_,by omega,by simp⟩
 ·rw[aU,if_neg (by omega),aU]
 ·rw[aQ8,aQ8];omega
theorem aKj {f at' d:Int} {l:List Int} (h:nkP f at' l) (hl:l.length<64) (hd:1≤d∧d≤20):nkP f (at'+d) (l++[(f+(at'+d))%65536]):=by
 obtain ⟨⟨h1,h2⟩,h3,h4,h5,h6,h7,h8⟩:=h
 have e:((f+(at'+d))%65536-f)%65536=at'+d:=by omega
 have:=aEf f ((f+(at'+d))%65536) l (-1) h5 (by rw[e,h6];omega) (by rw[e];omega)
 rw[e] at this
 refine ⟨by simp;omega, ?_, ?_,this.1,this.2,by omega,by simp;omega⟩
 ·intro x hx
  rw[List.mem_append] at hx
  rcases hx with hx | hx
  ·exact h3 x hx
  ·simp only[List.mem_cons,List.not_mem_nil,or_false] at hx
   omega
 ·cases l with
  | nil=>simp at h1
  | cons x l=>simpa using h4
theorem bJp {f at':Int} {l:List Int} (h:nkP f at' l):bV l=true:=by
 obtain ⟨⟨h1,h2⟩,h3,h4,h5,h6,h7,h8⟩:=h
 have h9:l.any (jI 16)=false:=by
  rw[List.any_eq_false]
  intro x hx
  have:=h3 x hx
  rw[tC];omega
 simp only[bV,h4,h5,h9,Bool.not_false,Bool.and_true,Bool.and_eq_true,decide_eq_true_eq]
 omega
def tmP (at':Int) (l:List Int):Prop:=(1≤l.length∧l.length≤64)∧(0≤at'∧at'<2147483648+500*(l.length:Int))∧∃R F L A,(F=false→A=at')∧∀ys,dM (l++ys)=aT R A F ys L
theorem aBv {a:Int} (h:0≤a∧a<2147483648):tmP a [-1]:=
 ⟨by simp,by simp;omega,0,true,[],0,by simp,fun ys=>by rw[dM,List.cons_append,aT,if_pos rfl,List.nil_append]⟩
theorem aHo {a:Int} (h:0≤a∧a<2147483648):tmP a [a]:=
 ⟨by simp,by simp;omega,a/256,false,[a%256],a,by simp,fun ys=>by rw[dM,List.cons_append,aT,if_neg (by omega),if_neg (by omega),if_pos rfl,List.nil_append,List.nil_append]⟩
theorem vG {a:Int} {l:List Int} (h:tmP a l) (hl:l.length<64):tmP a (l++[-1]):=by
 obtain ⟨h1,h2,R,F,L,A,h3,h4⟩:=h
 refine ⟨by simp;omega,by simp;omega,R,F,L,A,h3,fun ys => ?_⟩
 rw[List.append_assoc,h4,List.cons_append,aT,if_pos rfl,List.nil_append]
theorem aCz {a b:Int} {l:List Int} (h:tmP a l) (hl:l.length<64) (hb:0≤b ∧ -100≤b-a∧b-a<500):tmP b (l++[b]):=by
 obtain ⟨h1,h2,R,F,L,A,h3,h4⟩:=h
 refine ⟨by simp;omega,by simp;omega, ?_⟩
 cases F with
 | false=>
  have:=h3 rfl
  subst this
  exact ⟨R,false,L++[b-A],b,fun _=>rfl,fun ys=>by rw[List.append_assoc,h4,List.cons_append,aT,if_neg (by omega),if_neg (by omega),if_neg (by decide),if_neg (by omega),List.nil_append]⟩
 | true=>exact ⟨b/256,false,L++[b%256],b,fun _=>rfl,fun ys=>by rw[List.append_assoc,h4,List.cons_append,aT,if_neg (by omega),if_neg (by omega),if_pos rfl,List.nil_append]⟩
theorem bIz {a:Int} {l:List Int} (h:tmP a l):(aZ l).2.2=true:=by
 obtain ⟨h1,h2,R,F,L,A,h3,h4⟩:=h
 have:=h4 []
 rw[List.append_nil,aT] at this
 simp only[aZ,this,decide_eq_true_eq]
 exact h1
end Go.Proofs.YtafchcmemeinlaaDoor
