/-
  Chapter 24: Encode.
-/
import Derived.Test.YtafchcmemeinlaaDoorC24XJ
set_option linter.unusedSimpArgs false
set_option linter.unusedVariables false
set_option linter.unusedSectionVars false
namespace Go.Proofs.YtafchcmemeinlaaDoor
open Go.RowKit
set_option maxRecDepth 1000000

def bX (l:List Ctl):List UInt8:=l.flatMap cZ
def bQq:SM:=gH [(25,aPf),(46,aH5)]
theorem bE9:∀f g,bQq f=some g→aO Tryd.prog glC f g:=bW _ (by simp only[List.mem_cons,List.not_mem_nil,or_false,forall_eq_or_imp,forall_eq];exact ⟨aSy,aPo⟩)
abbrev X24:=Nat×List UInt8×List AV×List AV×List AV×List AV
def bKa (t:Nat) (l:List Ctl):List LInv:=[
 { α:=Nat,pre:=fun i=>Lf (i=0∧bP l=true),st:=fun i=>⟨mkT [(5,.nils),(13,.lst t (aG l) l.length 13),(14,.int .i64 l.length),(15,.int .i64 (i:Nat))],[]⟩,mu:=fun i=>l.length+1 },
 { α:=X24,pre:=fun x=>Lf (1≤x.1∧x.1≤l.length∧bP l=true∧x.2.1=bX (l.take x.1)),st:=fun x=>⟨mkT [(5,.sl 4 x.2.1.length 0 x.2.1.length 1),(13,.lst t (aG l) l.length 13),(14,.int .i64 l.length),(15,.int .i64 (x.1:Nat))],[⟨.exact,true,x.2.2.1⟩,⟨.exact,true,x.2.2.2.1⟩,⟨.exact,true,x.2.2.2.2.1⟩,⟨.grow,true,x.2.2.2.2.2⟩,⟨.grow,true,ofBytes x.2.1⟩]⟩,mu:=fun x=>l.length-x.1 }]
noncomputable def aYl (hv:Nat→Option Pa) (hb:Nat→Option Bool) (t:Nat) (l:List Ctl):Env:=e24 bQq (fun i=>bif Nat.beq i 24000 then some (fun _=>[bKa t l]) else none) hv hb
noncomputable def aF9 (hv:Nat→Option Pa) (hb:Nat→Option Bool) (t:Nat) (l:List Ctl) (Q:Out→List Blk→Gh→Prop):Prop:=
 bH (aYl hv hb t l) (wpx (aYl hv hb t l) 1000) 24 [.lst t (aG l) l.length 13] [] {} Q
abbrev bHk (x_3:Nat×List UInt8×List AV×List AV×List AV×List AV) (l:List Ctl):Prop:=Lf (1≤x_3.1∧x_3.1≤l.length∧bP l=true∧x_3.2.1=bX (l.take x_3.1))
abbrev bCl (x_3:Nat) (l:List Ctl):List AV:=((aG l).drop ((x_3:Int).toNat*13)).take 13
abbrev bBn:List AV:=[.int .i64 0,.int .i64 0,.int .i64 0,.int .i64 0,.int .i64 0,.int .i64 0,.int .i64 0,.int .i64 0,.nils,.nils,.int .i64 0,.int .i64 0,.nils]
abbrev bNg (c_4:Ctl):List AV:=[.int .i64 c_4.1,.int .i64 c_4.2,.int .i64 c_4.3,.int .i64 c_4.4,.int .i64 c_4.5,.int .i64 c_4.6,.int .i64 c_4.7,.int .i64 c_4.8,.lst 0 (aF c_4.9) c_4.9.length 7,.lst 0 (aA c_4.10) c_4.10.length 1,.int .i64 c_4.11,.int .i64 c_4.12,.lst 0 (aA c_4.13) c_4.13.length 1]
abbrev bPq (t:Nat) (l:List Ctl):Prop:=aK (AV.lst t (aG l) l.length 13)∧aK (AV.int .i64 (l.length:Int))∧True
abbrev bFh (x_3:Nat×List UInt8×List AV×List AV×List AV×List AV) (l:List Ctl):List AV:=((aG l).drop ((x_3.1:Int).toNat*13)).take 13
theorem bPj (t:Nat) (l:List Ctl) (Q:Out→List Blk→Gh→Prop):aF9 (bG [(98318,.int .i64),(98326,.int .i64),(98328,.int .i64),(98331,.str)]) (bF []) t l Q=(∃l_0:List Ctl,Lf (aG l=aG l_0 ∧
 l.length=l_0.length∧l_0.length≤1000000∧∀c_1:Ctl,Membership.mem l_0 c_1→okC c_1)∧∀e_1:Int,Lf (e_1=ite (bP l_0=true) 0 240)→bif e_1 !=0 then Q (.ret (.tup [.str [],.int .i64 e_1])) [] {} else exI .i64
 (l.length:Int) (fun n_2=>((∃x_3:Nat,Lf (x_3=0∧bP l=true)∧AV.int .i64 0=AV.int .i64 (x_3:Int)∧AV.nils=AV.nils∧aK (AV.lst t (aG l) l.length 13)∧AV.int .i64 n_2=AV.int .i64 (l.length:Int)∧True)∨∃
 x_3:Nat×List UInt8×List AV×List AV×List AV×List AV,bHk x_3 l∧False)∧(∀x_3:Nat,Lf (x_3=0∧bP l=true)→bif decide ((x_3:Int)<(l.length:Int)) then ckQ (Nat.blt (x_3:Int).toNat l.length&&true) (ckQ
 (Nat.ble ((x_3:Int).toNat*13+13) (aG l).length) (ckQ (Nat.beq (bCl x_3 l).length 13&&tO (bCl x_3 l)&&true) (ckQ (Nat.beq (dH bBn 0 (bCl x_3 l)).length 13&&true) (∃c_4:Ctl,Lf (((dH bBn 0 (bCl x_3
 l)).drop 0).take 13=bNg c_4∧aQ c_4=true∧(Ctl.k c_4=1∨Ctl.k c_4=2))∧∀c1_5 c2_6 c3_7:List AV,∀R_8:List UInt8,Lf (R_8=cZ c_4)→exW .i64 ((x_3:Int)+1) (fun n_9=>(True∧(0:Nat)=(0:Nat))∧((∃y_10
 : Nat,Lf (y_10=0∧bP l=true)∧l.length+1<l.length+1∧False)∨∃y_10:Nat×List UInt8×List AV×List AV×List AV×List AV,bHk y_10 l∧l.length-y_10.1<l.length+1∧ckQ (bB 0 (bCl x_3 l)==true) (dH
 bBn 0 (bCl x_3 l)=y_10.2.2.1∧c1_5=y_10.2.2.2.1∧c2_6=y_10.2.2.2.2.1∧c3_7=y_10.2.2.2.2.2∧ofBytes R_8=ofBytes y_10.2.1∧AV.int .i64 n_9=AV.int .i64 (y_10.1:Int)∧AV.sl 4 R_8.length 0 R_8.length 1=AV.sl 4
 y_10.2.1.length 0 y_10.2.1.length 1∧bPq t l))))))) else exI .i64 0 (fun n_4=>bif decide (n_4>1200) then Q (.ret (.tup [.str [],.int .i64 3])) [] {} else exS (.str []) (fun s_5=>Q (.ret (.tup [.str s_5,.int .i64 0])) [] {})))∧∀
 x_3:Nat×List UInt8×List AV×List AV×List AV×List AV,bHk x_3 l→bif decide ((x_3.1:Int)<(l.length:Int)) then ckQ (Nat.blt (x_3.1:Int).toNat l.length&&true) (ckQ (Nat.ble ((x_3.1:Int).toNat*13+13) (aG
 l).length) (ckQ (Nat.beq (bFh x_3 l).length 13&&tO (bFh x_3 l)&&true) (ckQ (Nat.beq (dH bBn 0 (bFh x_3 l)).length 13&&true) (∃bs_4:List UInt8,∃c_5:Ctl,Lf (GetElem?.getElem? [Blk.mk BK.exact true x_3.2.2.1,Blk.mk
 BK.exact true x_3.2.2.2.1,Blk.mk BK.exact true x_3.2.2.2.2.1,Blk.mk BK.grow true x_3.2.2.2.2.2,Blk.mk BK.grow true (ofBytes x_3.2.1),Blk.mk BK.exact (bB 0 (bFh x_3 l)) (dH bBn 0 (bFh x_3 l))] 4=Option.some (Blk.mk BK.grow
 true (ofBytes bs_4))∧x_3.2.1.length=bs_4.length∧x_3.2.1.length=bs_4.length∧bs_4.length≤20000∧((dH bBn 0 (bFh x_3 l)).drop 0).take 13=bNg c_5∧aQ c_5=true)∧∀R_6:List UInt8,Lf (R_6=bs_4++cZ c_5) →
 exW .i64 ((x_3.1:Int)+1) (fun n_7=>(True∧(0:Nat)=(0:Nat))∧((∃y_8:Nat,Lf (y_8=0∧bP l=true)∧l.length+1<l.length-x_3.1∧False)∨∃y_8:Nat×List UInt8×List AV×List AV×List AV×List AV,bHk y_8
 l∧l.length-y_8.1<l.length-x_3.1∧x_3.2.2.1=y_8.2.2.1∧x_3.2.2.2.1=y_8.2.2.2.1∧x_3.2.2.2.2.1=y_8.2.2.2.2.1∧x_3.2.2.2.2.2=y_8.2.2.2.2.2∧ofBytes R_6=ofBytes y_8.2.1∧AV.int .i64 n_7=AV.int .i64 (y_8.1:Int) ∧
 AV.sl 4 R_6.length 0 R_6.length 1=AV.sl 4 y_8.2.1.length 0 y_8.2.1.length 1∧bPq t l)))))) else ckQ (Nat.beq (ofBytes x_3.2.1).length x_3.2.1.length) (exI .i64 (x_3.2.1.length:Int) (fun n_4=>bif decide (n_4>1200) then Q (.ret
 (.tup [.str [],.int .i64 3])) [] {} else ckQ (Nat.beq (ofBytes x_3.2.1).length x_3.2.1.length&&Nat.ble (0+x_3.2.1.length) x_3.2.1.length&&true&&aJd (((ofBytes x_3.2.1).drop 0).take x_3.2.1.length)) (exS (.str (List.map toB
 (((ofBytes x_3.2.1).drop 0).take x_3.2.1.length))) (fun s_5=>Q (.ret (.tup [.str s_5,.int .i64 0])) [] {})))))):=by kernel_rfl

theorem gT (l:List Ctl):bP l=true↔(1≤l.length∧l.length≤8)∧lL l=true∧∀c∈l,aQ c=true:=by
 simp only[bP,Bool.and_eq_true,decide_eq_true_eq,List.all_eq_true,and_assoc]
theorem aGi (b:List UInt8):b.length≤(fZ b).length∧(fZ b).length≤b.length+3∧(fZ b).length%4=0:=by
 rw[fZ,List.length_append,List.length_replicate];omega
theorem aB5 (n k:Int) (b:List UInt8):(fJ n k b).length=4+b.length:=by
 simp only[fJ,List.length_append,aH,List.length_cons,List.length_nil]
theorem aCe {c:Ctl} (h:aQ c=true):4≤(dG c).length∧(dG c).length≤450:=by
 rcases eO h with ⟨f,s1,s2,s3,s4,s5,rs,rfl,hrs⟩ | ⟨f,rs,rfl,hrs⟩ | ⟨f,rfl⟩ | ⟨f,a,lo,rfl,hlo⟩ | ⟨f,a,rfl⟩ | ⟨f,a,ba,ro,ti,rfl,hti⟩
 all_goals simp only[dG,List.length_append,aH,List.length_cons,List.length_nil,iI,vJ]
 ·simp[aM,aH];omega
 ·simp[aM];omega
 ·simp[aM]
 ·have:=rO lo
  have:=(eQ hlo).2.1
  simp[aH];omega
 ·simp[aM,aH]
 ·have:=aQt (ro:=ro) hti
  simp[aM,aH];omega
theorem vU {c:Ctl} (h:aQ c=true):8≤(cZ c).length∧(cZ c).length≤460∧(cZ c).length%4=0:=by
 have h1:=aCe h
 have h2:=aGi (dG c)
 rw[cZ,aB5];omega
theorem aXc (a b:List Ctl):bX (a++b)=bX a++bX b:=by simp[bX]
theorem yT {l:List Ctl} {i:Nat} {c:Ctl} (h:l[i]? = some c):bX (l.take (i+1))=bX (l.take i)++cZ c:=by
 rw[List.take_add_one,h,aXc];simp[bX]
theorem aI6:∀l:List Ctl,(∀c∈l,aQ c=true)→(bX l).length≤460*l.length
 | [],_=>by simp[bX]
 | c::l,h=>by
  have h1:=vU (h c (by simp))
  have h2:=aI6 l (fun d hd=>h d (by simp[hd]))
  have e:bX (c::l)=cZ c++bX l:=rfl
  rw[e,List.length_append,List.length_cons];omega
theorem bQo (c:Ctl):dH [.int .i64 0,.int .i64 0,.int .i64 0,.int .i64 0,.int .i64 0,.int .i64 0,.int .i64 0,.int .i64 0,.nils,.nils,.int .i64 0,.int .i64 0,.nils] 0 (ctC c)=ctC c:=rfl
theorem aEg:∀l:List UInt8,aJd (ofBytes l)=true
 | []=>rfl
 | x::l=>aEg l
def aD6 (l:List Ctl):List UInt8×Int:=if bP l=true then (if (bX l).length≤1200 then (bX l,0) else ([],3)) else ([],240)
theorem bE5 (t:Nat) (l:List Ctl) (hok:∀c∈l,okC c) (hl:l.length≤1000000) (Q:Out→List Blk→Gh→Prop) (hq:∀s e,aD6 l=(s,e)→Q (.ret (.tup [.str s,.int .i64 e])) [] {}):∃hv hb,aF9 hv hb t l Q:=by
 obtain ⟨hv,hb',e⟩:∃hv hb,aF9 hv hb t l Q=_:=⟨_,_,bPj t l Q⟩
 refine ⟨hv,hb',e.mpr ?_⟩
 delta bHk bCl bBn bNg bPq bFh
 clear e
 refine ⟨l,⟨rfl,rfl,hl,hok⟩, ?_⟩
 rintro e ⟨he⟩
 refine cB (fun h0 => ?_) (fun h0 => ?_)
 ·have hc:¬ bP l=true:=fun h=>h0 (by rw[he,if_pos h])
  rw[he,if_neg hc]
  exact hq _ _ (by rw[aD6,if_neg hc])
 ·have hc:bP l=true:=by
   cases h:bP l
   ·rw[if_neg (by rw[h];simp)] at he;omega
   ·rfl
  obtain ⟨k1,k2,k3⟩:=(gT l).1 hc
  refine ⟨_,rfl,.inl ⟨0,⟨rfl,hc⟩,rfl,rfl,rfl,rfl,trivial⟩, ?_, ?_⟩
  ·rintro _ ⟨rfl,_⟩
   refine aD (fun h => ?_) (fun h=>by exfalso;omega)
   obtain ⟨c,hr,hcc⟩:=iJ (l:=l) (i:=0) (by omega) rfl
   have hm:=List.mem_of_getElem? hr
   have hk:c.k=1∨c.k=2:=by
    rw[iQ k1.1,decide_eq_true_eq] at k2
    cases l with
    | nil=>simp at hr
    | cons d l=>simp at hr;subst hr;exact k2
   rw[show (Int.toNat ((0:Nat):Int))*13=0 from rfl]
   rw[show 13*0=0 from rfl] at hcc
   rw[hcc,bQo]
   refine ckI (by simp;omega) (ckI (by simp[bJ];omega) (ckI rfl (ckI rfl ⟨c,⟨rfl,k3 c hm,hk⟩, ?_⟩)))
   rintro c1 c2 c3 R ⟨hR⟩
   refine aC (by omega) (by omega) ⟨⟨trivial,rfl⟩,.inr ⟨(1,R,ctC c,c1,c2,c3),⟨by simp,k1.1,hc, ?_⟩,by dsimp only;omega,ckI rfl ⟨rfl,rfl,rfl,rfl,rfl,rfl,rfl,rfl,rfl,trivial⟩⟩⟩
   rw[yT hr,hR];simp[bX]
  ·rintro ⟨i,B,J⟩ ⟨g1,g2,g3,g4⟩
   dsimp only at g1 g2 g4 ⊢
   have hBl:B.length≤460*8:=by
    rw[g4]
    have:=aI6 (l.take i) (fun c hcm=>k3 c (List.mem_of_mem_take hcm))
    have h2:(l.take i).length≤8:=by rw[List.length_take];omega
    omega
   refine aD (fun h => ?_) (fun h => ?_)
   ·have hi:i<l.length:=by omega
    obtain ⟨c,hr,hcc⟩:=iJ hi (Nat.mul_comm 13 i▸rfl:i*13=13*i)
    have hm:=List.mem_of_getElem? hr
    rw[Int.toNat_natCast,hcc,bQo]
    refine ckI (by simp;omega) (ckI (by simp[bJ];omega) (ckI rfl (ckI rfl ⟨B,c,⟨rfl,rfl,rfl,by omega,rfl,k3 c hm⟩, ?_⟩)))
    rintro R ⟨hR⟩
    exact aC (by omega) (by omega) ⟨⟨trivial,rfl⟩,.inr ⟨(i+1,R,J),⟨by simp,hi,hc,by rw[yT hr,hR,g4]⟩,by dsimp only;omega,rfl,rfl,rfl,rfl,rfl,rfl,rfl,rfl,rfl,trivial⟩⟩
   ·have hi:i=l.length:=by omega
    subst hi
    rw[List.take_length] at g4
    subst g4
    have et:List.take (bX l).length (List.drop 0 (ofBytes (bX l)))=ofBytes (bX l):=by
     rw[List.drop_zero];exact List.take_of_length_le (by rw[aI];exact Nat.le_refl _)
    refine ckI (by simp[aI]) ⟨_,rfl,aD (fun h2 => ?_) (fun h2 => ?_)⟩
    ·exact hq _ _ (by rw[aD6,if_pos hc,if_neg (by omega)])
    ·rw[et,xH]
     exact ckI (by simp[aI,aEg]) ⟨_,rfl,hq _ _ (by rw[aD6,if_pos hc,if_pos (by omega)])⟩
def bMb:Con
 | [.lst _ cs n 13],H,K=>∃l:List Ctl,Lf (cs=aG l∧n=l.length∧l.length≤1000000∧∀c∈l,okC c)∧∀s e,Lf (aD6 l=(s,e))→K (.ret (.tup [.str s,.int .i64 e])) H
 | _,_,_=>False
theorem bDm:aO Tryd.prog glC 24 bMb:=by
 refine bE (enters_of (by kernel_rfl)) aV fun args H Q hc => ?_
 unfold bMb at hc
 split at hc
 ·obtain ⟨l,⟨rfl,rfl,h1,h2⟩,hq⟩:=hc
  obtain ⟨hv,hb',h⟩:=bE5 _ l h2 h1 (fun o H' _=>H'=[]∧(∃v,o=.ret v∧old 0 v=true∧noY v=true)∧Q o H) (fun s e he=>⟨rfl,⟨_,rfl,rfl,rfl⟩,hq s e ⟨he⟩⟩)
  exact ⟨rfl,rfl,_,1000,aS bE9 _ _ _,rfl,h⟩
 ·exact hc.elim
def bGx:Con:=fun args H Q=>uC [13] H args fun a=>bMb a H Q
theorem bHx:aO Tryd.prog glC 24 bGx:=dW bDm aV [13] fun args H Q hc=>by
 unfold bMb at hc
 split at hc
 ·obtain ⟨xs,h,hq⟩:=hc
  exact ⟨xs,h,fun s e he=>⟨rfl,⟨_,rfl,rfl⟩,hq s e he⟩⟩
 ·exact hc.elim
end Go.Proofs.YtafchcmemeinlaaDoor
