/-
  Chapter 17: valid records; Encode of both.
-/
import Derived.Test.YtjenieljapmehaaGreatDoorR21G
set_option linter.unusedSimpArgs false
set_option linter.unusedVariables false
set_option linter.unusedSectionVars false
namespace Go.Proofs.YtjenieljapmehaaGreatDoor.Rc
open Go.RowKit
set_option maxRecDepth 1000000

def rightRM (r:Rc):Bool:=decide (0≤r.1∧r.1≤255)&&decide (0≤r.2.1∧r.2.1≤65535)&&decide (0≤r.2.2.1∧r.2.2.1≤281474976710655)&&decide (r.2.2.2.length≤1000)
def cHead:Con
 | [.agg [.int .i64 a,.int .i64 b,.int .i64 c,.str s],.int .i64 n],H,K=>Lf (numsOk (a,b,c,s)∧0≤n∧n≤65535)∧∀t,Lf (t=headM (a,b,c,s) n)→K (.ret (.str t)) H
 | _,_,_=>False
theorem rightM_iff (a b c:Int) (s:List UInt8):rightRM (a,b,c,s)=true↔(0≤a∧a≤255)∧(0≤b∧b≤65535)∧(0≤c∧c≤281474976710655)∧s.length≤1000:=by
 simp[rightRM,and_assoc]
theorem be_len:∀n v,(beBM n v).length=n
 | 0,_=>rfl
 | n+1,v=>by rw[beBM,List.length_cons,be_len n v]
theorem head_len (r:Rc) (n:Int):(headM r n).length=11:=by
 unfold headM
 simp only[List.length_append,be_len]
theorem head_leaf {a b c:Int} {s:List UInt8} {n:Int} (h:numsOk (a,b,c,s)∧0≤n∧n≤65535) (Q:Out→List Blk→Gh→Prop) (hq:Q (.ret (.str (headM (a,b,c,s) n))) [] {}):goal_36 (lookV [(176139,.str),(176143,.str),(176146,.str)]) (lookB []) a b c s n Q:=by
 refine (vc_36 a b c s n Q).mpr ?_
 obtain ⟨⟨h1,h2,h3⟩,h4⟩:=h
 dsimp only at h1 h2 h3
 refine ⟨⟨h1.1,.inl ⟨rfl,h1.2⟩⟩, ?_⟩
 rintro s0 ⟨e0⟩
 refine ckI (by rw[eqAVL_i];rfl) (ckI (by rw[eqAVL_i];rfl) ⟨⟨h2.1,.inr (.inl ⟨rfl,h2.2⟩)⟩, ?_⟩)
 rintro s1 ⟨e1⟩
 have l0:s0.length=1:=by rw[e0];exact be_len _ _
 have l1:s1.length=2:=by rw[e1];exact be_len _ _
 refine ckI (by rw[eqAVL_i];rfl) (ckI (by simp;omega) ⟨_,rfl,⟨h3.1,.inr (.inr ⟨rfl,h3.2⟩)⟩, ?_⟩)
 rintro s3 ⟨e3⟩
 have l3:s3.length=6:=by rw[e3];exact be_len _ _
 refine ckI (by simp;omega) ⟨_,rfl,⟨h4.1,.inr (.inl ⟨rfl,h4.2⟩)⟩, ?_⟩
 rintro s5 ⟨e5⟩
 have l5:s5.length=2:=by rw[e5];exact be_len _ _
 refine ckI (by simp;omega) ⟨_,rfl, ?_⟩
 rw[show s0++s1++s3++s5=headM (a,b,c,s) n by rw[e0,e1,e3,e5];unfold headM;simp only[List.append_assoc];rfl]
 exact hq
theorem head_ok:ValidF Tryz.prog gl0 43 cHead:=by
 refine valid_flat (enters_of (by kernel_rfl)) gl0_noY fun args H Q hc => ?_
 unfold cHead at hc
 split at hc
 ·rename_i a b c s n
  obtain ⟨⟨h1⟩,hq⟩:=hc
  exact ⟨rfl,rfl,_,1000,envFor04 smP_ok _ _ _,rfl,head_leaf h1 (fun o H' _=>H'=[]∧(∃v,o=.ret v∧old 0 v=true∧noY v=true)∧Q o H) ⟨rfl,⟨_,rfl,rfl,rfl⟩,hq _ ⟨rfl⟩⟩⟩
 ·exact hc.elim
def recM (r:Rc):List UInt8:=headM r r.2.2.2.length++r.2.2.2
def catM (l:List Rc):List UInt8:=l.flatMap recM
theorem cellsR_drop:∀ (l:List Rc) (i:Nat),(cellsRM l).drop (i*4)=cellsRM (l.drop i)
 | l,0=>by simp
 | [],i+1=>by simp[cellsRM]
 | x::l,i+1=>by
  rw[List.drop_succ_cons,←cellsR_drop l i,cellsRM,Nat.succ_mul,Nat.add_comm,←List.drop_drop]
  rfl
theorem cellsR_at {l:List Rc} {i m:Nat} (hi:i<l.length) (hm:m=i*4):List.take 4 (List.drop m (cellsRM l))=rcM l[i]:=by
 subst hm
 rw[cellsR_drop,List.drop_eq_getElem_cons hi]
 rfl
theorem getR {l:List Rc} {i m:Nat} {a b c:Int} {s:List UInt8} (hi:i<l.length) (hr:l[i]=(a,b,c,s)) (hm:m=i*4) {K:Int→Int→Int→List UInt8→Prop} (hk:K a b c s) :
  ∃ (x y z:Int) (t:List UInt8),AV.agg (List.take 4 (List.drop m (cellsRM l)))=AV.agg [.int .i64 x,.int .i64 y,.int .i64 z,.str t]∧K x y z t:=
 ⟨a,b,c,s,by rw[cellsR_at hi hm,hr];rfl,hk⟩
theorem rec_len (r:Rc):(recM r).length=11+r.2.2.2.length:=by rw[recM,List.length_append,head_len]
theorem take_snoc {l:List Rc} {i:Nat} (hi:i<l.length):l.take (i+1)=l.take i++[l[i]]:=by
 rw[List.take_add_one,List.getElem?_eq_getElem hi];rfl
end Go.Proofs.YtjenieljapmehaaGreatDoor.Rc

set_option linter.unusedSimpArgs false
set_option linter.unusedVariables false
set_option linter.unusedSectionVars false
namespace Go.Proofs.YtjenieljapmehaaGreatDoor.Rc
open Go.RowKit
set_option maxRecDepth 1000000

end Go.Proofs.YtjenieljapmehaaGreatDoor.Rc

set_option linter.unusedSimpArgs false
set_option linter.unusedVariables false
set_option linter.unusedSectionVars false
namespace Go.Proofs.YtjenieljapmehaaGreatDoor.Rc
open Go.RowKit
set_option maxRecDepth 1000000

theorem recs_len:∀ (f:Nat) (s:List UInt8),(recsM f s).1.length≤f
 | 0,_=>Nat.le_refl _
 | f+1,s=>by
  rw[recsM]
  have ih:=recs_len f (restRM s)
  split
  ·simp
  ·split
   ·simp
   ·split
    ·simp
    ·simp only[List.length_cons];omega
theorem dec_len (s:List UInt8):(decM s).1.length≤s.length:=by
 rw[decM]
 split
 ·simp
 ·split
  ·simp
  ·exact recs_len _ _
theorem be_hi {s:List UInt8} {k:Nat} (h:s.length≤k):beM s<(256:Int)^k:=by
 have h1:=nat_lt s.length s rfl
 have h2:256^s.length≤256^k:=Nat.pow_le_pow_right (by omega) h
 have h3:natM s<256^k:=by omega
 unfold beM
 exact_mod_cast h3
end Go.Proofs.YtjenieljapmehaaGreatDoor.Rc

set_option linter.unusedSimpArgs false
set_option linter.unusedVariables false
set_option linter.unusedSectionVars false
namespace Go.Proofs.YtjenieljapmehaaGreatDoor.Rc
open Go.RowKit
set_option maxRecDepth 1000000

end Go.Proofs.YtjenieljapmehaaGreatDoor.Rc

set_option linter.unusedSimpArgs false
set_option linter.unusedVariables false
set_option linter.unusedSectionVars false
namespace Go.Proofs.YtjenieljapmehaaGreatDoor.Rc
open Go.RowKit
set_option maxRecDepth 1000000

theorem nat_cons (c:UInt8) (s:List UInt8):natM (c::s)=c.toNat*256^s.length+natM s:=by
 have key:∀ (s:List UInt8) (x:Nat),s.foldl (fun x c=>x*256+c.toNat) x=x*256^s.length+natM s:=by
  intro s
  induction s with
  | nil=>intro x;simp[natM]
  | cons d s ih=>
   intro x
   have e:natM (d::s)=d.toNat*256^s.length+natM s:=by
    show s.foldl _ (0*256+d.toNat)=_
    rw[ih,Nat.zero_mul,Nat.zero_add]
   rw[List.foldl_cons,ih,e,List.length_cons,Nat.pow_succ,Nat.add_mul,Nat.add_assoc,Nat.mul_assoc,Nat.mul_comm 256]
 show s.foldl _ (0*256+c.toNat)=_
 rw[key,Nat.zero_mul,Nat.zero_add]
theorem nat_be:∀n v,natM (beBM n v)=v%256^n
 | 0,v=>by simp[beBM,natM,Nat.mod_one]
 | n+1,v=>by
  have e1:(UInt8.ofNat (v/256^n%256)).toNat=v/256^n%256:=by
   rw[UInt8.toNat_ofNat']
   exact Nat.mod_eq_of_lt (show _<256 from Nat.mod_lt _ (by decide))
  rw[beBM,nat_cons,nat_be n v,be_len,e1,show v%256^(n+1)=v%256^n+256^n*(v/256^n%256) from Nat.mod_pow_succ,Nat.add_comm,Nat.mul_comm]
theorem be_be {n:Nat} {v:Int} (h0:0≤v) (h1:v.toNat<256^n):beM (beBM n v.toNat)=v:=by
 rw[beM,nat_be,Nat.mod_eq_of_lt h1]
 omega
theorem rec_read {r:Rc} (h:rightRM r=true) (t:List UInt8):headEM (recM r++t)=0∧firstRM (recM r++t)=r∧restRM (recM r++t)=t:=by
 obtain ⟨a,b,c,s⟩:=r
 obtain ⟨h1,h2,h3,h4⟩:=(rightM_iff a b c s).1 h
 obtain ⟨B1,hB1⟩:∃x,x=beBM 1 a.toNat:=⟨_,rfl⟩
 obtain ⟨B2,hB2⟩:∃x,x=beBM 2 b.toNat:=⟨_,rfl⟩
 obtain ⟨B6,hB6⟩:∃x,x=beBM 6 c.toNat:=⟨_,rfl⟩
 obtain ⟨BN,hBN⟩:∃x,x=beBM 2 (Int.toNat (s.length:Int)):=⟨_,rfl⟩
 have hu:recM (a,b,c,s)++t=B1++(B2++(B6++(BN++(s++t)))):=by
  rw[hB1,hB2,hB6,hBN,recM,headM]
  simp only[List.append_assoc]
 have l1:B1.length=1:=by rw[hB1,be_len]
 have l2:B2.length=2:=by rw[hB2,be_len]
 have l6:B6.length=6:=by rw[hB6,be_len]
 have lN:BN.length=2:=by rw[hBN,be_len]
 have v1:beM B1=a:=by rw[hB1];exact be_be h1.1 (by show _<256;omega)
 have v2:beM B2=b:=by rw[hB2];exact be_be h2.1 (by show _<65536;omega)
 have v6:beM B6=c:=by rw[hB6];exact be_be h3.1 (by show _<281474976710656;omega)
 have vN:beM BN=s.length:=by rw[hBN];exact be_be (by omega) (by show _<65536;omega)
 rw[hu]
 clear hu hB1 hB2 hB6 hBN
 obtain ⟨u,hu⟩:∃u,u=B1++(B2++(B6++(BN++(s++t)))):=⟨_,rfl⟩
 have hul:u.length=11+s.length+t.length:=by rw[hu];simp only[List.length_append,l1,l2,l6,lN];omega
 have t1:u.take 1=B1:=by rw[hu];exact List.take_left' l1
 have d1:u.drop 1=B2++(B6++(BN++(s++t))):=by rw[hu];exact List.drop_left' l1
 have d3:u.drop (1+2)=B6++(BN++(s++t)):=by rw[←List.drop_drop,d1];exact List.drop_left' l2
 have d9:u.drop (1+2+6)=BN++(s++t):=by rw[←List.drop_drop,d3];exact List.drop_left' l6
 have d11:u.drop (1+2+6+2)=s++t:=by rw[←List.drop_drop,d9];exact List.drop_left' lN
 rw[←hu]
 have hs:sizeRM u=s.length:=by
  show beM ((u.drop (1+2+6)).take 2)=_
  rw[d9,List.take_left' lN,vN]
 refine ⟨?_, ?_, ?_⟩
 ·rw[headEM,if_neg (by omega),if_neg (by omega),if_neg (by omega)]
 ·show (beM (u.take 1),beM ((u.drop 1).take 2),beM ((u.drop (1+2)).take 6),(u.drop (1+2+6+2)).take (sizeRM u).toNat)=_
  rw[t1,d1,d3,d11,List.take_left' l2,List.take_left' l6,v1,v2,v6,hs,Int.toNat_natCast,List.take_left' rfl]
 ·show u.drop (1+2+6+2+(sizeRM u).toNat)=t
  rw[←List.drop_drop,d11,hs,Int.toNat_natCast]
  exact List.drop_left' rfl
theorem cat_cons (r:Rc) (l:List Rc):catM (r::l)=recM r++catM l:=rfl
theorem cont_cat:∀ (l k:List Rc) (t:List UInt8),l.all rightRM=true→contM k (catM l++t)=contM (k++l) t
 | [],k,t,_=>by rw[List.append_nil];rfl
 | r::l,k,t,h=>by
  rw[List.all_cons,Bool.and_eq_true] at h
  obtain ⟨h1,h2,h3⟩:=rec_read h.1 (catM l++t)
  have hne:recM r++(catM l++t)≠[]:=fun h=>by
   have:=rec_len r
   have h4:=congrArg List.length h
   rw[List.length_append,List.length_nil] at h4
   omega
  rw[cat_cons,List.append_assoc,cont_step hne h1,h2,h3,cont_cat l _ t h.2,List.append_assoc]
  rfl
theorem dec_cat {l:List Rc} (hn:l≠[]) (h:l.all rightRM=true) (hl:(catM l).length≤1200):decM (catM l)=(l,0):=by
 have hne:catM l≠[]:=by
  cases l with
  | nil=>exact absurd rfl hn
  | cons r l=>
   intro h
   have h4:=congrArg List.length h
   rw[cat_cons,List.length_append,rec_len,List.length_nil] at h4
   omega
 have:=cont_cat l [] [] h
 rw[List.append_nil] at this
 rw[dec_cont (by omega) hne,this,cont_end]
 rfl
end Go.Proofs.YtjenieljapmehaaGreatDoor.Rc
