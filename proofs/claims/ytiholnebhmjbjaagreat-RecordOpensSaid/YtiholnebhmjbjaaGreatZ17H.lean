/-
  Chapter 17: valid records; Encode of both.
-/
import Derived.Test.YtiholnebhmjbjaaGreatZ17G
set_option linter.unusedSimpArgs false
set_option linter.unusedVariables false
set_option linter.unusedSectionVars false
namespace Go.Proofs.YtiholnebhmjbjaaGreat
open Go.RowKit
set_option maxRecDepth 1000000

def rightRM (r:Rc):Bool:=decide (0≤r.1∧r.1≤255)&&decide (0≤r.2.1∧r.2.1≤65535)&&decide (0≤r.2.2.1∧r.2.2.1≤281474976710655)&&decide (r.2.2.2.length≤1000)
def cHead:Con
 | [.agg [.int .i64 a,.int .i64 b,.int .i64 c,.str s],.int .i64 n],H,K=>Lf (numsOk (a,b,c,s)∧0≤n∧n≤65535)∧∀t,Lf (t=headM (a,b,c,s) n)→K (.ret (.str t)) H
 | _,_,_=>False
theorem rightM_iff (a b c:Int) (s:List UInt8):rightRM (a,b,c,s)=true↔(0≤a∧a≤255)∧(0≤b∧b≤65535)∧(0≤c∧c≤281474976710655)∧s.length≤1000:=by
 simp[rightRM,and_assoc]
theorem be_len:∀n v,(beBM n v).length=n
 | 0,_=>rfl
 | n+1,v=>by rw[beBM,List.length_cons,be_len n v]
theorem head_len (r:Rc) (n:Int):(headM r n).length=11:=by
 unfold headM
 simp only[List.length_append,be_len]
theorem head_leaf {a b c:Int} {s:List UInt8} {n:Int} (h:numsOk (a,b,c,s)∧0≤n∧n≤65535) (Q:Out→List Blk→Gh→Prop) (hq:Q (.ret (.str (headM (a,b,c,s) n))) [] {}):goal_36 (lookV [(126987,.str),(126991,.str),(126994,.str)]) (lookB []) a b c s n Q:=by
 refine (vc_36 a b c s n Q).mpr ?_
 delta z7G5 z7G2 z7G3 z7G0
 obtain ⟨⟨h1,h2,h3⟩,h4⟩:=h
 dsimp only at h1 h2 h3
 refine ⟨⟨h1.1,.inl ⟨rfl,h1.2⟩⟩, ?_⟩
 rintro s0 ⟨e0⟩
 refine ckI (by rw[eqAVL_i];rfl) (ckI (by rw[eqAVL_i];rfl) ⟨⟨h2.1,.inr (.inl ⟨rfl,h2.2⟩)⟩, ?_⟩)
 rintro s1 ⟨e1⟩
 have l0:s0.length=1:=by rw[e0];exact be_len _ _
 have l1:s1.length=2:=by rw[e1];exact be_len _ _
 refine ckI (by rw[eqAVL_i];rfl) (ckI (by simp;omega) ⟨_,rfl,⟨h3.1,.inr (.inr ⟨rfl,h3.2⟩)⟩, ?_⟩)
 rintro s3 ⟨e3⟩
 have l3:s3.length=6:=by rw[e3];exact be_len _ _
 refine ckI (by simp;omega) ⟨_,rfl,⟨h4.1,.inr (.inl ⟨rfl,h4.2⟩)⟩, ?_⟩
 rintro s5 ⟨e5⟩
 have l5:s5.length=2:=by rw[e5];exact be_len _ _
 refine ckI (by simp;omega) ⟨_,rfl, ?_⟩
 rw[show s0++s1++s3++s5=headM (a,b,c,s) n by rw[e0,e1,e3,e5];unfold headM;simp only[List.append_assoc];rfl]
 exact hq
theorem rhead_leaf {a b c:Int} {s:List UInt8} {n:Int} (h:numsOk (a,b,c,s)∧0≤n∧n≤65535) (Q:Out→List Blk→Gh→Prop) (hq:Q (.ret (.str (headM (a,b,c,s) n))) [] {}):goal_38 (lookV [(139275,.str),(139279,.str),(139282,.str)]) (lookB []) a b c s n Q:=by
 refine (vc_38 a b c s n Q).mpr ?_
 delta z7G5 z7G2 z7G3 z7G0
 obtain ⟨⟨h1,h2,h3⟩,h4⟩:=h
 dsimp only at h1 h2 h3
 refine ⟨⟨h1.1,.inl ⟨rfl,h1.2⟩⟩, ?_⟩
 rintro s0 ⟨e0⟩
 refine ckI (by rw[eqAVL_i];rfl) (ckI (by rw[eqAVL_i];rfl) ⟨⟨h2.1,.inr (.inl ⟨rfl,h2.2⟩)⟩, ?_⟩)
 rintro s1 ⟨e1⟩
 have l0:s0.length=1:=by rw[e0];exact be_len _ _
 have l1:s1.length=2:=by rw[e1];exact be_len _ _
 refine ckI (by rw[eqAVL_i];rfl) (ckI (by simp;omega) ⟨_,rfl,⟨h3.1,.inr (.inr ⟨rfl,h3.2⟩)⟩, ?_⟩)
 rintro s3 ⟨e3⟩
 have l3:s3.length=6:=by rw[e3];exact be_len _ _
 refine ckI (by simp;omega) ⟨_,rfl,⟨h4.1,.inr (.inl ⟨rfl,h4.2⟩)⟩, ?_⟩
 rintro s5 ⟨e5⟩
 have l5:s5.length=2:=by rw[e5];exact be_len _ _
 refine ckI (by simp;omega) ⟨_,rfl, ?_⟩
 rw[show s0++s1++s3++s5=headM (a,b,c,s) n by rw[e0,e1,e3,e5];unfold headM;simp only[List.append_assoc];rfl]
 exact hq
theorem head_ok:ValidF Tryz.prog gl0 31 cHead:=by
 refine valid_flat (enters_of (by kernel_rfl)) gl0_noY fun args H Q hc => ?_
 unfold cHead at hc
 split at hc
 ·rename_i a b c s n
  obtain ⟨⟨h1⟩,hq⟩:=hc
  exact ⟨rfl,rfl,_,1000,envFor04 smP_ok _ _ _,rfl,head_leaf h1 (fun o H' _=>H'=[]∧(∃v,o=.ret v∧old 0 v=true∧noY v=true)∧Q o H) ⟨rfl,⟨_,rfl,rfl,rfl⟩,hq _ ⟨rfl⟩⟩⟩
 ·exact hc.elim
theorem rhead_ok:ValidF Tryz.prog gl0 34 cHead:=by
 refine valid_flat (enters_of (by kernel_rfl)) gl0_noY fun args H Q hc => ?_
 unfold cHead at hc
 split at hc
 ·rename_i a b c s n
  obtain ⟨⟨h1⟩,hq⟩:=hc
  exact ⟨rfl,rfl,_,1000,envFor04 smP_ok _ _ _,rfl,rhead_leaf h1 (fun o H' _=>H'=[]∧(∃v,o=.ret v∧old 0 v=true∧noY v=true)∧Q o H) ⟨rfl,⟨_,rfl,rfl,rfl⟩,hq _ ⟨rfl⟩⟩⟩
 ·exact hc.elim

theorem cellsR_drop:∀ (l:List Rc) (i:Nat),(cellsRM l).drop (i*4)=cellsRM (l.drop i)
 | l,0=>by simp
 | [],i+1=>by simp[cellsRM]
 | x::l,i+1=>by
  rw[List.drop_succ_cons,←cellsR_drop l i,cellsRM,Nat.succ_mul,Nat.add_comm,←List.drop_drop]
  rfl
theorem cellsR_at {l:List Rc} {i m:Nat} (hi:i<l.length) (hm:m=i*4):List.take 4 (List.drop m (cellsRM l))=rcM l[i]:=by
 subst hm
 rw[cellsR_drop,List.drop_eq_getElem_cons hi]
 rfl
theorem getR {l:List Rc} {i m:Nat} {a b c:Int} {s:List UInt8} (hi:i<l.length) (hr:l[i]=(a,b,c,s)) (hm:m=i*4) {K:Int→Int→Int→List UInt8→Prop} (hk:K a b c s) :
  ∃ (x y z:Int) (t:List UInt8),AV.agg (List.take 4 (List.drop m (cellsRM l)))=AV.agg [.int .i64 x,.int .i64 y,.int .i64 z,.str t]∧K x y z t:=
 ⟨a,b,c,s,by rw[cellsR_at hi hm,hr];rfl,hk⟩
theorem take_snoc {l:List Rc} {i:Nat} (hi:i<l.length):l.take (i+1)=l.take i++[l[i]]:=by
 rw[List.take_add_one,List.getElem?_eq_getElem hi];rfl
end Go.Proofs.YtiholnebhmjbjaaGreat
