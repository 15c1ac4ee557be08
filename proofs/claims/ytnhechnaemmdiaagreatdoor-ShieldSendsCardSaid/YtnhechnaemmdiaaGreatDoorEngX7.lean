/-
  The engine, part X7: a string that stands in the cells of a value is weighed when the value is read.
-/
import Derived.Test.YtnhechnaemmdiaaGreatDoorEnH
import Derived.SizedLaws
set_option linter.unusedSimpArgs false
set_option linter.unusedVariables false
set_option linter.unusedSectionVars false
namespace Go.Proofs.YtnhechnaemmdiaaGreatDoor
open Go.RowKit

section
variable {P:Program} {H:Type} {enc:TypeId×Value->H} {W:World} {base:Nat} {spare:Nat->Bool} {held:Bool}

theorem aDz{r:TypeId->List Value->Option (DataW H×List MemPlace)}{cs:List Value}{n:Nat}(hn:cs.length=n):∀ (fs:List Field) (o:Nat) (xs:List (DataW H×List MemPlace)),
  (∀f∈fs,∀cs x,r f.type cs=some x->cs.length=P.cellsOf f.type∧∀s,Value.string s∈cs->s.size∈x.1.weights P f.type)->sV P fs o n=true->o<=n →
  (fs.mapM λf=>r f.type ((cs.drop f.offset).take (P.cellsOf f.type)))=some xs->∀s,Value.string s∈cs.drop o->s.size∈DataW.weightsEach P (fs.map (·.type)) (xs.map (·.1))
 | [],o,xs,_,ht,_,h,s,hs=>by
  simp only[sV,bYr]at ht
  rw[bX9 (by omega)]at hs
  cases hs
 | f::fs,o,xs,hr,ht,ho,h,s,hs=>by
  obtain⟨x,xs',h1,h2,rfl⟩:=dY h
  simp only[sV,bW3,bYr]at ht
  obtain⟨rfl,ht⟩:=ht
  obtain⟨q2,q1⟩:=hr f (by simp) _ _ h1
  have hlt:f.offset+P.cellsOf f.type<=n:=by
   simp at q2
   omega
  have e:cs.drop f.offset=(cs.drop f.offset).take (P.cellsOf f.type)++cs.drop (f.offset+P.cellsOf f.type):=by
   rw[←bY9,bYw]
  rw[e,bYj]at hs
  simp only[bXu,DataW.weightsEach,bYj]
  rcases hs with hs | hs
  ·exact .inl (q1 s hs)
  ·exact .inr (aDz hn fs (f.offset+P.cellsOf f.type) xs' (λg hg=>hr g (by simp[hg])) ht hlt h2 s hs)

theorem aKq{e:TypeId}{r:List Value->Option (DataW H×List MemPlace)}{cs:List Value}{z:Nat}(hr:∀cs x,r cs=some x->cs.length=z∧∀s,Value.string s∈cs->s.size∈x.1.weights P e):∀ (n i:Nat) (xs:List (DataW H×List MemPlace)),
  cs.length=(i+n)*z->((List.range' i n).mapM λi=>r ((cs.drop (i*z)).take z))=some xs->∀s,Value.string s∈cs.drop (i*z)->s.size∈DataW.weightsAll P e (xs.map (·.1))
 | 0,i,xs,hl,h,s,hs=>by
  rw[bX9 (by rw[hl,bYv];exact bXe _)]at hs
  cases hs
 | n+1,i,xs,hl,h,s,hs=>by
  rw[cCu]at h
  obtain⟨x,xs',h1,h2,rfl⟩:=dY h
  obtain⟨q2,q1⟩:=hr _ _ h1
  have e:cs.drop (i*z)=(cs.drop (i*z)).take z++cs.drop ((i+1)*z):=by
   rw[bZ6,cCp,←bY9,bYw]
  rw[e,bYj]at hs
  simp only[bXu,DataW.weightsAll,bYj]
  rcases hs with hs | hs
  ·exact .inl (q1 s hs)
  ·exact .inr (aKq hr n (i+1) xs' (by rw[hl];congr 1;omega) h2 s hs)

theorem aIj:∀ (d:Nat) (t:TypeId) (fuel:Nat) (cs:List Value) (x:DataW H×List MemPlace),zN P d t=true->DataW.trod enc P W base spare held fuel t cs=some x->cs.length=P.cellsOf t∧∀s,Value.string s∈cs->s.size∈x.1.weights P t
 | 0,t,_,_,_,ht,_=>by simp[zN]at ht
 | d+1,t,0,cs,x,_,h=>by simp[DataW.trod]at h
 | d+1,t,fuel+1,cs,x,ht0,h=>by
  have h0:=h
  have ht:=ht0
  refine⟨(yA (d+1) t (fuel+1) cs x ht0 h0).1, ?_⟩
  rw[cCy]at h
  simp only[zN]at ht
  unfold DataW.trodStep at h
  split at ht
  ·rename_i hu
   rw[hu]at h
   simp only at h
   split at h<;>simp at *
  ·rename_i k hu
   rw[hu]at h
   simp only at h
   split at h<;>simp at *
  ·rename_i hu
   rw[hu]at h
   simp only at h
   split at h<;>simp at *
   rename_i s _
   obtain⟨_,rfl⟩:=h
   show s.size∈[s.data.toList.length]
   rw[bZx,bXp]
   rfl
  ·rename_i fs hu
   simp only[bW3,bYy]at ht
   rw[hu]at h
   simp only at h
   split at h
   ·rename_i hl
    cases hm:(fs.toList.mapM λf=>DataW.trod enc P W base spare held fuel f.type ((cs.drop f.offset).take (P.cellsOf f.type)))with
    | none=>rw[hm]at h;simp at h
    | some xs=>
     rw[hm]at h
     simp at h
     have:=aDz (P:=P) hl fs.toList 0 xs (λf hf cs x hx=>aIj d f.type fuel cs x (ht.2 f hf) hx) ht.1 (bYb _) hm
     intro s hs
     have hk:=this s (by simpa using hs)
     rw[←h]
     simp only[DataW.weights,hu]
     simpa using hk
   ·cases h
  ·rename_i n e hu
   simp only[bW3,bYr]at ht
   rw[hu]at h
   simp only at h
   split at h
   ·rename_i hl
    cases hm:((List.range n).mapM λi=>DataW.trod enc P W base spare held fuel e ((cs.drop (i*P.cellsOf e)).take (P.cellsOf e)))with
    | none=>rw[hm]at h;simp at h
    | some xs=>
     rw[hm]at h
     simp at h
     rw[cBw]at hm
     have:=aKq (P:=P) (e:=e) (λcs x hx=>aIj d e fuel cs x ht.2 hx) n 0 xs (by rw[hl,←ht.1];simp) hm
     intro s hs
     have hk:=this s (by simpa using hs)
     rw[←h]
     simp only[DataW.weights,hu]
     simpa using hk
   ·cases h
  ·rename_i e hu
   rcases Go.Deep.open_slice hu h0 with ⟨rfl,_⟩ | ⟨a,len,cap,mm,n,D,Pl,rfl,hb,hl,hcap,hmm,_,hel⟩
   ·intro s hs;simp at hs
   ·intro s hs;simp at hs
  ·cases ht
end
end Go.Proofs.YtnhechnaemmdiaaGreatDoor
