/-
  The engine, part Z: what a reading of plain data says of its cells.
-/
import Derived.Test.YtnhechnaemmdiaaGreatDoorEnG
import Derived.ChangeReads
import Derived.Deep.Slices
set_option linter.unusedSimpArgs false
set_option linter.unusedVariables false
namespace Go.Proofs.YtnhechnaemmdiaaGreatDoor
open Go.RowKit

def flatD{H:Type}:DataW H->HB
 | .lit (.bool b)=>[.bool b]
 | .lit (.int k n)=>[.int k n]
 | .lit (.string s)=>[.str s]
 | .agg l=>flatDL l
 | _=>[]
where flatDL:List (DataW H)->HB
 | []=>[]
 | d::l=>flatD d++flatDL l

section
variable (P:Program)
def sV:List Field->Nat->Nat->Bool
 | [],o,n=>o==n
 | f::fs,o,n=>f.offset==o&&sV fs (o+P.cellsOf f.type) n

def aCc:Nat->TypeId->Bool
 | 0,_=>false
 | d+1,t=>match P.underlying t with
  | some .bool=>P.cellsOf t==1
  | some (.int _)=>P.cellsOf t==1
  | some .string=>P.cellsOf t==1
  | some (.struct fs)=>sV P fs.toList 0 (P.cellsOf t)&&fs.toList.all λf=>aCc d f.type
  | some (.array n e)=>n*P.cellsOf e==P.cellsOf t&&aCc d e
  | _=>false
end

theorem dY{α β:Type}{f:α->Option β}{a:α}{l:List α}{r:List β}(h:(a::l).mapM f=some r):∃b r',f a=some b∧l.mapM f=some r'∧r=b::r':=by
 rw[cCm]at h
 cases hx:f a with
 | none=>simp[hx]at h
 | some y=>
  cases hxs:l.mapM f with
  | none=>simp[hx,hxs]at h
  | some ys=>
   simp[hx,hxs]at h
   exact⟨y,ys,rfl,rfl,h.symm⟩

section
variable {P:Program} {H:Type} {enc:TypeId×Value->H} {w:World} {base:Nat} {spare:Nat->Bool} {held:Bool}

theorem xH(m:M){r:TypeId->List Value->Option (DataW H×List MemPlace)}{cs:List Value}{n:Nat}(hn:cs.length=n):∀ (fs:List Field) (o:Nat) (xs:List (DataW H×List MemPlace)),
  (∀f∈fs,∀cs x,r f.type cs=some x->VRL m (flatD x.1) cs∧cs.length=P.cellsOf f.type)->sV P fs o n=true->o<=n →
  (fs.mapM λf=>r f.type ((cs.drop f.offset).take (P.cellsOf f.type)))=some xs->VRL m (flatD.flatDL (xs.map (·.1))) (cs.drop o)
 | [],o,xs,_,ht,_,h=>by
  simp at h
  subst h
  simp only[sV,bYr]at ht
  rw[bX9 (by omega)]
  simp[flatD.flatDL]
 | f::fs,o,xs,hr,ht,ho,h=>by
  obtain⟨x,xs',h1,h2,rfl⟩:=dY h
  simp only[sV,bW3,bYr]at ht
  obtain⟨rfl,ht⟩:=ht
  obtain⟨q1,q2⟩:=hr f (by simp) _ _ h1
  have hlt:f.offset+P.cellsOf f.type<=n:=by
   simp at q2
   omega
  have ih:=xH m hn fs (f.offset+P.cellsOf f.type) xs' (λg hg=>hr g (by simp[hg])) ht hlt h2
  simp only[bXu,flatD.flatDL]
  have e:cs.drop f.offset=(cs.drop f.offset).take (P.cellsOf f.type)++cs.drop (f.offset+P.cellsOf f.type):=by
   rw[←bY9,bYw]
  rw[e]
  exact q1.append ih

theorem aAr(m:M){r:List Value->Option (DataW H×List MemPlace)}{cs:List Value}{z:Nat}(hr:∀cs x,r cs=some x->VRL m (flatD x.1) cs∧cs.length=z):∀ (n i:Nat) (xs:List (DataW H×List MemPlace)),
  cs.length=(i+n)*z->((List.range' i n).mapM λi=>r ((cs.drop (i*z)).take z))=some xs->VRL m (flatD.flatDL (xs.map (·.1))) (cs.drop (i*z))
 | 0,i,xs,hl,h=>by
  simp at h
  subst h
  rw[bX9 (by rw[hl,bYv];exact bXe _)]
  simp[flatD.flatDL]
 | n+1,i,xs,hl,h=>by
  rw[cCu]at h
  obtain⟨x,xs',h1,h2,rfl⟩:=dY h
  obtain⟨q1,q2⟩:=hr _ _ h1
  have ih:=aAr m hr n (i+1) xs' (by rw[hl];congr 1;omega) h2
  simp only[bXu,flatD.flatDL]
  have e:cs.drop (i*z)=(cs.drop (i*z)).take z++cs.drop ((i+1)*z):=by
   rw[bZ6,cCp,←bY9,bYw]
  rw[e]
  exact q1.append ih

theorem aB1(m:M):∀ (d:Nat) (t:TypeId) (fuel:Nat) (cs:List Value) (x:DataW H×List MemPlace),aCc P d t=true->DataW.trod enc P w base spare held fuel t cs=some x->VRL m (flatD x.1) cs∧cs.length=P.cellsOf t
 | 0,t,_,_,_,ht,_=>by simp[aCc]at ht
 | d+1,t,0,cs,x,_,h=>by simp[DataW.trod]at h
 | d+1,t,fuel+1,cs,x,ht,h=>by
  rw[cCy]at h
  simp only[aCc]at ht
  unfold DataW.trodStep at h
  split at ht
  ·rename_i hu
   simp only[bYr]at ht
   rw[hu]at h
   simp only at h
   split at h<;>simp at *
   all_goals first
    | (rename_i hh;cases hh;cases h;simp[flatD,VR,ht])
    | skip
  ·rename_i k hu
   simp only[bYr]at ht
   rw[hu]at h
   simp only at h
   split at h<;>simp at *
   all_goals first
    | (rename_i hh;cases hh;obtain⟨⟨rfl,_⟩,rfl⟩:=h;simp[flatD,VR,ht])
    | skip
  ·rename_i hu
   simp only[bYr]at ht
   rw[hu]at h
   simp only at h
   split at h<;>simp at *
   all_goals first
    | (rename_i hh;cases hh;obtain⟨_,rfl⟩:=h;simp[flatD,VR,ht])
    | skip
  ·rename_i fs hu
   simp only[bW3,bYy]at ht
   rw[hu]at h
   simp only at h
   split at h
   ·rename_i hl
    cases hm:(fs.toList.mapM λf=>DataW.trod enc P w base spare held fuel f.type ((cs.drop f.offset).take (P.cellsOf f.type)))with
    | none=>rw[hm]at h;simp at h
    | some xs=>
     rw[hm]at h
     simp only[cB6,bW5]at h
     subst h
     have:=xH (P:=P) m hl fs.toList 0 xs (λf hf cs x hx=>aB1 m d f.type fuel cs x (ht.2 f hf) hx) ht.1 (bYb _) hm
     exact⟨by simpa[flatD]using this,hl⟩
   ·cases h
  ·rename_i n e hu
   simp only[bW3,bYr]at ht
   rw[hu]at h
   simp only at h
   split at h
   ·rename_i hl
    cases hm:((List.range n).mapM λi=>DataW.trod enc P w base spare held fuel e ((cs.drop (i*P.cellsOf e)).take (P.cellsOf e)))with
    | none=>rw[hm]at h;simp at h
    | some xs=>
     rw[hm]at h
     simp only[cB6,bW5]at h
     subst h
     rw[cBw]at hm
     have:=aAr m (λcs x hx=>aB1 m d e fuel cs x ht.2 hx) n 0 xs (by rw[hl,←ht.1];simp) hm
     exact⟨by simpa[flatD]using this,hl⟩
   ·cases h
  ·cases ht
end

mutual
theorem tF(ρ:Nat->Nat):∀a,old 0 a=true->noY a=true->ren ρ a=a
 | .undef,_,_=>rfl
 | .opq _,_,_=>rfl
 | .bool _,_,_=>rfl
 | .int _ _,_,_=>rfl
 | .str _,_,_=>rfl
 | .nilp,_,_=>rfl
 | .ptr _ _ _,h,_=>by simp[old]at h
 | .gptr _ _,_,_=>rfl
 | .nils,_,_=>rfl
 | .sl _ _ _ _ _,h,_=>by simp[old]at h
 | .nilf,_,_=>rfl
 | .fn _ x y,h,k=>by
  simp only[old,noY,bW3]at h k
  simp only[ren,aU ρ x h.1 k.1,aU ρ y h.2 k.2]
 | .yld _,_,k=>by simp[noY]at k
 | .nili,_,_=>rfl
 | .iface _ v,h,k=>by simp only[old,noY]at h k;simp only[ren,tF ρ v h k]
 | .agg l,h,k=>by simp only[old,noY]at h k;simp only[ren,aU ρ l h k]
 | .tup l,h,k=>by simp only[old,noY]at h k;simp only[ren,aU ρ l h k]
 | .lst _ _ _ _,_,_=>rfl
 | .lptr _ _ _,_,_=>rfl
 | .mpn,_,_=>rfl
 | .mp _,h,_=>by simp[old]at h
theorem aU(ρ:Nat->Nat):∀l,aP 0 l=true->bX l=true->qG ρ l=l
 | [],_,_=>rfl
 | v::l,h,k=>by
  simp only[aP,bX,bW3]at h k
  simp only[qG,tF ρ v h.1 k.1,aU ρ l h.2 k.2]
end

theorem Fr.nil(H:HV):Fr id [] H:=⟨λj b0 h=>by simp at h,λj j' b0 h=>by simp at h,λj b0 h=>by simp at h⟩
theorem FrEnd.nil(H:HV):FrEnd id [] [] H H:=⟨by simp,λj b0 h=>by simp at h,λj b0 h=>by simp at h,λj b0 _ h=>by simp at h,by simp,λ_ _ _=>rfl,λj b h=>by simp at h⟩

theorem aQ{P:Program}{gl:Nat->Option HB}{f:FuncId}{c:HB->HV->(Out->HV->Prop)->Prop}(he:Enters P f)(hgl:∀g cs,gl g=some cs->bX cs=true)
  (h:∀args H Q,c args H Q->aP 0 args=true∧bX args=true∧∃ (E:Env) (n:Nat),EnvFor P E∧E.gl=gl∧aT E (wpx E n) f args [] {} λo H' _=>H'=[]∧(∃v,o=.ret v∧old 0 v=true∧noY v=true)∧Q o H):aI P gl f c:=by
 refine fZ he hgl λargs H Q hc => ?_
 obtain⟨h1,h2,E,n,h3,h4,h5⟩:=h args H Q hc
 refine⟨E,n,id,args,[],_,h3,h4,(aU id args h1 h2).symm,h1,h2,Fr.nil H,h5, ?_⟩
 rintro o H0' g' ⟨rfl,⟨v,rfl,q1,q2⟩,q3⟩
 refine⟨H,FrEnd.nil H, ?_⟩
 simp only[bKu,tF _ v q1 q2]
 exact q3

def bQ7(o:Out)(H:HV)(_:Gh):Prop:=match H,o with
 | [],.ret (.bool true)=>True
 | _,_=>False

def aYh:HB->HV->(Out->HV->Prop)->Prop
 | [],H,K=>K (.ret (.bool true)) H
 | _,_,_=>False

theorem bNl{o:Out}{H:HV}{g:Gh}(h:bQ7 o H g):H=[]∧o=.ret (.bool true):=by
 unfold bQ7 at h
 split at h
 ·exact⟨rfl,rfl⟩
 ·cases h

theorem aL1{P:Program}{gl:Nat->Option HB}{f:FuncId}(he:Enters P f)(hgl:∀g cs,gl g=some cs->bX cs=true){E:Env}{n:Nat}(hE:EnvFor P E)(hg:E.gl=gl)(h:aT E (wpx E n) f [] [] {} bQ7=True):aI P gl f aYh:=by
 refine fZ he hgl λargs H Q hc => ?_
 unfold aYh at hc
 split at hc
 ·refine⟨E,n,id,[],[],_,hE,hg,rfl,rfl,rfl,Fr.nil _,of_eq_true h, ?_⟩
  intro o H0' g' hq
  obtain⟨rfl,rfl⟩:=bNl (g:=g') hq
  exact⟨_,FrEnd.nil _,hc⟩
 ·exact hc.elim

def aQf(P:Program)(f:FuncId):Bool:=match P.funcs[f]? with
 | some fn => !fn.body.isNone && !(fn.name == "runtime.NumGoroutine")
 | none=>false
theorem enters_of{P:Program}{f:FuncId}(h:aQf P f=true):Enters P f:=by
 unfold aQf at h
 split at h
 ·rename_i fn hf
  simp only[bW3,bYc]at h
  exact⟨fn,hf,h.1,h.2⟩
 ·cases h
abbrev aK{α:Type}(x:α):Prop:=x=x
abbrev exI(k:IntKind)(x:Int)(K:Int->Prop):Prop:=∃n,AV.int k x=AV.int k n∧K n
abbrev exW(k:IntKind)(x:Int)(K:Int->Prop):Prop:=∃n,AV.int k (IntKind.wrap k x)=AV.int k n∧K n
abbrev exV(k:IntKind)(v:AV)(K:Int->Prop):Prop:=∃n,v=AV.int k n∧K n
abbrev exS(v:AV)(K:LA->Prop):Prop:=∃s,v=AV.str s∧K s
abbrev exB(v:AV)(K:Bool->Prop):Prop:=∃b,v=AV.bool b∧K b
abbrev ckQ(c:Bool)(A:Prop):Prop:=bif c then A else False
end Go.Proofs.YtnhechnaemmdiaaGreatDoor

namespace Go.Proofs.YtnhechnaemmdiaaGreatDoor
open Go.RowKit

def aIo(W:World):M:=⟨λ_=>none,λ_=>undef,λ_=>none,λ_ b=>match W.heap[b]? with
 | some (.cells cu _ _)=>some cu.toList
 | _=>none⟩

theorem aXf{W:World}{b:Nat}{cu:Array Value}{e:TypeId}{fr:Nat×Nat}(h:W.heap[b]? = some (.cells cu e fr))(t:Nat):(aIo W).frz t b=some cu.toList:=by
 simp only[aIo,h]

theorem HR.all{gl:Nat->Option HB}{W:World}(h:bSy gl W):HR gl (aIo W) [] W:=by
 refine⟨λid I h=>(by cases h),λid I b h=>(by cases h),λi j I J b h=>(by cases h),λg cs hg => ?_,λg cs hg=>(h g cs hg).1,λt k cs hf => ?_,λt k cs id I b _ h=>(by cases h),λg cs id I b _ h=>(by cases h)⟩
 ·obtain⟨_,cu,e,fr,h1,h2⟩:=h g cs hg
  exact⟨cu,e,fr,h1,VRL.mono (m:=m00) (m':=aIo W) ⟨λ_ _ h=>(by simp[m00]at h),rfl,λ_ _ h=>(by simp[m00]at h),λ_ _ _ h=>(by simp[m00]at h)⟩ _ _ h2⟩
 ·simp only[aIo]at hf
  split at hf
  ·rename_i cu e fr hh
   cases hf
   exact⟨cu,e,fr,hh,by rw[bZx];exact bW4 (by simp)⟩
  ·cases hf

section
variable (P:Program)

def aBm(p:TypeId->HB->Prop):List Field->HB->Prop
 | [],l=>l=[]
 | f::fs,l=>∃x y,p f.type x∧aBm p fs y∧l=x++y

def shP:Nat->TypeId->HB->Prop
 | 0,_,_=>False
 | d+1,t,l=>match P.underlying t with
  | some .bool=>∃b,l=[.bool b]
  | some (.int k)=>∃n,l=[.int k n]∧(Lit.int k n).wf=true
  | some .string=>∃s:LA,l=[.str s]∧s.length<=maxLen
  | some (.struct fs)=>aBm (shP d) fs.toList l
  | some (.array n e)=>∃ls:List HB,ls.length=n∧(∀x∈ls,shP d e x)∧l=ls.flatten
  | some (.slice e)=>∃ls:List HB,(∀x∈ls,shP d e x∧x.length=P.cellsOf e)∧ls.length<=maxLen∧l=[.lst 0 ls.flatten ls.length (P.cellsOf e)]
  | _=>False

def zN:Nat->TypeId->Bool
 | 0,_=>false
 | d+1,t=>match P.underlying t with
  | some .bool=>P.cellsOf t==1
  | some (.int _)=>P.cellsOf t==1
  | some .string=>P.cellsOf t==1
  | some (.struct fs)=>sV P fs.toList 0 (P.cellsOf t)&&fs.toList.all λf=>zN d f.type
  | some (.array n e)=>n*P.cellsOf e==P.cellsOf t&&zN d e
  | some (.slice e)=>P.cellsOf t==1&&Nat.blt 0 (P.cellsOf e)&&zN d e
  | _=>false
end

section
variable {P:Program} {H:Type} {enc:TypeId×Value->H} {W:World} {base:Nat} {spare:Nat->Bool} {held:Bool}

theorem xD{m:M}{d:Nat}{r:TypeId->List Value->Option (DataW H×List MemPlace)}{cs:List Value}{n:Nat}(hn:cs.length=n):∀ (fs:List Field) (o:Nat) (xs:List (DataW H×List MemPlace)),
  (∀f∈fs,∀cs x,r f.type cs=some x->cs.length=P.cellsOf f.type∧∃l,VRL m l cs∧shP P d f.type l)->sV P fs o n=true->o<=n →
  (fs.mapM λf=>r f.type ((cs.drop f.offset).take (P.cellsOf f.type)))=some xs->∃l,VRL m l (cs.drop o)∧aBm (shP P d) fs l
 | [],o,xs,_,ht,_,h=>by
  simp only[sV,bYr]at ht
  exact⟨[],by rw[bX9 (by omega)];simp,rfl⟩
 | f::fs,o,xs,hr,ht,ho,h=>by
  obtain⟨x,xs',h1,h2,rfl⟩:=dY h
  simp only[sV,bW3,bYr]at ht
  obtain⟨rfl,ht⟩:=ht
  obtain⟨q2,l,q1,q3⟩:=hr f (by simp) _ _ h1
  have hlt:f.offset+P.cellsOf f.type<=n:=by
   simp at q2
   omega
  obtain⟨l',i1,i2⟩:=xD hn fs (f.offset+P.cellsOf f.type) xs' (λg hg=>hr g (by simp[hg])) ht hlt h2
  refine⟨l++l', ?_,l,l',q3,i2,rfl⟩
  have e:cs.drop f.offset=(cs.drop f.offset).take (P.cellsOf f.type)++cs.drop (f.offset+P.cellsOf f.type):=by
   rw[←bY9,bYw]
  rw[e]
  exact q1.append i1

theorem aAm{m:M}{p:HB->Prop}{r:List Value->Option (DataW H×List MemPlace)}{cs:List Value}{z:Nat}(hr:∀cs x,r cs=some x->cs.length=z∧∃l,VRL m l cs∧p l):∀ (n i:Nat) (xs:List (DataW H×List MemPlace)),
  cs.length=(i+n)*z->((List.range' i n).mapM λi=>r ((cs.drop (i*z)).take z))=some xs->∃ls:List HB,ls.length=n∧(∀x∈ls,p x)∧VRL m ls.flatten (cs.drop (i*z))
 | 0,i,xs,hl,h=>⟨[],rfl,by simp,by rw[bX9 (by rw[hl,bYv];exact bXe _)];simp⟩
 | n+1,i,xs,hl,h=>by
  rw[cCu]at h
  obtain⟨x,xs',h1,h2,rfl⟩:=dY h
  obtain⟨q2,l,q1,q3⟩:=hr _ _ h1
  obtain⟨ls,i1,i2,i3⟩:=aAm hr n (i+1) xs' (by rw[hl];congr 1;omega) h2
  refine⟨l::ls,by simp[i1], ?_, ?_⟩
  ·intro y hy
   rcases bXd.1 hy with rfl | hy
   ·exact q3
   ·exact i2 y hy
  ·have e:cs.drop (i*z)=(cs.drop (i*z)).take z++cs.drop ((i+1)*z):=by
    rw[bZ6,cCp,←bY9,bYw]
   rw[e,bZv]
   exact q1.append i3

theorem aLm{w:World}{a:Addr}{i:Nat}{v:Value}(h:w.cell? (a.add i)=some v):(i=0->a.spot=none)∧∃cu e fr,w.heap[a.block]? = some (.cells cu e fr)∧cu[a.off+i]? = some v:=by
 have hb:(a.add i).block=a.block:=by unfold Addr.add;split<;>rfl
 have ho:(a.add i).off=a.off+i:=by unfold Addr.add;split<;>simp_all
 unfold World.cell? at h
 rw[hb,ho]at h
 split at h
 ·rename_i cu e fr hh
  split at h
  ·cases h
  ·rename_i hs
   refine⟨λhi => ?_,cu,e,fr,hh,h⟩
   subst hi
   unfold Addr.add at hs
   simpa using hs
 ·cases h

theorem aVd{w:World}{a:Addr}{n:Nat}{cs:List Value}(h:w.cells? base a n=some cs)(hn:0<n) :
  a.spot=none∧∃cu e fr,w.heap[a.block]? = some (.cells cu e fr)∧cs=(cu.toList.drop a.off).take n∧a.off+n<=cu.size:=by
 obtain⟨hb,hlen,hget⟩:=World.cells?_some h
 have hsome:∀i,(hi:i<n)->w.cell? (a.add i)=some (cs[i]'(by omega)):=λi hi=>by
  rw[hget i hi];exact bW8 (by omega)
 obtain⟨hs,cu,e,fr,hh,_⟩:=aLm (hsome 0 hn)
 have hcu:∀i,i<n->cu[a.off+i]? = cs[i]? := λi hi=>by
  obtain⟨_,cu',e',fr',hh',h2⟩:=aLm (hsome i hi)
  rw[hh]at hh'
  cases hh'
  rw[h2,bW8 (by omega)]
 refine⟨hs rfl,cu,e,fr,hh, ?_, ?_⟩
 ·apply List.ext_getElem?
  intro i
  by_cases hi:i<n
  ·rw[bXz,if_pos hi,bYo,←hcu i hi];simp
  ·rw[bZn (by omega),bXz,if_neg hi]
 ·have:=hcu (n-1) (by omega)
  rw[bW8 (by omega)]at this
  have:=(bXa.1 this).1
  omega

theorem aAn{p:HB->Prop}{r:List Value->Option (DataW H×List MemPlace)}{a:Addr}{z:Nat}(hz:0<z)(hr:∀cs x,r cs=some x->cs.length=z∧∃l,VRL (aIo W) l cs∧p l)(len:Nat)(hel:∀i,i<len->∃cs x,W.cells? base (a.add (i*z)) z=some cs∧r cs=some x) :
  ∀n,n<=len->∃ls:List HB,ls.length=n∧(∀x∈ls,p x∧x.length=z)∧(n=0∨(a.spot=none∧∃cu e fr,W.heap[a.block]? = some (.cells cu e fr)∧a.off+n*z<=cu.size∧VRL (aIo W) ls.flatten ((cu.toList.drop a.off).take (n*z))))
 | 0,_=>⟨[],rfl,by simp,.inl rfl⟩
 | n+1,hn=>by
  obtain⟨ls,h1,h2,h3⟩:=aAn hz hr len hel n (by omega)
  obtain⟨cs,x,c1,c2⟩:=hel n (by omega)
  obtain⟨q2,l,q1,q3⟩:=hr cs x c2
  obtain⟨hs,cu,e,fr,k1,k2,k3⟩:=aVd c1 hz
  have hb:(a.add (n*z)).block=a.block:=by unfold Addr.add;split<;>rfl
  have ho:(a.add (n*z)).off=a.off+n*z:=by unfold Addr.add;split<;>simp_all
  rw[hb]at k1
  rw[ho]at k2 k3
  have hsp:a.spot=none:=by
   rcases h3 with rfl | ⟨h3,_⟩
   ·unfold Addr.add at hs
    simpa using hs
   ·exact h3
  have hll:l.length=z:=by rw[q1.len,q2]
  refine⟨ls++[l],by simp[h1], ?_,.inr ⟨hsp,cu,e,fr,k1,by rw[bZ6];omega, ?_⟩⟩
  ·intro y hy
   rcases bYj.1 hy with hy | hy
   ·exact h2 y hy
   ·obtain rfl:=bXp.1 hy
    exact⟨q3,hll⟩
  ·rw[cB7,List.flatten_singleton,bZ6,cCp,List.take_add,bY9]
   refine VRL.append ?_ (by rw[←k2];exact q1)
   rcases h3 with rfl | ⟨_,cu',e',fr',j1,j2,j3⟩
   ·have:ls=[]:=bXo h1
    subst this
    simp
   ·rw[k1]at j1
    cases j1
    exact j3

theorem yA:∀ (d:Nat) (t:TypeId) (fuel:Nat) (cs:List Value) (x:DataW H×List MemPlace),zN P d t=true->DataW.trod enc P W base spare held fuel t cs=some x->cs.length=P.cellsOf t∧∃l,VRL (aIo W) l cs∧shP P d t l
 | 0,t,_,_,_,ht,_=>by simp[zN]at ht
 | d+1,t,0,cs,x,_,h=>by simp[DataW.trod]at h
 | d+1,t,fuel+1,cs,x,ht,h=>by
  have h0:=h
  rw[cCy]at h
  simp only[zN]at ht
  simp only[shP]
  unfold DataW.trodStep at h
  split at ht
  ·rename_i hu
   simp only[bYr]at ht
   rw[hu]at h
   simp only at h
   split at h<;>simp at *
   all_goals first
    | (subst h;exact⟨ht.symm,[.bool _],by simp[VR];rfl,by rename_i b _;cases b<;>simp⟩)
    | (rename_i b _;subst h;exact⟨ht.symm,[.bool b],by simp[VR],by cases b<;>simp⟩)
    | (rename_i b _ _ _;subst h;exact⟨ht.symm,[.bool b],by simp[VR],by cases b<;>simp⟩)
    | (rename_i b _ _;subst h;exact⟨ht.symm,[.bool b],by simp[VR],by cases b<;>simp⟩)
    | skip
  ·rename_i k hu
   simp only[bYr]at ht
   rw[hu]at h
   simp only at h
   split at h<;>simp at *
   all_goals first
    | (rename_i hh;cases hh;obtain⟨⟨rfl,hw⟩,rfl⟩:=h;exact⟨by simp[ht],[.int _ _],by simp[VR],_,rfl,hw⟩)
    | skip
  ·rename_i hu
   simp only[bYr]at ht
   rw[hu]at h
   simp only at h
   split at h<;>simp at *
   all_goals first
    | (rename_i s hh;cases hh;obtain⟨hw,rfl⟩:=h;exact⟨by simp[ht],[.str s.data.toList],by simp[VR],_,rfl,by simpa using hw⟩)
    | skip
  ·rename_i fs hu
   simp only[bW3,bYy]at ht
   rw[hu]at h
   simp only at h
   split at h
   ·rename_i hl
    cases hm:(fs.toList.mapM λf=>DataW.trod enc P W base spare held fuel f.type ((cs.drop f.offset).take (P.cellsOf f.type)))with
    | none=>rw[hm]at h;simp at h
    | some xs=>
     refine⟨hl, ?_⟩
     have:=xD (P:=P) (m:=aIo W) (d:=d) hl fs.toList 0 xs (λf hf cs x hx=>yA d f.type fuel cs x (ht.2 f hf) hx) ht.1 (bYb _) hm
     simpa using this
   ·cases h
  ·rename_i n e hu
   simp only[bW3,bYr]at ht
   rw[hu]at h
   simp only at h
   split at h
   ·rename_i hl
    cases hm:((List.range n).mapM λi=>DataW.trod enc P W base spare held fuel e ((cs.drop (i*P.cellsOf e)).take (P.cellsOf e)))with
    | none=>rw[hm]at h;simp at h
    | some xs=>
     refine⟨hl, ?_⟩
     rw[cBw]at hm
     obtain⟨ls,i1,i2,i3⟩:=aAm (m:=aIo W) (p:=shP P d e) (λcs x hx=>yA d e fuel cs x ht.2 hx) n 0 xs (by rw[hl,←ht.1];simp) hm
     exact⟨ls.flatten,by simpa using i3,ls,i1,i2,rfl⟩
   ·cases h
  ·rename_i e hu
   simp only[bW3,bYr,aD]at ht
   rcases Go.Deep.open_slice hu h0 with ⟨rfl,_⟩ | ⟨a,len,cap,mm,n,D,Pl,rfl,hb,hl,hcap,hmm,_,hel⟩
   ·exact⟨by simp[ht.1.1],[.lst 0 [] 0 (P.cellsOf e)],by rw[bH];refine⟨?_,by simp⟩;simp only[VR];exact⟨rfl,by simp,none,0,rfl,bXe _,.inr ⟨by simp,by simp⟩⟩,[],by simp,by simp,rfl⟩
   ·refine⟨by simp[ht.1.1], ?_⟩
    have hlm:len<=mm:=by rw[hmm];split<;>omega
    obtain⟨ls,i1,i2,i3⟩:=aAn (W:=W) (a:=a) (p:=shP P d e) ht.1.2 (λcs x hx=>yA d e n cs x ht.2 hx) len (λi hi=>by
     obtain⟨cs',c1,c2⟩:=hel i (by omega)
     exact⟨cs',_,c1,c2⟩) len (bXe _)
    refine⟨[.lst 0 ls.flatten ls.length (P.cellsOf e)], ?_,ls,i2,by omega,rfl⟩
    have hfl:ls.flatten.length=len*P.cellsOf e:=by
     rw[List.length_flatten,List.map_congr_left (g:=λ_=>P.cellsOf e) (λx hx=>(i2 x hx).2),List.map_const',List.sum_replicate_nat,i1]
    simp only[bH,VR,gL,cA6]
    refine⟨rfl,by rw[hfl,i1],some a,cap,by rw[i1],by omega, ?_⟩
    rcases i3 with h3 | ⟨h3,cu,e',fr,j1,j2,j3⟩
    ·right
     have:ls=[]:=bXo (by omega)
     subst this
     exact⟨rfl,rfl,λh=>by cases h⟩
    ·left
     refine⟨a,cu.toList,rfl,h3,aXf j1 0,by rw[hfl];simpa using j2, ?_⟩
     rw[hfl]
     exact j3
  ·cases ht
end
end Go.Proofs.YtnhechnaemmdiaaGreatDoor

namespace Go.Proofs.YtnhechnaemmdiaaGreatDoor
open Go.RowKit

def bU(τ:Nat)(H:HV):Nat->AV->AV
 | 0,_=>.undef
 | d+1,a=>match a with
  | .sl id tot off len sz=>match H[id]? with
   | some b=>bif Nat.beq b.cs.length tot&&Nat.ble (off+len*sz) tot&&b.k !=.ro then .lst τ (((b.cs.drop off).take (len*sz)).map λx=>bU τ H d x) len sz else .undef
   | none=>.undef
  | .ptr _ _ _=>.undef
  | .mp _=>.undef
  | .yld _=>.undef
  | .fn _ _ _=>.undef
  | .iface t v=>.iface t (bU τ H d v)
  | .agg l=>.agg (l.map λx=>bU τ H d x)
  | .tup l=>.tup (l.map λx=>bU τ H d x)
  | v=>v
def bI9(τ:Nat)(H:HV)(d:Nat)(l:HB):HB:=l.map (bU τ H d)

section
variable {P:Program} {gl:Nat->Option HB} {m:M} {H:HV} {w:World}

open Classical in
noncomputable def sQ(τ:Nat)(m:M)(H:HV)(w:World):M:=
 ⟨λ_=>none,m.opq,m.lp,λt b=>match m.frz t b with
  | some c=>some c
  | none=>if t=τ∧jH m H b then(match w.heap[b]? with | some (.cells cu _ _)=>some cu.toList | _=>none)else none⟩

theorem tY(τ:Nat)(m:M)(H:HV)(w:World):Ext m.strip (sQ τ m H w).strip:=
 ⟨λ_ _ h=>(by cases h),rfl,λ_ _ h=>(by cases h),λt b cs h=>by
  show(sQ τ m H w).frz t b=some cs
  have h':m.frz t b=some cs:=h
  simp only[sQ,h']⟩

theorem aIq(τ:Nat)(hH:HR gl m H w)(hgl:∀g cs,gl g=some cs->bX cs=true):HR gl (sQ τ m H w) [] w:=by
 refine⟨λid I h=>(by cases h),λid I b h=>(by cases h),λi j I J b h=>(by cases h),λg cs hg => ?_,hH.gld,λt k cs hf => ?_,λt k cs id I b _ h=>(by cases h),λg cs id I b _ h=>(by cases h)⟩
 ·obtain⟨cu,e,fr,h1,h2⟩:=hH.glb g cs hg
  exact⟨cu,e,fr,h1,VRL.flat (m:=m) (m':=sQ τ m H w) rfl (tY τ m H w) _ _ (hH.gld g cs hg) (hgl g cs hg) h2⟩
 ·simp only[sQ]at hf
  split at hf
  ·rename_i c hc
   cases hf
   exact hH.frz t k _ hc
  ·split at hf
   ·split at hf
    ·rename_i cu e fr hh
     cases hf
     exact⟨cu,e,fr,hh,by rw[bZx];exact bW4 (by simp)⟩
    ·cases hf
   ·cases hf

theorem vL(τ:Nat)(d:Nat){m1 m2:M}(h:∀ (a:AV) (v:Value),VR m1 a v->VR m2 (bU τ H d a) v):∀ (l:HB) (vs:List Value),VRL m1 l vs->VRL m2 (l.map λx=>bU τ H d x) vs
 | [],vs,k=>by simpa using k
 | a::l,vs,k=>by
  obtain⟨v,vs',rfl,h1,h2⟩:=bB k
  rw[bXu,bH]
  exact⟨h a v h1,vL τ d h l vs' h2⟩
theorem oC(τ:Nat)(hH:HR gl m H w):∀ (d:Nat) (a:AV) (v:Value),VR m a v->VR (sQ τ m H w).strip (bU τ H d a) v
 | 0,a,v,_=>by simp[bU,VR]
 | d+1,a,v,h=>by
  have hs:=tY τ m H w
  cases a with
  | sl id tot off len sz=>
   simp only[bU]
   cases hb:H[id]? with
   | none=>simp[VR]
   | some b=>
    simp only
    cases hc:(Nat.beq b.cs.length tot&&Nat.ble (off+len*sz) tot&&b.k !=.ro)
    ·simp[VR]
    ·simp only[bXw]
     simp only[bW3,bS,bX5,bZw,ne_eq]at hc
     obtain⟨⟨h1,h2⟩,h3⟩:=hc
     have hcur:cur H id tot=true:=by simp[cur,hb,h1,nK h3]
     obtain⟨I,o2,cap,hI,hIt,hv,hcap,hpos⟩:=hH.sl h hcur
     have hB:=hH.blk id I b hI hb
     obtain⟨cu,e,lo,hi,q1,q2,q3,q4,q5,q6⟩:=hB.row (nK h3)
     obtain⟨hd,hm⟩:=q5 h3
     have hlen:(((b.cs.drop off).take (len*sz)).map λx=>bU τ H d x).length=len*sz:=by
      simp;omega
     simp only[VR]
     refine⟨by rw[hv];rfl,hlen,some ⟨I.b,o2,none⟩,cap,hv,hcap, ?_⟩
     rcases hpos with ⟨rfl,hpos⟩ | ⟨rfl,_⟩
     ·left
      have hfz:(sQ τ m H w).frz τ I.b=some cu.toList:=by
       have hnf:m.frz τ I.b=none:=by
        cases hf:m.frz τ I.b with
        | none=>rfl
        | some c=>exact absurd rfl (hH.fow τ I.b c id I b hf hI hb (.inl h3))
       have hown:jH m H I.b:=⟨id,I,b,hI,hb,.inl h3,rfl⟩
       simp only[sQ,hnf,q1];rw[if_pos ⟨rfl,hown⟩]
      refine⟨_,cu.toList,rfl,rfl,hfz, ?_, ?_⟩
      ·rw[hlen,hd]
       have:=hB.tot
       simp;omega
      ·rw[hlen]
       have ht:=hB.tot
       rw[hd,bXl]at q6
       have e1:(cu.toList.drop (I.d+off)).take (len*sz)=((cu.toList.take I.tot).drop off).take (len*sz):=by
        rw[hd,bY6,cCl,cBr,bYf (by omega)]
       show VRL (sQ τ m H w).strip.strip _ _
       rw[e1]
       exact vL τ d (oC τ hH d) _ _ ((q6.drop off).take (len*sz))
     ·right
      refine⟨rfl,bXo (by rw[hlen];simp),λh=>by cases h⟩
  | ptr id tot off=>simp[bU,VR]
  | mp id=>simp[bU,VR]
  | mpn=>simpa only[bU,VR]using h
  | yld u=>simp[bU,VR]
  | fn f x y=>simp[bU,VR]
  | iface t x=>
   simp only[bU,VR]at h ⊢
   obtain⟨x',h1,h2⟩:=h
   exact⟨x',h1,oC τ hH d x x' h2⟩
  | agg l=>
   simp only[bU,VR]at h ⊢
   obtain⟨x',h1,h2⟩:=h
   exact⟨x',h1,vL τ d (oC τ hH d) l _ h2⟩
  | tup l=>
   simp only[bU,VR]at h ⊢
   obtain⟨x',h1,h2⟩:=h
   exact⟨x',h1,vL τ d (oC τ hH d) l _ h2⟩
  | undef=>simp[bU,VR]
  | opq i=>simp only[bU,VR]at h ⊢;exact h
  | bool b=>simpa only[bU,VR]using h
  | int k n=>simpa only[bU,VR]using h
  | str s=>simpa only[bU,VR]using h
  | nilp=>simpa only[bU,VR]using h
  | gptr g o=>simpa only[bU,VR]using h
  | nils=>simpa only[bU,VR]using h
  | nilf=>simpa only[bU,VR]using h
  | nili=>simpa only[bU,VR]using h
  | lst t l len sz=>
   simp only[bU,VR]at h ⊢
   obtain⟨h1,h2,a,cap,h3,h4,h5⟩:=h
   exact⟨h1,h2,a,cap,h3,h4,h5.imp (λ⟨a,cs,ka,k0,k1,k2,k3⟩=>⟨a,cs,ka,k0,hs.frz _ _ _ k1,k2,VRL.mono hs _ _ k3⟩) id⟩
  | lptr t l off=>
   simp only[bU,VR]at h ⊢
   obtain⟨h1,b,o,cs,h3,h4,h5,h6⟩:=h
   exact⟨h1,b,o,cs,h3,hs.frz _ _ _ h4,h5,VRL.mono hs _ _ h6⟩
theorem bH7(τ:Nat)(hH:HR gl m H w)(d:Nat)(l:HB)(vs:List Value)(h:VRL m l vs):VRL (sQ τ m H w).strip (bI9 τ H d l) vs:=
 vL τ d (oC τ hH d) l vs h
end

def wk(a b:AV):Prop:=∀ (m:M) (v:Value),VR m a v->VR m b v
def wkL(a b:HB):Prop:=∀ (m:M) (vs:List Value),VRL m a vs->VRL m b vs
theorem kW(a:AV):wk a a:=λ_ _ h=>h
theorem kL(l:HB):wkL l l:=λ_ _ h=>h
theorem aT5:wkL [] []:=kL _
theorem pJ{a b:AV}{l l':HB}(h:wk a b)(k:wkL l l'):wkL (a::l) (b::l'):=by
 intro m vs hv
 obtain⟨v,vs',rfl,h1,h2⟩:=bB hv
 rw[bH]
 exact⟨h m v h1,k m vs' h2⟩
theorem bGf(t z:Nat):wk .nils (.lst t [] 0 z):=by
 intro m v h
 simp only[VR]at h ⊢
 subst h
 exact⟨rfl,by simp,none,0,rfl,bXe _,.inr ⟨by simp,by simp⟩⟩
theorem aAi{l l':HB}(h:wkL l l'):wk (.agg l) (.agg l'):=by
 intro m v hv
 simp only[VR]at hv ⊢
 obtain⟨cs,h1,h2⟩:=hv
 exact⟨cs,h1,h _ _ h2⟩
theorem bDa{l l':HB}(h:wkL l l'):wk (.tup l) (.tup l'):=by
 intro m v hv
 simp only[VR]at hv ⊢
 obtain⟨cs,h1,h2⟩:=hv
 exact⟨cs,h1,h _ _ h2⟩
section
variable {P:Program} {gl:Nat->Option HB} {m:M} {H:HV} {w:World}

theorem aMl{f:FuncId}{c:HB->HV->(Out->HV->Prop)->Prop}(he:Enters P f)(hgl:∀g cs,gl g=some cs->bX cs=true)(depth:Nat)(k:AV->AV)(hk:∀a,wk a (k a))
  (h:∀args H Q,c args H Q->aP 0 args=true∧bX args=true∧∀ (m:M) (vs:Array Value) (w:World),VRL m args vs.toList->HR gl m [] w->(m.lp=λ_=>none)->Calls P f vs w (kK P gl [] m [] w λo H' _=>∃v,o=.ret v∧Q (.ret (k (bU 0 H' depth v))) H)):aI P gl f c:=by
 refine⟨he,λargs H Q hc m w vs hv hH => ?_⟩
 obtain⟨h1,h2,h5⟩:=h args H Q hc
 -- the run, over no blocks
 have hv0:VRL (eQ m id 0) args vs.toList:=by
  refine VRL.small (m:=m) (m0:=eQ m id 0) (n:=0) (ρ:=id) (λj hj=>by omega) rfl (Ext.refl _) _ _ h1 h2 ?_
  rw[aU id args h1 h2];exact hv
 refine(h5 _ _ _ hv0 ((Fr.nil H).hr hH hgl) rfl).mono λe w' hp => ?_
 obtain⟨o,H0',g',m0',⟨v,rfl,q1⟩,q2,q3,_,q5⟩:=hp
 cases e<;>simp only[aIk]at q2
 rename_i cv
 have hF:=aIq 0 (w:=w') q3 hgl
 -- the caller's map, with what is frozen now
 obtain⟨m',hm'⟩:∃m':M,m'=⟨m.blk,m.opq,m.lp,(sQ 0 m0' H0' w').frz⟩:=⟨_,rfl⟩
 have hop:m0'.opq=m.opq:=q5.ext.opq
 have hfr:∀t k cs,m.frz t k=some cs->(sQ 0 m0' H0' w').frz t k=some cs:=λt k cs h=>(tY 0 m0' H0' w').frz t k cs (q5.ext.frz t k cs h)
 have hext:Ext m m':=by subst hm';exact⟨λ_ I h=>⟨I,h,bXe _,λ_=>rfl⟩,rfl,λ_ _ h=>h,hfr⟩
 have hno:∀k,¬ jH (eQ m id ([]:HV).length) [] k:=by
  rintro k ⟨j,I,b,h1,h2,_⟩
  simp at h2
 have hkeep:∀k,k<w.heap.size->w'.heap[k]? = w.heap[k]? := λk hk=>q5.keep k hk (hno k) (by simp)
 have hnewf:∀t k cs,(sQ 0 m0' H0' w').frz t k=some cs->m.frz t k=some cs∨w.heap.size<=k:=by
  intro t k cs hf
  simp only[sQ]at hf
  split at hf
  ·rename_i c hc
   cases hf
   rcases q5.fz t k _ hc with h | h | h
   ·exact .inl h
   ·exact .inr h
   ·exact absurd h (hno k)
  ·split at hf
   ·rename_i ho
    rcases q5.own k ho.2 with h | h
    ·exact .inr h
    ·exact absurd h (hno k)
   ·cases hf
 have hrow:∀id I,m.blk id=some I->I.b<w.heap.size:=λid I h=>by
  have hd:=hH.dom id I h
  obtain⟨_,q1,_⟩:=(hH.blk id I H[id] h (bW8 hd)).obj
  exact(bXa.1 q1).1
 refine⟨_,H,m',q1, ?_,⟨λid I h => ?_,λid I b h h2 => ?_,λi j I J b h1 h2 => ?_,λg cs hg => ?_,hH.gld,λt k cs hf => ?_,λt k cs id I b hf h1 h2 h3 => ?_,λg cs id I b h1 h2 => ?_⟩,
  ⟨⟨hext,q5.os,q5.tape,q5.output,q5.size,λk hk _=>hkeep k hk,λk hk => ?_,λu l h => ?_,λt k cs hf => ?_⟩,bXe _,λid _ h => ?_⟩⟩
 ·have:=oC 0 (w:=w') q3 depth v cv q2
  refine hk _ _ _ (VR.mono (m:=(sQ 0 m0' H0' w').strip) ⟨λ_ _ h=>(by cases h), ?_,λ_ _ h=>(by cases h),λt k cs h=>by subst hm';exact h⟩ _ _ this)
  subst hm';exact hop.symm
 ·subst hm';exact hH.dom id I h
 ·subst hm'
  exact(hH.blk id I b h h2).mono hext (hkeep _ (hrow id I h))
 ·subst hm';exact hH.inj i j I J b h1 h2
 ·obtain⟨cu,e,fr,k1,k2⟩:=hH.glb g cs hg
  exact⟨cu,e,fr,(hkeep g (bXa.1 k1).1).trans k1,VRL.mono hext _ _ k2⟩
 ·subst hm'
  exact hF.frz t k cs hf
 ·subst hm'
  rintro rfl
  rcases hnewf t _ cs hf with h | h
  ·exact hH.fow t _ cs id I b h h1 h2 h3 rfl
  ·have:=hrow id I h1;omega
 ·subst hm';exact hH.gow g cs id I b h1 h2
 ·subst hm';exact .inr hk
 ·subst hm';exact h
 ·subst hm'
  rcases hnewf t k cs hf with h | h
  ·exact .inl h
  ·exact .inr (.inl h)
 ·subst hm';exact h

theorem dV{f:FuncId}{c:HB->HV->(Out->HV->Prop)->Prop}(he:Enters P f)(hgl:∀g cs,gl g=some cs->bX cs=true)(depth:Nat)(k:AV->AV)(hk:∀a,wk a (k a))
  (h:∀args H Q,c args H Q->aP 0 args=true∧bX args=true∧∃ (E:Env) (n:Nat),EnvFor P E∧E.gl=gl∧aT E (wpx E n) f args [] {} λo H' _=>∃v,o=.ret v∧Q (.ret (k (bU 0 H' depth v))) H):aI P gl f c:=by
 refine aMl he hgl depth k hk λargs H Q hc => ?_
 obtain⟨h1,h2,E,n,hE,rfl,h5⟩:=h args H Q hc
 exact⟨h1,h2,λm vs w hv hH hl=>vZ hE h5 hv hH hl⟩

mutual
def noT:AV->Bool
 | .fn _ x y=>zZ x&&zZ y
 | .iface _ v=>noT v
 | .agg l=>zZ l
 | .tup l=>zZ l
 | .lst t l _ _=>Nat.beq t 0&&zZ l
 | .lptr _ _ _=>false
 | .sl _ _ _ _ _=>false
 | .ptr _ _ _=>false
 | .mp _=>false
 | .yld _=>false
 | _=>true
def zZ:HB->Bool
 | []=>true
 | v::l=>noT v&&zZ l
end

mutual
theorem aU1{m m':M}(ho:m'.opq=m.opq)(hf:∀b cs,m.frz 0 b=some cs->m'.frz 0 b=some cs):∀ (a:AV) (v:Value),noT a=true->VR m a v->VR m' a v
 | .undef,_,_,_=>by simp[VR]
 | .opq i,v,_,h=>by simpa only[VR,ho]using h
 | .bool _,_,_,h=>by simpa only[VR]using h
 | .int _ _,_,_,h=>by simpa only[VR]using h
 | .str _,_,_,h=>by simpa only[VR]using h
 | .nilp,_,_,h=>by simpa only[VR]using h
 | .ptr _ _ _,_,q,_=>by simp[noT]at q
 | .gptr _ _,_,_,h=>by simpa only[VR]using h
 | .nils,_,_,h=>by simpa only[VR]using h
 | .sl _ _ _ _ _,_,q,_=>by simp[noT]at q
 | .mpn,_,_,h=>by simpa only[VR]using h
 | .mp _,_,q,_=>by simp[noT]at q
 | .nilf,_,_,h=>by simpa only[VR]using h
 | .fn f x y,v,q,h=>by
  simp only[noT,bW3]at q
  simp only[VR]at h ⊢
  obtain⟨x',y',h1,h2,h3⟩:=h
  exact⟨x',y',h1,qB ho hf x _ q.1 h2,qB ho hf y _ q.2 h3⟩
 | .yld _,_,q,_=>by simp[noT]at q
 | .nili,_,_,h=>by simpa only[VR]using h
 | .iface t v,_,q,h=>by
  simp only[noT]at q
  simp only[VR]at h ⊢
  obtain⟨x,h1,h2⟩:=h
  exact⟨x,h1,aU1 ho hf v x q h2⟩
 | .agg l,_,q,h=>by
  simp only[noT]at q
  simp only[VR]at h ⊢
  obtain⟨x,h1,h2⟩:=h
  exact⟨x,h1,qB ho hf l _ q h2⟩
 | .tup l,_,q,h=>by
  simp only[noT]at q
  simp only[VR]at h ⊢
  obtain⟨x,h1,h2⟩:=h
  exact⟨x,h1,qB ho hf l _ q h2⟩
 | .lst t l len sz,v,q,h=>by
  simp only[noT,bW3,bS]at q
  obtain⟨rfl,q⟩:=q
  simp only[VR]at h ⊢
  obtain⟨h1,h2,a,cap,h3,h4,h5⟩:=h
  exact⟨h1,h2,a,cap,h3,h4,h5.imp (λ⟨a,cs,ka,k0,k1,k2,k3⟩=>⟨a,cs,ka,k0,hf _ _ k1,k2,qB (m:=m.strip) (m':=m'.strip) ho hf _ _ q k3⟩) id⟩
 | .lptr _ _ _,_,q,_=>by simp[noT]at q
theorem qB{m m':M}(ho:m'.opq=m.opq)(hf:∀b cs,m.frz 0 b=some cs->m'.frz 0 b=some cs):∀ (l:HB) (vs:List Value),zZ l=true->VRL m l vs->VRL m' l vs
 | [],vs,_,h=>by simpa only[VRL]using h
 | a::l,vs,q,h=>by
  simp only[zZ,bW3]at q
  obtain⟨v,vs',rfl,h1,h2⟩:=bB h
  rw[bH]
  exact⟨aU1 ho hf a v q.1 h1,qB ho hf l vs' q.2 h2⟩
end

theorem aOa{f:FuncId}{c:HB->HV->(Out->HV->Prop)->Prop}(hc:aI P gl f c)(hgl:∀g cs,gl g=some cs->bX cs=true)(depth:Nat)
  (hp:∀args H Q,c args H Q->c args [] λo H'=>H'=[]∧(∃v,o=.ret v∧noT v=true)∧Q o H):aI P gl f λargs H Q=>c (bI9 1 H depth args) H Q:=by
 refine⟨hc.1,λargs H Q h m w vs hv hH => ?_⟩
 have hF:=aIq 1 (w:=w) hH hgl
 have hvs:VRL (sQ 1 m H w) (bI9 1 H depth args) vs.toList:=VRL.mono (Ext.of_strip _) _ _ (bH7 1 (w:=w) hH depth args _ hv)
 refine(hc.2 _ _ _ (hp _ _ _ h) _ w vs hvs hF).mono λe w' hq => ?_
 obtain⟨o,H',m1',⟨rfl,⟨v,rfl,hn⟩,q1⟩,q2,q3,q5⟩:=hq
 cases e<;>simp only[aIk]at q2
 rename_i cv
 obtain⟨m',hm'⟩:∃m':M,m'=⟨m.blk,m.opq,m.lp,λt b=>if t=0 then m1'.frz 0 b else m.frz t b⟩:=⟨_,rfl⟩
 have hop:m1'.opq=m.opq:=q5.ext.opq
 have hfr:∀t k cs,m.frz t k=some cs->m'.frz t k=some cs:=λt k cs h=>by
  subst hm'
  simp only
  split
  ·rename_i h0
   subst h0
   refine q5.ext.frz 0 k cs ?_
   simp only[sQ,h]
  ·exact h
 have hext:Ext m m':=by
  refine⟨λid I h=>⟨I,by subst hm';exact h,bXe _,λ_=>rfl⟩,by subst hm';rfl,λu l h=>by subst hm';exact h,hfr⟩
 have hno:∀k,¬ jH (sQ 1 m H w) [] k:=by
  rintro k ⟨j,I,b,h1,h2,_⟩
  simp at h2
 have hkeep:∀k,k<w.heap.size->w'.heap[k]? = w.heap[k]? := λk hk=>q5.keep k hk (hno k)
 have hnewf:∀t k cs,m'.frz t k=some cs->m.frz t k=some cs∨w.heap.size<=k:=by
  intro t k cs hf
  subst hm'
  simp only at hf
  split at hf
  ·rename_i h0
   subst h0
   rcases q5.fz 0 k cs hf with h | h | h
   ·simp only[sQ]at h
    split at h
    ·rename_i c0 hc0
     cases h
     exact .inl hc0
    ·rw[if_neg (by omega)]at h;cases h
   ·exact .inr h
   ·exact absurd h (hno k)
  ·exact .inl hf
 have hrow:∀id I,m.blk id=some I->I.b<w.heap.size:=λid I h=>by
  have hd:=hH.dom id I h
  obtain⟨_,q1,_⟩:=(hH.blk id I H[id] h (bW8 hd)).obj
  exact(bXa.1 q1).1
 refine⟨_,H,m',q1, ?_,⟨λid I h => ?_,λid I b h h2 => ?_,λi j I J b h1 h2 => ?_,λg cs hg => ?_,hH.gld,λt k cs hf => ?_,λt k cs id I b hf h1 h2 h3 => ?_,λg cs id I b h1 h2 => ?_⟩,
  ⟨⟨hext,q5.os,q5.tape,q5.output,q5.size,λk hk _=>hkeep k hk,λk hk => ?_,λu l h => ?_,λt k cs hf => ?_⟩,bXe _,λid _ h => ?_⟩⟩
 ·exact aU1 (m:=m1') (m':=m') (by subst hm';exact hop.symm) (λb cs h=>by subst hm';simpa using h) v cv hn q2
 ·subst hm';exact hH.dom id I h
 ·subst hm'
  exact(hH.blk id I b h h2).mono hext (hkeep _ (hrow id I h))
 ·subst hm';exact hH.inj i j I J b h1 h2
 ·obtain⟨cu,e,fr,k1,k2⟩:=hH.glb g cs hg
  exact⟨cu,e,fr,(hkeep g (bXa.1 k1).1).trans k1,VRL.mono hext _ _ k2⟩
 ·subst hm'
  simp only at hf
  split at hf
  ·exact q3.frz 0 k cs hf
  ·obtain⟨cu,e,fr,k1,k2⟩:=hH.frz t k cs hf
   exact⟨cu,e,fr,(hkeep k (bXa.1 k1).1).trans k1,k2⟩
 ·rintro rfl
  rcases hnewf t _ cs hf with h | h
  ·subst hm';exact hH.fow t _ cs id I b h h1 h2 h3 rfl
  ·subst hm';have:=hrow id I h1;omega
 ·subst hm';exact hH.gow g cs id I b h1 h2
 ·subst hm';exact .inr hk
 ·subst hm';exact h
 ·rcases hnewf t k cs hf with h | h
  ·exact .inl h
  ·exact .inr (.inl h)
 ·subst hm';exact h

theorem aX7{E:Env}(hE:EnvFor P E){n:Nat}{f:FuncId}{args:HB}(h:aT E (wpx E n) f args [] {} isT){vs:Array Value}(w:World)(hg:bSy E.gl w)(hv:VRL (aIo w) args vs.toList) :
  Calls P f vs w λe w'=>e=.returned (.bool true)∧Below w.heap.size w w':=by
 refine(vZ hE h hv (HR.all hg) rfl).mono λe w' hp => ?_
 obtain⟨o,H',k',m',q1,q2,q3,_,q4⟩:=hp
 refine⟨?_,Mx.below (by simpa using q4) (bXe _) λb hb => ?_⟩
 ·unfold isT at q1
  split at q1
  ·cases e<;>simp only[aIk,VR]at q2
   rw[q2]
  ·cases q1
 ·obtain⟨id,I,x,h1,_⟩:=hb
  cases h1
end
end Go.Proofs.YtnhechnaemmdiaaGreatDoor

namespace Go.Proofs.YtnhechnaemmdiaaGreatDoor
open Go.RowKit

theorem jY{P:Program}{gl:Nat->Option HB}{f:FuncId}{c c':HB->HV->(Out->HV->Prop)->Prop}(hc:aI P gl f c)
  (hp:∀args H Q,c' args H Q->∃args',wkL args args'∧c args' H Q):aI P gl f c':=by
 refine⟨hc.1,λargs H Q h m w vs hv hH => ?_⟩
 obtain⟨args',h1,h2⟩:=hp args H Q h
 exact hc.2 _ _ _ h2 m w vs (h1 m _ hv) hH

def nlV:Nat->AV->AV
 | z+1,.nils=>.lst 0 [] 0 (z+1)
 | _,v=>v
def nlL:List Nat->HB->HB
 | z::zs,v::l=>nlV z v::nlL zs l
 | _,l=>l
def nlR(zs:List Nat):AV->AV
 | .tup l=>.tup (nlL zs l)
 | v=>match zs with | z::_=>nlV z v | []=>v
theorem bFp(z:Nat)(v:AV):wk v (nlV z v):=by
 cases z with
 | zero=>exact kW _
 | succ z=>cases v<;>first | exact bGf _ _ | exact kW _
theorem pG:∀ (zs:List Nat) (l:HB),wkL l (nlL zs l)
 | [],l=>kL _
 | _::_,[]=>kL _
 | z::zs,v::l=>pJ (bFp z v) (pG zs l)
theorem vT(zs:List Nat)(v:AV):wk v (nlR zs v):=by
 cases v with
 | tup l=>exact bDa (pG zs l)
 | _=>cases zs with
  | nil=>exact kW _
  | cons z zs=>exact bFp z _

def aYv(H:HV)(z:Nat)(v:AV)(K:AV->Prop):Prop:=match v with
 | .sl id tot off len sz=>match H[id]? with
  | some b=>bif Nat.beq b.cs.length tot&&Nat.ble (off+len*sz) tot&&b.k !=.ro then K (.lst 1 (((b.cs.drop off).take (len*sz)).map λx=>bU 1 H 8 x) len sz)else False
  | none=>False
 | v=>K (nlV z (bU 1 H 9 v))
def qI:List Nat->HV->HB->(HB->Prop)->Prop
 | _,_,[],K=>K []
 | [],H,v::l,K=>aYv H 0 v λv'=>qI [] H l λl'=>K (v'::l')
 | z::zs,H,v::l,K=>aYv H z v λv'=>qI zs H l λl'=>K (v'::l')
theorem aJ1{H:HV}{z:Nat}{v:AV}{K:AV->Prop}(h:aYv H z v K):K (nlV z (bU 1 H 9 v)):=by
 unfold aYv at h
 split at h
 ·rename_i id tot off len sz
  split at h
  ·rename_i b hb
   cases hc:(Nat.beq b.cs.length tot&&Nat.ble (off+len*sz) tot&&b.k !=.ro)
   ·rw[hc]at h;exact h.elim
   ·rw[hc]at h
    have e:nlV z (bU 1 H 9 (.sl id tot off len sz))=.lst 1 (((b.cs.drop off).take (len*sz)).map λx=>bU 1 H 8 x) len sz:=by
     rw[bU]
     simp only[hb,hc,bXw]
     cases z<;>rfl
    rw[e]
    exact h
  ·exact h.elim
 ·exact h
theorem aXu(v:AV):nlV 0 v=v:=by cases v<;>rfl
theorem aBq:∀ {zs:List Nat} {H:HV} {l:HB} {K:HB->Prop},qI zs H l K->K (nlL zs (bI9 1 H 9 l))
 | [],H,[],K,h=>h
 | _::_,H,[],K,h=>h
 | [],H,v::l,K,h=>by
  have h1:=aJ1 h
  have h2:=aBq h1
  simpa[nlL,bI9,aXu]using h2
 | z::zs,H,v::l,K,h=>by
  have h1:=aJ1 h
  have h2:=aBq h1
  simpa[nlL,bI9]using h2

theorem eG{P:Program}{gl:Nat->Option HB}{f:FuncId}{c:HB->HV->(Out->HV->Prop)->Prop}(hc:aI P gl f c)(hgl:∀g cs,gl g=some cs->bX cs=true)(zs:List Nat)
  (hp:∀args H Q,c args H Q->c args [] λo H'=>H'=[]∧(∃v,o=.ret v∧noT v=true)∧Q o H):aI P gl f λargs H Q=>qI zs H args λa=>c a H Q:=
 jY (c:=λargs H Q=>c (nlL zs (bI9 1 H 9 args)) H Q) (aOa (jY (c':=λargs H Q=>c (nlL zs args) H Q) hc λargs H Q h=>⟨_,pG zs args,h⟩) hgl 9 λargs H Q h=>hp _ _ _ h)
  λargs H Q h=>⟨args,kL _,aBq h⟩
theorem aI0{P:Program}{gl:Nat->Option HB}{f:FuncId}{c:HB->HV->(Out->HV->Prop)->Prop}(he:Enters P f)
  (h:∀args H Q,c args H Q->∀ (m:M) (w:World) (vs:Array Value),VRL m args vs.toList->∃a v,Q (.ret a) H∧VR m a v∧Calls P f vs w λe w'=>e=.returned v∧Below w.heap.size w w'):aI P gl f c:=by
 refine⟨he,λargs H Q hc m w vs hv hH => ?_⟩
 obtain⟨a,v,hq,ha,hr⟩:=h args H Q hc m w vs hv
 refine hr.mono ?_
 rintro e w' ⟨rfl,bel⟩
 exact⟨.ret a,H,m,hq,ha,hH.same (Ext.refl m) rfl rfl λj hj=>bel.block j hj,
  ⟨Ext.refl m,bel.os,bel.tape,bel.output,bel.size,λk hk _=>bel.block k hk,λ_ h=>.inr h,λ_ _ h=>h,λ_ _ _ h=>.inl h⟩,bXe _,λ_ _ h=>h⟩
def aPs(Q:Out->HV->Prop)(H:HV)(o:Out)(H':HV):Prop:=
 ∃ (j:Nat) (v0:AV),o=.ret (ren (λ_=>j) v0)∧noY v0=true∧((old 0 v0=true∧Q (.ret v0) H) ∨
  (old 1 v0=true∧∃b,H'[j]? = some b∧b.k≠.ro∧aP 0 b.cs=true∧bX b.cs=true∧Q (.ret (ren (λ_=>H.length) v0)) (H++[b])))
theorem aFx{P:Program}{gl:Nat->Option HB}{f:FuncId}{c:HB->HV->(Out->HV->Prop)->Prop}(he:Enters P f)(hgl:∀g cs,gl g=some cs->bX cs=true)
  (h:∀args H Q,c args H Q->aP 0 args=true∧bX args=true∧∃ (E:Env) (n:Nat),EnvFor P E∧E.gl=gl∧aT E (wpx E n) f args [] {} λo H' _=>aPs Q H o H'):aI P gl f c:=by
 refine⟨he,λargs H Q hc m w vs hv hH => ?_⟩
 obtain⟨h1,h2,E,n,hE,rfl,h5⟩:=h args H Q hc
 have hv0:VRL (eQ m id 0) args vs.toList:=by
  refine VRL.small (m:=m) (m0:=eQ m id 0) (n:=0) (ρ:=id) (λj hj=>by omega) rfl (Ext.refl _) _ _ h1 h2 ?_
  rw[aU id args h1 h2];exact hv
 refine(vZ hE h5 hv0 ((Fr.nil H).hr hH hgl) rfl).mono λe w' hp => ?_
 obtain⟨o,H0',g',m0',⟨j,v0,rfl,hy,hq⟩,q2,q3,_,q5⟩:=hp
 cases e<;>simp only[aIk]at q2
 rename_i cv
 have hop:m0'.opq=m.opq:=q5.ext.opq
 have hno:∀k,¬ jH (eQ m id ([]:HV).length) [] k:=by
  rintro k ⟨j,I,b,h1,h2,_⟩
  simp at h2
 have hkeep:∀k,k<w.heap.size->w'.heap[k]? = w.heap[k]? := λk hk=>q5.keep k hk (hno k) (by simp)
 have hrow:∀id I,m.blk id=some I->I.b<w.heap.size:=λid I h=>by
  have hd:=hH.dom id I h
  obtain⟨_,q1,_⟩:=(hH.blk id I H[id] h (bW8 hd)).obj
  exact(bXa.1 q1).1
 have hfz:∀t k cs,m0'.frz t k=some cs->m.frz t k=some cs∨w.heap.size<=k:=λt k cs hf=>by
  rcases q5.fz t k cs hf with h | h | h
  ·exact .inl h
  ·exact .inr h
  ·exact absurd h (hno k)
 have hfr:∀t k cs,m.frz t k=some cs->m0'.frz t k=some cs:=λt k cs h=>q5.ext.frz t k cs h
 have hown:∀k,jH m0' H0' k->w.heap.size<=k:=λk hk=>by
  rcases q5.own k hk with h | h
  ·exact h
  ·exact absurd h (hno k)
 have hout:m.blk H.length=none:=by
  cases hm:m.blk H.length with
  | none=>rfl
  | some I=>exact absurd (hH.dom _ I hm) (Nat.lt_irrefl _)
 rcases hq with ⟨ho,hq⟩ | ⟨ho,b,hb,hk,hcs,hyc,hq⟩
 ·obtain⟨m',hm'⟩:∃m':M,m'=⟨m.blk,m.opq,m.lp,m0'.frz⟩:=⟨_,rfl⟩
  have hext:Ext m m':=by subst hm';exact⟨λ_ I h=>⟨I,h,bXe _,λ_=>rfl⟩,rfl,λ_ _ h=>h,hfr⟩
  rw[tF _ v0 ho hy]at q2
  refine⟨_,H,m',hq, ?_,⟨λid I h => ?_,λid I b h h2 => ?_,λi j I J b h1 h2 => ?_,λg cs hg => ?_,hH.gld,λt k cs hf => ?_,λt k cs id I b hf h1 h2 h3 => ?_,λg cs id I b h1 h2 => ?_⟩,
   ⟨⟨hext,q5.os,q5.tape,q5.output,q5.size,λk hk _=>hkeep k hk,λk hk => ?_,λu l h => ?_,λt k cs hf => ?_⟩,bXe _,λid _ h => ?_⟩⟩
  ·have hso:m'.opq=m0'.opq:=by subst hm';exact hop.symm
   have hss:Ext m0'.strip m'.strip:=⟨λ_ _ h=>(by cases h),hso,λ_ _ h=>(by cases h),λt k cs h=>by subst hm';exact h⟩
   exact VR.flat (m:=m0') (m':=m') hso hss _ _ ho hy q2
  ·subst hm';exact hH.dom id I h
  ·subst hm'
   exact(hH.blk id I b h h2).mono hext (hkeep _ (hrow id I h))
  ·subst hm';exact hH.inj i j I J b h1 h2
  ·obtain⟨cu,e,fr,k1,k2⟩:=hH.glb g cs hg
   exact⟨cu,e,fr,(hkeep g (bXa.1 k1).1).trans k1,VRL.mono hext _ _ k2⟩
  ·subst hm';exact q3.frz t k cs hf
  ·subst hm'
   rintro rfl
   rcases hfz t _ cs hf with h | h
   ·exact hH.fow t _ cs id I b h h1 h2 h3 rfl
   ·have:=hrow id I h1;omega
  ·subst hm';exact hH.gow g cs id I b h1 h2
  ·subst hm';exact .inr hk
  ·subst hm';exact h
  ·subst hm'
   rcases hfz t k cs hf with h | h
   ·exact .inl h
   ·exact .inr (.inl h)
  ·subst hm';exact h
 ·obtain⟨m',hm'⟩:∃m':M,m'=⟨λid=>if id=H.length then m0'.blk j else m.blk id,m.opq,m.lp,m0'.frz⟩:=⟨_,rfl⟩
  have hbN:m'.blk H.length=m0'.blk j:=by subst hm';simp
  have hbO:∀id,id≠H.length->m'.blk id=m.blk id:=λid h=>by subst hm';simp[h]
  have hext:Ext m m':=by
   refine⟨λid I h=>⟨I, ?_,bXe _,λ_=>rfl⟩,by subst hm';rfl,λ_ _ h=>by subst hm';exact h,λt k cs h=>by subst hm';exact hfr t k cs h⟩
   rw[hbO id λe=>by rw[e,hout]at h;cases h]
   exact h
  have hso:m'.opq=m0'.opq:=by subst hm';exact hop.symm
  have hss:Ext m0'.strip m'.strip:=⟨λ_ _ h=>(by cases h),hso,λ_ _ h=>(by cases h),λt k cs h=>by subst hm';exact h⟩
  have hgl':∀id,id<H.length->(H++[b])[id]? = H[id]? := λid h=>bXx h
  have hgN:(H++[b])[H.length]? = some b:=by rw[bYa (bXe _),bZ4];rfl
  have hownN:∀I,m0'.blk j=some I->w.heap.size<=I.b:=λI hI=>hown I.b ⟨j,I,b,hI,hb,.inl hk,rfl⟩
  have hcase:∀id I,m'.blk id=some I->(id=H.length∧m0'.blk j=some I)∨(id<H.length∧id≠H.length∧m.blk id=some I):=λid I h=>by
   by_cases e:id=H.length
   ·subst e;exact .inl ⟨rfl,by rw[←hbN];exact h⟩
   ·rw[hbO id e]at h
    exact .inr ⟨hH.dom id I h,e,h⟩
  obtain⟨m1,hm1⟩:∃m1:M,m1=⟨λid=>if id=0 then m0'.blk j else none,m0'.opq,m0'.lp,m0'.frz⟩:=⟨_,rfl⟩
  have hv1:VR m1 v0 cv:=by
   refine VR.small (m:=m0') (m0:=m1) (ρ:=λ_=>j) (n:=1) (λi hi => ?_) (by subst hm1;rfl) (by subst hm1;exact Ext.refl _) v0 cv ho hy q2
   obtain rfl:i=0:=by omega
   subst hm1;simp
  refine⟨_,H++[b],m',hq, ?_,⟨λid I h => ?_,λid I b' h h2 => ?_,λi i' I J b' h1 h2 h3 h4 h5 => ?_,λg cs hg => ?_,hH.gld,λt k cs hf => ?_,λt k cs id I b' hf h1 h2 h3 => ?_,λg cs id I b' h0 h1 h2 h3 => ?_⟩,
   ⟨⟨hext,q5.os,q5.tape,q5.output,q5.size,λk hk _=>hkeep k hk,λk hk => ?_,λu l h => ?_,λt k cs hf => ?_⟩,by simp,λid hid h => ?_⟩⟩
  ·show VR m' (ren (λ_=>H.length) v0) cv
   refine VR.wide (m:=m') (m0:=m1) (λi I hI => ?_) (by rw[hm1];exact hso.symm) (by rw[hm1];exact hss) v0 cv hv1
   rw[hbN]
   subst hm1
   simp only at hI
   split at hI
   ·exact hI
   ·cases hI
  ·rcases hcase id I h with ⟨rfl,_⟩ | ⟨h1,_,_⟩
   ·simp
   ·simp;omega
  ·rcases hcase id I h with ⟨rfl,hI⟩ | ⟨h1,_,hI⟩
   ·rw[hgN]at h2
    cases h2
    obtain⟨cu,e,lo,hi,r1,r2,r3,r4,r5,r6⟩:=(q3.blk j I b hI hb).row (nK hk)
    exact⟨(q3.blk j I b hI hb).tot,(q3.blk j I b hI hb).lf,λ_=>⟨cu,e,lo,hi,r1,r2,r3,r4,r5,VRL.flat hso hss _ _ hcs hyc r6⟩,λc hc=>absurd (jP hc).1 hk⟩
   ·rw[hgl' id h1]at h2
    exact(hH.blk id I b' hI h2).mono hext (hkeep _ (hrow id I hI))
  ·rcases hcase i I h1 with ⟨rfl,hI⟩ | ⟨l1,_,hI⟩
   ·rcases hcase i' J h2 with ⟨rfl,hJ⟩ | ⟨l2,_,hJ⟩
    ·rfl
    ·have a1:=hownN I hI
     have a2:=hrow i' J hJ
     omega
   ·rcases hcase i' J h2 with ⟨rfl,hJ⟩ | ⟨l2,_,hJ⟩
    ·have a1:=hownN J hJ
     have a2:=hrow i I hI
     omega
    ·rw[hgl' i l1]at h3
     exact hH.inj i i' I J b' hI hJ h3 h4 h5
  ·obtain⟨cu,e,fr,k1,k2⟩:=hH.glb g cs hg
   exact⟨cu,e,fr,(hkeep g (bXa.1 k1).1).trans k1,VRL.mono hext _ _ k2⟩
  ·subst hm';exact q3.frz t k cs hf
  ·have hf:m0'.frz t k=some cs:=by subst hm';exact hf
   rcases hcase id I h1 with ⟨rfl,hI⟩ | ⟨l1,_,hI⟩
   ·rw[hgN]at h2
    cases h2
    exact q3.fow t k cs j I b hf hI hb (.inl hk)
   ·rw[hgl' id l1]at h2
    rintro rfl
    rcases hfz t _ cs hf with h | h
    ·exact hH.fow t _ cs id I b' h hI h2 h3 rfl
    ·have:=hrow id I hI;omega
  ·rcases hcase id I h1 with ⟨rfl,hI⟩ | ⟨l1,_,hI⟩
   ·rw[hgN]at h2
    cases h2
    exact q3.gow g cs j I b h0 hI hb (.inl hk)
   ·rw[hgl' id l1]at h2
    exact hH.gow g cs id I b' h0 hI h2 h3
  ·obtain⟨id,I,b',k1,k2,k3,k4⟩:=hk
   rcases hcase id I k1 with ⟨rfl,hI⟩ | ⟨l1,_,hI⟩
   ·subst k4
    exact .inl (hownN I hI)
   ·rw[hgl' id l1]at k2
    exact .inr ⟨id,I,b',hI,k2,k3,k4⟩
  ·subst hm';exact h
  ·have hf:m0'.frz t k=some cs:=by subst hm';exact hf
   rcases hfz t k cs hf with h | h
   ·exact .inl h
   ·exact .inr (.inl h)
  ·rw[hbO id (by omega)];exact h
end Go.Proofs.YtnhechnaemmdiaaGreatDoor
