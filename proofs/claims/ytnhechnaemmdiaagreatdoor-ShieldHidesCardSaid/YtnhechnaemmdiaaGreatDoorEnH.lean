/-
  The engine, part Z: what a reading of plain data says of its cells.
-/
import Derived.Test.YtnhechnaemmdiaaGreatDoorEnG
import Derived.ChangeReads
import Derived.Deep.Slices
set_option linter.unusedSimpArgs false
set_option linter.unusedVariables false
namespace Go.Proofs.YtnhechnaemmdiaaGreatDoor
open Go.RowKit

def flatD {H:Type}:DataW H→List AV
 | .lit (.bool b)=>[.bool b]
 | .lit (.int k n)=>[.int k n]
 | .lit (.string s)=>[.str s]
 | .agg l=>flatDL l
 | _=>[]
where flatDL:List (DataW H)→List AV
 | []=>[]
 | d::l=>flatD d++flatDL l

section
variable (P:Program)
def qD:List Field→Nat→Nat→Bool
 | [],o,n=>o==n
 | f::fs,o,n=>f.offset==o&&qD fs (o+P.cellsOf f.type) n

def zZ:Nat→TypeId→Bool
 | 0,_=>false
 | d+1,t=>match P.underlying t with
  | some .bool=>P.cellsOf t==1
  | some (.int _)=>P.cellsOf t==1
  | some .string=>P.cellsOf t==1
  | some (.struct fs)=>qD P fs.toList 0 (P.cellsOf t)&&fs.toList.all fun f=>zZ d f.type
  | some (.array n e)=>n*P.cellsOf e==P.cellsOf t&&zZ d e
  | _=>false
end

theorem dL {α β:Type} {f:α→Option β} {a:α} {l:List α} {r:List β} (h:(a::l).mapM f=some r):∃b r',f a=some b∧l.mapM f=some r'∧r=b::r':=by
 rw[List.mapM_cons] at h
 cases hx:f a with
 | none=>simp[hx] at h
 | some y=>
  cases hxs:l.mapM f with
  | none=>simp[hx,hxs] at h
  | some ys=>
   simp[hx,hxs] at h
   exact ⟨y,ys,rfl,rfl,h.symm⟩

section
variable {P:Program} {H:Type} {enc:TypeId×Value→H} {w:World} {base:Nat} {spare:Nat→Bool} {held:Bool}

theorem rJ (m:M) {r:TypeId→List Value→Option (DataW H×List MemPlace)} {cs:List Value} {n:Nat} (hn:cs.length=n):∀ (fs:List Field) (o:Nat) (xs:List (DataW H×List MemPlace)),
  (∀f∈fs,∀cs x,r f.type cs=some x→VRL m (flatD x.1) cs∧cs.length=P.cellsOf f.type)→qD P fs o n=true→o≤n →
  (fs.mapM fun f=>r f.type ((cs.drop f.offset).take (P.cellsOf f.type)))=some xs→VRL m (flatD.flatDL (xs.map (·.1))) (cs.drop o)
 | [],o,xs,_,ht,_,h=>by
  simp at h
  subst h
  simp only[qD,beq_iff_eq] at ht
  rw[List.drop_of_length_le (by omega)]
  simp[flatD.flatDL]
 | f::fs,o,xs,hr,ht,ho,h=>by
  obtain ⟨x,xs',h1,h2,rfl⟩:=dL h
  simp only[qD,Bool.and_eq_true,beq_iff_eq] at ht
  obtain ⟨rfl,ht⟩:=ht
  obtain ⟨q1,q2⟩:=hr f (by simp) _ _ h1
  have hlt:f.offset+P.cellsOf f.type≤n:=by
   simp at q2
   omega
  have ih:=rJ m hn fs (f.offset+P.cellsOf f.type) xs' (fun g hg=>hr g (by simp[hg])) ht hlt h2
  simp only[List.map_cons,flatD.flatDL]
  have e:cs.drop f.offset=(cs.drop f.offset).take (P.cellsOf f.type)++cs.drop (f.offset+P.cellsOf f.type):=by
   rw[←List.drop_drop,List.take_append_drop]
  rw[e]
  exact q1.append ih

theorem wB (m:M) {r:List Value→Option (DataW H×List MemPlace)} {cs:List Value} {z:Nat} (hr:∀cs x,r cs=some x→VRL m (flatD x.1) cs∧cs.length=z):∀ (n i:Nat) (xs:List (DataW H×List MemPlace)),
  cs.length=(i+n)*z→((List.range' i n).mapM fun i=>r ((cs.drop (i*z)).take z))=some xs→VRL m (flatD.flatDL (xs.map (·.1))) (cs.drop (i*z))
 | 0,i,xs,hl,h=>by
  simp at h
  subst h
  rw[List.drop_of_length_le (by rw[hl,Nat.add_zero];exact Nat.le_refl _)]
  simp[flatD.flatDL]
 | n+1,i,xs,hl,h=>by
  rw[List.range'_succ] at h
  obtain ⟨x,xs',h1,h2,rfl⟩:=dL h
  obtain ⟨q1,q2⟩:=hr _ _ h1
  have ih:=wB m hr n (i+1) xs' (by rw[hl];congr 1;omega) h2
  simp only[List.map_cons,flatD.flatDL]
  have e:cs.drop (i*z)=(cs.drop (i*z)).take z++cs.drop ((i+1)*z):=by
   rw[Nat.add_mul,Nat.one_mul,←List.drop_drop,List.take_append_drop]
  rw[e]
  exact q1.append ih

theorem xO (m:M):∀ (d:Nat) (t:TypeId) (fuel:Nat) (cs:List Value) (x:DataW H×List MemPlace),zZ P d t=true→DataW.trod enc P w base spare held fuel t cs=some x→VRL m (flatD x.1) cs∧cs.length=P.cellsOf t
 | 0,t,_,_,_,ht,_=>by simp[zZ] at ht
 | d+1,t,0,cs,x,_,h=>by simp[DataW.trod] at h
 | d+1,t,fuel+1,cs,x,ht,h=>by
  rw[DataW.trod_step] at h
  simp only[zZ] at ht
  unfold DataW.trodStep at h
  split at ht
  ·rename_i hu
   simp only[beq_iff_eq] at ht
   rw[hu] at h
   simp only at h
   split at h<;>simp at *
   all_goals first
    | (rename_i hh;cases hh;cases h;simp[flatD,VR,ht])
    | skip
  ·rename_i k hu
   simp only[beq_iff_eq] at ht
   rw[hu] at h
   simp only at h
   split at h<;>simp at *
   all_goals first
    | (rename_i hh;cases hh;obtain ⟨⟨rfl,_⟩,rfl⟩:=h;simp[flatD,VR,ht])
    | skip
  ·rename_i hu
   simp only[beq_iff_eq] at ht
   rw[hu] at h
   simp only at h
   split at h<;>simp at *
   all_goals first
    | (rename_i hh;cases hh;obtain ⟨_,rfl⟩:=h;simp[flatD,VR,ht])
    | skip
  ·rename_i fs hu
   simp only[Bool.and_eq_true,List.all_eq_true] at ht
   rw[hu] at h
   simp only at h
   split at h
   ·rename_i hl
    cases hm:(fs.toList.mapM fun f=>DataW.trod enc P w base spare held fuel f.type ((cs.drop f.offset).take (P.cellsOf f.type))) with
    | none=>rw[hm] at h;simp at h
    | some xs=>
     rw[hm] at h
     simp only[Option.map_some,Option.some.injEq] at h
     subst h
     have:=rJ (P:=P) m hl fs.toList 0 xs (fun f hf cs x hx=>xO m d f.type fuel cs x (ht.2 f hf) hx) ht.1 (Nat.zero_le _) hm
     exact ⟨by simpa [flatD] using this,hl⟩
   ·cases h
  ·rename_i n e hu
   simp only[Bool.and_eq_true,beq_iff_eq] at ht
   rw[hu] at h
   simp only at h
   split at h
   ·rename_i hl
    cases hm:((List.range n).mapM fun i=>DataW.trod enc P w base spare held fuel e ((cs.drop (i*P.cellsOf e)).take (P.cellsOf e))) with
    | none=>rw[hm] at h;simp at h
    | some xs=>
     rw[hm] at h
     simp only[Option.map_some,Option.some.injEq] at h
     subst h
     rw[List.range_eq_range'] at hm
     have:=wB m (fun cs x hx=>xO m d e fuel cs x ht.2 hx) n 0 xs (by rw[hl,←ht.1];simp) hm
     exact ⟨by simpa [flatD] using this,hl⟩
   ·cases h
  ·cases ht
end

mutual
theorem qP (ρ:Nat→Nat):∀a,old 0 a=true→noY a=true→ren ρ a=a
 | .undef,_,_=>rfl
 | .opq _,_,_=>rfl
 | .bool _,_,_=>rfl
 | .int _ _,_,_=>rfl
 | .str _,_,_=>rfl
 | .nilp,_,_=>rfl
 | .ptr _ _ _,h,_=>by simp[old] at h
 | .gptr _ _,_,_=>rfl
 | .nils,_,_=>rfl
 | .sl _ _ _ _ _,h,_=>by simp[old] at h
 | .nilf,_,_=>rfl
 | .fn _ x y,h,k=>by
  simp only[old,noY,Bool.and_eq_true] at h k
  simp only[ren,bL ρ x h.1 k.1,bL ρ y h.2 k.2]
 | .yld _,_,k=>by simp[noY] at k
 | .nili,_,_=>rfl
 | .iface _ v,h,k=>by simp only[old,noY] at h k;simp only[ren,qP ρ v h k]
 | .agg l,h,k=>by simp only[old,noY] at h k;simp only[ren,bL ρ l h k]
 | .tup l,h,k=>by simp only[old,noY] at h k;simp only[ren,bL ρ l h k]
 | .lst _ _ _ _,_,_=>rfl
 | .lptr _ _ _,_,_=>rfl
 | .mpn,_,_=>rfl
 | .mp _,h,_=>by simp[old] at h
theorem bL (ρ:Nat→Nat):∀l,aR 0 l=true→bS l=true→nO ρ l=l
 | [],_,_=>rfl
 | v::l,h,k=>by
  simp only[aR,bS,Bool.and_eq_true] at h k
  simp only[nO,qP ρ v h.1 k.1,bL ρ l h.2 k.2]
end

theorem Fr.nil (H:List Blk):Fr id [] H:=⟨fun j b0 h=>by simp at h,fun j j' b0 h=>by simp at h,fun j b0 h=>by simp at h⟩
theorem FrEnd.nil (H:List Blk):FrEnd id [] [] H H:=⟨by simp,fun j b0 h=>by simp at h,fun j b0 h=>by simp at h,fun j b0 _ h=>by simp at h,by simp,fun _ _ _=>rfl,fun j b h=>by simp at h⟩

theorem aT {P:Program} {gl:Nat→Option (List AV)} {f:FuncId} {c:List AV→List Blk→(Out→List Blk→Prop)→Prop} (he:Enters P f) (hgl:∀g cs,gl g=some cs→bS cs=true)
  (h:∀args H Q,c args H Q→aR 0 args=true∧bS args=true∧∃ (E:Env) (n:Nat),EnvFor P E∧E.gl=gl∧bC E (wpx E n) f args [] {} fun o H' _=>H'=[]∧(∃v,o=.ret v∧old 0 v=true∧noY v=true)∧Q o H):aG P gl f c:=by
 refine jS he hgl fun args H Q hc => ?_
 obtain ⟨h1,h2,E,n,h3,h4,h5⟩:=h args H Q hc
 refine ⟨E,n,id,args,[],_,h3,h4,(bL id args h1 h2).symm,h1,h2,Fr.nil H,h5, ?_⟩
 rintro o H0' g' ⟨rfl,⟨v,rfl,q1,q2⟩,q3⟩
 refine ⟨H,FrEnd.nil H, ?_⟩
 simp only[bHs,qP _ v q1 q2]
 exact q3

def bG1 (o:Out) (H:List Blk) (_:Gh):Prop:=match H,o with
 | [],.ret (.bool true)=>True
 | _,_=>False

def aMz:List AV→List Blk→(Out→List Blk→Prop)→Prop
 | [],H,K=>K (.ret (.bool true)) H
 | _,_,_=>False

theorem bGg {o:Out} {H:List Blk} {g:Gh} (h:bG1 o H g):H=[]∧o=.ret (.bool true):=by
 unfold bG1 at h
 split at h
 ·exact ⟨rfl,rfl⟩
 ·cases h

theorem aH0 {P:Program} {gl:Nat→Option (List AV)} {f:FuncId} (he:Enters P f) (hgl:∀g cs,gl g=some cs→bS cs=true) {E:Env} {n:Nat} (hE:EnvFor P E) (hg:E.gl=gl) (h:bC E (wpx E n) f [] [] {} bG1=True):aG P gl f aMz:=by
 refine jS he hgl fun args H Q hc => ?_
 unfold aMz at hc
 split at hc
 ·refine ⟨E,n,id,[],[],_,hE,hg,rfl,rfl,rfl,Fr.nil _,of_eq_true h, ?_⟩
  intro o H0' g' hq
  obtain ⟨rfl,rfl⟩:=bGg (g:=g') hq
  exact ⟨_,FrEnd.nil _,hc⟩
 ·exact hc.elim

def aNq (P:Program) (f:FuncId):Bool:=match P.funcs[f]? with
 | some fn => !fn.body.isNone && !(fn.name == "runtime.NumGoroutine")
 | none=>false
theorem enters_of {P:Program} {f:FuncId} (h:aNq P f=true):Enters P f:=by
 unfold aNq at h
 split at h
 ·rename_i fn hf
  simp only[Bool.and_eq_true,Bool.not_eq_true'] at h
  exact ⟨fn,hf,h.1,h.2⟩
 ·cases h
abbrev aN {α:Type} (x:α):Prop:=x=x
abbrev exI (k:IntKind) (x:Int) (K:Int→Prop):Prop:=∃n,AV.int k x=AV.int k n∧K n
abbrev exW (k:IntKind) (x:Int) (K:Int→Prop):Prop:=∃n,AV.int k (IntKind.wrap k x)=AV.int k n∧K n
abbrev exV (k:IntKind) (v:AV) (K:Int→Prop):Prop:=∃n,v=AV.int k n∧K n
abbrev exS (v:AV) (K:List UInt8→Prop):Prop:=∃s,v=AV.str s∧K s
abbrev exB (v:AV) (K:Bool→Prop):Prop:=∃b,v=AV.bool b∧K b
abbrev ckQ (c:Bool) (A:Prop):Prop:=bif c then A else False
end Go.Proofs.YtnhechnaemmdiaaGreatDoor

namespace Go.Proofs.YtnhechnaemmdiaaGreatDoor
open Go.RowKit

def aDf (W:World):M:=⟨fun _=>none,fun _=>undef,fun _=>none,fun _ b=>match W.heap[b]? with
 | some (.cells cu _ _)=>some cu.toList
 | _=>none⟩

theorem aSg {W:World} {b:Nat} {cu:Array Value} {e:TypeId} {fr:Nat×Nat} (h:W.heap[b]? = some (.cells cu e fr)) (t:Nat):(aDf W).frz t b=some cu.toList:=by
 simp only[aDf,h]

theorem HR.all {gl:Nat→Option (List AV)} {W:World} (h:bMa gl W):HR gl (aDf W) [] W:=by
 refine ⟨fun id I h=>(by cases h),fun id I b h=>(by cases h),fun i j I J b h=>(by cases h),fun g cs hg => ?_,fun g cs hg=>(h g cs hg).1,fun t k cs hf => ?_,fun t k cs id I b _ h=>(by cases h),fun g cs id I b _ h=>(by cases h)⟩
 ·obtain ⟨_,cu,e,fr,h1,h2⟩:=h g cs hg
  exact ⟨cu,e,fr,h1,VRL.mono (m:=m00) (m':=aDf W) ⟨fun _ _ h=>(by simp[m00] at h),rfl,fun _ _ h=>(by simp[m00] at h),fun _ _ _ h=>(by simp[m00] at h)⟩ _ _ h2⟩
 ·simp only[aDf] at hf
  split at hf
  ·rename_i cu e fr hh
   cases hf
   exact ⟨cu,e,fr,hh,by rw[Array.length_toList];exact List.take_of_length_le (by simp)⟩
  ·cases hf

section
variable (P:Program)

def aDx (p:TypeId→List AV→Prop):List Field→List AV→Prop
 | [],l=>l=[]
 | f::fs,l=>∃x y,p f.type x∧aDx p fs y∧l=x++y

def shP:Nat→TypeId→List AV→Prop
 | 0,_,_=>False
 | d+1,t,l=>match P.underlying t with
  | some .bool=>∃b,l=[.bool b]
  | some (.int k)=>∃n,l=[.int k n]∧(Lit.int k n).wf=true
  | some .string=>∃s:List UInt8,l=[.str s]∧s.length≤maxLen
  | some (.struct fs)=>aDx (shP d) fs.toList l
  | some (.array n e)=>∃ls:List (List AV),ls.length=n∧(∀x∈ls,shP d e x)∧l=ls.flatten
  | some (.slice e)=>∃ls:List (List AV),(∀x∈ls,shP d e x∧x.length=P.cellsOf e)∧ls.length≤maxLen∧l=[.lst 0 ls.flatten ls.length (P.cellsOf e)]
  | _=>False

def uY:Nat→TypeId→Bool
 | 0,_=>false
 | d+1,t=>match P.underlying t with
  | some .bool=>P.cellsOf t==1
  | some (.int _)=>P.cellsOf t==1
  | some .string=>P.cellsOf t==1
  | some (.struct fs)=>qD P fs.toList 0 (P.cellsOf t)&&fs.toList.all fun f=>uY d f.type
  | some (.array n e)=>n*P.cellsOf e==P.cellsOf t&&uY d e
  | some (.slice e)=>P.cellsOf t==1&&Nat.blt 0 (P.cellsOf e)&&uY d e
  | _=>false
end

section
variable {P:Program} {H:Type} {enc:TypeId×Value→H} {W:World} {base:Nat} {spare:Nat→Bool} {held:Bool}

theorem rY {m:M} {d:Nat} {r:TypeId→List Value→Option (DataW H×List MemPlace)} {cs:List Value} {n:Nat} (hn:cs.length=n):∀ (fs:List Field) (o:Nat) (xs:List (DataW H×List MemPlace)),
  (∀f∈fs,∀cs x,r f.type cs=some x→cs.length=P.cellsOf f.type∧∃l,VRL m l cs∧shP P d f.type l)→qD P fs o n=true→o≤n →
  (fs.mapM fun f=>r f.type ((cs.drop f.offset).take (P.cellsOf f.type)))=some xs→∃l,VRL m l (cs.drop o)∧aDx (shP P d) fs l
 | [],o,xs,_,ht,_,h=>by
  simp only[qD,beq_iff_eq] at ht
  exact ⟨[],by rw[List.drop_of_length_le (by omega)];simp,rfl⟩
 | f::fs,o,xs,hr,ht,ho,h=>by
  obtain ⟨x,xs',h1,h2,rfl⟩:=dL h
  simp only[qD,Bool.and_eq_true,beq_iff_eq] at ht
  obtain ⟨rfl,ht⟩:=ht
  obtain ⟨q2,l,q1,q3⟩:=hr f (by simp) _ _ h1
  have hlt:f.offset+P.cellsOf f.type≤n:=by
   simp at q2
   omega
  obtain ⟨l',i1,i2⟩:=rY hn fs (f.offset+P.cellsOf f.type) xs' (fun g hg=>hr g (by simp[hg])) ht hlt h2
  refine ⟨l++l', ?_,l,l',q3,i2,rfl⟩
  have e:cs.drop f.offset=(cs.drop f.offset).take (P.cellsOf f.type)++cs.drop (f.offset+P.cellsOf f.type):=by
   rw[←List.drop_drop,List.take_append_drop]
  rw[e]
  exact q1.append i1

theorem vW {m:M} {p:List AV→Prop} {r:List Value→Option (DataW H×List MemPlace)} {cs:List Value} {z:Nat} (hr:∀cs x,r cs=some x→cs.length=z∧∃l,VRL m l cs∧p l):∀ (n i:Nat) (xs:List (DataW H×List MemPlace)),
  cs.length=(i+n)*z→((List.range' i n).mapM fun i=>r ((cs.drop (i*z)).take z))=some xs→∃ls:List (List AV),ls.length=n∧(∀x∈ls,p x)∧VRL m ls.flatten (cs.drop (i*z))
 | 0,i,xs,hl,h=>⟨[],rfl,by simp,by rw[List.drop_of_length_le (by rw[hl,Nat.add_zero];exact Nat.le_refl _)];simp⟩
 | n+1,i,xs,hl,h=>by
  rw[List.range'_succ] at h
  obtain ⟨x,xs',h1,h2,rfl⟩:=dL h
  obtain ⟨q2,l,q1,q3⟩:=hr _ _ h1
  obtain ⟨ls,i1,i2,i3⟩:=vW hr n (i+1) xs' (by rw[hl];congr 1;omega) h2
  refine ⟨l::ls,by simp[i1], ?_, ?_⟩
  ·intro y hy
   rcases List.mem_cons.1 hy with rfl | hy
   ·exact q3
   ·exact i2 y hy
  ·have e:cs.drop (i*z)=(cs.drop (i*z)).take z++cs.drop ((i+1)*z):=by
    rw[Nat.add_mul,Nat.one_mul,←List.drop_drop,List.take_append_drop]
   rw[e,List.flatten_cons]
   exact q1.append i3

theorem aGr {w:World} {a:Addr} {i:Nat} {v:Value} (h:w.cell? (a.add i)=some v):(i=0→a.spot=none)∧∃cu e fr,w.heap[a.block]? = some (.cells cu e fr)∧cu[a.off+i]? = some v:=by
 have hb:(a.add i).block=a.block:=by unfold Addr.add;split<;>rfl
 have ho:(a.add i).off=a.off+i:=by unfold Addr.add;split<;>simp_all
 unfold World.cell? at h
 rw[hb,ho] at h
 split at h
 ·rename_i cu e fr hh
  split at h
  ·cases h
  ·rename_i hs
   refine ⟨fun hi => ?_,cu,e,fr,hh,h⟩
   subst hi
   unfold Addr.add at hs
   simpa using hs
 ·cases h

theorem aM1 {w:World} {a:Addr} {n:Nat} {cs:List Value} (h:w.cells? base a n=some cs) (hn:0<n) :
  a.spot=none∧∃cu e fr,w.heap[a.block]? = some (.cells cu e fr)∧cs=(cu.toList.drop a.off).take n∧a.off+n≤cu.size:=by
 obtain ⟨hb,hlen,hget⟩:=World.cells?_some h
 have hsome:∀i,(hi:i<n)→w.cell? (a.add i)=some (cs[i]'(by omega)):=fun i hi=>by
  rw[hget i hi];exact List.getElem?_eq_getElem (by omega)
 obtain ⟨hs,cu,e,fr,hh,_⟩:=aGr (hsome 0 hn)
 have hcu:∀i,i<n→cu[a.off+i]? = cs[i]? := fun i hi=>by
  obtain ⟨_,cu',e',fr',hh',h2⟩:=aGr (hsome i hi)
  rw[hh] at hh'
  cases hh'
  rw[h2,List.getElem?_eq_getElem (by omega)]
 refine ⟨hs rfl,cu,e,fr,hh, ?_, ?_⟩
 ·apply List.ext_getElem?
  intro i
  by_cases hi:i<n
  ·rw[List.getElem?_take,if_pos hi,List.getElem?_drop,←hcu i hi];simp
  ·rw[List.getElem?_eq_none (by omega),List.getElem?_take,if_neg hi]
 ·have:=hcu (n-1) (by omega)
  rw[List.getElem?_eq_getElem (by omega)] at this
  have:=(Array.getElem?_eq_some_iff.1 this).1
  omega

theorem wK {p:List AV→Prop} {r:List Value→Option (DataW H×List MemPlace)} {a:Addr} {z:Nat} (hz:0<z) (hr:∀cs x,r cs=some x→cs.length=z∧∃l,VRL (aDf W) l cs∧p l) (len:Nat) (hel:∀i,i<len→∃cs x,W.cells? base (a.add (i*z)) z=some cs∧r cs=some x) :
  ∀n,n≤len→∃ls:List (List AV),ls.length=n∧(∀x∈ls,p x∧x.length=z)∧(n=0∨(a.spot=none∧∃cu e fr,W.heap[a.block]? = some (.cells cu e fr)∧a.off+n*z≤cu.size∧VRL (aDf W) ls.flatten ((cu.toList.drop a.off).take (n*z))))
 | 0,_=>⟨[],rfl,by simp,.inl rfl⟩
 | n+1,hn=>by
  obtain ⟨ls,h1,h2,h3⟩:=wK hz hr len hel n (by omega)
  obtain ⟨cs,x,c1,c2⟩:=hel n (by omega)
  obtain ⟨q2,l,q1,q3⟩:=hr cs x c2
  obtain ⟨hs,cu,e,fr,k1,k2,k3⟩:=aM1 c1 hz
  have hb:(a.add (n*z)).block=a.block:=by unfold Addr.add;split<;>rfl
  have ho:(a.add (n*z)).off=a.off+n*z:=by unfold Addr.add;split<;>simp_all
  rw[hb] at k1
  rw[ho] at k2 k3
  have hsp:a.spot=none:=by
   rcases h3 with rfl | ⟨h3,_⟩
   ·unfold Addr.add at hs
    simpa using hs
   ·exact h3
  have hll:l.length=z:=by rw[q1.len,q2]
  refine ⟨ls++[l],by simp[h1], ?_,.inr ⟨hsp,cu,e,fr,k1,by rw[Nat.add_mul];omega, ?_⟩⟩
  ·intro y hy
   rcases List.mem_append.1 hy with hy | hy
   ·exact h2 y hy
   ·obtain rfl:=List.mem_singleton.1 hy
    exact ⟨q3,hll⟩
  ·rw[List.flatten_append,List.flatten_singleton,Nat.add_mul,Nat.one_mul,List.take_add,List.drop_drop]
   refine VRL.append ?_ (by rw[←k2];exact q1)
   rcases h3 with rfl | ⟨_,cu',e',fr',j1,j2,j3⟩
   ·have:ls=[]:=List.eq_nil_of_length_eq_zero h1
    subst this
    simp
   ·rw[k1] at j1
    cases j1
    exact j3

theorem sG:∀ (d:Nat) (t:TypeId) (fuel:Nat) (cs:List Value) (x:DataW H×List MemPlace),uY P d t=true→DataW.trod enc P W base spare held fuel t cs=some x→cs.length=P.cellsOf t∧∃l,VRL (aDf W) l cs∧shP P d t l
 | 0,t,_,_,_,ht,_=>by simp[uY] at ht
 | d+1,t,0,cs,x,_,h=>by simp[DataW.trod] at h
 | d+1,t,fuel+1,cs,x,ht,h=>by
  have h0:=h
  rw[DataW.trod_step] at h
  simp only[uY] at ht
  simp only[shP]
  unfold DataW.trodStep at h
  split at ht
  ·rename_i hu
   simp only[beq_iff_eq] at ht
   rw[hu] at h
   simp only at h
   split at h<;>simp at *
   all_goals first
    | (subst h;exact ⟨ht.symm,[.bool _],by simp[VR];rfl,by rename_i b _;cases b<;>simp⟩)
    | (rename_i b _;subst h;exact ⟨ht.symm,[.bool b],by simp[VR],by cases b<;>simp⟩)
    | (rename_i b _ _ _;subst h;exact ⟨ht.symm,[.bool b],by simp[VR],by cases b<;>simp⟩)
    | (rename_i b _ _;subst h;exact ⟨ht.symm,[.bool b],by simp[VR],by cases b<;>simp⟩)
    | skip
  ·rename_i k hu
   simp only[beq_iff_eq] at ht
   rw[hu] at h
   simp only at h
   split at h<;>simp at *
   all_goals first
    | (rename_i hh;cases hh;obtain ⟨⟨rfl,hw⟩,rfl⟩:=h;exact ⟨by simp[ht],[.int _ _],by simp[VR],_,rfl,hw⟩)
    | skip
  ·rename_i hu
   simp only[beq_iff_eq] at ht
   rw[hu] at h
   simp only at h
   split at h<;>simp at *
   all_goals first
    | (rename_i s hh;cases hh;obtain ⟨hw,rfl⟩:=h;exact ⟨by simp[ht],[.str s.data.toList],by simp[VR],_,rfl,by simpa using hw⟩)
    | skip
  ·rename_i fs hu
   simp only[Bool.and_eq_true,List.all_eq_true] at ht
   rw[hu] at h
   simp only at h
   split at h
   ·rename_i hl
    cases hm:(fs.toList.mapM fun f=>DataW.trod enc P W base spare held fuel f.type ((cs.drop f.offset).take (P.cellsOf f.type))) with
    | none=>rw[hm] at h;simp at h
    | some xs=>
     refine ⟨hl, ?_⟩
     have:=rY (P:=P) (m:=aDf W) (d:=d) hl fs.toList 0 xs (fun f hf cs x hx=>sG d f.type fuel cs x (ht.2 f hf) hx) ht.1 (Nat.zero_le _) hm
     simpa using this
   ·cases h
  ·rename_i n e hu
   simp only[Bool.and_eq_true,beq_iff_eq] at ht
   rw[hu] at h
   simp only at h
   split at h
   ·rename_i hl
    cases hm:((List.range n).mapM fun i=>DataW.trod enc P W base spare held fuel e ((cs.drop (i*P.cellsOf e)).take (P.cellsOf e))) with
    | none=>rw[hm] at h;simp at h
    | some xs=>
     refine ⟨hl, ?_⟩
     rw[List.range_eq_range'] at hm
     obtain ⟨ls,i1,i2,i3⟩:=vW (m:=aDf W) (p:=shP P d e) (fun cs x hx=>sG d e fuel cs x ht.2 hx) n 0 xs (by rw[hl,←ht.1];simp) hm
     exact ⟨ls.flatten,by simpa using i3,ls,i1,i2,rfl⟩
   ·cases h
  ·rename_i e hu
   simp only[Bool.and_eq_true,beq_iff_eq,aB] at ht
   rcases Go.Deep.open_slice hu h0 with ⟨rfl,_⟩ | ⟨a,len,cap,mm,n,D,Pl,rfl,hb,hl,hcap,hmm,_,hel⟩
   ·exact ⟨by simp[ht.1.1],[.lst 0 [] 0 (P.cellsOf e)],by rw[bE];refine ⟨?_,by simp⟩;simp only[VR];exact ⟨rfl,by simp,none,0,rfl,Nat.le_refl _,.inr ⟨by simp,by simp⟩⟩,[],by simp,by simp,rfl⟩
   ·refine ⟨by simp[ht.1.1], ?_⟩
    have hlm:len≤mm:=by rw[hmm];split<;>omega
    obtain ⟨ls,i1,i2,i3⟩:=wK (W:=W) (a:=a) (p:=shP P d e) ht.1.2 (fun cs x hx=>sG d e n cs x ht.2 hx) len (fun i hi=>by
     obtain ⟨cs',c1,c2⟩:=hel i (by omega)
     exact ⟨cs',_,c1,c2⟩) len (Nat.le_refl _)
    refine ⟨[.lst 0 ls.flatten ls.length (P.cellsOf e)], ?_,ls,i2,by omega,rfl⟩
    have hfl:ls.flatten.length=len*P.cellsOf e:=by
     rw[List.length_flatten,List.map_congr_left (g:=fun _=>P.cellsOf e) (fun x hx=>(i2 x hx).2),List.map_const',List.sum_replicate_nat,i1]
    simp only[bE,VR,gI,and_true]
    refine ⟨rfl,by rw[hfl,i1],some a,cap,by rw[i1],by omega, ?_⟩
    rcases i3 with h3 | ⟨h3,cu,e',fr,j1,j2,j3⟩
    ·right
     have:ls=[]:=List.eq_nil_of_length_eq_zero (by omega)
     subst this
     exact ⟨rfl,rfl,fun h=>by cases h⟩
    ·left
     refine ⟨a,cu.toList,rfl,h3,aSg j1 0,by rw[hfl];simpa using j2, ?_⟩
     rw[hfl]
     exact j3
  ·cases ht
end
end Go.Proofs.YtnhechnaemmdiaaGreatDoor

namespace Go.Proofs.YtnhechnaemmdiaaGreatDoor
open Go.RowKit

def dG (τ:Nat) (H:List Blk):Nat→AV→AV
 | 0,_=>.undef
 | d+1,a=>match a with
  | .sl id tot off len sz=>match H[id]? with
   | some b=>bif Nat.beq b.cs.length tot&&Nat.ble (off+len*sz) tot&&b.k !=.ro then .lst τ (((b.cs.drop off).take (len*sz)).map fun x=>dG τ H d x) len sz else .undef
   | none=>.undef
  | .ptr _ _ _=>.undef
  | .mp _=>.undef
  | .yld _=>.undef
  | .fn _ _ _=>.undef
  | .iface t v=>.iface t (dG τ H d v)
  | .agg l=>.agg (l.map fun x=>dG τ H d x)
  | .tup l=>.tup (l.map fun x=>dG τ H d x)
  | v=>v
def aXi (τ:Nat) (H:List Blk) (d:Nat) (l:List AV):List AV:=l.map (dG τ H d)

section
variable {P:Program} {gl:Nat→Option (List AV)} {m:M} {H:List Blk} {w:World}

open Classical in
noncomputable def qN (τ:Nat) (m:M) (H:List Blk) (w:World):M:=
 ⟨fun _=>none,m.opq,m.lp,fun t b=>match m.frz t b with
  | some c=>some c
  | none=>if t=τ∧jB m H b then (match w.heap[b]? with | some (.cells cu _ _)=>some cu.toList | _=>none) else none⟩

theorem rH (τ:Nat) (m:M) (H:List Blk) (w:World):Ext m.strip (qN τ m H w).strip:=
 ⟨fun _ _ h=>(by cases h),rfl,fun _ _ h=>(by cases h),fun t b cs h=>by
  show (qN τ m H w).frz t b=some cs
  have h':m.frz t b=some cs:=h
  simp only[qN,h']⟩

theorem aDo (τ:Nat) (hH:HR gl m H w) (hgl:∀g cs,gl g=some cs→bS cs=true):HR gl (qN τ m H w) [] w:=by
 refine ⟨fun id I h=>(by cases h),fun id I b h=>(by cases h),fun i j I J b h=>(by cases h),fun g cs hg => ?_,hH.gld,fun t k cs hf => ?_,fun t k cs id I b _ h=>(by cases h),fun g cs id I b _ h=>(by cases h)⟩
 ·obtain ⟨cu,e,fr,h1,h2⟩:=hH.glb g cs hg
  exact ⟨cu,e,fr,h1,VRL.flat (m:=m) (m':=qN τ m H w) rfl (rH τ m H w) _ _ (hH.gld g cs hg) (hgl g cs hg) h2⟩
 ·simp only[qN] at hf
  split at hf
  ·rename_i c hc
   cases hf
   exact hH.frz t k _ hc
  ·split at hf
   ·split at hf
    ·rename_i cu e fr hh
     cases hf
     exact ⟨cu,e,fr,hh,by rw[Array.length_toList];exact List.take_of_length_le (by simp)⟩
    ·cases hf
   ·cases hf

theorem uN (τ:Nat) (d:Nat) {m1 m2:M} (h:∀ (a:AV) (v:Value),VR m1 a v→VR m2 (dG τ H d a) v):∀ (l:List AV) (vs:List Value),VRL m1 l vs→VRL m2 (l.map fun x=>dG τ H d x) vs
 | [],vs,k=>by simpa using k
 | a::l,vs,k=>by
  obtain ⟨v,vs',rfl,h1,h2⟩:=bD k
  rw[List.map_cons,bE]
  exact ⟨h a v h1,uN τ d h l vs' h2⟩
theorem mW (τ:Nat) (hH:HR gl m H w):∀ (d:Nat) (a:AV) (v:Value),VR m a v→VR (qN τ m H w).strip (dG τ H d a) v
 | 0,a,v,_=>by simp[dG,VR]
 | d+1,a,v,h=>by
  have hs:=rH τ m H w
  cases a with
  | sl id tot off len sz=>
   simp only[dG]
   cases hb:H[id]? with
   | none=>simp[VR]
   | some b=>
    simp only
    cases hc:(Nat.beq b.cs.length tot&&Nat.ble (off+len*sz) tot&&b.k !=.ro)
    ·simp[VR]
    ·simp only[cond_true]
     simp only[Bool.and_eq_true,aP,Nat.ble_eq,bne_iff_ne,ne_eq] at hc
     obtain ⟨⟨h1,h2⟩,h3⟩:=hc
     have hcur:cur H id tot=true:=by simp[cur,hb,h1,mO h3]
     obtain ⟨I,o2,cap,hI,hIt,hv,hcap,hpos⟩:=hH.sl h hcur
     have hB:=hH.blk id I b hI hb
     obtain ⟨cu,e,lo,hi,q1,q2,q3,q4,q5,q6⟩:=hB.row (mO h3)
     obtain ⟨hd,hm⟩:=q5 h3
     have hlen:(((b.cs.drop off).take (len*sz)).map fun x=>dG τ H d x).length=len*sz:=by
      simp;omega
     simp only[VR]
     refine ⟨by rw[hv];rfl,hlen,some ⟨I.b,o2,none⟩,cap,hv,hcap, ?_⟩
     rcases hpos with ⟨rfl,hpos⟩ | ⟨rfl,_⟩
     ·left
      have hfz:(qN τ m H w).frz τ I.b=some cu.toList:=by
       have hnf:m.frz τ I.b=none:=by
        cases hf:m.frz τ I.b with
        | none=>rfl
        | some c=>exact absurd rfl (hH.fow τ I.b c id I b hf hI hb (.inl h3))
       have hown:jB m H I.b:=⟨id,I,b,hI,hb,.inl h3,rfl⟩
       simp only[qN,hnf,q1];rw[if_pos ⟨rfl,hown⟩]
      refine ⟨_,cu.toList,rfl,rfl,hfz, ?_, ?_⟩
      ·rw[hlen,hd]
       have:=hB.tot
       simp;omega
      ·rw[hlen]
       have ht:=hB.tot
       rw[hd,List.drop_zero] at q6
       have e1:(cu.toList.drop (I.d+off)).take (len*sz)=((cu.toList.take I.tot).drop off).take (len*sz):=by
        rw[hd,Nat.zero_add,List.drop_take,List.take_take,Nat.min_eq_left (by omega)]
       show VRL (qN τ m H w).strip.strip _ _
       rw[e1]
       exact uN τ d (mW τ hH d) _ _ ((q6.drop off).take (len*sz))
     ·right
      refine ⟨rfl,List.eq_nil_of_length_eq_zero (by rw[hlen];simp),fun h=>by cases h⟩
  | ptr id tot off=>simp[dG,VR]
  | mp id=>simp[dG,VR]
  | mpn=>simpa only [dG,VR] using h
  | yld u=>simp[dG,VR]
  | fn f x y=>simp[dG,VR]
  | iface t x=>
   simp only[dG,VR] at h ⊢
   obtain ⟨x',h1,h2⟩:=h
   exact ⟨x',h1,mW τ hH d x x' h2⟩
  | agg l=>
   simp only[dG,VR] at h ⊢
   obtain ⟨x',h1,h2⟩:=h
   exact ⟨x',h1,uN τ d (mW τ hH d) l _ h2⟩
  | tup l=>
   simp only[dG,VR] at h ⊢
   obtain ⟨x',h1,h2⟩:=h
   exact ⟨x',h1,uN τ d (mW τ hH d) l _ h2⟩
  | undef=>simp[dG,VR]
  | opq i=>simp only[dG,VR] at h ⊢;exact h
  | bool b=>simpa only [dG,VR] using h
  | int k n=>simpa only [dG,VR] using h
  | str s=>simpa only [dG,VR] using h
  | nilp=>simpa only [dG,VR] using h
  | gptr g o=>simpa only [dG,VR] using h
  | nils=>simpa only [dG,VR] using h
  | nilf=>simpa only [dG,VR] using h
  | nili=>simpa only [dG,VR] using h
  | lst t l len sz=>
   simp only[dG,VR] at h ⊢
   obtain ⟨h1,h2,a,cap,h3,h4,h5⟩:=h
   exact ⟨h1,h2,a,cap,h3,h4,h5.imp (fun ⟨a,cs,ka,k0,k1,k2,k3⟩=>⟨a,cs,ka,k0,hs.frz _ _ _ k1,k2,VRL.mono hs _ _ k3⟩) id⟩
  | lptr t l off=>
   simp only[dG,VR] at h ⊢
   obtain ⟨h1,b,o,cs,h3,h4,h5,h6⟩:=h
   exact ⟨h1,b,o,cs,h3,hs.frz _ _ _ h4,h5,VRL.mono hs _ _ h6⟩
theorem bC7 (τ:Nat) (hH:HR gl m H w) (d:Nat) (l:List AV) (vs:List Value) (h:VRL m l vs):VRL (qN τ m H w).strip (aXi τ H d l) vs:=
 uN τ d (mW τ hH d) l vs h
end

def wk (a b:AV):Prop:=∀ (m:M) (v:Value),VR m a v→VR m b v
def wkL (a b:List AV):Prop:=∀ (m:M) (vs:List Value),VRL m a vs→VRL m b vs
theorem iF (a:AV):wk a a:=fun _ _ h=>h
theorem iP (l:List AV):wkL l l:=fun _ _ h=>h
theorem wS:wkL [] []:=iP _
theorem gM {a b:AV} {l l':List AV} (h:wk a b) (k:wkL l l'):wkL (a::l) (b::l'):=by
 intro m vs hv
 obtain ⟨v,vs',rfl,h1,h2⟩:=bD hv
 rw[bE]
 exact ⟨h m v h1,k m vs' h2⟩
theorem aZ7 (t z:Nat):wk .nils (.lst t [] 0 z):=by
 intro m v h
 simp only[VR] at h ⊢
 subst h
 exact ⟨rfl,by simp,none,0,rfl,Nat.le_refl _,.inr ⟨by simp,by simp⟩⟩
theorem aCv {l l':List AV} (h:wkL l l'):wk (.agg l) (.agg l'):=by
 intro m v hv
 simp only[VR] at hv ⊢
 obtain ⟨cs,h1,h2⟩:=hv
 exact ⟨cs,h1,h _ _ h2⟩
theorem aGo {l l':List AV} (h:wkL l l'):wk (.tup l) (.tup l'):=by
 intro m v hv
 simp only[VR] at hv ⊢
 obtain ⟨cs,h1,h2⟩:=hv
 exact ⟨cs,h1,h _ _ h2⟩
section
variable {P:Program} {gl:Nat→Option (List AV)} {m:M} {H:List Blk} {w:World}

theorem aJg {f:FuncId} {c:List AV→List Blk→(Out→List Blk→Prop)→Prop} (he:Enters P f) (hgl:∀g cs,gl g=some cs→bS cs=true) (depth:Nat) (k:AV→AV) (hk:∀a,wk a (k a))
  (h:∀args H Q,c args H Q→aR 0 args=true∧bS args=true∧∀ (m:M) (vs:Array Value) (w:World),VRL m args vs.toList→HR gl m [] w→(m.lp=fun _=>none)→Calls P f vs w (jQ P gl [] m [] w fun o H' _=>∃v,o=.ret v∧Q (.ret (k (dG 0 H' depth v))) H)):aG P gl f c:=by
 refine ⟨he,fun args H Q hc m w vs hv hH => ?_⟩
 obtain ⟨h1,h2,h5⟩:=h args H Q hc
 -- the run, over no blocks
 have hv0:VRL (dU m id 0) args vs.toList:=by
  refine VRL.small (m:=m) (m0:=dU m id 0) (n:=0) (ρ:=id) (fun j hj=>by omega) rfl (Ext.refl _) _ _ h1 h2 ?_
  rw[bL id args h1 h2];exact hv
 refine (h5 _ _ _ hv0 ((Fr.nil H).hr hH hgl) rfl).mono fun e w' hp => ?_
 obtain ⟨o,H0',g',m0',⟨v,rfl,q1⟩,q2,q3,_,q5⟩:=hp
 cases e<;>simp only[aDk] at q2
 rename_i cv
 have hF:=aDo 0 (w:=w') q3 hgl
 -- the caller's map, with what is frozen now
 obtain ⟨m',hm'⟩:∃m':M,m'=⟨m.blk,m.opq,m.lp,(qN 0 m0' H0' w').frz⟩:=⟨_,rfl⟩
 have hop:m0'.opq=m.opq:=q5.ext.opq
 have hfr:∀t k cs,m.frz t k=some cs→(qN 0 m0' H0' w').frz t k=some cs:=fun t k cs h=>(rH 0 m0' H0' w').frz t k cs (q5.ext.frz t k cs h)
 have hext:Ext m m':=by subst hm';exact ⟨fun _ I h=>⟨I,h,Nat.le_refl _,fun _=>rfl⟩,rfl,fun _ _ h=>h,hfr⟩
 have hno:∀k,¬ jB (dU m id ([]:List Blk).length) [] k:=by
  rintro k ⟨j,I,b,h1,h2,_⟩
  simp at h2
 have hkeep:∀k,k<w.heap.size→w'.heap[k]? = w.heap[k]? := fun k hk=>q5.keep k hk (hno k) (by simp)
 have hnewf:∀t k cs,(qN 0 m0' H0' w').frz t k=some cs→m.frz t k=some cs∨w.heap.size≤k:=by
  intro t k cs hf
  simp only[qN] at hf
  split at hf
  ·rename_i c hc
   cases hf
   rcases q5.fz t k _ hc with h | h | h
   ·exact .inl h
   ·exact .inr h
   ·exact absurd h (hno k)
  ·split at hf
   ·rename_i ho
    rcases q5.own k ho.2 with h | h
    ·exact .inr h
    ·exact absurd h (hno k)
   ·cases hf
 have hrow:∀id I,m.blk id=some I→I.b<w.heap.size:=fun id I h=>by
  have hd:=hH.dom id I h
  obtain ⟨_,q1,_⟩:=(hH.blk id I H[id] h (List.getElem?_eq_getElem hd)).obj
  exact (Array.getElem?_eq_some_iff.1 q1).1
 refine ⟨_,H,m',q1, ?_,⟨fun id I h => ?_,fun id I b h h2 => ?_,fun i j I J b h1 h2 => ?_,fun g cs hg => ?_,hH.gld,fun t k cs hf => ?_,fun t k cs id I b hf h1 h2 h3 => ?_,fun g cs id I b h1 h2 => ?_⟩,
  ⟨⟨hext,q5.os,q5.tape,q5.output,q5.size,fun k hk _=>hkeep k hk,fun k hk => ?_,fun u l h => ?_,fun t k cs hf => ?_⟩,Nat.le_refl _,fun id _ h => ?_⟩⟩
 ·have:=mW 0 (w:=w') q3 depth v cv q2
  refine hk _ _ _ (VR.mono (m:=(qN 0 m0' H0' w').strip) ⟨fun _ _ h=>(by cases h), ?_,fun _ _ h=>(by cases h),fun t k cs h=>by subst hm';exact h⟩ _ _ this)
  subst hm';exact hop.symm
 ·subst hm';exact hH.dom id I h
 ·subst hm'
  exact (hH.blk id I b h h2).mono hext (hkeep _ (hrow id I h))
 ·subst hm';exact hH.inj i j I J b h1 h2
 ·obtain ⟨cu,e,fr,k1,k2⟩:=hH.glb g cs hg
  exact ⟨cu,e,fr,(hkeep g (Array.getElem?_eq_some_iff.1 k1).1).trans k1,VRL.mono hext _ _ k2⟩
 ·subst hm'
  exact hF.frz t k cs hf
 ·subst hm'
  rintro rfl
  rcases hnewf t _ cs hf with h | h
  ·exact hH.fow t _ cs id I b h h1 h2 h3 rfl
  ·have:=hrow id I h1;omega
 ·subst hm';exact hH.gow g cs id I b h1 h2
 ·subst hm';exact .inr hk
 ·subst hm';exact h
 ·subst hm'
  rcases hnewf t k cs hf with h | h
  ·exact .inl h
  ·exact .inr (.inl h)
 ·subst hm';exact h

theorem iG {f:FuncId} {c:List AV→List Blk→(Out→List Blk→Prop)→Prop} (he:Enters P f) (hgl:∀g cs,gl g=some cs→bS cs=true) (depth:Nat) (k:AV→AV) (hk:∀a,wk a (k a))
  (h:∀args H Q,c args H Q→aR 0 args=true∧bS args=true∧∃ (E:Env) (n:Nat),EnvFor P E∧E.gl=gl∧bC E (wpx E n) f args [] {} fun o H' _=>∃v,o=.ret v∧Q (.ret (k (dG 0 H' depth v))) H):aG P gl f c:=by
 refine aJg he hgl depth k hk fun args H Q hc => ?_
 obtain ⟨h1,h2,E,n,hE,rfl,h5⟩:=h args H Q hc
 exact ⟨h1,h2,fun m vs w hv hH hl=>sK hE h5 hv hH hl⟩

mutual
def noT:AV→Bool
 | .fn _ x y=>zI x&&zI y
 | .iface _ v=>noT v
 | .agg l=>zI l
 | .tup l=>zI l
 | .lst t l _ _=>Nat.beq t 0&&zI l
 | .lptr _ _ _=>false
 | .sl _ _ _ _ _=>false
 | .ptr _ _ _=>false
 | .mp _=>false
 | .yld _=>false
 | _=>true
def zI:List AV→Bool
 | []=>true
 | v::l=>noT v&&zI l
end

mutual
theorem aLs {m m':M} (ho:m'.opq=m.opq) (hf:∀b cs,m.frz 0 b=some cs→m'.frz 0 b=some cs):∀ (a:AV) (v:Value),noT a=true→VR m a v→VR m' a v
 | .undef,_,_,_=>by simp[VR]
 | .opq i,v,_,h=>by simpa only [VR,ho] using h
 | .bool _,_,_,h=>by simpa only [VR] using h
 | .int _ _,_,_,h=>by simpa only [VR] using h
 | .str _,_,_,h=>by simpa only [VR] using h
 | .nilp,_,_,h=>by simpa only [VR] using h
 | .ptr _ _ _,_,q,_=>by simp[noT] at q
 | .gptr _ _,_,_,h=>by simpa only [VR] using h
 | .nils,_,_,h=>by simpa only [VR] using h
 | .sl _ _ _ _ _,_,q,_=>by simp[noT] at q
 | .mpn,_,_,h=>by simpa only [VR] using h
 | .mp _,_,q,_=>by simp[noT] at q
 | .nilf,_,_,h=>by simpa only [VR] using h
 | .fn f x y,v,q,h=>by
  simp only[noT,Bool.and_eq_true] at q
  simp only[VR] at h ⊢
  obtain ⟨x',y',h1,h2,h3⟩:=h
  exact ⟨x',y',h1,oK ho hf x _ q.1 h2,oK ho hf y _ q.2 h3⟩
 | .yld _,_,q,_=>by simp[noT] at q
 | .nili,_,_,h=>by simpa only [VR] using h
 | .iface t v,_,q,h=>by
  simp only[noT] at q
  simp only[VR] at h ⊢
  obtain ⟨x,h1,h2⟩:=h
  exact ⟨x,h1,aLs ho hf v x q h2⟩
 | .agg l,_,q,h=>by
  simp only[noT] at q
  simp only[VR] at h ⊢
  obtain ⟨x,h1,h2⟩:=h
  exact ⟨x,h1,oK ho hf l _ q h2⟩
 | .tup l,_,q,h=>by
  simp only[noT] at q
  simp only[VR] at h ⊢
  obtain ⟨x,h1,h2⟩:=h
  exact ⟨x,h1,oK ho hf l _ q h2⟩
 | .lst t l len sz,v,q,h=>by
  simp only[noT,Bool.and_eq_true,aP] at q
  obtain ⟨rfl,q⟩:=q
  simp only[VR] at h ⊢
  obtain ⟨h1,h2,a,cap,h3,h4,h5⟩:=h
  exact ⟨h1,h2,a,cap,h3,h4,h5.imp (fun ⟨a,cs,ka,k0,k1,k2,k3⟩=>⟨a,cs,ka,k0,hf _ _ k1,k2,oK (m:=m.strip) (m':=m'.strip) ho hf _ _ q k3⟩) id⟩
 | .lptr _ _ _,_,q,_=>by simp[noT] at q
theorem oK {m m':M} (ho:m'.opq=m.opq) (hf:∀b cs,m.frz 0 b=some cs→m'.frz 0 b=some cs):∀ (l:List AV) (vs:List Value),zI l=true→VRL m l vs→VRL m' l vs
 | [],vs,_,h=>by simpa only [VRL] using h
 | a::l,vs,q,h=>by
  simp only[zI,Bool.and_eq_true] at q
  obtain ⟨v,vs',rfl,h1,h2⟩:=bD h
  rw[bE]
  exact ⟨aLs ho hf a v q.1 h1,oK ho hf l vs' q.2 h2⟩
end

theorem aIo {f:FuncId} {c:List AV→List Blk→(Out→List Blk→Prop)→Prop} (hc:aG P gl f c) (hgl:∀g cs,gl g=some cs→bS cs=true) (depth:Nat)
  (hp:∀args H Q,c args H Q→c args [] fun o H'=>H'=[]∧(∃v,o=.ret v∧noT v=true)∧Q o H):aG P gl f fun args H Q=>c (aXi 1 H depth args) H Q:=by
 refine ⟨hc.1,fun args H Q h m w vs hv hH => ?_⟩
 have hF:=aDo 1 (w:=w) hH hgl
 have hvs:VRL (qN 1 m H w) (aXi 1 H depth args) vs.toList:=VRL.mono (Ext.of_strip _) _ _ (bC7 1 (w:=w) hH depth args _ hv)
 refine (hc.2 _ _ _ (hp _ _ _ h) _ w vs hvs hF).mono fun e w' hq => ?_
 obtain ⟨o,H',m1',⟨rfl,⟨v,rfl,hn⟩,q1⟩,q2,q3,q5⟩:=hq
 cases e<;>simp only[aDk] at q2
 rename_i cv
 obtain ⟨m',hm'⟩:∃m':M,m'=⟨m.blk,m.opq,m.lp,fun t b=>if t=0 then m1'.frz 0 b else m.frz t b⟩:=⟨_,rfl⟩
 have hop:m1'.opq=m.opq:=q5.ext.opq
 have hfr:∀t k cs,m.frz t k=some cs→m'.frz t k=some cs:=fun t k cs h=>by
  subst hm'
  simp only
  split
  ·rename_i h0
   subst h0
   refine q5.ext.frz 0 k cs ?_
   simp only[qN,h]
  ·exact h
 have hext:Ext m m':=by
  refine ⟨fun id I h=>⟨I,by subst hm';exact h,Nat.le_refl _,fun _=>rfl⟩,by subst hm';rfl,fun u l h=>by subst hm';exact h,hfr⟩
 have hno:∀k,¬ jB (qN 1 m H w) [] k:=by
  rintro k ⟨j,I,b,h1,h2,_⟩
  simp at h2
 have hkeep:∀k,k<w.heap.size→w'.heap[k]? = w.heap[k]? := fun k hk=>q5.keep k hk (hno k)
 have hnewf:∀t k cs,m'.frz t k=some cs→m.frz t k=some cs∨w.heap.size≤k:=by
  intro t k cs hf
  subst hm'
  simp only at hf
  split at hf
  ·rename_i h0
   subst h0
   rcases q5.fz 0 k cs hf with h | h | h
   ·simp only[qN] at h
    split at h
    ·rename_i c0 hc0
     cases h
     exact .inl hc0
    ·rw[if_neg (by omega)] at h;cases h
   ·exact .inr h
   ·exact absurd h (hno k)
  ·exact .inl hf
 have hrow:∀id I,m.blk id=some I→I.b<w.heap.size:=fun id I h=>by
  have hd:=hH.dom id I h
  obtain ⟨_,q1,_⟩:=(hH.blk id I H[id] h (List.getElem?_eq_getElem hd)).obj
  exact (Array.getElem?_eq_some_iff.1 q1).1
 refine ⟨_,H,m',q1, ?_,⟨fun id I h => ?_,fun id I b h h2 => ?_,fun i j I J b h1 h2 => ?_,fun g cs hg => ?_,hH.gld,fun t k cs hf => ?_,fun t k cs id I b hf h1 h2 h3 => ?_,fun g cs id I b h1 h2 => ?_⟩,
  ⟨⟨hext,q5.os,q5.tape,q5.output,q5.size,fun k hk _=>hkeep k hk,fun k hk => ?_,fun u l h => ?_,fun t k cs hf => ?_⟩,Nat.le_refl _,fun id _ h => ?_⟩⟩
 ·exact aLs (m:=m1') (m':=m') (by subst hm';exact hop.symm) (fun b cs h=>by subst hm';simpa using h) v cv hn q2
 ·subst hm';exact hH.dom id I h
 ·subst hm'
  exact (hH.blk id I b h h2).mono hext (hkeep _ (hrow id I h))
 ·subst hm';exact hH.inj i j I J b h1 h2
 ·obtain ⟨cu,e,fr,k1,k2⟩:=hH.glb g cs hg
  exact ⟨cu,e,fr,(hkeep g (Array.getElem?_eq_some_iff.1 k1).1).trans k1,VRL.mono hext _ _ k2⟩
 ·subst hm'
  simp only at hf
  split at hf
  ·exact q3.frz 0 k cs hf
  ·obtain ⟨cu,e,fr,k1,k2⟩:=hH.frz t k cs hf
   exact ⟨cu,e,fr,(hkeep k (Array.getElem?_eq_some_iff.1 k1).1).trans k1,k2⟩
 ·rintro rfl
  rcases hnewf t _ cs hf with h | h
  ·subst hm';exact hH.fow t _ cs id I b h h1 h2 h3 rfl
  ·subst hm';have:=hrow id I h1;omega
 ·subst hm';exact hH.gow g cs id I b h1 h2
 ·subst hm';exact .inr hk
 ·subst hm';exact h
 ·rcases hnewf t k cs hf with h | h
  ·exact .inl h
  ·exact .inr (.inl h)
 ·subst hm';exact h

theorem aSj {E:Env} (hE:EnvFor P E) {n:Nat} {f:FuncId} {args:List AV} (h:bC E (wpx E n) f args [] {} isT) {vs:Array Value} (w:World) (hg:bMa E.gl w) (hv:VRL (aDf w) args vs.toList) :
  Calls P f vs w fun e w'=>e=.returned (.bool true)∧Below w.heap.size w w':=by
 refine (sK hE h hv (HR.all hg) rfl).mono fun e w' hp => ?_
 obtain ⟨o,H',k',m',q1,q2,q3,_,q4⟩:=hp
 refine ⟨?_,Mx.below (by simpa using q4) (Nat.le_refl _) fun b hb => ?_⟩
 ·unfold isT at q1
  split at q1
  ·cases e<;>simp only[aDk,VR] at q2
   rw[q2]
  ·cases q1
 ·obtain ⟨id,I,x,h1,_⟩:=hb
  cases h1
end
end Go.Proofs.YtnhechnaemmdiaaGreatDoor

namespace Go.Proofs.YtnhechnaemmdiaaGreatDoor
open Go.RowKit

theorem jD {P:Program} {gl:Nat→Option (List AV)} {f:FuncId} {c c':List AV→List Blk→(Out→List Blk→Prop)→Prop} (hc:aG P gl f c)
  (hp:∀args H Q,c' args H Q→∃args',wkL args args'∧c args' H Q):aG P gl f c':=by
 refine ⟨hc.1,fun args H Q h m w vs hv hH => ?_⟩
 obtain ⟨args',h1,h2⟩:=hp args H Q h
 exact hc.2 _ _ _ h2 m w vs (h1 m _ hv) hH

def nlV:Nat→AV→AV
 | z+1,.nils=>.lst 0 [] 0 (z+1)
 | _,v=>v
def nlL:List Nat→List AV→List AV
 | z::zs,v::l=>nlV z v::nlL zs l
 | _,l=>l
def nlR (zs:List Nat):AV→AV
 | .tup l=>.tup (nlL zs l)
 | v=>match zs with | z::_=>nlV z v | []=>v
theorem bH3 (z:Nat) (v:AV):wk v (nlV z v):=by
 cases z with
 | zero=>exact iF _
 | succ z=>cases v<;>first | exact aZ7 _ _ | exact iF _
theorem pI:∀ (zs:List Nat) (l:List AV),wkL l (nlL zs l)
 | [],l=>iP _
 | _::_,[]=>iP _
 | z::zs,v::l=>gM (bH3 z v) (pI zs l)
theorem aVf (zs:List Nat) (v:AV):wk v (nlR zs v):=by
 cases v with
 | tup l=>exact aGo (pI zs l)
 | _=>cases zs with
  | nil=>exact iF _
  | cons z zs=>exact bH3 z _

def aT3 (H:List Blk) (z:Nat) (v:AV) (K:AV→Prop):Prop:=match v with
 | .sl id tot off len sz=>match H[id]? with
  | some b=>bif Nat.beq b.cs.length tot&&Nat.ble (off+len*sz) tot&&b.k !=.ro then K (.lst 1 (((b.cs.drop off).take (len*sz)).map fun x=>dG 1 H 8 x) len sz) else False
  | none=>False
 | v=>K (nlV z (dG 1 H 9 v))
def mZ:List Nat→List Blk→List AV→(List AV→Prop)→Prop
 | _,_,[],K=>K []
 | [],H,v::l,K=>aT3 H 0 v fun v'=>mZ [] H l fun l'=>K (v'::l')
 | z::zs,H,v::l,K=>aT3 H z v fun v'=>mZ zs H l fun l'=>K (v'::l')
theorem aGw {H:List Blk} {z:Nat} {v:AV} {K:AV→Prop} (h:aT3 H z v K):K (nlV z (dG 1 H 9 v)):=by
 unfold aT3 at h
 split at h
 ·rename_i id tot off len sz
  split at h
  ·rename_i b hb
   cases hc:(Nat.beq b.cs.length tot&&Nat.ble (off+len*sz) tot&&b.k !=.ro)
   ·rw[hc] at h;exact h.elim
   ·rw[hc] at h
    have e:nlV z (dG 1 H 9 (.sl id tot off len sz))=.lst 1 (((b.cs.drop off).take (len*sz)).map fun x=>dG 1 H 8 x) len sz:=by
     rw[dG]
     simp only[hb,hc,cond_true]
     cases z<;>rfl
    rw[e]
    exact h
  ·exact h.elim
 ·exact h
theorem aTw (v:AV):nlV 0 v=v:=by cases v<;>rfl
theorem xE:∀ {zs:List Nat} {H:List Blk} {l:List AV} {K:List AV→Prop},mZ zs H l K→K (nlL zs (aXi 1 H 9 l))
 | [],H,[],K,h=>h
 | _::_,H,[],K,h=>h
 | [],H,v::l,K,h=>by
  have h1:=aGw h
  have h2:=xE h1
  simpa [nlL,aXi,aTw] using h2
 | z::zs,H,v::l,K,h=>by
  have h1:=aGw h
  have h2:=xE h1
  simpa [nlL,aXi] using h2

theorem dM {P:Program} {gl:Nat→Option (List AV)} {f:FuncId} {c:List AV→List Blk→(Out→List Blk→Prop)→Prop} (hc:aG P gl f c) (hgl:∀g cs,gl g=some cs→bS cs=true) (zs:List Nat)
  (hp:∀args H Q,c args H Q→c args [] fun o H'=>H'=[]∧(∃v,o=.ret v∧noT v=true)∧Q o H):aG P gl f fun args H Q=>mZ zs H args fun a=>c a H Q:=
 jD (c:=fun args H Q=>c (nlL zs (aXi 1 H 9 args)) H Q) (aIo (jD (c':=fun args H Q=>c (nlL zs args) H Q) hc fun args H Q h=>⟨_,pI zs args,h⟩) hgl 9 fun args H Q h=>hp _ _ _ h)
  fun args H Q h=>⟨args,iP _,xE h⟩
theorem aFm {P:Program} {gl:Nat→Option (List AV)} {f:FuncId} {c:List AV→List Blk→(Out→List Blk→Prop)→Prop} (he:Enters P f)
  (h:∀args H Q,c args H Q→∀ (m:M) (w:World) (vs:Array Value),VRL m args vs.toList→∃a v,Q (.ret a) H∧VR m a v∧Calls P f vs w fun e w'=>e=.returned v∧Below w.heap.size w w'):aG P gl f c:=by
 refine ⟨he,fun args H Q hc m w vs hv hH => ?_⟩
 obtain ⟨a,v,hq,ha,hr⟩:=h args H Q hc m w vs hv
 refine hr.mono ?_
 rintro e w' ⟨rfl,bel⟩
 exact ⟨.ret a,H,m,hq,ha,hH.same (Ext.refl m) rfl rfl fun j hj=>bel.block j hj,
  ⟨Ext.refl m,bel.os,bel.tape,bel.output,bel.size,fun k hk _=>bel.block k hk,fun _ h=>.inr h,fun _ _ h=>h,fun _ _ _ h=>.inl h⟩,Nat.le_refl _,fun _ _ h=>h⟩
def aNa (Q:Out→List Blk→Prop) (H:List Blk) (o:Out) (H':List Blk):Prop:=
 ∃ (j:Nat) (v0:AV),o=.ret (ren (fun _=>j) v0)∧noY v0=true∧((old 0 v0=true∧Q (.ret v0) H) ∨
  (old 1 v0=true∧∃b,H'[j]? = some b∧b.k≠.ro∧aR 0 b.cs=true∧bS b.cs=true∧Q (.ret (ren (fun _=>H.length) v0)) (H++[b])))
theorem aCc {P:Program} {gl:Nat→Option (List AV)} {f:FuncId} {c:List AV→List Blk→(Out→List Blk→Prop)→Prop} (he:Enters P f) (hgl:∀g cs,gl g=some cs→bS cs=true)
  (h:∀args H Q,c args H Q→aR 0 args=true∧bS args=true∧∃ (E:Env) (n:Nat),EnvFor P E∧E.gl=gl∧bC E (wpx E n) f args [] {} fun o H' _=>aNa Q H o H'):aG P gl f c:=by
 refine ⟨he,fun args H Q hc m w vs hv hH => ?_⟩
 obtain ⟨h1,h2,E,n,hE,rfl,h5⟩:=h args H Q hc
 have hv0:VRL (dU m id 0) args vs.toList:=by
  refine VRL.small (m:=m) (m0:=dU m id 0) (n:=0) (ρ:=id) (fun j hj=>by omega) rfl (Ext.refl _) _ _ h1 h2 ?_
  rw[bL id args h1 h2];exact hv
 refine (sK hE h5 hv0 ((Fr.nil H).hr hH hgl) rfl).mono fun e w' hp => ?_
 obtain ⟨o,H0',g',m0',⟨j,v0,rfl,hy,hq⟩,q2,q3,_,q5⟩:=hp
 cases e<;>simp only[aDk] at q2
 rename_i cv
 have hop:m0'.opq=m.opq:=q5.ext.opq
 have hno:∀k,¬ jB (dU m id ([]:List Blk).length) [] k:=by
  rintro k ⟨j,I,b,h1,h2,_⟩
  simp at h2
 have hkeep:∀k,k<w.heap.size→w'.heap[k]? = w.heap[k]? := fun k hk=>q5.keep k hk (hno k) (by simp)
 have hrow:∀id I,m.blk id=some I→I.b<w.heap.size:=fun id I h=>by
  have hd:=hH.dom id I h
  obtain ⟨_,q1,_⟩:=(hH.blk id I H[id] h (List.getElem?_eq_getElem hd)).obj
  exact (Array.getElem?_eq_some_iff.1 q1).1
 have hfz:∀t k cs,m0'.frz t k=some cs→m.frz t k=some cs∨w.heap.size≤k:=fun t k cs hf=>by
  rcases q5.fz t k cs hf with h | h | h
  ·exact .inl h
  ·exact .inr h
  ·exact absurd h (hno k)
 have hfr:∀t k cs,m.frz t k=some cs→m0'.frz t k=some cs:=fun t k cs h=>q5.ext.frz t k cs h
 have hown:∀k,jB m0' H0' k→w.heap.size≤k:=fun k hk=>by
  rcases q5.own k hk with h | h
  ·exact h
  ·exact absurd h (hno k)
 have hout:m.blk H.length=none:=by
  cases hm:m.blk H.length with
  | none=>rfl
  | some I=>exact absurd (hH.dom _ I hm) (Nat.lt_irrefl _)
 rcases hq with ⟨ho,hq⟩ | ⟨ho,b,hb,hk,hcs,hyc,hq⟩
 ·obtain ⟨m',hm'⟩:∃m':M,m'=⟨m.blk,m.opq,m.lp,m0'.frz⟩:=⟨_,rfl⟩
  have hext:Ext m m':=by subst hm';exact ⟨fun _ I h=>⟨I,h,Nat.le_refl _,fun _=>rfl⟩,rfl,fun _ _ h=>h,hfr⟩
  rw[qP _ v0 ho hy] at q2
  refine ⟨_,H,m',hq, ?_,⟨fun id I h => ?_,fun id I b h h2 => ?_,fun i j I J b h1 h2 => ?_,fun g cs hg => ?_,hH.gld,fun t k cs hf => ?_,fun t k cs id I b hf h1 h2 h3 => ?_,fun g cs id I b h1 h2 => ?_⟩,
   ⟨⟨hext,q5.os,q5.tape,q5.output,q5.size,fun k hk _=>hkeep k hk,fun k hk => ?_,fun u l h => ?_,fun t k cs hf => ?_⟩,Nat.le_refl _,fun id _ h => ?_⟩⟩
  ·have hso:m'.opq=m0'.opq:=by subst hm';exact hop.symm
   have hss:Ext m0'.strip m'.strip:=⟨fun _ _ h=>(by cases h),hso,fun _ _ h=>(by cases h),fun t k cs h=>by subst hm';exact h⟩
   exact VR.flat (m:=m0') (m':=m') hso hss _ _ ho hy q2
  ·subst hm';exact hH.dom id I h
  ·subst hm'
   exact (hH.blk id I b h h2).mono hext (hkeep _ (hrow id I h))
  ·subst hm';exact hH.inj i j I J b h1 h2
  ·obtain ⟨cu,e,fr,k1,k2⟩:=hH.glb g cs hg
   exact ⟨cu,e,fr,(hkeep g (Array.getElem?_eq_some_iff.1 k1).1).trans k1,VRL.mono hext _ _ k2⟩
  ·subst hm';exact q3.frz t k cs hf
  ·subst hm'
   rintro rfl
   rcases hfz t _ cs hf with h | h
   ·exact hH.fow t _ cs id I b h h1 h2 h3 rfl
   ·have:=hrow id I h1;omega
  ·subst hm';exact hH.gow g cs id I b h1 h2
  ·subst hm';exact .inr hk
  ·subst hm';exact h
  ·subst hm'
   rcases hfz t k cs hf with h | h
   ·exact .inl h
   ·exact .inr (.inl h)
  ·subst hm';exact h
 ·obtain ⟨m',hm'⟩:∃m':M,m'=⟨fun id=>if id=H.length then m0'.blk j else m.blk id,m.opq,m.lp,m0'.frz⟩:=⟨_,rfl⟩
  have hbN:m'.blk H.length=m0'.blk j:=by subst hm';simp
  have hbO:∀id,id≠H.length→m'.blk id=m.blk id:=fun id h=>by subst hm';simp[h]
  have hext:Ext m m':=by
   refine ⟨fun id I h=>⟨I, ?_,Nat.le_refl _,fun _=>rfl⟩,by subst hm';rfl,fun _ _ h=>by subst hm';exact h,fun t k cs h=>by subst hm';exact hfr t k cs h⟩
   rw[hbO id fun e=>by rw[e,hout] at h;cases h]
   exact h
  have hso:m'.opq=m0'.opq:=by subst hm';exact hop.symm
  have hss:Ext m0'.strip m'.strip:=⟨fun _ _ h=>(by cases h),hso,fun _ _ h=>(by cases h),fun t k cs h=>by subst hm';exact h⟩
  have hgl':∀id,id<H.length→(H++[b])[id]? = H[id]? := fun id h=>List.getElem?_append_left h
  have hgN:(H++[b])[H.length]? = some b:=by rw[List.getElem?_append_right (Nat.le_refl _),Nat.sub_self];rfl
  have hownN:∀I,m0'.blk j=some I→w.heap.size≤I.b:=fun I hI=>hown I.b ⟨j,I,b,hI,hb,.inl hk,rfl⟩
  have hcase:∀id I,m'.blk id=some I→(id=H.length∧m0'.blk j=some I)∨(id<H.length∧id≠H.length∧m.blk id=some I):=fun id I h=>by
   by_cases e:id=H.length
   ·subst e;exact .inl ⟨rfl,by rw[←hbN];exact h⟩
   ·rw[hbO id e] at h
    exact .inr ⟨hH.dom id I h,e,h⟩
  obtain ⟨m1,hm1⟩:∃m1:M,m1=⟨fun id=>if id=0 then m0'.blk j else none,m0'.opq,m0'.lp,m0'.frz⟩:=⟨_,rfl⟩
  have hv1:VR m1 v0 cv:=by
   refine VR.small (m:=m0') (m0:=m1) (ρ:=fun _=>j) (n:=1) (fun i hi => ?_) (by subst hm1;rfl) (by subst hm1;exact Ext.refl _) v0 cv ho hy q2
   obtain rfl:i=0:=by omega
   subst hm1;simp
  refine ⟨_,H++[b],m',hq, ?_,⟨fun id I h => ?_,fun id I b' h h2 => ?_,fun i i' I J b' h1 h2 h3 h4 h5 => ?_,fun g cs hg => ?_,hH.gld,fun t k cs hf => ?_,fun t k cs id I b' hf h1 h2 h3 => ?_,fun g cs id I b' h0 h1 h2 h3 => ?_⟩,
   ⟨⟨hext,q5.os,q5.tape,q5.output,q5.size,fun k hk _=>hkeep k hk,fun k hk => ?_,fun u l h => ?_,fun t k cs hf => ?_⟩,by simp,fun id hid h => ?_⟩⟩
  ·show VR m' (ren (fun _=>H.length) v0) cv
   refine VR.wide (m:=m') (m0:=m1) (fun i I hI => ?_) (by rw[hm1];exact hso.symm) (by rw[hm1];exact hss) v0 cv hv1
   rw[hbN]
   subst hm1
   simp only at hI
   split at hI
   ·exact hI
   ·cases hI
  ·rcases hcase id I h with ⟨rfl,_⟩ | ⟨h1,_,_⟩
   ·simp
   ·simp;omega
  ·rcases hcase id I h with ⟨rfl,hI⟩ | ⟨h1,_,hI⟩
   ·rw[hgN] at h2
    cases h2
    obtain ⟨cu,e,lo,hi,r1,r2,r3,r4,r5,r6⟩:=(q3.blk j I b hI hb).row (mO hk)
    exact ⟨(q3.blk j I b hI hb).tot,(q3.blk j I b hI hb).lf,fun _=>⟨cu,e,lo,hi,r1,r2,r3,r4,r5,VRL.flat hso hss _ _ hcs hyc r6⟩,fun c hc=>absurd (jG hc).1 hk⟩
   ·rw[hgl' id h1] at h2
    exact (hH.blk id I b' hI h2).mono hext (hkeep _ (hrow id I hI))
  ·rcases hcase i I h1 with ⟨rfl,hI⟩ | ⟨l1,_,hI⟩
   ·rcases hcase i' J h2 with ⟨rfl,hJ⟩ | ⟨l2,_,hJ⟩
    ·rfl
    ·have a1:=hownN I hI
     have a2:=hrow i' J hJ
     omega
   ·rcases hcase i' J h2 with ⟨rfl,hJ⟩ | ⟨l2,_,hJ⟩
    ·have a1:=hownN J hJ
     have a2:=hrow i I hI
     omega
    ·rw[hgl' i l1] at h3
     exact hH.inj i i' I J b' hI hJ h3 h4 h5
  ·obtain ⟨cu,e,fr,k1,k2⟩:=hH.glb g cs hg
   exact ⟨cu,e,fr,(hkeep g (Array.getElem?_eq_some_iff.1 k1).1).trans k1,VRL.mono hext _ _ k2⟩
  ·subst hm';exact q3.frz t k cs hf
  ·have hf:m0'.frz t k=some cs:=by subst hm';exact hf
   rcases hcase id I h1 with ⟨rfl,hI⟩ | ⟨l1,_,hI⟩
   ·rw[hgN] at h2
    cases h2
    exact q3.fow t k cs j I b hf hI hb (.inl hk)
   ·rw[hgl' id l1] at h2
    rintro rfl
    rcases hfz t _ cs hf with h | h
    ·exact hH.fow t _ cs id I b' h hI h2 h3 rfl
    ·have:=hrow id I hI;omega
  ·rcases hcase id I h1 with ⟨rfl,hI⟩ | ⟨l1,_,hI⟩
   ·rw[hgN] at h2
    cases h2
    exact q3.gow g cs j I b h0 hI hb (.inl hk)
   ·rw[hgl' id l1] at h2
    exact hH.gow g cs id I b' h0 hI h2 h3
  ·obtain ⟨id,I,b',k1,k2,k3,k4⟩:=hk
   rcases hcase id I k1 with ⟨rfl,hI⟩ | ⟨l1,_,hI⟩
   ·subst k4
    exact .inl (hownN I hI)
   ·rw[hgl' id l1] at k2
    exact .inr ⟨id,I,b',hI,k2,k3,k4⟩
  ·subst hm';exact h
  ·have hf:m0'.frz t k=some cs:=by subst hm';exact hf
   rcases hfz t k cs hf with h | h
   ·exact .inl h
   ·exact .inr (.inl h)
  ·rw[hbO id (by omega)];exact h
end Go.Proofs.YtnhechnaemmdiaaGreatDoor
