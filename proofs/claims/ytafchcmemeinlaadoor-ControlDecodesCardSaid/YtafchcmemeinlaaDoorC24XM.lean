/-
  Chapter 24: contract of take; how a packet is read.
-/
import Derived.Test.YtafchcmemeinlaaDoorC24XL
set_option linter.unusedSimpArgs false
set_option linter.unusedVariables false
set_option linter.unusedSectionVars false
namespace Go.Proofs.YtafchcmemeinlaaDoor
open Go.RowKit
set_option maxRecDepth 1000000

mutual
theorem aBt:∀a:AV,noY a=true→ren id a=a
 | .undef,_=>rfl
 | .opq _,_=>rfl
 | .bool _,_=>rfl
 | .int _ _,_=>rfl
 | .str _,_=>rfl
 | .nilp,_=>rfl
 | .ptr _ _ _,_=>rfl
 | .gptr _ _,_=>rfl
 | .nils,_=>rfl
 | .sl _ _ _ _ _,_=>rfl
 | .mpn,_=>rfl
 | .mp _,_=>rfl
 | .nilf,_=>rfl
 | .fn _ x y,k=>by
  simp only[noY,Bool.and_eq_true] at k
  simp only[ren,gY x k.1,gY y k.2]
 | .yld _,k=>by simp[noY] at k
 | .nili,_=>rfl
 | .iface _ v,k=>by simp only[noY] at k;simp only[ren,aBt v k]
 | .agg l,k=>by simp only[noY] at k;simp only[ren,gY l k]
 | .tup l,k=>by simp only[noY] at k;simp only[ren,gY l k]
 | .lst _ _ _ _,_=>rfl
 | .lptr _ _ _,_=>rfl
theorem gY:∀l:List AV,bQ l=true→qV id l=l
 | [],_=>rfl
 | v::l,k=>by
  simp only[bQ,Bool.and_eq_true] at k
  simp only[qV,aBt v k.1,gY l k.2]
end
theorem aKq (n:Nat):sig id n n=id:=by
 funext j
 simp only[sig,id]
 split
 ·rfl
 ·omega
theorem aVu {P:Program} {gl:Nat→Option (List AV)} {f:FuncId} {c:List AV→List Blk→(Out→List Blk→Prop)→Prop} (he:Enters P f) (hgl:∀g cs,gl g=some cs→bQ cs=true)
  (h:∀args H Q,c args H Q→bB H.length args=true∧bQ args=true∧(∀b∈H,bB H.length b.cs=true∧bQ b.cs=true∧(b.lf=true→bB 0 b.cs=true)∧b.k≠.ro)∧∃ (E:Env) (n:Nat),EnvFor P E∧E.gl=gl ∧
   bH E (wpx E n) f args H {} fun o H' _=>H.map (·.k)=(H'.map (·.k)).take H.length∧(∀b∈H',bQ b.cs=true∧b.k≠.ro)∧(∃v,o=.ret v∧noY v=true)∧Q o H'):aO P gl f c:=by
 refine iF he hgl fun args H Q hc => ?_
 obtain ⟨h1,h2,h3,E,n,h4,h5,h6⟩:=h args H Q hc
 have hm:∀ {j:Nat} {b:Blk} {H:List Blk},H[j]? = some b→b∈H:=fun h=>List.mem_of_getElem? h
 refine ⟨E,n,id,args,H,_,h4,h5,(gY args h2).symm,h1,h2,⟨fun j b0 hj => ?_,fun j j' b0 _ _ _ h=>h,fun j b0 hj h=>absurd h (h3 b0 (hm hj)).2.2.2⟩,h6, ?_⟩
 ·obtain ⟨a1,a2,a3,a4⟩:=h3 b0 (hm hj)
  exact ⟨(List.getElem?_eq_some_iff.1 hj).1,a1,a2,a3,b0,hj,(gY _ a2).symm,.inr rfl⟩
 ·rintro o H' g' ⟨k1,k2,⟨v,rfl,k3⟩,k4⟩
  have hlen:H.length≤H'.length:=by
   have:=congrArg List.length k1
   simp only[List.length_map,List.length_take] at this
   omega
  refine ⟨H',⟨hlen,fun j b0 hj hr=>absurd hr (h3 b0 (hm hj)).2.2.2,fun j b0 hj hr => ?_,fun j b0 _ hj=>(k2 b0 (hm hj)).2,by omega,fun i hi hn => ?_,fun j b hj _ => ?_⟩, ?_⟩
  ·have hj':=(List.getElem?_eq_some_iff.1 hj).1
   have e:=congrArg (·[j]?) k1
   simp only[List.getElem?_map,hj,Option.map_some,List.getElem?_take,if_pos hj'] at e
   rw[List.getElem?_eq_getElem (show j<H'.length by omega)] at e ⊢
   simp only[Option.map_some,Option.some.injEq] at e
   exact ⟨_,rfl,e.symm⟩
  ·obtain ⟨b,hb⟩:∃b,H[i]? = some b:=⟨_,List.getElem?_eq_getElem hi⟩
   exact absurd rfl (hn i b hb (h3 b (hm hb)).2.2.2)
  ·rw[aKq]
   have:aD1 id b=b:=by simp only[aD1,gY _ (k2 b (hm hj)).1]
   rw[this]
   exact hj
  ·rw[aKq]
   simpa only [aM6,aBt v k3] using k4
def okH (H:List Blk):Prop:=∀b∈H,bB H.length b.cs=true∧bQ b.cs=true∧(b.lf=true→bB 0 b.cs=true)∧b.k≠.ro
def bAe:Con
 | [.ptr 1 15 0,.int .i64 k],[⟨.exact,true,z⟩,⟨.exact,true,[c0,c1,c2,c3,c4,c5,c6,c7,c8,c9,c10,c11,c12,.str l,.bool b]⟩],K=>Lf (0≤k∧k≤4∧okH [⟨.exact,true,z⟩,⟨.exact,true,[c0,c1,c2,c3,c4,c5,c6,c7,c8,c9,c10,c11,c12,.str l,.bool b]⟩])∧∀n l' b',Lf (tkM k.toNat l b=(n,l',b'))→K (.ret (.int .i64 n)) [⟨.exact,true,z⟩,⟨.exact,true,[c0,c1,c2,c3,c4,c5,c6,c7,c8,c9,c10,c11,c12,.str l',.bool b']⟩]
 | [.ptr 1 15 0,.int .i64 k],[⟨.exact,true,z⟩,⟨.exact,true,[c0,c1,c2,c3,c4,c5,c6,c7,c8,c9,c10,c11,c12,.str l,.bool b]⟩,⟨.grow,true,d⟩],K=>Lf (0≤k∧k≤4∧okH [⟨.exact,true,z⟩,⟨.exact,true,[c0,c1,c2,c3,c4,c5,c6,c7,c8,c9,c10,c11,c12,.str l,.bool b]⟩,⟨.grow,true,d⟩])∧∀n l' b',Lf (tkM k.toNat l b=(n,l',b'))→K (.ret (.int .i64 n)) [⟨.exact,true,z⟩,⟨.exact,true,[c0,c1,c2,c3,c4,c5,c6,c7,c8,c9,c10,c11,c12,.str l',.bool b']⟩,⟨.grow,true,d⟩]
 | [.ptr 1 15 0,.int .i64 k],[⟨.exact,true,z⟩,⟨.exact,false,[c0,c1,c2,c3,c4,c5,c6,c7,c8,c9,c10,c11,c12,.str l,.bool b]⟩,⟨.grow,true,d⟩],K=>Lf (0≤k∧k≤4∧okH [⟨.exact,true,z⟩,⟨.exact,false,[c0,c1,c2,c3,c4,c5,c6,c7,c8,c9,c10,c11,c12,.str l,.bool b]⟩,⟨.grow,true,d⟩])∧∀n l' b',Lf (tkM k.toNat l b=(n,l',b'))→K (.ret (.int .i64 n)) [⟨.exact,true,z⟩,⟨.exact,false,[c0,c1,c2,c3,c4,c5,c6,c7,c8,c9,c10,c11,c12,.str l',.bool b']⟩,⟨.grow,true,d⟩]
 | [.ptr 1 15 0,.int .i64 k],[⟨.exact,true,z⟩,⟨.exact,false,[c0,c1,c2,c3,c4,c5,c6,c7,c8,c9,c10,c11,c12,.str l,.bool b]⟩,⟨.grow,true,d⟩,⟨.grow,true,e⟩],K=>Lf (0≤k∧k≤4∧okH [⟨.exact,true,z⟩,⟨.exact,false,[c0,c1,c2,c3,c4,c5,c6,c7,c8,c9,c10,c11,c12,.str l,.bool b]⟩,⟨.grow,true,d⟩,⟨.grow,true,e⟩])∧∀n l' b',Lf (tkM k.toNat l b=(n,l',b'))→K (.ret (.int .i64 n)) [⟨.exact,true,z⟩,⟨.exact,false,[c0,c1,c2,c3,c4,c5,c6,c7,c8,c9,c10,c11,c12,.str l',.bool b']⟩,⟨.grow,true,d⟩,⟨.grow,true,e⟩]
 | [.ptr 1 15 0,.int .i64 k],[⟨.exact,true,z⟩,⟨.exact,false,[c0,c1,c2,c3,c4,c5,c6,c7,c8,c9,c10,c11,c12,.str l,.bool b]⟩,⟨.exact,true,d⟩,⟨.exact,true,e⟩,⟨.grow,true,g⟩],K=>Lf (0≤k∧k≤4∧okH [⟨.exact,true,z⟩,⟨.exact,false,[c0,c1,c2,c3,c4,c5,c6,c7,c8,c9,c10,c11,c12,.str l,.bool b]⟩,⟨.exact,true,d⟩,⟨.exact,true,e⟩,⟨.grow,true,g⟩])∧∀n l' b',Lf (tkM k.toNat l b=(n,l',b'))→K (.ret (.int .i64 n)) [⟨.exact,true,z⟩,⟨.exact,false,[c0,c1,c2,c3,c4,c5,c6,c7,c8,c9,c10,c11,c12,.str l',.bool b']⟩,⟨.exact,true,d⟩,⟨.exact,true,e⟩,⟨.grow,true,g⟩]
 | [.ptr 1 15 0,.int .i64 k],[⟨.exact,true,z⟩,⟨.exact,true,[c0,c1,c2,c3,c4,c5,c6,c7,c8,c9,c10,c11,c12,.str l,.bool b]⟩,⟨.exact,true,d⟩],K=>Lf (0≤k∧k≤4∧okH [⟨.exact,true,z⟩,⟨.exact,true,[c0,c1,c2,c3,c4,c5,c6,c7,c8,c9,c10,c11,c12,.str l,.bool b]⟩,⟨.exact,true,d⟩])∧∀n l' b',Lf (tkM k.toNat l b=(n,l',b'))→K (.ret (.int .i64 n)) [⟨.exact,true,z⟩,⟨.exact,true,[c0,c1,c2,c3,c4,c5,c6,c7,c8,c9,c10,c11,c12,.str l',.bool b']⟩,⟨.exact,true,d⟩]
 | [.ptr 1 15 0,.int .i64 k],[⟨.exact,true,z⟩,⟨.exact,false,[c0,c1,c2,c3,c4,c5,c6,c7,c8,c9,c10,c11,c12,.str l,.bool b]⟩,⟨.exact,true,d⟩,⟨.exact,true,e⟩,⟨.grow,true,g⟩,⟨.exact,true,j⟩],K=>Lf (0≤k∧k≤4∧okH [⟨.exact,true,z⟩,⟨.exact,false,[c0,c1,c2,c3,c4,c5,c6,c7,c8,c9,c10,c11,c12,.str l,.bool b]⟩,⟨.exact,true,d⟩,⟨.exact,true,e⟩,⟨.grow,true,g⟩,⟨.exact,true,j⟩])∧∀n l' b',Lf (tkM k.toNat l b=(n,l',b'))→K (.ret (.int .i64 n)) [⟨.exact,true,z⟩,⟨.exact,false,[c0,c1,c2,c3,c4,c5,c6,c7,c8,c9,c10,c11,c12,.str l',.bool b']⟩,⟨.exact,true,d⟩,⟨.exact,true,e⟩,⟨.grow,true,g⟩,⟨.exact,true,j⟩]
 | _,_,_=>False
theorem bEf:aO Tryd.prog glC 58 bAe:=by
 refine aVu (enters_of (by kernel_rfl)) aV fun args H Q hc => ?_
 unfold bAe at hc
 split at hc
 ·rename_i k z c0 c1 c2 c3 c4 c5 c6 c7 c8 c9 c10 c11 c12 l b 
  obtain ⟨⟨h1,h2,h3⟩,hq⟩:=hc
  obtain ⟨k,rfl⟩:=Int.eq_ofNat_of_zero_le h1
  rw[Int.toNat_natCast] at hq
  have hR:=h3 _ (List.mem_cons_of_mem _ List.mem_cons_self)
  simp only[bQ,noY,Bool.and_eq_true,Bool.true_and,Bool.and_true,List.length_cons,List.length_nil] at hR
  have hpost:∀l' b',∀x∈([⟨.exact,true,z⟩,rdB true c0 c1 c2 c3 c4 c5 c6 c7 c8 c9 c10 c11 c12 l' b']:List Blk),bQ x.cs=true∧x.k≠.ro:=by
   intro l' b' x hx
   simp only[List.mem_cons,List.not_mem_nil,or_false] at hx
   rcases hx with rfl | rfl
   ·have:=h3 _ List.mem_cons_self;exact ⟨this.2.1,this.2.2.2⟩
   ·exact ⟨by simp only[bQ,noY,Bool.and_eq_true,Bool.true_and,Bool.and_true];exact hR.2.1,by simp⟩
  obtain ⟨hv,hb',h⟩:=bRs z c0 c1 c2 c3 c4 c5 c6 c7 c8 c9 c10 c11 c12 l b  k (by omega) (fun o H' _=>([⟨.exact,true,z⟩,rdB true c0 c1 c2 c3 c4 c5 c6 c7 c8 c9 c10 c11 c12 l b]:List Blk).map (·.k)=(H'.map (·.k)).take 2∧(∀b∈H',bQ b.cs=true∧b.k≠.ro)∧(∃v,o=.ret v∧noY v=true)∧Q o H') (fun n l' b' e=>⟨rfl,hpost l' b',⟨_,rfl,rfl⟩,hq n l' b' ⟨e⟩⟩)
  exact ⟨by simp[bB,old],by simp[bQ,noY],h3,_,1000,(⟨dX,eB,eF,fB⟩:EnvFor Tryd.prog (aHj hv hb' z c0 c1 c2 c3 c4 c5 c6 c7 c8 c9 c10 c11 c12 l b  k)),rfl,h⟩
 ·rename_i k z c0 c1 c2 c3 c4 c5 c6 c7 c8 c9 c10 c11 c12 l b d
  obtain ⟨⟨h1,h2,h3⟩,hq⟩:=hc
  obtain ⟨k,rfl⟩:=Int.eq_ofNat_of_zero_le h1
  rw[Int.toNat_natCast] at hq
  have hR:=h3 _ (List.mem_cons_of_mem _ List.mem_cons_self)
  simp only[bQ,noY,Bool.and_eq_true,Bool.true_and,Bool.and_true,List.length_cons,List.length_nil] at hR
  have hpost:∀l' b',∀x∈([⟨.exact,true,z⟩,rdB true c0 c1 c2 c3 c4 c5 c6 c7 c8 c9 c10 c11 c12 l' b',⟨.grow,true,d⟩]:List Blk),bQ x.cs=true∧x.k≠.ro:=by
   intro l' b' x hx
   simp only[List.mem_cons,List.not_mem_nil,or_false] at hx
   rcases hx with rfl | rfl | rfl
   ·have:=h3 _ List.mem_cons_self;exact ⟨this.2.1,this.2.2.2⟩
   ·exact ⟨by simp only[bQ,noY,Bool.and_eq_true,Bool.true_and,Bool.and_true];exact hR.2.1,by simp⟩
   ·have:=h3 ⟨.grow,true,d⟩ (by simp);exact ⟨this.2.1,this.2.2.2⟩
  obtain ⟨hv,hb',h⟩:=bQ2 z c0 c1 c2 c3 c4 c5 c6 c7 c8 c9 c10 c11 c12 l b d k (by omega) (fun o H' _=>([⟨.exact,true,z⟩,rdB true c0 c1 c2 c3 c4 c5 c6 c7 c8 c9 c10 c11 c12 l b,⟨.grow,true,d⟩]:List Blk).map (·.k)=(H'.map (·.k)).take 3∧(∀b∈H',bQ b.cs=true∧b.k≠.ro)∧(∃v,o=.ret v∧noY v=true)∧Q o H') (fun n l' b' e=>⟨rfl,hpost l' b',⟨_,rfl,rfl⟩,hq n l' b' ⟨e⟩⟩)
  exact ⟨by simp[bB,old],by simp[bQ,noY],h3,_,1000,(⟨dX,eB,eF,fB⟩:EnvFor Tryd.prog (aG7 hv hb' z c0 c1 c2 c3 c4 c5 c6 c7 c8 c9 c10 c11 c12 l b d k)),rfl,h⟩
 ·rename_i k z c0 c1 c2 c3 c4 c5 c6 c7 c8 c9 c10 c11 c12 l b d
  obtain ⟨⟨h1,h2,h3⟩,hq⟩:=hc
  obtain ⟨k,rfl⟩:=Int.eq_ofNat_of_zero_le h1
  rw[Int.toNat_natCast] at hq
  have hR:=h3 _ (List.mem_cons_of_mem _ List.mem_cons_self)
  simp only[bQ,noY,Bool.and_eq_true,Bool.true_and,Bool.and_true,List.length_cons,List.length_nil] at hR
  have hpost:∀l' b',∀x∈([⟨.exact,true,z⟩,rdB false c0 c1 c2 c3 c4 c5 c6 c7 c8 c9 c10 c11 c12 l' b',⟨.grow,true,d⟩]:List Blk),bQ x.cs=true∧x.k≠.ro:=by
   intro l' b' x hx
   simp only[List.mem_cons,List.not_mem_nil,or_false] at hx
   rcases hx with rfl | rfl | rfl
   ·have:=h3 _ List.mem_cons_self;exact ⟨this.2.1,this.2.2.2⟩
   ·exact ⟨by simp only[bQ,noY,Bool.and_eq_true,Bool.true_and,Bool.and_true];exact hR.2.1,by simp⟩
   ·have:=h3 ⟨.grow,true,d⟩ (by simp);exact ⟨this.2.1,this.2.2.2⟩
  obtain ⟨hv,hb',h⟩:=bRi z c0 c1 c2 c3 c4 c5 c6 c7 c8 c9 c10 c11 c12 l b d k (by omega) (fun o H' _=>([⟨.exact,true,z⟩,rdB false c0 c1 c2 c3 c4 c5 c6 c7 c8 c9 c10 c11 c12 l b,⟨.grow,true,d⟩]:List Blk).map (·.k)=(H'.map (·.k)).take 3∧(∀b∈H',bQ b.cs=true∧b.k≠.ro)∧(∃v,o=.ret v∧noY v=true)∧Q o H') (fun n l' b' e=>⟨rfl,hpost l' b',⟨_,rfl,rfl⟩,hq n l' b' ⟨e⟩⟩)
  exact ⟨by simp[bB,old],by simp[bQ,noY],h3,_,1000,(⟨dX,eB,eF,fB⟩:EnvFor Tryd.prog (aIv hv hb' z c0 c1 c2 c3 c4 c5 c6 c7 c8 c9 c10 c11 c12 l b d k)),rfl,h⟩
 ·rename_i k z c0 c1 c2 c3 c4 c5 c6 c7 c8 c9 c10 c11 c12 l b d e
  obtain ⟨⟨h1,h2,h3⟩,hq⟩:=hc
  obtain ⟨k,rfl⟩:=Int.eq_ofNat_of_zero_le h1
  rw[Int.toNat_natCast] at hq
  have hR:=h3 _ (List.mem_cons_of_mem _ List.mem_cons_self)
  simp only[bQ,noY,Bool.and_eq_true,Bool.true_and,Bool.and_true,List.length_cons,List.length_nil] at hR
  have hpost:∀l' b',∀x∈([⟨.exact,true,z⟩,rdB false c0 c1 c2 c3 c4 c5 c6 c7 c8 c9 c10 c11 c12 l' b',⟨.grow,true,d⟩,⟨.grow,true,e⟩]:List Blk),bQ x.cs=true∧x.k≠.ro:=by
   intro l' b' x hx
   simp only[List.mem_cons,List.not_mem_nil,or_false] at hx
   rcases hx with rfl | rfl | rfl | rfl
   ·have:=h3 _ List.mem_cons_self;exact ⟨this.2.1,this.2.2.2⟩
   ·exact ⟨by simp only[bQ,noY,Bool.and_eq_true,Bool.true_and,Bool.and_true];exact hR.2.1,by simp⟩
   ·have:=h3 ⟨.grow,true,d⟩ (by simp);exact ⟨this.2.1,this.2.2.2⟩
   ·have:=h3 ⟨.grow,true,e⟩ (by simp);exact ⟨this.2.1,this.2.2.2⟩
  obtain ⟨hv,hb',h⟩:=bQ3 z c0 c1 c2 c3 c4 c5 c6 c7 c8 c9 c10 c11 c12 l b d e k (by omega) (fun o H' _=>([⟨.exact,true,z⟩,rdB false c0 c1 c2 c3 c4 c5 c6 c7 c8 c9 c10 c11 c12 l b,⟨.grow,true,d⟩,⟨.grow,true,e⟩]:List Blk).map (·.k)=(H'.map (·.k)).take 4∧(∀b∈H',bQ b.cs=true∧b.k≠.ro)∧(∃v,o=.ret v∧noY v=true)∧Q o H') (fun n l' b' e=>⟨rfl,hpost l' b',⟨_,rfl,rfl⟩,hq n l' b' ⟨e⟩⟩)
  exact ⟨by simp[bB,old],by simp[bQ,noY],h3,_,1000,(⟨dX,eB,eF,fB⟩:EnvFor Tryd.prog (aG5 hv hb' z c0 c1 c2 c3 c4 c5 c6 c7 c8 c9 c10 c11 c12 l b d e k)),rfl,h⟩
 ·rename_i k z c0 c1 c2 c3 c4 c5 c6 c7 c8 c9 c10 c11 c12 l b d e g
  obtain ⟨⟨h1,h2,h3⟩,hq⟩:=hc
  obtain ⟨k,rfl⟩:=Int.eq_ofNat_of_zero_le h1
  rw[Int.toNat_natCast] at hq
  have hR:=h3 _ (List.mem_cons_of_mem _ List.mem_cons_self)
  simp only[bQ,noY,Bool.and_eq_true,Bool.true_and,Bool.and_true,List.length_cons,List.length_nil] at hR
  have hpost:∀l' b',∀x∈([⟨.exact,true,z⟩,rdB false c0 c1 c2 c3 c4 c5 c6 c7 c8 c9 c10 c11 c12 l' b',⟨.exact,true,d⟩,⟨.exact,true,e⟩,⟨.grow,true,g⟩]:List Blk),bQ x.cs=true∧x.k≠.ro:=by
   intro l' b' x hx
   simp only[List.mem_cons,List.not_mem_nil,or_false] at hx
   rcases hx with rfl | rfl | rfl | rfl | rfl
   ·have:=h3 _ List.mem_cons_self;exact ⟨this.2.1,this.2.2.2⟩
   ·exact ⟨by simp only[bQ,noY,Bool.and_eq_true,Bool.true_and,Bool.and_true];exact hR.2.1,by simp⟩
   ·have:=h3 ⟨.exact,true,d⟩ (by simp);exact ⟨this.2.1,this.2.2.2⟩
   ·have:=h3 ⟨.exact,true,e⟩ (by simp);exact ⟨this.2.1,this.2.2.2⟩
   ·have:=h3 ⟨.grow,true,g⟩ (by simp);exact ⟨this.2.1,this.2.2.2⟩
  obtain ⟨hv,hb',h⟩:=bRj z c0 c1 c2 c3 c4 c5 c6 c7 c8 c9 c10 c11 c12 l b d e g k (by omega) (fun o H' _=>([⟨.exact,true,z⟩,rdB false c0 c1 c2 c3 c4 c5 c6 c7 c8 c9 c10 c11 c12 l b,⟨.exact,true,d⟩,⟨.exact,true,e⟩,⟨.grow,true,g⟩]:List Blk).map (·.k)=(H'.map (·.k)).take 5∧(∀b∈H',bQ b.cs=true∧b.k≠.ro)∧(∃v,o=.ret v∧noY v=true)∧Q o H') (fun n l' b' e=>⟨rfl,hpost l' b',⟨_,rfl,rfl⟩,hq n l' b' ⟨e⟩⟩)
  exact ⟨by simp[bB,old],by simp[bQ,noY],h3,_,1000,(⟨dX,eB,eF,fB⟩:EnvFor Tryd.prog (aIs hv hb' z c0 c1 c2 c3 c4 c5 c6 c7 c8 c9 c10 c11 c12 l b d e g k)),rfl,h⟩
 ·rename_i k z c0 c1 c2 c3 c4 c5 c6 c7 c8 c9 c10 c11 c12 l b d
  obtain ⟨⟨h1,h2,h3⟩,hq⟩:=hc
  obtain ⟨k,rfl⟩:=Int.eq_ofNat_of_zero_le h1
  rw[Int.toNat_natCast] at hq
  have hR:=h3 _ (List.mem_cons_of_mem _ List.mem_cons_self)
  simp only[bQ,noY,Bool.and_eq_true,Bool.true_and,Bool.and_true,List.length_cons,List.length_nil] at hR
  have hpost:∀l' b',∀x∈([⟨.exact,true,z⟩,rdB true c0 c1 c2 c3 c4 c5 c6 c7 c8 c9 c10 c11 c12 l' b',⟨.exact,true,d⟩]:List Blk),bQ x.cs=true∧x.k≠.ro:=by
   intro l' b' x hx
   simp only[List.mem_cons,List.not_mem_nil,or_false] at hx
   rcases hx with rfl | rfl | rfl
   ·have:=h3 _ List.mem_cons_self;exact ⟨this.2.1,this.2.2.2⟩
   ·exact ⟨by simp only[bQ,noY,Bool.and_eq_true,Bool.true_and,Bool.and_true];exact hR.2.1,by simp⟩
   ·have:=h3 ⟨.exact,true,d⟩ (by simp);exact ⟨this.2.1,this.2.2.2⟩
  obtain ⟨hv,hb',h⟩:=bRo z c0 c1 c2 c3 c4 c5 c6 c7 c8 c9 c10 c11 c12 l b d k (by omega) (fun o H' _=>([⟨.exact,true,z⟩,rdB true c0 c1 c2 c3 c4 c5 c6 c7 c8 c9 c10 c11 c12 l b,⟨.exact,true,d⟩]:List Blk).map (·.k)=(H'.map (·.k)).take 3∧(∀b∈H',bQ b.cs=true∧b.k≠.ro)∧(∃v,o=.ret v∧noY v=true)∧Q o H') (fun n l' b' e=>⟨rfl,hpost l' b',⟨_,rfl,rfl⟩,hq n l' b' ⟨e⟩⟩)
  exact ⟨by simp[bB,old],by simp[bQ,noY],h3,_,1000,(⟨dX,eB,eF,fB⟩:EnvFor Tryd.prog (aIj hv hb' z c0 c1 c2 c3 c4 c5 c6 c7 c8 c9 c10 c11 c12 l b d k)),rfl,h⟩
 ·rename_i k z c0 c1 c2 c3 c4 c5 c6 c7 c8 c9 c10 c11 c12 l b d e g j
  obtain ⟨⟨h1,h2,h3⟩,hq⟩:=hc
  obtain ⟨k,rfl⟩:=Int.eq_ofNat_of_zero_le h1
  rw[Int.toNat_natCast] at hq
  have hR:=h3 _ (List.mem_cons_of_mem _ List.mem_cons_self)
  simp only[bQ,noY,Bool.and_eq_true,Bool.true_and,Bool.and_true,List.length_cons,List.length_nil] at hR
  have hpost:∀l' b',∀x∈([⟨.exact,true,z⟩,rdB false c0 c1 c2 c3 c4 c5 c6 c7 c8 c9 c10 c11 c12 l' b',⟨.exact,true,d⟩,⟨.exact,true,e⟩,⟨.grow,true,g⟩,⟨.exact,true,j⟩]:List Blk),bQ x.cs=true∧x.k≠.ro:=by
   intro l' b' x hx
   simp only[List.mem_cons,List.not_mem_nil,or_false] at hx
   rcases hx with rfl | rfl | rfl | rfl | rfl | rfl
   ·have:=h3 _ List.mem_cons_self;exact ⟨this.2.1,this.2.2.2⟩
   ·exact ⟨by simp only[bQ,noY,Bool.and_eq_true,Bool.true_and,Bool.and_true];exact hR.2.1,by simp⟩
   ·have:=h3 ⟨.exact,true,d⟩ (by simp);exact ⟨this.2.1,this.2.2.2⟩
   ·have:=h3 ⟨.exact,true,e⟩ (by simp);exact ⟨this.2.1,this.2.2.2⟩
   ·have:=h3 ⟨.grow,true,g⟩ (by simp);exact ⟨this.2.1,this.2.2.2⟩
   ·have:=h3 ⟨.exact,true,j⟩ (by simp);exact ⟨this.2.1,this.2.2.2⟩
  obtain ⟨hv,hb',h⟩:=bRd z c0 c1 c2 c3 c4 c5 c6 c7 c8 c9 c10 c11 c12 l b d e g j k (by omega) (fun o H' _=>([⟨.exact,true,z⟩,rdB false c0 c1 c2 c3 c4 c5 c6 c7 c8 c9 c10 c11 c12 l b,⟨.exact,true,d⟩,⟨.exact,true,e⟩,⟨.grow,true,g⟩,⟨.exact,true,j⟩]:List Blk).map (·.k)=(H'.map (·.k)).take 6∧(∀b∈H',bQ b.cs=true∧b.k≠.ro)∧(∃v,o=.ret v∧noY v=true)∧Q o H') (fun n l' b' e=>⟨rfl,hpost l' b',⟨_,rfl,rfl⟩,hq n l' b' ⟨e⟩⟩)
  exact ⟨by simp[bB,old],by simp[bQ,noY],h3,_,1000,(⟨dX,eB,eF,fB⟩:EnvFor Tryd.prog (aHh hv hb' z c0 c1 c2 c3 c4 c5 c6 c7 c8 c9 c10 c11 c12 l b d e g j k)),rfl,h⟩
 ·exact hc.elim
end Go.Proofs.YtafchcmemeinlaaDoor
