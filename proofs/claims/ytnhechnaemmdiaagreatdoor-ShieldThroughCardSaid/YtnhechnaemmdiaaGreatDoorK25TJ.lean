/-
  Chapter 25: the region in which a packet and its box are put into the lists: its contract.
-/
import Derived.Test.YtnhechnaemmdiaaGreatDoorK25TI
set_option linter.unusedSimpArgs false
set_option linter.unusedVariables false
set_option linter.unusedSectionVars false
namespace Go.Proofs.YtnhechnaemmdiaaGreatDoor
open Go.RowKit
set_option maxRecDepth 1000000

theorem gP (b:Nat):∀x y:List AV,aL b (x++y)=(aL b x&&aL b y)
 | [],y=>rfl
 | a::x,y=>by rw[bPh,aL,aL,gP b x y,bQc]
theorem gM:∀x y:List AV,bG (x++y)=(bG x&&bG y)
 | [],y=>rfl
 | a::x,y=>by rw[bPh,bG,bG,gM x y,bQc]
theorem qR {b:Nat} {x:List AV} (n:Nat) (h:aL b x=true):aL b (x.take n)=true∧aL b (x.drop n)=true:=by
 rw[←bPe n x,gP,bN9] at h
 exact h
theorem qF {x:List AV} (n:Nat) (h:bG x=true):bG (x.take n)=true∧bG (x.drop n)=true:=by
 rw[←bPe n x,gM,bN9] at h
 exact h
theorem aGj {m:M} {k:IntKind} {n:Int} {v:Value} (h:VR m (.int k n) v):v=.int k n:=by simpa only [VR] using h
theorem rV {n i:Nat} {p:Nat→Bool} (h:(List.range n).all p=true) (hi:i<n):p i=true:=bPu.1 h i (List.mem_range.2 hi)
theorem bJt {i:Nat} (h:i<24):dT i<177:=by unfold dT;cases h1:Nat.blt i 22<;>simp<;>omega
theorem bHl {i j:Nat} (hi:i<24) (hj:j<24) (h:dT i=dT j):i=j:=by
 have e:∀i,dT i=if i<22 then 108+i else i-12:=fun i=>by
  unfold dT
  by_cases h:i<22
  ·rw[if_pos h,show Nat.blt i 22=true from Md.bltQ_iff.2 h];rfl
  ·rw[if_neg h,show Nat.blt i 22=false by rw[bQk];exact fun g=>h (Md.bltQ_iff.1 g)];rfl
 rw[e,e] at h
 split at h<;>split at h<;>omega
theorem aGq {i:Nat} (h:i<24):afT i=([[],[],[],[0,1,2],[],[4],[],[],[6,7],[5,8],[3,9,9],[],[],[],[11,12,13],[],[15],[],[],[17,18],[16,19,10],[14,20,20],[10,21,0,1,2,3,4,5,6,7,8,9,10],[21,22,0,1,2,3,4,5,6,7,8,9,10,11,12,13,14,15,16,17,18,19,20,21,22]]:List (List Nat)).getD i []:=by
 have h1:=congrArg (fun l=>l.getD i []) aYi
 simpa [h] using h1
section
variable {gl:Nat→Option (List AV)} {m0 m:M} {H:List Blk} {a0 a:Act} {w0 w:World} {L:Nat→Bool} {i:Nat} {X Y C:List AV} {bx:List UInt8} {n k:Nat} {p:AV}
def FT (X Y C:List AV) (bx:List UInt8) (n k:Nat) (i:Nat) (m:M) (v:Value):Prop:=VR m (avT X Y C bx n k i) v∧(bDf i=true→∃oa l,v=.slice oa l l)
theorem aYc (hJ:RgJ gl opsT 24 dT (FT X Y C bx n k) m0 H a0 w0 L a w) (hL:L i=false) (hi:i<24) (he:∀j∈afT i,L j=true) (hm:Ext m0 m) (hq:∀j,j<24→L j=true→FT X Y C bx n k j m (a.tmps.getD (dT j) undef))
  (h0:∀t∈[10,11,14,16,20],VR m0 (tvT X Y C bx n k p t) (a0.tmps.getD t undef)):∀t∈usT i,VR m (tvT X Y C bx n k p t) (a.tmps.getD t undef):=by
 intro t ht
 have hr:=bPu.1 (rV aSp hi) t ht
 unfold bM2 at hr
 cases hb:Nat.blt t 108 with
 | false=>
  rw[hb] at hr
  simp only[bPi,bN9] at hr
  obtain ⟨g1,g2⟩:=hr
  have h22:t-108<22:=Md.bltQ_iff.1 g2
  have ht8:108≤t:=by
   have:=mt Md.bltQ_iff.2 (by rw[hb];simp:¬ Nat.blt t 108=true)
   omega
  have hd:dT (t-108)=t:=by unfold dT;rw[g2,bO3];omega
  have hv:=hq (t-108) (by omega) (he _ (by simpa using g1))
  rw[hd] at hv
  have e:tvT X Y C bx n k p t=avT X Y C bx n k (t-108):=by
   unfold tvT
   split<;>first | omega | rfl
  rw[e]
  exact hv.1
 | true=>
  rw[hb] at hr
  simp only[bO3,bN9,bOf,bOd] at hr
  obtain ⟨g1,g2⟩:=hr
  have hlt:=Md.bltQ_iff.1 hb
  have hmem:t∈[10,11,14,16,20]:=by
   have:∀i,i<24→(usT i).all (fun t => !Nat.blt t 108||[10,11,14,16,20].contains t)=true:=by decide
   have:=bPu.1 (this i hi) t ht
   rw[hb] at this
   simpa using this
  have ho:=hJ.out t fun j hj hLj e=>by
   unfold dT at e
   cases hb2:Nat.blt j 22 with
   | true=>rw[hb2,bO3] at e;omega
   | false=>
    rw[hb2,bPi] at e
    have hj22:22≤j:=by
     have:=mt Md.bltQ_iff.2 (by rw[hb2];simp:¬ Nat.blt j 22=true)
     omega
    have hcl:∀q∈afT j,L q=true:=fun q hq2=>by
     obtain ⟨ed,q1,q2⟩:=bPs.1 hq2
     obtain ⟨q3,q4⟩:=List.mem_filter.1 q1
     rw[←q2]
     exact hJ.cl j (opT j) hLj (aG0 hj) ed (by simpa using q3) q4
    have hj2:j=22∨j=23:=by omega
    rcases hj2 with rfl | rfl
    ·rcases g1 with g1 | g1
     ·subst e
      simp at g1
     ·have:=hcl i (by simpa using g1)
      rw[hL] at this
      cases this
    ·rcases g2 with g2 | g2
     ·subst e
      simp at g2
     ·have:=hcl i (by simpa using g2)
      rw[hL] at this
      cases this
  rw[ho]
  exact VR.mono hm _ _ (h0 t hmem)

theorem aXi {us:List Nat} {tv:Nat→AV} {aop:AOp} {v0:AV} {rd:List Rdc} (hH:HR gl m H w) (hu:∀t∈us,VR m (tv t) (a.tmps.getD t undef)) (hc:cOp Tryz.prog (opT i).op=aop)
  (hl:lop gl (evT us tv) (cur H) (aQ H) H.length aop=some { v:=v0,pre:=true,rd:=rd }) :
  ∃v w' m',(execOp a.eval (opT i)).run Tryz.prog w=.ok (.value v) w'∧HR gl m' H w'∧Mv m H w m' H w'∧VR m' v0 v:=by
 rcases aCd (P:=Tryz.prog) hH (aOs hu) (fun _=>rfl) (opT i) H.length (by rw[hc];exact hl) rfl with ⟨_,v,h1,h2⟩ | ⟨nb,_,_,_,h1,_⟩
 ·exact ⟨v,w,m,h1,hH,Mv.refl _ _ _,h2⟩
 ·cases h1
theorem aFr {i:Nat} (h:i∈[0,1,2,4,5,6,7,8,11,12,13,15,16,17,18,19,22,23]):cOp Tryz.prog (opT i).op=aoT i:=by
 have h1:∀l:List Nat,l.map (fun i=>cOp Tryz.prog (opT i).op)=l.map aoT→∀i∈l,cOp Tryz.prog (opT i).op=aoT i:=fun l=>by
  induction l with
  | nil=>simp
  | cons x l ih=>
   intro e i hi
   simp only[bO2,bP6] at e
   rcases bOr.1 hi with rfl | hi
   ·exact e.1
   ·exact ih e.2 i hi
 exact h1 _ bEw i h
set_option maxHeartbeats 2000000 in
theorem bLo {id tot:Nat} (hk:k≤n∧n≤1000∧X.length=n*9∧Y.length=n∧C.length=9) (hf:aL 0 (X++C)=true∧bG (X++C)=true∧aL 0 Y=true∧bG Y=true) (hp:(cur H id tot&&Nat.ble 9 tot)=true) (hC:aQ H id 0 9=C)
  (hH:HR gl m H w) (hi:i<24) (hu:∀t∈usT i,VR m (tvT X Y C bx n k (.ptr id tot 0) t) (a.tmps.getD t undef)) (hq:∀j∈afT i,FT X Y C bx n k j m (a.tmps.getD (dT j) undef)) :
  ∃v w' m',(execOp a.eval (opT i)).run Tryz.prog w=.ok (.value v) w'∧HR gl m' H w'∧Mv m H w m' H w'∧FT X Y C bx n k i m' v:=by
 obtain ⟨k1,k2,k3,k4,k5⟩:=hk
 obtain ⟨f1,f2,f3,f4⟩:=hf
 rw[gP,bN9] at f1
 rw[gM,bN9] at f2
 obtain ⟨x1,x2⟩:=qR (k*9) f1.1
 obtain ⟨x3,x4⟩:=qF (k*9) f2.1
 obtain ⟨y1,y2⟩:=qR (k*1) f3
 obtain ⟨y3,y4⟩:=qF (k*1) f4
 have x5:=(qR ((n-k)*9) x2).1
 have x6:=(qF ((n-k)*9) x4).1
 have y5:=(qR ((n-k)*1) y2).1
 have y6:=(qF ((n-k)*1) y4).1
 have quiet:∀ {rd:List Rdc},i∈[0,1,2,4,5,6,7,8,11,12,13,15,16,17,18,19,22,23]→bDf i=false→lop gl (evT (usT i) (tvT X Y C bx n k (.ptr id tot 0))) (cur H) (aQ H) H.length (aoT i)=some { v:=avT X Y C bx n k i,pre:=true,rd:=rd } →
   ∃v w' m',(execOp a.eval (opT i)).run Tryz.prog w=.ok (.value v) w'∧HR gl m' H w'∧Mv m H w m' H w'∧FT X Y C bx n k i m' v:=fun h1 h2 h3=>by
  obtain ⟨v,w',m',q1,q2,q3,q4⟩:=aXi hH hu (aFr h1) h3
  exact ⟨v,w',m',q1,q2,q3,q4,fun h=>by rw[h2] at h;cases h⟩
 have hsl:∀ (z t:Nat) (A:List AV) (b c:Nat) (rd:List Rdc),k≤n→(some { v:=.lst t ((A.drop (k*z)).take ((n-k)*z)) (n-k) z,pre:=(true&&true&&Nat.ble k n&&Nat.ble n n&&Nat.beq z z),rd:=[] }:Option LR)=some { v:=.lst t ((A.drop (k*z)).take ((n-k)*z)) (n-k) z,pre:=true,rd:=[] }:=fun z t A b c rd h=>by
  simp[h]
 obtain ⟨u1,u2,u3,u4,u5⟩:=bN0
 obtain ⟨w1,w2,w3,w4,w5⟩:=bN5
 match i,hi with
 | 0,_ | 6,_ | 1,_ | 2,_ | 7,_ | 12,_ | 13,_ | 18,_ | 11,_ | 17,_ | 15,_ | 22,_ | 23,_=>exact quiet (by decide) rfl rfl
 | 4,_=>
  refine quiet (rd:=[⟨id,0,9⟩]) (by decide) rfl ?_
  show (some { v:=.agg (aQ H id 0 9),pre:=(cur H id tot&&Nat.ble (0+9) tot),rd:=[⟨id,0,9⟩] }:Option LR)=_
  rw[hp,hC]
  rfl
 | 8,_=>
  refine quiet (rd:=[]) (by decide) rfl (Eq.trans ?_ (hsl 9 0 X 0 0 [] k1))
  show (some { v:=.lst 0 ((X.drop ((k:Int).toNat*9)).take ((n-(k:Int).toNat)*9)) (n-(k:Int).toNat) 9,pre:=(decide ((0:Int)≤(k:Int))&&true&&Nat.ble (k:Int).toNat n&&Nat.ble n n&&Nat.beq 9 9) }:Option LR)=_
  rw[bOa,bO4 (bSp k)]
 | 19,_=>
  refine quiet (rd:=[]) (by decide) rfl (Eq.trans ?_ (hsl 1 0 Y 0 0 [] k1))
  show (some { v:=.lst 0 ((Y.drop ((k:Int).toNat*1)).take ((n-(k:Int).toNat)*1)) (n-(k:Int).toNat) 1,pre:=(decide ((0:Int)≤(k:Int))&&true&&Nat.ble (k:Int).toNat n&&Nat.ble n n&&Nat.beq 1 1) }:Option LR)=_
  rw[bOa,bO4 (bSp k)]
 | 5,_=>
  have hb:∀l:List AV,l.length=9→aO zT 0 l=l:=fun l h=>by simp[aO,zT,h]
  obtain ⟨oa,w',m',q1,q2,q3,q4⟩:=aOl (P:=Tryz.prog) (C:=C) (sz:=9) (r := { v:=.sl H.length C.length 0 1 9,pre:=true,nb:=some (dW .exact C) }) hH (aOs hu) (fun _=>rfl) (o:=opT 5) (by
   rw[aFr (by decide)]
   show (match (match some (true,aO zT 0 C) with | none=>none | some (b,r)=>some (b&&Nat.beq C.length 9&&Nat.ble (0+9) zT.length,r)) with | some (b,cs)=>(some { v:=.sl H.length cs.length 0 1 9,pre:=b,nb:=some (dW .exact cs) }:Option LR) | none=>none)=_
   rw[hb C k5]
   show (some { v:=.sl H.length C.length 0 1 9,pre:=(true&&Nat.beq C.length 9&&Nat.ble (0+9) zT.length),nb:=some (dW .exact C) }:Option LR)=_
   rw[k5]
   rfl) rfl rfl rfl k5 (by omega) f1.2 f2.2
  exact ⟨_,w',m',q1,q2,q3,q4,fun _=>⟨oa,1,rfl⟩⟩
 | 16,_=>
  obtain ⟨oa,w',m',q1,q2,q3,q4⟩:=aOl (P:=Tryz.prog) (C:=[.str bx]) (sz:=1) (r := { v:=.sl H.length 1 0 1 1,pre:=true,nb:=some (dW .exact [.str bx]) }) hH (aOs hu) (fun _=>rfl) (o:=opT 16) (by
   rw[aFr (by decide)]
   rfl) rfl rfl rfl rfl (by omega) rfl rfl
  exact ⟨_,w',m',q1,q2,q3,q4,fun _=>⟨oa,1,rfl⟩⟩
 | 3,_=>
  have e1:=hu 108 (by decide)
  have e2:=hu 109 (by decide)
  have e3:=hu 110 (by decide)
  obtain ⟨oa,q1,q2⟩:=aB1 (P:=Tryz.prog) (n:=k) (ρ:=a.eval) co3 u1 u2 (by rw[u4];exact e1) (aGj e2) (aGj e3) k1
  rw[u4] at q2
  exact ⟨_,w,m,q1,hH,Mv.refl _ _ _,q2,fun _=>⟨oa,k,rfl⟩⟩
 | 14,_=>
  have e1:=hu 119 (by decide)
  have e2:=hu 120 (by decide)
  have e3:=hu 121 (by decide)
  obtain ⟨oa,q1,q2⟩:=aB1 (P:=Tryz.prog) (n:=k) (ρ:=a.eval) bM3 w1 w2 (by rw[w4];exact e1) (aGj e2) (aGj e3) k1
  rw[w4] at q2
  exact ⟨_,w,m,q1,hH,Mv.refl _ _ _,q2,fun _=>⟨oa,k,rfl⟩⟩
 | 9,_=>
  have e1:=hu 113 (by decide)
  have e2:=hu 116 (by decide)
  obtain ⟨oa,l,e3⟩:=(hq 5 (by rw[aGq (by omega)];decide)).2 rfl
  have e4:l=1:=by
   have e1:VR m (.lst 0 C 1 9) (a.tmps.getD (dT 5) undef):=e1
   rw[e3] at e1
   simp only[VR] at e1
   obtain ⟨_,_,_,_,e,_⟩:=e1
   cases e;rfl
  subst e4
  obtain ⟨v,w',m',q1,q2,q3,q4,_⟩:=qH (P:=Tryz.prog) (ρ:=a.eval) (X:=C) (Y:=(X.drop (k*9)).take ((n-k)*9)) (l:=1) (n:=n-k) hH co9 u1 u2 (by rw[u3,u4]) ⟨_,u1⟩ (by omega) (by rw[u4];exact e1) e3 (by rw[u4];exact e2) (by rw[u4];omega) (by rw[u4,bOu,bO7,k3,bTo];omega) (by rw[gP,f1.2,x5];rfl) (by rw[gM,f2.2,x6];rfl) (by omega) (by rw[u5];omega)
  rw[u4] at q4
  exact ⟨v,w',m',q1,q2,q3,q4,fun h=>by cases h⟩
 | 20,_=>
  have e1:=hu 124 (by decide)
  have e2:=hu 127 (by decide)
  obtain ⟨oa,l,e3⟩:=(hq 16 (by rw[aGq (by omega)];decide)).2 rfl
  have e4:l=1:=by
   have e1:VR m (.lst 0 [.str bx] 1 1) (a.tmps.getD (dT 16) undef):=e1
   rw[e3] at e1
   simp only[VR] at e1
   obtain ⟨_,_,_,_,e,_⟩:=e1
   cases e;rfl
  subst e4
  obtain ⟨v,w',m',q1,q2,q3,q4,_⟩:=qH (P:=Tryz.prog) (ρ:=a.eval) (X:=[.str bx]) (Y:=(Y.drop (k*1)).take ((n-k)*1)) (l:=1) (n:=n-k) hH bMy w1 w2 (by rw[w3,w4]) ⟨_,w1⟩ (by omega) (by rw[w4];exact e1) e3 (by rw[w4];exact e2) (by rw[w4];rfl) (by rw[w4,bOu,bO7,k4];omega) (by rw[gP,y5];rfl) (by rw[gM,y6];rfl) (by omega) (by rw[w5];omega)
  rw[w4] at q4
  exact ⟨v,w',m',q1,q2,q3,q4,fun h=>by cases h⟩
 | 10,_=>
  have e1:=hu 111 (by decide)
  have e2:=hu 117 (by decide)
  obtain ⟨oa,l,e3⟩:=(hq 3 (by rw[aGq (by omega)];decide)).2 rfl
  have e4:l=k:=by
   have e1:VR m (.lst 0 (X.take (k*9)) k 9) (a.tmps.getD (dT 3) undef):=e1
   rw[e3] at e1
   simp only[VR] at e1
   obtain ⟨_,_,_,_,e,_⟩:=e1
   cases e;rfl
  subst e4
  obtain ⟨v,w',m',q1,q2,q3,q4,_⟩:=qH (P:=Tryz.prog) (ρ:=a.eval) (X:=X.take (l*9)) (Y:=C++(X.drop (l*9)).take ((n-l)*9)) (l:=l) (n:=1+(n-l)) hH bM1 u1 u2 (by rw[u3,u4]) ⟨_,u1⟩ (by omega) (by rw[u4];exact e1) e3 (by rw[u4];exact e2) (by rw[u4,bOu,k3];omega) (by rw[u4,bN8,bOu,bO7,k3,k5,bTo,bQn,bTo];omega) (by rw[gP,gP,f1.2,x5,x1];rfl) (by rw[gM,gM,f2.2,x6,x3];rfl) (by omega) (by rw[u5];omega)
  rw[u4] at q4
  exact ⟨v,w',m',q1,q2,q3,q4,fun h=>by cases h⟩
 | 21,_=>
  have e1:=hu 122 (by decide)
  have e2:=hu 128 (by decide)
  obtain ⟨oa,l,e3⟩:=(hq 14 (by rw[aGq (by omega)];decide)).2 rfl
  have e4:l=k:=by
   have e1:VR m (.lst 0 (Y.take (k*1)) k 1) (a.tmps.getD (dT 14) undef):=e1
   rw[e3] at e1
   simp only[VR] at e1
   obtain ⟨_,_,_,_,e,_⟩:=e1
   cases e;rfl
  subst e4
  obtain ⟨v,w',m',q1,q2,q3,q4,_⟩:=qH (P:=Tryz.prog) (ρ:=a.eval) (X:=Y.take (l*1)) (Y:=[.str bx]++(Y.drop (l*1)).take ((n-l)*1)) (l:=l) (n:=1+(n-l)) hH bNn w1 w2 (by rw[w3,w4]) ⟨_,w1⟩ (by omega) (by rw[w4];exact e1) e3 (by rw[w4];exact e2) (by rw[w4,bOu,k4];omega) (by rw[w4,bN8,bOu,bO7,k4];simp) (by rw[gP,gP,y5,y1];rfl) (by rw[gM,gM,y6,y3];rfl) (by omega) (by rw[w5];omega)
  rw[w4] at q4
  exact ⟨v,w',m',q1,q2,q3,q4,fun h=>by cases h⟩
 | i+24,h=>omega
end
theorem bMs (id:Nat):aGa Tryz.prog gl0 177 (.region id opsT true) gT:=by
 intro B r s Q m a w hS hB hg
 unfold gT at hg
 split at hg
 rotate_left
 ·exact hg.elim
 rename_i X n Y n' k' bi tot bx e1 e2 e3 e4 e5
 cases hc:(cur s.hp bi tot&&Nat.ble 9 tot&&((List.range 22).all fun i=>bMh (s.tm.get (108+i))))<;>rw[hc] at hg
 ·exact hg.elim
 obtain ⟨⟨⟨⟨g0,g1,g2,g3,g4,gn,g5⟩,hf⟩⟩,hQ⟩:=hg
 obtain rfl:=gn.symm
 obtain ⟨k,rfl⟩:∃k:Nat,k'=k:=⟨k'.toNat,by omega⟩
 rw[bOa] at hQ
 rw[bN9] at hc
 obtain ⟨hp,hun'⟩:=hc
 have hun:∀i,i<22→s.tm.get (108+i)=.undef:=fun i hi=>by
  have:=rV hun' hi
  unfold bMh at this
  split at this
  ·assumption
  ·cases this
 generalize hC:aQ s.hp bi 0 9=C at *
 have hk:k≤n∧n≤1000∧X.length=n*9∧Y.length=n∧C.length=9:=⟨by omega,g2,g3,g4,g5⟩
 have hX:(X.drop (k*9)).take ((n-k)*9)=X.drop (k*9):=bOk (by rw[bO7,g3,bTo];omega)
 have hY:(Y.drop (k*1)).take ((n-k)*1)=Y.drop (k*1):=bOk (by rw[bO7,g4];omega)
 have hact:∀ (i:Nat) (o:Oper),opsT[i]? = some o→i<24∧o=opT i:=fun i o ho=>by
  have hi:i<24:=by rw[←aFc];exact (bOm.1 ho).1
  rw[aG0 hi] at ho
  cases ho
  exact ⟨hi,rfl⟩
 refine bFr (P:=Tryz.prog) (gl:=gl0) (n:=24) (nt:=177) (d:=dT) (F:=FT X Y C bx n k) (m0:=m) (H:=s.hp) (a0:=a) (w0:=w) iB (fun i m m' v he h=>⟨VR.mono he _ _ h.1,h.2⟩) hS.nt (fun i hi=>bJt hi) (fun i j hi hj h=>bHl hi hj h) aFc (fun i o ho => ?_) hS.hp (fun L a' w' i o m' hJ hL ho he hH hMv hq => ?_) (fun L a' w' hJ hall => ?_)
 ·obtain ⟨hi,rfl⟩:=hact i o ho
  have h:=rV aXd hi
  unfold okT at h
  simp only[bN9,bPt,bPu,Option.isNone_iff_eq_none] at h
  refine ⟨fun e he=>Md.bltQ_iff.1 (h.2 e (by simpa using he)),h.1.1,h.1.2,fun c hc => ?_⟩
  have hcop:∀i,i<24→i∈[0,1,2,4,5,6,7,8,11,12,13,15,16,17,18,19,22,23]∨i=3∨i=14∨i=9∨i=10∨i=20∨i=21:=by decide
  rcases hcop i hi with h1 | rfl | rfl | rfl | rfl | rfl | rfl
  ·have h2:=aFr h1
   rw[hc] at h2
   have h3:∀i∈[0,1,2,4,5,6,7,8,11,12,13,15,16,17,18,19,22,23],(match aoT i with | .bad _=>false | _=>true)=true:=by decide
   have h4:=h3 i h1
   rw[←h2] at h4
   cases h4
  ·rw[co3] at hc;cases hc
  ·rw[bM3] at hc;cases hc
  ·rw[co9] at hc;cases hc
  ·rw[bM1] at hc;cases hc
  ·rw[bMy] at hc;cases hc
  ·rw[bNn] at hc;cases hc
 ·obtain ⟨hi,rfl⟩:=hact i o ho
  have hL2:∀j∈afT i,L j=true:=fun j hj=>by
   obtain ⟨ed,q1,q2⟩:=bPs.1 hj
   obtain ⟨q3,q4⟩:=List.mem_filter.1 q1
   rw[←q2]
   exact he ed (by simpa using q3) q4
  refine bLo hk hf hp hC hH hi (aYc hJ hL hi hL2 hMv.ext hq fun t ht => ?_) fun j hj=>hq j (hJ.dom j (hL2 j hj)) (hL2 j hj)
  simp only[bOr,bOx,bP3] at ht
  have ht':=hS.tm t
  rcases ht with rfl | rfl | rfl | rfl | rfl
  ·rw[show tvT X Y C bx n k (.ptr bi tot 0) 10=.lst 0 X n 9 from rfl,←e1];exact aOa _ _ _ _ ht'
  ·rw[show tvT X Y C bx n k (.ptr bi tot 0) 11=.lst 0 Y n 1 from rfl,←e2];exact aOa _ _ _ _ ht'
  ·rw[e4] at ht';exact ht'
  ·rw[e5] at ht';exact ht'
  ·rw[e3] at ht';exact ht'
 ·obtain ⟨m',hH,hMv,hq⟩:=hJ.m
  refine ⟨_,_,m',hQ,trivial,⟨fun t => ?_,by rw[hJ.sz];exact hS.nt, ?_,hH⟩,hMv⟩
  ·show VR m' ((T.put 12 (T.put 12 s.tm 10 _) 11 _).get t) _
   rw[T.get_put 12 _ 11 _ t (by omega)]
   by_cases h11:t=11
   ·subst h11
    rw[if_pos rfl]
    have:=(hq 23 (by omega) (hall 23 (by omega))).1
    rw[show n+1=k+(1+(n-k)) by omega,aC3,←hY]
    exact this
   rw[if_neg h11,T.get_put 12 _ 10 _ t (by omega)]
   by_cases h10:t=10
   ·subst h10
    rw[if_pos rfl]
    have:=(hq 22 (by omega) (hall 22 (by omega))).1
    rw[show n+1=k+(1+(n-k)) by omega,aC3,←hX]
    exact this
   rw[if_neg h10]
   by_cases hr:108≤t∧t<130
   ·have:=hun (t-108) (by omega)
    rw[show 108+(t-108)=t by omega] at this
    rw[this]
    simp[VR]
   ·rw[hJ.out t fun i hi _ e => ?_]
    ·exact VR.mono hMv.ext _ _ (hS.tm t)
    ·unfold dT at e
     cases hb:Nat.blt i 22 with
     | true=>
      have:=Md.bltQ_iff.1 hb
      rw[hb,bO3] at e
      omega
     | false=>
      have:=mt Md.bltQ_iff.2 (by rw[hb];simp:¬ Nat.blt i 22=true)
      rw[hb,bPi] at e
      omega
  ·have:=DF.step (B:=B) hS.df hS.hp hMv.toMw
   rw[hJ.df]
   exact this
end Go.Proofs.YtnhechnaemmdiaaGreatDoor
