/-
  Chapter 24: a reader takes a number.
-/
import Derived.Test.YtafchcmemeinlaaDoorC24XK
set_option linter.unusedSimpArgs false
set_option linter.unusedVariables false
set_option linter.unusedSectionVars false
namespace Go.Proofs.YtafchcmemeinlaaDoor
open Go.RowKit
set_option maxRecDepth 1000000

def qR (l:List UInt8):Int:=l.foldl (fun a c=>a*256+(c.toNat:Int)) 0
def tkM (k:Nat) (l:List UInt8) (b:Bool):Int×List UInt8×Bool:=if l.length<k then (0,[],true) else (qR (l.take k),l.drop k,b)
theorem aOj (l:List UInt8) (c:UInt8):qR (l++[c])=qR l*256+(c.toNat:Int):=by simp[qR]
theorem jE {l:List UInt8} {i:Nat} (h:i<l.length):qR (l.take (i+1))=qR (l.take i)*256+(l[i].toNat:Int):=by
 rw[List.take_add_one,List.getElem?_eq_getElem h];exact aOj _ _
theorem aN8:∀l:List UInt8,0≤qR l∧qR l<256^l.length:=by
 intro l
 induction h:l.length generalizing l with
 | zero=>obtain rfl:=List.eq_nil_of_length_eq_zero h;decide
 | succ n ih=>
  obtain ⟨a,c,rfl⟩:∃a c,l=a++[c]:=⟨l.dropLast,l.getLast (by intro e;simp[e] at h),(List.dropLast_concat_getLast _).symm⟩
  have:=ih a (by simpa using h)
  have hc:=c.toNat_lt
  rw[aOj,Int.pow_succ]
  omega
theorem fM {l:List UInt8} (h:l.length≤3):0≤qR l∧qR l<16777216:=by
 have:=aN8 l
 have h2:(256:Int)^l.length≤16777216:=by
  generalize l.length=n at h
  obtain rfl | rfl | rfl | rfl:n=0∨n=1∨n=2∨n=3:=by omega
  all_goals decide
 omega
abbrev rdB (lf:Bool) (c0 c1 c2 c3 c4 c5 c6 c7 c8 c9 c10 c11 c12:AV) (l:List UInt8) (b:Bool):Blk:=⟨.exact,lf,[c0,c1,c2,c3,c4,c5,c6,c7,c8,c9,c10,c11,c12,.str l,.bool b]⟩
def aZs:Nat→Bool:=fun k=>hz24.any (Nat.beq k)||Nat.beq k 237595
theorem orN {a c:Int} (ha:0≤a∧a<16777216) (hc:0≤c∧c<256) {K:Int→Prop} (h:K (a*256+c)) :
  ∃n0,AV.int .i64 a=AV.int .i64 n0∧∃n1,AV.int .i64 (IntKind.wrap .i64 (n0*256))=AV.int .i64 n1∧∃n2,AV.int .i64 (IntKind.wrap .i64 c)=AV.int .i64 n2∧∃n3,AV.int .i64 (IntKind.wrap .i64 (((n1%18446744073709551616).toNat ||| (n2%18446744073709551616).toNat:Nat):Int))=AV.int .i64 n3∧K n3:=by
 obtain ⟨a,rfl⟩:=Int.eq_ofNat_of_zero_le ha.1
 obtain ⟨c,rfl⟩:=Int.eq_ofNat_of_zero_le hc.1
 refine ⟨_,rfl,aC (by omega) (by omega) (aC (by omega) (by omega) ?_)⟩
 have e1:(((a:Nat):Int)*256%18446744073709551616).toNat=2^8*a:=by omega
 have e2:(((c:Nat):Int)%18446744073709551616).toNat=c:=by omega
 rw[e1,e2,←Nat.two_pow_add_eq_or_of_lt (by omega) a]
 refine aC (by omega) (by omega) ?_
 rwa [show ((2^8*a+c:Nat):Int)=((a:Nat):Int)*256+((c:Nat):Int) by omega]
theorem aZ7 {l:List UInt8} {i j:Nat} (hi:i<l.length) (hj:j=i) {K:Int→Prop} (hk:K (l[i].toNat:Int)):∃n:Int,(ofBytes l).getD j AV.undef=AV.int .u8 n∧K n:=by
 subst hj
 refine ⟨_, ?_,hk⟩
 simp[ofBytes,hi]
def bEt (z:List AV) (c0 c1 c2 c3 c4 c5 c6 c7 c8 c9 c10 c11 c12:AV) (l:List UInt8) (b:Bool) (k:Nat):LInv where
 α:=Nat
 pre i:=Lf (i≤(l.take k).length)
 st i:=⟨mkT [(0,.ptr 1 15 0),(1,.int .i64 (k:Nat)),(5,.int .i64 (qR ((l.take k).take i))),(27,.lst 0 (ofBytes (l.take k)) (l.take k).length 1),(28,.int .i64 ((l.take k).length:Nat)),(29,.int .i64 (i:Nat))],[⟨.exact,true,z⟩,rdB true c0 c1 c2 c3 c4 c5 c6 c7 c8 c9 c10 c11 c12 l b]⟩
 mu i:=(l.take k).length-i
noncomputable def aHj (hv:Nat→Option Pa) (hb:Nat→Option Bool) (z:List AV) (c0 c1 c2 c3 c4 c5 c6 c7 c8 c9 c10 c11 c12:AV) (l:List UInt8) (b:Bool) (k:Nat):Env := { e24 sm0 (fun i=>bif Nat.beq i 58000 then some (fun _=>[[bEt z c0 c1 c2 c3 c4 c5 c6 c7 c8 c9 c10 c11 c12 l b k]]) else none) hv hb with hz:=aZs }
noncomputable def aBx (hv:Nat→Option Pa) (hb:Nat→Option Bool) (z:List AV) (c0 c1 c2 c3 c4 c5 c6 c7 c8 c9 c10 c11 c12:AV) (l:List UInt8) (b:Bool) (k:Nat) (Q:Out→List Blk→Gh→Prop):Prop:=
 bH (aHj hv hb z c0 c1 c2 c3 c4 c5 c6 c7 c8 c9 c10 c11 c12 l b k) (wpx (aHj hv hb z c0 c1 c2 c3 c4 c5 c6 c7 c8 c9 c10 c11 c12 l b k) 1000) 58 [.ptr 1 15 0,.int .i64 (k:Nat)] [⟨.exact,true,z⟩,rdB true c0 c1 c2 c3 c4 c5 c6 c7 c8 c9 c10 c11 c12 l b] {} Q
abbrev oZ:Out:=.ret (.int .i64 0)
abbrev nD (z:List AV):Blk:=Blk.mk BK.exact true z
abbrev qM (c0 c1 c2 c3 c4 c5 c6 c7 c8 c9 c10 c11 c12:AV):List AV:=[c0,c1,c2,c3,c4,c5,c6,c7,c8,c9,c10,c11,c12,.str [],.bool true]
abbrev aGn (n_2:Int) (l:List UInt8):Bool:=decide (0≤n_2)&&true&&Nat.ble n_2.toNat l.length
abbrev pW (n_2:Int) (l:List UInt8):AV:=.str ((l.drop 0).take (n_2.toNat-0))
abbrev aJj (s_3:List UInt8):Bool:=Nat.beq s_3.length (ofBytes s_3).length&&Nat.beq (s_3.length*1) s_3.length&&bB 0 (ofBytes s_3)&&bQ (ofBytes s_3)
abbrev tN (x_5 k:Nat) (l:List UInt8):Prop:=Lf (x_5≤(l.take k).length)
abbrev sW (c0 c1 c2 c3 c4 c5 c6 c7 c8 c9 c10 c11 c12:AV) (l:List UInt8) (b:Bool):List AV:=[c0,c1,c2,c3,c4,c5,c6,c7,c8,c9,c10,c11,c12,.str l,.bool b]
abbrev jQ (x_5 k:Nat) (l:List UInt8):Int:=qR ((l.take k).take x_5)
abbrev aK0 (k:Nat) (s_3 l:List UInt8) (x_5:Nat) (n_4:Int):Prop:=aK (AV.ptr 1 15 0)∧aK (AV.int .i64 (k:Int))∧AV.lst 0 (ofBytes s_3) s_3.length 1=AV.lst 0 (ofBytes (l.take k)) (l.take k).length 1∧AV.int .i64 0=AV.int .i64 (jQ x_5 k l)∧AV.int .i64 0=AV.int .i64 (x_5:Int)∧AV.int .i64 n_4=AV.int .i64 ((l.take k).length:Int)∧True
abbrev qK (x_5 k:Nat) (l:List UInt8):Bool:=decide ((x_5:Int)<((l.take k).length:Int))
abbrev uN (x_5 k:Nat) (l:List UInt8):Bool:=Nat.blt (x_5:Int).toNat (l.take k).length&&true
abbrev uI (x_5 k:Nat) (l:List UInt8):Bool:=Nat.blt ((x_5:Int).toNat*1) (ofBytes (l.take k)).length
abbrev uG (k:Nat) (l:List UInt8) (x_5:Nat):AV:=(ofBytes (l.take k)).getD ((x_5:Int).toNat*1) AV.undef
abbrev aNh (n_8 n_9:Int):Int:=(((n_8%18446744073709551616).toNat ||| (n_9%18446744073709551616).toNat:Nat):Int)
abbrev uA:Prop:=True∧(0:Nat)=(0:Nat)
abbrev uH (k:Nat) (l:List UInt8) (y_12 x_5:Nat):Prop:=(l.take k).length-y_12<(l.take k).length-x_5
abbrev aCw (k:Nat) (l:List UInt8) (n_10:Int) (y_12:Nat) (n_11:Int):Prop:=aK (AV.ptr 1 15 0)∧aK (AV.int .i64 (k:Int))∧aK (AV.lst 0 (ofBytes (l.take k)) (l.take k).length 1)∧AV.int .i64 n_10=AV.int .i64 (qR ((l.take k).take y_12))∧AV.int .i64 n_11=AV.int .i64 (y_12:Int)∧aK (AV.int .i64 ((l.take k).length:Int))∧True
abbrev aYn (k:Nat) (l:List UInt8) (n_10:Int) (y_12:Nat) (n_11:Int):Prop:=aCw k l n_10 y_12 n_11
abbrev qG (n_6:Int) (l:List UInt8):Bool:=aGn n_6 l&&Nat.ble l.length l.length
abbrev aKy (l:List UInt8) (n_6:Int):AV:=.str ((l.drop n_6.toNat).take (l.length-n_6.toNat))
abbrev pM (n_8:Int):Out:=.ret (.int .i64 n_8)
theorem bKr (z:List AV) (c0:AV) (c1:AV) (c2:AV) (c3:AV) (c4:AV) (c5:AV) (c6:AV) (c7:AV) (c8:AV) (c9:AV) (c10:AV) (c11:AV) (c12:AV) (l:List UInt8) (b:Bool) (k:Nat) (Q:Out→List Blk→Gh→Prop) :
 aBx (bG [(237580,.int .i64),(237581,.int .i64),(237593,.int .i64),(237594,.str),(237596,.int .i64),(237600,.int .u8),(237601,.int .i64),(237602,.int .i64),(237604,.int .i64),(237605,.int .i64),(237606,.int
 .i64),(237612,.int .i64),(237613,.str),(237616,.int .i64)]) (bF [(241662,false),(1237568000,false)]) z c0 c1 c2 c3 c4 c5 c6 c7 c8 c9 c10 c11 c12 l b k Q=(exI .i64 (l.length:Int) (fun n_0=>exI .i64 (k:Int) (fun n_1=>
 bif decide (n_0<n_1) then Q oZ [nD z,Blk.mk BK.exact true (qM c0 c1 c2 c3 c4 c5 c6 c7 c8 c9 c10 c11 c12)] {} else exI .i64 (k:Int) (fun n_2=>ckQ (aGn n_2 l) (exS (pW n_2 l) (fun s_3=>ckQ (aJj s_3) (exI .i64
 (s_3.length:Int) (fun n_4=>(∃x_5:Nat,tN x_5 k l∧z=z∧aK (sW c0 c1 c2 c3 c4 c5 c6 c7 c8 c9 c10 c11 c12 l b)∧aK0 k s_3 l x_5 n_4)∧∀x_5:Nat,tN x_5 k l→bif qK x_5 k l then ckQ (uN x_5 k l) (ckQ (uI x_5
 k l) (exV .u8 (uG k l x_5) (fun n_6=>exI .i64 (jQ x_5 k l) (fun n_7=>exW .i64 (n_7*256) (fun n_8=>exW .i64 n_6 (fun n_9=>exW .i64 (aNh n_8 n_9) (fun n_10=>exW .i64 ((x_5:Int)+1) (fun n_11=>uA∧∃y_12:Nat,
 tN y_12 k l∧uH k l y_12 x_5∧z=z∧aK (sW c0 c1 c2 c3 c4 c5 c6 c7 c8 c9 c10 c11 c12 l b)∧aYn k l n_10 y_12 n_11)))))))) else exI .i64 (k:Int) (fun n_6=>ckQ (qG n_6 l) (exS (aKy l n_6) (fun s_7=>exI .i64 (jQ
 x_5 k l) (fun n_8=>Q (pM n_8) [nD z,Blk.mk BK.exact true (sW c0 c1 c2 c3 c4 c5 c6 c7 c8 c9 c10 c11 c12 s_7 b)] {})))))))))))):=by kernel_rfl

theorem bRs (z:List AV) (c0 c1 c2 c3 c4 c5 c6 c7 c8 c9 c10 c11 c12:AV) (l:List UInt8) (b:Bool) (k:Nat) (hk:k≤4) (Q:Out→List Blk→Gh→Prop) (hq:∀n l' b',tkM k l b=(n,l',b')→Q (.ret (.int .i64 n)) [⟨.exact,true,z⟩,rdB true c0 c1 c2 c3 c4 c5 c6 c7 c8 c9 c10 c11 c12 l' b'] {}):∃hv hb,aBx hv hb z c0 c1 c2 c3 c4 c5 c6 c7 c8 c9 c10 c11 c12 l b k Q:=by
 obtain ⟨hv,hb',e⟩:∃hv hb,aBx hv hb z c0 c1 c2 c3 c4 c5 c6 c7 c8 c9 c10 c11 c12 l b k Q=_:=⟨_,_,bKr z c0 c1 c2 c3 c4 c5 c6 c7 c8 c9 c10 c11 c12 l b k Q⟩
 refine ⟨hv,hb',e.mpr ?_⟩
 delta oZ nD qM aGn pW aJj tN sW jQ aK0 qK uN uI uG aNh uA uH aCw aYn qG aKy pM
 clear e
 have hmin:(l.take k).length≤k:=by rw[List.length_take];omega
 refine ⟨_,rfl,_,rfl,aD (fun h=>hq _ _ _ (by rw[tkM,if_pos (by omega)])) (fun h => ?_)⟩
 have hlen:(l.take k).length=k:=by rw[List.length_take];omega
 refine ⟨_,rfl,ckI (by simp;omega) ⟨l.take k,by simp,ckI (by simp[aI,aN,bS]) ?_⟩⟩
 refine ⟨_,rfl,⟨0,⟨Nat.zero_le _⟩,rfl,rfl,rfl,rfl,rfl,rfl,rfl,rfl,trivial⟩, ?_⟩
 rintro i ⟨hi⟩
 refine aD (fun h2 => ?_) (fun h2 => ?_)
 ·have hi':i<(l.take k).length:=by omega
  have hs:=fM (l:=(l.take k).take i) (by rw[List.length_take];omega)
  have hc:=((l.take k)[i]).toNat_lt
  refine ckI (by simp;omega) (ckI (by simp[aI];omega) (aZ7 hi' (by simp) (orN hs ⟨by omega,by omega⟩ (aC (by omega) (by omega) ⟨⟨trivial,rfl⟩,i+1,⟨hi'⟩,by omega,rfl,rfl,rfl,rfl,rfl,by rw[jE hi'],rfl,rfl,trivial⟩))))
 ·have:(l.take k).take i=l.take k:=List.take_of_length_le (by omega)
  rw[this]
  refine ⟨_,rfl,ckI (by simp;omega) ⟨l.drop k,by rw[Int.toNat_natCast,List.take_of_length_le (by simp)],_,rfl,hq _ _ _ (by rw[tkM,if_neg (by omega)])⟩⟩
def bEh (z:List AV) (c0 c1 c2 c3 c4 c5 c6 c7 c8 c9 c10 c11 c12:AV) (l:List UInt8) (b:Bool) (d:List AV) (k:Nat):LInv where
 α:=Nat
 pre i:=Lf (i≤(l.take k).length)
 st i:=⟨mkT [(0,.ptr 1 15 0),(1,.int .i64 (k:Nat)),(5,.int .i64 (qR ((l.take k).take i))),(27,.lst 0 (ofBytes (l.take k)) (l.take k).length 1),(28,.int .i64 ((l.take k).length:Nat)),(29,.int .i64 (i:Nat))],[⟨.exact,true,z⟩,rdB true c0 c1 c2 c3 c4 c5 c6 c7 c8 c9 c10 c11 c12 l b,⟨.grow,true,d⟩]⟩
 mu i:=(l.take k).length-i
noncomputable def aG7 (hv:Nat→Option Pa) (hb:Nat→Option Bool) (z:List AV) (c0 c1 c2 c3 c4 c5 c6 c7 c8 c9 c10 c11 c12:AV) (l:List UInt8) (b:Bool) (d:List AV) (k:Nat):Env := { e24 sm0 (fun i=>bif Nat.beq i 58000 then some (fun _=>[[bEh z c0 c1 c2 c3 c4 c5 c6 c7 c8 c9 c10 c11 c12 l b d k]]) else none) hv hb with hz:=aZs }
noncomputable def aCb (hv:Nat→Option Pa) (hb:Nat→Option Bool) (z:List AV) (c0 c1 c2 c3 c4 c5 c6 c7 c8 c9 c10 c11 c12:AV) (l:List UInt8) (b:Bool) (d:List AV) (k:Nat) (Q:Out→List Blk→Gh→Prop):Prop:=
 bH (aG7 hv hb z c0 c1 c2 c3 c4 c5 c6 c7 c8 c9 c10 c11 c12 l b d k) (wpx (aG7 hv hb z c0 c1 c2 c3 c4 c5 c6 c7 c8 c9 c10 c11 c12 l b d k) 1000) 58 [.ptr 1 15 0,.int .i64 (k:Nat)] [⟨.exact,true,z⟩,rdB true c0 c1 c2 c3 c4 c5 c6 c7 c8 c9 c10 c11 c12 l b,⟨.grow,true,d⟩] {} Q
abbrev mD (d:List AV):Blk:=Blk.mk BK.grow true d
abbrev bF3 (x_5 k:Nat) (l:List UInt8) (z:List AV) (c0 c1 c2 c3 c4 c5 c6 c7 c8 c9 c10 c11 c12:AV) (b:Bool) (d:List AV):Prop:=ckQ (uN x_5 k l) (ckQ (uI x_5 k l) (exV .u8 (uG k l x_5) (fun n_6=>exI .i64 (jQ x_5 k l) (fun n_7=>exW .i64 (n_7*256) (fun n_8=>exW .i64 n_6 (fun n_9=>exW .i64 (aNh n_8 n_9) (fun n_10=>exW .i64 ((x_5:Int)+1) (fun n_11=>uA∧∃y_12:Nat,tN y_12 k l∧uH k l y_12 x_5∧z=z∧aK (sW c0 c1 c2 c3 c4 c5 c6 c7 c8 c9 c10 c11 c12 l b)∧d=d∧aCw k l n_10 y_12 n_11))))))))
theorem bK7 (z:List AV) (c0:AV) (c1:AV) (c2:AV) (c3:AV) (c4:AV) (c5:AV) (c6:AV) (c7:AV) (c8:AV) (c9:AV) (c10:AV) (c11:AV) (c12:AV) (l:List UInt8) (b:Bool) (d:List AV) (k:Nat) (Q:Out→List Blk→Gh→Prop):aCb (bG [(237580,.int .i64),(237581,.int .i64),(237593,.int .i64),(237594,.str),(237596,.int .i64),(237600,.int .u8),(237601,.int .i64),(237602,.int .i64),(237604,.int .i64),(237605,.int .i64),(237606,.int .i64),(237612,.int .i64),(237613,.str),(237616,.int .i64)]) (bF [(241662,false),(1237568000,false)]) z c0 c1 c2 c3 c4 c5 c6 c7 c8 c9 c10 c11 c12 l b d k Q=(exI .i64 (l.length:Int) (fun n_0=>exI .i64 (k:Int) (fun n_1=>bif decide (n_0<n_1) then Q oZ [nD z,Blk.mk BK.exact true (qM c0 c1 c2 c3 c4 c5 c6 c7 c8 c9 c10 c11 c12),mD d] {} else exI .i64 (k:Int) (fun n_2=>ckQ (aGn n_2 l) (exS (pW n_2 l) (fun s_3=>ckQ (aJj s_3) (exI .i64 (s_3.length:Int) (fun n_4=>(∃x_5:Nat,tN x_5 k l∧z=z∧aK (sW c0 c1 c2 c3 c4 c5 c6 c7 c8 c9 c10 c11 c12 l b)∧d=d∧aK0 k s_3 l x_5 n_4)∧∀x_5:Nat,tN x_5 k l→bif qK x_5 k l then bF3 x_5 k l z c0 c1 c2 c3 c4 c5 c6 c7 c8 c9 c10 c11 c12 b d else exI .i64 (k:Int) (fun n_6=>ckQ (qG n_6 l) (exS (aKy l n_6) (fun s_7=>exI .i64 (jQ x_5 k l) (fun n_8=>Q (pM n_8) [nD z,Blk.mk BK.exact true (sW c0 c1 c2 c3 c4 c5 c6 c7 c8 c9 c10 c11 c12 s_7 b),mD d] {})))))))))))):=by kernel_rfl

theorem bQ2 (z:List AV) (c0 c1 c2 c3 c4 c5 c6 c7 c8 c9 c10 c11 c12:AV) (l:List UInt8) (b:Bool) (d:List AV) (k:Nat) (hk:k≤4) (Q:Out→List Blk→Gh→Prop) (hq:∀n l' b',tkM k l b=(n,l',b')→Q (.ret (.int .i64 n)) [⟨.exact,true,z⟩,rdB true c0 c1 c2 c3 c4 c5 c6 c7 c8 c9 c10 c11 c12 l' b',⟨.grow,true,d⟩] {}):∃hv hb,aCb hv hb z c0 c1 c2 c3 c4 c5 c6 c7 c8 c9 c10 c11 c12 l b d k Q:=by
 obtain ⟨hv,hb',e⟩:∃hv hb,aCb hv hb z c0 c1 c2 c3 c4 c5 c6 c7 c8 c9 c10 c11 c12 l b d k Q=_:=⟨_,_,bK7 z c0 c1 c2 c3 c4 c5 c6 c7 c8 c9 c10 c11 c12 l b d k Q⟩
 refine ⟨hv,hb',e.mpr ?_⟩
 delta oZ nD qM mD aGn pW aJj tN sW jQ aK0 qK uN uI uG aNh uA uH aCw bF3 qG aKy pM
 clear e
 have hmin:(l.take k).length≤k:=by rw[List.length_take];omega
 refine ⟨_,rfl,_,rfl,aD (fun h=>hq _ _ _ (by rw[tkM,if_pos (by omega)])) (fun h => ?_)⟩
 have hlen:(l.take k).length=k:=by rw[List.length_take];omega
 refine ⟨_,rfl,ckI (by simp;omega) ⟨l.take k,by simp,ckI (by simp[aI,aN,bS]) ?_⟩⟩
 refine ⟨_,rfl,⟨0,⟨Nat.zero_le _⟩,rfl,rfl,rfl,rfl,rfl,rfl,rfl,rfl,rfl,trivial⟩, ?_⟩
 rintro i ⟨hi⟩
 refine aD (fun h2 => ?_) (fun h2 => ?_)
 ·have hi':i<(l.take k).length:=by omega
  have hs:=fM (l:=(l.take k).take i) (by rw[List.length_take];omega)
  have hc:=((l.take k)[i]).toNat_lt
  refine ckI (by simp;omega) (ckI (by simp[aI];omega) (aZ7 hi' (by simp) (orN hs ⟨by omega,by omega⟩ (aC (by omega) (by omega) ⟨⟨trivial,rfl⟩,i+1,⟨hi'⟩,by omega,rfl,rfl,rfl,rfl,rfl,rfl,by rw[jE hi'],rfl,rfl,trivial⟩))))
 ·have:(l.take k).take i=l.take k:=List.take_of_length_le (by omega)
  rw[this]
  refine ⟨_,rfl,ckI (by simp;omega) ⟨l.drop k,by rw[Int.toNat_natCast,List.take_of_length_le (by simp)],_,rfl,hq _ _ _ (by rw[tkM,if_neg (by omega)])⟩⟩
def bEc (z:List AV) (c0 c1 c2 c3 c4 c5 c6 c7 c8 c9 c10 c11 c12:AV) (l:List UInt8) (b:Bool) (d:List AV) (k:Nat):LInv where
 α:=Nat
 pre i:=Lf (i≤(l.take k).length)
 st i:=⟨mkT [(0,.ptr 1 15 0),(1,.int .i64 (k:Nat)),(5,.int .i64 (qR ((l.take k).take i))),(27,.lst 0 (ofBytes (l.take k)) (l.take k).length 1),(28,.int .i64 ((l.take k).length:Nat)),(29,.int .i64 (i:Nat))],[⟨.exact,true,z⟩,rdB false c0 c1 c2 c3 c4 c5 c6 c7 c8 c9 c10 c11 c12 l b,⟨.grow,true,d⟩]⟩
 mu i:=(l.take k).length-i
noncomputable def aIv (hv:Nat→Option Pa) (hb:Nat→Option Bool) (z:List AV) (c0 c1 c2 c3 c4 c5 c6 c7 c8 c9 c10 c11 c12:AV) (l:List UInt8) (b:Bool) (d:List AV) (k:Nat):Env := { e24 sm0 (fun i=>bif Nat.beq i 58000 then some (fun _=>[[bEc z c0 c1 c2 c3 c4 c5 c6 c7 c8 c9 c10 c11 c12 l b d k]]) else none) hv hb with hz:=aZs }
noncomputable def aB2 (hv:Nat→Option Pa) (hb:Nat→Option Bool) (z:List AV) (c0 c1 c2 c3 c4 c5 c6 c7 c8 c9 c10 c11 c12:AV) (l:List UInt8) (b:Bool) (d:List AV) (k:Nat) (Q:Out→List Blk→Gh→Prop):Prop:=
 bH (aIv hv hb z c0 c1 c2 c3 c4 c5 c6 c7 c8 c9 c10 c11 c12 l b d k) (wpx (aIv hv hb z c0 c1 c2 c3 c4 c5 c6 c7 c8 c9 c10 c11 c12 l b d k) 1000) 58 [.ptr 1 15 0,.int .i64 (k:Nat)] [⟨.exact,true,z⟩,rdB false c0 c1 c2 c3 c4 c5 c6 c7 c8 c9 c10 c11 c12 l b,⟨.grow,true,d⟩] {} Q
theorem bH7 (z:List AV) (c0:AV) (c1:AV) (c2:AV) (c3:AV) (c4:AV) (c5:AV) (c6:AV) (c7:AV) (c8:AV) (c9:AV) (c10:AV) (c11:AV) (c12:AV) (l:List UInt8) (b:Bool) (d:List AV) (k:Nat) (Q:Out→List Blk→Gh→Prop):aB2 (bG [(237580,.int .i64),(237581,.int .i64),(237593,.int .i64),(237594,.str),(237596,.int .i64),(237600,.int .u8),(237601,.int .i64),(237602,.int .i64),(237604,.int .i64),(237605,.int .i64),(237606,.int .i64),(237612,.int .i64),(237613,.str),(237616,.int .i64)]) (bF [(241662,false),(1237568000,false)]) z c0 c1 c2 c3 c4 c5 c6 c7 c8 c9 c10 c11 c12 l b d k Q=(exI .i64 (l.length:Int) (fun n_0=>exI .i64 (k:Int) (fun n_1=>bif decide (n_0<n_1) then Q oZ [nD z,Blk.mk BK.exact false (qM c0 c1 c2 c3 c4 c5 c6 c7 c8 c9 c10 c11 c12),mD d] {} else exI .i64 (k:Int) (fun n_2=>ckQ (aGn n_2 l) (exS (pW n_2 l) (fun s_3=>ckQ (aJj s_3) (exI .i64 (s_3.length:Int) (fun n_4=>(∃x_5:Nat,tN x_5 k l∧z=z∧aK (sW c0 c1 c2 c3 c4 c5 c6 c7 c8 c9 c10 c11 c12 l b)∧d=d∧aK0 k s_3 l x_5 n_4)∧∀x_5:Nat,tN x_5 k l→bif qK x_5 k l then bF3 x_5 k l z c0 c1 c2 c3 c4 c5 c6 c7 c8 c9 c10 c11 c12 b d else exI .i64 (k:Int) (fun n_6=>ckQ (qG n_6 l) (exS (aKy l n_6) (fun s_7=>exI .i64 (jQ x_5 k l) (fun n_8=>Q (pM n_8) [nD z,Blk.mk BK.exact false (sW c0 c1 c2 c3 c4 c5 c6 c7 c8 c9 c10 c11 c12 s_7 b),mD d] {})))))))))))):=by kernel_rfl

theorem bRi (z:List AV) (c0 c1 c2 c3 c4 c5 c6 c7 c8 c9 c10 c11 c12:AV) (l:List UInt8) (b:Bool) (d:List AV) (k:Nat) (hk:k≤4) (Q:Out→List Blk→Gh→Prop) (hq:∀n l' b',tkM k l b=(n,l',b')→Q (.ret (.int .i64 n)) [⟨.exact,true,z⟩,rdB false c0 c1 c2 c3 c4 c5 c6 c7 c8 c9 c10 c11 c12 l' b',⟨.grow,true,d⟩] {}):∃hv hb,aB2 hv hb z c0 c1 c2 c3 c4 c5 c6 c7 c8 c9 c10 c11 c12 l b d k Q:=by
 obtain ⟨hv,hb',e⟩:∃hv hb,aB2 hv hb z c0 c1 c2 c3 c4 c5 c6 c7 c8 c9 c10 c11 c12 l b d k Q=_:=⟨_,_,bH7 z c0 c1 c2 c3 c4 c5 c6 c7 c8 c9 c10 c11 c12 l b d k Q⟩
 refine ⟨hv,hb',e.mpr ?_⟩
 delta oZ nD qM mD aGn pW aJj tN sW jQ aK0 qK uN uI uG aNh uA uH aCw bF3 qG aKy pM
 clear e
 have hmin:(l.take k).length≤k:=by rw[List.length_take];omega
 refine ⟨_,rfl,_,rfl,aD (fun h=>hq _ _ _ (by rw[tkM,if_pos (by omega)])) (fun h => ?_)⟩
 have hlen:(l.take k).length=k:=by rw[List.length_take];omega
 refine ⟨_,rfl,ckI (by simp;omega) ⟨l.take k,by simp,ckI (by simp[aI,aN,bS]) ?_⟩⟩
 refine ⟨_,rfl,⟨0,⟨Nat.zero_le _⟩,rfl,rfl,rfl,rfl,rfl,rfl,rfl,rfl,rfl,trivial⟩, ?_⟩
 rintro i ⟨hi⟩
 refine aD (fun h2 => ?_) (fun h2 => ?_)
 ·have hi':i<(l.take k).length:=by omega
  have hs:=fM (l:=(l.take k).take i) (by rw[List.length_take];omega)
  have hc:=((l.take k)[i]).toNat_lt
  refine ckI (by simp;omega) (ckI (by simp[aI];omega) (aZ7 hi' (by simp) (orN hs ⟨by omega,by omega⟩ (aC (by omega) (by omega) ⟨⟨trivial,rfl⟩,i+1,⟨hi'⟩,by omega,rfl,rfl,rfl,rfl,rfl,rfl,by rw[jE hi'],rfl,rfl,trivial⟩))))
 ·have:(l.take k).take i=l.take k:=List.take_of_length_le (by omega)
  rw[this]
  refine ⟨_,rfl,ckI (by simp;omega) ⟨l.drop k,by rw[Int.toNat_natCast,List.take_of_length_le (by simp)],_,rfl,hq _ _ _ (by rw[tkM,if_neg (by omega)])⟩⟩
def aZ0 (z:List AV) (c0 c1 c2 c3 c4 c5 c6 c7 c8 c9 c10 c11 c12:AV) (l:List UInt8) (b:Bool) (d e:List AV) (k:Nat):LInv where
 α:=Nat
 pre i:=Lf (i≤(l.take k).length)
 st i:=⟨mkT [(0,.ptr 1 15 0),(1,.int .i64 (k:Nat)),(5,.int .i64 (qR ((l.take k).take i))),(27,.lst 0 (ofBytes (l.take k)) (l.take k).length 1),(28,.int .i64 ((l.take k).length:Nat)),(29,.int .i64 (i:Nat))],[⟨.exact,true,z⟩,rdB false c0 c1 c2 c3 c4 c5 c6 c7 c8 c9 c10 c11 c12 l b,⟨.grow,true,d⟩,⟨.grow,true,e⟩]⟩
 mu i:=(l.take k).length-i
noncomputable def aG5 (hv:Nat→Option Pa) (hb:Nat→Option Bool) (z:List AV) (c0 c1 c2 c3 c4 c5 c6 c7 c8 c9 c10 c11 c12:AV) (l:List UInt8) (b:Bool) (d e:List AV) (k:Nat):Env := { e24 sm0 (fun i=>bif Nat.beq i 58000 then some (fun _=>[[aZ0 z c0 c1 c2 c3 c4 c5 c6 c7 c8 c9 c10 c11 c12 l b d e k]]) else none) hv hb with hz:=aZs }
noncomputable def aDq (hv:Nat→Option Pa) (hb:Nat→Option Bool) (z:List AV) (c0 c1 c2 c3 c4 c5 c6 c7 c8 c9 c10 c11 c12:AV) (l:List UInt8) (b:Bool) (d e:List AV) (k:Nat) (Q:Out→List Blk→Gh→Prop):Prop:=
 bH (aG5 hv hb z c0 c1 c2 c3 c4 c5 c6 c7 c8 c9 c10 c11 c12 l b d e k) (wpx (aG5 hv hb z c0 c1 c2 c3 c4 c5 c6 c7 c8 c9 c10 c11 c12 l b d e k) 1000) 58 [.ptr 1 15 0,.int .i64 (k:Nat)] [⟨.exact,true,z⟩,rdB false c0 c1 c2 c3 c4 c5 c6 c7 c8 c9 c10 c11 c12 l b,⟨.grow,true,d⟩,⟨.grow,true,e⟩] {} Q
theorem bKl (z:List AV) (c0:AV) (c1:AV) (c2:AV) (c3:AV) (c4:AV) (c5:AV) (c6:AV) (c7:AV) (c8:AV) (c9:AV) (c10:AV) (c11:AV) (c12:AV) (l:List UInt8) (b:Bool) (d:List AV) (e:List AV) (k:Nat) (Q:Out →
 List Blk→Gh→Prop):aDq (bG [(237580,.int .i64),(237581,.int .i64),(237593,.int .i64),(237594,.str),(237596,.int .i64),(237600,.int .u8),(237601,.int .i64),(237602,.int .i64),(237604,.int .i64),(237605,.int
 .i64),(237606,.int .i64),(237612,.int .i64),(237613,.str),(237616,.int .i64)]) (bF [(241662,false),(1237568000,false)]) z c0 c1 c2 c3 c4 c5 c6 c7 c8 c9 c10 c11 c12 l b d e k Q=(exI .i64 (l.length:Int) (fun n_0=>exI .i64
 (k:Int) (fun n_1=>bif decide (n_0<n_1) then Q oZ [nD z,Blk.mk BK.exact false (qM c0 c1 c2 c3 c4 c5 c6 c7 c8 c9 c10 c11 c12),mD d,mD e] {} else exI .i64 (k:Int) (fun n_2=>ckQ (aGn n_2 l) (exS (pW n_2 l) (fun
 s_3=>ckQ (aJj s_3) (exI .i64 (s_3.length:Int) (fun n_4=>(∃x_5:Nat,tN x_5 k l∧z=z∧aK (sW c0 c1 c2 c3 c4 c5 c6 c7 c8 c9 c10 c11 c12 l b)∧d=d∧e=e∧aK0 k s_3 l x_5 n_4)∧∀x_5:Nat,tN x_5 k l→bif qK
 x_5 k l then ckQ (uN x_5 k l) (ckQ (uI x_5 k l) (exV .u8 (uG k l x_5) (fun n_6=>exI .i64 (jQ x_5 k l) (fun n_7=>exW .i64 (n_7*256) (fun n_8=>exW .i64 n_6 (fun n_9=>exW .i64 (aNh n_8 n_9) (fun n_10=>exW .i64 ((x_5 :
 Int)+1) (fun n_11=>uA∧∃y_12:Nat,tN y_12 k l∧uH k l y_12 x_5∧z=z∧aK (sW c0 c1 c2 c3 c4 c5 c6 c7 c8 c9 c10 c11 c12 l b)∧d=d∧e=e∧aYn k l n_10 y_12 n_11)))))))) else exI .i64 (k:Int) (fun n_6=>ckQ
 (qG n_6 l) (exS (aKy l n_6) (fun s_7=>exI .i64 (jQ x_5 k l) (fun n_8=>Q (pM n_8) [nD z,Blk.mk BK.exact false (sW c0 c1 c2 c3 c4 c5 c6 c7 c8 c9 c10 c11 c12 s_7 b),mD d,mD e] {})))))))))))):=by kernel_rfl

theorem bQ3 (z:List AV) (c0 c1 c2 c3 c4 c5 c6 c7 c8 c9 c10 c11 c12:AV) (l:List UInt8) (b:Bool) (d e:List AV) (k:Nat) (hk:k≤4) (Q:Out→List Blk→Gh→Prop) (hq:∀n l' b',tkM k l b=(n,l',b')→Q (.ret (.int .i64 n)) [⟨.exact,true,z⟩,rdB false c0 c1 c2 c3 c4 c5 c6 c7 c8 c9 c10 c11 c12 l' b',⟨.grow,true,d⟩,⟨.grow,true,e⟩] {}):∃hv hb,aDq hv hb z c0 c1 c2 c3 c4 c5 c6 c7 c8 c9 c10 c11 c12 l b d e k Q:=by
 obtain ⟨hv,hb',e⟩:∃hv hb,aDq hv hb z c0 c1 c2 c3 c4 c5 c6 c7 c8 c9 c10 c11 c12 l b d e k Q=_:=⟨_,_,bKl z c0 c1 c2 c3 c4 c5 c6 c7 c8 c9 c10 c11 c12 l b d e k Q⟩
 refine ⟨hv,hb',e.mpr ?_⟩
 delta oZ nD qM mD aGn pW aJj tN sW jQ aK0 qK uN uI uG aNh uA uH aCw aYn qG aKy pM
 clear e
 have hmin:(l.take k).length≤k:=by rw[List.length_take];omega
 refine ⟨_,rfl,_,rfl,aD (fun h=>hq _ _ _ (by rw[tkM,if_pos (by omega)])) (fun h => ?_)⟩
 have hlen:(l.take k).length=k:=by rw[List.length_take];omega
 refine ⟨_,rfl,ckI (by simp;omega) ⟨l.take k,by simp,ckI (by simp[aI,aN,bS]) ?_⟩⟩
 refine ⟨_,rfl,⟨0,⟨Nat.zero_le _⟩,rfl,rfl,rfl,rfl,rfl,rfl,rfl,rfl,rfl,rfl,trivial⟩, ?_⟩
 rintro i ⟨hi⟩
 refine aD (fun h2 => ?_) (fun h2 => ?_)
 ·have hi':i<(l.take k).length:=by omega
  have hs:=fM (l:=(l.take k).take i) (by rw[List.length_take];omega)
  have hc:=((l.take k)[i]).toNat_lt
  refine ckI (by simp;omega) (ckI (by simp[aI];omega) (aZ7 hi' (by simp) (orN hs ⟨by omega,by omega⟩ (aC (by omega) (by omega) ⟨⟨trivial,rfl⟩,i+1,⟨hi'⟩,by omega,rfl,rfl,rfl,rfl,rfl,rfl,rfl,by rw[jE hi'],rfl,rfl,trivial⟩))))
 ·have:(l.take k).take i=l.take k:=List.take_of_length_le (by omega)
  rw[this]
  refine ⟨_,rfl,ckI (by simp;omega) ⟨l.drop k,by rw[Int.toNat_natCast,List.take_of_length_le (by simp)],_,rfl,hq _ _ _ (by rw[tkM,if_neg (by omega)])⟩⟩
def bFe (z:List AV) (c0 c1 c2 c3 c4 c5 c6 c7 c8 c9 c10 c11 c12:AV) (l:List UInt8) (b:Bool) (d e g:List AV) (k:Nat):LInv where
 α:=Nat
 pre i:=Lf (i≤(l.take k).length)
 st i:=⟨mkT [(0,.ptr 1 15 0),(1,.int .i64 (k:Nat)),(5,.int .i64 (qR ((l.take k).take i))),(27,.lst 0 (ofBytes (l.take k)) (l.take k).length 1),(28,.int .i64 ((l.take k).length:Nat)),(29,.int .i64 (i:Nat))],[⟨.exact,true,z⟩,rdB false c0 c1 c2 c3 c4 c5 c6 c7 c8 c9 c10 c11 c12 l b,⟨.exact,true,d⟩,⟨.exact,true,e⟩,⟨.grow,true,g⟩]⟩
 mu i:=(l.take k).length-i
noncomputable def aIs (hv:Nat→Option Pa) (hb:Nat→Option Bool) (z:List AV) (c0 c1 c2 c3 c4 c5 c6 c7 c8 c9 c10 c11 c12:AV) (l:List UInt8) (b:Bool) (d e g:List AV) (k:Nat):Env := { e24 sm0 (fun i=>bif Nat.beq i 58000 then some (fun _=>[[bFe z c0 c1 c2 c3 c4 c5 c6 c7 c8 c9 c10 c11 c12 l b d e g k]]) else none) hv hb with hz:=aZs }
noncomputable def aBk (hv:Nat→Option Pa) (hb:Nat→Option Bool) (z:List AV) (c0 c1 c2 c3 c4 c5 c6 c7 c8 c9 c10 c11 c12:AV) (l:List UInt8) (b:Bool) (d e g:List AV) (k:Nat) (Q:Out→List Blk→Gh→Prop):Prop:=
 bH (aIs hv hb z c0 c1 c2 c3 c4 c5 c6 c7 c8 c9 c10 c11 c12 l b d e g k) (wpx (aIs hv hb z c0 c1 c2 c3 c4 c5 c6 c7 c8 c9 c10 c11 c12 l b d e g k) 1000) 58 [.ptr 1 15 0,.int .i64 (k:Nat)] [⟨.exact,true,z⟩,rdB false c0 c1 c2 c3 c4 c5 c6 c7 c8 c9 c10 c11 c12 l b,⟨.exact,true,d⟩,⟨.exact,true,e⟩,⟨.grow,true,g⟩] {} Q
theorem bJb (z:List AV) (c0:AV) (c1:AV) (c2:AV) (c3:AV) (c4:AV) (c5:AV) (c6:AV) (c7:AV) (c8:AV) (c9:AV) (c10:AV) (c11:AV) (c12:AV) (l:List UInt8) (b:Bool) (d:List AV) (e:List AV) (g:List AV) (k :
 Nat) (Q:Out→List Blk→Gh→Prop):aBk (bG [(237580,.int .i64),(237581,.int .i64),(237593,.int .i64),(237594,.str),(237596,.int .i64),(237600,.int .u8),(237601,.int .i64),(237602,.int .i64),(237604,.int .i64),
 (237605,.int .i64),(237606,.int .i64),(237612,.int .i64),(237613,.str),(237616,.int .i64)]) (bF [(241662,false),(1237568000,false)]) z c0 c1 c2 c3 c4 c5 c6 c7 c8 c9 c10 c11 c12 l b d e g k Q=(exI .i64 (l.length:Int) (fun
 n_0=>exI .i64 (k:Int) (fun n_1=>bif decide (n_0<n_1) then Q oZ [nD z,Blk.mk BK.exact false (qM c0 c1 c2 c3 c4 c5 c6 c7 c8 c9 c10 c11 c12),nD d,nD e,mD g] {} else exI .i64 (k:Int) (fun n_2=>ckQ (aGn n_2 l)
 (exS (pW n_2 l) (fun s_3=>ckQ (aJj s_3) (exI .i64 (s_3.length:Int) (fun n_4=>(∃x_5:Nat,tN x_5 k l∧z=z∧aK (sW c0 c1 c2 c3 c4 c5 c6 c7 c8 c9 c10 c11 c12 l b)∧d=d∧e=e∧g=g∧aK0 k s_3 l x_5 n_4)∧∀x_5 :
 Nat,tN x_5 k l→bif qK x_5 k l then ckQ (uN x_5 k l) (ckQ (uI x_5 k l) (exV .u8 (uG k l x_5) (fun n_6=>exI .i64 (jQ x_5 k l) (fun n_7=>exW .i64 (n_7*256) (fun n_8=>exW .i64 n_6 (fun n_9=>exW .i64 (aNh n_8 n_9)
 (fun n_10=>exW .i64 ((x_5:Int)+1) (fun n_11=>uA∧∃y_12:Nat,tN y_12 k l∧uH k l y_12 x_5∧z=z∧aK (sW c0 c1 c2 c3 c4 c5 c6 c7 c8 c9 c10 c11 c12 l b)∧d=d∧e=e∧g=g∧aYn k l n_10 y_12 n_11))))))))
 else exI .i64 (k:Int) (fun n_6=>ckQ (qG n_6 l) (exS (aKy l n_6) (fun s_7=>exI .i64 (jQ x_5 k l) (fun n_8=>Q (pM n_8) [nD z,Blk.mk BK.exact false (sW c0 c1 c2 c3 c4 c5 c6 c7 c8 c9 c10 c11 c12 s_7 b),nD d,nD e,
 mD g] {})))))))))))):=by kernel_rfl

theorem bRj (z:List AV) (c0 c1 c2 c3 c4 c5 c6 c7 c8 c9 c10 c11 c12:AV) (l:List UInt8) (b:Bool) (d e g:List AV) (k:Nat) (hk:k≤4) (Q:Out→List Blk→Gh→Prop) (hq:∀n l' b',tkM k l b=(n,l',b')→Q (.ret (.int .i64 n)) [⟨.exact,true,z⟩,rdB false c0 c1 c2 c3 c4 c5 c6 c7 c8 c9 c10 c11 c12 l' b',⟨.exact,true,d⟩,⟨.exact,true,e⟩,⟨.grow,true,g⟩] {}):∃hv hb,aBk hv hb z c0 c1 c2 c3 c4 c5 c6 c7 c8 c9 c10 c11 c12 l b d e g k Q:=by
 obtain ⟨hv,hb',e⟩:∃hv hb,aBk hv hb z c0 c1 c2 c3 c4 c5 c6 c7 c8 c9 c10 c11 c12 l b d e g k Q=_:=⟨_,_,bJb z c0 c1 c2 c3 c4 c5 c6 c7 c8 c9 c10 c11 c12 l b d e g k Q⟩
 refine ⟨hv,hb',e.mpr ?_⟩
 delta oZ nD qM mD aGn pW aJj tN sW jQ aK0 qK uN uI uG aNh uA uH aCw aYn qG aKy pM
 clear e
 have hmin:(l.take k).length≤k:=by rw[List.length_take];omega
 refine ⟨_,rfl,_,rfl,aD (fun h=>hq _ _ _ (by rw[tkM,if_pos (by omega)])) (fun h => ?_)⟩
 have hlen:(l.take k).length=k:=by rw[List.length_take];omega
 refine ⟨_,rfl,ckI (by simp;omega) ⟨l.take k,by simp,ckI (by simp[aI,aN,bS]) ?_⟩⟩
 refine ⟨_,rfl,⟨0,⟨Nat.zero_le _⟩,rfl,rfl,rfl,rfl,rfl,rfl,rfl,rfl,rfl,rfl,rfl,trivial⟩, ?_⟩
 rintro i ⟨hi⟩
 refine aD (fun h2 => ?_) (fun h2 => ?_)
 ·have hi':i<(l.take k).length:=by omega
  have hs:=fM (l:=(l.take k).take i) (by rw[List.length_take];omega)
  have hc:=((l.take k)[i]).toNat_lt
  refine ckI (by simp;omega) (ckI (by simp[aI];omega) (aZ7 hi' (by simp) (orN hs ⟨by omega,by omega⟩ (aC (by omega) (by omega) ⟨⟨trivial,rfl⟩,i+1,⟨hi'⟩,by omega,rfl,rfl,rfl,rfl,rfl,rfl,rfl,rfl,by rw[jE hi'],rfl,rfl,trivial⟩))))
 ·have:(l.take k).take i=l.take k:=List.take_of_length_le (by omega)
  rw[this]
  refine ⟨_,rfl,ckI (by simp;omega) ⟨l.drop k,by rw[Int.toNat_natCast,List.take_of_length_le (by simp)],_,rfl,hq _ _ _ (by rw[tkM,if_neg (by omega)])⟩⟩
def bB7 (z:List AV) (c0 c1 c2 c3 c4 c5 c6 c7 c8 c9 c10 c11 c12:AV) (l:List UInt8) (b:Bool) (d:List AV) (k:Nat):LInv where
 α:=Nat
 pre i:=Lf (i≤(l.take k).length)
 st i:=⟨mkT [(0,.ptr 1 15 0),(1,.int .i64 (k:Nat)),(5,.int .i64 (qR ((l.take k).take i))),(27,.lst 0 (ofBytes (l.take k)) (l.take k).length 1),(28,.int .i64 ((l.take k).length:Nat)),(29,.int .i64 (i:Nat))],[⟨.exact,true,z⟩,rdB true c0 c1 c2 c3 c4 c5 c6 c7 c8 c9 c10 c11 c12 l b,⟨.exact,true,d⟩]⟩
 mu i:=(l.take k).length-i
noncomputable def aIj (hv:Nat→Option Pa) (hb:Nat→Option Bool) (z:List AV) (c0 c1 c2 c3 c4 c5 c6 c7 c8 c9 c10 c11 c12:AV) (l:List UInt8) (b:Bool) (d:List AV) (k:Nat):Env := { e24 sm0 (fun i=>bif Nat.beq i 58000 then some (fun _=>[[bB7 z c0 c1 c2 c3 c4 c5 c6 c7 c8 c9 c10 c11 c12 l b d k]]) else none) hv hb with hz:=aZs }
noncomputable def aCt (hv:Nat→Option Pa) (hb:Nat→Option Bool) (z:List AV) (c0 c1 c2 c3 c4 c5 c6 c7 c8 c9 c10 c11 c12:AV) (l:List UInt8) (b:Bool) (d:List AV) (k:Nat) (Q:Out→List Blk→Gh→Prop):Prop:=
 bH (aIj hv hb z c0 c1 c2 c3 c4 c5 c6 c7 c8 c9 c10 c11 c12 l b d k) (wpx (aIj hv hb z c0 c1 c2 c3 c4 c5 c6 c7 c8 c9 c10 c11 c12 l b d k) 1000) 58 [.ptr 1 15 0,.int .i64 (k:Nat)] [⟨.exact,true,z⟩,rdB true c0 c1 c2 c3 c4 c5 c6 c7 c8 c9 c10 c11 c12 l b,⟨.exact,true,d⟩] {} Q
theorem bIa (z:List AV) (c0:AV) (c1:AV) (c2:AV) (c3:AV) (c4:AV) (c5:AV) (c6:AV) (c7:AV) (c8:AV) (c9:AV) (c10:AV) (c11:AV) (c12:AV) (l:List UInt8) (b:Bool) (d:List AV) (k:Nat) (Q:Out→List Blk→Gh→Prop):aCt (bG [(237580,.int .i64),(237581,.int .i64),(237593,.int .i64),(237594,.str),(237596,.int .i64),(237600,.int .u8),(237601,.int .i64),(237602,.int .i64),(237604,.int .i64),(237605,.int .i64),(237606,.int .i64),(237612,.int .i64),(237613,.str),(237616,.int .i64)]) (bF [(241662,false),(1237568000,false)]) z c0 c1 c2 c3 c4 c5 c6 c7 c8 c9 c10 c11 c12 l b d k Q=(exI .i64 (l.length:Int) (fun n_0=>exI .i64 (k:Int) (fun n_1=>bif decide (n_0<n_1) then Q oZ [nD z,Blk.mk BK.exact true (qM c0 c1 c2 c3 c4 c5 c6 c7 c8 c9 c10 c11 c12),nD d] {} else exI .i64 (k:Int) (fun n_2=>ckQ (aGn n_2 l) (exS (pW n_2 l) (fun s_3=>ckQ (aJj s_3) (exI .i64 (s_3.length:Int) (fun n_4=>(∃x_5:Nat,tN x_5 k l∧z=z∧aK (sW c0 c1 c2 c3 c4 c5 c6 c7 c8 c9 c10 c11 c12 l b)∧d=d∧aK0 k s_3 l x_5 n_4)∧∀x_5:Nat,tN x_5 k l→bif qK x_5 k l then bF3 x_5 k l z c0 c1 c2 c3 c4 c5 c6 c7 c8 c9 c10 c11 c12 b d else exI .i64 (k:Int) (fun n_6=>ckQ (qG n_6 l) (exS (aKy l n_6) (fun s_7=>exI .i64 (jQ x_5 k l) (fun n_8=>Q (pM n_8) [nD z,Blk.mk BK.exact true (sW c0 c1 c2 c3 c4 c5 c6 c7 c8 c9 c10 c11 c12 s_7 b),nD d] {})))))))))))):=by kernel_rfl

theorem bRo (z:List AV) (c0 c1 c2 c3 c4 c5 c6 c7 c8 c9 c10 c11 c12:AV) (l:List UInt8) (b:Bool) (d:List AV) (k:Nat) (hk:k≤4) (Q:Out→List Blk→Gh→Prop) (hq:∀n l' b',tkM k l b=(n,l',b')→Q (.ret (.int .i64 n)) [⟨.exact,true,z⟩,rdB true c0 c1 c2 c3 c4 c5 c6 c7 c8 c9 c10 c11 c12 l' b',⟨.exact,true,d⟩] {}):∃hv hb,aCt hv hb z c0 c1 c2 c3 c4 c5 c6 c7 c8 c9 c10 c11 c12 l b d k Q:=by
 obtain ⟨hv,hb',e⟩:∃hv hb,aCt hv hb z c0 c1 c2 c3 c4 c5 c6 c7 c8 c9 c10 c11 c12 l b d k Q=_:=⟨_,_,bIa z c0 c1 c2 c3 c4 c5 c6 c7 c8 c9 c10 c11 c12 l b d k Q⟩
 refine ⟨hv,hb',e.mpr ?_⟩
 delta oZ nD qM aGn pW aJj tN sW jQ aK0 qK uN uI uG aNh uA uH aCw bF3 qG aKy pM
 clear e
 have hmin:(l.take k).length≤k:=by rw[List.length_take];omega
 refine ⟨_,rfl,_,rfl,aD (fun h=>hq _ _ _ (by rw[tkM,if_pos (by omega)])) (fun h => ?_)⟩
 have hlen:(l.take k).length=k:=by rw[List.length_take];omega
 refine ⟨_,rfl,ckI (by simp;omega) ⟨l.take k,by simp,ckI (by simp[aI,aN,bS]) ?_⟩⟩
 refine ⟨_,rfl,⟨0,⟨Nat.zero_le _⟩,rfl,rfl,rfl,rfl,rfl,rfl,rfl,rfl,rfl,trivial⟩, ?_⟩
 rintro i ⟨hi⟩
 refine aD (fun h2 => ?_) (fun h2 => ?_)
 ·have hi':i<(l.take k).length:=by omega
  have hs:=fM (l:=(l.take k).take i) (by rw[List.length_take];omega)
  have hc:=((l.take k)[i]).toNat_lt
  refine ckI (by simp;omega) (ckI (by simp[aI];omega) (aZ7 hi' (by simp) (orN hs ⟨by omega,by omega⟩ (aC (by omega) (by omega) ⟨⟨trivial,rfl⟩,i+1,⟨hi'⟩,by omega,rfl,rfl,rfl,rfl,rfl,rfl,by rw[jE hi'],rfl,rfl,trivial⟩))))
 ·have:(l.take k).take i=l.take k:=List.take_of_length_le (by omega)
  rw[this]
  refine ⟨_,rfl,ckI (by simp;omega) ⟨l.drop k,by rw[Int.toNat_natCast,List.take_of_length_le (by simp)],_,rfl,hq _ _ _ (by rw[tkM,if_neg (by omega)])⟩⟩
def bAr (z:List AV) (c0 c1 c2 c3 c4 c5 c6 c7 c8 c9 c10 c11 c12:AV) (l:List UInt8) (b:Bool) (d e g j:List AV) (k:Nat):LInv where
 α:=Nat
 pre i:=Lf (i≤(l.take k).length)
 st i:=⟨mkT [(0,.ptr 1 15 0),(1,.int .i64 (k:Nat)),(5,.int .i64 (qR ((l.take k).take i))),(27,.lst 0 (ofBytes (l.take k)) (l.take k).length 1),(28,.int .i64 ((l.take k).length:Nat)),(29,.int .i64 (i:Nat))],[⟨.exact,true,z⟩,rdB false c0 c1 c2 c3 c4 c5 c6 c7 c8 c9 c10 c11 c12 l b,⟨.exact,true,d⟩,⟨.exact,true,e⟩,⟨.grow,true,g⟩,⟨.exact,true,j⟩]⟩
 mu i:=(l.take k).length-i
noncomputable def aHh (hv:Nat→Option Pa) (hb:Nat→Option Bool) (z:List AV) (c0 c1 c2 c3 c4 c5 c6 c7 c8 c9 c10 c11 c12:AV) (l:List UInt8) (b:Bool) (d e g j:List AV) (k:Nat):Env := { e24 sm0 (fun i=>bif Nat.beq i 58000 then some (fun _=>[[bAr z c0 c1 c2 c3 c4 c5 c6 c7 c8 c9 c10 c11 c12 l b d e g j k]]) else none) hv hb with hz:=aZs }
noncomputable def aDv (hv:Nat→Option Pa) (hb:Nat→Option Bool) (z:List AV) (c0 c1 c2 c3 c4 c5 c6 c7 c8 c9 c10 c11 c12:AV) (l:List UInt8) (b:Bool) (d e g j:List AV) (k:Nat) (Q:Out→List Blk→Gh→Prop):Prop:=
 bH (aHh hv hb z c0 c1 c2 c3 c4 c5 c6 c7 c8 c9 c10 c11 c12 l b d e g j k) (wpx (aHh hv hb z c0 c1 c2 c3 c4 c5 c6 c7 c8 c9 c10 c11 c12 l b d e g j k) 1000) 58 [.ptr 1 15 0,.int .i64 (k:Nat)] [⟨.exact,true,z⟩,rdB false c0 c1 c2 c3 c4 c5 c6 c7 c8 c9 c10 c11 c12 l b,⟨.exact,true,d⟩,⟨.exact,true,e⟩,⟨.grow,true,g⟩,⟨.exact,true,j⟩] {} Q
theorem bJa (z:List AV) (c0:AV) (c1:AV) (c2:AV) (c3:AV) (c4:AV) (c5:AV) (c6:AV) (c7:AV) (c8:AV) (c9:AV) (c10:AV) (c11:AV) (c12:AV) (l:List UInt8) (b:Bool) (d:List AV) (e:List AV) (g:List AV) (j :
 List AV) (k:Nat) (Q:Out→List Blk→Gh→Prop):aDv (bG [(237580,.int .i64),(237581,.int .i64),(237593,.int .i64),(237594,.str),(237596,.int .i64),(237600,.int .u8),(237601,.int .i64),(237602,.int .i64),
 (237604,.int .i64),(237605,.int .i64),(237606,.int .i64),(237612,.int .i64),(237613,.str),(237616,.int .i64)]) (bF [(241662,false),(1237568000,false)]) z c0 c1 c2 c3 c4 c5 c6 c7 c8 c9 c10 c11 c12 l b d e g j k Q=(exI
 .i64 (l.length:Int) (fun n_0=>exI .i64 (k:Int) (fun n_1=>bif decide (n_0<n_1) then Q oZ [nD z,Blk.mk BK.exact false (qM c0 c1 c2 c3 c4 c5 c6 c7 c8 c9 c10 c11 c12),nD d,nD e,mD g,nD j] {} else exI .i64 (k :
 Int) (fun n_2=>ckQ (aGn n_2 l) (exS (pW n_2 l) (fun s_3=>ckQ (aJj s_3) (exI .i64 (s_3.length:Int) (fun n_4=>(∃x_5:Nat,tN x_5 k l∧z=z∧aK (sW c0 c1 c2 c3 c4 c5 c6 c7 c8 c9 c10 c11 c12 l b)∧d=d∧e=e∧g=g
 ∧ j=j∧aK0 k s_3 l x_5 n_4)∧∀x_5:Nat,tN x_5 k l→bif qK x_5 k l then ckQ (uN x_5 k l) (ckQ (uI x_5 k l) (exV .u8 (uG k l x_5) (fun n_6=>exI .i64 (jQ x_5 k l) (fun n_7=>exW .i64 (n_7*256) (fun n_8=>exW
 .i64 n_6 (fun n_9=>exW .i64 (aNh n_8 n_9) (fun n_10=>exW .i64 ((x_5:Int)+1) (fun n_11=>uA∧∃y_12:Nat,tN y_12 k l∧uH k l y_12 x_5∧z=z∧aK (sW c0 c1 c2 c3 c4 c5 c6 c7 c8 c9 c10 c11 c12 l b)∧d=d∧e=e
 ∧ g=g∧j=j∧aYn k l n_10 y_12 n_11)))))))) else exI .i64 (k:Int) (fun n_6=>ckQ (qG n_6 l) (exS (aKy l n_6) (fun s_7=>exI .i64 (jQ x_5 k l) (fun n_8=>Q (pM n_8) [nD z,Blk.mk BK.exact false (sW c0 c1 c2 c3 c4 c5
 c6 c7 c8 c9 c10 c11 c12 s_7 b),nD d,nD e,mD g,nD j] {})))))))))))):=by kernel_rfl

theorem bRd (z:List AV) (c0 c1 c2 c3 c4 c5 c6 c7 c8 c9 c10 c11 c12:AV) (l:List UInt8) (b:Bool) (d e g j:List AV) (k:Nat) (hk:k≤4) (Q:Out→List Blk→Gh→Prop) (hq:∀n l' b',tkM k l b=(n,l',b')→Q (.ret (.int .i64 n)) [⟨.exact,true,z⟩,rdB false c0 c1 c2 c3 c4 c5 c6 c7 c8 c9 c10 c11 c12 l' b',⟨.exact,true,d⟩,⟨.exact,true,e⟩,⟨.grow,true,g⟩,⟨.exact,true,j⟩] {}):∃hv hb,aDv hv hb z c0 c1 c2 c3 c4 c5 c6 c7 c8 c9 c10 c11 c12 l b d e g j k Q:=by
 obtain ⟨hv,hb',e⟩:∃hv hb,aDv hv hb z c0 c1 c2 c3 c4 c5 c6 c7 c8 c9 c10 c11 c12 l b d e g j k Q=_:=⟨_,_,bJa z c0 c1 c2 c3 c4 c5 c6 c7 c8 c9 c10 c11 c12 l b d e g j k Q⟩
 refine ⟨hv,hb',e.mpr ?_⟩
 delta oZ nD qM mD aGn pW aJj tN sW jQ aK0 qK uN uI uG aNh uA uH aCw aYn qG aKy pM
 clear e
 have hmin:(l.take k).length≤k:=by rw[List.length_take];omega
 refine ⟨_,rfl,_,rfl,aD (fun h=>hq _ _ _ (by rw[tkM,if_pos (by omega)])) (fun h => ?_)⟩
 have hlen:(l.take k).length=k:=by rw[List.length_take];omega
 refine ⟨_,rfl,ckI (by simp;omega) ⟨l.take k,by simp,ckI (by simp[aI,aN,bS]) ?_⟩⟩
 refine ⟨_,rfl,⟨0,⟨Nat.zero_le _⟩,rfl,rfl,rfl,rfl,rfl,rfl,rfl,rfl,rfl,rfl,rfl,rfl,trivial⟩, ?_⟩
 rintro i ⟨hi⟩
 refine aD (fun h2 => ?_) (fun h2 => ?_)
 ·have hi':i<(l.take k).length:=by omega
  have hs:=fM (l:=(l.take k).take i) (by rw[List.length_take];omega)
  have hc:=((l.take k)[i]).toNat_lt
  refine ckI (by simp;omega) (ckI (by simp[aI];omega) (aZ7 hi' (by simp) (orN hs ⟨by omega,by omega⟩ (aC (by omega) (by omega) ⟨⟨trivial,rfl⟩,i+1,⟨hi'⟩,by omega,rfl,rfl,rfl,rfl,rfl,rfl,rfl,rfl,rfl,by rw[jE hi'],rfl,rfl,trivial⟩))))
 ·have:(l.take k).take i=l.take k:=List.take_of_length_le (by omega)
  rw[this]
  refine ⟨_,rfl,ckI (by simp;omega) ⟨l.drop k,by rw[Int.toNat_natCast,List.take_of_length_le (by simp)],_,rfl,hq _ _ _ (by rw[tkM,if_neg (by omega)])⟩⟩
end Go.Proofs.YtafchcmemeinlaaDoor
