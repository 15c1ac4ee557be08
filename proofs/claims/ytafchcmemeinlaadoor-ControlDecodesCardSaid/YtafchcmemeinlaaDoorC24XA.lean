/-
  Chapter 24: receptions; steps of times.
-/
import Derived.Test.YtafchcmemeinlaaDoorCmJ
set_option linter.unusedSimpArgs false
set_option linter.unusedVariables false
set_option linter.unusedSectionVars false
namespace Go.Proofs.YtafchcmemeinlaaDoor
open Go.RowKit
set_option maxRecDepth 1000000

abbrev Rc:=Int×Int×Int×Int×Int×Int×Int
def oW (r:Rc):List AV:=[.int .i64 r.1,.int .i64 r.2.1,.int .i64 r.2.2.1,.int .i64 r.2.2.2.1,.int .i64 r.2.2.2.2.1,.int .i64 r.2.2.2.2.2.1,.int .i64 r.2.2.2.2.2.2]
def aF (l:List Rc):List AV:=l.flatMap oW
def fH (r:Rc):Bool:=decide ((0≤r.1∧r.1<4294967296)∧(0≤r.2.1∧r.2.1<256)∧(-8388608≤r.2.2.1∧r.2.2.1<8388608)∧(0≤r.2.2.2.1∧r.2.2.2.1<4294967296)∧(0≤r.2.2.2.2.1∧r.2.2.2.2.1<4294967296)∧(0≤r.2.2.2.2.2.1∧r.2.2.2.2.2.1<4294967296)∧(0≤r.2.2.2.2.2.2∧r.2.2.2.2.2.2<4294967296))
def dL (l:List Rc):Bool:=decide (l.length≤6)&&l.all fH
theorem aRu (r:Rc):(oW r).length=7:=rfl
theorem bI:∀l:List Rc,(aF l).length=7*l.length
 | []=>rfl
 | r::l=>by
  have:=bI l
  simp only[aF,List.flatMap_cons,List.length_append,aRu,List.length_cons] at this ⊢
  omega
theorem fK {l:List Rc} {i j:Nat} (hi:i<l.length) (hj:j=7*i):∃r,l[i]? = some r∧(aF l |>.drop j).take 7=oW r:=by
 subst hj
 induction l generalizing i with
 | nil=>simp at hi
 | cons x l ih=>
  cases i with
  | zero=>exact ⟨x,rfl,rfl⟩
  | succ i=>
   obtain ⟨r,h1,h2⟩:=ih (i:=i) (by simpa using hi)
   refine ⟨r,by simpa using h1, ?_⟩
   have e:aF (x::l)=oW x++aF l:=rfl
   rw[e,show 7*(i+1)=(oW x).length+7*i by rw[aRu];omega,←List.drop_drop,List.drop_left]
   exact h2
def aY5 (t:Nat) (l:List Rc):LInv where
 α:=Nat
 pre i:=Lf (i≤l.length∧l.length≤6∧(l.take i).all fH=true)
 st i:=⟨mkT [(0,.lst t (aF l) l.length 7),(1,.fn (.func 78) [] []),(7,.int .i64 l.length),(8,.int .i64 i)],[]⟩
 mu i:=l.length-i
noncomputable def aH6 (hv:Nat→Option Pa) (hb:Nat→Option Bool) (t:Nat) (l:List Rc) (Q:Out→List Blk→Gh→Prop):Prop:=
 bH (e24 smE (fun i=>bif Nat.beq i 80000 then some (fun _=>[[aY5 t l]]) else none) hv hb) (wpx (e24 smE (fun i=>bif Nat.beq i 80000 then some (fun _=>[[aY5 t l]]) else none) hv hb) 1000) 71 [.lst t (aF l) l.length 7] [] {} Q
abbrev bLt (x_2:Nat) (l:List Rc):Prop:=Lf (x_2≤l.length∧l.length≤6∧List.all (l.take x_2) fH=true)
abbrev bHs (xs_11:List Int):Prop:=(0:Int)≤(32:Int)∧xs_11.length≤4611686018427387904
abbrev bI6 (n_3:Int) (Q:Out→List Blk→Gh→Prop):Prop:=bif decide (n_3≥0) then Q (.ret (.bool false)) [] {} else Q (.ret (.bool true)) [] {}
abbrev bFj:Prop:=True∧(0:Nat)=(0:Nat)
theorem bNw (t:Nat) (l:List Rc) (Q:Out→List Blk→Gh→Prop):aH6 (bG [(290820,.int .i64),(327687,.int .i64),(327690,.int .i64),(327695,.agg [.int .i64,.int .i64,.int .i64,.int .i64,.int .i64,.int .i64,.int
 .i64]),(327698,.int .i64)]) (bF []) t l Q=(exI .i64 (l.length:Int) (fun n_0=>bif decide (n_0≤6) then exI .i64 (l.length:Int) (fun n_1=>(∃x_2:Nat,bLt x_2 l∧aK (AV.lst t (aF l) l.length 7)∧aK (AV.fn
 (Fn.func 78) [] [])∧AV.int .i64 n_1=AV.int .i64 (l.length:Int)∧AV.int .i64 0=AV.int .i64 (x_2:Int)∧True)∧∀x_2:Nat,bLt x_2 l→bif decide ((x_2:Int)<(l.length:Int)) then exI .i64 (x_2:Int) (fun n_3=>ckQ
 (decide (0≤n_3)&&Nat.blt n_3.toNat l.length&&true) (ckQ (Nat.ble (n_3.toNat*7+7) (aF l).length) (∃n_4 n_5 n_6 n_7 n_8 n_9 n_10,AV.agg (((aF l).drop (n_3.toNat*7)).take 7)=AV.agg [.int .i64 n_4,.int .i64 n_5,.int
 .i64 n_6,.int .i64 n_7,.int .i64 n_8,.int .i64 n_9,.int .i64 n_10]∧∃xs_11:List Int,Lf ([AV.int .i64 n_4,.int .i64 n_7,.int .i64 n_8,.int .i64 n_9,.int .i64 n_10]=aA xs_11∧5=xs_11.length∧bHs xs_11)∧bif !List.any
 xs_11 (jI 32) then ∃xs_12:List Int,Lf ([AV.int .i64 n_5]=aA xs_12∧1=xs_12.length∧(0:Int)≤(8:Int)∧xs_12.length≤4611686018427387904)∧bif !List.any xs_12 (jI 8) then bif decide (n_6 < -8388608) then bI6 n_3 Q
 else bif decide (n_6≥8388608) then bI6 n_3 Q else exW .i64 ((x_2:Int)+1) (fun n_13=>bFj∧∃y_14:Nat,bLt y_14 l∧l.length-y_14<l.length-x_2∧aK (AV.lst t (aF l) l.length 7)∧aK (AV.fn (Fn.func 78) [] []) ∧
 aK (AV.int .i64 (l.length:Int))∧AV.int .i64 n_13=AV.int .i64 (y_14:Int)∧True) else bI6 n_3 Q else bI6 n_3 Q))) else Q (.ret (.bool true)) [] {}) else Q (.ret (.bool false)) [] {})):=by kernel_rfl

def aT (ref last:Int) (first:Bool):List Int→List Int→Option (Int×List Int)
 | [],acc=>some (ref,acc)
 | t::l,acc=>
  if t = -1 then aT ref last first l acc
  else if t<0∨4294967296≤t then none
  else if first then
   aT (t/256) t false l (acc++[t%256])
  else if t-last < -32768∨32768≤t-last then none else aT ref t false l (acc++[t-last])
def dM (l:List Int):Option (Int×List Int):=aT 0 0 true l []
def bJ0 (t:Nat) (xs:List Int):List LInv:=[
 { α:=Nat,pre:=fun i=>Lf (i≤xs.length∧dM xs=aT 0 0 true (xs.drop i) []),st:=fun i=>⟨mkT [(0,.lst t (aA xs) xs.length 1),(2,.int .i64 0),(3,.nils),(5,.int .i64 0),(6,.bool true),(9,.lst t (aA xs) xs.length 1),(10,.int .i64 xs.length),(11,.int .i64 i)],[]⟩,mu:=fun i=>xs.length-i },
 { α:=Nat×Int×Int×List Int,pre:=fun p=>Lf (p.1≤xs.length∧1≤p.2.2.2.length∧p.2.2.2.length≤p.1∧0≤p.2.2.1∧p.2.2.1<4294967296∧dM xs=aT p.2.1 p.2.2.1 false (xs.drop p.1) p.2.2.2),st:=fun p=>⟨mkT [(0,.lst t (aA xs) xs.length 1),(2,.int .i64 p.2.1),(3,.sl 0 p.2.2.2.length 0 p.2.2.2.length 1),(5,.int .i64 p.2.2.1),(6,.bool false),(9,.lst t (aA xs) xs.length 1),(10,.int .i64 xs.length),(11,.int .i64 (p.1:Nat))],[⟨.grow,true,aA p.2.2.2⟩]⟩,mu:=fun p=>xs.length-p.1 }]
noncomputable def aYd (hv:Nat→Option Pa) (hb:Nat→Option Bool) (t:Nat) (xs:List Int):Env:=e24 smE (fun i=>bif Nat.beq i 70000 then some (fun _=>[bJ0 t xs]) else none) hv hb
noncomputable def aIl (hv:Nat→Option Pa) (hb:Nat→Option Bool) (t:Nat) (xs:List Int) (Q:Out→List Blk→Gh→Prop):Prop:=
 bH (aYd hv hb t xs) (wpx (aYd hv hb t xs) 1000) 70 [.lst t (aA xs) xs.length 1] [] {} Q
abbrev bCg (x_1:Nat) (xs:List Int):Prop:=Lf (x_1≤xs.length∧dM xs=aT 0 0 true (xs.drop x_1) [])
abbrev aR8 (t:Nat) (xs:List Int):Prop:=aK (AV.lst t (aA xs) xs.length 1)
abbrev aN4:Prop:=aK (AV.int .i64 0)
abbrev bP1 (xs:List Int):AV:=.int .i64 (xs.length:Int)
abbrev bC8 (x_1:Nat×Int×Int×List Int) (xs:List Int):Prop:=Lf (x_1.1≤xs.length∧1≤x_1.2.2.2.length∧x_1.2.2.2.length≤x_1.1∧0≤x_1.2.2.1∧x_1.2.2.1<4294967296∧dM xs=aT x_1.2.1 x_1.2.2.1 false (xs.drop x_1.1) x_1.2.2.2)
abbrev aVe:Out:=.ret (.tup [.int .i64 0,.nils,.bool false])
abbrev aOq (y_10:Nat×Int×Int×List Int):AV:=.sl 0 y_10.2.2.2.length 0 y_10.2.2.2.length 1
abbrev bMa (xs:List Int):Prop:=aK (AV.bool false)∧aK (AV.int .i64 (xs.length:Int))∧True
theorem bPi (t:Nat) (xs:List Int) (Q:Out→List Blk→Gh→Prop):aIl (bG [(286730,.int .i64),(286734,.int .i64),(286763,.int .i64),(286743,.int .i64),(286745,.int .i64),(286748,.int .i64),(286753,.int .i64),
 (286759,.int .i64),(286767,.int .i64),(286771,.int .i64)]) (bF []) t xs Q=(exI .i64 (xs.length:Int) (fun n_0=>((∃x_1:Nat,bCg x_1 xs∧aR8 t xs∧AV.nils=AV.nils∧AV.int .i64 0=AV.int .i64 (x_1:Int)∧aN4∧aR8
 t xs∧aN4∧aK (AV.bool true)∧AV.int .i64 n_0=bP1 xs∧True)∨∃x_1:Nat×Int×Int×List Int,bC8 x_1 xs∧False)∧(∀x_1:Nat,bCg x_1 xs→bif decide ((x_1:Int)<(xs.length:Int)) then ckQ (Nat.blt (x_1 :
 Int).toNat xs.length&&true) (ckQ (Nat.blt ((x_1:Int).toNat*1) (aA xs).length) (exV .i64 ((aA xs).getD ((x_1:Int).toNat*1) AV.undef) (fun n_2=>bif n_2 == -1 then exW .i64 ((x_1:Int)+1) (fun n_3=>bFj∧((∃y_4 :
 Nat,bCg y_4 xs∧xs.length-y_4<xs.length-x_1∧aR8 t xs∧AV.nils=AV.nils∧AV.int .i64 n_3=AV.int .i64 (y_4:Int)∧aN4∧aR8 t xs∧aN4∧aK (AV.bool true)∧aK (bP1 xs)∧True)∨∃y_4:Nat×Int×Int×List
 Int,bC8 y_4 xs∧xs.length-y_4.1<xs.length-x_1∧False)) else ∃xs_3:List Int,Lf ([AV.int .i64 n_2]=aA xs_3∧1=xs_3.length∧bHs xs_3)∧bif !List.any xs_3 (jI 32) then exI .i64 (Int.fdiv n_2 256) (fun n_4=>exW
 .i64 (n_4*256) (fun n_5=>exW .i64 (n_2-n_5) (fun n_6=>bif decide (n_6 < -32768) then Q aVe [] {} else exW .i64 (n_2-n_5) (fun n_7=>bif decide (n_7≥32768) then Q aVe [] {} else exW .i64 (n_2-n_5) (fun n_8=>exW .i64 ((x_1
 : Int)+1) (fun n_9=>bFj∧((∃y_10:Nat,bCg y_10 xs∧xs.length-y_10<xs.length-x_1∧False)∨∃y_10:Nat×Int×Int×List Int,bC8 y_10 xs∧xs.length-y_10.1<xs.length-x_1∧[AV.int .i64 n_8]=aA y_10.2.2.2 ∧
 aR8 t xs∧AV.sl 0 1 0 1 1=aOq y_10∧AV.int .i64 n_9=AV.int .i64 (y_10.1:Int)∧AV.int .i64 n_2=AV.int .i64 y_10.2.2.1∧aR8 t xs∧AV.int .i64 n_4=AV.int .i64 y_10.2.1∧bMa xs))))))) else Q aVe [] {}))) else exI .i64
 (xs.length:Int) (fun n_2=>bif decide (n_2≥1) then exI .i64 (xs.length:Int) (fun n_3=>bif decide (n_3≤64) then Q (.ret (.tup [.int .i64 0,.nils,.bool true])) [] {} else Q aVe [] {}) else Q aVe [] {}))∧∀x_1:Nat×Int ×
 Int×List Int,bC8 x_1 xs→bif decide ((x_1.1:Int)<(xs.length:Int)) then ckQ (Nat.blt (x_1.1:Int).toNat xs.length&&true) (ckQ (Nat.blt ((x_1.1:Int).toNat*1) (aA xs).length) (exV .i64 ((aA xs).getD ((x_1.1 :
 Int).toNat*1) AV.undef) (fun n_2=>bif n_2 == -1 then exW .i64 ((x_1.1:Int)+1) (fun n_3=>bFj∧((∃y_4:Nat,bCg y_4 xs∧xs.length-y_4<xs.length-x_1.1∧False)∨∃y_4:Nat×Int×Int×List Int,bC8 y_4 xs ∧
 xs.length-y_4.1<xs.length-x_1.1∧aA x_1.2.2.2=aA y_4.2.2.2∧aR8 t xs∧aOq x_1=aOq y_4∧AV.int .i64 n_3=AV.int .i64 (y_4.1:Int)∧AV.int .i64 x_1.2.2.1=AV.int .i64 y_4.2.2.1∧aR8 t xs∧AV.int .i64 x_1.2.1
 = AV.int .i64 y_4.2.1∧bMa xs)) else ∃xs_3:List Int,Lf ([AV.int .i64 n_2]=aA xs_3∧1=xs_3.length∧bHs xs_3)∧bif !List.any xs_3 (jI 32) then exW .i64 (n_2-x_1.2.2.1) (fun n_4=>bif decide (n_4 < -32768) then Q aVe
 [] {} else exW .i64 (n_2-x_1.2.2.1) (fun n_5=>bif decide (n_5≥32768) then Q aVe [] {} else exW .i64 (n_2-x_1.2.2.1) (fun n_6=>ckQ (Nat.beq (aA x_1.2.2.2).length x_1.2.2.2.length&&true&&Nat.beq (0+x_1.2.2.2.length*1)
 x_1.2.2.2.length&&Nat.ble (x_1.2.2.2.length+1) 1099511627776&&Nat.ble ((x_1.2.2.2.length+1)*8) 1099511627776) (exW .i64 ((x_1.1:Int)+1) (fun n_7=>bFj∧((∃y_8:Nat,bCg y_8 xs∧xs.length-y_8<xs.length-x_1.1 ∧
 False)∨∃y_8:Nat×Int×Int×List Int,bC8 y_8 xs∧xs.length-y_8.1<xs.length-x_1.1∧aA x_1.2.2.2++[AV.int .i64 n_6]=aA y_8.2.2.2∧aR8 t xs∧AV.sl 0 (x_1.2.2.2.length+1) 0 (x_1.2.2.2.length+1) 1=aOq y_8
 ∧ AV.int .i64 n_7=AV.int .i64 (y_8.1:Int)∧AV.int .i64 n_2=AV.int .i64 y_8.2.2.1∧aR8 t xs∧AV.int .i64 x_1.2.1=AV.int .i64 y_8.2.1∧bMa xs)))))) else Q aVe [] {}))) else exI .i64 (xs.length:Int) (fun n_2=>bif decide
 (n_2≥1) then exI .i64 (xs.length:Int) (fun n_3=>bif decide (n_3≤64) then Q (.ret (.tup [.int .i64 x_1.2.1,.sl 0 x_1.2.2.2.length 0 x_1.2.2.2.length 1,.bool true])) [Blk.mk BK.grow true (aA x_1.2.2.2)] {} else Q (.ret (.tup
 [.int .i64 x_1.2.1,.sl 0 x_1.2.2.2.length 0 x_1.2.2.2.length 1,.bool false])) [Blk.mk BK.grow true (aA x_1.2.2.2)] {}) else Q (.ret (.tup [.int .i64 x_1.2.1,.sl 0 x_1.2.2.2.length 0 x_1.2.2.2.length 1,.bool false])) [Blk.mk BK.grow
 true (aA x_1.2.2.2)] {}))):=by kernel_rfl


theorem fC (x:Int):jI 32 x=decide (x<0∨4294967296≤x):=by
 have e:(2:Int)^min (32:Int).toNat 64=4294967296:=rfl
 rw[jI,e,Int.fdiv_eq_ediv_of_nonneg _ (by omega)]
 rw[Bool.eq_iff_iff]
 simp only[Bool.or_eq_true,decide_eq_true_eq,bne_iff_ne,ne_eq]
 omega
theorem jP (x:Int):jI 8 x=decide (x<0∨256≤x):=by
 have e:(2:Int)^min (8:Int).toNat 64=256:=rfl
 rw[jI,e,Int.fdiv_eq_ediv_of_nonneg _ (by omega)]
 rw[Bool.eq_iff_iff]
 simp only[Bool.or_eq_true,decide_eq_true_eq,bne_iff_ne,ne_eq]
 omega
theorem dY (x:Int):jI 16 x=decide (x<0∨65536≤x):=by
 rw[Bool.eq_iff_iff,tC,decide_eq_true_eq]
theorem fD {b:Bool} {A B:Prop} (h:b=false→A) (k:b=true→B):bif !b then A else B:=by
 cases b
 ·exact h rfl
 ·exact k rfl
theorem vI {α:Type} {p:α→Bool} {l:List α} {i:Nat} {r:α} (h:l[i]? = some r):(l.take (i+1)).all p=((l.take i).all p&&p r):=by
 rw[List.take_add_one,h,List.all_append]
 simp
theorem aUo (t:Nat) (l:List Rc) (hl:l.length≤1000000) (Q:Out→List Blk→Gh→Prop) (hq:Q (.ret (.bool (dL l))) [] {}):∃hv hb,aH6 hv hb t l Q:=by
 obtain ⟨hv,hb',e⟩:∃hv hb,aH6 hv hb t l Q=_:=⟨_,_,bNw t l Q⟩
 refine ⟨hv,hb',e.mpr ?_⟩
 delta bLt bHs bI6 bFj
 clear e
 refine ⟨_,rfl,aD (fun h6=>⟨_,rfl,⟨0,⟨by omega,by omega,by simp⟩,rfl,rfl,rfl,rfl,trivial⟩, ?_⟩) (fun h6 => ?_)⟩
 ·rintro i ⟨g1,g2,g3⟩
  refine aD (fun h => ?_) (fun h => ?_)
  ·have hi:i<l.length:=by omega
   obtain ⟨r,hr,hc⟩:=fK hi (Nat.mul_comm 7 i▸rfl:i*7=7*i)
   have bad:fH r=false→Q (.ret (.bool false)) [] {}:=fun hb=>by
    have:dL l=false:=by
     have hall:l.all fH=false:=by
      rw[List.all_eq_false]
      exact ⟨r,List.mem_of_getElem? hr,by simp[hb]⟩
     simp[dL,hall]
    rwa [this] at hq
   have ge:(decide ((i:Int)≥0))=true:=by simp
   refine ⟨_,rfl,ckI (by simp;omega) (ckI (by simp[bI];omega) ⟨r.1,r.2.1,r.2.2.1,r.2.2.2.1,r.2.2.2.2.1,r.2.2.2.2.2.1,r.2.2.2.2.2.2,by rw[Int.toNat_natCast,hc];rfl,[r.1,r.2.2.2.1,r.2.2.2.2.1,r.2.2.2.2.2.1,r.2.2.2.2.2.2],⟨rfl,rfl,by decide,by simp⟩,fD (fun f1=>⟨[r.2.1],⟨rfl,rfl,by decide,by simp⟩,fD (fun f2=>aD (fun f3 => ?_) (fun f3=>aD (fun f4 => ?_) (fun f4 => ?_))) (fun f2 => ?_)⟩) (fun f1 => ?_)⟩)⟩
   all_goals simp only[List.any_cons,List.any_nil,Bool.or_false,fC,jP,Bool.or_eq_false_iff,Bool.or_eq_true,decide_eq_true_eq,decide_eq_false_iff_not] at f1
   all_goals try simp only[List.any_cons,List.any_nil,Bool.or_false,fC,jP,Bool.or_eq_false_iff,Bool.or_eq_true,decide_eq_true_eq,decide_eq_false_iff_not] at f2
   ·rw[ge];exact bad (by simp only[fH,decide_eq_false_iff_not];omega)
   ·rw[ge];exact bad (by simp only[fH,decide_eq_false_iff_not];omega)
   ·have hok:fH r=true:=by simp only[fH,decide_eq_true_eq];omega
    refine aC (by omega) (by omega) ⟨⟨trivial,rfl⟩,i+1,⟨hi,g2,by rw[vI hr,g3,hok];rfl⟩,by omega,rfl,rfl,rfl,rfl,trivial⟩
   ·rw[ge];exact bad (by simp only[fH,decide_eq_false_iff_not];omega)
   ·rw[ge];exact bad (by simp only[fH,decide_eq_false_iff_not];omega)
  ·have:dL l=true:=by
    rw[List.take_of_length_le (by omega)] at g3
    simp only[dL,g3,Bool.and_true,decide_eq_true_eq];omega
   rwa [this] at hq
 ·have:dL l=false:=by
   simp only[dL,Bool.and_eq_false_iff,decide_eq_false_iff_not];left;omega
  rwa [this] at hq
def aL6:Con
 | [.lst _ cs n 7],H,K=>∃l:List Rc,Lf (cs=aF l∧n=l.length∧l.length≤1000000)∧K (.ret (.bool (dL l))) H
 | _,_,_=>False
theorem bA0:aO Tryd.prog glC 71 aL6:=by
 refine bE (enters_of (by kernel_rfl)) aV fun args H Q hc => ?_
 unfold aL6 at hc
 split at hc
 ·obtain ⟨l,⟨rfl,rfl,hl⟩,hq⟩:=hc
  obtain ⟨hv,hb',h⟩:=aUo _ l hl (fun o H' _=>H'=[]∧(∃v,o=.ret v∧old 0 v=true∧noY v=true)∧Q o H) ⟨rfl,⟨_,rfl,rfl,rfl⟩,hq⟩
  exact ⟨rfl,rfl,_,1000,aS aO1 _ _ _,rfl,h⟩
 ·exact hc.elim
def aZ (xs:List Int):Int×List Int×Bool:=match dM xs with
 | some p=>(p.1,p.2,decide (1≤xs.length∧xs.length≤64))
 | none=>(0,[],false)
theorem aR7 (t:Nat) (xs:List Int) (hl:xs.length≤1000000) (Q:Out→List Blk→Gh→Prop)
  (hq0:(aZ xs).2.1=[]→Q (.ret (.tup [.int .i64 (aZ xs).1,.nils,.bool (aZ xs).2.2])) [] {})
  (hq:∀r l b,aZ xs=(r,l,b)→Q (.ret (.tup [.int .i64 r,.sl 0 l.length 0 l.length 1,.bool b])) [⟨.grow,true,aA l⟩] {}):∃hv hb,aIl hv hb t xs Q:=by
 obtain ⟨hv,hb',e⟩:∃hv hb,aIl hv hb t xs Q=_:=⟨_,_,bPi t xs Q⟩
 refine ⟨hv,hb',e.mpr ?_⟩
 delta bCg aR8 aN4 bP1 bC8 bFj bHs aVe aOq bMa
 clear e
 have no:dM xs=none→Q (.ret (.tup [.int .i64 0,.nils,.bool false])) [] {}:=fun h=>by
  have e:aZ xs=(0,[],false):=by simp[aZ,h]
  rw[e] at hq0
  exact hq0 rfl
 refine ⟨_,rfl,.inl ⟨0,⟨by omega,rfl⟩,rfl,rfl,rfl,rfl,rfl,rfl,rfl,rfl,trivial⟩, ?_, ?_⟩
 ·rintro i ⟨g1,g2⟩
  refine aD (fun h => ?_) (fun h => ?_)
  ·have hi:i<xs.length:=by omega
   rw[gX hi,aT] at g2
   refine ckI (by simp;omega) (ckI (by simp[aB];omega) (kS (i:=i) hi (by simp) (aP (fun he => ?_) (fun he => ?_))))
   ·rw[if_pos he] at g2
    refine aC (by omega) (by omega) ⟨⟨trivial,rfl⟩,.inl ⟨i+1,⟨hi,g2⟩,by omega,rfl,rfl,rfl,rfl,rfl,rfl,rfl,rfl,trivial⟩⟩
   ·rw[if_neg he] at g2
    refine ⟨[xs.getD i 0],⟨rfl,rfl,by decide,by simp⟩,fD (fun f1 => ?_) (fun f1 => ?_)⟩
    all_goals simp only[List.any_cons,List.any_nil,Bool.or_false,fC,decide_eq_true_eq,decide_eq_false_iff_not] at f1
    ·rw[if_neg f1,if_pos rfl,List.nil_append] at g2
     refine ⟨_,rfl, ?_⟩
     rw[Int.fdiv_eq_ediv_of_nonneg _ (by omega)]
     have e3:xs.getD i 0-xs.getD i 0/256*256=xs.getD i 0%256:=by omega
     refine aC (by omega) (by omega) (aC (by omega) (by omega) (aD (fun h=>by exfalso;omega) (fun _=>aC (by omega) (by omega) (aD (fun h=>by exfalso;omega) (fun _=>aC (by omega) (by omega) (aC (by omega) (by omega) ⟨⟨trivial,rfl⟩,.inr ⟨(i+1,xs.getD i 0/256,xs.getD i 0,[xs.getD i 0%256]),⟨hi,by simp,by simp,by dsimp only;omega,by dsimp only;omega,g2⟩,by dsimp only;omega,by rw[e3];rfl,rfl,rfl,rfl,rfl,rfl,rfl,rfl,rfl,trivial⟩⟩))))))
    ·rw[if_pos f1] at g2
     exact no g2
  ·rw[List.drop_of_length_le (by omega),aT] at g2
   have e:aZ xs=(0,[],decide (1≤xs.length∧xs.length≤64)):=by simp[aZ,g2]
   rw[e] at hq0
   have hq1:=hq0 rfl
   dsimp only at hq1
   refine ⟨_,rfl,aD (fun h1=>⟨_,rfl,aD (fun h2 => ?_) (fun h2 => ?_)⟩) (fun h1 => ?_)⟩
   ·rwa [decide_eq_true (by omega)] at hq1
   ·rwa [decide_eq_false (by omega)] at hq1
   ·rwa [decide_eq_false (by omega)] at hq1
 ·rintro ⟨i,ref,last,acc⟩ ⟨g1,g2,g3,g4,g5,g6⟩
  dsimp only at g1 g2 g3 g4 g5 g6 ⊢
  refine aD (fun h => ?_) (fun h => ?_)
  ·have hi:i<xs.length:=by omega
   rw[gX hi,aT] at g6
   refine ckI (by simp;omega) (ckI (by simp[aB];omega) (kS (i:=i) hi (by simp) (aP (fun he => ?_) (fun he => ?_))))
   ·rw[if_pos he] at g6
    refine aC (by omega) (by omega) ⟨⟨trivial,rfl⟩,.inr ⟨(i+1,ref,last,acc),⟨hi,g2,by dsimp only;omega,g4,g5,g6⟩,by dsimp only;omega,rfl,rfl,rfl,rfl,rfl,rfl,rfl,rfl,rfl,trivial⟩⟩
   ·rw[if_neg he] at g6
    refine ⟨[xs.getD i 0],⟨rfl,rfl,by decide,by simp⟩,fD (fun f1 => ?_) (fun f1 => ?_)⟩
    all_goals simp only[List.any_cons,List.any_nil,Bool.or_false,fC,decide_eq_true_eq,decide_eq_false_iff_not] at f1
    ·rw[if_neg f1,if_neg (by simp)] at g6
     refine aC (by omega) (by omega) (aD (fun h3 => ?_) (fun h3=>aC (by omega) (by omega) (aD (fun h4 => ?_) (fun h4 => ?_))))
     ·rw[if_pos (.inl h3)] at g6;exact no g6
     ·rw[if_pos (.inr h4)] at g6;exact no g6
     ·rw[if_neg (by omega)] at g6
      refine aC (by omega) (by omega) (ckI (by simp[aB];omega) (aC (by omega) (by omega) ⟨⟨trivial,rfl⟩,.inr ⟨(i+1,ref,xs.getD i 0,acc++[xs.getD i 0-last]),⟨hi,by simp,by simp;omega,by dsimp only;omega,by dsimp only;omega,g6⟩,by dsimp only;omega,by simp[aA],rfl,by simp,rfl,rfl,rfl,rfl,rfl,rfl,trivial⟩⟩))
    ·rw[if_pos f1] at g6
     exact no g6
  ·rw[List.drop_of_length_le (by omega),aT] at g6
   have hq1:=hq ref acc (decide (1≤xs.length∧xs.length≤64)) (by simp[aZ,g6])
   refine ⟨_,rfl,aD (fun h1=>⟨_,rfl,aD (fun h2 => ?_) (fun h2 => ?_)⟩) (fun h1 => ?_)⟩
   ·rwa [decide_eq_true (by omega)] at hq1
   ·rwa [decide_eq_false (by omega)] at hq1
   ·rwa [decide_eq_false (by omega)] at hq1
def aKh:Con
 | [.lst _ cs n 1],H,K=>∃xs:List Int,Lf (cs=aA xs∧n=xs.length∧xs.length≤1000000)∧∀r l b,Lf (aZ xs=(r,l,b))→K (.ret (.tup [.int .i64 r,.lst 0 (aA l) l.length 1,.bool b])) H
 | _,_,_=>False
theorem fO (xs:List Int):∀x∈aA xs,aAn x=true:=by
 intro x hx
 simp only[aA,List.mem_map] at hx
 obtain ⟨p,_,rfl⟩:=hx
 rfl
theorem aUh (l:List Int):dK 0 [⟨.grow,true,aA l⟩] 5 (.sl 0 l.length 0 l.length 1)=.lst 0 (aA l) l.length 1:=
 mE (b:=⟨.grow,true,aA l⟩) rfl (aB l) (by omega) (by simp) (by simp[aB,List.take_of_length_le]) (fO l)
theorem aK2:aO Tryd.prog glC 70 aKh:=by
 refine fE (enters_of (by kernel_rfl)) aV 6 (nlR [0,1,0]) (vZ _) fun args H Q hc => ?_
 unfold aKh at hc
 split at hc
 ·obtain ⟨xs,⟨rfl,rfl,hl⟩,hq⟩:=hc
  obtain ⟨hv,hb',h⟩:=aR7 _ xs hl (fun o H' _=>∃v,o=.ret v∧Q (.ret (nlR [0,1,0] (dK 0 H' 6 v))) H) (fun h=>⟨_,rfl,by
   have:=hq _ _ _ ⟨(by rw[←h]:aZ xs=((aZ xs).1,[],(aZ xs).2.2))⟩
   exact this⟩) (fun r l b h=>⟨_,rfl,by
   have:=hq _ _ _ ⟨h⟩
   have e:dK 0 [⟨.grow,true,aA l⟩] 6 (.tup [.int .i64 r,.sl 0 l.length 0 l.length 1,.bool b])=.tup [.int .i64 r,dK 0 [⟨.grow,true,aA l⟩] 5 (.sl 0 l.length 0 l.length 1),.bool b]:=rfl
   rw[e,aUh]
   exact this⟩)
  exact ⟨rfl,rfl,_,1000,aS aO1 _ _ _,rfl,h⟩
 ·exact hc.elim
end Go.Proofs.YtafchcmemeinlaaDoor
