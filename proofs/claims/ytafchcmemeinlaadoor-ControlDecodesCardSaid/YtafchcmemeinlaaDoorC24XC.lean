/-
  Chapter 24: what is valid for the reference; Check and Right.
-/
import Derived.Test.YtafchcmemeinlaaDoorC24XB
set_option linter.unusedSimpArgs false
set_option linter.unusedVariables false
set_option linter.unusedSectionVars false
namespace Go.Proofs.YtafchcmemeinlaaDoor
open Go.RowKit
set_option maxRecDepth 1000000

def okC (c:Ctl):Prop:=c.rs.length≤1000000∧c.lo.length≤1000000∧c.ti.length≤1000000
def yO:Con
 | [.agg cs],H,K=>∃c:Ctl,Lf (cs=ctC c∧okC c)∧K (.ret (.bool (aQ c))) H
 | _,_,_=>False
theorem aA6 (l:List Rc):bQ (aF l)=true∧bB 0 (aF l)=true:=by
 induction l with
 | nil=>exact ⟨rfl,rfl⟩
 | cons p ps ih=>exact ⟨by simpa [aF,oW,bQ,noY] using ih.1,by simpa [aF,oW,bB,old] using ih.2⟩
theorem aPl (c:Ctl) (h:okC c) (Q:Out→List Blk→Gh→Prop) (hq:Q (.ret (.bool (aQ c))) [] {}):∃hv hb,aS5 hv hb c.k c.f c.a c.s1 c.s2 c.s3 c.s4 c.s5 c.rs c.lo c.ba c.ro c.ti Q:=by
 obtain ⟨k,f,a,s1,s2,s3,s4,s5,rs,lo,ba,ro,ti⟩:=c
 obtain ⟨h1,h2,h3⟩:=h
 dsimp only at h1 h2 h3 ⊢
 cases k with
 | negSucc m=>exact aLx m f a s1 s2 s3 s4 s5 rs lo ba ro ti h1 h2 h3 Q hq
 | ofNat k=>
  match k with
  | 0=>exact aMf f a s1 s2 s3 s4 s5 rs lo ba ro ti h1 h2 h3 Q hq
  | 1=>exact aL4 f a s1 s2 s3 s4 s5 rs lo ba ro ti h1 h2 h3 Q hq
  | 2=>exact aMo f a s1 s2 s3 s4 s5 rs lo ba ro ti h1 h2 h3 Q hq
  | 3=>exact aMa f a s1 s2 s3 s4 s5 rs lo ba ro ti h1 h2 h3 Q hq
  | 4=>exact aK4 f a s1 s2 s3 s4 s5 rs lo ba ro ti h1 h2 h3 Q hq
  | 5=>exact aLr f a s1 s2 s3 s4 s5 rs lo ba ro ti h1 h2 h3 Q hq
  | 6=>exact aLh f a s1 s2 s3 s4 s5 rs lo ba ro ti h1 h2 h3 Q hq
  | m+7=>exact aMu m f a s1 s2 s3 s4 s5 rs lo ba ro ti h1 h2 h3 Q hq
theorem aXs:aO Tryd.prog glC 49 yO:=by
 refine bE (enters_of (by kernel_rfl)) aV fun args H Q hc => ?_
 unfold yO at hc
 split at hc
 ·obtain ⟨c,⟨rfl,h⟩,hq⟩:=hc
  obtain ⟨hv,hb',h⟩:=aPl c h (fun o H' _=>H'=[]∧(∃v,o=.ret v∧old 0 v=true∧noY v=true)∧Q o H) ⟨rfl,⟨_,rfl,rfl,rfl⟩,hq⟩
  refine ⟨by simp[ctC,bB,old],by simp[ctC,bQ,noY],_,1000,aS bFi _ _ _,rfl,h⟩
 ·exact hc.elim
def aG (l:List Ctl):List AV:=l.flatMap ctC
theorem aQ4 (c:Ctl):(ctC c).length=13:=rfl
theorem bJ:∀l:List Ctl,(aG l).length=13*l.length
 | []=>rfl
 | r::l=>by
  have:=bJ l
  simp only[aG,List.flatMap_cons,List.length_append,aQ4,List.length_cons] at this ⊢
  omega
theorem iJ {l:List Ctl} {i j:Nat} (hi:i<l.length) (hj:j=13*i):∃r,l[i]? = some r∧(aG l |>.drop j).take 13=ctC r:=by
 subst hj
 induction l generalizing i with
 | nil=>simp at hi
 | cons x l ih=>
  cases i with
  | zero=>exact ⟨x,rfl,rfl⟩
  | succ i=>
   obtain ⟨r,h1,h2⟩:=ih (i:=i) (by simpa using hi)
   refine ⟨r,by simpa using h1, ?_⟩
   have e:aG (x::l)=ctC x++aG l:=rfl
   rw[e,show 13*(i+1)=(ctC x).length+13*i by rw[aQ4];omega,←List.drop_drop,List.drop_left]
   exact h2
def lL (l:List Ctl):Bool:=match l with
 | []=>false
 | c::_=>decide (c.k=1∨c.k=2)
def bP (l:List Ctl):Bool:=decide (1≤l.length∧l.length≤8)&&lL l&&l.all aQ
def bQk:SM:=gH [(49,yO)]
theorem bDd:∀f g,bQk f=some g→aO Tryd.prog glC f g:=bW _ (by simp only[List.mem_cons,List.not_mem_nil,or_false,forall_eq];exact aXs)
def bJ2 (t:Nat) (l:List Ctl):LInv where
 α:=Nat
 pre i:=Lf (i≤l.length∧(l.take i).all aQ=true)
 st i:=⟨mkT [(0,.lst t (aG l) l.length 13),(1,.fn (.func 48) [] []),(7,.int .i64 l.length),(8,.int .i64 i)],[]⟩
 mu i:=l.length-i
noncomputable def aYq (hv:Nat→Option Pa) (hb:Nat→Option Bool) (t:Nat) (l:List Ctl):Env:=e24 bQk (fun i=>bif Nat.beq i 69000 then some (fun _=>[[bJ2 t l]]) else none) hv hb
noncomputable def aG4 (hv:Nat→Option Pa) (hb:Nat→Option Bool) (t:Nat) (l:List Ctl) (Q:Out→List Blk→Gh→Prop):Prop:=
 bH (aYq hv hb t l) (wpx (aYq hv hb t l) 1000) 25 [.lst t (aG l) l.length 13] [] {} Q
def yR (t:Nat) (l:List Ctl) (Q:Out→List Blk→Gh→Prop):Prop:=
exI .i64 (l.length:Int) fun n_0=>(∃x_1:Nat,Lf (x_1≤l.length∧List.all (l.take x_1) aQ=true)∧aK (AV.lst t (aG l) l.length 13)∧aK (AV.fn (Fn.func 48) [] [])∧AV.int .i64 n_0=AV.int .i64 (l.length:Int) ∧
 AV.int .i64 0=AV.int .i64 (x_1:Int)∧True)∧∀x_1:Nat,Lf (x_1≤l.length∧List.all (l.take x_1) aQ=true)→bif decide ((x_1:Int)<(l.length:Int)) then exI .i64 (x_1:Int) fun n_2=>ckQ (decide (0≤n_2)&&Nat.blt
 n_2.toNat l.length&&true) (ckQ (Nat.ble (n_2.toNat*13+13) (aG l).length) (ckQ (Nat.beq (((aG l).drop (n_2.toNat*13)).take 13).length (((aG l).drop (n_2.toNat*13)).take 13).length&&Nat.ble 13 (((aG l).drop
 (n_2.toNat*13)).take 13).length) (∃c_3:Ctl,Lf (((((aG l).drop (n_2.toNat*13)).take 13).drop 0).take 13=[AV.int .i64 c_3.1,.int .i64 c_3.2,.int .i64 c_3.3,.int .i64 c_3.4,.int .i64 c_3.5,.int .i64 c_3.6,.int .i64 c_3.7,
 .int .i64 c_3.8,.lst 0 (aF c_3.9) c_3.9.length 7,.lst 0 (aA c_3.10) c_3.10.length 1,.int .i64 c_3.11,.int .i64 c_3.12,.lst 0 (aA c_3.13) c_3.13.length 1]∧okC c_3)∧bif aQ c_3 then exW .i64 ((x_1:Int)+1) fun n_4
 => (True∧(0:Nat)=(0:Nat))∧∃y_5:Nat,Lf (y_5≤l.length∧List.all (l.take y_5) aQ=true)∧l.length-y_5<l.length-x_1∧aK (AV.lst t (aG l) l.length 13)∧aK (AV.fn (Fn.func 48) [] [])∧aK (AV.int .i64
 (l.length:Int))∧AV.int .i64 n_4=AV.int .i64 (y_5:Int)∧True else bif decide (n_2≥0) then Q (.ret (.int .i64 240)) [] {} else Q (.ret (.int .i64 0)) [] {}))) else Q (.ret (.int .i64 0)) [] {}
theorem bNf (t:Nat) (l:List Ctl) (Q:Out→List Blk→Gh→Prop):aG4 (bG [(102404,.int .i64),(102408,.int .i64),(102415,.int .i64),(102421,.int .i64),(282631,.int .i64),(282634,.int .i64),(282642,.int .i64)]) (bF []) t l Q=(
(∃n_0:Int,(((AV.int .i64 (Nat.cast (List.length l):Int))=(AV.int .i64 n_0)) ∧
 (bif (decide (n_0<(1:Int))) then (Q (Out.ret (AV.int .i64 (240:Int))) [] (Gh.mk (0:Nat) (0:Nat) []))
else (∃n_1:Int,(((AV.int .i64 (Nat.cast (List.length l):Int))=(AV.int .i64 n_1)) ∧
 (bif (decide (n_1>(8:Int))) then (Q (Out.ret (AV.int .i64 (240:Int))) [] (Gh.mk (0:Nat) (0:Nat) []))
else (bif ((Nat.blt (0:Nat) (List.length l))&&true) then (bif (Nat.blt (0:Nat) (List.length (aG l))) then (∃n_2:Int,(((List.getD (aG l) (0:Nat) AV.undef)=(AV.int .i64 n_2)) ∧
 (bif (n_2 !=(1:Int)) then (bif ((Nat.blt (0:Nat) (List.length l))&&true) then (bif (Nat.blt (0:Nat) (List.length (aG l))) then (∃n_3:Int,(((List.getD (aG l) (0:Nat) AV.undef)=(AV.int .i64 n_3)) ∧
 (bif (n_3 !=(2:Int)) then (Q (Out.ret (AV.int .i64 (240:Int))) [] (Gh.mk (0:Nat) (0:Nat) []))
else (yR t l Q))))
else False)
else False)
else (yR t l Q))))
else False)
else False)))))))):=by kernel_rfl

def inM (x b:Int):Bool:=decide (0≤x∧x<2^b.toNat)
noncomputable def aI3 (hv:Nat→Option Pa) (hb:Nat→Option Bool) (x b:Int) (Q:Out→List Blk→Gh→Prop):Prop:=
 bH (e24 sm0 (fun _=>none) hv hb) (wpx (e24 sm0 (fun _=>none) hv hb) 1000) 45 [.int .i64 x,.int .i64 b] [] {} Q
theorem bPu (x:Int) (b:Int) (Q:Out→List Blk→Gh→Prop):aI3 (bG [(184330,.int .i64)]) (bF []) x b Q=(
(bif (decide (x≥(0:Int))) then (bif ((decide ((0:Int)≤b))&&true) then (∃n_0:Int,(((AV.int .i64 (IntKind.wrap .i64 ((1:Int)*((2:Int)^(Min.min (Int.toNat b) (64:Nat))))))=(AV.int .i64 n_0)) ∧
 (bif (decide (x<n_0)) then (Q (Out.ret (AV.bool true)) [] (Gh.mk (0:Nat) (0:Nat) []))
else (Q (Out.ret (AV.bool false)) [] (Gh.mk (0:Nat) (0:Nat) [])))))
else False)
else (Q (Out.ret (AV.bool false)) [] (Gh.mk (0:Nat) (0:Nat) [])))):=by kernel_rfl

def cIn:Con
 | [.int .i64 x,.int .i64 b],H,K=>Lf (b=8∨b=16∨b=32)∧K (.ret (.bool (inM x b))) H
 | _,_,_=>False
def bO3:SM:=gH [(45,cIn)]
def bK8 (t:Nat) (l:List Rc):LInv where
 α:=Nat
 pre i:=Lf (i≤l.length∧l.length≤6∧(l.take i).all fH=true)
 st i:=⟨mkT [(0,.lst t (aF l) l.length 7),(3,.int .i64 i)],[]⟩
 mu i:=l.length-i
noncomputable def aXx (hv:Nat→Option Pa) (hb:Nat→Option Bool) (t:Nat) (l:List Rc):Env:=e24 bO3 (fun i=>bif Nat.beq i 72000 then some (fun _=>[[bK8 t l]]) else none) hv hb
noncomputable def aIz (hv:Nat→Option Pa) (hb:Nat→Option Bool) (t:Nat) (l:List Rc) (Q:Out→List Blk→Gh→Prop):Prop:=
 bH (aXx hv hb t l) (wpx (aXx hv hb t l) 1000) 72 [.lst t (aF l) l.length 7] [] {} Q
abbrev aEn (Q:Out→List Blk→Gh→Prop):Prop:=Q (.ret (.bool false)) [] {}
abbrev bL6 (x_1:Nat) (l:List Rc):Prop:=Lf (x_1≤l.length∧l.length≤6∧List.all (l.take x_1) fH=true)
abbrev aUb (x_1:Nat):AV:=.int .i64 (x_1:Int)
abbrev aV5:Prop:=Lf ((32:Int)=(8:Int)∨(32:Int)=(16:Int)∨aK (32:Int))
abbrev bGf:Prop:=True∧(0:Nat)=(0:Nat)
abbrev aMb (n_13:Int) (y_14:Nat):Prop:=AV.int .i64 n_13=AV.int .i64 (y_14:Int)∧True
theorem bM8 (t:Nat) (l:List Rc) (Q:Out→List Blk→Gh→Prop):aIz (bG [(294918,.int .i64),(294920,.int .i64),(294922,.int .i64),(294927,.int .i64),(294929,.agg [.int .i64,.int .i64,.int .i64,.int .i64,.int
 .i64,.int .i64,.int .i64]),(294924,.int .i64),(294925,.int .i64)]) (bF []) t l Q=(exI .i64 (l.length:Int) (fun n_0=>bif decide (n_0>6) then aEn Q else (∃x_1:Nat,bL6 x_1 l∧aK (AV.lst t (aF l) l.length 7) ∧
 AV.int .i64 0=aUb x_1∧True)∧∀x_1:Nat,bL6 x_1 l→exI .i64 (x_1:Int) (fun n_2=>exI .i64 (l.length:Int) (fun n_3=>bif decide (n_2<n_3) then exI .i64 (x_1:Int) (fun n_4=>ckQ (decide (0≤n_4)&&Nat.blt n_4.toNat
 l.length&&true) (ckQ (Nat.ble (n_4.toNat*7+7) (aF l).length) (∃n_5 n_6 n_7 n_8 n_9 n_10 n_11,AV.agg (((aF l).drop (n_4.toNat*7)).take 7)=AV.agg [.int .i64 n_5,.int .i64 n_6,.int .i64 n_7,.int .i64 n_8,.int .i64
 n_9,.int .i64 n_10,.int .i64 n_11]∧aV5∧bif inM n_5 32 then Lf ((8:Int)=(8:Int)∨(8:Int)=(16:Int)∨(8:Int)=(32:Int))∧bif inM n_6 8 then bif decide (n_7 < -8388608) then aEn Q else bif decide (n_7>8388607)
 then aEn Q else aV5∧bif inM n_8 32 then aV5∧bif inM n_9 32 then aV5∧bif inM n_10 32 then aV5∧bif inM n_11 32 then exI .i64 (x_1:Int) (fun n_12=>exW .i64 (n_12+1) (fun n_13=>bGf∧∃y_14:Nat,bL6 y_14 l∧l.length -
 y_14<l.length-x_1∧aK (AV.lst t (aF l) l.length 7)∧aMb n_13 y_14)) else aEn Q else aEn Q else aEn Q else aEn Q else aEn Q else aEn Q))) else Q (.ret (.bool true)) [] {})))):=by kernel_rfl

def bGr (t:Nat) (xs:List Int):List LInv:=[
 { α:=Nat,pre:=fun i=>Lf (i≤xs.length∧dM xs=aT 0 0 true (xs.drop i) []),st:=fun i=>⟨mkT [(0,.lst t (aA xs) xs.length 1),(3,.int .i64 (-1)),(4,.int .i64 i)],[]⟩,mu:=fun i=>xs.length-i },
 { α:=Nat×Int,pre:=fun p=>Lf (p.1≤xs.length∧0≤p.2∧p.2<4294967296∧∃ref acc,dM xs=aT ref p.2 false (xs.drop p.1) acc),st:=fun p=>⟨mkT [(0,.lst t (aA xs) xs.length 1),(3,.int .i64 p.2),(4,.int .i64 (p.1:Nat))],[]⟩,mu:=fun p=>xs.length-p.1 }]
noncomputable def aYi (hv:Nat→Option Pa) (hb:Nat→Option Bool) (t:Nat) (xs:List Int):Env:=e24 bO3 (fun i=>bif Nat.beq i 73000 then some (fun _=>[bGr t xs]) else none) hv hb
noncomputable def aGr (hv:Nat→Option Pa) (hb:Nat→Option Bool) (t:Nat) (xs:List Int) (Q:Out→List Blk→Gh→Prop):Prop:=
 bH (aYi hv hb t xs) (wpx (aYi hv hb t xs) 1000) 73 [.lst t (aA xs) xs.length 1] [] {} Q
abbrev wJ (x_2:Nat×Int) (xs:List Int) (t:Nat):Prop:=
ckQ (Nat.blt (x_2.1:Int).toNat xs.length&&true) (ckQ (Nat.blt ((x_2.1:Int).toNat*1) (aA xs).length) (exV .i64 ((aA xs).getD ((x_2.1:Int).toNat*1) AV.undef) fun n_10=>exW .i64 ((x_2.1:Int)+1) fun n_11=>(True∧(0
 : Nat)=(0:Nat))∧((∃y_12:Nat,Lf (y_12≤xs.length∧dM xs=aT 0 0 true (xs.drop y_12) [])∧xs.length-y_12<xs.length-x_2.1∧aK (AV.lst t (aA xs) xs.length 1)∧AV.int .i64 n_10=AV.int .i64 (-1)∧AV.int
 .i64 n_11=AV.int .i64 (y_12:Int)∧True)∨∃y_12:Nat×Int,Lf (y_12.1≤xs.length∧0≤y_12.2∧y_12.2<4294967296∧∃ref_13:Int,∃acc_14:List Int,dM xs=aT ref_13 y_12.2 false (xs.drop y_12.1) acc_14) ∧
 xs.length-y_12.1<xs.length-x_2.1∧aK (AV.lst t (aA xs) xs.length 1)∧AV.int .i64 n_10=AV.int .i64 y_12.2∧AV.int .i64 n_11=AV.int .i64 (y_12.1:Int)∧True)))
abbrev bFz (x_2:Nat) (xs:List Int):Prop:=Lf (x_2≤xs.length∧dM xs=aT 0 0 true (xs.drop x_2) [])
abbrev aUc (t:Nat) (xs:List Int):Prop:=aK (AV.lst t (aA xs) xs.length 1)
abbrev bBs:AV:=.int .i64 (-1)
abbrev bGe (x_2:Nat×Int) (xs:List Int):Prop:=Lf (x_2.1≤xs.length∧0≤x_2.2∧x_2.2<4294967296∧∃ref_3:Int,∃acc_4:List Int,dM xs=aT ref_3 x_2.2 false (xs.drop x_2.1) acc_4)
abbrev bJy (x_2:Nat×Int):Nat:=(x_2.1:Int).toNat
abbrev aXf (x_2:Nat×Int):Nat:=(x_2.1:Int).toNat*1
theorem bO0 (t:Nat) (xs:List Int) (Q:Out→List Blk→Gh→Prop):aGr (bG [(299014,.int .i64),(299018,.int .i64),(299023,.int .i64),(299030,.int .i64),(299026,.int .i64),(299035,.int .i64),(299063,.int .i64),
 (299045,.int .i64),(299047,.int .i64),(299053,.int .i64),(299055,.int .i64)]) (bF []) t xs Q=(exI .i64 (xs.length:Int) (fun n_0=>bif decide (n_0<1) then aEn Q else exI .i64 (xs.length:Int) (fun n_1=>bif decide (n_1 >
 64) then aEn Q else ((∃x_2:Nat,bFz x_2 xs∧aUc t xs∧aK bBs∧AV.int .i64 0=aUb x_2∧True)∨∃x_2:Nat×Int,bGe x_2 xs∧aUc t xs∧bBs=AV.int .i64 x_2.2∧AV.int .i64 0=AV.int .i64 (x_2.1:Int)∧True)∧(∀
 x_2:Nat,bFz x_2 xs→exI .i64 (xs.length:Int) (fun n_3=>bif decide ((x_2:Int)<n_3) then ckQ (Nat.blt (x_2:Int).toNat xs.length&&true) (ckQ (Nat.blt ((x_2:Int).toNat*1) (aA xs).length) (exV .i64 ((aA xs).getD
 ((x_2:Int).toNat*1) AV.undef) (fun n_4=>bif n_4 == -1 then exW .i64 ((x_2:Int)+1) (fun n_5=>bGf∧((∃y_6:Nat,bFz y_6 xs∧xs.length-y_6<xs.length-x_2∧aUc t xs∧aK bBs∧aMb n_5 y_6)∨∃y_6:Nat×Int,
 bGe y_6 xs∧xs.length-y_6.1<xs.length-x_2∧aUc t xs∧bBs=AV.int .i64 y_6.2∧AV.int .i64 n_5=AV.int .i64 (y_6.1:Int)∧True)) else ckQ (Nat.blt (x_2:Int).toNat xs.length&&true) (ckQ (Nat.blt ((x_2:Int).toNat*1)
 (aA xs).length) (exV .i64 ((aA xs).getD ((x_2:Int).toNat*1) AV.undef) (fun n_5=>aV5∧bif inM n_5 32 then ckQ (Nat.blt (x_2:Int).toNat xs.length&&true) (ckQ (Nat.blt ((x_2:Int).toNat*1) (aA xs).length) (exV .i64
 ((aA xs).getD ((x_2:Int).toNat*1) AV.undef) (fun n_6=>exW .i64 ((x_2:Int)+1) (fun n_7=>bGf∧((∃y_8:Nat,bFz y_8 xs∧xs.length-y_8<xs.length-x_2∧aUc t xs∧AV.int .i64 n_6=bBs∧aMb n_7 y_8)∨∃y_8 :
 Nat×Int,bGe y_8 xs∧xs.length-y_8.1<xs.length-x_2∧aUc t xs∧AV.int .i64 n_6=AV.int .i64 y_8.2∧AV.int .i64 n_7=AV.int .i64 (y_8.1:Int)∧True))))) else aEn Q)))))) else Q (.ret (.bool true)) [] {}))∧∀x_2:Nat ×
 Int,bGe x_2 xs→exI .i64 (xs.length:Int) (fun n_3=>bif decide ((x_2.1:Int)<n_3) then ckQ (Nat.blt (bJy x_2) xs.length&&true) (ckQ (Nat.blt (aXf x_2) (aA xs).length) (exV .i64 ((aA xs).getD (aXf x_2) AV.undef) (fun
 n_4=>bif n_4 == -1 then exW .i64 ((x_2.1:Int)+1) (fun n_5=>bGf∧((∃y_6:Nat,bFz y_6 xs∧xs.length-y_6<xs.length-x_2.1∧aUc t xs∧AV.int .i64 x_2.2=bBs∧aMb n_5 y_6)∨∃y_6:Nat×Int,bGe y_6 xs∧xs.length
 - y_6.1<xs.length-x_2.1∧aUc t xs∧AV.int .i64 x_2.2=AV.int .i64 y_6.2∧AV.int .i64 n_5=AV.int .i64 (y_6.1:Int)∧True)) else ckQ (Nat.blt (bJy x_2) xs.length&&true) (ckQ (Nat.blt (aXf x_2) (aA xs).length) (exV .i64
 ((aA xs).getD (aXf x_2) AV.undef) (fun n_5=>aV5∧bif inM n_5 32 then bif decide (x_2.2≥0) then ckQ (Nat.blt (bJy x_2) xs.length&&true) (ckQ (Nat.blt (aXf x_2) (aA xs).length) (exV .i64 ((aA xs).getD (aXf x_2)
 AV.undef) (fun n_6=>exW .i64 (n_6-x_2.2) (fun n_7=>bif decide (n_7 < -32768) then aEn Q else ckQ (Nat.blt (bJy x_2) xs.length&&true) (ckQ (Nat.blt (aXf x_2) (aA xs).length) (exV .i64 ((aA xs).getD (aXf x_2) AV.undef)
 (fun n_8=>exW .i64 (n_8-x_2.2) (fun n_9=>bif decide (n_9>32767) then aEn Q else wJ x_2 xs t)))))))) else wJ x_2 xs t else aEn Q)))))) else Q (.ret (.bool true)) [] {})))):=by kernel_rfl

def aSe:Con
 | [.lst _ cs n 1],H,K=>∃xs:List Int,Lf (cs=aA xs∧n=xs.length∧xs.length≤1000000)∧∀b,Lf (b=(aZ xs).2.2)→K (.ret (.bool b)) H
 | _,_,_=>False

theorem splitB {b:Bool} {A B:Prop} (h:b=true→A) (k:b=false→B):bif b then A else B:=by
 cases b
 ·exact k rfl
 ·exact h rfl
theorem bJ6 (x b:Int) (hb:b=8∨b=16∨b=32) (Q:Out→List Blk→Gh→Prop) (hq:Q (.ret (.bool (inM x b))) [] {}):∃hv hb,aI3 hv hb x b Q:=by
 obtain ⟨hv,hb',e⟩:∃hv hb,aI3 hv hb x b Q=_:=⟨_,_,bPu x b Q⟩
 refine ⟨hv,hb',e.mpr ?_⟩
 clear e
 rcases hb with rfl | rfl | rfl<;>refine aD (fun h=>ckI (by simp) ⟨_,rfl, ?_⟩) (fun h => ?_)
 ·refine aD (fun k => ?_) (fun k => ?_)
  ·rwa [inM,decide_eq_true ⟨by omega,k⟩] at hq
  ·rwa [inM,decide_eq_false (fun h=>k h.2)] at hq
 ·rwa [inM,decide_eq_false (fun k=>h k.1)] at hq
 ·refine aD (fun k => ?_) (fun k => ?_)
  ·rwa [inM,decide_eq_true ⟨by omega,k⟩] at hq
  ·rwa [inM,decide_eq_false (fun h=>k h.2)] at hq
 ·rwa [inM,decide_eq_false (fun k=>h k.1)] at hq
 ·refine aD (fun k => ?_) (fun k => ?_)
  ·rwa [inM,decide_eq_true ⟨by omega,k⟩] at hq
  ·rwa [inM,decide_eq_false (fun h=>k h.2)] at hq
 ·rwa [inM,decide_eq_false (fun k=>h k.1)] at hq
theorem bJr:aO Tryd.prog glC 45 cIn:=by
 refine bE (enters_of (by kernel_rfl)) aV fun args H Q hc => ?_
 unfold cIn at hc
 split at hc
 ·rename_i x b
  obtain ⟨⟨hb⟩,hq⟩:=hc
  obtain ⟨hv,hb',h⟩:=bJ6 x b hb (fun o H' _=>H'=[]∧(∃v,o=.ret v∧old 0 v=true∧noY v=true)∧Q o H) ⟨rfl,⟨_,rfl,rfl,rfl⟩,hq⟩
  exact ⟨rfl,rfl,_,1000,aS fB _ _ _,rfl,h⟩
 ·exact hc.elim
theorem aP7:∀f g,bO3 f=some g→aO Tryd.prog glC f g:=bW _ (by simp only[List.mem_cons,List.not_mem_nil,or_false,forall_eq];exact bJr)
theorem qU (x:Int):inM x 32=true↔0≤x∧x<4294967296:=by
 rw[inM,decide_eq_true_eq];exact Iff.rfl
theorem aBb (x:Int):inM x 16=true↔0≤x∧x<65536:=by
 rw[inM,decide_eq_true_eq];exact Iff.rfl
theorem aI8 (x:Int):inM x 8=true↔0≤x∧x<256:=by
 rw[inM,decide_eq_true_eq];exact Iff.rfl
theorem sG (x:Int):inM x 32=false↔¬ (0≤x∧x<4294967296):=by
 rw[inM,decide_eq_false_iff_not];exact Iff.rfl
theorem aGp (x:Int):inM x 16=false↔¬ (0≤x∧x<65536):=by
 rw[inM,decide_eq_false_iff_not];exact Iff.rfl
theorem aSa (x:Int):inM x 8=false↔¬ (0≤x∧x<256):=by
 rw[inM,decide_eq_false_iff_not];exact Iff.rfl
theorem aRh (t:Nat) (l:List Rc) (hl:l.length≤1000000) (Q:Out→List Blk→Gh→Prop) (hq:Q (.ret (.bool (dL l))) [] {}):∃hv hb,aIz hv hb t l Q:=by
 obtain ⟨hv,hb',e⟩:∃hv hb,aIz hv hb t l Q=_:=⟨_,_,bM8 t l Q⟩
 refine ⟨hv,hb',e.mpr ?_⟩
 delta aEn bL6 aUb aV5 bGf aMb
 clear e
 refine ⟨_,rfl,aD (fun h6 => ?_) (fun h6=>⟨⟨0,⟨by omega,by omega,by simp⟩,rfl,rfl,trivial⟩, ?_⟩)⟩
 ·have:dL l=false:=by
   simp only[dL,Bool.and_eq_false_iff,decide_eq_false_iff_not];left;omega
  rwa [this] at hq
 ·rintro i ⟨g1,g2,g3⟩
  refine ⟨_,rfl,_,rfl,aD (fun h => ?_) (fun h => ?_)⟩
  ·have hi:i<l.length:=by omega
   obtain ⟨r,hr,hc⟩:=fK hi (Nat.mul_comm 7 i▸rfl:i*7=7*i)
   have bad:fH r=false→Q (.ret (.bool false)) [] {}:=fun hb=>by
    have:dL l=false:=by
     have hall:l.all fH=false:=by
      rw[List.all_eq_false]
      exact ⟨r,List.mem_of_getElem? hr,by simp[hb]⟩
     simp[dL,hall]
    rwa [this] at hq
   refine ⟨_,rfl,ckI (by simp;omega) (ckI (by simp[bI];omega) ⟨r.1,r.2.1,r.2.2.1,r.2.2.2.1,r.2.2.2.2.1,r.2.2.2.2.2.1,r.2.2.2.2.2.2,by rw[Int.toNat_natCast,hc];rfl, ?_⟩)⟩
   repeat' (first | (with_reducible refine ⟨⟨(by decide:(32:Int)=8∨(32:Int)=16∨(32:Int)=32)⟩, ?_⟩) | (with_reducible refine ⟨⟨(by decide:(8:Int)=8∨(8:Int)=16∨(8:Int)=32)⟩, ?_⟩) | (with_reducible refine fG ?_) | (with_reducible refine aD (fun hd => ?_) (fun hd => ?_)) | (with_reducible refine splitB (fun hd => ?_) (fun hd => ?_)))
   all_goals first
    | (refine bad ?_;simp only[fH,decide_eq_false_iff_not];simp only[qU,aBb,aI8,sG,aGp,aSa] at *;omega)
    | (have hok:fH r=true:=by simp only[fH,decide_eq_true_eq];simp only[qU,aBb,aI8,sG,aGp,aSa] at *;omega
       refine ⟨_,rfl,aC (by omega) (by omega) ⟨⟨trivial,rfl⟩,i+1,⟨hi,g2,by rw[vI hr,g3,hok];rfl⟩,by omega,rfl,rfl,trivial⟩⟩)
  ·have:dL l=true:=by
    rw[List.take_of_length_le (by omega)] at g3
    simp only[dL,g3,Bool.and_true,decide_eq_true_eq];omega
   rwa [this] at hq
theorem aWc:aO Tryd.prog glC 72 aL6:=by
 refine bE (enters_of (by kernel_rfl)) aV fun args H Q hc => ?_
 unfold aL6 at hc
 split at hc
 ·obtain ⟨l,⟨rfl,rfl,hl⟩,hq⟩:=hc
  obtain ⟨hv,hb',h⟩:=aRh _ l hl (fun o H' _=>H'=[]∧(∃v,o=.ret v∧old 0 v=true∧noY v=true)∧Q o H) ⟨rfl,⟨_,rfl,rfl,rfl⟩,hq⟩
  exact ⟨rfl,rfl,_,1000,aS aP7 _ _ _,rfl,h⟩
 ·exact hc.elim
theorem bKf (t:Nat) (l:List Ctl) (hok:∀c∈l,okC c) (hl:l.length≤1000000) (Q:Out→List Blk→Gh→Prop) (no:l.all aQ=false→Q (.ret (.int .i64 240)) [] {}) (yes:l.all aQ=true→Q (.ret (.int .i64 0)) [] {}):yR t l Q:=by
 unfold yR
 refine ⟨_,rfl,⟨0,⟨by omega,by simp⟩,rfl,rfl,rfl,rfl,trivial⟩, ?_⟩
 rintro i ⟨g1,g2⟩
 refine aD (fun h => ?_) (fun h => ?_)
 ·have hi:i<l.length:=by omega
  obtain ⟨c,hr,hc⟩:=iJ hi (Nat.mul_comm 13 i▸rfl:i*13=13*i)
  have hm:=List.mem_of_getElem? hr
  have ge:(decide ((i:Int)≥0))=true:=by simp
  refine ⟨_,rfl,ckI (by simp;omega) (ckI (by simp[bJ];omega) ?_)⟩
  rw[Int.toNat_natCast,hc]
  refine ckI rfl ⟨c,⟨rfl,hok c hm⟩,splitB (fun hv => ?_) (fun hv => ?_)⟩
  ·exact aC (by omega) (by omega) ⟨⟨trivial,rfl⟩,i+1,⟨hi,by rw[vI hr,g2,hv];rfl⟩,by omega,rfl,rfl,rfl,rfl,trivial⟩
  ·rw[ge]
   exact no (by rw[List.all_eq_false];exact ⟨c,hm,by simp[hv]⟩)
 ·rw[List.take_of_length_le (by omega)] at g2
  exact yes g2
def hdM (l:List Ctl):Int:=match l with
 | []=>0
 | c::_=>c.k
theorem iQ {l:List Ctl} (h:1≤l.length):lL l=decide (hdM l=1∨hdM l=2):=by
 cases l with
 | nil=>simp at h
 | cons c l=>rfl
theorem kG {l:List Ctl} (h:1≤l.length) {K:Int→Prop} (hk:∀n,n=hdM l→K n):∃n:Int,(aG l).getD 0 AV.undef=AV.int .i64 n∧K n:=by
 cases l with
 | nil=>simp at h
 | cons c l=>exact ⟨c.k,rfl,hk _ rfl⟩
theorem aOz (t:Nat) (l:List Ctl) (hok:∀c∈l,okC c) (hl:l.length≤1000000) (Q:Out→List Blk→Gh→Prop) (hq:∀e:Int,e=(if bP l=true then 0 else 240)→Q (.ret (.int .i64 e)) [] {}):∃hv hb,aG4 hv hb t l Q:=by
 obtain ⟨hv,hb',e⟩:∃hv hb,aG4 hv hb t l Q=_:=⟨_,_,bNf t l Q⟩
 refine ⟨hv,hb',e.mpr ?_⟩
 clear e
 have no:bP l=false→Q (.ret (.int .i64 240)) [] {}:=fun h=>hq _ (by simp[h])
 have yes:bP l=true→Q (.ret (.int .i64 0)) [] {}:=fun h=>hq _ (by simp[h])
 refine ⟨_,rfl,aD (fun h1=>no ?_) (fun h1=>⟨_,rfl,aD (fun h2=>no ?_) (fun h2 => ?_)⟩)⟩
 ·simp only[bP,decide_eq_false (show ¬ (1≤l.length∧l.length≤8) by omega),Bool.false_and]
 ·simp only[bP,decide_eq_false (show ¬ (1≤l.length∧l.length≤8) by omega),Bool.false_and]
 ·have hc:bP l=(lL l&&l.all aQ):=by simp only[bP,decide_eq_true (show (1≤l.length∧l.length≤8) by omega),Bool.true_and]
  have go:lL l=true→yR t l Q:=fun hh=>bKf t l hok hl Q (fun h=>no (by rw[hc,hh,h];rfl)) (fun h=>yes (by rw[hc,hh,h];rfl))
  refine ckI (by simp;omega) (ckI (by simp[bJ];omega) (kG (by omega) fun n hn=>cB (fun k1 => ?_) (fun k1 => ?_)))
  ·refine ckI (by simp;omega) (ckI (by simp[bJ];omega) (kG (by omega) fun n' hn'=>cB (fun k2 => ?_) (fun k2 => ?_)))
   ·refine no ?_
    rw[hc,iQ (by omega),decide_eq_false (by omega)];rfl
   ·exact go (by rw[iQ (by omega)];exact decide_eq_true (by omega))
  ·exact go (by rw[iQ (by omega)];exact decide_eq_true (by omega))
def aPf:Con
 | [.lst _ cs n 13],H,K=>∃l:List Ctl,Lf (cs=aG l∧n=l.length∧l.length≤1000000∧∀c∈l,okC c)∧∀e:Int,Lf (e=(if bP l=true then 0 else 240))→K (.ret (.int .i64 e)) H
 | _,_,_=>False
theorem aSy:aO Tryd.prog glC 25 aPf:=by
 refine bE (enters_of (by kernel_rfl)) aV fun args H Q hc => ?_
 unfold aPf at hc
 split at hc
 ·obtain ⟨l,⟨rfl,rfl,h1,h2⟩,hq⟩:=hc
  obtain ⟨hv,hb',h⟩:=aOz _ l h2 h1 (fun o H' _=>H'=[]∧(∃v,o=.ret v∧old 0 v=true∧noY v=true)∧Q o H) (fun e he=>⟨rfl,⟨_,rfl,rfl,rfl⟩,hq e ⟨he⟩⟩)
  exact ⟨rfl,rfl,_,1000,aS bDd _ _ _,rfl,h⟩
 ·exact hc.elim
theorem aK9 (t:Nat) (xs:List Int) (hl:xs.length≤1000000) (Q:Out→List Blk→Gh→Prop) (hq:Q (.ret (.bool (aZ xs).2.2)) [] {}):∃hv hb,aGr hv hb t xs Q:=by
 obtain ⟨hv,hb',e⟩:∃hv hb,aGr hv hb t xs Q=_:=⟨_,_,bO0 t xs Q⟩
 refine ⟨hv,hb',e.mpr ?_⟩
 delta aEn bFz aUc bBs aUb bGe bGf aMb aV5 bJy aXf
 unfold wJ
 clear e
 have no:dM xs=none→Q (.ret (.bool false)) [] {}:=fun h=>by
  have e:aZ xs=(0,[],false):=by simp[aZ,h]
  rwa [e] at hq
 have yes:∀p,dM xs=some p→Q (.ret (.bool (decide (1≤xs.length∧xs.length≤64)))) [] {}:=fun p h=>by
  have e:aZ xs=(p.1,p.2,decide (1≤xs.length∧xs.length≤64)):=by simp[aZ,h]
  rwa [e] at hq
 have bad:¬ (1≤xs.length∧xs.length≤64)→Q (.ret (.bool false)) [] {}:=fun h=>by
  cases e:dM xs with
  | none=>exact no e
  | some p=>have:=yes p e;rwa [decide_eq_false h] at this
 refine ⟨_,rfl,aD (fun h1=>bad (by omega)) (fun h1=>⟨_,rfl,aD (fun h2=>bad (by omega)) (fun h2=>⟨.inl ⟨0,⟨by omega,rfl⟩,rfl,rfl,rfl,trivial⟩, ?_, ?_⟩)⟩)⟩
 ·rintro i ⟨g1,g2⟩
  refine ⟨_,rfl,aD (fun h => ?_) (fun h => ?_)⟩
  ·have hi:i<xs.length:=by omega
   rw[gX hi,aT] at g2
   refine ckI (by simp;omega) (ckI (by simp[aB];omega) (kS (i:=i) hi (by simp) (aP (fun he => ?_) (fun he => ?_))))
   ·rw[if_pos he] at g2
    exact aC (by omega) (by omega) ⟨⟨trivial,rfl⟩,.inl ⟨i+1,⟨hi,g2⟩,by omega,rfl,rfl,rfl,trivial⟩⟩
   ·rw[if_neg he] at g2
    refine ckI (by simp;omega) (ckI (by simp[aB];omega) (kS (i:=i) hi (by simp) ⟨⟨.inr (.inr rfl)⟩,splitB (fun f1 => ?_) (fun f1 => ?_)⟩))
    ·rw[qU] at f1
     rw[if_neg (by omega),if_pos rfl] at g2
     exact ckI (by simp;omega) (ckI (by simp[aB];omega) (kS (i:=i) hi (by simp) (aC (by omega) (by omega) ⟨⟨trivial,rfl⟩,.inr ⟨(i+1,xs.getD i 0),⟨hi,f1.1,f1.2,_,_,g2⟩,by dsimp only;omega,rfl,rfl,rfl,trivial⟩⟩)))
    ·rw[sG] at f1
     rw[if_pos (by omega)] at g2
     exact no g2
  ·rw[List.drop_of_length_le (by omega),aT] at g2
   have:=yes _ g2
   rwa [decide_eq_true (by omega)] at this
 ·rintro ⟨i,last⟩ ⟨g1,g3,g4,ref,acc,g2⟩
  dsimp only at g1 g2 g3 g4 ⊢
  refine ⟨_,rfl,aD (fun h => ?_) (fun h => ?_)⟩
  ·have hi:i<xs.length:=by omega
   rw[gX hi,aT] at g2
   refine ckI (by simp;omega) (ckI (by simp[aB];omega) (kS (i:=i) hi (by simp) (aP (fun he => ?_) (fun he => ?_))))
   ·rw[if_pos he] at g2
    exact aC (by omega) (by omega) ⟨⟨trivial,rfl⟩,.inr ⟨(i+1,last),⟨hi,g3,g4,_,_,g2⟩,by dsimp only;omega,rfl,rfl,rfl,trivial⟩⟩
   ·rw[if_neg he] at g2
    refine ckI (by simp;omega) (ckI (by simp[aB];omega) (kS (i:=i) hi (by simp) ⟨⟨.inr (.inr rfl)⟩,splitB (fun f1 => ?_) (fun f1 => ?_)⟩))
    ·rw[qU] at f1
     rw[if_neg (by omega),if_neg (by simp)] at g2
     refine aD (fun _=>ckI (by simp;omega) (ckI (by simp[aB];omega) (kS (i:=i) hi (by simp) (aC (by omega) (by omega) (aD (fun k1 => ?_) (fun k1=>ckI (by simp;omega) (ckI (by simp[aB];omega) (kS (i:=i) hi (by simp) (aC (by omega) (by omega) (aD (fun k2 => ?_) (fun k2=>ckI (by simp;omega) (ckI (by simp[aB];omega) (kS (i:=i) hi (by simp) (aC (by omega) (by omega) ⟨⟨trivial,rfl⟩,.inr ⟨(i+1,xs.getD i 0),⟨hi,f1.1,f1.2,ref,acc++[xs.getD i 0-last], ?_⟩,by dsimp only;omega,rfl,rfl,rfl,trivial⟩⟩)))))))))))))) (fun hc=>absurd g3 (by simpa using hc))
     ·rw[if_pos (.inl k1)] at g2;exact no g2
     ·rw[if_pos (.inr (by omega))] at g2;exact no g2
     ·rw[if_neg (by omega)] at g2;exact g2
    ·rw[sG] at f1
     rw[if_pos (by omega)] at g2
     exact no g2
  ·rw[List.drop_of_length_le (by omega),aT] at g2
   have:=yes _ g2
   rwa [decide_eq_true (by omega)] at this
theorem aNp:aO Tryd.prog glC 73 aSe:=by
 refine bE (enters_of (by kernel_rfl)) aV fun args H Q hc => ?_
 unfold aSe at hc
 split at hc
 ·obtain ⟨xs,⟨rfl,rfl,hl⟩,hq⟩:=hc
  obtain ⟨hv,hb',h⟩:=aK9 _ xs hl (fun o H' _=>H'=[]∧(∃v,o=.ret v∧old 0 v=true∧noY v=true)∧Q o H) ⟨rfl,⟨_,rfl,rfl,rfl⟩,hq _ ⟨rfl⟩⟩
  exact ⟨rfl,rfl,_,1000,aS aP7 _ _ _,rfl,h⟩
 ·exact hc.elim
def bQt:SM:=gH [(51,yO)]
def bHo (t:Nat) (l:List Ctl):LInv where
 α:=Nat
 pre i:=Lf (i≤l.length∧(l.take i).all aQ=true)
 st i:=⟨mkT [(0,.lst t (aG l) l.length 13),(3,.int .i64 i)],[]⟩
 mu i:=l.length-i
noncomputable def aYs (hv:Nat→Option Pa) (hb:Nat→Option Bool) (t:Nat) (l:List Ctl):Env:=e24 bQt (fun i=>bif Nat.beq i 32000 then some (fun _=>[[bHo t l]]) else none) hv hb
noncomputable def aHc (hv:Nat→Option Pa) (hb:Nat→Option Bool) (t:Nat) (l:List Ctl) (Q:Out→List Blk→Gh→Prop):Prop:=
 bH (aYs hv hb t l) (wpx (aYs hv hb t l) 1000) 32 [.lst t (aG l) l.length 13] [] {} Q
def xJ (t:Nat) (l:List Ctl) (Q:Out→List Blk→Gh→Prop):Prop:=
(∃x_0:Nat,Lf (x_0≤l.length∧List.all (l.take x_0) aQ=true)∧aK (AV.lst t (aG l) l.length 13)∧AV.int .i64 0=AV.int .i64 (x_0:Int)∧True)∧∀x_0:Nat,Lf (x_0≤l.length∧List.all (l.take x_0) aQ=true) →
 exI .i64 (x_0:Int) fun n_1=>exI .i64 (l.length:Int) fun n_2=>bif decide (n_1<n_2) then exI .i64 (x_0:Int) fun n_3=>ckQ (decide (0≤n_3)&&Nat.blt n_3.toNat l.length&&true) (ckQ (Nat.ble (n_3.toNat*13+13) (aG
 l).length) (∃c_4:Ctl,Lf (((aG l).drop (n_3.toNat*13)).take 13=[AV.int .i64 c_4.1,.int .i64 c_4.2,.int .i64 c_4.3,.int .i64 c_4.4,.int .i64 c_4.5,.int .i64 c_4.6,.int .i64 c_4.7,.int .i64 c_4.8,.lst 0 (aF c_4.9)
 c_4.9.length 7,.lst 0 (aA c_4.10) c_4.10.length 1,.int .i64 c_4.11,.int .i64 c_4.12,.lst 0 (aA c_4.13) c_4.13.length 1]∧okC c_4)∧bif aQ c_4 then exI .i64 (x_0:Int) fun n_5=>exW .i64 (n_5+1) fun n_6=>(True∧(0 :
 Nat)=(0:Nat))∧∃y_7:Nat,Lf (y_7≤l.length∧List.all (l.take y_7) aQ=true)∧l.length-y_7<l.length-x_0∧aK (AV.lst t (aG l) l.length 13)∧AV.int .i64 n_6=AV.int .i64 (y_7:Int)∧True else Q (.ret (.bool
 false)) [] {})) else Q (.ret (.bool true)) [] {}
theorem bNp (t:Nat) (l:List Ctl) (Q:Out→List Blk→Gh→Prop):aHc (bG [(131077,.int .i64),(131081,.int .i64),(131088,.int .i64),(131094,.int .i64),(131098,.int .i64),(131100,.int .i64),(131105,.int .i64),(131102,.int .i64),(131103,.int .i64)]) (bF []) t l Q=(
(∃n_0:Int,(((AV.int .i64 (Nat.cast (List.length l):Int))=(AV.int .i64 n_0)) ∧
 (bif (decide (n_0<(1:Int))) then (Q (Out.ret (AV.bool false)) [] (Gh.mk (0:Nat) (0:Nat) []))
else (∃n_1:Int,(((AV.int .i64 (Nat.cast (List.length l):Int))=(AV.int .i64 n_1)) ∧
 (bif (decide (n_1>(8:Int))) then (Q (Out.ret (AV.bool false)) [] (Gh.mk (0:Nat) (0:Nat) []))
else (bif ((Nat.blt (0:Nat) (List.length l))&&true) then (bif (Nat.blt (0:Nat) (List.length (aG l))) then (∃n_2:Int,(((List.getD (aG l) (0:Nat) AV.undef)=(AV.int .i64 n_2)) ∧
 (bif (n_2 !=(1:Int)) then (bif ((Nat.blt (0:Nat) (List.length l))&&true) then (bif (Nat.blt (0:Nat) (List.length (aG l))) then (∃n_3:Int,(((List.getD (aG l) (0:Nat) AV.undef)=(AV.int .i64 n_3)) ∧
 (bif (n_3 !=(2:Int)) then (Q (Out.ret (AV.bool false)) [] (Gh.mk (0:Nat) (0:Nat) []))
else (xJ t l Q))))
else False)
else False)
else (xJ t l Q))))
else False)
else False)))))))):=by kernel_rfl

theorem bI7 (t:Nat) (l:List Ctl) (hok:∀c∈l,okC c) (hl:l.length≤1000000) (Q:Out→List Blk→Gh→Prop) (no:l.all aQ=false→Q (.ret (.bool false)) [] {}) (yes:l.all aQ=true→Q (.ret (.bool true)) [] {}):xJ t l Q:=by
 unfold xJ
 refine ⟨⟨0,⟨by omega,by simp⟩,rfl,rfl,trivial⟩, ?_⟩
 rintro i ⟨g1,g2⟩
 refine ⟨_,rfl,_,rfl,aD (fun h => ?_) (fun h => ?_)⟩
 ·have hi:i<l.length:=by omega
  obtain ⟨c,hr,hc⟩:=iJ hi (Nat.mul_comm 13 i▸rfl:i*13=13*i)
  have hm:=List.mem_of_getElem? hr
  refine ⟨_,rfl,ckI (by simp;omega) (ckI (by simp[bJ];omega) ?_)⟩
  rw[Int.toNat_natCast,hc]
  refine ⟨c,⟨rfl,hok c hm⟩,splitB (fun hv => ?_) (fun hv => ?_)⟩
  ·exact ⟨_,rfl,aC (by omega) (by omega) ⟨⟨trivial,rfl⟩,i+1,⟨hi,by rw[vI hr,g2,hv];rfl⟩,by omega,rfl,rfl,trivial⟩⟩
  ·exact no (by rw[List.all_eq_false];exact ⟨c,hm,by simp[hv]⟩)
 ·rw[List.take_of_length_le (by omega)] at g2
  exact yes g2
theorem aRe (t:Nat) (l:List Ctl) (hok:∀c∈l,okC c) (hl:l.length≤1000000) (Q:Out→List Blk→Gh→Prop) (hq:Q (.ret (.bool (bP l))) [] {}):∃hv hb,aHc hv hb t l Q:=by
 obtain ⟨hv,hb',e⟩:∃hv hb,aHc hv hb t l Q=_:=⟨_,_,bNp t l Q⟩
 refine ⟨hv,hb',e.mpr ?_⟩
 clear e
 have no:bP l=false→Q (.ret (.bool false)) [] {}:=fun h=>by rwa [h] at hq
 have yes:bP l=true→Q (.ret (.bool true)) [] {}:=fun h=>by rwa [h] at hq
 refine ⟨_,rfl,aD (fun h1=>no ?_) (fun h1=>⟨_,rfl,aD (fun h2=>no ?_) (fun h2 => ?_)⟩)⟩
 ·simp only[bP,decide_eq_false (show ¬ (1≤l.length∧l.length≤8) by omega),Bool.false_and]
 ·simp only[bP,decide_eq_false (show ¬ (1≤l.length∧l.length≤8) by omega),Bool.false_and]
 ·have hc:bP l=(lL l&&l.all aQ):=by simp only[bP,decide_eq_true (show (1≤l.length∧l.length≤8) by omega),Bool.true_and]
  have go:lL l=true→xJ t l Q:=fun hh=>bI7 t l hok hl Q (fun h=>no (by rw[hc,hh,h];rfl)) (fun h=>yes (by rw[hc,hh,h];rfl))
  refine ckI (by simp;omega) (ckI (by simp[bJ];omega) (kG (by omega) fun n hn=>cB (fun k1 => ?_) (fun k1 => ?_)))
  ·refine ckI (by simp;omega) (ckI (by simp[bJ];omega) (kG (by omega) fun n' hn'=>cB (fun k2 => ?_) (fun k2 => ?_)))
   ·refine no ?_
    rw[hc,iQ (by omega),decide_eq_false (by omega)];rfl
   ·exact go (by rw[iQ (by omega)];exact decide_eq_true (by omega))
  ·exact go (by rw[iQ (by omega)];exact decide_eq_true (by omega))
def aCk:Con
 | [.lst _ cs n 13],H,K=>∃l:List Ctl,Lf (cs=aG l∧n=l.length∧l.length≤1000000∧∀c∈l,okC c)∧K (.ret (.bool (bP l))) H
 | _,_,_=>False
def aC0:Con:=fun args H Q=>uC [13] H args fun a=>aCk a H Q
theorem aTs (h51:aO Tryd.prog glC 51 yO):aO Tryd.prog glC 32 aC0:=by
 have sm32_ok:∀f g,bQt f=some g→aO Tryd.prog glC f g:=bW _ (by simp only[List.mem_cons,List.not_mem_nil,or_false,forall_eq];exact h51)
 refine dW (c:=aCk) (bE (enters_of (by kernel_rfl)) aV fun args H Q hc => ?_) aV [13] fun args H Q hc => ?_
 ·unfold aCk at hc
  split at hc
  ·obtain ⟨l,⟨rfl,rfl,h1,h2⟩,hq⟩:=hc
   obtain ⟨hv,hb',h⟩:=aRe _ l h2 h1 (fun o H' _=>H'=[]∧(∃v,o=.ret v∧old 0 v=true∧noY v=true)∧Q o H) ⟨rfl,⟨_,rfl,rfl,rfl⟩,hq⟩
   exact ⟨rfl,rfl,_,1000,aS sm32_ok _ _ _,rfl,h⟩
  ·exact hc.elim
 ·unfold aCk at hc
  split at hc
  ·obtain ⟨xs,h,hq⟩:=hc
   exact ⟨xs,h,rfl,⟨_,rfl,rfl⟩,hq⟩
  ·exact hc.elim
end Go.Proofs.YtafchcmemeinlaaDoor
