/-
  Chapter 25: ProtectReports: residual.
-/
import Derived.Test.YtnhechnaemmdiaaGreatDoorUnA
import Derived.Test.YtnhechnaemmdiaaGreatDoorZnF
set_option linter.unusedSimpArgs false
set_option linter.unusedVariables false
set_option linter.unusedSectionVars false
namespace Go.Proofs.YtnhechnaemmdiaaGreatDoor
open Go.RowKit
set_option maxRecDepth 1000000

theorem bNn{c:Cd.Ctl}(h:Cd.validM c=true):Cd.okCCd c:=by
 rcases Cd.valid_cases h with ⟨f,s1,s2,s3,s4,s5,rs,rfl,hrs⟩ | ⟨f,rs,rfl,hrs⟩ | ⟨f,rfl⟩ | ⟨f,a,lo,rfl,hlo⟩ | ⟨f,a,rfl⟩ | ⟨f,a,ba,ro,ti,rfl,hti⟩
 ·exact⟨by dsimp only;omega,by simp,by simp⟩
 ·exact⟨by dsimp only;omega,by simp,by simp⟩
 ·exact⟨by simp,by simp,by simp⟩
 ·have:=(Cd.nacks_parts hlo).2.1
  exact⟨by simp,by dsimp only;omega,by simp⟩
 ·exact⟨by simp,by simp,by simp⟩
 ·obtain⟨ref,l,h1,h2,h3⟩:=Cd.stepsR_some hti
  exact⟨by simp,by simp,by dsimp only;omega⟩
def aWz:Con
 | [.lst _ cs n 13],H,K=>∃l:List Cd.Ctl,Lf (cs=Cd.cellsCM l∧n=l.length∧Cd.checkMCd l=true∧(Cd.encCM l).length<=1180)∧∀s:LA,Lf (s=Cd.encCM l)->K (.ret (.tup [.str s,.int .i64 0])) H
 | _,_,_=>False
theorem aRg:aI Tryz.prog gl0 39 aWz:=lQ Cd.enc_raw λargs H K hc=>by
 unfold aWz at hc
 split at hc
 ·rename_i t cs n
  obtain⟨l,⟨rfl,rfl,h1,h2⟩,hq⟩:=hc
  have hch:=h1
  simp only[Cd.checkMCd,bW3,bW6,bYy]at h1
  refine⟨l,⟨rfl,rfl,by omega,λc hc=>bNn (h1.2 c hc)⟩, ?_⟩
  rintro s e ⟨he⟩
  rw[Cd.encRMCd,if_pos hch,if_pos (by omega)]at he
  obtain⟨rfl,rfl⟩:=cBf he
  exact hq _ ⟨rfl⟩
 ·exact hc.elim
def smR:SM:=gG [(13,aUt),(39,aWz),(58,aYm),(66,bA0),(67,cbC aEx),(93,bA8),(129,aR9)]
theorem bOx:∀f g,smR f=some g->aI Tryz.prog gl0 f g:=bO _ (by simp only[bXd,bXn,bY0,bYd,bY4];exact⟨aI8,aRg,aTm,aHo,aBa,aHk,aB7⟩)
noncomputable def aG1(hv:LI)(hb:LB)(a b c:LA)(hid:QT)(w:List Tr)(n:Nat)(nx:Int)(t:Nat)(l:List Cd.Ctl)(Q:BS):Prop:=
 aT (e04 smR (λ_=>none) hv hb) (wpx (e04 smR (λ_=>none) hv hb) 1000) 37 [.agg [.str a,.str b,.str c,.lst 0 (aA hid) hid.length 1,.lst 0 (trM w) (n+1) 3,.int .i64 nx,.int .i64 0,.int .i64 (-1),.int .u64 0],.lst t (Cd.cellsCM l) l.length 13] [] {} Q
abbrev bLv(a b c:LA)(hid:QT)(w:List Tr)(n:Nat)(nx:Int):Blk:=Blk.mk BK.exact true [.str a,.str b,.str c,.lst 0 (aA hid) hid.length 1,.lst 0 (trM w) (n+1) 3,.int .i64 nx,.int .i64 0,.int .i64 (-1),.int .u64 0]
abbrev bIp(a b c:LA)(xs_0:QT)(w:List Tr)(n:Nat)(nx:Int):HB:=[.str a,.str b,.str c,.lst 0 (aA xs_0) xs_0.length 1,.sl 5 (0+(trM w).length) 0 (0+(n+1)) 3,.int .i64 nx,.int .i64 0,.int .i64 (-1),.int .u64 0]
theorem bVb(a:LA)(b:LA)(c:LA)(hid:QT)(w:List Tr)(n:Nat)(nx:Int)(t:Nat)(l:List Cd.Ctl)(Q:BS):aG1 (aW [(151586,.int .i64),(151587,.lit (.bool
 false)),(151595,.lit (.bool false)),(151598,.str),(151604,.int .i64),(151617,.int .i64),(151623,.int .i64),(151627,.str),(151629,.str),(151638,.int .i64)]) (aV [(466951,false),(344062,true)]) a b c hid w n nx t l Q =
 (Lf (aV2 a b c (aA hid) hid.length (trM w) (n+1) nx 0 (-1) 0)∧∃xs_0:QT,Lf (aA hid=aA xs_0∧hid.length=xs_0.length∧xs_0.length<=1000000)∧ckQ (dE [.lst 0 (trM w) (n+1) 3] [.lst 0 (trM w) (n+1) 3]
 && true) (ckQ (Nat.beq (trM w).length ((n+1)*3)&&eH (trM w)&&true&&Nat.ble ((n+1)*24) 1099511627776) (ckQ (Nat.ble (0+(n+1)) 1099511627776&&Nat.ble ((0+(n+1))*24) 1099511627776) (∃l_1:List Cd.Ctl,Lf
 (Cd.cellsCM l=Cd.cellsCM l_1∧l.length=l_1.length∧Cd.checkMCd l_1=true∧(Cd.encCM l_1).length<=1180)∧∀s_2:LA,Lf (s_2=Cd.encCM l_1)->exI .i64 (s_2.length:Int) (λn_3=>AV.bool (decide (n_3>1180))=AV.bool
 false∧AV.bool (nx==2147483648)=AV.bool false∧ckQ (Nat.ble 8 s_2.length) (exS (.str ((s_2.drop 0).take 8)) (λs_4=>exW .i64 ((2147483648 ||| (nx%18446744073709551616).toNat:Nat):Int) (λn_5=>Lf ((4:Int)=(4:Int) ∨
 (4:Int)=(8:Int))∧∀s_6:LA,Lf (s_6=Md.beMMd n_5 (Int.toNat 4))->ckQ (Nat.blt 0 l.length&&true) (ckQ (Nat.blt 1 (Cd.cellsCM l).length) (exV .i64 ((Cd.cellsCM l).getD 1 AV.undef) (λn_7=>exW .i64 ((281474976710656
 ||| (nx%18446744073709551616).toNat:Nat):Int) (λn_8=>ckQ (decide (s_4.length+s_6.length<=9223372036854775807)&&true) (exS (.str (s_4++s_6)) (λs_9=>ckQ (Nat.ble 8 s_2.length&&Nat.ble s_2.length s_2.length) (exS
 (.str ((s_2.drop 8).take (s_2.length-8))) (λs_10=>Lf (aF2 [bLv a b c hid w n nx,Blk.mk BK.exact true [.str [],.str [],.str [],.nils,.nils,.int .i64 0,.int .i64 0,.int .i64 0,.int .u64 0],bLv a b c hid w n nx,Blk.mk
 BK.exact false (bIp a b c xs_0 w n nx),Blk.mk BK.exact true [],Blk.mk BK.grow (aP 0 ([]++trM w)) ([]++trM w)] (.sl 5 (0+(trM w).length) 0 (0+(n+1)) 3))∧Lf (b.length=12)∧∀s_11:LA,Lf (s_11=fM b n_7 n_8)
 → ckQ (dE [.str a] [.str a]&&true) (∀t_12:LA,∀e_13:Int,Lf (nM a s_11 s_9 s_10=Prod.mk t_12 e_13)->exW .i64 (nx+1) (λn_14=>∃l_15:List LA,Lf ([AV.str s_4,.str t_12,.str s_6]=gJ l_15 ∧
 3=l_15.length∧l_15.length<=1000∧(mK l_15 []).length<=1000000)∧∀x_16:LA,Lf (x_16=mK l_15 [])->((aP 0 ([]++trM w)||aP 7 ([]++trM w))&&true)=true∧ckQ (dE (bIp a b c xs_0 w n n_14) (bIp a b c
 xs_0 w n n_14)&&true) (Q (.ret (.tup [.agg (bIp a b c xs_0 w n n_14),.str x_16,.int .i64 0])) [bLv a b c hid w n nx,Blk.mk BK.exact false (bIp a b c xs_0 w n n_14),bLv a b c hid w n nx,Blk.mk BK.exact false (bIp a b c xs_0 w n
 n_14),Blk.mk BK.exact true [],Blk.mk BK.grow (aP 0 ([]++trM w)) ([]++trM w),Blk.mk BK.exact true [.str s_4,.str t_12,.str s_6]] {})))))))))))))))))∧True)):=by kernel_rfl

theorem aVp{l:List Cd.Ctl}(h:Cd.checkMCd l=true):∃c l',l=c::l'∧8<=(Cd.encCM l).length:=by
 simp only[Cd.checkMCd,bW3,bW6,bYy]at h
 cases l with
 | nil=>simp at h
 | cons c l=>
  have h1:=(Cd.one_len (h.2 c (by simp))).1
  have e:Cd.encCM (c::l)=Cd.oneM c++Cd.encCM l:=rfl
  exact⟨c,l,rfl,by rw[e,bW2];omega⟩
theorem bI4{a b c:LA}{hid:QT}{w:List Tr}{n:Nat}{nx:Int}{t:Nat}{l:List Cd.Ctl}{Q:BS}
  (hv:dQ a b c hid w nx 0 (-1) 0=true) (hk:aWa w) (hwl:w.length=n+1) (hl16:n+1<=16) (hnx:0<=nx∧nx<2147483648) (hc:Cd.checkMCd l=true) (hle:(Cd.encCM l).length<=1180)
  (hq:∀s:LA,s.length=(Cd.encCM l).length+20->(nx=0->s.drop ((Cd.encCM l).length+16)=[128,0,0,0])->∀v H g,bAt v H=.tup [shV 0 0 a b c hid w (nx+1) 0 (-1) 0,.str s,.int .i64 0]->Q (.ret v) H g):∃hv hb,aG1 hv hb a b c hid w n nx t l Q:=by
 have hn:=jC hv
 obtain⟨n1,n2,n3⟩:=aAb hn
 have n4:=aKc hn
 obtain⟨cc,l',hl0,h8⟩:=aVp hc
 have hok:aV2 a b c (aA hid) hid.length (trM w) (n+1) nx 0 (-1) 0:=⟨hid,w,0,⟨rfl,rfl,rfl,by omega,rfl,by omega,hk,by omega,by omega⟩,hv⟩
 have hln:=pO w
 have hot:aP 0 (trM w)=true:=(vC _).1
 have hll:=Cd.cellsC_len l
 have hlp:1<=l.length:=by rw[hl0];simp
 obtain⟨hv,hb',e⟩:∃hv hb,aG1 hv hb a b c hid w n nx t l Q=_:=⟨_,_,bVb a b c hid w n nx t l Q⟩
 refine⟨hv,hb',e.mpr ?_⟩
 delta bLv bIp
 clear e
 refine⟨⟨hok⟩,hid,⟨rfl,rfl,by omega⟩,ckF ⟨ckI (by rw[(vC w).2.2];simp[bS,hln];omega) (ckO ⟨l,⟨rfl,rfl,hc,hle⟩, ?_⟩),trivial⟩⟩
 rintro s2 ⟨rfl⟩
 refine⟨_,rfl,bF (by omega),bF (p:=nx=2147483648) (by omega),ckI (aNk h8) ⟨_,rfl, ?_⟩⟩
 have hor:((2147483648:Nat) ||| (nx%18446744073709551616).toNat)<2^33:=bYx (by omega) (by omega)
 have hor2:((281474976710656:Nat) ||| (nx%18446744073709551616).toNat)<2^49:=bYx (by omega) (by omega)
 refine aF ⟨⟨.inl rfl⟩, ?_⟩
 rintro s6 ⟨h6⟩
 have h6l:s6.length=4:=by rw[h6];exact Md.be_lenMd _ _
 refine ckI (by rw[aXd (show 0<l.length by omega)];rfl) (ckI (aXd (by omega)) ⟨cc.f,by rw[hl0];rfl,aF (ckO ⟨_,rfl,ckO ⟨_,rfl,⟨?_⟩,⟨n2⟩, ?_⟩⟩)⟩)
 ·cases w with
  | nil=>simp at hwl
  | cons x w=>exact aQy (j:=5) (by simp) rfl
 rintro s11 ⟨rfl⟩
 refine ckF ?_
 rintro t12 e13 ⟨h13⟩
 have h14:=aFv (key:=a) (no:=fM b cc.f (((281474976710656:Nat) ||| (nx%18446744073709551616).toNat:Nat):Int)) (hd:=((Cd.encCM l).drop 0).take 8++s6) (pl:=((Cd.encCM l).drop 8).take ((Cd.encCM l).length-8)) n1 (pK n2 _ _) (by simp;omega) (by simp;omega)
 rw[h13]at h14
 simp only[bXg,bYt]at h14
 have hj:mK [((Cd.encCM l).drop 0).take 8,t12,s6] []=((Cd.encCM l).drop 0).take 8++t12++s6:=by simp[mK,Lib.join]
 refine aF ⟨[_,t12,s6],⟨rfl,rfl,by simp,by rw[hj];simp;omega⟩, ?_⟩
 rintro x16 ⟨rfl⟩
 refine⟨by simp[hot],ckF (hq _ ?_ ?_ _ _ _ (aUf (id:=5) rfl rfl (by simp[hln]) (by simp;omega) (by simp)))⟩
 ·rw[hj];simp;omega
 ·rintro rfl
  rw[hj,cCv,bX9 (by simp;omega),bX2,h6]
  have e0:(Cd.encCM l).length+16-(((Cd.encCM l).drop 0).take 8++t12).length=0:=by simp;omega
  rw[e0]
  rfl
def aVz:Con
 | [.agg [.str a,.str b,.str c,.lst 0 hl hn 1,.lst 0 tl tn 3,.int .i64 nx,.int .i64 0,.int .i64 (-1),.int .u64 0],.lst _ cs m 13],H,K=>∃ (hid:QT) (w:List Tr) (l:List Cd.Ctl),
   Lf ((hl=aA hid∧hn=hid.length∧tl=trM w∧tn=w.length∧cs=Cd.cellsCM l∧m=l.length)∧(dQ a b c hid w nx 0 (-1) 0=true∧aWa w∧1<=w.length∧w.length<=16)∧(0<=nx∧nx<2147483648)∧Cd.checkMCd l=true∧(Cd.encCM l).length<=1180) ∧
   ∀s:LA,Lf (s.length=(Cd.encCM l).length+20∧(nx=0->s.drop ((Cd.encCM l).length+16)=[128,0,0,0]))->K (.ret (.tup [shV 0 0 a b c hid w (nx+1) 0 (-1) 0,.str s,.int .i64 0])) H
 | _,_,_=>False
theorem bAl:aI Tryz.prog gl0 37 aVz:=by
 refine dV (enters_of (by kernel_rfl)) aO 9 shK aQq λargs H Q hc => ?_
 unfold aVz at hc
 split at hc
 ·rename_i a b c hl hn tl tn nx t cs m
  obtain⟨hid,w,l,⟨⟨rfl,rfl,rfl,rfl,rfl,rfl⟩,⟨h1,h2,h3,h4⟩,h5,h6,h7⟩,hq⟩:=hc
  obtain⟨n,hn⟩:∃n,w.length=n+1:=⟨w.length-1,by omega⟩
  obtain⟨hv,hb',h⟩:=bI4 (t:=t) (Q:=λo H' _=>∃v,o=.ret v∧Q (.ret (shK (bU 0 H' 9 v))) H) h1 h2 hn (by omega) h5 h6 h7 (λs g1 g2 v H' g ho=>⟨v,rfl,by
   have e:shK (bU 0 H' 9 v)=_:=ho
   rw[e]
   exact hq s ⟨g1,g2⟩⟩)
  exact⟨rfl,rfl,_,1000,aS bOx _ hv hb',rfl,by rw[hn];exact h⟩
 ·exact hc.elim
end Go.Proofs.YtnhechnaemmdiaaGreatDoor
