/-
  Chapter 24: the reference's Decode: residual.
-/
import Derived.Test.YtafchcmemeinlaaDoorCrB
import Derived.Test.YtafchcmemeinlaaDoorC24RJ
import Derived.Test.YtafchcmemeinlaaDoorC24ZV
import Derived.Test.YtafchcmemeinlaaDoorC24ZD
import Derived.Test.YtafchcmemeinlaaDoorC24YE
set_option linter.unusedSimpArgs false
set_option linter.unusedVariables false
set_option linter.unusedSectionVars false
namespace Go.Proofs.YtafchcmemeinlaaDoor
open Go.RowKit
set_option maxRecDepth 1000000

def bHc:SM:=gH [(39,cPk),(32,aC0),(11,aSg)]
theorem aWm:∀f g,bHc f=some g→aO Tryd.prog glC f g:=bW _ (by simp only[List.mem_cons,List.not_mem_nil,or_false,forall_eq_or_imp,forall_eq];exact ⟨bN7,aV8,aQe⟩)
def aI5 (s0:List UInt8) (acc:List Ctl) (r:List UInt8):Prop:=acc.length*4+r.length≤s0.length∧(∀c∈acc,okC c)∧∃f,r.length≤f∧lN s0.length s0 []=lN f r acc
def bD8 (s0:List UInt8) (z:S):List (List LInv):=[[
 { α:=Nat,pre:=fun i=>Lf (i=0∧s0≠[]),st:=fun i=>⟨mkT [(0,.str s0),(4,.nils),(5,.str s0)],[]⟩,mu:=fun i=>s0.length+1 },
 { α:=List Ctl×List UInt8,pre:=fun x=>Lf (1≤x.1.length∧aI5 s0 x.1 x.2),st:=fun x=>⟨mkT [(0,.str s0),(4,.sl 0 (13*x.1.length) 0 x.1.length 13),(5,.str x.2)],[⟨.grow,true,aG x.1⟩]⟩,mu:=fun x=>x.2.length }]]
noncomputable def aGy (hv:Nat→Option Pa) (hb:Nat→Option Bool) (s0:List UInt8):Env:=e24 bHc (fun i=>bif Nat.beq i 15000 then some (bD8 s0) else none) hv hb
noncomputable def aCf (hv:Nat→Option Pa) (hb:Nat→Option Bool) (s:List UInt8) (Q:Out→List Blk→Gh→Prop):Prop:=
 bH (aGy hv hb s) (wpx (aGy hv hb s) 1000) 15 [.str s] [] {} Q
abbrev bF2:Out:=.ret (.tup [.nils,.int .i64 7])
abbrev bH0 (x_2:List Ctl×List UInt8) (s:List UInt8):Prop:=Lf (1≤x_2.1.length∧aI5 s x_2.1 x_2.2)
abbrev bNq (c_15:Ctl):List AV:=[.int .i64 c_15.1,.int .i64 c_15.2,.int .i64 c_15.3,.int .i64 c_15.4,.int .i64 c_15.5,.int .i64 c_15.6,.int .i64 c_15.7,.int .i64 c_15.8,.lst 0 (aF c_15.9) c_15.9.length 7,.lst 0 (aA c_15.10) c_15.10.length 1,.int .i64 c_15.11,.int .i64 c_15.12,.lst 0 (aA c_15.13) c_15.13.length 1]
abbrev bOv (l_4:List Ctl):Prop:=l_4.length≤1000000∧∀c_5:Ctl,Membership.mem l_4 c_5→okC c_5
abbrev bPe (l_5:List Ctl):Prop:=l_5.length≤1000∧∀c_6:Ctl,Membership.mem l_5 c_6→aQ c_6=true
abbrev bJw:Out:=.ret (.tup [.nils,.int .i64 5])
abbrev bNo (x_2:List Ctl×List UInt8):Bool:=Nat.beq (aG x_2.1).length (13*x_2.1.length)&&Nat.ble (0+x_2.1.length*13) (13*x_2.1.length)&&true
abbrev bPd (x_2:List Ctl×List UInt8) (l_4:List Ctl):Prop:=List.map (fun (x_5:AV)=>dK 1 [Blk.mk BK.grow true (aG x_2.1)] 8 x_5) (((aG x_2.1).drop 0).take (x_2.1.length*13))=aG l_4
theorem bG3 (s:List UInt8) (Q:Out→List Blk→Gh→Prop):aCf (bG [(61448,.int .i64),(61451,.int .i64),(61455,.int .i64),(61458,.int .i64),(61461,.int .u8),(61462,.int .i64),(61463,.int .i64),(61465,.int
 .u8),(61466,.int .i64),(61467,.int .i64),(61468,.int .i64),(61469,.int .i64),(61471,.int .i64),(61477,.str),(61483,.str),(61489,.str)]) (bF []) s Q=(exI .i64 (s.length:Int) (fun n_0=>bif decide (n_0>1200) then Q
 (.ret (.tup [.nils,.int .i64 3])) [] {} else exI .i64 (s.length:Int) (fun n_1=>bif n_1==0 then Q bF2 [] {} else ((∃x_2:Nat,Lf (x_2=0∧s≠[])∧aK (AV.str s)∧aK (AV.str s)∧AV.nils=AV.nils∧True)∨∃x_2:List Ctl
 × List UInt8,bH0 x_2 s∧False)∧(∀x_2:Nat,Lf (x_2=0∧s≠[])→exI .i64 (s.length:Int) (fun n_3=>bif decide (n_3>0) then exI .i64 (s.length:Int) (fun n_4=>bif decide (n_4<4) then Q bF2 [] {} else ckQ (Nat.blt 2
 s.length) (exI .u8 (UInt8.toNat (s.getD 2 (UInt8.ofNat 0)):Int) (fun n_5=>exW .i64 n_5 (fun n_6=>exW .i64 (256*n_6) (fun n_7=>ckQ (Nat.blt 3 s.length) (exI .u8 (UInt8.toNat (s.getD 3 (UInt8.ofNat 0)):Int) (fun n_8=>exW .i64
 n_8 (fun n_9=>exW .i64 (n_7+n_9) (fun n_10=>exW .i64 (4*n_10) (fun n_11=>exW .i64 (4+n_11) (fun n_12=>exI .i64 (s.length:Int) (fun n_13=>bif decide (n_13<n_12) then Q bF2 [] {} else ckQ (decide (0≤n_12)&&true &&
 Nat.ble n_12.toNat s.length) (exS (.str ((s.drop 0).take (n_12.toNat-0))) (fun s_14=>Lf (s_14.length≤10000)∧∀c_15:Ctl,Lf (aJ0 s_14=c_15∧okC c_15)→ckQ (decide (0≤n_12)&&true&&Nat.ble n_12.toNat s.length&&Nat.ble
 s.length s.length) (exS (.str ((s.drop n_12.toNat).take (s.length-n_12.toNat))) (fun s_16=>(True∧(0:Nat)=(0:Nat))∧((∃y_17:Nat,Lf (y_17=0∧s≠[])∧s.length+1<s.length+1∧False)∨∃y_17:List Ctl×List UInt8,
 bH0 y_17 s∧y_17.2.length<s.length+1∧bNq c_15=aG y_17.1∧aK (AV.str s)∧AV.str s_16=AV.str y_17.2∧AV.sl 0 13 0 1 13=AV.sl 0 (13*y_17.1.length) 0 y_17.1.length 13∧True))))))))))))))))) else ∃l_4:List Ctl,Lf
 (([]:List AV)=aG l_4∧0=l_4.length∧bOv l_4)∧bif bP l_4 then ∃l_5:List Ctl,Lf (([]:List AV)=aG l_5∧0=l_5.length∧bPe l_5)∧exS (.str (bX l_5)) (fun s_6=>bif !eqB s_6 s then Q bJw [] {} else Q
 (.ret (.tup [.nils,.int .i64 0])) [] {}) else Q bJw [] {}))∧∀x_2:List Ctl×List UInt8,bH0 x_2 s→exI .i64 (x_2.2.length:Int) (fun n_3=>bif decide (n_3>0) then exI .i64 (x_2.2.length:Int) (fun n_4=>bif decide (n_4<4)
 then Q bF2 [] {} else ckQ (Nat.blt 2 x_2.2.length) (exI .u8 (UInt8.toNat (x_2.2.getD 2 (UInt8.ofNat 0)):Int) (fun n_5=>exW .i64 n_5 (fun n_6=>exW .i64 (256*n_6) (fun n_7=>ckQ (Nat.blt 3 x_2.2.length) (exI .u8 (UInt8.toNat
 (x_2.2.getD 3 (UInt8.ofNat 0)):Int) (fun n_8=>exW .i64 n_8 (fun n_9=>exW .i64 (n_7+n_9) (fun n_10=>exW .i64 (4*n_10) (fun n_11=>exW .i64 (4+n_11) (fun n_12=>exI .i64 (x_2.2.length:Int) (fun n_13=>bif decide (n_13 <
 n_12) then Q bF2 [] {} else ckQ (decide (0≤n_12)&&true&&Nat.ble n_12.toNat x_2.2.length) (exS (.str ((x_2.2.drop 0).take (n_12.toNat-0))) (fun s_14=>Lf (s_14.length≤10000)∧∀c_15:Ctl,Lf (aJ0 s_14=c_15∧okC c_15)→ckQ
 (Nat.beq (aG x_2.1).length (13*x_2.1.length)&&true&&Nat.beq (0+x_2.1.length*13) (13*x_2.1.length)&&Nat.ble (x_2.1.length+1) 1099511627776&&Nat.ble ((x_2.1.length+1)*152) 1099511627776) (ckQ (decide (0≤n_12) &&
 true&&Nat.ble n_12.toNat x_2.2.length&&Nat.ble x_2.2.length x_2.2.length) (exS (.str ((x_2.2.drop n_12.toNat).take (x_2.2.length-n_12.toNat))) (fun s_16=>(True∧(0:Nat)=(0:Nat))∧((∃y_17:Nat,Lf (y_17=0∧s≠[]) ∧
 s.length+1<x_2.2.length∧False)∨∃y_17:List Ctl×List UInt8,bH0 y_17 s∧y_17.2.length<x_2.2.length∧aG x_2.1++bNq c_15=aG y_17.1∧aK (AV.str s)∧AV.str s_16=AV.str y_17.2∧AV.sl 0 (13*x_2.1.length +
 13) 0 (x_2.1.length+1) 13=AV.sl 0 (13*y_17.1.length) 0 y_17.1.length 13∧True)))))))))))))))))) else ckQ (bNo x_2) (∃l_4:List Ctl,Lf (bPd x_2 l_4∧x_2.1.length=l_4.length∧bOv l_4)∧bif bP l_4 then ckQ (bNo x_2) (∃
 l_5:List Ctl,Lf (bPd x_2 l_5∧x_2.1.length=l_5.length∧bPe l_5)∧exS (.str (bX l_5)) (fun s_6=>bif !eqB s_6 s then Q bJw [] {} else Q (.ret (.tup [.sl 0 (13*x_2.1.length) 0 x_2.1.length 13,.int .i64 0])) [Blk.mk BK.grow
 true (aG x_2.1)] {})) else Q bJw [] {}))))):=by kernel_rfl

end Go.Proofs.YtafchcmemeinlaaDoor

set_option linter.unusedSimpArgs false
set_option linter.unusedVariables false
set_option linter.unusedSectionVars false
namespace Go.Proofs.YtafchcmemeinlaaDoor
open Go.RowKit
set_option maxRecDepth 1000000

theorem hdR {r:List UInt8} (h4:4≤r.length) {K:Int→Prop} (h:K ((dC r:Nat):Int)) :
  ckQ (Nat.blt 2 r.length) (exI .u8 (UInt8.toNat (r.getD 2 (UInt8.ofNat 0)):Int) fun n_5=>exW .i64 n_5 fun n_6=>exW .i64 (256*n_6) fun n_7=>ckQ (Nat.blt 3 r.length) (exI .u8 (UInt8.toNat (r.getD 3 (UInt8.ofNat 0)):Int) fun n_8=>exW .i64 n_8 fun n_9=>exW .i64 (n_7+n_9) fun n_10=>exW .i64 (4*n_10) fun n_11=>exW .i64 (4+n_11) K)):=by
 have e:(UInt8.ofNat 0)=(0:UInt8):=rfl
 rw[e]
 rw[dC,if_pos h4] at h
 have h2:=(r.getD 2 0).toNat_lt
 have h3:=(r.getD 3 0).toNat_lt
 generalize (r.getD 2 0).toNat=a at h h2 ⊢
 generalize (r.getD 3 0).toNat=b at h h3 ⊢
 refine ckI (by simp;omega) ⟨_,rfl,aC (by omega) (by omega) (aC (by omega) (by omega) (ckI (by simp;omega) ⟨_,rfl,aC (by omega) (by omega) (aC (by omega) (by omega) (aC (by omega) (by omega) (aC (by omega) (by omega) ?_)))⟩))⟩
 rwa [show (4:Int)+4*(256*(a:Int)+(b:Int))=((4+4*(a*256+b):Nat):Int) by omega]
theorem wX (s:List UInt8):aI5 s [] s:=⟨by simp,fun c hc=>by simp at hc,s.length,Nat.le_refl _,rfl⟩
theorem aXv {s:List UInt8} {acc:List Ctl} {r:List UInt8} (h:aI5 s acc r) (hr:r=[]):lN s.length s []=some acc:=by
 obtain ⟨_,_,f,_,h4⟩:=h
 subst hr
 rw[h4]
 cases f<;>simp[lN]
theorem mX {s:List UInt8} {acc:List Ctl} {r:List UInt8} (h:aI5 s acc r) (hr:r≠[]) (hl:r.length<dC r):lN s.length s []=none:=by
 obtain ⟨_,_,f,h3,h4⟩:=h
 have:=List.length_pos_iff.2 hr
 obtain ⟨g,rfl⟩:∃g,f=g+1:=⟨f-1,by omega⟩
 rw[h4,lN,if_neg hr,if_pos hl]
theorem aFh {s:List UInt8} {acc:List Ctl} {r:List UInt8} (h:aI5 s acc r) (hr:r≠[]) (hl:dC r≤r.length) (hok:okC (aJ0 (r.take (dC r)))):aI5 s (acc++[aJ0 (r.take (dC r))]) (r.drop (dC r)):=by
 obtain ⟨h1,h2,f,h3,h4⟩:=h
 have hp:=aF5 r
 obtain ⟨g,rfl⟩:∃g,f=g+1:=⟨f-1,by omega⟩
 refine ⟨by rw[List.length_append,List.length_drop,List.length_singleton];omega, ?_,g,by rw[List.length_drop];omega, ?_⟩
 ·intro c hc
  rw[List.mem_append,List.mem_singleton] at hc
  rcases hc with hc | rfl
  ·exact h2 c hc
  ·exact hok
 ·rw[h4,lN,if_neg hr,if_neg (by omega)]
theorem aXa {l:List Ctl}:bMk (.tup [.sl 0 (13*l.length) 0 l.length 13,.int .i64 0]) [⟨.grow,true,aG l⟩]=.tup [.lst 0 (aG l) l.length 13,.int .i64 0]:=by
 have h:dK 0 [⟨.grow,true,aG l⟩] 8 (.sl 0 (13*l.length) 0 l.length 13)=.lst 0 (aG l) l.length 13:=by
  rw[dK]
  have c1:(aG l).length.beq (13*l.length)=true:=aVs (bJ l)
  have c2:(0+l.length*13).ble (13*l.length)=true:=aXd (by omega)
  simp only[List.getElem?_cons_zero,c1,c2]
  rw[List.drop_zero,List.take_of_length_le (by rw[bJ];omega),iK]
  rfl
 show nlR [13,0] (.tup [dK 0 [⟨.grow,true,aG l⟩] 8 (.sl 0 (13*l.length) 0 l.length 13),.int .i64 0])=_
 rw[h]
 rfl
theorem aUx (s:List UInt8) (hs0:s.length≤9223372036854775807) (Q:Out→List Blk→Gh→Prop) (hq:∀l e,tK s=(l,e)→∀v H g,bMk v H=.tup [.lst 0 (aG l) l.length 13,.int .i64 e]→Q (.ret v) H g):∃hv hb,aCf hv hb s Q:=by
 obtain ⟨hv,hb',e⟩:∃hv hb,aCf hv hb s Q=_:=⟨_,_,bG3 s Q⟩
 refine ⟨hv,hb',e.mpr ?_⟩
 delta bF2 bH0 bNq bOv bPe bJw bNo bPd
 clear e
 refine ⟨_,rfl,aD (fun h1 => ?_) (fun h1=>⟨_,rfl,aP (fun h2 => ?_) (fun h2 => ?_)⟩)⟩
 ·exact hq _ _ (by rw[tK,if_pos (by omega)]) _ _ _ rfl
 ·exact hq _ _ (by rw[tK,if_neg (by omega),if_pos (List.length_eq_zero_iff.1 (by omega))]) _ _ _ rfl
 have hs:s.length≤1200:=by omega
 have h2:s≠[]:=fun h=>h2 (by rw[h];rfl)
 have no:lN s.length s []=none→∀H g,Q (.ret (.tup [.nils,.int .i64 7])) H g:=fun h H g=>hq [] 7 (by rw[tK,if_neg (by omega),if_neg h2,h]) _ _ _ rfl
 have okT:∀r:List UInt8,r.length≤1200→okC (aJ0 (r.take (dC r))):=fun r hr=>aP1 _ _ _ (by omega) (by rw[List.length_drop,List.length_take];omega)
 refine ⟨.inl ⟨0,⟨rfl,h2⟩,rfl,rfl,rfl,trivial⟩, ?_, ?_⟩
 ·rintro i ⟨rfl,_⟩
  have hp:=aF5 s
  have hpos:=List.length_pos_iff.2 h2
  refine ⟨_,rfl,aD (fun _=>⟨_,rfl,aD (fun h4 => ?_) (fun h4 => ?_)⟩) (fun h=>absurd h (by omega))⟩
  ·exact no (mX (wX s) h2 (by unfold dC;rw[if_neg (by omega)];omega)) _ _
  ·refine hdR (by omega) ⟨_,rfl,aD (fun hl=>no (mX (wX s) h2 (by omega)) _ _) (fun hl => ?_)⟩
   have hl:dC s≤s.length:=by omega
   refine ckI (by simp;omega) ⟨s.take (dC s),by simp,⟨by rw[List.length_take];omega⟩, ?_⟩
   rintro c ⟨rfl,hok⟩
   exact ckI (by simp;omega) ⟨s.drop (dC s),by rw[Int.toNat_natCast,List.take_of_length_le (by simp)],⟨trivial,rfl⟩,.inr ⟨([aJ0 (s.take (dC s))],s.drop (dC s)),⟨by simp,aFh (wX s) h2 hl hok⟩,by dsimp only;rw[List.length_drop];omega,rfl,rfl,rfl,rfl,trivial⟩⟩
 ·rintro ⟨acc,r⟩ ⟨g1,g2⟩
  dsimp only at g1 g2 ⊢
  have hc:=bJ acc
  have hrl:=g2.1
  refine ⟨_,rfl,aD (fun h3=>⟨_,rfl,aD (fun h4 => ?_) (fun h4 => ?_)⟩) (fun h3 => ?_)⟩
  ·exact no (mX g2 (List.length_pos_iff.1 (by omega)) (by unfold dC;rw[if_neg (by omega)];omega)) _ _
  ·have h3:r≠[]:=List.length_pos_iff.1 (by omega)
   have hp:=aF5 r
   refine hdR (by omega) ⟨_,rfl,aD (fun hl=>no (mX g2 h3 (by omega)) _ _) (fun hl => ?_)⟩
   have hl:dC r≤r.length:=by omega
   refine ckI (by simp;omega) ⟨r.take (dC r),by simp,⟨by rw[List.length_take];omega⟩, ?_⟩
   rintro c ⟨rfl,hok⟩
   exact ckI (by simp[hc];omega) (ckI (by simp;omega) ⟨r.drop (dC r),by rw[Int.toNat_natCast,List.take_of_length_le (by simp)],⟨trivial,rfl⟩,.inr ⟨(acc++[aJ0 (r.take (dC r))],r.drop (dC r)),⟨by simp,aFh g2 h3 hl hok⟩,by dsimp only;rw[List.length_drop];omega,(oP acc _).symm,rfl,rfl,by simp[Nat.mul_add],trivial⟩⟩)
  ·have hr:r=[]:=List.length_eq_zero_iff.1 (by omega)
   have hd:=aXv g2 hr
   have hf:List.map (fun x=>dK 1 [⟨.grow,true,aG acc⟩] 8 x) (((aG acc).drop 0).take (acc.length*13))=aG acc:=by rw[List.drop_zero,List.take_of_length_le (by rw[hc];omega),iK]
   have bad:¬ (bP acc=true∧bX acc=s)→∀H g,Q (.ret (.tup [.nils,.int .i64 5])) H g:=fun hn H g=>hq [] 5 (by rw[tK,if_neg (by omega),if_neg h2,hd];exact if_neg hn) _ _ _ rfl
   refine ckI (by simp[hc];omega) ⟨acc,⟨hf,rfl,by omega,g2.2.1⟩,splitB (fun hck => ?_) (fun hck=>bad (by simp[hck]) _ _)⟩
   refine ckI (by simp[hc];omega) ⟨acc,⟨hf,rfl,by omega,((gT acc).1 hck).2.2⟩,_,rfl,fG (splitB (fun h5 => ?_) (fun h5 => ?_))⟩
   ·have h5:bX acc=s:=by rw[kJ] at h5;simpa using h5
    exact hq acc 0 (by rw[tK,if_neg (by omega),if_neg h2,hd];exact if_pos ⟨hck,h5⟩) _ _ _ aXa
   ·refine bad (fun hh => ?_) _ _
    rw[hh.2,uT] at h5
    cases h5
def bB4:Con
 | [.str s],H,K=>Lf (s.length≤9223372036854775807)∧∀l e,Lf (fV s=(l,e))→K (.ret (.tup [.lst 0 (aG l) l.length 13,.int .i64 e])) H
 | _,_,_=>False
theorem bFl:aO Tryd.prog glC 15 bB4:=by
 refine fE (enters_of (by kernel_rfl)) aV 9 (nlR [13,0]) (vZ _) fun args H Q hc => ?_
 unfold bB4 at hc
 split at hc
 ·rename_i s
  obtain ⟨⟨hs⟩,hc⟩:=hc
  obtain ⟨hv,hb',h⟩:=aUx s hs (fun o H' _=>∃v,o=.ret v∧Q (.ret (nlR [13,0] (dK 0 H' 9 v))) H) (fun l e he v H' g ho=>⟨v,rfl,by
   have:=hc l e ⟨(bEy s).symm.trans he⟩
   rw[←ho] at this
   exact this⟩)
  exact ⟨rfl,rfl,_,1000,(aS aWm _ _ _:EnvFor Tryd.prog (aGy hv hb' s)),rfl,h⟩
 ·exact hc.elim
end Go.Proofs.YtafchcmemeinlaaDoor

set_option linter.unusedSimpArgs false
set_option linter.unusedVariables false
set_option linter.unusedSectionVars false
namespace Go.Proofs.YtafchcmemeinlaaDoor
open Go.RowKit
set_option maxRecDepth 1000000

def bO5:SM:=gH [(11,aSg),(12,bEi),(13,aZx),(14,bP8),(15,bB4),(16,bEn),(17,aWg)]
theorem bAh:∀f g,bO5 f=some g→aO Tryd.prog glC f g:=bW _ (by simp only[List.mem_cons,List.not_mem_nil,or_false,forall_eq_or_imp,forall_eq];exact ⟨aQe,bDh,bD7,bJk,bFl,bBt,aUw⟩)
noncomputable def aHs (hv:Nat→Option Pa) (hb:Nat→Option Bool) (b:Bool) (t:Nat) (ps:List Pc) (at' less at2 less2:Int) (text text2 raw:List UInt8) (Q:Out→List Blk→Gh→Prop):Prop:=
 bH (e24 bO5 (fun _=>none) hv hb) (wpx (e24 bO5 (fun _=>none) hv hb) 1000) 3 [.agg [.bool b,.lst t (aY ps) ps.length 10],.agg [.int .u16 at',.int .u8 less,.str text],.agg [.int .u16 at2,.int .u8 less2,.str text2],.str raw] [] {} Q
theorem bOu (b:Bool) (t:Nat) (ps:List Pc) (at':Int) (less:Int) (at2:Int) (less2:Int) (text:List UInt8) (text2:List UInt8) (raw:List UInt8) (Q:Out→List Blk→Gh→Prop):aHs (bG [(12306,.str),(12318,.int
 .i64),(12319,.int .i64),(12320,.str)]) (bF []) b t ps at' less at2 less2 text text2 raw Q=(∃ps_0:List Pc,Lf (aY ps=aY ps_0∧ps.length=ps_0.length∧∀p_1:Pc,Membership.mem ps_0 p_1→okP p_1)∧∀l_1:List
 Ctl,Lf (bP l_1=true∧(bX l_1).length≤1200)→∃l_2:List Ctl,Lf (aG l_1=aG l_2∧l_1.length=l_2.length∧l_2.length≤1000∧∀c_3:Ctl,Membership.mem l_2 c_3→aQ c_3=true)∧exS (.str (bX l_2)) fun
 s_3=>exI .i64 (raw.length:Int) fun n_4=>exI .i64 (aYm n_4 1300) fun n_5=>ckQ (decide (0≤n_5)&&true&&Nat.ble n_5.toNat raw.length) (exS (.str ((raw.drop 0).take (n_5.toNat-0))) fun s_6=>Lf ((0≤at'∧at'≤65535)∧(0 ≤
 less∧less≤255)∧s_3.length≤1000000)∧∀t_7:List UInt8,Lf (t_7.length≤s_3.length+20)→ckQ (bK [.int .u16 at',.int .u8 less,.str text] [.int .u16 at',.int .u8 less,.str text]&&true) (ckQ (bK [.int .u16 at2,.int
 .u8 less2,.str text2] [.int .u16 at2,.int .u8 less2,.str text2]&&true) (Lf ((0≤at'∧at'≤65535)∧(0≤less∧less≤255)∧s_3.length≤1000000)∧∀t_8:List UInt8,Lf (t_8.length≤s_3.length+20)→ckQ (bK [.int .u16 at2,
 .int .u8 less2,.str text2] [.int .u16 at2,.int .u8 less2,.str text2]&&true) (Lf ((0≤at2∧at2≤65535)∧(0≤less2∧less2≤255)∧t_8.length≤1000000)∧∀t_9:List UInt8,Lf (t_9.length≤t_8.length+20)→∀l_10:List Ctl,
 ∀e_11:Int,Lf (fV s_3=Prod.mk l_10 e_11)→Lf (s_3.length≤9223372036854775807)∧∀l_12:List Ctl,∀e_13:Int,Lf (fV s_3=Prod.mk l_12 e_13)→bif e_11 !=e_13 then Q (.ret (.bool false)) [] {} else ∃l_14:List Ctl,Lf
 (aG l_10=aG l_14∧aG l_12=aG l_14∧l_10.length=l_14.length∧l_12.length=l_14.length∧l_14.length≤1000000∧∀c_15:Ctl,Membership.mem l_14 c_15→okC c_15)∧∀l_15:List Ctl,∀e_16:Int,Lf (fV
 t_7=Prod.mk l_15 e_16)→Lf (t_7.length≤9223372036854775807)∧∀l_17:List Ctl,∀e_18:Int,Lf (fV t_7=Prod.mk l_17 e_18)→bif e_16 !=e_18 then Q (.ret (.bool false)) [] {} else ∃l_19:List Ctl,Lf (aG l_15=aG
 l_19∧aG l_17=aG l_19∧l_15.length=l_19.length∧l_17.length=l_19.length∧l_19.length≤1000000∧∀c_20:Ctl,Membership.mem l_19 c_20→okC c_20)∧∀l_20:List Ctl,∀e_21:Int,Lf (fV t_9=Prod.mk l_20 e_21) →
 Lf (t_9.length≤9223372036854775807)∧∀l_22:List Ctl,∀e_23:Int,Lf (fV t_9=Prod.mk l_22 e_23)→bif e_21 !=e_23 then Q (.ret (.bool false)) [] {} else ∃l_24:List Ctl,Lf (aG l_20=aG l_24∧aG l_22 =
 aG l_24∧l_20.length=l_24.length∧l_22.length=l_24.length∧l_24.length≤1000000∧∀c_25:Ctl,Membership.mem l_24 c_25→okC c_25)∧∀l_25:List Ctl,∀e_26:Int,Lf (fV s_6=Prod.mk l_25 e_26)→Lf (s_6.length ≤
 9223372036854775807)∧∀l_27:List Ctl,∀e_28:Int,Lf (fV s_6=Prod.mk l_27 e_28)→bif e_26 !=e_28 then Q (.ret (.bool false)) [] {} else ∃l_29:List Ctl,Lf (aG l_25=aG l_29∧aG l_27=aG l_29 ∧
 l_25.length=l_29.length∧l_27.length=l_29.length∧l_29.length≤1000000∧∀c_30:Ctl,Membership.mem l_29 c_30→okC c_30)∧Q (.ret (.bool true)) [] {}))))):=by kernel_rfl

theorem aKe {s:List UInt8} {l:List Ctl} {e:Int} (h:fV s=(l,e)):l.length≤1000000∧∀c∈l,okC c:=by
 rcases aOn s with ⟨m,k1,k2,k3,k4⟩ | ⟨e',k1,k2⟩
 ·rw[h] at k1
  cases k1
  have hm:=aPj k2
  exact ⟨by omega,hm.2⟩
 ·rw[h] at k1
  cases k1
  exact ⟨Nat.zero_le _,fun c hc=>by simp at hc⟩
theorem bLq {s:List UInt8} {A B:Prop} (hs:s.length≤9223372036854775807) (h:B):∀l_10:List Ctl,∀e_11:Int,Lf (fV s=Prod.mk l_10 e_11)→Lf (s.length≤9223372036854775807)∧∀l_12:List Ctl,∀e_13:Int,Lf (fV s=Prod.mk l_12 e_13)→bif e_11 !=e_13 then A else ∃l_14:List Ctl,Lf (aG l_10=aG l_14∧aG l_12=aG l_14∧l_10.length=l_14.length∧l_12.length=l_14.length∧l_14.length≤1000000∧∀c_15:Ctl,Membership.mem l_14 c_15→okC c_15)∧B:=by
 rintro l e ⟨h1⟩
 refine ⟨⟨hs⟩, ?_⟩
 rintro l2 e2 ⟨h2⟩
 rw[h1] at h2
 cases h2
 exact cB (fun hh=>absurd rfl hh) (fun _=>⟨l,⟨rfl,rfl,rfl,rfl,(aKe h1).1,(aKe h1).2⟩,h⟩)
theorem aG9 (b:Bool) (t:Nat) (ps:List Pc) (at' less at2 less2:Int) (text text2 raw:List UInt8) (hps:∀p∈ps,okP p) (ha:0≤at'∧at'≤65535) (hl:0≤less∧less≤255) (ha2:0≤at2∧at2≤65535) (hl2:0≤less2∧less2≤255)
  (Q:Out→List Blk→Gh→Prop) (hq:Q (.ret (.bool true)) [] {}):∃hv hb,aHs hv hb b t ps at' less at2 less2 text text2 raw Q:=by
 obtain ⟨hv,hb',e⟩:∃hv hb,aHs hv hb b t ps at' less at2 less2 text text2 raw Q=_:=⟨_,_,bOu b t ps at' less at2 less2 text text2 raw Q⟩
 refine ⟨hv,hb',e.mpr ?_⟩
 clear e
 refine ⟨ps,⟨rfl,rfl,hps⟩, ?_⟩
 rintro l ⟨hck,hlen⟩
 have hc:=(gT l).1 hck
 refine ⟨l,⟨rfl,rfl,by omega,hc.2.2⟩,_,rfl,_,rfl,aWt (b:=1300) rfl ?_⟩
 refine ckI (by simp;omega) ⟨raw.take (min raw.length 1300),by simp,⟨ha,hl,by omega⟩, ?_⟩
 rintro t7 ⟨h7⟩
 refine ckF (ckF ⟨⟨ha,hl,by omega⟩, ?_⟩)
 rintro t8 ⟨h8⟩
 refine ckF ⟨⟨ha2,hl2,by omega⟩, ?_⟩
 rintro t9 ⟨h9⟩
 exact bLq (by omega) (bLq (by omega) (bLq (by omega) (bLq (by rw[List.length_take];omega) hq)))
end Go.Proofs.YtafchcmemeinlaaDoor
