/-
  Chapter 25: contracts that compute; the chapter's examples hold.
-/
import Derived.Test.YtnhechnaemmdiaaGreatDoorKnN
import Derived.Test.YtnhechnaemmdiaaGreatDoorKnQ
import Derived.Test.YtnhechnaemmdiaaGreatDoorK25CZ
import Derived.Test.YtnhechnaemmdiaaGreatDoorKnM
set_option linter.unusedSimpArgs false
set_option linter.unusedVariables false
set_option linter.unusedSectionVars false
namespace Go.Proofs.YtnhechnaemmdiaaGreatDoor
open Go.RowKit
set_option maxRecDepth 1000000

theorem jR{f:FuncId}{g h:Con}(hg:aI Tryz.prog gl0 f g)(k:∀args H K,h args H K->g args H K):aI Tryz.prog gl0 f h:=⟨hg.1,λargs H Q hc=>hg.2 args H Q (k args H Q hc)⟩
def fcN:Nat->(UInt8->Prop)->Prop
 | 0,k=>k (UInt8.ofNat 0)
 | n+1,k=>k (UInt8.ofNat (Nat.succ n))
def fcB:LA->(LA->Prop)->Prop
 | [],k=>k []
 | a::l,k=>fcN a.toNat λb=>fcB l λm=>k (b::m)
theorem bMs(a:UInt8)(k:UInt8->Prop):fcN a.toNat k=k a:=by
 have h:∀n,fcN n k=k (UInt8.ofNat n):=λn=>by cases n<;>rfl
 rw[h,UInt8.ofNat_toNat]
theorem aAo:∀ (l:LA) (k:LA->Prop),fcB l k=k l
 | [],k=>rfl
 | a::l,k=>by
  rw[fcB,bMs,aAo l]
def aVf:Con
 | [.str a,.str b,.str c,.str d],H,K=>(match nM a b c d with | (t,e)=>fcB t λt=>K (.ret (.tup [.str t,.int .i64 e])) H)
 | _,_,_=>False
def aU9:Con
 | [.str a,.str b,.str c,.str d],H,K=>(match aFy a b c d with | (t,e)=>fcB t λt=>K (.ret (.tup [.str t,.int .i64 e])) H)
 | _,_,_=>False
theorem aW6:aI Tryz.prog gl0 66 aVf:=jR aHo λargs H K h=>by
 unfold aVf at h
 split at h
 ·exact λt e he=>by
   rw[he.h]at h
   dsimp only at h
   rw[aAo]at h;exact h
 ·exact h.elim
theorem aXv:aI Tryz.prog gl0 82 aU9:=jR bEq λargs H K h=>by
 unfold aU9 at h
 split at h
 ·exact λt e he=>by
   rw[he.h]at h
   dsimp only at h
   rw[aAo]at h;exact h
 ·exact h.elim
def aZw:HB->Option (List LA)
 | []=>some []
 | .str s::l=>(match aZw l with | some r=>some (s::r) | none=>none)
 | _=>none
theorem aJw:∀ (l:HB) (r:List LA),aZw l=some r->l=gJ r
 | [],r,h=>by cases h;rfl
 | .str s::l,r,h=>by
  rw[aZw]at h
  split at h
  ·rename_i r' hr
   cases h
   rw[aJw _ _ hr]
   rfl
  ·cases h
 | .undef::_,_,h | .opq _::_,_,h | .bool _::_,_,h | .int _ _::_,_,h | .nilp::_,_,h | .ptr _ _ _::_,_,h | .gptr _ _::_,_,h | .nils::_,_,h | .sl _ _ _ _ _::_,_,h | .nilf::_,_,h | .fn _ _ _::_,_,h | .yld _::_,_,h | .nili::_,_,h | .iface _ _::_,_,h | .agg _::_,_,h | .tup _::_,_,h | .lst _ _ _ _::_,_,h | .lptr _ _ _::_,_,h | .mpn::_,_,h | .mp _::_,_,h=>by cases h
def bN3(l:List LA)(sep:LA)(H:HV)(K:Out->HV->Prop):Prop:=bif Nat.ble l.length 1000&&Nat.ble (mK l sep).length 1000000 then K (.ret (.str (mK l sep))) H else False
def aRo:Con
 | [.sl id tot off len 1,.str sep],H,K=>(match H[id]? with
  | some b=>bif Nat.beq b.cs.length tot&&Nat.ble (off+len*1) tot&&b.k !=.ro then(match aZw ((b.cs.drop off).take (len*1))with
   | some l=>bif Nat.beq len l.length then bN3 l sep H K else False
   | none=>False)else False
  | none=>False)
 | _,_,_=>False
theorem aEy(H:HV)(d:Nat):∀l,(gJ l).map (λx=>bU 1 H (d+1) x)=gJ l
 | []=>rfl
 | s::l=>by rw[gJ,bXu,aEy H d l];rfl
theorem aYo:aI Tryz.prog gl0 129 aRo:=jR aB7 λargs H K h=>by
 unfold aRo at h
 split at h
 ·rename_i id tot off len sep
  split at h
  ·rename_i b hb
   cases hc:(Nat.beq b.cs.length tot&&Nat.ble (off+len*1) tot&&b.k !=.ro)<;>rw[hc]at h
   ·exact h.elim
   ·rw[bXw]at h
    split at h
    ·rename_i l hl
     cases h1:Nat.beq len l.length<;>rw[h1]at h
     ·exact h.elim
     ·unfold bN3 at h
      rw[bXw]at h
      cases h2:Nat.ble l.length 1000&&Nat.ble (mK l sep).length 1000000<;>rw[h2]at h
      ·exact h.elim
      ·simp only[bW3,bX5]at h2
       obtain rfl:=bYg h1
       show(match H[id]? with
        | some b=>bif Nat.beq b.cs.length tot&&Nat.ble (off+l.length*1) tot&&b.k !=.ro then aUi [.lst 1 (((b.cs.drop off).take (l.length*1)).map λx=>bU 1 H 8 x) l.length 1,.str sep] H K else False
        | none=>False)
       rw[hb]
       dsimp only
       rw[hc,bXw,aJw _ _ hl,aEy]
       refine⟨l,⟨rfl,rfl,h2.1,h2.2⟩, ?_⟩
       rintro x ⟨rfl⟩
       exact h
    ·exact h.elim
  ·exact h.elim
 ·exact h.elim
def fcM:Nat->(Nat->Prop)->Prop
 | 0,k=>k 0
 | n+1,k=>k (Nat.succ n)
def fcZ:Int->(Int->Prop)->Prop
 | .ofNat n,k=>fcM n λm=>k (.ofNat m)
 | .negSucc n,k=>fcM n λm=>k (.negSucc m)
theorem bMh(n:Nat)(k:Nat->Prop):fcM n k=k n:=by cases n<;>rfl
theorem bLu(n:Int)(k:Int->Prop):fcZ n k=k n:=by cases n<;>rw[fcZ,bMh]
def bBv(z:Nat):AV->Bool
 | .nils=>true
 | .lst _ [] 0 w=>Nat.beq w z
 | _=>false
def bKl(f:Bool->Int->Int->Int->Int->QT->List Md.Xt->Int->LA->LA×Int):Con
 | [.agg [.bool mk,.int .i64 ty,.int .i64 sq,.int .i64 ti,.int .i64 ss,x,y,.int .i64 pad,.str pl]],H,K=>bif bBv 1 x&&(bBv 2 y&&Nat.ble pl.length 1000000000)then(match f mk ty sq ti ss [] [] pad pl with | (s,e)=>fcB s λs=>fcZ e λe=>K (.ret (.tup [.str s,.int .i64 e])) H)else False
 | _,_,_=>False
theorem aGq{z:Nat}{x:AV}(h:bBv (z+1) x=true):∃t,nlV (z+1) x=.lst t [] 0 (z+1):=by
 unfold bBv at h
 split at h
 ·exact⟨0,rfl⟩
 ·rename_i t w
  obtain rfl:=bYg h
  exact⟨t,rfl⟩
 ·cases h
theorem aK0{f:Bool->Int->Int->Int->Int->QT->List Md.Xt->Int->LA->LA×Int}{args:HB}{H:HV}{K:Out->HV->Prop}(h:bKl f args H K){c:Con}(hc:∀mk ty sq ti ss t t' pad pl,pl.length<=1000000000->(∀s e,Lf ((s,e)=f mk ty sq ti ss [] [] pad pl)->K (.ret (.tup [.str s,.int .i64 e])) H)->c [.agg [.bool mk,.int .i64 ty,.int .i64 sq,.int .i64 ti,.int .i64 ss,.lst t [] 0 1,.lst t' [] 0 2,.int .i64 pad,.str pl]] H K) :
  ∃args',wkL args args'∧c args' H K:=by
 unfold bKl at h
 split at h
 ·rename_i mk ty sq ti ss x y pad pl
  cases hb:bBv 1 x&&(bBv 2 y&&Nat.ble pl.length 1000000000)<;>rw[hb]at h
  ·exact h.elim
  ·simp only[bW3,bX5]at hb
   obtain⟨t,ht⟩:=aGq hb.1
   obtain⟨t',ht'⟩:=aGq hb.2.1
   refine⟨[.agg [.bool mk,.int .i64 ty,.int .i64 sq,.int .i64 ti,.int .i64 ss,.lst t [] 0 1,.lst t' [] 0 2,.int .i64 pad,.str pl]], ?_,hc _ _ _ _ _ _ _ _ _ hb.2.2 λs e he => ?_⟩
   ·rw[←ht,←ht']
    exact pJ (aAi (pG [0,0,0,0,0,1,2] [.bool mk,.int .i64 ty,.int .i64 sq,.int .i64 ti,.int .i64 ss,x,y,.int .i64 pad,.str pl])) aT5
   ·rw[←he.h]at h
    simp only[bXw,aAo,bLu]at h
    exact h
 ·exact h.elim
theorem bGd:aI Tryz.prog gl0 31 (bKl Md.encRMMd):=jY Md.encode_ok λargs H Q h=>aK0 h λmk ty sq ti ss t t' pad pl hp hq=>⟨[],[],⟨⟨rfl,rfl,rfl,rfl,by simp,by simp,λx hx=>by simp at hx⟩,hp⟩,hq⟩
theorem aYy:aI Tryz.prog gl0 34 (bKl Md.headRM):=jY Md.head_ok λargs H Q h=>aK0 h λmk ty sq ti ss t t' pad pl hp hq=>⟨[],[],⟨⟨rfl,rfl,rfl,rfl,by simp,by simp,λx hx=>by simp at hx⟩,hp⟩,hq⟩
def aGi:Con
 | [.str a,.str b,.int .i64 c,.str d],H,K=>(match iG a b c d with | (t,e)=>fcB t λt=>K (.ret (.tup [.str t,.int .i64 e])) H)
 | _,_,_=>False
theorem aSp:aI Tryz.prog gl0 117 aGi:=jR uD λargs H K h=>by
 unfold aGi at h
 split at h
 ·exact λt e he=>by
   rw[he.h]at h
   dsimp only at h
   rw[aAo]at h;exact h
 ·exact h.elim
def bIn:Con
 | [.int .i64 n,.int .i64 k],H,K=>bif decide (k=4)||decide (k=8)then fcB (Md.beMMd n k.toNat) λs=>K (.ret (.str s)) H else False
 | _,_,_=>False
theorem bHf:aI Tryz.prog gl0 93 bIn:=jR aHk λargs H K h=>by
 unfold bIn at h
 split at h
 ·rename_i n k
  cases hb:decide (k=4)||decide (k=8)<;>rw[hb]at h
  ·exact h.elim
  ·refine⟨⟨by simpa using hb⟩, ?_⟩
   rintro s ⟨rfl⟩
   rw[bXw,aAo]at h
   exact h
 ·exact h.elim
def bTk:Con
 | [x],H,K=>bif bBv 2 x then K (.ret (.lst 0 [] 0 2)) H else False
 | _,_,_=>False
theorem bLi:aI Tryz.prog gl0 115 bTk:=jY aRb λargs H Q h=>by
 unfold bTk at h
 split at h
 ·rename_i x
  cases hb:bBv 2 x<;>rw[hb]at h
  ·exact h.elim
  ·obtain⟨t,ht⟩:=aGq hb
   exact⟨[.lst t [] 0 2],by rw[←ht];exact pJ (bFp _ _) aT5,h⟩
 ·exact h.elim
def bWi:SM:=gG [(31,bKl Md.encRMMd),(34,bKl Md.headRM),(35,bGz),(48,aG8),(66,aVf),(82,aU9),(93,bIn),(115,bTk),(117,aGi),(129,aRo)]
theorem bEu:∀f g,bWi f=some g->aI Tryz.prog gl0 f g:=bO _ (by simp only[bXd,bXn,bY0,bYd,bY4];exact⟨bGd,aYy,bE6,aT6,aW6,aXv,bHf,bLi,aSp,aYo⟩)
noncomputable def eW0:Env := { fn:=λf=>bB7 Tryz.prog f,sm:=bWi,gl:=gl0 }
theorem aXp:EnvFor Tryz.prog eW0:=⟨jL,jM,dH,bEu⟩
theorem aSz:aT eW0 (wpx eW0 100000) 20 [] [] {} bQ7=True:=by kernel_rfl
theorem aX8:aI Tryz.prog gl0 20 aYh:=aL1 (enters_of (by kernel_rfl)) aO aXp rfl aSz
end Go.Proofs.YtnhechnaemmdiaaGreatDoor
