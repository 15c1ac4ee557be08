/-
  Chapter 25: contracts that compute; the chapter's examples hold.
-/
import Derived.Test.YtnhechnaemmdiaaGreatDoorKnN
import Derived.Test.YtnhechnaemmdiaaGreatDoorKnQ
import Derived.Test.YtnhechnaemmdiaaGreatDoorKnM
set_option linter.unusedSimpArgs false
set_option linter.unusedVariables false
set_option linter.unusedSectionVars false
namespace Go.Proofs.YtnhechnaemmdiaaGreatDoor
open Go.RowKit
set_option maxRecDepth 1000000

theorem eP {f:FuncId} {g h:Con} (hg:aF Tryz.prog gl0 f g) (k:∀args H K,h args H K→g args H K):aF Tryz.prog gl0 f h:=⟨hg.1,fun args H Q hc=>hg.2 args H Q (k args H Q hc)⟩
def fcN:Nat→(UInt8→Prop)→Prop
 | 0,k=>k (UInt8.ofNat 0)
 | n+1,k=>k (UInt8.ofNat (Nat.succ n))
def fcB:List UInt8→(List UInt8→Prop)→Prop
 | [],k=>k []
 | a::l,k=>fcN a.toNat fun b=>fcB l fun m=>k (b::m)
theorem bHu (a:UInt8) (k:UInt8→Prop):fcN a.toNat k=k a:=by
 have h:∀n,fcN n k=k (UInt8.ofNat n):=fun n=>by cases n<;>rfl
 rw[h,UInt8.ofNat_toNat]
theorem rO:∀ (l:List UInt8) (k:List UInt8→Prop),fcB l k=k l
 | [],k=>rfl
 | a::l,k=>by
  rw[fcB,bHu,rO l]
def aPq:Con
 | [.str a,.str b,.str c,.str d],H,K=>(match jW a b c d with | (t,e)=>fcB t fun t=>K (.ret (.tup [.str t,.int .i64 e])) H)
 | _,_,_=>False
def aL7:Con
 | [.str a,.str b,.str c,.str d],H,K=>(match kX a b c d with | (t,e)=>fcB t fun t=>K (.ret (.tup [.str t,.int .i64 e])) H)
 | _,_,_=>False
theorem aQ4:aF Tryz.prog gl0 66 aPq:=eP aKn fun args H K h=>by
 unfold aPq at h
 split at h
 ·exact fun t e he=>by
   rw[he.h] at h
   dsimp only at h
   rw[rO] at h;exact h
 ·exact h.elim
theorem aQu:aF Tryz.prog gl0 82 aL7:=eP aOn fun args H K h=>by
 unfold aL7 at h
 split at h
 ·exact fun t e he=>by
   rw[he.h] at h
   dsimp only at h
   rw[rO] at h;exact h
 ·exact h.elim
def aSi:List AV→Option (List (List UInt8))
 | []=>some []
 | .str s::l=>(match aSi l with | some r=>some (s::r) | none=>none)
 | _=>none
theorem aFs:∀ (l:List AV) (r:List (List UInt8)),aSi l=some r→l=eG r
 | [],r,h=>by cases h;rfl
 | .str s::l,r,h=>by
  rw[aSi] at h
  split at h
  ·rename_i r' hr
   cases h
   rw[aFs _ _ hr]
   rfl
  ·cases h
 | .undef::_,_,h | .opq _::_,_,h | .bool _::_,_,h | .int _ _::_,_,h | .nilp::_,_,h | .ptr _ _ _::_,_,h | .gptr _ _::_,_,h | .nils::_,_,h | .sl _ _ _ _ _::_,_,h | .nilf::_,_,h | .fn _ _ _::_,_,h | .yld _::_,_,h | .nili::_,_,h | .iface _ _::_,_,h | .agg _::_,_,h | .tup _::_,_,h | .lst _ _ _ _::_,_,h | .lptr _ _ _::_,_,h | .mpn::_,_,h | .mp _::_,_,h=>by cases h
def bGw (l:List (List UInt8)) (sep:List UInt8) (H:List Blk) (K:Out→List Blk→Prop):Prop:=bif Nat.ble l.length 1000&&Nat.ble (iG l sep).length 1000000 then K (.ret (.str (iG l sep))) H else False
def aMw:Con
 | [.sl id tot off len 1,.str sep],H,K=>(match H[id]? with
  | some b=>bif Nat.beq b.cs.length tot&&Nat.ble (off+len*1) tot&&b.k !=.ro then (match aSi ((b.cs.drop off).take (len*1)) with
   | some l=>bif Nat.beq len l.length then bGw l sep H K else False
   | none=>False) else False
  | none=>False)
 | _,_,_=>False
theorem aBi (H:List Blk) (d:Nat):∀l,(eG l).map (fun x=>bW 1 H (d+1) x)=eG l
 | []=>rfl
 | s::l=>by rw[eG,bO2,aBi H d l];rfl
theorem aQ5:aF Tryz.prog gl0 129 aMw:=eP qM fun args H K h=>by
 unfold aMw at h
 split at h
 ·rename_i id tot off len sep
  split at h
  ·rename_i b hb
   cases hc:(Nat.beq b.cs.length tot&&Nat.ble (off+len*1) tot&&b.k !=.ro)<;>rw[hc] at h
   ·exact h.elim
   ·rw[bO3] at h
    split at h
    ·rename_i l hl
     cases h1:Nat.beq len l.length<;>rw[h1] at h
     ·exact h.elim
     ·unfold bGw at h
      rw[bO3] at h
      cases h2:Nat.ble l.length 1000&&Nat.ble (iG l sep).length 1000000<;>rw[h2] at h
      ·exact h.elim
      ·simp only[bN9,bOi] at h2
       obtain rfl:=bPl h1
       show (match H[id]? with
        | some b=>bif Nat.beq b.cs.length tot&&Nat.ble (off+l.length*1) tot&&b.k !=.ro then aNa [.lst 1 (((b.cs.drop off).take (l.length*1)).map fun x=>bW 1 H 8 x) l.length 1,.str sep] H K else False
        | none=>False)
       rw[hb]
       dsimp only
       rw[hc,bO3,aFs _ _ hl,aBi]
       refine ⟨l,⟨rfl,rfl,h2.1,h2.2⟩, ?_⟩
       rintro x ⟨rfl⟩
       exact h
    ·exact h.elim
  ·exact h.elim
 ·exact h.elim
def fcM:Nat→(Nat→Prop)→Prop
 | 0,k=>k 0
 | n+1,k=>k (Nat.succ n)
def fcZ:Int→(Int→Prop)→Prop
 | .ofNat n,k=>fcM n fun m=>k (.ofNat m)
 | .negSucc n,k=>fcM n fun m=>k (.negSucc m)
def fcL:Bool→(Bool→Prop)→Prop
 | true,k=>k true
 | false,k=>k false
theorem aWe (n:Nat) (k:Nat→Prop):fcM n k=k n:=by cases n<;>rfl
theorem aGt (n:Int) (k:Int→Prop):fcZ n k=k n:=by cases n<;>rw[fcZ,aWe]
theorem bE4 (b:Bool) (k:Bool→Prop):fcL b k=k b:=by cases b<;>rfl
def aVt (z:Nat):AV→Bool
 | .nils=>true
 | .lst _ [] 0 w=>Nat.beq w z
 | _=>false
def aUl (mk:Bool) (ty sq ti ss:Int) (cs:List Int) (ex:List Md.Xt) (p:Int) (y:List UInt8) (k:AV→Prop):Prop:=fcL mk fun mk=>fcZ ty fun ty=>fcZ sq fun sq=>fcZ ti fun ti=>fcZ ss fun ss=>fcZ p fun p=>fcB y fun y=>k (.agg [.bool mk,.int .i64 ty,.int .i64 sq,.int .i64 ti,.int .i64 ss,.lst 0 (aB cs) cs.length 1,.lst 0 (Md.cellsXM ex) ex.length 2,.int .i64 p,.str y])
theorem aHf (mk:Bool) (ty sq ti ss:Int) (cs:List Int) (ex:List Md.Xt) (p:Int) (y:List UInt8) (k:AV→Prop):aUl mk ty sq ti ss cs ex p y k=k (.agg [.bool mk,.int .i64 ty,.int .i64 sq,.int .i64 ti,.int .i64 ss,.lst 0 (aB cs) cs.length 1,.lst 0 (Md.cellsXM ex) ex.length 2,.int .i64 p,.str y]):=by
 simp only[aUl,bE4,aGt,rO]
def aX7:Con
 | [.str s],H,K=>bif Nat.ble s.length 700000 then (match Md.decM s with | (mk,ty,sq,ti,ss,cs,ex,p,y,e)=>aUl mk ty sq ti ss cs ex p y fun v=>fcZ e fun e=>K (.ret (.tup [v,.int .i64 e])) H) else False
 | _,_,_=>False
def bBc:Con
 | [.str s],H,K=>bif Nat.ble s.length 700000 then (match aEw s with | ((mk,ty,sq,ti,ss,cs,ex,p,y,_),n,e)=>aUl mk ty sq ti ss cs ex p y fun v=>fcM n fun n=>fcZ e fun e=>K (.ret (.tup [v,.int .i64 (n:Nat),.int .i64 e])) H) else False
 | _,_,_=>False
theorem aZ9:aF Tryz.prog gl0 35 aX7:=eP Md.decode_ok fun args H K h=>by
 unfold aX7 at h
 split at h
 ·rename_i s
  cases hb:Nat.ble s.length 700000<;>rw[hb] at h
  ·exact h.elim
  ·rw[bOi] at hb
   refine ckI (by simp;omega) ?_
   rintro mk ty sq ti ss cs ex p y e ⟨he⟩
   rw[he] at h
   simp only[bO3,aHf,aGt] at h
   exact h
 ·exact h.elim
theorem aXo:aF Tryz.prog gl0 80 bBc:=eP aWs fun args H K h=>by
 unfold bBc at h
 split at h
 ·rename_i s
  cases hb:Nat.ble s.length 700000<;>rw[hb] at h
  ·exact h.elim
  ·rw[bOi] at hb
   refine ⟨⟨hb⟩, ?_⟩
   rintro mk ty sq ti ss cs ex p y x n e ⟨he⟩
   rw[he] at h
   simp only[bO3,aHf,aGt,aWe] at h
   exact h
 ·exact h.elim
def bCz (f:Bool→Int→Int→Int→Int→List Int→List Md.Xt→Int→List UInt8→List UInt8×Int):Con
 | [.agg [.bool mk,.int .i64 ty,.int .i64 sq,.int .i64 ti,.int .i64 ss,x,y,.int .i64 pad,.str pl]],H,K=>bif aVt 1 x&&(aVt 2 y&&Nat.ble pl.length 1000000000) then (match f mk ty sq ti ss [] [] pad pl with | (s,e)=>fcB s fun s=>fcZ e fun e=>K (.ret (.tup [.str s,.int .i64 e])) H) else False
 | _,_,_=>False
theorem aFp {z:Nat} {x:AV} (h:aVt (z+1) x=true):∃t,nlV (z+1) x=.lst t [] 0 (z+1):=by
 unfold aVt at h
 split at h
 ·exact ⟨0,rfl⟩
 ·rename_i t w
  obtain rfl:=bPl h
  exact ⟨t,rfl⟩
 ·cases h
theorem aF4 {f:Bool→Int→Int→Int→Int→List Int→List Md.Xt→Int→List UInt8→List UInt8×Int} {args:List AV} {H:List Blk} {K:Out→List Blk→Prop} (h:bCz f args H K) {c:Con} (hc:∀mk ty sq ti ss t t' pad pl,pl.length≤1000000000→(∀s e,Lf ((s,e)=f mk ty sq ti ss [] [] pad pl)→K (.ret (.tup [.str s,.int .i64 e])) H)→c [.agg [.bool mk,.int .i64 ty,.int .i64 sq,.int .i64 ti,.int .i64 ss,.lst t [] 0 1,.lst t' [] 0 2,.int .i64 pad,.str pl]] H K) :
  ∃args',wkL args args'∧c args' H K:=by
 unfold bCz at h
 split at h
 ·rename_i mk ty sq ti ss x y pad pl
  cases hb:aVt 1 x&&(aVt 2 y&&Nat.ble pl.length 1000000000)<;>rw[hb] at h
  ·exact h.elim
  ·simp only[bN9,bOi] at hb
   obtain ⟨t,ht⟩:=aFp hb.1
   obtain ⟨t',ht'⟩:=aFp hb.2.1
   refine ⟨[.agg [.bool mk,.int .i64 ty,.int .i64 sq,.int .i64 ti,.int .i64 ss,.lst t [] 0 1,.lst t' [] 0 2,.int .i64 pad,.str pl]], ?_,hc _ _ _ _ _ _ _ _ _ hb.2.2 fun s e he => ?_⟩
   ·rw[←ht,←ht']
    exact dZ (sP (kZ [0,0,0,0,0,1,2] [.bool mk,.int .i64 ty,.int .i64 sq,.int .i64 ti,.int .i64 ss,x,y,.int .i64 pad,.str pl])) nT
   ·rw[←he.h] at h
    simp only[bO3,rO,aGt] at h
    exact h
 ·exact h.elim
theorem aY4:aF Tryz.prog gl0 31 (bCz Md.encRM):=eD Md.encode_ok fun args H Q h=>aF4 h fun mk ty sq ti ss t t' pad pl hp hq=>⟨[],[],⟨⟨rfl,rfl,rfl,rfl,by simp,by simp,fun x hx=>by simp at hx⟩,hp⟩,hq⟩
theorem aQ9:aF Tryz.prog gl0 34 (bCz Md.headRM):=eD Md.head_ok fun args H Q h=>aF4 h fun mk ty sq ti ss t t' pad pl hp hq=>⟨[],[],⟨⟨rfl,rfl,rfl,rfl,by simp,by simp,fun x hx=>by simp at hx⟩,hp⟩,hq⟩
def aDh:Con
 | [.str a,.str b,.int .i64 c,.str d],H,K=>(match gV a b c d with | (t,e)=>fcB t fun t=>K (.ret (.tup [.str t,.int .i64 e])) H)
 | _,_,_=>False
theorem aPa:aF Tryz.prog gl0 117 aDh:=eP qN fun args H K h=>by
 unfold aDh at h
 split at h
 ·exact fun t e he=>by
   rw[he.h] at h
   dsimp only at h
   rw[rO] at h;exact h
 ·exact h.elim
def aX5:Con
 | [.int .i64 n,.int .i64 k],H,K=>bif decide (k=4)||decide (k=8) then fcB (Md.beM n k.toNat) fun s=>K (.ret (.str s)) H else False
 | _,_,_=>False
theorem bA3:aF Tryz.prog gl0 93 aX5:=eP aOf fun args H K h=>by
 unfold aX5 at h
 split at h
 ·rename_i n k
  cases hb:decide (k=4)||decide (k=8)<;>rw[hb] at h
  ·exact h.elim
  ·refine ⟨⟨by simpa using hb⟩, ?_⟩
   rintro s ⟨rfl⟩
   rw[bO3,rO] at h
   exact h
 ·exact h.elim
def bK1:Con
 | [x],H,K=>bif aVt 2 x then K (.ret (.lst 0 [] 0 2)) H else False
 | _,_,_=>False
theorem bG4:aF Tryz.prog gl0 115 bK1:=eD aL2 fun args H Q h=>by
 unfold bK1 at h
 split at h
 ·rename_i x
  cases hb:aVt 2 x<;>rw[hb] at h
  ·exact h.elim
  ·obtain ⟨t,ht⟩:=aFp hb
   exact ⟨[.lst t [] 0 2],by rw[←ht];exact dZ (aOa _ _) nT,h⟩
 ·exact h.elim
def bNk:SM:=dV [(31,bCz Md.encRM),(34,bCz Md.headRM),(35,aX7),(48,aDv),(66,aPq),(80,bBc),(82,aL7),(93,aX5),(115,bK1),(117,aDh),(129,aMw)]
theorem bAy:∀f g,bNk f=some g→aF Tryz.prog gl0 f g:=bF _ (by simp only[bOr,bOx,bP3,bPj,bQe];exact ⟨aY4,aQ9,aZ9,aKx,aQ4,aXo,aQu,bA3,bG4,aPa,aQ5⟩)
noncomputable def eW0:Env := { fn:=fun f=>aW2 Tryz.prog f,sm:=bNk,gl:=gl0 }
theorem aRk:EnvFor Tryz.prog eW0:=⟨iB,iZ,bY,bAy⟩
theorem aLx:aY eW0 (wpx eW0 100000) 20 [] [] {} bI4=True:=by kernel_rfl
theorem aR3:aF Tryz.prog gl0 20 aUw:=aJz (enters_of (by kernel_rfl)) aM aRk rfl aLx
end Go.Proofs.YtnhechnaemmdiaaGreatDoor
