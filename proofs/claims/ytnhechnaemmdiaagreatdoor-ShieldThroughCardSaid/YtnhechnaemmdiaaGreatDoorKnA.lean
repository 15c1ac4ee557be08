/-
  The functions that the laws reach, compiled and written out (by program).
-/
import Derived.Test.YtnhechnaemmdiaaGreatDoorEnH
import Derived.Test.YtnhechnaemmdiaaGreatDoorProg
import Derived.KernelRfl
import Derived.Shelf.Strings.Builder1
import Derived.Shelf.Strings.Builder2
import Derived.Shelf.Strings.OnBuilder
import Derived.Shelf.Strings.BuilderF
import Derived.Shelf.Strings.BuilderK
import Derived.Shelf.Strings.Builder2Cap
import Derived.Shelf.Strings.Prefix
import Derived.Shelf.Bits.Mul64
import Derived.Shelf.Strings.Repeat
import Derived.MakeChecks
set_option linter.unusedSimpArgs false
set_option linter.unusedVariables false
namespace Go.Proofs.YtnhechnaemmdiaaGreatDoor
open Go.RowKit
set_option maxRecDepth 1000000
theorem bY:∀f g,aW2 Tryz.prog f=some g→aW2 Tryz.prog f=some g:=fun _ _ h=>h
end Go.Proofs.YtnhechnaemmdiaaGreatDoor

namespace Go.Proofs
open Go.Shelf
def Tryz.lays105_ren:Go.Shelf.Ren:=⟨fun | 105=>48 | 212=>105 | 99=>106 | 165=>107 | 166=>108 | 170=>109 | 169=>110 | 263=>154 | 264=>155 | 206=>156 | 240=>157 | 241=>158 | 276=>205 | 277=>206 | n=>n,fun | 9=>9 | 3=>3 | 4=>4 | 20=>20 | 0=>0 | 46=>34 | 109=>185 | 5=>5 | 72=>190 | 76=>193 | 51=>24 | 146=>241 | 53=>171 | 148=>243 | 70=>188 | 37=>80 | 75=>192 | 127=>245 | 164=>284 | 80=>196 | n=>n,fun | n=>n⟩
theorem Tryz.lays105:Go.Proofs.Lays.n105 Tryz.prog Tryz.lays105_ren := {
 mixed:=by kernel_rfl
 f99:=Tryz.func106.trans (congrArg some (by kernel_rfl))
 f105:=Tryz.func48.trans (congrArg some (by kernel_rfl))
 f165:=Tryz.func107.trans (congrArg some (by kernel_rfl))
 f166:=Tryz.func108.trans (congrArg some (by kernel_rfl))
 f169:=Tryz.func110.trans (congrArg some (by kernel_rfl))
 f170:=Tryz.func109.trans (congrArg some (by kernel_rfl))
 f206:=Tryz.func156.trans (congrArg some (by kernel_rfl))
 f212:=Tryz.func105.trans (congrArg some (by kernel_rfl))
 f240:=Tryz.func157.trans (congrArg some (by kernel_rfl))
 f241:=Tryz.func158.trans (congrArg some (by kernel_rfl))
 f263:=Tryz.func154.trans (congrArg some (by kernel_rfl))
 f264:=Tryz.func155.trans (congrArg some (by kernel_rfl))
 f276:=Tryz.func205.trans (congrArg some (by kernel_rfl))
 f277:=Tryz.func206.trans (congrArg some (by kernel_rfl))
 t0:=Tryz.underlying0
 a0:=Tryz.isAgg0
 z0:=Tryz.sizeOf0
 v0:=Tryz.zeroValue0
 t3:=Tryz.underlying3
 a3:=Tryz.isAgg3
 z3:=Tryz.sizeOf3
 v3:=Tryz.zeroValue3
 t4:=Tryz.underlying4
 a4:=Tryz.isAgg4
 z4:=Tryz.sizeOf4
 v4:=Tryz.zeroValue4
 t5:=Tryz.underlying5
 a5:=Tryz.isAgg5
 z5:=Tryz.sizeOf5
 v5:=Tryz.zeroValue5
 t9:=Tryz.underlying9
 a9:=Tryz.isAgg9
 z9:=Tryz.sizeOf9
 v9:=Tryz.zeroValue9
 t20:=Tryz.underlying20
 a20:=Tryz.isAgg20
 z20:=Tryz.sizeOf20
 v20:=Tryz.zeroValue20
 t37:=Tryz.underlying80
 a37:=Tryz.isAgg80
 z37:=Tryz.sizeOf80
 v37:=Tryz.zeroValue80
 t46:=Tryz.underlying34
 a46:=Tryz.isAgg34
 z46:=Tryz.sizeOf34
 v46:=Tryz.zeroValue34
 t51:=Tryz.underlying24
 a51:=Tryz.isAgg24
 z51:=Tryz.sizeOf24
 v51:=Tryz.zeroValue24
 t53:=Tryz.underlying171
 a53:=Tryz.isAgg171
 z53:=Tryz.sizeOf171
 v53:=Tryz.zeroValue171
 t70:=Tryz.underlying188
 a70:=Tryz.isAgg188
 z70:=Tryz.sizeOf188
 v70:=Tryz.zeroValue188
 t72:=Tryz.underlying190
 a72:=Tryz.isAgg190
 z72:=Tryz.sizeOf190
 v72:=Tryz.zeroValue190
 t75:=Tryz.underlying192
 a75:=Tryz.isAgg192
 z75:=Tryz.sizeOf192
 v75:=Tryz.zeroValue192
 t76:=Tryz.underlying193
 a76:=Tryz.isAgg193
 z76:=Tryz.sizeOf193
 v76:=Tryz.zeroValue193
 t109:=Tryz.underlying185
 a109:=Tryz.isAgg185
 z109:=Tryz.sizeOf185
 v109:=Tryz.zeroValue185
 t127:=Tryz.underlying245
 a127:=Tryz.isAgg245
 z127:=Tryz.sizeOf245
 v127:=Tryz.zeroValue245
 t146:=Tryz.underlying241
 a146:=Tryz.isAgg241
 z146:=Tryz.sizeOf241
 v146:=Tryz.zeroValue241
 t148:=Tryz.underlying243
 a148:=Tryz.isAgg243
 z148:=Tryz.sizeOf243
 v148:=Tryz.zeroValue243
 t164:=Tryz.underlying284
 a164:=Tryz.isAgg284
 z164:=Tryz.sizeOf284
 v164:=Tryz.zeroValue284 }
theorem Tryz.Builder_Extra_105:Builder.Extra Tryz.prog Tryz.lays105_ren := {
 sizeBuilder:=by kernel_rfl
 liesBuilder:=by kernel_rfl
 t5:=Tryz.underlying5
 a5:=Tryz.isAgg5
 z5:=Tryz.sizeOf5
 v5:=Tryz.zeroValue5
 infoByte:=by kernel_rfl
 cellsByte:=by kernel_rfl
 sizeByte:=by kernel_rfl
 neB5:=by decide }
open Go.RowKit Go.Lib in
open Go.RowKit Go.Lib in
open Go.RowKit Go.Lib in
open Go.RowKit Go.Lib in
open Go.RowKit Go.Lib in
open Go.RowKit Go.Lib in
open Go.RowKit Go.Lib in
theorem Tryz.strings_Repeat (s:ByteArray) (c:Nat) (w:World) (hc:c≤9223372036854775807) (hlen:s.size*c≤140737488355328) :
  Calls Tryz.prog 48 #[.string s,.int .i64 c] w fun e w'=>e=.returned (.string ⟨(Lib.repeatL s.data.toList c).toArray⟩)∧Below w.heap.size w w':=Any.strings_Repeat Tryz.lays105 Tryz.Builder_Extra_105 s c w hc hlen
def Tryz.lays156_ren:Go.Shelf.Ren:=⟨fun | 156=>129 | 165=>107 | 166=>108 | 169=>110 | 240=>157 | 241=>158 | 276=>205 | 277=>206 | n=>n,fun | 31=>82 | 9=>9 | 3=>3 | 4=>4 | 0=>0 | 20=>20 | 72=>190 | 76=>193 | 70=>188 | 37=>80 | 75=>192 | 127=>245 | 164=>284 | 5=>5 | 80=>196 | n=>n,fun | n=>n⟩
theorem Tryz.lays156:Go.Proofs.Lays.n156 Tryz.prog Tryz.lays156_ren := {
 mixed:=by kernel_rfl
 f156:=Tryz.func129.trans (congrArg some (by kernel_rfl))
 f165:=Tryz.func107.trans (congrArg some (by kernel_rfl))
 f166:=Tryz.func108.trans (congrArg some (by kernel_rfl))
 f169:=Tryz.func110.trans (congrArg some (by kernel_rfl))
 f240:=Tryz.func157.trans (congrArg some (by kernel_rfl))
 f241:=Tryz.func158.trans (congrArg some (by kernel_rfl))
 f276:=Tryz.func205.trans (congrArg some (by kernel_rfl))
 f277:=Tryz.func206.trans (congrArg some (by kernel_rfl))
 t0:=Tryz.underlying0
 a0:=Tryz.isAgg0
 z0:=Tryz.sizeOf0
 v0:=Tryz.zeroValue0
 t3:=Tryz.underlying3
 a3:=Tryz.isAgg3
 z3:=Tryz.sizeOf3
 v3:=Tryz.zeroValue3
 t4:=Tryz.underlying4
 a4:=Tryz.isAgg4
 z4:=Tryz.sizeOf4
 v4:=Tryz.zeroValue4
 t9:=Tryz.underlying9
 a9:=Tryz.isAgg9
 z9:=Tryz.sizeOf9
 v9:=Tryz.zeroValue9
 t20:=Tryz.underlying20
 a20:=Tryz.isAgg20
 z20:=Tryz.sizeOf20
 v20:=Tryz.zeroValue20
 t31:=Tryz.underlying82
 a31:=Tryz.isAgg82
 z31:=Tryz.sizeOf82
 v31:=Tryz.zeroValue82
 t37:=Tryz.underlying80
 a37:=Tryz.isAgg80
 z37:=Tryz.sizeOf80
 v37:=Tryz.zeroValue80
 t70:=Tryz.underlying188
 a70:=Tryz.isAgg188
 z70:=Tryz.sizeOf188
 v70:=Tryz.zeroValue188
 t72:=Tryz.underlying190
 a72:=Tryz.isAgg190
 z72:=Tryz.sizeOf190
 v72:=Tryz.zeroValue190
 t75:=Tryz.underlying192
 a75:=Tryz.isAgg192
 z75:=Tryz.sizeOf192
 v75:=Tryz.zeroValue192
 t76:=Tryz.underlying193
 a76:=Tryz.isAgg193
 z76:=Tryz.sizeOf193
 v76:=Tryz.zeroValue193
 t127:=Tryz.underlying245
 a127:=Tryz.isAgg245
 z127:=Tryz.sizeOf245
 v127:=Tryz.zeroValue245
 t164:=Tryz.underlying284
 a164:=Tryz.isAgg284
 z164:=Tryz.sizeOf284
 v164:=Tryz.zeroValue284 }
theorem Tryz.Builder_Extra_156:Builder.Extra Tryz.prog Tryz.lays156_ren := {
 sizeBuilder:=by kernel_rfl
 liesBuilder:=by kernel_rfl
 t5:=Tryz.underlying5
 a5:=Tryz.isAgg5
 z5:=Tryz.sizeOf5
 v5:=Tryz.zeroValue5
 infoByte:=by kernel_rfl
 cellsByte:=by kernel_rfl
 sizeByte:=by kernel_rfl
 neB5:=by decide }
open Go.RowKit in
theorem Tryz.strings_Join_none (a:Option Addr) (c:Nat) (sep:ByteArray) (w:World) :
  Calls Tryz.prog 129 #[.slice a 0 c,.string sep] w fun e w'=>e=.returned (.string ⟨#[]⟩)∧w'=w:=Any.strings_Join_none Tryz.lays156 Tryz.Builder_Extra_156 a c sep w
open Go.RowKit in
theorem Tryz.strings_Join (bk o c:Nat) (xs:List ByteArray) (sep:ByteArray) (w:World) (hcells:∀ (j:Nat) x,xs[j]? = some x→w.cell? ⟨bk,o+j,none⟩=some (.string x)) (hbk:bk<w.heap.size) (hN:xs.length≤140737488355328) (hcap:xs.length≤c) (hlen:(Lib.join (xs.map (·.data.toList)) sep.data.toList).length≤140737488355328) :
  Calls Tryz.prog 129 #[.slice (some ⟨bk,o,none⟩) xs.length c,.string sep] w fun e w'=>e=.returned (.string ⟨(Lib.join (xs.map (·.data.toList)) sep.data.toList).toArray⟩)∧Below w.heap.size w w':=Any.strings_Join Tryz.lays156 Tryz.Builder_Extra_156 bk o c xs sep w hcells hbk hN hcap hlen
end Go.Proofs

namespace Go.Proofs.YtnhechnaemmdiaaGreatDoor
open Go.RowKit
set_option maxRecDepth 1000000

abbrev SM:=Nat→Option (List AV→List Blk→(Out→List Blk→Prop)→Prop)
def b5 (a b c d e:Bool):List AV:=[.bool a,.bool b,.bool c,.bool d,.bool e]
def bN6:List AV:=b5 false false false false false++b5 false true true false false++b5 false false true false false++b5 false false false false false++b5 true false false true false++b5 true false false false false++b5 true false false false true
def bMf:List AV:=[.int .i64 0,.int .i64 200,.int .i64 201,.int .i64 203,.int .i64 205,.int .i64 206,.int .i64 205]
def gl0:Nat→Option (List AV)
 | 0=>some bN6
 | 1=>some bMf
 | _=>none
theorem aM:∀g cs,gl0 g=some cs→bG cs=true:=by
 intro g cs h
 unfold gl0 at h
 split at h
 ·cases h;rfl
 ·cases h;rfl
 ·cases h
noncomputable def e04 (sm:SM) (inv:Nat→Option (S→List (List LInv))) (hv:Nat→Option Pa) (hb:Nat→Option Bool):Env:=
 { fn:=fun f=>aW2 Tryz.prog f,sm:=sm,gl:=gl0,inv:=inv,hv:=hv,hb:=hb,hz:=fun _=>false }
theorem iZ:lH Tryz.prog=true:=by kernel_rfl
theorem iB:Tryz.prog.follows .mixedOrders=true:=by kernel_rfl
theorem aT {sm:SM} (h:∀f g,sm f=some g→aF Tryz.prog gl0 f g) (inv:Nat→Option (S→List (List LInv))) (hv:Nat→Option Pa) (hb:Nat→Option Bool):EnvFor Tryz.prog (e04 sm inv hv hb):=
 ⟨iB,iZ,bY,h⟩
abbrev Con:=List AV→List Blk→(Out→List Blk→Prop)→Prop
def dV:List (Nat×Con)→SM
 | [],_=>none
 | (k,c)::l,f=>bif Nat.beq f k then some c else dV l f
theorem bF:∀ (l:List (Nat×Con)),(∀p,p∈l→aF Tryz.prog gl0 p.1 p.2)→∀f g,dV l f=some g→aF Tryz.prog gl0 f g
 | [],_,f,g,h=>by simp[dV] at h
 | (k,c)::l,hl,f,g,h=>by
  simp only[dV] at h
  cases hk:Nat.beq f k
  ·rw[hk] at h
   exact bF l (fun p hp=>hl p (by simp[hp])) f g h
  ·rw[hk] at h
   simp only[bO3,bOl] at h
   subst h
   obtain rfl:=bPl hk
   exact hl (f,c) (by simp)
def sm0:SM:=fun _=>none
theorem bT:∀f g,sm0 f=some g→aF Tryz.prog gl0 f g:=fun _ _ h=>by cases h

def bM7 (s:List UInt8) (n:Nat):List UInt8:=Lib.repeatL s n
def aDv:Con
 | [.str s,.int .i64 c],H,K=>bif decide (0≤c)&&Nat.ble c.toNat 9223372036854775807&&Nat.ble (s.length*c.toNat) 140737488355328 then K (.ret (.str (bM7 s c.toNat))) H else False
 | _,_,_=>False
theorem aKx:aF Tryz.prog gl0 48 aDv:=by
 refine aEk (enters_of (by kernel_rfl)) fun args H Q hc m w vs hv => ?_
 unfold aDv at hc
 split at hc
 ·rename_i s c
  cases hb:decide (0≤c)&&Nat.ble c.toNat 9223372036854775807&&Nat.ble (s.length*c.toNat) 140737488355328
  ·rw[hb] at hc;exact hc.elim
  ·rw[hb] at hc
   simp only[bN9,bOc,bOi] at hb
   obtain ⟨v1,l1,e1,h1,r1⟩:=aX hv
   obtain ⟨v2,l2,e2,h2,r2⟩:=aX r1
   rw[fG] at r2
   subst r2
   simp only[VR] at h1 h2
   subst h1
   subst h2
   have ev:vs = #[.string ⟨s.toArray⟩,.int .i64 c]:=by
    cases vs
    simp only at e1
    rw[e1,e2]
   subst ev
   obtain ⟨n,rfl⟩:∃n:Nat,c=n:=⟨c.toNat,by omega⟩
   have hr:=Tryz.strings_Repeat ⟨s.toArray⟩ n w (by simpa using hb.1.2) (by have:=hb.2;simpa [ByteArray.size] using this)
   exact ⟨_,_,hc,by simp[VR,bM7],hr⟩
 ·exact hc.elim
set_option linter.unusedSectionVars false
def qK (lo hi t:Int) (s:Nat):Bool:=decide (lo≤t)&&decide (t≤hi)&&(if t<0 then Nat.beq s 0 else Nat.beq (s%2) 1&&(decide (62<t)||Nat.beq (s/2^(t.toNat+1)) 0))
noncomputable def aEl (hv:Nat→Option Pa) (hb:Nat→Option Bool) (lo hi n:Int) (Q:Out→List Blk→Gh→Prop):Prop:=
 aY (e04 sm0 (fun _=>none) hv hb) (wpx (e04 sm0 (fun _=>none) hv hb) 1000) 52 [.int .i64 lo,.int .i64 hi,.int .i64 n] [] {} Q
theorem bLr (lo:Int) (hi:Int) (n:Int) (Q:Out→List Blk→Gh→Prop):aEl (bD []) (bE []) lo hi n Q=(
(bif (decide (n≥lo)) then (bif (decide (n≤hi)) then (Q (Out.ret (AV.bool true)) [] (Gh.mk (0:Nat) (0:Nat) []))
else (Q (Out.ret (AV.bool false)) [] (Gh.mk (0:Nat) (0:Nat) [])))
else (Q (Out.ret (AV.bool false)) [] (Gh.mk (0:Nat) (0:Nat) [])))):=by kernel_rfl

def zC:Con
 | [.int .i64 lo,.int .i64 hi,.int .i64 n],H,K=>K (.ret (.bool (decide (lo≤n)&&decide (n≤hi)))) H
 | _,_,_=>False
theorem aJc (lo hi n:Int) (Q:Out→List Blk→Gh→Prop) (hq:Q (.ret (.bool (decide (lo≤n)&&decide (n≤hi)))) [] {}):∃hv hb,aEl hv hb lo hi n Q:=by
 obtain ⟨hv,hb',e⟩:∃hv hb,aEl hv hb lo hi n Q=_:=⟨_,_,bLr lo hi n Q⟩
 refine ⟨hv,hb',e.mpr ?_⟩
 clear e
 refine aD (fun h1=>aD (fun h2 => ?_) (fun h2 => ?_)) (fun h1 => ?_)
 ·rwa [bO4 h1,bO4 h2] at hq
 ·rwa [bO0 h2,bRt] at hq
 ·rwa [bO0 h1,bQ5] at hq
theorem aCn:aF Tryz.prog gl0 52 zC:=by
 refine aP (enters_of (by kernel_rfl)) aM fun args H Q hc => ?_
 unfold zC at hc
 split at hc
 ·rename_i lo hi n
  obtain ⟨hv,hb',h⟩:=aJc lo hi n (Q:=fun o H' _=>H'=[]∧(∃v,o=.ret v∧old 0 v=true∧noY v=true)∧Q o H) ⟨rfl,⟨_,rfl,rfl,rfl⟩,hc⟩
  exact ⟨rfl,rfl,_,1000,aT bT _ _ _,rfl,h⟩
 ·exact hc.elim
def smI:SM:=dV [(52,zC)]
theorem vV:∀f g,smI f=some g→aF Tryz.prog gl0 f g:=bF _ (by simp only[bOr,bOx,bP3,bQe];exact aCn)
noncomputable def aE9 (hv:Nat→Option Pa) (hb:Nat→Option Bool) (c t:Int) (s:Nat) (lo hi:Int) (Q:Out→List Blk→Gh→Prop):Prop:=
 aY (e04 smI (fun _=>none) hv hb) (wpx (e04 smI (fun _=>none) hv hb) 1000) 53 [.agg [.int .i64 c,.int .i64 t,.int .u64 (s:Nat)],.int .i64 lo,.int .i64 hi] [] {} Q
abbrev bHp:Out:=.ret (.bool true)
abbrev bKz (n_0:Int) (Q:Out→List Blk→Gh→Prop):Prop:=bif n_0==0 then Q bHp [] {} else Q (.ret (.bool false)) [] {}
abbrev bLe (s:Nat) (t:Int) (Q:Out→List Blk→Gh→Prop):Prop:=exI .u64 (s:Int) (fun n_2=>exW .i64 (t+1) (fun n_3=>ckQ (decide (0≤n_3)&&true) (exI .u64 (Int.fdiv n_2 ((2:Int)^Min.min n_3.toNat 64)) (fun n_4=>bif n_4==0 then Q bHp [] {} else Q (.ret (.bool false)) [] {}))))
abbrev bCc (Q:Out→List Blk→Gh→Prop):Prop:=Q (.ret (.bool false)) [] {}
theorem bJ6 (c:Int) (t:Int) (s:Nat) (lo:Int) (hi:Int) (Q:Out→List Blk→Gh→Prop):aE9 (bD [(217105,.int .u64),(217108,.int .u64),(217109,.int .u64),(217117,.int .u64),(217120,.int .i64),(217121,.int .u64)]) (bE []) c t s lo hi Q=(bif decide (lo≤t)&&decide (t≤hi) then bif decide (t<0) then exI .u64 (s:Int) (fun n_0=>bKz n_0 Q) else exI .u64 (s:Int) (fun n_0=>exW .u64 (((n_0%18446744073709551616).toNat &&& 1:Nat):Int) (fun n_1=>bif n_1==1 then bif decide (t>62) then Q bHp [] {} else bLe s t Q else bCc Q)) else bCc Q):=by kernel_rfl

noncomputable def qX (hv:Nat→Option Pa) (hb:Nat→Option Bool) (c t:Int) (s:Nat) (lo hi:Int) (Q:Out→List Blk→Gh→Prop):Prop:=
 aY (e04 sm0 (fun _=>none) hv hb) (wpx (e04 sm0 (fun _=>none) hv hb) 1000) 57 [.agg [.int .i64 c,.int .i64 t,.int .u64 (s:Nat)],.int .i64 lo,.int .i64 hi] [] {} Q
theorem bEe (c:Int) (t:Int) (s:Nat) (lo:Int) (hi:Int) (Q:Out→List Blk→Gh→Prop):qX (bD [(233493,.int .u64),(233496,.int .u64),(233497,.int .u64),(233504,.int .u64),(233507,.int .i64),(233508,.int .u64)]) (bE []) c t s lo hi Q=(bif decide (t<lo) then bCc Q else bif decide (t>hi) then bCc Q else bif t == -1 then exI .u64 (s:Int) (fun n_0=>bKz n_0 Q) else exI .u64 (s:Int) (fun n_0=>exI .u64 (n_0.tmod 2) (fun n_1=>bif n_1 !=1 then bCc Q else bif decide (t≥63) then Q bHp [] {} else bLe s t Q))):=by kernel_rfl

theorem bLk (s j:Nat):Int.fdiv (s:Int) ((2:Int)^j)=((s/2^j:Nat):Int):=by
 rw[show ((2:Int)^j)=((2^j:Nat):Int) by simp,Int.ofNat_fdiv]
theorem bMq (s:Nat) (hs:s<18446744073709551616) (t:Int) (h0:0≤t):s/2^(min (t+1).toNat 64)=s/2^(t.toNat+1)∨62<t:=by
 by_cases h:62<t
 ·exact .inr h
 ·left
  congr 2
  omega
theorem and1 (s:Nat) (hs:s<18446744073709551616):((Int.toNat ((s:Int)%18446744073709551616)) &&& 1:Nat)=s%2:=by
 rw[show Int.toNat ((s:Int)%18446744073709551616)=s by omega,bTg]
theorem aIl (c t:Int) (s:Nat) (lo hi:Int) (ht : -9223372036854775808≤t∧t≤9223372036854775807) (hs:s<18446744073709551616) (Q:Out→List Blk→Gh→Prop) (hq:Q (.ret (.bool (qK lo hi t s))) [] {}):∃hv hb,aE9 hv hb c t s lo hi Q:=by
 obtain ⟨hv,hb',e⟩:∃hv hb,aE9 hv hb c t s lo hi Q=_:=⟨_,_,bJ6 c t s lo hi Q⟩
 refine ⟨hv,hb',e.mpr ?_⟩
 delta bHp bKz bLe bCc
 clear e
 have yes:qK lo hi t s=true→Q (.ret (.bool true)) [] {}:=fun h=>by rwa [h] at hq
 have no:qK lo hi t s=false→Q (.ret (.bool false)) [] {}:=fun h=>by rwa [h] at hq
 cases hr:decide (lo≤t)&&decide (t≤hi)
 ·exact no (by rw[qK,hr,bQ5])
 ·rw[bO3]
  refine aD (fun h1=>⟨_,rfl,aS (fun h2 => ?_) (fun h2 => ?_)⟩) (fun h1=>⟨_,rfl, ?_⟩)
  ·exact yes (by rw[qK,hr,if_pos h1,bOg,aN];omega)
  ·exact no (by rw[qK,hr,if_pos h1,bOg];exact bQk.2 (by rw[ne_eq,aN];omega))
  ·(try dsimp only);rw[and1 s hs]
   refine ⟨_,rfl, ?_⟩
   rw[show IntKind.wrap .u64 ((s%2:Nat):Int)=((s%2:Nat):Int)%18446744073709551616 from rfl,show ((s%2:Nat):Int)%18446744073709551616=((s%2:Nat):Int) by omega]
   refine aS (fun h2=>aD (fun h3 => ?_) (fun h3=>⟨_,rfl,aI (by omega) (by omega) (ckI (by simp;omega) ⟨_,rfl, ?_⟩)⟩)) (fun h2 => ?_)
   ·exact yes (by rw[qK,hr,if_neg h1,bOg,bO4 (by omega:62<t),Bool.true_or,bOh,aN];omega)
   ·rw[bLk]
    have hk:=(bMq s hs t (by omega)).resolve_right (by omega)
    rw[hk]
    refine aS (fun h4 => ?_) (fun h4 => ?_)
    ·exact yes (by rw[qK,hr,if_neg h1,bOg,bO0 (by omega:¬ 62<t),bS4,bN9,aN,aN];omega)
    ·exact no (by
      rw[qK,hr,if_neg h1,bOg,bO0 (by omega:¬ 62<t),bS4]
      exact bQk.2 (by rw[ne_eq,bN9,aN,aN];omega))
   ·exact no (by
     rw[qK,hr,if_neg h1,bOg]
     exact bQk.2 (by rw[ne_eq,bN9,aN];omega))
def zY:Con
 | [.agg [.int .i64 c,.int .i64 t,.int .u64 u],.int .i64 lo,.int .i64 hi],H,K=>∃s:Nat,Lf (u=(s:Int)∧s<18446744073709551616∧(-9223372036854775808≤t∧t≤9223372036854775807) ∧ -1≤lo)∧∀b:Bool,Lf (b=qK lo hi t s)→K (.ret (.bool b)) H
 | _,_,_=>False
theorem aNv:aF Tryz.prog gl0 53 zY:=by
 refine aP (enters_of (by kernel_rfl)) aM fun args H Q hc => ?_
 unfold zY at hc
 split at hc
 ·rename_i c t u lo hi
  obtain ⟨s,⟨rfl,h1,h2,h3⟩,hq⟩:=hc
  obtain ⟨hv,hb',h⟩:=aIl c t s lo hi h2 h1 (Q:=fun o H' _=>H'=[]∧(∃v,o=.ret v∧old 0 v=true∧noY v=true)∧Q o H) ⟨rfl,⟨_,rfl,rfl,rfl⟩,hq _ ⟨rfl⟩⟩
  exact ⟨rfl,rfl,_,1000,aT vV _ _ _,rfl,h⟩
 ·exact hc.elim
def iX (xs:List Int):Nat→Bool
 | 0=>true
 | i+1=>iX xs i&&(decide (1≤xs.getD i 0)&&decide (xs.getD i 0≤255)&&(Nat.beq i 0||decide (xs.getD (i-1) 0<xs.getD i 0)))
def aA9 (xs:List Int) (i:Nat):Int:=if i=0 then 0 else xs.getD (i-1) 0
def gG (a b c:List UInt8) (n:Nat):Bool:=Nat.beq a.length 32&&Nat.beq b.length 12&&Nat.beq c.length 32&&Nat.ble n 16
def bO (a b c:List UInt8) (xs:List Int):Bool:=gG a b c xs.length&&iX xs xs.length
def aVq (a b c:List UInt8) (xs:List Int) (s:S):List (List LInv):=[[
 { α:=Nat,pre:=fun i=>Lf (i≤xs.length),st:=fun i=>⟨mkT [(1,s.tm.get 1),(5,.bool (gG a b c xs.length&&iX xs i)),(29,s.tm.get 29),(30,s.tm.get 30),(31,.int .i64 (i:Nat))],s.hp⟩,mu:=fun i=>xs.length-i }]]
def aF9 (xs:List Int) (s:S):List (List LInv):=[[
 { α:=Nat,pre:=fun i=>Lf (i≤xs.length∧iX xs i=true),st:=fun i=>⟨mkT [(1,s.tm.get 1),(5,.int .i64 (aA9 xs i)),(6,.int .i64 (i:Nat))],s.hp⟩,mu:=fun i=>xs.length-i }]]
noncomputable def aEf (hv:Nat→Option Pa) (hb:Nat→Option Bool) (tg:Nat) (a b c:List UInt8) (xs:List Int) (Q:Out→List Blk→Gh→Prop):Prop:=
 aY (e04 smI (fun i=>bif Nat.beq i 51000 then some (aVq a b c xs) else none) hv hb) (wpx (e04 smI (fun i=>bif Nat.beq i 51000 then some (aVq a b c xs) else none) hv hb) 1000) 51 [.agg [.str a,.str b,.str c],.lst tg (aB xs) xs.length 1] [] {} Q
abbrev aQr (a b c:List UInt8):Prop:=aJ [AV.str a,.str b,.str c]
abbrev aOp (tg:Nat) (xs:List Int):Prop:=aJ (AV.lst tg (aB xs) xs.length 1)
abbrev aUa (x_1:Nat):AV:=.int .i64 (x_1:Int)
abbrev aIs (n_0:Int):Prop:=aJ (AV.int .i64 n_0)∧True
abbrev aJ1:Prop:=True∧(0:Nat)=(0:Nat)
abbrev bIi (x_1:Nat) (xs:List Int) (a b c:List UInt8) (tg:Nat) (n_0:Int):Prop:=exW .i64 ((x_1:Int)+1) (fun n_4=>aJ1∧∃y_5:Nat,Lf (y_5≤xs.length)∧xs.length-y_5<xs.length-x_1∧aQr a b c∧aOp tg xs∧AV.int .i64 n_4=aUa y_5∧AV.bool true=AV.bool (gG a b c xs.length&&iX xs y_5)∧aOp tg xs∧aIs n_0)
abbrev aW0 (n_7:Int) (xs:List Int):Bool:=decide (0≤n_7)&&Nat.blt n_7.toNat xs.length&&true
abbrev bA9 (n_7:Int) (xs:List Int):Bool:=Nat.blt (n_7.toNat*1) (aB xs).length
abbrev aYj (xs:List Int) (n_7:Int):AV:=(aB xs).getD (n_7.toNat*1) AV.undef
abbrev bFy (x_1:Nat) (xs:List Int) (a b c:List UInt8) (tg:Nat) (n_0:Int):Prop:=exW .i64 ((x_1:Int)+1) (fun n_6=>aJ1∧∃y_7:Nat,Lf (y_7≤xs.length)∧xs.length-y_7<xs.length-x_1∧aQr a b c∧aJ (AV.lst tg (aB xs) xs.length 1)∧AV.int .i64 n_6=aUa y_7∧AV.bool false=AV.bool (gG a b c xs.length&&iX xs y_7)∧aJ (AV.lst tg (aB xs) xs.length 1)∧aIs n_0)
abbrev aQo:Out:=.ret (.bool false)
abbrev bH3 (xs:List Int) (n_0:Int) (a b c:List UInt8) (tg:Nat) (Q:Out→List Blk→Gh→Prop):Prop:=∀x_1:Nat,Lf (x_1≤xs.length)→bif decide ((x_1:Int)<n_0) then exI .i64 (x_1:Int) (fun n_2=>ckQ (Nat.blt (x_1:Int).toNat xs.length&&true) (ckQ (Nat.blt ((x_1:Int).toNat*1) (aB xs).length) (exV .i64 ((aB xs).getD ((x_1:Int).toNat*1) AV.undef) (fun n_3=>bif gG a b c xs.length&&iX xs x_1 then bif decide (1≤n_3)&&decide (n_3≤255) then bif n_2==0 then bIi x_1 xs a b c tg n_0 else exW .i64 (n_2-1) (fun n_4=>ckQ (aW0 n_4 xs) (ckQ (bA9 n_4 xs) (exV .i64 (aYj xs n_4) (fun n_5=>bif decide (n_3>n_5) then bIi x_1 xs a b c tg n_0 else bFy x_1 xs a b c tg n_0)))) else bFy x_1 xs a b c tg n_0 else bFy x_1 xs a b c tg n_0)))) else bif gG a b c xs.length&&iX xs x_1 then Q (.ret (.bool true)) [] {} else Q aQo [] {}
def nS (tg:Nat) (a:List UInt8) (b:List UInt8) (c:List UInt8) (xs:List Int) (Q:Out→List Blk→Gh→Prop):Prop:=
exI .i64 (xs.length:Int) (fun n_0=>(∃x_1:Nat,Lf (x_1≤xs.length)∧aQr a b c∧aOp tg xs∧AV.int .i64 0=aUa x_1∧AV.bool false=AV.bool (gG a b c xs.length&&iX xs x_1)∧aOp tg xs∧aIs n_0)∧bH3 xs n_0 a b c tg Q)
theorem bMt (tg:Nat) (a:List UInt8) (b:List UInt8) (c:List UInt8) (xs:List Int) (Q:Out→List Blk→Gh→Prop):aEf (bD [(208906,.int .i64),(208911,.int .i64),(208917,.int .i64),(208922,.int .i64),(208926,.int .i64),(208929,.int .i64),(208931,.int .i64),(208950,.int .i64),(208944,.int .i64),(208946,.int .i64)]) (bE []) tg a b c xs Q=(exI .i64 (a.length:Int) (fun n_0=>bif n_0==32 then exI .i64 (b.length:Int) (fun n_1=>bif n_1==12 then exI .i64 (c.length:Int) (fun n_2=>bif n_2==32 then exI .i64 (xs.length:Int) (fun n_3=>bif decide (n_3≤16) then exI .i64 (xs.length:Int) (fun n_4=>(∃x_5:Nat,Lf (x_5≤xs.length)∧aQr a b c∧aOp tg xs∧AV.int .i64 0=aUa x_5∧AV.bool true=AV.bool (gG a b c xs.length&&iX xs x_5)∧aOp tg xs∧aIs n_4)∧bH3 xs n_4 a b c tg Q) else nS tg a b c xs Q) else nS tg a b c xs Q) else nS tg a b c xs Q) else nS tg a b c xs Q)):=by kernel_rfl

noncomputable def lN (hv:Nat→Option Pa) (hb:Nat→Option Bool) (tg:Nat) (a b c:List UInt8) (xs:List Int) (Q:Out→List Blk→Gh→Prop):Prop:=
 aY (e04 sm0 (fun i=>bif Nat.beq i 56000 then some (aF9 xs) else none) hv hb) (wpx (e04 sm0 (fun i=>bif Nat.beq i 56000 then some (aF9 xs) else none) hv hb) 1000) 56 [.agg [.str a,.str b,.str c],.lst tg (aB xs) xs.length 1] [] {} Q
theorem aXw (tg:Nat) (a:List UInt8) (b:List UInt8) (c:List UInt8) (xs:List Int) (Q:Out→List Blk→Gh→Prop):lN (bD [(229385,.int .i64),(229390,.int .i64),(229396,.int .i64),(229401,.int .i64),(229404,.int
 .i64),(229406,.int .i64),(229411,.int .i64),(229413,.int .i64),(229414,.int .i64),(229418,.int .i64),(229420,.int .i64),(229424,.int .i64),(229426,.int .i64),(229408,.int .i64),(229409,.int .i64)]) (bE []) tg a b c
 xs Q=(exI .i64 (a.length:Int) (fun n_0=>bif n_0 !=32 then Q aQo [] {} else exI .i64 (b.length:Int) (fun n_1=>bif n_1 !=12 then Q aQo [] {} else exI .i64 (c.length:Int) (fun n_2=>bif n_2 !=32 then Q aQo [] {} else exI
 .i64 (xs.length:Int) (fun n_3=>bif decide (n_3>16) then Q aQo [] {} else (∃x_4:Nat,Lf (x_4≤xs.length∧iX xs x_4=true)∧aQr a b c∧aOp tg xs∧AV.int .i64 0=AV.int .i64 (aA9 xs x_4)∧AV.int .i64 0=aUa x_4 ∧
 True)∧∀x_4:Nat,Lf (x_4≤xs.length∧iX xs x_4=true)→exI .i64 (x_4:Int) (fun n_5=>exI .i64 (xs.length:Int) (fun n_6=>bif decide (n_5<n_6) then exI .i64 (x_4:Int) (fun n_7=>ckQ (aW0 n_7 xs) (ckQ (bA9 n_7 xs) (exV
 .i64 (aYj xs n_7) (fun n_8=>exI .i64 (aA9 xs x_4) (fun n_9=>bif decide (n_8≤n_9) then Q aQo [] {} else exI .i64 (x_4:Int) (fun n_10=>ckQ (aW0 n_10 xs) (ckQ (bA9 n_10 xs) (exV .i64 (aYj xs n_10) (fun n_11=>bif decide
 (n_11>255) then Q aQo [] {} else exI .i64 (x_4:Int) (fun n_12=>ckQ (aW0 n_12 xs) (ckQ (bA9 n_12 xs) (exV .i64 (aYj xs n_12) (fun n_13=>exI .i64 (x_4:Int) (fun n_14=>exW .i64 (n_14+1) (fun n_15=>aJ1∧∃y_16:Nat,Lf
 (y_16≤xs.length∧iX xs y_16=true)∧xs.length-y_16<xs.length-x_4∧aQr a b c∧aOp tg xs∧AV.int .i64 n_13=AV.int .i64 (aA9 xs y_16)∧AV.int .i64 n_15=aUa y_16∧True))))))))))))))) else Q (.ret (.bool true)) []
 {}))))))):=by kernel_rfl

theorem aEc {xs:List Int}:∀ {n i:Nat},i≤n→iX xs n=true→iX xs i=true
 | 0,i,h,hn=>by
  obtain rfl:i=0:=by omega
  rfl
 | n+1,i,h,hn=>by
  by_cases e:i=n+1
  ·rw[e];exact hn
  ·rw[iX,bN9] at hn
   exact aEc (by omega) hn.1
theorem wT {xs:List Int} {i m:Nat} (hi:i<xs.length) (hm:m=i) {K:Int→Prop} (hk:K (xs.getD i 0)):∃n:Int,List.getD (aB xs) m AV.undef=AV.int .i64 n∧K n:=bEb hi hm hk
theorem aJn (tg:Nat) (a b c:List UInt8) (xs:List Int) (hx:xs.length≤9223372036854775807) (Q:Out→List Blk→Gh→Prop) (hq:Q (.ret (.bool (bO a b c xs))) [] {}):∃hv hb,lN hv hb tg a b c xs Q:=by
 obtain ⟨hv,hb',e⟩:∃hv hb,lN hv hb tg a b c xs Q=_:=⟨_,_,aXw tg a b c xs Q⟩
 refine ⟨hv,hb',e.mpr ?_⟩
 delta aQo aQr aOp aUa aW0 bA9 aYj aJ1
 clear e
 have yes:bO a b c xs=true→Q (.ret (.bool true)) [] {}:=fun h=>by rwa [h] at hq
 have no:bO a b c xs=false→Q (.ret (.bool false)) [] {}:=fun h=>by rwa [h] at hq
 have nl:gG a b c xs.length=false→Q (.ret (.bool false)) [] {}:=fun h=>no (by rw[bO,h];rfl)
 have hl:¬ (a.length=32∧b.length=12∧c.length=32∧xs.length≤16)→gG a b c xs.length=false:=fun h=>bQk.2 (by
  unfold gG
  rw[ne_eq,bN9,bN9,bN9,aN,aN,aN,bOi]
  omega)
 have hcl:=aA xs
 refine ⟨_,rfl,bA (fun h=>nl (hl (by omega))) (fun h1=>⟨_,rfl,bA (fun h=>nl (hl (by omega))) (fun h2=>⟨_,rfl,bA (fun h=>nl (hl (by omega))) (fun h3=>⟨_,rfl,aD (fun h=>nl (hl (by omega))) (fun h4 => ?_)⟩)⟩)⟩)⟩
 have hyes:gG a b c xs.length=true:=by
  unfold gG
  rw[bN9,bN9,bN9,aN,aN,aN,bOi]
  omega
 refine ⟨⟨0,⟨by omega,rfl⟩,rfl,rfl,rfl,rfl,trivial⟩, ?_⟩
 rintro i ⟨g1,g2⟩
 refine ⟨_,rfl,_,rfl,aD (fun g3 => ?_) (fun g3 => ?_)⟩
 ·have hi:i<xs.length:=by omega
  have bad:∀ (h:¬ (aA9 xs i<xs.getD i 0∧xs.getD i 0≤255)),Q (.ret (.bool false)) [] {}:=fun h=>no (by
   rw[bO,hyes,bOg]
   refine bQk.2 fun hf=>h ?_
   have hf1:=aEc (i:=i+1) (by omega) hf
   rw[iX,bN9,bN9,bN9,bOf,aN,bOc,bOc,bOc] at hf1
   unfold aA9
   split<;>omega)
  refine ⟨_,rfl,ckI (by simp;omega) (ckI (by rw[hcl];simp;omega) (wT (i:=i) hi (by simp) ⟨_,rfl,aD (fun h=>bad (by omega)) (fun h5=>⟨_,rfl,ckI (by simp;omega) (ckI (by rw[hcl];simp;omega) (wT (i:=i) hi (by simp) (aD (fun h=>bad (by omega)) (fun h6 => ?_))))⟩)⟩))⟩
  refine ⟨_,rfl,ckI (by simp;omega) (ckI (by rw[hcl];simp;omega) (wT (i:=i) hi (by simp) ⟨_,rfl,aI (by omega) (by omega) ⟨⟨trivial,rfl⟩,i+1,⟨by omega, ?_⟩,by omega,rfl,rfl,rfl,rfl,trivial⟩⟩))⟩
  rw[iX,g2,bOg,bN9,bN9,bOf,aN,bOc,bOc,bOc]
  have h5':aA9 xs i<xs.getD i 0:=by omega
  unfold aA9 at h5'
  split at h5'
  ·exact ⟨⟨by omega,by omega⟩,.inl (by assumption)⟩
  ·rename_i hne
   have g4:=aEc (n:=i) (i:=(i-1)+1) (by omega) g2
   rw[iX,bN9,bN9,bN9,bOc,bOc] at g4
   exact ⟨⟨by omega,by omega⟩,.inr h5'⟩
 ·have:i=xs.length:=by omega
  subst this
  exact yes (by rw[bO,hyes,g2];rfl)
theorem jD (xs:List Int):aL 2 (aB xs)=true∧bG (aB xs)=true:=by
 unfold aB
 induction xs with
 | nil=>exact ⟨rfl,rfl⟩
 | cons x xs ih=>simp[aL,bG,old,noY,ih.1,ih.2]
theorem aN9 (tg:Nat) (a b c:List UInt8) (xs:List Int) (hx:xs.length≤9223372036854775807) (Q:Out→List Blk→Gh→Prop) (hq:Q (.ret (.bool (bO a b c xs))) [] {}):∃hv hb,aEf hv hb tg a b c xs Q:=by
 obtain ⟨hv,hb',e⟩:∃hv hb,aEf hv hb tg a b c xs Q=_:=⟨_,_,bMt tg a b c xs Q⟩
 refine ⟨hv,hb',e.mpr ?_⟩
 delta aQr aOp aUa aIs aJ1 bIi aW0 bA9 aYj bFy aQo bH3
 clear e
 have yes:bO a b c xs=true→Q (.ret (.bool true)) [] {}:=fun h=>by rwa [h] at hq
 have no:bO a b c xs=false→Q (.ret (.bool false)) [] {}:=fun h=>by rwa [h] at hq
 have hcl:=aA xs
 have one:∀ (h:¬ (a.length=32∧b.length=12∧c.length=32∧xs.length≤16)),nS tg a b c xs Q:=fun h=>by
  have hl:gG a b c xs.length=false:=bQk.2 (by
   unfold gG
   rw[ne_eq,bN9,bN9,bN9,aN,aN,aN,bOi]
   omega)
  unfold nS
  delta bH3 aQo bFy aIs aUa aQr aJ1 bIi aOp aYj bA9 aW0
  refine ⟨_,rfl,⟨0,⟨by omega⟩,rfl,rfl,rfl,by rw[hl];rfl,rfl,rfl,trivial⟩, ?_⟩
  rintro i ⟨g1⟩
  refine aD (fun g3 => ?_) (fun g3 => ?_)
  ·have hi:i<xs.length:=by omega
   refine ⟨_,rfl,ckI (by simp;omega) (ckI (by rw[hcl];simp;omega) (wT (i:=i) hi (by simp) ?_))⟩
   cases hf:gG a b c xs.length&&iX xs i
   ·rw[bPi]
    exact aI (by omega) (by omega) ⟨⟨trivial,rfl⟩,i+1,⟨by omega⟩,by omega,rfl,rfl,rfl,by rw[iX,←bQc,hf];rfl,rfl,rfl,trivial⟩
   ·rw[bO3]
    cases hr:decide (1≤xs.getD i 0)&&decide (xs.getD i 0≤255)
    ·rw[bPi]
     exact aI (by omega) (by omega) ⟨⟨trivial,rfl⟩,i+1,⟨by omega⟩,by omega,rfl,rfl,rfl,by rw[iX,←bQc,hf,hr];rfl,rfl,rfl,trivial⟩
    ·rw[bO3]
     refine aS (fun h => ?_) (fun h => ?_)
     ·have h0:i=0:=by omega
      exact aI (by omega) (by omega) ⟨⟨trivial,rfl⟩,i+1,⟨by omega⟩,by omega,rfl,rfl,rfl,by rw[iX,←bQc,hf,hr,h0];rfl,rfl,rfl,trivial⟩
     ·have hb0:Nat.beq i 0=false:=bQk.2 (by rw[ne_eq,aN];omega)
      refine aI (by omega) (by omega) (ckI (by simp;omega) (ckI (by rw[hcl];simp;omega) (wT (i:=i-1) (by omega) (by simp) (aD (fun h2 => ?_) (fun h2 => ?_)))))
      ·exact aI (by omega) (by omega) ⟨⟨trivial,rfl⟩,i+1,⟨by omega⟩,by omega,rfl,rfl,rfl,by rw[iX,←bQc,hf,hr,hb0,bO4 (by omega:xs.getD (i-1) 0<xs.getD i 0)];rfl,rfl,rfl,trivial⟩
      ·exact aI (by omega) (by omega) ⟨⟨trivial,rfl⟩,i+1,⟨by omega⟩,by omega,rfl,rfl,rfl,by rw[iX,←bQc,hf,hr,hb0,bO0 (by omega:¬ xs.getD (i-1) 0<xs.getD i 0)];rfl,rfl,rfl,trivial⟩
  ·obtain rfl:i=xs.length:=by omega
   cases hf:gG a b c xs.length&&iX xs xs.length
   ·exact no hf
   ·exact yes hf
 refine ⟨_,rfl,aS (fun h1=>⟨_,rfl,aS (fun h2=>⟨_,rfl,aS (fun h3=>⟨_,rfl,aD (fun h4 => ?_) (fun h=>one (by omega))⟩) (fun h=>one (by omega))⟩) (fun h=>one (by omega))⟩) (fun h=>one (by omega))⟩
 have hl:gG a b c xs.length=true:=by
  unfold gG
  rw[bN9,bN9,bN9,aN,aN,aN,bOi]
  omega
 refine ⟨_,rfl,⟨0,⟨by omega⟩,rfl,rfl,rfl,by rw[hl];rfl,rfl,rfl,trivial⟩, ?_⟩
 rintro i ⟨g1⟩
 refine aD (fun g3 => ?_) (fun g3 => ?_)
 ·have hi:i<xs.length:=by omega
  refine ⟨_,rfl,ckI (by simp;omega) (ckI (by rw[hcl];simp;omega) (wT (i:=i) hi (by simp) ?_))⟩
  cases hf:gG a b c xs.length&&iX xs i
  ·rw[bPi]
   exact aI (by omega) (by omega) ⟨⟨trivial,rfl⟩,i+1,⟨by omega⟩,by omega,rfl,rfl,rfl,by rw[iX,←bQc,hf];rfl,rfl,rfl,trivial⟩
  ·rw[bO3]
   cases hr:decide (1≤xs.getD i 0)&&decide (xs.getD i 0≤255)
   ·rw[bPi]
    exact aI (by omega) (by omega) ⟨⟨trivial,rfl⟩,i+1,⟨by omega⟩,by omega,rfl,rfl,rfl,by rw[iX,←bQc,hf,hr];rfl,rfl,rfl,trivial⟩
   ·rw[bO3]
    refine aS (fun h => ?_) (fun h => ?_)
    ·have h0:i=0:=by omega
     exact aI (by omega) (by omega) ⟨⟨trivial,rfl⟩,i+1,⟨by omega⟩,by omega,rfl,rfl,rfl,by rw[iX,←bQc,hf,hr,h0];rfl,rfl,rfl,trivial⟩
    ·have hb0:Nat.beq i 0=false:=bQk.2 (by rw[ne_eq,aN];omega)
     refine aI (by omega) (by omega) (ckI (by simp;omega) (ckI (by rw[hcl];simp;omega) (wT (i:=i-1) (by omega) (by simp) (aD (fun h2 => ?_) (fun h2 => ?_)))))
     ·exact aI (by omega) (by omega) ⟨⟨trivial,rfl⟩,i+1,⟨by omega⟩,by omega,rfl,rfl,rfl,by rw[iX,←bQc,hf,hr,hb0,bO4 (by omega:xs.getD (i-1) 0<xs.getD i 0)];rfl,rfl,rfl,trivial⟩
     ·exact aI (by omega) (by omega) ⟨⟨trivial,rfl⟩,i+1,⟨by omega⟩,by omega,rfl,rfl,rfl,by rw[iX,←bQc,hf,hr,hb0,bO0 (by omega:¬ xs.getD (i-1) 0<xs.getD i 0)];rfl,rfl,rfl,trivial⟩
 ·obtain rfl:i=xs.length:=by omega
  cases hf:gG a b c xs.length&&iX xs xs.length
  ·exact no hf
  ·exact yes hf
def oV:Con
 | [.agg [.str a,.str b,.str c],.lst _ l n 1],H,K=>∃xs:List Int,Lf (l=aB xs∧n=xs.length∧xs.length≤9223372036854775807)∧∀r:Bool,Lf (r=bO a b c xs)→K (.ret (.bool r)) H
 | _,_,_=>False
theorem aG8:aF Tryz.prog gl0 51 oV:=by
 refine aP (enters_of (by kernel_rfl)) aM fun args H Q hc => ?_
 unfold oV at hc
 split at hc
 ·rename_i a b c tg l n
  obtain ⟨xs,⟨rfl,rfl,h1⟩,hq⟩:=hc
  obtain ⟨hv,hb',h⟩:=aN9 tg a b c xs h1 (Q:=fun o H' _=>H'=[]∧(∃v,o=.ret v∧old 0 v=true∧noY v=true)∧Q o H) ⟨rfl,⟨_,rfl,rfl,rfl⟩,hq _ ⟨rfl⟩⟩
  exact ⟨by simp[aL,old,(jD _).1],by simp[bG,noY,(jD _).2],_,1000,aT vV _ _ _,rfl,h⟩
 ·exact hc.elim
theorem aM4:aF Tryz.prog gl0 56 oV:=by
 refine aP (enters_of (by kernel_rfl)) aM fun args H Q hc => ?_
 unfold oV at hc
 split at hc
 ·rename_i a b c tg l n
  obtain ⟨xs,⟨rfl,rfl,h1⟩,hq⟩:=hc
  obtain ⟨hv,hb',h⟩:=aJn tg a b c xs h1 (Q:=fun o H' _=>H'=[]∧(∃v,o=.ret v∧old 0 v=true∧noY v=true)∧Q o H) ⟨rfl,⟨_,rfl,rfl,rfl⟩,hq _ ⟨rfl⟩⟩
  exact ⟨by simp[aL,old,(jD _).1],by simp[bG,noY,(jD _).2],_,1000,aT bT _ _ _,rfl,h⟩
 ·exact hc.elim
abbrev Tr:=Int×Int×Nat
def trM:List Tr→List AV
 | []=>[]
 | t::l=>.int .i64 t.1::.int .i64 t.2.1::.int .u64 (t.2.2:Nat)::trM l
def qG (c:Int) (l:List Tr) (i:Nat):Bool:=(l.take i).any fun t=>decide (t.1=c)
def aWz (c:Int) (l:List Tr) (s:S):List (List LInv):=[[
 { α:=Nat,pre:=fun i=>Lf (i≤l.length∧qG c l i=false),st:=fun i=>⟨mkT [(0,s.tm.get 0),(1,s.tm.get 1),(7,s.tm.get 7),(8,.int .i64 (i:Nat))],s.hp⟩,mu:=fun i=>l.length-i }]]
noncomputable def aVc (hv:Nat→Option Pa) (hb:Nat→Option Bool) (c:Int) (l:List Tr):Env:=e04 smI (fun i=>bif Nat.beq i 111000 then some (aWz c l) else none) hv hb
noncomputable def aFb (hv:Nat→Option Pa) (hb:Nat→Option Bool) (tg:Nat) (c t:Int) (s:Nat) (l:List Tr) (Q:Out→List Blk→Gh→Prop):Prop:=
 aY (aVc hv hb c l) (wpx (aVc hv hb c l) 1000) 55 [.lst tg (trM l) l.length 3,.fn (.func 54) [] [.ptr 0 3 0]] [⟨.exact,true,[.int .i64 c,.int .i64 t,.int .u64 (s:Nat)]⟩] {} Q
abbrev bIf (c t:Int) (s:Nat):Blk:=Blk.mk BK.exact true [.int .i64 c,.int .i64 t,.int .u64 (s:Int)]
theorem bLy (tg:Nat) (c:Int) (t:Int) (s:Nat) (l:List Tr) (Q:Out→List Blk→Gh→Prop):aFb (bD [(454663,.int .i64),(454666,.int .i64),(454671,.agg [.int .i64,.int .i64,.int .u64]),(454674,.int .i64)]) (bE
 []) tg c t s l Q=(exI .i64 (l.length:Int) (fun n_0=>(∃x_1:Nat,Lf (x_1≤l.length∧qG c l x_1=false)∧aJ [AV.int .i64 c,.int .i64 t,.int .u64 (s:Int)]∧aJ (AV.lst tg (trM l) l.length 3)∧aJ (AV.fn (Fn.func 54) []
 [.ptr 0 3 0])∧aJ (AV.int .i64 n_0)∧AV.int .i64 0=AV.int .i64 (x_1:Int)∧True)∧∀x_1:Nat,Lf (x_1≤l.length∧qG c l x_1=false)→bif decide ((x_1:Int)<n_0) then exI .i64 (x_1:Int) (fun n_2=>ckQ (decide (0≤n_2)
 && Nat.blt n_2.toNat l.length&&true) (ckQ (Nat.ble (n_2.toNat*3+3) (trM l).length) (∃n_3 n_4 n_5,AV.agg (((trM l).drop (n_2.toNat*3)).take 3)=AV.agg [.int .i64 n_3,.int .i64 n_4,.int .u64 n_5]∧bif n_3==c then bif decide
 (n_2≥0) then Q (.ret (.bool true)) [bIf c t s] {} else Q (.ret (.bool false)) [bIf c t s] {} else exW .i64 ((x_1:Int)+1) (fun n_6=>(True∧(0:Nat)=(0:Nat))∧∃y_7:Nat,Lf (y_7≤l.length∧qG c l y_7=false) ∧
 l.length-y_7<l.length-x_1∧aJ [AV.int .i64 c,.int .i64 t,.int .u64 (s:Int)]∧aJ (AV.lst tg (trM l) l.length 3)∧aJ (AV.fn (Fn.func 54) [] [.ptr 0 3 0])∧aJ (AV.int .i64 n_0)∧AV.int .i64 n_6=AV.int .i64 (y_7:Int)
 ∧ True)))) else Q (.ret (.bool false)) [bIf c t s] {})):=by kernel_rfl

theorem aF6:∀l,(trM l).length=l.length*3
 | []=>rfl
 | t::l=>by simp[trM,aF6 l];omega
theorem wF:∀ (l:List Tr) (i:Nat) (h:i<l.length),List.take 3 (List.drop (i*3) (trM l))=[.int .i64 l[i].1,.int .i64 l[i].2.1,.int .u64 (l[i].2.2:Nat)]
 | [],i,h=>by simp at h
 | t::l,0,_=>by simp[trM]
 | t::l,i+1,h=>by
  rw[show (i+1)*3=i*3+3 by omega]
  exact wF l i (by simpa using h)
theorem aGz {c:Int} {l:List Tr} {i:Nat} (h:i<l.length):qG c l (i+1)=(qG c l i||decide (l[i].1=c)):=by
 unfold qG
 rw[bP9,bOq h,bT2]
 simp
theorem bE7 {c:Int} {l:List Tr} {i n:Nat} (h:i≤n) (hi:qG c l i=true):qG c l n=true:=by
 unfold qG at hi ⊢
 rw[bSf] at hi ⊢
 obtain ⟨t,h1,h2⟩:=hi
 refine ⟨t, ?_,h2⟩
 rw[show i=min i n by omega,←bSa] at h1
 exact bRj h1
theorem aNn (tg:Nat) (c t:Int) (s:Nat) (l:List Tr) (hl:l.length≤1000) (Q:Out→List Blk→Gh→Prop) (hq:Q (.ret (.bool (qG c l l.length))) [⟨.exact,true,[.int .i64 c,.int .i64 t,.int .u64 (s:Nat)]⟩] {}):∃hv hb,aFb hv hb tg c t s l Q:=by
 obtain ⟨hv,hb',e⟩:∃hv hb,aFb hv hb tg c t s l Q=_:=⟨_,_,bLy tg c t s l Q⟩
 refine ⟨hv,hb',e.mpr ?_⟩
 delta bIf
 clear e
 refine ⟨_,rfl,⟨0,⟨by omega,rfl⟩,rfl,rfl,rfl,rfl,rfl,trivial⟩, ?_⟩
 rintro i ⟨g1,g2⟩
 have hln:=aF6 l
 refine aD (fun g3 => ?_) (fun g3 => ?_)
 ·have hi:i<l.length:=by omega
  refine ⟨_,rfl,ckI (by simp;omega) (ckI (by rw[hln];simp;omega) ?_)⟩
  rw[show Int.toNat ((i:Nat):Int)=i from rfl,wF l i hi]
  refine ⟨_,_,_,rfl,aS (fun h=>aD (fun _ => ?_) (fun h2=>by omega)) (fun h => ?_)⟩
  ·have:qG c l l.length=true:=bE7 (i:=i+1) (by omega) (by rw[aGz hi,bO4 h,Bool.or_true])
   rwa [this] at hq
  ·exact aI (by omega) (by omega) ⟨⟨trivial,rfl⟩,i+1,⟨by omega,by rw[aGz hi,g2,bO0 h];rfl⟩,by omega,rfl,rfl,rfl,rfl,rfl,trivial⟩
 ·obtain rfl:i=l.length:=by omega
  rwa [g2] at hq
def bLs:Con
 | [.lst _ l n 3,.fn (.func 54) [] [.ptr i 3 0]],H,K=>match H.getD i ⟨.ro,false,[]⟩ with
  | ⟨.exact,true,[.int .i64 c,.int .i64 t,.int .u64 u]⟩=>∃ (ts:List Tr) (s:Nat),Lf (Nat.blt i H.length=true∧u=(s:Int)∧l=trM ts∧n=ts.length∧ts.length≤1000)∧∀b:Bool,Lf (b=qG c ts ts.length)→K (.ret (.bool b)) H
  | _=>False
 | _,_,_=>False
theorem jK (l:List Tr):aL 0 (trM l)=true∧bG (trM l)=true:=by
 induction l with
 | nil=>exact ⟨rfl,rfl⟩
 | cons x l ih=>simp[trM,aL,bG,old,noY,ih.1,ih.2]
theorem aRb:aF Tryz.prog gl0 55 bLs:=by
 refine jE (enters_of (by kernel_rfl)) aM fun args H Q hc => ?_
 unfold bLs at hc
 split at hc
 ·rename_i tg l n i
  split at hc
  ·rename_i c t u hb
   obtain ⟨ts,s,⟨h0,rfl,rfl,rfl,h1⟩,hq⟩:=hc
   rw[aC] at h0
   have hi:H[i]? = some ⟨.exact,true,[.int .i64 c,.int .i64 t,.int .u64 (s:Nat)]⟩:=by
    rw[bOs,bOq h0] at hb
    rw[bOq h0]
    exact congrArg some hb
   obtain ⟨hv,hb',h⟩:=aNn tg c t s ts h1 (Q:=fun o H' _=>o=.ret (.bool (qG c ts ts.length))∧H'=[⟨.exact,true,[.int .i64 c,.int .i64 t,.int .u64 (s:Nat)]⟩]) ⟨rfl,rfl⟩
   refine ⟨_,1000,fun _=>i,[.lst tg (trM ts) ts.length 3,.fn (.func 54) [] [.ptr 0 3 0]],[⟨.exact,true,[.int .i64 c,.int .i64 t,.int .u64 (s:Nat)]⟩],_,aT vV _ _ _,rfl,rfl,rfl, ?_,⟨fun j b0 hj => ?_,fun j j' b0 hj _ hj' _ => ?_,fun j b0 hj => ?_⟩,h, ?_⟩
   ·simp[bG,noY,(jK ts).2]
   ·match j,hj with
    | 0,hj=>
     cases hj
     exact ⟨h0,rfl,rfl,fun _=>rfl,_,hi,rfl,.inr rfl⟩
   ·have:j<1:=(bPa.1 hj).1
    simp at hj'
    omega
   ·match j,hj with
    | 0,hj=>cases hj;exact fun h=>by cases h
   ·rintro o H0' g' ⟨rfl,rfl⟩
    refine ⟨H,⟨bOt _,fun j b0 hj hk => ?_,fun j b0 hj hk=>⟨b0,hj,rfl⟩,fun j b0 hj hb0 => ?_,by simp,fun _ _ _=>rfl,fun j b0 hj hk => ?_⟩,hq _ ⟨rfl⟩⟩
    ·match j,hj with
     | 0,hj=>cases hj;cases hk
    ·have:j<1:=(bPa.1 hb0).1
     simp at hj
     omega
    ·match j,hj with
     | 0,hj=>
      cases hj
      exact hi
  ·exact hc.elim
 ·exact hc.elim
end Go.Proofs.YtnhechnaemmdiaaGreatDoor
