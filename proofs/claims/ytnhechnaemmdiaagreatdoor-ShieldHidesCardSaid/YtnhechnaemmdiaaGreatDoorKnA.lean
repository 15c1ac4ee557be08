/-
  The functions that the laws reach, compiled and written out (by program).
-/
import Derived.Test.YtnhechnaemmdiaaGreatDoorEnH
import Derived.Test.YtnhechnaemmdiaaGreatDoorProg
import Derived.KernelRfl
import Derived.Shelf.Strings.Builder1
import Derived.Shelf.Strings.Builder2
import Derived.Shelf.Strings.OnBuilder
import Derived.Shelf.Strings.BuilderF
import Derived.Shelf.Strings.BuilderK
import Derived.Shelf.Strings.Builder2Cap
import Derived.Shelf.Strings.Prefix
import Derived.Shelf.Bits.Mul64
import Derived.Shelf.Strings.Repeat
import Derived.MakeChecks
set_option linter.unusedSimpArgs false
set_option linter.unusedVariables false
namespace Go.Proofs.YtnhechnaemmdiaaGreatDoor
open Go.RowKit
set_option maxRecDepth 1000000
theorem cZ:∀f g,bAb Tryz.prog f=some g→bAb Tryz.prog f=some g:=fun _ _ h=>h
end Go.Proofs.YtnhechnaemmdiaaGreatDoor

namespace Go.Proofs
open Go.Shelf
def Tryz.lays105_ren:Go.Shelf.Ren:=⟨fun | 105=>48 | 212=>105 | 99=>106 | 165=>107 | 166=>108 | 170=>109 | 169=>110 | 263=>154 | 264=>155 | 206=>156 | 240=>157 | 241=>158 | 276=>205 | 277=>206 | n=>n,fun | 9=>9 | 3=>3 | 4=>4 | 20=>20 | 0=>0 | 46=>34 | 109=>185 | 5=>5 | 72=>190 | 76=>193 | 51=>24 | 146=>241 | 53=>171 | 148=>243 | 70=>188 | 37=>80 | 75=>192 | 127=>245 | 164=>284 | 80=>196 | n=>n,fun | n=>n⟩
theorem Tryz.lays105:Go.Proofs.Lays.n105 Tryz.prog Tryz.lays105_ren := {
 mixed:=by kernel_rfl
 f99:=Tryz.func106.trans (congrArg some (by kernel_rfl))
 f105:=Tryz.func48.trans (congrArg some (by kernel_rfl))
 f165:=Tryz.func107.trans (congrArg some (by kernel_rfl))
 f166:=Tryz.func108.trans (congrArg some (by kernel_rfl))
 f169:=Tryz.func110.trans (congrArg some (by kernel_rfl))
 f170:=Tryz.func109.trans (congrArg some (by kernel_rfl))
 f206:=Tryz.func156.trans (congrArg some (by kernel_rfl))
 f212:=Tryz.func105.trans (congrArg some (by kernel_rfl))
 f240:=Tryz.func157.trans (congrArg some (by kernel_rfl))
 f241:=Tryz.func158.trans (congrArg some (by kernel_rfl))
 f263:=Tryz.func154.trans (congrArg some (by kernel_rfl))
 f264:=Tryz.func155.trans (congrArg some (by kernel_rfl))
 f276:=Tryz.func205.trans (congrArg some (by kernel_rfl))
 f277:=Tryz.func206.trans (congrArg some (by kernel_rfl))
 t0:=Tryz.underlying0
 a0:=Tryz.isAgg0
 z0:=Tryz.sizeOf0
 v0:=Tryz.zeroValue0
 t3:=Tryz.underlying3
 a3:=Tryz.isAgg3
 z3:=Tryz.sizeOf3
 v3:=Tryz.zeroValue3
 t4:=Tryz.underlying4
 a4:=Tryz.isAgg4
 z4:=Tryz.sizeOf4
 v4:=Tryz.zeroValue4
 t5:=Tryz.underlying5
 a5:=Tryz.isAgg5
 z5:=Tryz.sizeOf5
 v5:=Tryz.zeroValue5
 t9:=Tryz.underlying9
 a9:=Tryz.isAgg9
 z9:=Tryz.sizeOf9
 v9:=Tryz.zeroValue9
 t20:=Tryz.underlying20
 a20:=Tryz.isAgg20
 z20:=Tryz.sizeOf20
 v20:=Tryz.zeroValue20
 t37:=Tryz.underlying80
 a37:=Tryz.isAgg80
 z37:=Tryz.sizeOf80
 v37:=Tryz.zeroValue80
 t46:=Tryz.underlying34
 a46:=Tryz.isAgg34
 z46:=Tryz.sizeOf34
 v46:=Tryz.zeroValue34
 t51:=Tryz.underlying24
 a51:=Tryz.isAgg24
 z51:=Tryz.sizeOf24
 v51:=Tryz.zeroValue24
 t53:=Tryz.underlying171
 a53:=Tryz.isAgg171
 z53:=Tryz.sizeOf171
 v53:=Tryz.zeroValue171
 t70:=Tryz.underlying188
 a70:=Tryz.isAgg188
 z70:=Tryz.sizeOf188
 v70:=Tryz.zeroValue188
 t72:=Tryz.underlying190
 a72:=Tryz.isAgg190
 z72:=Tryz.sizeOf190
 v72:=Tryz.zeroValue190
 t75:=Tryz.underlying192
 a75:=Tryz.isAgg192
 z75:=Tryz.sizeOf192
 v75:=Tryz.zeroValue192
 t76:=Tryz.underlying193
 a76:=Tryz.isAgg193
 z76:=Tryz.sizeOf193
 v76:=Tryz.zeroValue193
 t109:=Tryz.underlying185
 a109:=Tryz.isAgg185
 z109:=Tryz.sizeOf185
 v109:=Tryz.zeroValue185
 t127:=Tryz.underlying245
 a127:=Tryz.isAgg245
 z127:=Tryz.sizeOf245
 v127:=Tryz.zeroValue245
 t146:=Tryz.underlying241
 a146:=Tryz.isAgg241
 z146:=Tryz.sizeOf241
 v146:=Tryz.zeroValue241
 t148:=Tryz.underlying243
 a148:=Tryz.isAgg243
 z148:=Tryz.sizeOf243
 v148:=Tryz.zeroValue243
 t164:=Tryz.underlying284
 a164:=Tryz.isAgg284
 z164:=Tryz.sizeOf284
 v164:=Tryz.zeroValue284 }
theorem Tryz.Builder_Extra_105:Builder.Extra Tryz.prog Tryz.lays105_ren := {
 sizeBuilder:=by kernel_rfl
 liesBuilder:=by kernel_rfl
 t5:=Tryz.underlying5
 a5:=Tryz.isAgg5
 z5:=Tryz.sizeOf5
 v5:=Tryz.zeroValue5
 infoByte:=by kernel_rfl
 cellsByte:=by kernel_rfl
 sizeByte:=by kernel_rfl
 neB5:=by decide }
open Go.RowKit Go.Lib in
open Go.RowKit Go.Lib in
open Go.RowKit Go.Lib in
open Go.RowKit Go.Lib in
open Go.RowKit Go.Lib in
open Go.RowKit Go.Lib in
open Go.RowKit Go.Lib in
theorem Tryz.strings_Repeat (s:ByteArray) (c:Nat) (w:World) (hc:c≤9223372036854775807) (hlen:s.size*c≤140737488355328) :
  Calls Tryz.prog 48 #[.string s,.int .i64 c] w fun e w'=>e=.returned (.string ⟨(Lib.repeatL s.data.toList c).toArray⟩)∧Below w.heap.size w w':=Any.strings_Repeat Tryz.lays105 Tryz.Builder_Extra_105 s c w hc hlen
def Tryz.lays156_ren:Go.Shelf.Ren:=⟨fun | 156=>129 | 165=>107 | 166=>108 | 169=>110 | 240=>157 | 241=>158 | 276=>205 | 277=>206 | n=>n,fun | 31=>82 | 9=>9 | 3=>3 | 4=>4 | 0=>0 | 20=>20 | 72=>190 | 76=>193 | 70=>188 | 37=>80 | 75=>192 | 127=>245 | 164=>284 | 5=>5 | 80=>196 | n=>n,fun | n=>n⟩
theorem Tryz.lays156:Go.Proofs.Lays.n156 Tryz.prog Tryz.lays156_ren := {
 mixed:=by kernel_rfl
 f156:=Tryz.func129.trans (congrArg some (by kernel_rfl))
 f165:=Tryz.func107.trans (congrArg some (by kernel_rfl))
 f166:=Tryz.func108.trans (congrArg some (by kernel_rfl))
 f169:=Tryz.func110.trans (congrArg some (by kernel_rfl))
 f240:=Tryz.func157.trans (congrArg some (by kernel_rfl))
 f241:=Tryz.func158.trans (congrArg some (by kernel_rfl))
 f276:=Tryz.func205.trans (congrArg some (by kernel_rfl))
 f277:=Tryz.func206.trans (congrArg some (by kernel_rfl))
 t0:=Tryz.underlying0
 a0:=Tryz.isAgg0
 z0:=Tryz.sizeOf0
 v0:=Tryz.zeroValue0
 t3:=Tryz.underlying3
 a3:=Tryz.isAgg3
 z3:=Tryz.sizeOf3
 v3:=Tryz.zeroValue3
 t4:=Tryz.underlying4
 a4:=Tryz.isAgg4
 z4:=Tryz.sizeOf4
 v4:=Tryz.zeroValue4
 t9:=Tryz.underlying9
 a9:=Tryz.isAgg9
 z9:=Tryz.sizeOf9
 v9:=Tryz.zeroValue9
 t20:=Tryz.underlying20
 a20:=Tryz.isAgg20
 z20:=Tryz.sizeOf20
 v20:=Tryz.zeroValue20
 t31:=Tryz.underlying82
 a31:=Tryz.isAgg82
 z31:=Tryz.sizeOf82
 v31:=Tryz.zeroValue82
 t37:=Tryz.underlying80
 a37:=Tryz.isAgg80
 z37:=Tryz.sizeOf80
 v37:=Tryz.zeroValue80
 t70:=Tryz.underlying188
 a70:=Tryz.isAgg188
 z70:=Tryz.sizeOf188
 v70:=Tryz.zeroValue188
 t72:=Tryz.underlying190
 a72:=Tryz.isAgg190
 z72:=Tryz.sizeOf190
 v72:=Tryz.zeroValue190
 t75:=Tryz.underlying192
 a75:=Tryz.isAgg192
 z75:=Tryz.sizeOf192
 v75:=Tryz.zeroValue192
 t76:=Tryz.underlying193
 a76:=Tryz.isAgg193
 z76:=Tryz.sizeOf193
 v76:=Tryz.zeroValue193
 t127:=Tryz.underlying245
 a127:=Tryz.isAgg245
 z127:=Tryz.sizeOf245
 v127:=Tryz.zeroValue245
 t164:=Tryz.underlying284
 a164:=Tryz.isAgg284
 z164:=Tryz.sizeOf284
 v164:=Tryz.zeroValue284 }
theorem Tryz.Builder_Extra_156:Builder.Extra Tryz.prog Tryz.lays156_ren := {
 sizeBuilder:=by kernel_rfl
 liesBuilder:=by kernel_rfl
 t5:=Tryz.underlying5
 a5:=Tryz.isAgg5
 z5:=Tryz.sizeOf5
 v5:=Tryz.zeroValue5
 infoByte:=by kernel_rfl
 cellsByte:=by kernel_rfl
 sizeByte:=by kernel_rfl
 neB5:=by decide }
open Go.RowKit in
theorem Tryz.strings_Join_none (a:Option Addr) (c:Nat) (sep:ByteArray) (w:World) :
  Calls Tryz.prog 129 #[.slice a 0 c,.string sep] w fun e w'=>e=.returned (.string ⟨#[]⟩)∧w'=w:=Any.strings_Join_none Tryz.lays156 Tryz.Builder_Extra_156 a c sep w
open Go.RowKit in
theorem Tryz.strings_Join (bk o c:Nat) (xs:List ByteArray) (sep:ByteArray) (w:World) (hcells:∀ (j:Nat) x,xs[j]? = some x→w.cell? ⟨bk,o+j,none⟩=some (.string x)) (hbk:bk<w.heap.size) (hN:xs.length≤140737488355328) (hcap:xs.length≤c) (hlen:(Lib.join (xs.map (·.data.toList)) sep.data.toList).length≤140737488355328) :
  Calls Tryz.prog 129 #[.slice (some ⟨bk,o,none⟩) xs.length c,.string sep] w fun e w'=>e=.returned (.string ⟨(Lib.join (xs.map (·.data.toList)) sep.data.toList).toArray⟩)∧Below w.heap.size w w':=Any.strings_Join Tryz.lays156 Tryz.Builder_Extra_156 bk o c xs sep w hcells hbk hN hcap hlen
end Go.Proofs

namespace Go.Proofs.YtnhechnaemmdiaaGreatDoor
open Go.RowKit
set_option maxRecDepth 1000000

abbrev SM:=Nat→Option (List AV→List Blk→(Out→List Blk→Prop)→Prop)
def b5 (a b c d e:Bool):List AV:=[.bool a,.bool b,.bool c,.bool d,.bool e]
def bPf:List AV:=b5 false false false false false++b5 false true true false false++b5 false false true false false++b5 false false false false false++b5 true false false true false++b5 true false false false false++b5 true false false false true
def bMd:List AV:=[.int .i64 0,.int .i64 200,.int .i64 201,.int .i64 203,.int .i64 205,.int .i64 206,.int .i64 205]
def gl0:Nat→Option (List AV)
 | 0=>some bPf
 | 1=>some bMd
 | _=>none
theorem aQ:∀g cs,gl0 g=some cs→bS cs=true:=by
 intro g cs h
 unfold gl0 at h
 split at h
 ·cases h;rfl
 ·cases h;rfl
 ·cases h
noncomputable def e04 (sm:SM) (inv:Nat→Option (S→List (List LInv))) (hv:Nat→Option Pa) (hb:Nat→Option Bool):Env:=
 { fn:=fun f=>bAb Tryz.prog f,sm:=sm,gl:=gl0,inv:=inv,hv:=hv,hb:=hb,hz:=fun _=>false }
theorem mQ:uO Tryz.prog=true:=by kernel_rfl
theorem mH:Tryz.prog.follows .mixedOrders=true:=by kernel_rfl
theorem aY {sm:SM} (h:∀f g,sm f=some g→aG Tryz.prog gl0 f g) (inv:Nat→Option (S→List (List LInv))) (hv:Nat→Option Pa) (hb:Nat→Option Bool):EnvFor Tryz.prog (e04 sm inv hv hb):=
 ⟨mH,mQ,cZ,h⟩
abbrev Con:=List AV→List Blk→(Out→List Blk→Prop)→Prop
def eY:List (Nat×Con)→SM
 | [],_=>none
 | (k,c)::l,f=>bif Nat.beq f k then some c else eY l f
theorem bK:∀ (l:List (Nat×Con)),(∀p,p∈l→aG Tryz.prog gl0 p.1 p.2)→∀f g,eY l f=some g→aG Tryz.prog gl0 f g
 | [],_,f,g,h=>by simp[eY] at h
 | (k,c)::l,hl,f,g,h=>by
  simp only[eY] at h
  cases hk:Nat.beq f k
  ·rw[hk] at h
   exact bK l (fun p hp=>hl p (by simp[hp])) f g h
  ·rw[hk] at h
   simp only[cond_true,Option.some.injEq] at h
   subst h
   obtain rfl:=Nat.eq_of_beq_eq_true hk
   exact hl (f,c) (by simp)
def sm0:SM:=fun _=>none
theorem cB:∀f g,sm0 f=some g→aG Tryz.prog gl0 f g:=fun _ _ h=>by cases h

def bJ3 (s:List UInt8) (n:Nat):List UInt8:=Lib.repeatL s n
def aKe:Con
 | [.str s,.int .i64 c],H,K=>bif decide (0≤c)&&Nat.ble c.toNat 9223372036854775807&&Nat.ble (s.length*c.toNat) 140737488355328 then K (.ret (.str (bJ3 s c.toNat))) H else False
 | _,_,_=>False
theorem aKs:aG Tryz.prog gl0 48 aKe:=by
 refine aFm (enters_of (by kernel_rfl)) fun args H Q hc m w vs hv => ?_
 unfold aKe at hc
 split at hc
 ·rename_i s c
  cases hb:decide (0≤c)&&Nat.ble c.toNat 9223372036854775807&&Nat.ble (s.length*c.toNat) 140737488355328
  ·rw[hb] at hc;exact hc.elim
  ·rw[hb] at hc
   simp only[Bool.and_eq_true,decide_eq_true_eq,Nat.ble_eq] at hb
   obtain ⟨v1,l1,e1,h1,r1⟩:=bD hv
   obtain ⟨v2,l2,e2,h2,r2⟩:=bD r1
   rw[gI] at r2
   subst r2
   simp only[VR] at h1 h2
   subst h1
   subst h2
   have ev:vs = #[.string ⟨s.toArray⟩,.int .i64 c]:=by
    cases vs
    simp only at e1
    rw[e1,e2]
   subst ev
   obtain ⟨n,rfl⟩:∃n:Nat,c=n:=⟨c.toNat,by omega⟩
   have hr:=Tryz.strings_Repeat ⟨s.toArray⟩ n w (by simpa using hb.1.2) (by have:=hb.2;simpa [ByteArray.size] using this)
   exact ⟨_,_,hc,by simp[VR,bJ3],hr⟩
 ·exact hc.elim
set_option linter.unusedSectionVars false
def vM (lo hi t:Int) (s:Nat):Bool:=decide (lo≤t)&&decide (t≤hi)&&(if t<0 then Nat.beq s 0 else Nat.beq (s%2) 1&&(decide (62<t)||Nat.beq (s/2^(t.toNat+1)) 0))
noncomputable def aFh (hv:Nat→Option Pa) (hb:Nat→Option Bool) (lo hi n:Int) (Q:Out→List Blk→Gh→Prop):Prop:=
 bC (e04 sm0 (fun _=>none) hv hb) (wpx (e04 sm0 (fun _=>none) hv hb) 1000) 52 [.int .i64 lo,.int .i64 hi,.int .i64 n] [] {} Q
theorem bNo (lo:Int) (hi:Int) (n:Int) (Q:Out→List Blk→Gh→Prop):aFh (bH []) (bI []) lo hi n Q=(
(bif (decide (n≥lo)) then (bif (decide (n≤hi)) then (Q (Out.ret (AV.bool true)) [] (Gh.mk (0:Nat) (0:Nat) []))
else (Q (Out.ret (AV.bool false)) [] (Gh.mk (0:Nat) (0:Nat) [])))
else (Q (Out.ret (AV.bool false)) [] (Gh.mk (0:Nat) (0:Nat) [])))):=by kernel_rfl

def xZ:Con
 | [.int .i64 lo,.int .i64 hi,.int .i64 n],H,K=>K (.ret (.bool (decide (lo≤n)&&decide (n≤hi)))) H
 | _,_,_=>False
theorem aIg (lo hi n:Int) (Q:Out→List Blk→Gh→Prop) (hq:Q (.ret (.bool (decide (lo≤n)&&decide (n≤hi)))) [] {}):∃hv hb,aFh hv hb lo hi n Q:=by
 obtain ⟨hv,hb',e⟩:∃hv hb,aFh hv hb lo hi n Q=_:=⟨_,_,bNo lo hi n Q⟩
 refine ⟨hv,hb',e.mpr ?_⟩
 clear e
 refine aF (fun h1=>aF (fun h2 => ?_) (fun h2 => ?_)) (fun h1 => ?_)
 ·rwa [decide_eq_true h1,decide_eq_true h2] at hq
 ·rwa [decide_eq_false h2,Bool.and_false] at hq
 ·rwa [decide_eq_false h1,Bool.false_and] at hq
theorem aBc:aG Tryz.prog gl0 52 xZ:=by
 refine aT (enters_of (by kernel_rfl)) aQ fun args H Q hc => ?_
 unfold xZ at hc
 split at hc
 ·rename_i lo hi n
  obtain ⟨hv,hb',h⟩:=aIg lo hi n (Q:=fun o H' _=>H'=[]∧(∃v,o=.ret v∧old 0 v=true∧noY v=true)∧Q o H) ⟨rfl,⟨_,rfl,rfl,rfl⟩,hc⟩
  exact ⟨rfl,rfl,_,1000,aY cB _ _ _,rfl,h⟩
 ·exact hc.elim
def smI:SM:=eY [(52,xZ)]
theorem vO:∀f g,smI f=some g→aG Tryz.prog gl0 f g:=bK _ (by simp only[List.mem_cons,List.not_mem_nil,or_false,forall_eq];exact aBc)
noncomputable def aEs (hv:Nat→Option Pa) (hb:Nat→Option Bool) (c t:Int) (s:Nat) (lo hi:Int) (Q:Out→List Blk→Gh→Prop):Prop:=
 bC (e04 smI (fun _=>none) hv hb) (wpx (e04 smI (fun _=>none) hv hb) 1000) 53 [.agg [.int .i64 c,.int .i64 t,.int .u64 (s:Nat)],.int .i64 lo,.int .i64 hi] [] {} Q
abbrev bFh:Out:=.ret (.bool true)
abbrev bLt (n_0:Int) (Q:Out→List Blk→Gh→Prop):Prop:=bif n_0==0 then Q bFh [] {} else Q (.ret (.bool false)) [] {}
abbrev bLk (s:Nat) (t:Int) (Q:Out→List Blk→Gh→Prop):Prop:=exI .u64 (s:Int) (fun n_2=>exW .i64 (t+1) (fun n_3=>ckQ (decide (0≤n_3)&&true) (exI .u64 (Int.fdiv n_2 ((2:Int)^Min.min n_3.toNat 64)) (fun n_4=>bif n_4==0 then Q bFh [] {} else Q (.ret (.bool false)) [] {}))))
abbrev bDk (Q:Out→List Blk→Gh→Prop):Prop:=Q (.ret (.bool false)) [] {}
theorem bMn (c:Int) (t:Int) (s:Nat) (lo:Int) (hi:Int) (Q:Out→List Blk→Gh→Prop):aEs (bH [(217105,.int .u64),(217108,.int .u64),(217109,.int .u64),(217117,.int .u64),(217120,.int .i64),(217121,.int .u64)]) (bI []) c t s lo hi Q=(bif decide (lo≤t)&&decide (t≤hi) then bif decide (t<0) then exI .u64 (s:Int) (fun n_0=>bLt n_0 Q) else exI .u64 (s:Int) (fun n_0=>exW .u64 (((n_0%18446744073709551616).toNat &&& 1:Nat):Int) (fun n_1=>bif n_1==1 then bif decide (t>62) then Q bFh [] {} else bLk s t Q else bDk Q)) else bDk Q):=by kernel_rfl

noncomputable def uM (hv:Nat→Option Pa) (hb:Nat→Option Bool) (c t:Int) (s:Nat) (lo hi:Int) (Q:Out→List Blk→Gh→Prop):Prop:=
 bC (e04 sm0 (fun _=>none) hv hb) (wpx (e04 sm0 (fun _=>none) hv hb) 1000) 57 [.agg [.int .i64 c,.int .i64 t,.int .u64 (s:Nat)],.int .i64 lo,.int .i64 hi] [] {} Q
theorem bIx (c:Int) (t:Int) (s:Nat) (lo:Int) (hi:Int) (Q:Out→List Blk→Gh→Prop):uM (bH [(233493,.int .u64),(233496,.int .u64),(233497,.int .u64),(233504,.int .u64),(233507,.int .i64),(233508,.int .u64)]) (bI []) c t s lo hi Q=(bif decide (t<lo) then bDk Q else bif decide (t>hi) then bDk Q else bif t == -1 then exI .u64 (s:Int) (fun n_0=>bLt n_0 Q) else exI .u64 (s:Int) (fun n_0=>exI .u64 (n_0.tmod 2) (fun n_1=>bif n_1 !=1 then bDk Q else bif decide (t≥63) then Q bFh [] {} else bLk s t Q))):=by kernel_rfl

theorem bOs (s j:Nat):Int.fdiv (s:Int) ((2:Int)^j)=((s/2^j:Nat):Int):=by
 rw[show ((2:Int)^j)=((2^j:Nat):Int) by simp,Int.ofNat_fdiv]
theorem bNf (s:Nat) (hs:s<18446744073709551616) (t:Int) (h0:0≤t):s/2^(min (t+1).toNat 64)=s/2^(t.toNat+1)∨62<t:=by
 by_cases h:62<t
 ·exact .inr h
 ·left
  congr 2
  omega
theorem and1 (s:Nat) (hs:s<18446744073709551616):((Int.toNat ((s:Int)%18446744073709551616)) &&& 1:Nat)=s%2:=by
 rw[show Int.toNat ((s:Int)%18446744073709551616)=s by omega,Nat.and_one_is_mod]
theorem aI6 (c t:Int) (s:Nat) (lo hi:Int) (ht : -9223372036854775808≤t∧t≤9223372036854775807) (hs:s<18446744073709551616) (Q:Out→List Blk→Gh→Prop) (hq:Q (.ret (.bool (vM lo hi t s))) [] {}):∃hv hb,aEs hv hb c t s lo hi Q:=by
 obtain ⟨hv,hb',e⟩:∃hv hb,aEs hv hb c t s lo hi Q=_:=⟨_,_,bMn c t s lo hi Q⟩
 refine ⟨hv,hb',e.mpr ?_⟩
 delta bFh bLt bLk bDk
 clear e
 have yes:vM lo hi t s=true→Q (.ret (.bool true)) [] {}:=fun h=>by rwa [h] at hq
 have no:vM lo hi t s=false→Q (.ret (.bool false)) [] {}:=fun h=>by rwa [h] at hq
 cases hr:decide (lo≤t)&&decide (t≤hi)
 ·exact no (by rw[vM,hr,Bool.false_and])
 ·rw[cond_true]
  refine aF (fun h1=>⟨_,rfl,aW (fun h2 => ?_) (fun h2 => ?_)⟩) (fun h1=>⟨_,rfl, ?_⟩)
  ·exact yes (by rw[vM,hr,if_pos h1,Bool.true_and,aP];omega)
  ·exact no (by rw[vM,hr,if_pos h1,Bool.true_and];exact Bool.eq_false_iff.2 (by rw[ne_eq,aP];omega))
  ·(try dsimp only);rw[and1 s hs]
   refine ⟨_,rfl, ?_⟩
   rw[show IntKind.wrap .u64 ((s%2:Nat):Int)=((s%2:Nat):Int)%18446744073709551616 from rfl,show ((s%2:Nat):Int)%18446744073709551616=((s%2:Nat):Int) by omega]
   refine aW (fun h2=>aF (fun h3 => ?_) (fun h3=>⟨_,rfl,aI (by omega) (by omega) (ckI (by simp;omega) ⟨_,rfl, ?_⟩)⟩)) (fun h2 => ?_)
   ·exact yes (by rw[vM,hr,if_neg h1,Bool.true_and,decide_eq_true (by omega:62<t),Bool.true_or,Bool.and_true,aP];omega)
   ·rw[bOs]
    have hk:=(bNf s hs t (by omega)).resolve_right (by omega)
    rw[hk]
    refine aW (fun h4 => ?_) (fun h4 => ?_)
    ·exact yes (by rw[vM,hr,if_neg h1,Bool.true_and,decide_eq_false (by omega:¬ 62<t),Bool.false_or,Bool.and_eq_true,aP,aP];omega)
    ·exact no (by
      rw[vM,hr,if_neg h1,Bool.true_and,decide_eq_false (by omega:¬ 62<t),Bool.false_or]
      exact Bool.eq_false_iff.2 (by rw[ne_eq,Bool.and_eq_true,aP,aP];omega))
   ·exact no (by
     rw[vM,hr,if_neg h1,Bool.true_and]
     exact Bool.eq_false_iff.2 (by rw[ne_eq,Bool.and_eq_true,aP];omega))
def yD:Con
 | [.agg [.int .i64 c,.int .i64 t,.int .u64 u],.int .i64 lo,.int .i64 hi],H,K=>∃s:Nat,Lf (u=(s:Int)∧s<18446744073709551616∧(-9223372036854775808≤t∧t≤9223372036854775807) ∧ -1≤lo)∧∀b:Bool,Lf (b=vM lo hi t s)→K (.ret (.bool b)) H
 | _,_,_=>False
theorem aOn:aG Tryz.prog gl0 53 yD:=by
 refine aT (enters_of (by kernel_rfl)) aQ fun args H Q hc => ?_
 unfold yD at hc
 split at hc
 ·rename_i c t u lo hi
  obtain ⟨s,⟨rfl,h1,h2,h3⟩,hq⟩:=hc
  obtain ⟨hv,hb',h⟩:=aI6 c t s lo hi h2 h1 (Q:=fun o H' _=>H'=[]∧(∃v,o=.ret v∧old 0 v=true∧noY v=true)∧Q o H) ⟨rfl,⟨_,rfl,rfl,rfl⟩,hq _ ⟨rfl⟩⟩
  exact ⟨rfl,rfl,_,1000,aY vO _ _ _,rfl,h⟩
 ·exact hc.elim
def jL (xs:List Int):Nat→Bool
 | 0=>true
 | i+1=>jL xs i&&(decide (1≤xs.getD i 0)&&decide (xs.getD i 0≤255)&&(Nat.beq i 0||decide (xs.getD (i-1) 0<xs.getD i 0)))
def aC6 (xs:List Int) (i:Nat):Int:=if i=0 then 0 else xs.getD (i-1) 0
def gN (a b c:List UInt8) (n:Nat):Bool:=Nat.beq a.length 32&&Nat.beq b.length 12&&Nat.beq c.length 32&&Nat.ble n 16
def bR (a b c:List UInt8) (xs:List Int):Bool:=gN a b c xs.length&&jL xs xs.length
def aV7 (a b c:List UInt8) (xs:List Int) (s:S):List (List LInv):=[[
 { α:=Nat,pre:=fun i=>Lf (i≤xs.length),st:=fun i=>⟨mkT [(1,s.tm.get 1),(5,.bool (gN a b c xs.length&&jL xs i)),(29,s.tm.get 29),(30,s.tm.get 30),(31,.int .i64 (i:Nat))],s.hp⟩,mu:=fun i=>xs.length-i }]]
def aF1 (xs:List Int) (s:S):List (List LInv):=[[
 { α:=Nat,pre:=fun i=>Lf (i≤xs.length∧jL xs i=true),st:=fun i=>⟨mkT [(1,s.tm.get 1),(5,.int .i64 (aC6 xs i)),(6,.int .i64 (i:Nat))],s.hp⟩,mu:=fun i=>xs.length-i }]]
noncomputable def aFe (hv:Nat→Option Pa) (hb:Nat→Option Bool) (tg:Nat) (a b c:List UInt8) (xs:List Int) (Q:Out→List Blk→Gh→Prop):Prop:=
 bC (e04 smI (fun i=>bif Nat.beq i 51000 then some (aV7 a b c xs) else none) hv hb) (wpx (e04 smI (fun i=>bif Nat.beq i 51000 then some (aV7 a b c xs) else none) hv hb) 1000) 51 [.agg [.str a,.str b,.str c],.lst tg (aC xs) xs.length 1] [] {} Q
abbrev aTk (a b c:List UInt8):Prop:=aN [AV.str a,.str b,.str c]
abbrev aKn (tg:Nat) (xs:List Int):Prop:=aN (AV.lst tg (aC xs) xs.length 1)
abbrev aR9 (x_1:Nat):AV:=.int .i64 (x_1:Int)
abbrev aJr (n_0:Int):Prop:=aN (AV.int .i64 n_0)∧True
abbrev aHz:Prop:=True∧(0:Nat)=(0:Nat)
abbrev bKm (x_1:Nat) (xs:List Int) (a b c:List UInt8) (tg:Nat) (n_0:Int):Prop:=exW .i64 ((x_1:Int)+1) (fun n_4=>aHz∧∃y_5:Nat,Lf (y_5≤xs.length)∧xs.length-y_5<xs.length-x_1∧aTk a b c∧aKn tg xs∧AV.int .i64 n_4=aR9 y_5∧AV.bool true=AV.bool (gN a b c xs.length&&jL xs y_5)∧aKn tg xs∧aJr n_0)
abbrev aZw (n_7:Int) (xs:List Int):Bool:=decide (0≤n_7)&&Nat.blt n_7.toNat xs.length&&true
abbrev aZ3 (n_7:Int) (xs:List Int):Bool:=Nat.blt (n_7.toNat*1) (aC xs).length
abbrev aYm (xs:List Int) (n_7:Int):AV:=(aC xs).getD (n_7.toNat*1) AV.undef
abbrev bG6 (x_1:Nat) (xs:List Int) (a b c:List UInt8) (tg:Nat) (n_0:Int):Prop:=exW .i64 ((x_1:Int)+1) (fun n_6=>aHz∧∃y_7:Nat,Lf (y_7≤xs.length)∧xs.length-y_7<xs.length-x_1∧aTk a b c∧aN (AV.lst tg (aC xs) xs.length 1)∧AV.int .i64 n_6=aR9 y_7∧AV.bool false=AV.bool (gN a b c xs.length&&jL xs y_7)∧aN (AV.lst tg (aC xs) xs.length 1)∧aJr n_0)
abbrev aPy:Out:=.ret (.bool false)
abbrev bJy (xs:List Int) (n_0:Int) (a b c:List UInt8) (tg:Nat) (Q:Out→List Blk→Gh→Prop):Prop:=∀x_1:Nat,Lf (x_1≤xs.length)→bif decide ((x_1:Int)<n_0) then exI .i64 (x_1:Int) (fun n_2=>ckQ (Nat.blt (x_1:Int).toNat xs.length&&true) (ckQ (Nat.blt ((x_1:Int).toNat*1) (aC xs).length) (exV .i64 ((aC xs).getD ((x_1:Int).toNat*1) AV.undef) (fun n_3=>bif gN a b c xs.length&&jL xs x_1 then bif decide (1≤n_3)&&decide (n_3≤255) then bif n_2==0 then bKm x_1 xs a b c tg n_0 else exW .i64 (n_2-1) (fun n_4=>ckQ (aZw n_4 xs) (ckQ (aZ3 n_4 xs) (exV .i64 (aYm xs n_4) (fun n_5=>bif decide (n_3>n_5) then bKm x_1 xs a b c tg n_0 else bG6 x_1 xs a b c tg n_0)))) else bG6 x_1 xs a b c tg n_0 else bG6 x_1 xs a b c tg n_0)))) else bif gN a b c xs.length&&jL xs x_1 then Q (.ret (.bool true)) [] {} else Q aPy [] {}
def oU (tg:Nat) (a:List UInt8) (b:List UInt8) (c:List UInt8) (xs:List Int) (Q:Out→List Blk→Gh→Prop):Prop:=
exI .i64 (xs.length:Int) (fun n_0=>(∃x_1:Nat,Lf (x_1≤xs.length)∧aTk a b c∧aKn tg xs∧AV.int .i64 0=aR9 x_1∧AV.bool false=AV.bool (gN a b c xs.length&&jL xs x_1)∧aKn tg xs∧aJr n_0)∧bJy xs n_0 a b c tg Q)
theorem bNu (tg:Nat) (a:List UInt8) (b:List UInt8) (c:List UInt8) (xs:List Int) (Q:Out→List Blk→Gh→Prop):aFe (bH [(208906,.int .i64),(208911,.int .i64),(208917,.int .i64),(208922,.int .i64),(208926,.int .i64),(208929,.int .i64),(208931,.int .i64),(208950,.int .i64),(208944,.int .i64),(208946,.int .i64)]) (bI []) tg a b c xs Q=(exI .i64 (a.length:Int) (fun n_0=>bif n_0==32 then exI .i64 (b.length:Int) (fun n_1=>bif n_1==12 then exI .i64 (c.length:Int) (fun n_2=>bif n_2==32 then exI .i64 (xs.length:Int) (fun n_3=>bif decide (n_3≤16) then exI .i64 (xs.length:Int) (fun n_4=>(∃x_5:Nat,Lf (x_5≤xs.length)∧aTk a b c∧aKn tg xs∧AV.int .i64 0=aR9 x_5∧AV.bool true=AV.bool (gN a b c xs.length&&jL xs x_5)∧aKn tg xs∧aJr n_4)∧bJy xs n_4 a b c tg Q) else oU tg a b c xs Q) else oU tg a b c xs Q) else oU tg a b c xs Q) else oU tg a b c xs Q)):=by kernel_rfl

noncomputable def mR (hv:Nat→Option Pa) (hb:Nat→Option Bool) (tg:Nat) (a b c:List UInt8) (xs:List Int) (Q:Out→List Blk→Gh→Prop):Prop:=
 bC (e04 sm0 (fun i=>bif Nat.beq i 56000 then some (aF1 xs) else none) hv hb) (wpx (e04 sm0 (fun i=>bif Nat.beq i 56000 then some (aF1 xs) else none) hv hb) 1000) 56 [.agg [.str a,.str b,.str c],.lst tg (aC xs) xs.length 1] [] {} Q
theorem bC1 (tg:Nat) (a:List UInt8) (b:List UInt8) (c:List UInt8) (xs:List Int) (Q:Out→List Blk→Gh→Prop):mR (bH [(229385,.int .i64),(229390,.int .i64),(229396,.int .i64),(229401,.int .i64),(229404,.int
 .i64),(229406,.int .i64),(229411,.int .i64),(229413,.int .i64),(229414,.int .i64),(229418,.int .i64),(229420,.int .i64),(229424,.int .i64),(229426,.int .i64),(229408,.int .i64),(229409,.int .i64)]) (bI []) tg a b c
 xs Q=(exI .i64 (a.length:Int) (fun n_0=>bif n_0 !=32 then Q aPy [] {} else exI .i64 (b.length:Int) (fun n_1=>bif n_1 !=12 then Q aPy [] {} else exI .i64 (c.length:Int) (fun n_2=>bif n_2 !=32 then Q aPy [] {} else exI
 .i64 (xs.length:Int) (fun n_3=>bif decide (n_3>16) then Q aPy [] {} else (∃x_4:Nat,Lf (x_4≤xs.length∧jL xs x_4=true)∧aTk a b c∧aKn tg xs∧AV.int .i64 0=AV.int .i64 (aC6 xs x_4)∧AV.int .i64 0=aR9 x_4 ∧
 True)∧∀x_4:Nat,Lf (x_4≤xs.length∧jL xs x_4=true)→exI .i64 (x_4:Int) (fun n_5=>exI .i64 (xs.length:Int) (fun n_6=>bif decide (n_5<n_6) then exI .i64 (x_4:Int) (fun n_7=>ckQ (aZw n_7 xs) (ckQ (aZ3 n_7 xs) (exV
 .i64 (aYm xs n_7) (fun n_8=>exI .i64 (aC6 xs x_4) (fun n_9=>bif decide (n_8≤n_9) then Q aPy [] {} else exI .i64 (x_4:Int) (fun n_10=>ckQ (aZw n_10 xs) (ckQ (aZ3 n_10 xs) (exV .i64 (aYm xs n_10) (fun n_11=>bif decide
 (n_11>255) then Q aPy [] {} else exI .i64 (x_4:Int) (fun n_12=>ckQ (aZw n_12 xs) (ckQ (aZ3 n_12 xs) (exV .i64 (aYm xs n_12) (fun n_13=>exI .i64 (x_4:Int) (fun n_14=>exW .i64 (n_14+1) (fun n_15=>aHz∧∃y_16:Nat,Lf
 (y_16≤xs.length∧jL xs y_16=true)∧xs.length-y_16<xs.length-x_4∧aTk a b c∧aKn tg xs∧AV.int .i64 n_13=AV.int .i64 (aC6 xs y_16)∧AV.int .i64 n_15=aR9 y_16∧True))))))))))))))) else Q (.ret (.bool true)) []
 {}))))))):=by kernel_rfl

theorem aEg {xs:List Int}:∀ {n i:Nat},i≤n→jL xs n=true→jL xs i=true
 | 0,i,h,hn=>by
  obtain rfl:i=0:=by omega
  rfl
 | n+1,i,h,hn=>by
  by_cases e:i=n+1
  ·rw[e];exact hn
  ·rw[jL,Bool.and_eq_true] at hn
   exact aEg (by omega) hn.1
theorem xD {xs:List Int} {i m:Nat} (hi:i<xs.length) (hm:m=i) {K:Int→Prop} (hk:K (xs.getD i 0)):∃n:Int,List.getD (aC xs) m AV.undef=AV.int .i64 n∧K n:=bE9 hi hm hk
theorem aJe (tg:Nat) (a b c:List UInt8) (xs:List Int) (hx:xs.length≤9223372036854775807) (Q:Out→List Blk→Gh→Prop) (hq:Q (.ret (.bool (bR a b c xs))) [] {}):∃hv hb,mR hv hb tg a b c xs Q:=by
 obtain ⟨hv,hb',e⟩:∃hv hb,mR hv hb tg a b c xs Q=_:=⟨_,_,bC1 tg a b c xs Q⟩
 refine ⟨hv,hb',e.mpr ?_⟩
 delta aPy aTk aKn aR9 aZw aZ3 aYm aHz
 clear e
 have yes:bR a b c xs=true→Q (.ret (.bool true)) [] {}:=fun h=>by rwa [h] at hq
 have no:bR a b c xs=false→Q (.ret (.bool false)) [] {}:=fun h=>by rwa [h] at hq
 have nl:gN a b c xs.length=false→Q (.ret (.bool false)) [] {}:=fun h=>no (by rw[bR,h];rfl)
 have hl:¬ (a.length=32∧b.length=12∧c.length=32∧xs.length≤16)→gN a b c xs.length=false:=fun h=>Bool.eq_false_iff.2 (by
  unfold gN
  rw[ne_eq,Bool.and_eq_true,Bool.and_eq_true,Bool.and_eq_true,aP,aP,aP,Nat.ble_eq]
  omega)
 have hcl:=aA xs
 refine ⟨_,rfl,aS (fun h=>nl (hl (by omega))) (fun h1=>⟨_,rfl,aS (fun h=>nl (hl (by omega))) (fun h2=>⟨_,rfl,aS (fun h=>nl (hl (by omega))) (fun h3=>⟨_,rfl,aF (fun h=>nl (hl (by omega))) (fun h4 => ?_)⟩)⟩)⟩)⟩
 have hyes:gN a b c xs.length=true:=by
  unfold gN
  rw[Bool.and_eq_true,Bool.and_eq_true,Bool.and_eq_true,aP,aP,aP,Nat.ble_eq]
  omega
 refine ⟨⟨0,⟨by omega,rfl⟩,rfl,rfl,rfl,rfl,trivial⟩, ?_⟩
 rintro i ⟨g1,g2⟩
 refine ⟨_,rfl,_,rfl,aF (fun g3 => ?_) (fun g3 => ?_)⟩
 ·have hi:i<xs.length:=by omega
  have bad:∀ (h:¬ (aC6 xs i<xs.getD i 0∧xs.getD i 0≤255)),Q (.ret (.bool false)) [] {}:=fun h=>no (by
   rw[bR,hyes,Bool.true_and]
   refine Bool.eq_false_iff.2 fun hf=>h ?_
   have hf1:=aEg (i:=i+1) (by omega) hf
   rw[jL,Bool.and_eq_true,Bool.and_eq_true,Bool.and_eq_true,Bool.or_eq_true,aP,decide_eq_true_eq,decide_eq_true_eq,decide_eq_true_eq] at hf1
   unfold aC6
   split<;>omega)
  refine ⟨_,rfl,ckI (by simp;omega) (ckI (by rw[hcl];simp;omega) (xD (i:=i) hi (by simp) ⟨_,rfl,aF (fun h=>bad (by omega)) (fun h5=>⟨_,rfl,ckI (by simp;omega) (ckI (by rw[hcl];simp;omega) (xD (i:=i) hi (by simp) (aF (fun h=>bad (by omega)) (fun h6 => ?_))))⟩)⟩))⟩
  refine ⟨_,rfl,ckI (by simp;omega) (ckI (by rw[hcl];simp;omega) (xD (i:=i) hi (by simp) ⟨_,rfl,aI (by omega) (by omega) ⟨⟨trivial,rfl⟩,i+1,⟨by omega, ?_⟩,by omega,rfl,rfl,rfl,rfl,trivial⟩⟩))⟩
  rw[jL,g2,Bool.true_and,Bool.and_eq_true,Bool.and_eq_true,Bool.or_eq_true,aP,decide_eq_true_eq,decide_eq_true_eq,decide_eq_true_eq]
  have h5':aC6 xs i<xs.getD i 0:=by omega
  unfold aC6 at h5'
  split at h5'
  ·exact ⟨⟨by omega,by omega⟩,.inl (by assumption)⟩
  ·rename_i hne
   have g4:=aEg (n:=i) (i:=(i-1)+1) (by omega) g2
   rw[jL,Bool.and_eq_true,Bool.and_eq_true,Bool.and_eq_true,decide_eq_true_eq,decide_eq_true_eq] at g4
   exact ⟨⟨by omega,by omega⟩,.inr h5'⟩
 ·have:i=xs.length:=by omega
  subst this
  exact yes (by rw[bR,hyes,g2];rfl)
theorem kQ (xs:List Int):aR 2 (aC xs)=true∧bS (aC xs)=true:=by
 unfold aC
 induction xs with
 | nil=>exact ⟨rfl,rfl⟩
 | cons x xs ih=>simp[aR,bS,old,noY,ih.1,ih.2]
theorem aOb (tg:Nat) (a b c:List UInt8) (xs:List Int) (hx:xs.length≤9223372036854775807) (Q:Out→List Blk→Gh→Prop) (hq:Q (.ret (.bool (bR a b c xs))) [] {}):∃hv hb,aFe hv hb tg a b c xs Q:=by
 obtain ⟨hv,hb',e⟩:∃hv hb,aFe hv hb tg a b c xs Q=_:=⟨_,_,bNu tg a b c xs Q⟩
 refine ⟨hv,hb',e.mpr ?_⟩
 delta aTk aKn aR9 aJr aHz bKm aZw aZ3 aYm bG6 aPy bJy
 clear e
 have yes:bR a b c xs=true→Q (.ret (.bool true)) [] {}:=fun h=>by rwa [h] at hq
 have no:bR a b c xs=false→Q (.ret (.bool false)) [] {}:=fun h=>by rwa [h] at hq
 have hcl:=aA xs
 have one:∀ (h:¬ (a.length=32∧b.length=12∧c.length=32∧xs.length≤16)),oU tg a b c xs Q:=fun h=>by
  have hl:gN a b c xs.length=false:=Bool.eq_false_iff.2 (by
   unfold gN
   rw[ne_eq,Bool.and_eq_true,Bool.and_eq_true,Bool.and_eq_true,aP,aP,aP,Nat.ble_eq]
   omega)
  unfold oU
  delta bJy aPy bG6 aJr aR9 aTk aHz bKm aKn aYm aZ3 aZw
  refine ⟨_,rfl,⟨0,⟨by omega⟩,rfl,rfl,rfl,by rw[hl];rfl,rfl,rfl,trivial⟩, ?_⟩
  rintro i ⟨g1⟩
  refine aF (fun g3 => ?_) (fun g3 => ?_)
  ·have hi:i<xs.length:=by omega
   refine ⟨_,rfl,ckI (by simp;omega) (ckI (by rw[hcl];simp;omega) (xD (i:=i) hi (by simp) ?_))⟩
   cases hf:gN a b c xs.length&&jL xs i
   ·rw[cond_false]
    exact aI (by omega) (by omega) ⟨⟨trivial,rfl⟩,i+1,⟨by omega⟩,by omega,rfl,rfl,rfl,by rw[jL,←Bool.and_assoc,hf];rfl,rfl,rfl,trivial⟩
   ·rw[cond_true]
    cases hr:decide (1≤xs.getD i 0)&&decide (xs.getD i 0≤255)
    ·rw[cond_false]
     exact aI (by omega) (by omega) ⟨⟨trivial,rfl⟩,i+1,⟨by omega⟩,by omega,rfl,rfl,rfl,by rw[jL,←Bool.and_assoc,hf,hr];rfl,rfl,rfl,trivial⟩
    ·rw[cond_true]
     refine aW (fun h => ?_) (fun h => ?_)
     ·have h0:i=0:=by omega
      exact aI (by omega) (by omega) ⟨⟨trivial,rfl⟩,i+1,⟨by omega⟩,by omega,rfl,rfl,rfl,by rw[jL,←Bool.and_assoc,hf,hr,h0];rfl,rfl,rfl,trivial⟩
     ·have hb0:Nat.beq i 0=false:=Bool.eq_false_iff.2 (by rw[ne_eq,aP];omega)
      refine aI (by omega) (by omega) (ckI (by simp;omega) (ckI (by rw[hcl];simp;omega) (xD (i:=i-1) (by omega) (by simp) (aF (fun h2 => ?_) (fun h2 => ?_)))))
      ·exact aI (by omega) (by omega) ⟨⟨trivial,rfl⟩,i+1,⟨by omega⟩,by omega,rfl,rfl,rfl,by rw[jL,←Bool.and_assoc,hf,hr,hb0,decide_eq_true (by omega:xs.getD (i-1) 0<xs.getD i 0)];rfl,rfl,rfl,trivial⟩
      ·exact aI (by omega) (by omega) ⟨⟨trivial,rfl⟩,i+1,⟨by omega⟩,by omega,rfl,rfl,rfl,by rw[jL,←Bool.and_assoc,hf,hr,hb0,decide_eq_false (by omega:¬ xs.getD (i-1) 0<xs.getD i 0)];rfl,rfl,rfl,trivial⟩
  ·obtain rfl:i=xs.length:=by omega
   cases hf:gN a b c xs.length&&jL xs xs.length
   ·exact no hf
   ·exact yes hf
 refine ⟨_,rfl,aW (fun h1=>⟨_,rfl,aW (fun h2=>⟨_,rfl,aW (fun h3=>⟨_,rfl,aF (fun h4 => ?_) (fun h=>one (by omega))⟩) (fun h=>one (by omega))⟩) (fun h=>one (by omega))⟩) (fun h=>one (by omega))⟩
 have hl:gN a b c xs.length=true:=by
  unfold gN
  rw[Bool.and_eq_true,Bool.and_eq_true,Bool.and_eq_true,aP,aP,aP,Nat.ble_eq]
  omega
 refine ⟨_,rfl,⟨0,⟨by omega⟩,rfl,rfl,rfl,by rw[hl];rfl,rfl,rfl,trivial⟩, ?_⟩
 rintro i ⟨g1⟩
 refine aF (fun g3 => ?_) (fun g3 => ?_)
 ·have hi:i<xs.length:=by omega
  refine ⟨_,rfl,ckI (by simp;omega) (ckI (by rw[hcl];simp;omega) (xD (i:=i) hi (by simp) ?_))⟩
  cases hf:gN a b c xs.length&&jL xs i
  ·rw[cond_false]
   exact aI (by omega) (by omega) ⟨⟨trivial,rfl⟩,i+1,⟨by omega⟩,by omega,rfl,rfl,rfl,by rw[jL,←Bool.and_assoc,hf];rfl,rfl,rfl,trivial⟩
  ·rw[cond_true]
   cases hr:decide (1≤xs.getD i 0)&&decide (xs.getD i 0≤255)
   ·rw[cond_false]
    exact aI (by omega) (by omega) ⟨⟨trivial,rfl⟩,i+1,⟨by omega⟩,by omega,rfl,rfl,rfl,by rw[jL,←Bool.and_assoc,hf,hr];rfl,rfl,rfl,trivial⟩
   ·rw[cond_true]
    refine aW (fun h => ?_) (fun h => ?_)
    ·have h0:i=0:=by omega
     exact aI (by omega) (by omega) ⟨⟨trivial,rfl⟩,i+1,⟨by omega⟩,by omega,rfl,rfl,rfl,by rw[jL,←Bool.and_assoc,hf,hr,h0];rfl,rfl,rfl,trivial⟩
    ·have hb0:Nat.beq i 0=false:=Bool.eq_false_iff.2 (by rw[ne_eq,aP];omega)
     refine aI (by omega) (by omega) (ckI (by simp;omega) (ckI (by rw[hcl];simp;omega) (xD (i:=i-1) (by omega) (by simp) (aF (fun h2 => ?_) (fun h2 => ?_)))))
     ·exact aI (by omega) (by omega) ⟨⟨trivial,rfl⟩,i+1,⟨by omega⟩,by omega,rfl,rfl,rfl,by rw[jL,←Bool.and_assoc,hf,hr,hb0,decide_eq_true (by omega:xs.getD (i-1) 0<xs.getD i 0)];rfl,rfl,rfl,trivial⟩
     ·exact aI (by omega) (by omega) ⟨⟨trivial,rfl⟩,i+1,⟨by omega⟩,by omega,rfl,rfl,rfl,by rw[jL,←Bool.and_assoc,hf,hr,hb0,decide_eq_false (by omega:¬ xs.getD (i-1) 0<xs.getD i 0)];rfl,rfl,rfl,trivial⟩
 ·obtain rfl:i=xs.length:=by omega
  cases hf:gN a b c xs.length&&jL xs xs.length
  ·exact no hf
  ·exact yes hf
def pR:Con
 | [.agg [.str a,.str b,.str c],.lst _ l n 1],H,K=>∃xs:List Int,Lf (l=aC xs∧n=xs.length∧xs.length≤9223372036854775807)∧∀r:Bool,Lf (r=bR a b c xs)→K (.ret (.bool r)) H
 | _,_,_=>False
theorem aHo:aG Tryz.prog gl0 51 pR:=by
 refine aT (enters_of (by kernel_rfl)) aQ fun args H Q hc => ?_
 unfold pR at hc
 split at hc
 ·rename_i a b c tg l n
  obtain ⟨xs,⟨rfl,rfl,h1⟩,hq⟩:=hc
  obtain ⟨hv,hb',h⟩:=aOb tg a b c xs h1 (Q:=fun o H' _=>H'=[]∧(∃v,o=.ret v∧old 0 v=true∧noY v=true)∧Q o H) ⟨rfl,⟨_,rfl,rfl,rfl⟩,hq _ ⟨rfl⟩⟩
  exact ⟨by simp[aR,old,(kQ _).1],by simp[bS,noY,(kQ _).2],_,1000,aY vO _ _ _,rfl,h⟩
 ·exact hc.elim
theorem aKf:aG Tryz.prog gl0 56 pR:=by
 refine aT (enters_of (by kernel_rfl)) aQ fun args H Q hc => ?_
 unfold pR at hc
 split at hc
 ·rename_i a b c tg l n
  obtain ⟨xs,⟨rfl,rfl,h1⟩,hq⟩:=hc
  obtain ⟨hv,hb',h⟩:=aJe tg a b c xs h1 (Q:=fun o H' _=>H'=[]∧(∃v,o=.ret v∧old 0 v=true∧noY v=true)∧Q o H) ⟨rfl,⟨_,rfl,rfl,rfl⟩,hq _ ⟨rfl⟩⟩
  exact ⟨by simp[aR,old,(kQ _).1],by simp[bS,noY,(kQ _).2],_,1000,aY cB _ _ _,rfl,h⟩
 ·exact hc.elim
abbrev Tr:=Int×Int×Nat
def trM:List Tr→List AV
 | []=>[]
 | t::l=>.int .i64 t.1::.int .i64 t.2.1::.int .u64 (t.2.2:Nat)::trM l
def tY (c:Int) (l:List Tr) (i:Nat):Bool:=(l.take i).any fun t=>decide (t.1=c)
def aXq (c:Int) (l:List Tr) (s:S):List (List LInv):=[[
 { α:=Nat,pre:=fun i=>Lf (i≤l.length∧tY c l i=false),st:=fun i=>⟨mkT [(0,s.tm.get 0),(1,s.tm.get 1),(7,s.tm.get 7),(8,.int .i64 (i:Nat))],s.hp⟩,mu:=fun i=>l.length-i }]]
noncomputable def aVw (hv:Nat→Option Pa) (hb:Nat→Option Bool) (c:Int) (l:List Tr):Env:=e04 smI (fun i=>bif Nat.beq i 111000 then some (aXq c l) else none) hv hb
noncomputable def aEu (hv:Nat→Option Pa) (hb:Nat→Option Bool) (tg:Nat) (c t:Int) (s:Nat) (l:List Tr) (Q:Out→List Blk→Gh→Prop):Prop:=
 bC (aVw hv hb c l) (wpx (aVw hv hb c l) 1000) 55 [.lst tg (trM l) l.length 3,.fn (.func 54) [] [.ptr 0 3 0]] [⟨.exact,true,[.int .i64 c,.int .i64 t,.int .u64 (s:Nat)]⟩] {} Q
abbrev bKs (c t:Int) (s:Nat):Blk:=Blk.mk BK.exact true [.int .i64 c,.int .i64 t,.int .u64 (s:Int)]
theorem bM8 (tg:Nat) (c:Int) (t:Int) (s:Nat) (l:List Tr) (Q:Out→List Blk→Gh→Prop):aEu (bH [(454663,.int .i64),(454666,.int .i64),(454671,.agg [.int .i64,.int .i64,.int .u64]),(454674,.int .i64)]) (bI
 []) tg c t s l Q=(exI .i64 (l.length:Int) (fun n_0=>(∃x_1:Nat,Lf (x_1≤l.length∧tY c l x_1=false)∧aN [AV.int .i64 c,.int .i64 t,.int .u64 (s:Int)]∧aN (AV.lst tg (trM l) l.length 3)∧aN (AV.fn (Fn.func 54) []
 [.ptr 0 3 0])∧aN (AV.int .i64 n_0)∧AV.int .i64 0=AV.int .i64 (x_1:Int)∧True)∧∀x_1:Nat,Lf (x_1≤l.length∧tY c l x_1=false)→bif decide ((x_1:Int)<n_0) then exI .i64 (x_1:Int) (fun n_2=>ckQ (decide (0≤n_2)
 && Nat.blt n_2.toNat l.length&&true) (ckQ (Nat.ble (n_2.toNat*3+3) (trM l).length) (∃n_3 n_4 n_5,AV.agg (((trM l).drop (n_2.toNat*3)).take 3)=AV.agg [.int .i64 n_3,.int .i64 n_4,.int .u64 n_5]∧bif n_3==c then bif decide
 (n_2≥0) then Q (.ret (.bool true)) [bKs c t s] {} else Q (.ret (.bool false)) [bKs c t s] {} else exW .i64 ((x_1:Int)+1) (fun n_6=>(True∧(0:Nat)=(0:Nat))∧∃y_7:Nat,Lf (y_7≤l.length∧tY c l y_7=false) ∧
 l.length-y_7<l.length-x_1∧aN [AV.int .i64 c,.int .i64 t,.int .u64 (s:Int)]∧aN (AV.lst tg (trM l) l.length 3)∧aN (AV.fn (Fn.func 54) [] [.ptr 0 3 0])∧aN (AV.int .i64 n_0)∧AV.int .i64 n_6=AV.int .i64 (y_7:Int)
 ∧ True)))) else Q (.ret (.bool false)) [bKs c t s] {})):=by kernel_rfl

theorem aHe:∀l,(trM l).length=l.length*3
 | []=>rfl
 | t::l=>by simp[trM,aHe l];omega
theorem wI:∀ (l:List Tr) (i:Nat) (h:i<l.length),List.take 3 (List.drop (i*3) (trM l))=[.int .i64 l[i].1,.int .i64 l[i].2.1,.int .u64 (l[i].2.2:Nat)]
 | [],i,h=>by simp at h
 | t::l,0,_=>by simp[trM]
 | t::l,i+1,h=>by
  rw[show (i+1)*3=i*3+3 by omega]
  exact wI l i (by simpa using h)
theorem aGx {c:Int} {l:List Tr} {i:Nat} (h:i<l.length):tY c l (i+1)=(tY c l i||decide (l[i].1=c)):=by
 unfold tY
 rw[List.take_add_one,List.getElem?_eq_getElem h,List.any_append]
 simp
theorem bGz {c:Int} {l:List Tr} {i n:Nat} (h:i≤n) (hi:tY c l i=true):tY c l n=true:=by
 unfold tY at hi ⊢
 rw[List.any_eq_true] at hi ⊢
 obtain ⟨t,h1,h2⟩:=hi
 refine ⟨t, ?_,h2⟩
 rw[show i=min i n by omega,←List.take_take] at h1
 exact List.mem_of_mem_take h1
theorem aO9 (tg:Nat) (c t:Int) (s:Nat) (l:List Tr) (hl:l.length≤1000) (Q:Out→List Blk→Gh→Prop) (hq:Q (.ret (.bool (tY c l l.length))) [⟨.exact,true,[.int .i64 c,.int .i64 t,.int .u64 (s:Nat)]⟩] {}):∃hv hb,aEu hv hb tg c t s l Q:=by
 obtain ⟨hv,hb',e⟩:∃hv hb,aEu hv hb tg c t s l Q=_:=⟨_,_,bM8 tg c t s l Q⟩
 refine ⟨hv,hb',e.mpr ?_⟩
 delta bKs
 clear e
 refine ⟨_,rfl,⟨0,⟨by omega,rfl⟩,rfl,rfl,rfl,rfl,rfl,trivial⟩, ?_⟩
 rintro i ⟨g1,g2⟩
 have hln:=aHe l
 refine aF (fun g3 => ?_) (fun g3 => ?_)
 ·have hi:i<l.length:=by omega
  refine ⟨_,rfl,ckI (by simp;omega) (ckI (by rw[hln];simp;omega) ?_)⟩
  rw[show Int.toNat ((i:Nat):Int)=i from rfl,wI l i hi]
  refine ⟨_,_,_,rfl,aW (fun h=>aF (fun _ => ?_) (fun h2=>by omega)) (fun h => ?_)⟩
  ·have:tY c l l.length=true:=bGz (i:=i+1) (by omega) (by rw[aGx hi,decide_eq_true h,Bool.or_true])
   rwa [this] at hq
  ·exact aI (by omega) (by omega) ⟨⟨trivial,rfl⟩,i+1,⟨by omega,by rw[aGx hi,g2,decide_eq_false h];rfl⟩,by omega,rfl,rfl,rfl,rfl,rfl,trivial⟩
 ·obtain rfl:i=l.length:=by omega
  rwa [g2] at hq
def bLu:Con
 | [.lst _ l n 3,.fn (.func 54) [] [.ptr i 3 0]],H,K=>match H.getD i ⟨.ro,false,[]⟩ with
  | ⟨.exact,true,[.int .i64 c,.int .i64 t,.int .u64 u]⟩=>∃ (ts:List Tr) (s:Nat),Lf (Nat.blt i H.length=true∧u=(s:Int)∧l=trM ts∧n=ts.length∧ts.length≤1000)∧∀b:Bool,Lf (b=tY c ts ts.length)→K (.ret (.bool b)) H
  | _=>False
 | _,_,_=>False
theorem aFs (l:List Tr):aR 0 (trM l)=true∧bS (trM l)=true:=by
 induction l with
 | nil=>exact ⟨rfl,rfl⟩
 | cons x l ih=>simp[trM,aR,bS,old,noY,ih.1,ih.2]
theorem aU4:aG Tryz.prog gl0 55 bLu:=by
 refine jS (enters_of (by kernel_rfl)) aQ fun args H Q hc => ?_
 unfold bLu at hc
 split at hc
 ·rename_i tg l n i
  split at hc
  ·rename_i c t u hb
   obtain ⟨ts,s,⟨h0,rfl,rfl,rfl,h1⟩,hq⟩:=hc
   rw[aB] at h0
   have hi:H[i]? = some ⟨.exact,true,[.int .i64 c,.int .i64 t,.int .u64 (s:Nat)]⟩:=by
    rw[List.getD_eq_getElem?_getD,List.getElem?_eq_getElem h0] at hb
    rw[List.getElem?_eq_getElem h0]
    exact congrArg some hb
   obtain ⟨hv,hb',h⟩:=aO9 tg c t s ts h1 (Q:=fun o H' _=>o=.ret (.bool (tY c ts ts.length))∧H'=[⟨.exact,true,[.int .i64 c,.int .i64 t,.int .u64 (s:Nat)]⟩]) ⟨rfl,rfl⟩
   refine ⟨_,1000,fun _=>i,[.lst tg (trM ts) ts.length 3,.fn (.func 54) [] [.ptr 0 3 0]],[⟨.exact,true,[.int .i64 c,.int .i64 t,.int .u64 (s:Nat)]⟩],_,aY vO _ _ _,rfl,rfl,rfl, ?_,⟨fun j b0 hj => ?_,fun j j' b0 hj _ hj' _ => ?_,fun j b0 hj => ?_⟩,h, ?_⟩
   ·simp[bS,noY,(aFs ts).2]
   ·match j,hj with
    | 0,hj=>
     cases hj
     exact ⟨h0,rfl,rfl,fun _=>rfl,_,hi,rfl,.inr rfl⟩
   ·have:j<1:=(List.getElem?_eq_some_iff.1 hj).1
    simp at hj'
    omega
   ·match j,hj with
    | 0,hj=>cases hj;exact fun h=>by cases h
   ·rintro o H0' g' ⟨rfl,rfl⟩
    refine ⟨H,⟨Nat.le_refl _,fun j b0 hj hk => ?_,fun j b0 hj hk=>⟨b0,hj,rfl⟩,fun j b0 hj hb0 => ?_,by simp,fun _ _ _=>rfl,fun j b0 hj hk => ?_⟩,hq _ ⟨rfl⟩⟩
    ·match j,hj with
     | 0,hj=>cases hj;cases hk
    ·have:j<1:=(List.getElem?_eq_some_iff.1 hb0).1
     simp at hj
     omega
    ·match j,hj with
     | 0,hj=>
      cases hj
      exact hi
  ·exact hc.elim
 ·exact hc.elim
end Go.Proofs.YtnhechnaemmdiaaGreatDoor
