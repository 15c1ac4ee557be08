/-
  Chapter 25: the package variables; the environment of runs; strings.Repeat.
-/
import Derived.Test.YtnhechnaemmdiaaGreatDoorK25T
import Derived.Test.YtnhechnaemmdiaaGreatDoorK25P
import Derived.Test.YtnhechnaemmdiaaGreatDoorEnH
import Derived.MakeChecks
set_option linter.unusedSimpArgs false
set_option linter.unusedVariables false
namespace Go.Proofs.YtnhechnaemmdiaaGreatDoor
open Go.RowKit
set_option maxRecDepth 1000000

abbrev SM:=Nat→Option (List AV→List Blk→(Out→List Blk→Prop)→Prop)
def b5 (a b c d e:Bool):List AV:=[.bool a,.bool b,.bool c,.bool d,.bool e]
def hasC:List AV:=b5 false false false false false++b5 false true true false false++b5 false false true false false++b5 false false false false false++b5 true false false true false++b5 true false false false false++b5 true false false false true
def wireC:List AV:=[.int .i64 0,.int .i64 200,.int .i64 201,.int .i64 203,.int .i64 205,.int .i64 206,.int .i64 205]
def gl0:Nat→Option (List AV)
 | 0=>some hasC
 | 1=>some wireC
 | _=>none
theorem gl0_noY:∀g cs,gl0 g=some cs→noYL cs=true:=by
 intro g cs h
 unfold gl0 at h
 split at h
 ·cases h;rfl
 ·cases h;rfl
 ·cases h
noncomputable def e04 (sm:SM) (inv:Nat→Option (S→List (List LInv))) (hv:Nat→Option Pa) (hb:Nat→Option Bool):Env:=
 { fn:=fun f=>fnOf Tryz.prog f,sm:=sm,gl:=gl0,inv:=inv,hv:=hv,hb:=hb,hz:=fun _=>false }
theorem names04:namesOk Tryz.prog=true:=by kernel_rfl
theorem mixed04:Tryz.prog.follows .mixedOrders=true:=by kernel_rfl
theorem envFor04 {sm:SM} (h:∀f g,sm f=some g→ValidF Tryz.prog gl0 f g) (inv:Nat→Option (S→List (List LInv))) (hv:Nat→Option Pa) (hb:Nat→Option Bool):EnvFor Tryz.prog (e04 sm inv hv hb):=
 ⟨mixed04,names04,tabA_ok,h⟩
abbrev Con:=List AV→List Blk→(Out→List Blk→Prop)→Prop
def lookS:List (Nat×Con)→SM
 | [],_=>none
 | (k,c)::l,f=>bif Nat.beq f k then some c else lookS l f
theorem lookS_ok:∀ (l:List (Nat×Con)),(∀p,p∈l→ValidF Tryz.prog gl0 p.1 p.2)→∀f g,lookS l f=some g→ValidF Tryz.prog gl0 f g
 | [],_,f,g,h=>by simp[lookS] at h
 | (k,c)::l,hl,f,g,h=>by
  simp only[lookS] at h
  cases hk:Nat.beq f k
  ·rw[hk] at h
   exact lookS_ok l (fun p hp=>hl p (by simp[hp])) f g h
  ·rw[hk] at h
   simp only[cond_true,Option.some.injEq] at h
   subst h
   obtain rfl:=Nat.eq_of_beq_eq_true hk
   exact hl (f,c) (by simp)
def sm0:SM:=fun _=>none
theorem sm0_ok:∀f g,sm0 f=some g→ValidF Tryz.prog gl0 f g:=fun _ _ h=>by cases h

def repM (s:List UInt8) (n:Nat):List UInt8:=Lib.repeatL s n
def cRepeat:Con
 | [.str s,.int .i64 c],H,K=>bif decide (0≤c)&&Nat.ble c.toNat 9223372036854775807&&Nat.ble (s.length*c.toNat) 140737488355328 then K (.ret (.str (repM s c.toNat))) H else False
 | _,_,_=>False
theorem repeat_ok:ValidF Tryz.prog gl0 48 cRepeat:=by
 refine valid_below (enters_of (by kernel_rfl)) fun args H Q hc m w vs hv => ?_
 unfold cRepeat at hc
 split at hc
 ·rename_i s c
  cases hb:decide (0≤c)&&Nat.ble c.toNat 9223372036854775807&&Nat.ble (s.length*c.toNat) 140737488355328
  ·rw[hb] at hc;exact hc.elim
  ·rw[hb] at hc
   simp only[Bool.and_eq_true,decide_eq_true_eq,Nat.ble_eq] at hb
   obtain ⟨v1,l1,e1,h1,r1⟩:=VRL_consL hv
   obtain ⟨v2,l2,e2,h2,r2⟩:=VRL_consL r1
   rw[VRL_nil] at r2
   subst r2
   simp only[VR] at h1 h2
   subst h1
   subst h2
   have ev:vs = #[.string ⟨s.toArray⟩,.int .i64 c]:=by
    cases vs
    simp only at e1
    rw[e1,e2]
   subst ev
   obtain ⟨n,rfl⟩:∃n:Nat,c=n:=⟨c.toNat,by omega⟩
   have hr:=Tryz.strings_Repeat ⟨s.toArray⟩ n w (by simpa using hb.1.2) (by have:=hb.2;simpa [ByteArray.size] using this)
   exact ⟨_,_,hc,by simp[VR,repM],hr⟩
 ·exact hc.elim
end Go.Proofs.YtnhechnaemmdiaaGreatDoor
