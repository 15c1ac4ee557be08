/-
  Chapter 18: the environment of runs; what the library does: Repeat, Clone, Mul64.
-/
import Derived.Test.YtjenieljapmehaaGreatDoorG21T
import Derived.Test.YtjenieljapmehaaGreatDoorG21P
import Derived.Test.YtjenieljapmehaaGreatDoorEnH
import Derived.MakeChecks
set_option linter.unusedSimpArgs false
set_option linter.unusedVariables false
namespace Go.Proofs.YtjenieljapmehaaGreatDoor
open Go.RowKit
set_option maxRecDepth 1000000

abbrev SM:=Nat→Option (List AV→List Blk→(Out→List Blk→Prop)→Prop)
abbrev Con:=List AV→List Blk→(Out→List Blk→Prop)→Prop
def gl0:Nat→Option (List AV):=fun _=>none
theorem gl0_noY:∀g cs,gl0 g=some cs→noYL cs=true:=fun _ _ h=>by cases h
noncomputable def e18 (sm:SM) (inv:Nat→Option (S→List (List LInv))) (hv:Nat→Option Pa) (hb:Nat→Option Bool):Env:=
 { fn:=fun f=>fnOf Tryz.prog f,sm:=sm,gl:=gl0,inv:=inv,hv:=hv,hb:=hb,hz:=fun _=>false }
theorem names18:namesOk Tryz.prog=true:=by kernel_rfl
theorem mixed18:Tryz.prog.follows .mixedOrders=true:=by kernel_rfl
theorem envFor18 {sm:SM} (h:∀f g,sm f=some g→ValidF Tryz.prog gl0 f g) (inv:Nat→Option (S→List (List LInv))) (hv:Nat→Option Pa) (hb:Nat→Option Bool):EnvFor Tryz.prog (e18 sm inv hv hb):=
 ⟨mixed18,names18,tabA_ok,h⟩
def lookS:List (Nat×Con)→SM
 | [],_=>none
 | (k,c)::l,f=>bif Nat.beq f k then some c else lookS l f
theorem lookS_ok:∀ (l:List (Nat×Con)),(∀p,p∈l→ValidF Tryz.prog gl0 p.1 p.2)→∀f g,lookS l f=some g→ValidF Tryz.prog gl0 f g
 | [],_,f,g,h=>by simp[lookS] at h
 | (k,c)::l,hl,f,g,h=>by
  simp only[lookS] at h
  cases hk:Nat.beq f k
  ·rw[hk] at h
   exact lookS_ok l (fun p hp=>hl p (by simp[hp])) f g h
  ·rw[hk] at h
   simp only[cond_true,Option.some.injEq] at h
   subst h
   obtain rfl:=Nat.eq_of_beq_eq_true hk
   exact hl (f,c) (by simp)
def sm0:SM:=fun _=>none
theorem sm0_ok:∀f g,sm0 f=some g→ValidF Tryz.prog gl0 f g:=fun _ _ h=>by cases h

def repM (s:List UInt8) (n:Nat):List UInt8:=Lib.repeatL s n
def cRepeat:Con
 | [.str s,.int .i64 c],H,K=>bif decide (0≤c)&&Nat.ble c.toNat 9223372036854775807&&Nat.ble (s.length*c.toNat) 140737488355328 then K (.ret (.str (repM s c.toNat))) H else False
 | _,_,_=>False
theorem repeat_ok:ValidF Tryz.prog gl0 30 cRepeat:=by
 refine valid_below (enters_of (by kernel_rfl)) fun args H Q hc m w vs hv => ?_
 unfold cRepeat at hc
 split at hc
 ·rename_i s c
  cases hb:decide (0≤c)&&Nat.ble c.toNat 9223372036854775807&&Nat.ble (s.length*c.toNat) 140737488355328
  ·rw[hb] at hc;exact hc.elim
  ·rw[hb] at hc
   simp only[Bool.and_eq_true,decide_eq_true_eq,Nat.ble_eq] at hb
   obtain ⟨v1,l1,e1,h1,r1⟩:=VRL_consL hv
   obtain ⟨v2,l2,e2,h2,r2⟩:=VRL_consL r1
   rw[VRL_nil] at r2
   subst r2
   simp only[VR] at h1 h2
   subst h1
   subst h2
   have ev:vs = #[.string ⟨s.toArray⟩,.int .i64 c]:=by
    cases vs
    simp only at e1
    rw[e1,e2]
   subst ev
   obtain ⟨n,rfl⟩:∃n:Nat,c=n:=⟨c.toNat,by omega⟩
   have hr:=Tryz.strings_Repeat ⟨s.toArray⟩ n w (by simpa using hb.1.2) (by have:=hb.2;simpa [ByteArray.size] using this)
   exact ⟨_,_,hc,by simp[VR,repM],hr⟩
 ·exact hc.elim

theorem VRL_one {m:M} {a:AV} {vs:Array Value} (hv:VRL m [a] vs.toList):∃v,vs = #[v]∧VR m a v:=by
 obtain ⟨v1,l1,e1,h1,r1⟩:=VRL_consL hv
 rw[VRL_nil] at r1
 subst r1
 refine ⟨v1, ?_,h1⟩
 cases vs
 simp only at e1
 rw[e1]
theorem VRL_two {m:M} {a b:AV} {vs:Array Value} (hv:VRL m [a,b] vs.toList):∃v w,vs = #[v,w]∧VR m a v∧VR m b w:=by
 obtain ⟨v1,l1,e1,h1,r1⟩:=VRL_consL hv
 obtain ⟨v2,l2,e2,h2,r2⟩:=VRL_consL r1
 rw[VRL_nil] at r2
 subst r2
 refine ⟨v1,v2, ?_,h1,h2⟩
 cases vs
 simp only at e1
 rw[e1,e2]
def cClone:Con
 | [.str s],H,K=>bif Nat.ble s.length 281474976710656 then K (.ret (.str s)) H else False
 | _,_,_=>False
theorem clone_ok:ValidF Tryz.prog gl0 150 cClone:=by
 refine valid_below (enters_of (by kernel_rfl)) fun args H Q hc m w vs hv => ?_
 unfold cClone at hc
 split at hc
 ·rename_i s
  cases hb:Nat.ble s.length 281474976710656
  ·rw[hb] at hc;exact hc.elim
  ·rw[hb] at hc
   rw[Nat.ble_eq] at hb
   obtain ⟨v,rfl,h1⟩:=VRL_one hv
   simp only[VR] at h1
   subst h1
   exact ⟨_,_,hc,by simp[VR],Tryz.stringslite_Clone ⟨s.toArray⟩ w (by simpa [ByteArray.size] using hb)⟩
 ·exact hc.elim
def mulHM (a b:Int):Int:=((a.toNat*b.toNat/18446744073709551616:Nat):Int)
def mulLM (a b:Int):Int:=((a.toNat*b.toNat%18446744073709551616:Nat):Int)
def cMul:Con
 | [.int .u64 a,.int .u64 b],H,K=>bif (decide (0≤a)&&Nat.blt a.toNat 18446744073709551616)&&(decide (0≤b)&&Nat.blt b.toNat 18446744073709551616) then K (.ret (.tup [.int .u64 (mulHM a b),.int .u64 (mulLM a b)])) H else False
 | _,_,_=>False
theorem mul_ok:ValidF Tryz.prog gl0 79 cMul:=by
 refine valid_below (enters_of (by kernel_rfl)) fun args H Q hc m w vs hv => ?_
 unfold cMul at hc
 split at hc
 ·rename_i a b
  cases hb:(decide (0≤a)&&Nat.blt a.toNat 18446744073709551616)&&(decide (0≤b)&&Nat.blt b.toNat 18446744073709551616)
  ·rw[hb] at hc;exact hc.elim
  ·rw[hb] at hc
   simp only[Bool.and_eq_true,decide_eq_true_eq,blt_iff] at hb
   obtain ⟨v,u,rfl,h1,h2⟩:=VRL_two hv
   simp only[VR] at h1 h2
   subst h1
   subst h2
   obtain ⟨x,rfl⟩:∃n:Nat,a=n:=⟨a.toNat,by omega⟩
   obtain ⟨y,rfl⟩:∃n:Nat,b=n:=⟨b.toNat,by omega⟩
   refine ⟨_,.tuple #[.int .u64 (mulHM x y),.int .u64 (mulLM x y)],hc, ?_,(Tryz.bits_Mul64 x y (by omega) (by omega) w).mono fun e w' ⟨h1,h2⟩=>⟨h1,by rw[h2];exact Below.refl _ _⟩⟩
   rw[VR]
   exact ⟨_,rfl,by simp[VRL_cons,VRL_nil,VR]⟩
 ·exact hc.elim
end Go.Proofs.YtjenieljapmehaaGreatDoor
