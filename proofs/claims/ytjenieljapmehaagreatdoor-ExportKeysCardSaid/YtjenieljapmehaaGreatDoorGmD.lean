/-
  DERIVED: THE SHELF's CONTRACTS AT THIS DUMP, IN PLAIN WORDS (tools/lay-plain.mjs out of 'TryzShelf.lean', which tools/lay-shelf.mjs wrote): THE SAME DECLARATIONS UNDER THE SAME NAMES: 'import', 'namespace', 'open', 'def', 'theorem' AND NOTHING ELSE: no command of the shelf's: FOR A HAND-IN. Each laying: the table of numbers ('.._ren') and one theorem, a field a fact of the dump's own or the kernel's comparison; each contract: ONE APPLICATION.
-/
import Derived.Shelf.Spec.BitsCarry
import Derived.Test.YtjenieljapmehaaGreatDoorProg
import Derived.Test.YtjenieljapmehaaGreatDoorG21C
import Derived.ProofKit
namespace Go.Proofs
open Go.Shelf
def Tryz.lays25_ren:Go.Shelf.Ren:=⟨fun | 25=>80 | n=>n,fun | 22=>42 | n=>n,fun | n=>n⟩
theorem Tryz.lays25:Go.Proofs.Lays7.n25 Tryz.prog Tryz.lays25_ren := {
 mixed:=by kernel_rfl
 f25:=Tryz.func80.trans (congrArg some (by kernel_rfl))
 t22:=Tryz.underlying42
 a22:=Tryz.isAgg42
 z22:=Tryz.sizeOf42
 v22:=Tryz.zeroValue42
 i22:=by kernel_rfl }
theorem Tryz.bits_Add64 (x y c:Nat) (hc:c≤1) (w:World) :
  (callFunc 80 #[.int .u64 x,.int .u64 y,.int .u64 c]).run Tryz.prog w =
   .ok (.value (.tuple #[.int .u64 (((x+y+c)%18446744073709551616:Nat):Int),.int .u64 (((x+y+c)/18446744073709551616:Nat):Int)])) w:=Any7.bits_Add64 Tryz.lays25 x y c hc w
end Go.Proofs

set_option linter.unusedSimpArgs false
set_option linter.unusedVariables false
set_option linter.unusedSectionVars false
namespace Go.Proofs.YtjenieljapmehaaGreatDoor
open Go.RowKit Go.Shelf
set_option maxRecDepth 1000000

def hiN (x y:Nat):Nat:=x*y/18446744073709551616
def loN (x y:Nat):Nat:=x*y%18446744073709551616
theorem lo_lt (x y:Nat):loN x y<18446744073709551616:=Nat.mod_lt _ (by decide)
theorem hi_lt {x y:Nat} (hx:x<18446744073709551616) (hy:y<549755813888):hiN x y<549755813888:=by
 have:x*y<18446744073709551616*549755813888:=Nat.mul_lt_mul'' hx hy
 unfold hiN
 omega
theorem mulG (x y:Nat) (hx:x<18446744073709551616) (hy:y<18446744073709551616) (w:World) :
  Calls Tryz.prog 79 #[.int .u64 (x:Int),.int .u64 (y:Int)] w fun e w'=>e=.returned (.tuple #[.int .u64 (hiN x y:Int),.int .u64 (loN x y:Int)])∧w'=w:=Tryz.bits_Mul64 x y hx hy w
theorem add64I (x y:Nat) (h:x+y<18446744073709551616) (w:World):(callFunc 80 #[.int .u64 (x:Int),.int .u64 (y:Int),.int .u64 0]).run Tryz.prog w=.ok (.value (.tuple #[.int .u64 ((x+y:Nat):Int),.int .u64 0])) w:=by
 have:=Tryz.bits_Add64 x y 0 (by omega) w
 rw[show (x+y+0)%18446744073709551616=x+y by omega,show (x+y+0)/18446744073709551616=0 by omega] at this
 exact this
theorem below2 (x p:Nat) (hx:x<549755813888) (hp:p<4294967296) (w:World) :
  Calls Tryz.prog 49 #[.int .u64 (x:Int),.int .u64 (p:Int),.int .i64 2] w fun e w'=>e=.returned (.bool (decide (hiN x x<p)||decide (hiN x x=p)&&decide (loN x x=0)))∧w'=w:=by
 have m:=mulG x x (by omega) (by omega)
 have hl:=lo_lt x x
 generalize hiN x x=h at *
 generalize loN x x=l at *
 rcases Nat.lt_trichotomy h p with g | g | g
 ·go_enter Tryz.func49,Tryz.ntmps49
  go_wp2_with (go_at_call 79;refine (m _).mono ?_;rintro e w' ⟨rfl,rfl⟩)
  go_ret
  exact ⟨by simp[g],rfl⟩
 ·subst g
  by_cases g:l=0
  ·subst g
   go_enter Tryz.func49,Tryz.ntmps49
   go_wp2_with (go_at_call 79;refine (m _).mono ?_;rintro e w' ⟨rfl,rfl⟩)
   go_ret
   exact ⟨by simp,rfl⟩
  ·go_enter Tryz.func49,Tryz.ntmps49
   go_wp2_with (go_at_call 79;refine (m _).mono ?_;rintro e w' ⟨rfl,rfl⟩)
   go_ret
   exact ⟨by simp[g],rfl⟩
 ·have g1:¬ h<p:=by omega
  have g2:¬ h=p:=by omega
  go_enter Tryz.func49,Tryz.ntmps49
  go_wp2_with (go_at_call 79;refine (m _).mono ?_;rintro e w' ⟨rfl,rfl⟩)
  go_ret
  exact ⟨by simp[g1,g2],rfl⟩
theorem b3_facts (x:Nat) (hx:x<549755813888):hiN (hiN x x) x=0∧hiN (loN x x) x+loN (hiN x x) x<18446744073709551616∧hiN x x<18446744073709551616:=by
 have h0:=hi_lt (x:=x) (y:=x) (by omega) hx
 have ha:=hi_lt (x:=loN x x) (y:=x) (lo_lt x x) hx
 have hc:x*x<549755813888*549755813888:=Nat.mul_lt_mul'' hx hx
 have h1:hiN x x<16384:=by unfold hiN;omega
 have h2:hiN x x*x<16384*549755813888:=Nat.mul_lt_mul'' h1 hx
 refine ⟨?_, ?_,by omega⟩
 ·rw[hiN];omega
 ·rw[loN.eq_def (hiN x x)];omega
set_option maxHeartbeats 4000000 in
theorem below3a (x p h l a b d m q:Nat) (hx:x<549755813888) (hp:p<4294967296) (hm:m<18446744073709551616) (hq:p*4294967296=q)
  (m1:∀w:World,Calls Tryz.prog 79 #[.int .u64 (x:Int),.int .u64 (x:Int)] w fun e w'=>e=.returned (.tuple #[.int .u64 (h:Int),.int .u64 (l:Int)])∧w'=w)
  (m2:∀w:World,Calls Tryz.prog 79 #[.int .u64 (l:Int),.int .u64 (x:Int)] w fun e w'=>e=.returned (.tuple #[.int .u64 (a:Int),.int .u64 (b:Int)])∧w'=w)
  (m3:∀w:World,Calls Tryz.prog 79 #[.int .u64 (h:Int),.int .u64 (x:Int)] w fun e w'=>e=.returned (.tuple #[.int .u64 0,.int .u64 (d:Int)])∧w'=w)
  (k:∀w:World,(callFunc 80 #[.int .u64 (a:Int),.int .u64 (d:Int),.int .u64 0]).run Tryz.prog w=.ok (.value (.tuple #[.int .u64 (m:Int),.int .u64 0])) w)
  (g:m<q) (w:World) :
  Calls Tryz.prog 49 #[.int .u64 (x:Int),.int .u64 (p:Int),.int .i64 3] w fun e w'=>e=.returned (.bool true)∧w'=w:=by
 have sh:(p:Int)*4294967296%18446744073709551616=(q:Int):=by omega
 have sh2:(p:Int)*4294967296=(q:Int):=by omega
 go_enter Tryz.func49,Tryz.ntmps49
 go_wp2_with (first | (go_at_call 79;with_reducible refine (m1 _).mono ?_;rintro e w' ⟨rfl,rfl⟩) | (go_at_call 79;with_reducible refine (m2 _).mono ?_;rintro e w' ⟨rfl,rfl⟩) | (go_at_call 79;with_reducible refine (m3 _).mono ?_;rintro e w' ⟨rfl,rfl⟩) | simp only[k])
 go_ret
 exact ⟨rfl,rfl⟩
set_option maxHeartbeats 4000000 in
theorem below3b (x p h l a b d m q:Nat) (hx:x<549755813888) (hp:p<4294967296) (hm:m<18446744073709551616) (hq:p*4294967296=q)
  (m1:∀w:World,Calls Tryz.prog 79 #[.int .u64 (x:Int),.int .u64 (x:Int)] w fun e w'=>e=.returned (.tuple #[.int .u64 (h:Int),.int .u64 (l:Int)])∧w'=w)
  (m2:∀w:World,Calls Tryz.prog 79 #[.int .u64 (l:Int),.int .u64 (x:Int)] w fun e w'=>e=.returned (.tuple #[.int .u64 (a:Int),.int .u64 (b:Int)])∧w'=w)
  (m3:∀w:World,Calls Tryz.prog 79 #[.int .u64 (h:Int),.int .u64 (x:Int)] w fun e w'=>e=.returned (.tuple #[.int .u64 0,.int .u64 (d:Int)])∧w'=w)
  (k:∀w:World,(callFunc 80 #[.int .u64 (a:Int),.int .u64 (d:Int),.int .u64 0]).run Tryz.prog w=.ok (.value (.tuple #[.int .u64 (m:Int),.int .u64 0])) w)
  (g:m=q) (g2:b=0) (w:World) :
  Calls Tryz.prog 49 #[.int .u64 (x:Int),.int .u64 (p:Int),.int .i64 3] w fun e w'=>e=.returned (.bool true)∧w'=w:=by
 have sh:(p:Int)*4294967296%18446744073709551616=(q:Int):=by omega
 have sh2:(p:Int)*4294967296=(q:Int):=by omega
 subst g
 subst g2
 go_enter Tryz.func49,Tryz.ntmps49
 go_wp2_with (first | (go_at_call 79;with_reducible refine (m1 _).mono ?_;rintro e w' ⟨rfl,rfl⟩) | (go_at_call 79;with_reducible refine (m2 _).mono ?_;rintro e w' ⟨rfl,rfl⟩) | (go_at_call 79;with_reducible refine (m3 _).mono ?_;rintro e w' ⟨rfl,rfl⟩) | simp only[k])
 go_ret
 exact ⟨rfl,rfl⟩
set_option maxHeartbeats 4000000 in
theorem below3c (x p h l a b d m q:Nat) (hx:x<549755813888) (hp:p<4294967296) (hm:m<18446744073709551616) (hq:p*4294967296=q)
  (m1:∀w:World,Calls Tryz.prog 79 #[.int .u64 (x:Int),.int .u64 (x:Int)] w fun e w'=>e=.returned (.tuple #[.int .u64 (h:Int),.int .u64 (l:Int)])∧w'=w)
  (m2:∀w:World,Calls Tryz.prog 79 #[.int .u64 (l:Int),.int .u64 (x:Int)] w fun e w'=>e=.returned (.tuple #[.int .u64 (a:Int),.int .u64 (b:Int)])∧w'=w)
  (m3:∀w:World,Calls Tryz.prog 79 #[.int .u64 (h:Int),.int .u64 (x:Int)] w fun e w'=>e=.returned (.tuple #[.int .u64 0,.int .u64 (d:Int)])∧w'=w)
  (k:∀w:World,(callFunc 80 #[.int .u64 (a:Int),.int .u64 (d:Int),.int .u64 0]).run Tryz.prog w=.ok (.value (.tuple #[.int .u64 (m:Int),.int .u64 0])) w)
  (g:m=q) (g2:¬ b=0) (w:World) :
  Calls Tryz.prog 49 #[.int .u64 (x:Int),.int .u64 (p:Int),.int .i64 3] w fun e w'=>e=.returned (.bool false)∧w'=w:=by
 have sh:(p:Int)*4294967296%18446744073709551616=(q:Int):=by omega
 have sh2:(p:Int)*4294967296=(q:Int):=by omega
 subst g
 go_enter Tryz.func49,Tryz.ntmps49
 go_wp2_with (first | (go_at_call 79;with_reducible refine (m1 _).mono ?_;rintro e w' ⟨rfl,rfl⟩) | (go_at_call 79;with_reducible refine (m2 _).mono ?_;rintro e w' ⟨rfl,rfl⟩) | (go_at_call 79;with_reducible refine (m3 _).mono ?_;rintro e w' ⟨rfl,rfl⟩) | simp only[k])
 go_ret
 exact ⟨congrArg (fun z=>Ending.returned (.bool z)) (show ((b:Int)==0)=false by rw[beq_eq_false_iff_ne];omega),rfl⟩
set_option maxHeartbeats 4000000 in
theorem below3d (x p h l a b d m q:Nat) (hx:x<549755813888) (hp:p<4294967296) (hm:m<18446744073709551616) (hq:p*4294967296=q)
  (m1:∀w:World,Calls Tryz.prog 79 #[.int .u64 (x:Int),.int .u64 (x:Int)] w fun e w'=>e=.returned (.tuple #[.int .u64 (h:Int),.int .u64 (l:Int)])∧w'=w)
  (m2:∀w:World,Calls Tryz.prog 79 #[.int .u64 (l:Int),.int .u64 (x:Int)] w fun e w'=>e=.returned (.tuple #[.int .u64 (a:Int),.int .u64 (b:Int)])∧w'=w)
  (m3:∀w:World,Calls Tryz.prog 79 #[.int .u64 (h:Int),.int .u64 (x:Int)] w fun e w'=>e=.returned (.tuple #[.int .u64 0,.int .u64 (d:Int)])∧w'=w)
  (k:∀w:World,(callFunc 80 #[.int .u64 (a:Int),.int .u64 (d:Int),.int .u64 0]).run Tryz.prog w=.ok (.value (.tuple #[.int .u64 (m:Int),.int .u64 0])) w)
  (g:¬ m<q) (g2:¬ m=q) (w:World) :
  Calls Tryz.prog 49 #[.int .u64 (x:Int),.int .u64 (p:Int),.int .i64 3] w fun e w'=>e=.returned (.bool false)∧w'=w:=by
 have sh:(p:Int)*4294967296%18446744073709551616=(q:Int):=by omega
 have sh2:(p:Int)*4294967296=(q:Int):=by omega
 go_enter Tryz.func49,Tryz.ntmps49
 go_wp2_with (first | (go_at_call 79;with_reducible refine (m1 _).mono ?_;rintro e w' ⟨rfl,rfl⟩) | (go_at_call 79;with_reducible refine (m2 _).mono ?_;rintro e w' ⟨rfl,rfl⟩) | (go_at_call 79;with_reducible refine (m3 _).mono ?_;rintro e w' ⟨rfl,rfl⟩) | simp only[k])
 go_ret
 exact ⟨rfl,rfl⟩
def belN (x p:Nat) (k:Int):Bool:=if k=2 then (decide (hiN x x<p)||decide (hiN x x=p)&&decide (loN x x=0)) else (decide (hiN (loN x x) x+loN (hiN x x) x<p*4294967296)||decide (hiN (loN x x) x+loN (hiN x x) x=p*4294967296)&&decide (loN (loN x x) x=0))
theorem below_all (x p:Nat) (k:Int) (hx:x<549755813888) (hp:p<4294967296) (hk:k=2∨k=3) (w:World) :
  Calls Tryz.prog 49 #[.int .u64 (x:Int),.int .u64 (p:Int),.int .i64 k] w fun e w'=>e=.returned (.bool (belN x p k))∧w'=w:=by
 rcases hk with rfl | rfl
 ·rw[show belN x p 2=(decide (hiN x x<p)||decide (hiN x x=p)&&decide (loN x x=0)) from if_pos rfl]
  exact below2 x p hx hp w
 ·rw[show belN x p 3=(decide (hiN (loN x x) x+loN (hiN x x) x<p*4294967296)||decide (hiN (loN x x) x+loN (hiN x x) x=p*4294967296)&&decide (loN (loN x x) x=0)) from if_neg (by decide)]
  obtain ⟨f0,f1,f2⟩:=b3_facts x hx
  have m1:=mulG x x (by omega) (by omega)
  have m2:=mulG (loN x x) x (lo_lt _ _) (by omega)
  have m3:=mulG (hiN x x) x f2 (by omega)
  have k:=add64I (hiN (loN x x) x) (loN (hiN x x) x) f1
  rw[f0] at m3
  generalize hm:hiN (loN x x) x+loN (hiN x x) x=m at *
  generalize hq:p*4294967296=q
  by_cases g1:m<q
  ·rw[decide_eq_true g1]
   exact below3a x p _ _ _ _ _ m q hx hp f1 hq m1 m2 m3 k g1 w
  ·rw[decide_eq_false g1]
   by_cases g2:m=q
   ·rw[decide_eq_true g2]
    by_cases g3:loN (loN x x) x=0
    ·rw[decide_eq_true g3]
     exact below3b x p _ _ _ _ _ m q hx hp f1 hq m1 m2 m3 k g2 g3 w
    ·rw[decide_eq_false g3]
     exact below3c x p _ _ _ _ _ m q hx hp f1 hq m1 m2 m3 k g2 g3 w
   ·rw[decide_eq_false g2]
    exact below3d x p _ _ _ _ _ m q hx hp f1 hq m1 m2 m3 k g1 g2 w
def belM (x p k:Int):Bool:=belN x.toNat p.toNat k
def cBel:Con
 | [.int .u64 x,.int .u64 p,.int .i64 k],H,K=>bif (decide (0≤x)&&Nat.blt x.toNat 549755813888)&&((decide (0≤p)&&Nat.blt p.toNat 4294967296)&&(decide (k=2)||decide (k=3))) then K (.ret (.bool (belM x p k))) H else False
 | _,_,_=>False
theorem bel_ok:ValidF Tryz.prog gl0 49 cBel:=by
 refine valid_below (enters_of (by kernel_rfl)) fun args H Q hc m w vs hv => ?_
 unfold cBel at hc
 split at hc
 ·rename_i x p k
  cases hb:(decide (0≤x)&&Nat.blt x.toNat 549755813888)&&((decide (0≤p)&&Nat.blt p.toNat 4294967296)&&(decide (k=2)||decide (k=3)))
  ·rw[hb] at hc;exact hc.elim
  ·rw[hb] at hc
   simp only[Bool.and_eq_true,Bool.or_eq_true,decide_eq_true_eq,blt_iff] at hb
   obtain ⟨v1,l1,e1,h1,r1⟩:=VRL_consL hv
   obtain ⟨v2,l2,e2,h2,r2⟩:=VRL_consL r1
   obtain ⟨v3,l3,e3,h3,r3⟩:=VRL_consL r2
   rw[VRL_nil] at r3
   subst r3;subst e3;subst e2
   obtain rfl:vs = #[v1,v2,v3]:=by cases vs;simp_all
   simp only[VR] at h1 h2 h3
   subst h1;subst h2;subst h3
   obtain ⟨x,rfl⟩:∃n:Nat,x=n:=⟨x.toNat,by omega⟩
   obtain ⟨p,rfl⟩:∃n:Nat,p=n:=⟨p.toNat,by omega⟩
   exact ⟨_,.bool (belM x p k),hc,by rw[VR],(below_all x p k (by omega) (by omega) hb.2.2 w).mono fun e w' ⟨h1,h2⟩=>⟨h1,by rw[h2];exact Below.refl _ _⟩⟩
 ·exact hc.elim
end Go.Proofs.YtjenieljapmehaaGreatDoor

set_option linter.unusedSimpArgs false
set_option linter.unusedVariables false
set_option linter.unusedSectionVars false
namespace Go.Proofs.YtjenieljapmehaaGreatDoor
open Go.RowKit
set_option maxRecDepth 1000000

def bisN (p:Nat) (k:Int):Nat→Nat→Nat→Nat
 | 0,lo,_=>lo
 | n+1,lo,hi=>bif belN ((lo+hi)/2) p k then bisN p k n ((lo+hi)/2) hi else bisN p k n lo ((lo+hi)/2)
def rootN (p:Nat) (k:Int):Nat:=bisN p k 38 0 274877906944%4294967296
def rootM (p k:Int):Int:=((rootN p.toNat k:Nat):Int)
def smBe:SM:=lookS [(49,cBel)]
theorem smBe_ok:∀f g,smBe f=some g→ValidF Tryz.prog gl0 f g:=lookS_ok _ (by simp only[List.mem_cons,List.not_mem_nil,or_false,forall_eq];exact bel_ok)
def inv_88 (p:Nat) (k:Int) (s:S):List (List LInv):=[[{ α:=Nat×Nat×Nat,pre:=fun x=>Lf (x.1≤38∧x.2.2=x.2.1+2^(38-x.1)∧x.2.2≤274877906944∧bisN p k (38-x.1) x.2.1 x.2.2=bisN p k 38 0 274877906944),st:=fun x=>⟨mkT [(0,s.tm.get 0),(1,s.tm.get 1),(5,.int .u64 (x.2.1:Nat)),(6,.int .u64 (x.2.2:Nat))],[]⟩,mu:=fun x=>38-x.1 }]]
noncomputable def env_88 (hv:Nat→Option Pa) (hb:Nat→Option Bool) (p:Nat) (k:Int):Env:=e18 smBe (fun i=>bif Nat.beq i 22000 then some (inv_88 p k) else none) hv hb
noncomputable def goal_88 (hv:Nat→Option Pa) (hb:Nat→Option Bool) (p:Nat) (k:Int) (Q:Out→List Blk→Gh→Prop):Prop:=
 callx (env_88 hv hb p k) (wpx (env_88 hv hb p k) 1000) 22 [.int .i64 (p:Nat),.int .i64 k] [] {} Q
theorem vc_88 (p:Nat) (k:Int) (Q:Out→List Blk→Gh→Prop):goal_88 (lookV [(90120,.int .u64),(90121,.int .u64),(90122,.int .u64),(90124,.int .u64),(90125,.int .u64),(90126,.int .u64),(90127,.int .u64),(90129,.int
 .i64),(90130,.int .u64),(90135,.int .u64),(90136,.int .u64),(90137,.int .i64)]) (lookB []) p k Q=((∃x_0:Nat×Nat×Nat,Lf (x_0.1≤38∧x_0.2.2=x_0.2.1+(2:Nat)^(38-x_0.1)∧x_0.2.2≤274877906944∧bisN p k (38 -
 x_0.1) x_0.2.1 x_0.2.2=bisN p k 38 0 274877906944)∧eqqQ (AV.int .i64 (p:Int))∧eqqQ (AV.int .i64 k)∧AV.int .u64 0=AV.int .u64 (x_0.2.1:Int)∧AV.int .u64 274877906944=AV.int .u64 (x_0.2.2:Int)∧True)∧∀x_0:Nat×Nat ×
 Nat,Lf (x_0.1≤38∧x_0.2.2=x_0.2.1+(2:Nat)^(38-x_0.1)∧x_0.2.2≤274877906944∧bisN p k (38-x_0.1) x_0.2.1 x_0.2.2=bisN p k 38 0 274877906944)→exI .u64 (x_0.2.1:Int) fun n_1=>exW .u64 (n_1+1) fun n_2=>exI .u64
 (x_0.2.2:Int) fun n_3=>bif decide (n_2<n_3) then exI .u64 (x_0.2.1:Int) fun n_4=>exI .u64 (x_0.2.2:Int) fun n_5=>exW .u64 (n_4+n_5) fun n_6=>exW .u64 (n_6.tdiv 2) fun n_7=>exI .i64 (p:Int) fun n_8=>exW .u64 n_8 fun
 n_9=>ckQ (decide (0≤n_7)&&Nat.blt n_7.toNat 549755813888&&(decide (0≤n_9)&&Nat.blt n_9.toNat 4294967296&&(decide (k=2)||decide (k=3)))) (bif belM n_7 n_9 k then (True∧(0:Nat)=(0:Nat))∧∃y_10:Nat×Nat×Nat,
 Lf (y_10.1≤38∧y_10.2.2=y_10.2.1+(2:Nat)^(38-y_10.1)∧y_10.2.2≤274877906944∧bisN p k (38-y_10.1) y_10.2.1 y_10.2.2=bisN p k 38 0 274877906944)∧38-y_10.1<38-x_0.1∧eqqQ (AV.int .i64 (p:Int))∧eqqQ (AV.int
 .i64 k)∧AV.int .u64 n_7=AV.int .u64 (y_10.2.1:Int)∧AV.int .u64 (x_0.2.2:Int)=AV.int .u64 (y_10.2.2:Int)∧True else (True∧(0:Nat)=(0:Nat))∧∃y_10:Nat×Nat×Nat,Lf (y_10.1≤38∧y_10.2.2=y_10.2.1+(2:Nat)
 ^ (38-y_10.1)∧y_10.2.2≤274877906944∧bisN p k (38-y_10.1) y_10.2.1 y_10.2.2=bisN p k 38 0 274877906944)∧38-y_10.1<38-x_0.1∧eqqQ (AV.int .i64 (p:Int))∧eqqQ (AV.int .i64 k)∧AV.int .u64 (x_0.2.1:Int)=AV.int .u64
 (y_10.2.1:Int)∧AV.int .u64 n_7=AV.int .u64 (y_10.2.2:Int)∧True) else exI .u64 (x_0.2.1:Int) fun n_4=>exI .u64 (n_4.tmod 4294967296) fun n_5=>exW .i64 n_5 fun n_6=>Q (.ret (.int .i64 n_6)) [] {}):=by kernel_rfl

end Go.Proofs.YtjenieljapmehaaGreatDoor

set_option linter.unusedSimpArgs false
set_option linter.unusedVariables false
set_option linter.unusedSectionVars false
namespace Go.Proofs.YtjenieljapmehaaGreatDoor
open Go.RowKit
set_option maxRecDepth 1000000

theorem wU64 {x:Int} {K:Int→Prop} (h0:0≤x) (h1:x≤18446744073709551615) (h:K x):∃n,AV.int .u64 (IntKind.wrap .u64 x)=AV.int .u64 n∧K n:=
 ⟨x,by rw[show IntKind.wrap .u64 x=x%18446744073709551616 from rfl,Int.emod_eq_of_lt h0 (by omega)],h⟩
theorem two_pos (n:Nat):0<2^n:=Nat.two_pow_pos n
theorem root_run (p:Nat) (k:Int) (hp:p<4294967296) (hk:k=2∨k=3) (Q:Out→List Blk→Gh→Prop) (hq:Q (.ret (.int .i64 (rootN p k:Nat))) [] {}):∃hv hb,goal_88 hv hb p k Q:=by
 obtain ⟨hv',hb',e'⟩:∃hv hb,goal_88 hv hb p k Q=_:=⟨_,_,vc_88 p k Q⟩
 refine ⟨hv',hb',e'.mpr ?_⟩
 clear e'
 refine ⟨⟨(0,0,274877906944),⟨by decide,by decide,by decide,rfl⟩,rfl,rfl,rfl,rfl,trivial⟩, ?_⟩
 rintro ⟨i,lo,hi⟩ ⟨h1,h2,h3,h4⟩
 dsimp only at h1 h2 h3 h4
 dsimp only
 have hpw:=two_pos (38-i)
 refine ⟨_,rfl,wU64 (by omega) (by omega) ⟨_,rfl,splitD (fun h5 => ?_) (fun h5 => ?_)⟩⟩
 ·have hi38:i<38:=by
   rcases Nat.lt_or_ge i 38 with g | g
   ·exact g
   ·rw[show 38-i=0 by omega] at h2
    simp only[Nat.pow_zero] at h2
    exact absurd h5 (by omega)
  have e1:38-i=(38-(i+1))+1:=by omega
  have hp2:=two_pos (38-(i+1))
  rw[e1,Nat.pow_succ] at h2
  rw[e1,bisN] at h4
  have hm:(lo+hi)/2=lo+2^(38-(i+1)):=by omega
  refine ⟨_,rfl,_,rfl,wU64 (by omega) (by omega) ?_⟩
  refine ⟨(((lo+hi)/2:Nat):Int), ?_,_,rfl,wU64 (by omega) (by omega) (ckI ?_ ?_)⟩
  ·rw[show Int.tdiv ((lo:Int)+hi) 2=(((lo+hi)/2:Nat):Int) by rw[Int.tdiv_eq_ediv_of_nonneg (by omega)];omega]
   rw[show IntKind.wrap .u64 (((lo+hi)/2:Nat):Int)=(((lo+hi)/2:Nat):Int)%18446744073709551616 from rfl,Int.emod_eq_of_lt (by omega) (by omega)]
  ·simp only[Bool.and_eq_true,Bool.or_eq_true,decide_eq_true_eq,Nat.blt_eq]
   exact ⟨⟨by omega,by omega⟩,⟨by omega,by omega⟩,hk⟩
  ·have eb:belM (((lo+hi)/2:Nat):Int) (p:Int) k=belN ((lo+hi)/2) p k:=by rw[belM,Int.toNat_natCast,Int.toNat_natCast]
   rw[eb]
   cases hb:belN ((lo+hi)/2) p k with
   | true=>
    rw[hb,cond_true] at h4
    exact ⟨⟨trivial,rfl⟩,(i+1,(lo+hi)/2,hi),⟨by omega,by show hi=(lo+hi)/2+2^(38-(i+1));omega,h3,h4⟩,by show 38-(i+1)<38-i;omega,rfl,rfl,rfl,rfl,trivial⟩
   | false=>
    rw[hb,cond_false] at h4
    exact ⟨⟨trivial,rfl⟩,(i+1,lo,(lo+hi)/2),⟨by omega,hm,by show (lo+hi)/2≤274877906944;omega,h4⟩,by show 38-(i+1)<38-i;omega,rfl,rfl,rfl,rfl,trivial⟩
 ·have h38:i=38:=by
   rcases Nat.lt_or_ge i 38 with g | g
   ·have e1:38-i=(38-(i+1))+1:=by omega
    have hp2:=two_pos (38-(i+1))
    rw[e1,Nat.pow_succ] at h2
    exact absurd (show ((lo:Int)+1<hi) by omega) h5
   ·omega
  subst h38
  have h4':lo=bisN p k 38 0 274877906944:=h4
  have er:Int.tmod (lo:Int) 4294967296=((rootN p k:Nat):Int):=by
   rw[rootN,←h4',Int.tmod_eq_emod_of_nonneg (by omega)];omega
  have hr:rootN p k<4294967296:=Nat.mod_lt _ (by decide)
  exact ⟨_,rfl,((rootN p k:Nat):Int),congrArg _ er,wrapI (by omega) (by omega) hq⟩
def cRootC:Con
 | [.int .i64 p,.int .i64 k],H,K=>bif (decide (0≤p)&&Nat.blt p.toNat 4294967296)&&(decide (k=2)||decide (k=3)) then K (.ret (.int .i64 (rootM p k))) H else False
 | _,_,_=>False
theorem root_ok:ValidF Tryz.prog gl0 22 cRootC:=by
 refine valid_flat (enters_of (by kernel_rfl)) gl0_noY fun args H Q hc => ?_
 unfold cRootC at hc
 split at hc
 ·rename_i p k
  cases hb:(decide (0≤p)&&Nat.blt p.toNat 4294967296)&&(decide (k=2)||decide (k=3))
  ·rw[hb] at hc;exact hc.elim
  ·rw[hb] at hc
   simp only[Bool.and_eq_true,Bool.or_eq_true,decide_eq_true_eq,blt_iff] at hb
   obtain ⟨p,rfl⟩:∃n:Nat,p=n:=⟨p.toNat,by omega⟩
   obtain ⟨hv,hb',h⟩:=root_run p k (by omega) hb.2 (Q:=fun o H' _=>H'=[]∧(∃v,o=.ret v∧old 0 v=true∧noY v=true)∧Q o H) ⟨rfl,⟨_,rfl,rfl,rfl⟩,hc⟩
   exact ⟨rfl,rfl,_,1000,envFor18 smBe_ok _ _ _,rfl,h⟩
 ·exact hc.elim
def cRootQ:ConQ
 | [.int .i64 p,.int .i64 k],H=>bif (decide (0≤p)&&Nat.blt p.toNat 4294967296)&&(decide (k=2)||decide (k=3)) then some (.ret (.int .i64 (rootM p k)),H) else none
 | _,_=>none
theorem rootQ_ok:ValidF Tryz.prog gl0 22 (toP cRootQ):=valid_to root_ok fun args H o H' K ho hk=>by
 unfold cRootQ at ho
 split at ho
 ·rename_i p k
  show (bif (decide (0≤p)&&Nat.blt p.toNat 4294967296)&&(decide (k=2)||decide (k=3)) then K (.ret (.int .i64 (rootM p k))) H else False)
  cases hb:(decide (0≤p)&&Nat.blt p.toNat 4294967296)&&(decide (k=2)||decide (k=3))<;>rw[hb] at ho
  ·cases ho
  ·cases ho;exact hk
 ·cases ho
end Go.Proofs.YtjenieljapmehaaGreatDoor
