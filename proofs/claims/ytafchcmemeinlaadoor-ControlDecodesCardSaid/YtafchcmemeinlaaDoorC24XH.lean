/-
  Chapter 24: a packet as octets: the goals.
-/
import Derived.Test.YtafchcmemeinlaaDoorC24XG
set_option linter.unusedSimpArgs false
set_option linter.unusedVariables false
set_option linter.unusedSectionVars false
namespace Go.Proofs.YtafchcmemeinlaaDoor
open Go.RowKit
set_option maxRecDepth 1000000

def aF3 (r:Rc):List UInt8:=aJ 4 [r.1]++aJ 1 [r.2.1]++aJ 3 [r.2.2.1]++aJ 4 [r.2.2.2.1,r.2.2.2.2.1,r.2.2.2.2.2.1,r.2.2.2.2.2.2]
def bY (l:List Rc):List UInt8:=l.flatMap aF3
def dE (l:List (Int×Int)):List UInt8:=l.flatMap fun p=>aJ 2 [p.1,p.2]
def fZ (b:List UInt8):List UInt8:=b++List.replicate ((4-b.length%4)%4) 0
def iX (k:Int):Int:=if k=1 then 200 else if k=2 then 201 else if k=3 then 203 else if k=5 then 206 else 205
def dG (c:Ctl):List UInt8:=aJ 4 [c.f]++(if 4≤c.k then aJ 4 [c.a] else [])++(if c.k=1 then aJ 4 [c.s1,c.s2,c.s3,c.s4,c.s5] else [])++bY c.rs++dE (aM c.lo)++(if c.k=6 then aJ 2 [c.ba]++pJ c.ti c.ro else [])
def jV (c:Ctl):Int:=if c.k≤2 then (c.rs.length:Int) else if c.k=6 then 15 else 1
def fJ (n k:Int) (b:List UInt8):List UInt8:=aJ 1 [128+n,k]++aJ 2 [((b.length/4:Nat):Int)]++b
def cZ (c:Ctl):List UInt8:=fJ (jV c) (iX c.k) (fZ (dG c))
noncomputable def aXt (hv:Nat→Option Pa) (hb:Nat→Option Bool) (t:Nat) (Q:Out→List Blk→Gh→Prop):Prop:=
 bH (e24 sm0 (fun _=>none) hv hb) (wpx (e24 sm0 (fun _=>none) hv hb) 1000) 44 [.lst t [] 0 1] [] {} Q
theorem bHh (t:Nat) (Q:Out→List Blk→Gh→Prop):aXt (bG []) (bF []) t Q=(
(Q (Out.ret AV.nils) [] (Gh.mk (0:Nat) (0:Nat) []))):=by kernel_rfl

def aHp:Con
 | [.lst _ [] 0 1],H,K=>K (.ret (.lst 0 [] 0 2)) H
 | _,_,_=>False
theorem aOe:aO Tryd.prog glC 44 aHp:=by
 refine fE (enters_of (by kernel_rfl)) aV 9 (nlR [2]) (vZ _) fun args H Q hc => ?_
 unfold aHp at hc
 split at hc
 ·exact ⟨rfl,rfl,_,1000,aS fB _ _ _,rfl,(bHh _ _).mpr ⟨_,rfl,hc⟩⟩
 ·exact hc.elim
def aG2:SM:=gH [(67,aNx),(44,aHp),(68,bMo)]
theorem oN:∀f g,aG2 f=some g→aO Tryd.prog glC f g:=bW _ (by simp only[List.mem_cons,List.not_mem_nil,or_false,forall_eq_or_imp,forall_eq];exact ⟨aQ2,aOe,aYu⟩)
def bBc:SM:=gH [(67,aNx),(44,aCl),(68,bMo)]
theorem aU8:∀f g,bBc f=some g→aO Tryd.prog glC f g:=bW _ (by simp only[List.mem_cons,List.not_mem_nil,or_false,forall_eq_or_imp,forall_eq];exact ⟨aQ2,aVi,aYu⟩)
def aJg (f s1 s2 s3 s4 s5:Int) (rs:List Rc):LInv where
 α:=Nat×List UInt8
 pre x:=Lf (x.1≤rs.length∧x.2=(aJ 4 [f]++aJ 4 [s1,s2,s3,s4,s5]++bY (rs.take x.1)))
 st x:=⟨mkT [(0,.nils),(3,.ptr 0 13 0),(5,.int .i64 (rs.length:Nat)),(6,.ptr 1 5 0),(7,.sl 2 x.2.length 0 x.2.length 1),(48,.lst 0 (aF rs) rs.length 7),(49,.int .i64 (rs.length:Nat)),(50,.int .i64 (x.1:Nat))],[⟨.exact,true,ctC ⟨1,f,0,s1,s2,s3,s4,s5,rs,[],0,0,[]⟩⟩,⟨.exact,true,b5 false true true false false⟩,⟨.grow,true,ofBytes x.2⟩]⟩
 mu x:=rs.length-x.1
noncomputable def zA (hv:Nat→Option Pa) (hb:Nat→Option Bool) (f s1 s2 s3 s4 s5:Int) (rs:List Rc) (Q:Out→List Blk→Gh→Prop):Prop:=
 bH (e24 aG2 (fun i=>bif Nat.beq i 46000 then some (fun _=>[[aJg f s1 s2 s3 s4 s5 rs]]) else none) hv hb) (wpx (e24 aG2 (fun i=>bif Nat.beq i 46000 then some (fun _=>[[aJg f s1 s2 s3 s4 s5 rs]]) else none) hv hb) 1000) 46 [.nils,.agg (ctC ⟨1,f,0,s1,s2,s3,s4,s5,rs,[],0,0,[]⟩)] [] {} Q
abbrev tlB (f:Int) (rs:List Rc) (Q:Out→List Blk→Gh→Prop) (a0:Nat×List UInt8) (a1:Int) (a2:Int) (a3:Int) (a4:Int) (a5:Int) (a6:Int) (a7:Int) (a8:Bool):Prop:=
ckQ (Nat.beq (ofBytes a0.2).length a0.2.length) (exI .i64 (a0.2.length:Int) fun u_0=>exW .i64 (0-u_0) fun u_1=>exW .i64 (((u_1%18446744073709551616).toNat &&& 3:Nat):Int) fun u_2=>ckQ (decide (0≤u_2)&&decide (u_2 ≤
 1099511627776)&&tO (List.replicate u_2.toNat [AV.int .u8 0]).flatten&&true&&Nat.ble (u_2.toNat*1) 1099511627776) (bif decide (u_2=0) then ckQ (Nat.beq u_2.toNat 0) (ckQ (Nat.beq (ofBytes a0.2).length a0.2.length&&true) (exI
 .i64 (rs.length:Int) fun u_3=>exW .i64 ((128 ||| (u_3%18446744073709551616).toNat:Nat):Int) fun u_4=>∃u_5:List Int,Lf ([AV.int .i64 u_4,.int .i64 (a1:Int)]=aA u_5∧2=u_5.length∧(1:Int)≤(1:Int)∧(1 :
 Int)≤(7:Int)∧1≤u_5.length∧u_5.length≤1000000)∧ckQ (Nat.beq (ofBytes a0.2).length a0.2.length) (exI .i64 (a0.2.length:Int) fun u_6=>exW .i64 (u_6.tdiv 4) fun u_7=>∃u_8:List UInt8,∃u_9:List Int,Lf
 (GetElem?.getElem? [Blk.mk BK.exact true [.int .i64 (a2:Int),.int .i64 f,.int .i64 0,.int .i64 a3,.int .i64 a4,.int .i64 a5,.int .i64 a6,.int .i64 a7,.lst 0 (aF rs) rs.length 7,.lst 0 [] 0 1,.int .i64 0,.int .i64 0,.lst
 0 [] 0 1],Blk.mk BK.exact true [.bool false,.bool a8,.bool true,.bool false,.bool false],Blk.mk BK.grow true (ofBytes a0.2),Blk.mk BK.grow true (ofBytes (aJ 1 u_5))] 3=Option.some (Blk.mk BK.grow true (ofBytes u_8))∧(aJ 1
 u_5).length=u_8.length∧(aJ 1 u_5).length=u_8.length∧u_8.length≤1000000∧[AV.int .i64 u_7]=aA u_9∧1=u_9.length∧(1:Int)≤(2:Int)∧(2:Int)≤(7:Int)∧u_9.length≤1000000)∧ckQ (Nat.beq (ofBytes
 a0.2).length a0.2.length&&true&&Nat.ble (0+a0.2.length*1) a0.2.length&&tO (((ofBytes a0.2).drop 0).take (a0.2.length*1))&&true&&Nat.ble (a0.2.length*1) 1099511627776) (bif Nat.beq a0.2.length 0 then ckQ (Nat.beq
 a0.2.length 0) (ckQ (Nat.beq (ofBytes (u_8++aJ 2 u_9)).length (u_8++aJ 2 u_9).length&&true) (Q (.ret (.sl 3 (u_8++aJ 2 u_9).length 0 (u_8++aJ 2 u_9).length 1)) [Blk.mk BK.exact true [.int .i64 (a2:Int),.int .i64 f,
 .int .i64 0,.int .i64 a3,.int .i64 a4,.int .i64 a5,.int .i64 a6,.int .i64 a7,.lst 0 (aF rs) rs.length 7,.lst 0 [] 0 1,.int .i64 0,.int .i64 0,.lst 0 [] 0 1],Blk.mk BK.exact true [.bool false,.bool a8,.bool true,.bool
 false,.bool false],Blk.mk BK.grow true (ofBytes a0.2),Blk.mk BK.grow true (ofBytes (u_8++aJ 2 u_9))] {})) else ckQ (Nat.blt 0 a0.2.length) (ckQ (Nat.beq (ofBytes (u_8++aJ 2 u_9)).length (u_8++aJ 2 u_9).length&&true &&
 Nat.beq (0+(u_8++aJ 2 u_9).length*1) (u_8++aJ 2 u_9).length&&Nat.ble ((u_8++aJ 2 u_9).length+a0.2.length) 1099511627776&&Nat.ble (((u_8++aJ 2 u_9).length+a0.2.length)*1) 1099511627776) (Q (.ret (.sl 3 ((u_8 ++
 aJ 2 u_9).length+(((ofBytes a0.2).drop 0).take (a0.2.length*1)).length) 0 ((u_8++aJ 2 u_9).length+a0.2.length) 1)) [Blk.mk BK.exact true [.int .i64 (a2:Int),.int .i64 f,.int .i64 0,.int .i64 a3,.int .i64 a4,.int .i64 a5,
 .int .i64 a6,.int .i64 a7,.lst 0 (aF rs) rs.length 7,.lst 0 [] 0 1,.int .i64 0,.int .i64 0,.lst 0 [] 0 1],Blk.mk BK.exact true [.bool false,.bool a8,.bool true,.bool false,.bool false],Blk.mk BK.grow true (ofBytes a0.2),
 Blk.mk BK.grow (bB 0 (((ofBytes a0.2).drop 0).take (a0.2.length*1))) (ofBytes (u_8++aJ 2 u_9)++((ofBytes a0.2).drop 0).take (a0.2.length*1))] {})))))) else ckQ (Nat.blt 0 u_2.toNat) (ckQ (Nat.beq (ofBytes a0.2).length
 a0.2.length&&true&&Nat.beq (0+a0.2.length*1) a0.2.length&&Nat.ble (a0.2.length+u_2.toNat) 1099511627776&&Nat.ble ((a0.2.length+u_2.toNat)*1) 1099511627776) (exI .i64 (rs.length:Int) fun u_10=>exW .i64 ((128 ||| (u_10
 % 18446744073709551616).toNat:Nat):Int) fun u_11=>∃u_12:List Int,Lf ([AV.int .i64 u_11,.int .i64 (a1:Int)]=aA u_12∧2=u_12.length∧(1:Int)≤(1:Int)∧(1:Int)≤(7:Int)∧1≤u_12.length∧u_12.length ≤
 1000000)∧ckQ (Nat.beq (ofBytes a0.2++(List.replicate u_2.toNat [AV.int .u8 0]).flatten).length (a0.2.length+(List.replicate u_2.toNat [AV.int .u8 0]).flatten.length)) (exI .i64 ((a0.2.length+u_2.toNat:Nat):Int) fun u_13=>exW
 .i64 (u_13.tdiv 4) fun u_14=>∃u_15:List UInt8,∃u_16:List Int,Lf (GetElem?.getElem? [Blk.mk BK.exact true [.int .i64 (a2:Int),.int .i64 f,.int .i64 0,.int .i64 a3,.int .i64 a4,.int .i64 a5,.int .i64 a6,.int .i64 a7,.lst
 0 (aF rs) rs.length 7,.lst 0 [] 0 1,.int .i64 0,.int .i64 0,.lst 0 [] 0 1],Blk.mk BK.exact true [.bool false,.bool a8,.bool true,.bool false,.bool false],Blk.mk BK.grow (bB 0 (List.replicate u_2.toNat [AV.int .u8
 0]).flatten) (ofBytes a0.2++(List.replicate u_2.toNat [AV.int .u8 0]).flatten),Blk.mk BK.grow true (ofBytes (aJ 1 u_12))] 3=Option.some (Blk.mk BK.grow true (ofBytes u_15))∧(aJ 1 u_12).length=u_15.length∧(aJ 1 u_12).length
 = u_15.length∧u_15.length≤1000000∧[AV.int .i64 u_14]=aA u_16∧1=u_16.length∧(1:Int)≤(2:Int)∧(2:Int)≤(7:Int)∧u_16.length≤1000000)∧ckQ (Nat.beq (ofBytes a0.2++(List.replicate u_2.toNat [AV.int .u8
 0]).flatten).length (a0.2.length+(List.replicate u_2.toNat [AV.int .u8 0]).flatten.length)&&true&&Nat.ble (0+(a0.2.length+u_2.toNat)*1) (a0.2.length+(List.replicate u_2.toNat [AV.int .u8 0]).flatten.length)&&tO (((ofBytes
 a0.2++(List.replicate u_2.toNat [AV.int .u8 0]).flatten).drop 0).take ((a0.2.length+u_2.toNat)*1))&&true&&Nat.ble ((a0.2.length+u_2.toNat)*1) 1099511627776) (bif Nat.beq (a0.2.length+u_2.toNat) 0 then ckQ (Nat.beq
 (a0.2.length+u_2.toNat) 0) (ckQ (Nat.beq (ofBytes (u_15++aJ 2 u_16)).length (u_15++aJ 2 u_16).length&&true) (Q (.ret (.sl 3 (u_15++aJ 2 u_16).length 0 (u_15++aJ 2 u_16).length 1)) [Blk.mk BK.exact true [.int .i64 (a2 :
 Int),.int .i64 f,.int .i64 0,.int .i64 a3,.int .i64 a4,.int .i64 a5,.int .i64 a6,.int .i64 a7,.lst 0 (aF rs) rs.length 7,.lst 0 [] 0 1,.int .i64 0,.int .i64 0,.lst 0 [] 0 1],Blk.mk BK.exact true [.bool false,.bool a8,
 .bool true,.bool false,.bool false],Blk.mk BK.grow (bB 0 (List.replicate u_2.toNat [AV.int .u8 0]).flatten) (ofBytes a0.2++(List.replicate u_2.toNat [AV.int .u8 0]).flatten),Blk.mk BK.grow true (ofBytes (u_15++aJ 2 u_16))] {}))
 else ckQ (Nat.blt 0 (a0.2.length+u_2.toNat)) (ckQ (Nat.beq (ofBytes (u_15++aJ 2 u_16)).length (u_15++aJ 2 u_16).length&&true&&Nat.beq (0+(u_15++aJ 2 u_16).length*1) (u_15++aJ 2 u_16).length&&Nat.ble ((u_15 ++
 aJ 2 u_16).length+(a0.2.length+u_2.toNat)) 1099511627776&&Nat.ble (((u_15++aJ 2 u_16).length+(a0.2.length+u_2.toNat))*1) 1099511627776) (Q (.ret (.sl 3 ((u_15++aJ 2 u_16).length+(((ofBytes a0.2++(List.replicate
 u_2.toNat [AV.int .u8 0]).flatten).drop 0).take ((a0.2.length+u_2.toNat)*1)).length) 0 ((u_15++aJ 2 u_16).length+(a0.2.length+u_2.toNat)) 1)) [Blk.mk BK.exact true [.int .i64 (a2:Int),.int .i64 f,.int .i64 0,.int .i64 a3,
 .int .i64 a4,.int .i64 a5,.int .i64 a6,.int .i64 a7,.lst 0 (aF rs) rs.length 7,.lst 0 [] 0 1,.int .i64 0,.int .i64 0,.lst 0 [] 0 1],Blk.mk BK.exact true [.bool false,.bool a8,.bool true,.bool false,.bool false],Blk.mk
 BK.grow (bB 0 (List.replicate u_2.toNat [AV.int .u8 0]).flatten) (ofBytes a0.2++(List.replicate u_2.toNat [AV.int .u8 0]).flatten),Blk.mk BK.grow (bB 0 (((ofBytes a0.2++(List.replicate u_2.toNat [AV.int .u8 0]).flatten).drop
 0).take ((a0.2.length+u_2.toNat)*1))) (ofBytes (u_15++aJ 2 u_16)++((ofBytes a0.2++(List.replicate u_2.toNat [AV.int .u8 0]).flatten).drop 0).take ((a0.2.length+u_2.toNat)*1))] {}))))))))
abbrev aM8 (f:Int) (xs_0:List Int):Prop:=Lf ([AV.int .i64 f]=aA xs_0∧1=xs_0.length∧(1:Int)≤(4:Int)∧(4:Int)≤(7:Int)∧1≤xs_0.length∧xs_0.length≤1000000)
abbrev aFv (rs:List Rc):AV:=.lst 0 (aF rs) rs.length 7
abbrev aNm (f s1 s2 s3 s4 s5:Int) (rs:List Rc):Blk:=Blk.mk BK.exact true [.int .i64 1,.int .i64 f,.int .i64 0,.int .i64 s1,.int .i64 s2,.int .i64 s3,.int .i64 s4,.int .i64 s5,aFv rs,.lst 0 [] 0 1,.int .i64 0,.int .i64 0,.lst 0 [] 0 1]
abbrev aM5:Blk:=Blk.mk BK.exact true [.bool false,.bool true,.bool true,.bool false,.bool false]
abbrev aFb (xs_0:List Int):Blk:=Blk.mk BK.grow true (ofBytes (aJ 4 xs_0))
abbrev jA (bs_1:List UInt8):Blk:=Blk.mk BK.grow true (ofBytes bs_1)
abbrev uE (xs_0:List Int) (bs_1:List UInt8):Prop:=(aJ 4 xs_0).length=bs_1.length
abbrev gD (bs_1:List UInt8):Prop:=bs_1.length≤1000000
abbrev aLe (xs_2:List Int):Prop:=(1:Int)≤(4:Int)∧(4:Int)≤(7:Int)∧xs_2.length≤1000000
abbrev aFl (x_5:Nat×List UInt8) (rs:List Rc) (f s1 s2 s3 s4 s5:Int):Prop:=Lf (x_5.1≤rs.length∧x_5.2=aJ 4 [f]++aJ 4 [s1,s2,s3,s4,s5]++bY (rs.take x_5.1))
abbrev bGh (f s1 s2 s3 s4 s5:Int) (rs:List Rc):Prop:=aK [AV.int .i64 1,.int .i64 f,.int .i64 0,.int .i64 s1,.int .i64 s2,.int .i64 s3,.int .i64 s4,.int .i64 s5,aFv rs,.lst 0 [] 0 1,.int .i64 0,.int .i64 0,.lst 0 [] 0 1]
abbrev aLk:Prop:=aK [AV.bool false,.bool true,.bool true,.bool false,.bool false]
abbrev aAa (bs_1:List UInt8) (xs_2:List Int):List AV:=ofBytes (bs_1++aJ 4 xs_2)
abbrev iG (bs_1:List UInt8) (xs_2:List Int):Nat:=(bs_1++aJ 4 xs_2).length
abbrev aBh (rs:List Rc):AV:=.int .i64 (rs.length:Int)
abbrev tV (n_3:Int) (rs:List Rc):Prop:=AV.int .i64 n_3=aBh rs
abbrev aIn (rs:List Rc):Prop:=aK (AV.lst 0 (aF rs) rs.length 7)
abbrev aE8 (rs:List Rc):Prop:=aIn rs
abbrev xE (x_5:Nat×List UInt8):AV:=.int .i64 (x_5.1:Int)
abbrev sI (x_5:Nat×List UInt8):Nat:=(x_5.1:Int).toNat
abbrev aFd (x_5:Nat×List UInt8) (rs:List Rc):Bool:=Nat.ble ((x_5.1:Int).toNat*7+7) (aF rs).length
abbrev aEw (x_5:Nat×List UInt8) (rs:List Rc):AV:=.agg (((aF rs).drop (sI x_5*7)).take 7)
abbrev wL (x_5:Nat×List UInt8):Blk:=Blk.mk BK.grow true (ofBytes x_5.2)
abbrev oC (x_5:Nat×List UInt8) (bs_13:List UInt8):Prop:=x_5.2.length=bs_13.length
abbrev uB (xs_14:List Int):Prop:=1=xs_14.length∧aLe xs_14
abbrev wY (bs_13:List UInt8) (xs_14:List Int):Blk:=Blk.mk BK.grow true (aAa bs_13 xs_14)
abbrev aDx (xs_16:List Int):Prop:=1=xs_16.length∧(1:Int)≤(1:Int)∧(1:Int)≤(7:Int)∧xs_16.length≤1000000
abbrev aEr (bs_15:List UInt8) (xs_16:List Int):Blk:=Blk.mk BK.grow true (ofBytes (bs_15++aJ 1 xs_16))
abbrev tY (bs_15:List UInt8) (xs_16:List Int) (bs_17:List UInt8):Prop:=(bs_15++aJ 1 xs_16).length=bs_17.length
abbrev aFw (xs_18:List Int):Prop:=1=xs_18.length∧(1:Int)≤(3:Int)∧(3:Int)≤(7:Int)∧xs_18.length≤1000000
abbrev aFe (bs_17:List UInt8) (xs_18:List Int):Blk:=Blk.mk BK.grow true (ofBytes (bs_17++aJ 3 xs_18))
abbrev uK (bs_17:List UInt8) (xs_18:List Int) (bs_19:List UInt8):Prop:=(bs_17++aJ 3 xs_18).length=bs_19.length
abbrev zS:Prop:=True∧(0:Nat)=(0:Nat)
abbrev aXk (bs_19:List UInt8) (xs_20:List Int) (y_22:Nat×List UInt8) (rs:List Rc) (n_21:Int):Prop:=ofBytes (bs_19++aJ 4 xs_20)=ofBytes y_22.2∧AV.nils=AV.nils∧aK (AV.ptr 0 13 0)∧AV.sl 2 (iG bs_19 xs_20) 0 (iG bs_19 xs_20) 1=AV.sl 2 y_22.2.length 0 y_22.2.length 1∧aK (aBh rs)∧aK (aBh rs)∧aIn rs∧aK (AV.ptr 1 5 0)∧AV.int .i64 n_21=AV.int .i64 (y_22.1:Int)∧True
theorem aZ6 (f:Int) (s1:Int) (s2:Int) (s3:Int) (s4:Int) (s5:Int) (rs:List Rc) (Q:Out→List Blk→Gh→Prop):zA (bG [(188462,.int .i64),(188465,.int .i64),(188469,.agg [.int .i64,.int .i64,.int .i64,
 .int .i64,.int .i64,.int .i64,.int .i64]),(188496,.int .i64),(188523,.int .i64),(188524,.int .i64),(188525,.int .i64),(188528,.int .i64),(188529,.int .i64),(188538,.int .i64),(188539,.int .i64)]) (bF []) f s1 s2 s3 s4
 s5 rs Q=(∃xs_0:List Int,aM8 f xs_0∧∃bs_1:List UInt8,∃xs_2:List Int,Lf (GetElem?.getElem? [aNm f s1 s2 s3 s4 s5 rs,aM5,aFb xs_0] 2=Option.some (jA bs_1)∧uE xs_0 bs_1∧uE xs_0 bs_1∧gD bs_1∧[AV.int
 .i64 s1,.int .i64 s2,.int .i64 s3,.int .i64 s4,.int .i64 s5]=aA xs_2∧5=xs_2.length∧aLe xs_2)∧exI .i64 (rs.length:Int) (fun n_3=>exI .i64 (rs.length:Int) (fun n_4=>(∃x_5:Nat×List UInt8,aFl x_5 rs f s1 s2
 s3 s4 s5∧bGh f s1 s2 s3 s4 s5 rs∧aLk∧aAa bs_1 xs_2=ofBytes x_5.2∧AV.nils=AV.nils∧aK (AV.ptr 0 13 0)∧AV.sl 2 (iG bs_1 xs_2) 0 (iG bs_1 xs_2) 1=AV.sl 2 x_5.2.length 0 x_5.2.length 1∧tV n_3 rs∧tV n_4
 rs∧aE8 rs∧aK (AV.ptr 1 5 0)∧AV.int .i64 0=xE x_5∧True)∧∀x_5:Nat×List UInt8,aFl x_5 rs f s1 s2 s3 s4 s5→bif decide ((x_5.1:Int)<(rs.length:Int)) then ckQ (Nat.blt (sI x_5) rs.length&&true) (ckQ (aFd
 x_5 rs) (∃n_6 n_7 n_8 n_9 n_10 n_11 n_12,aEw x_5 rs=AV.agg [.int .i64 n_6,.int .i64 n_7,.int .i64 n_8,.int .i64 n_9,.int .i64 n_10,.int .i64 n_11,.int .i64 n_12]∧∃bs_13:List UInt8,∃xs_14:List Int,Lf (GetElem?.getElem?
 [aNm f s1 s2 s3 s4 s5 rs,aM5,wL x_5,Blk.mk BK.exact true [.int .i64 n_6,.int .i64 n_7,.int .i64 n_8,.int .i64 n_9,.int .i64 n_10,.int .i64 n_11,.int .i64 n_12]] 2=Option.some (jA bs_13)∧oC x_5 bs_13∧oC x_5 bs_13
 ∧ gD bs_13∧[AV.int .i64 n_6]=aA xs_14∧uB xs_14)∧∃bs_15:List UInt8,∃xs_16:List Int,Lf (GetElem?.getElem? [aNm f s1 s2 s3 s4 s5 rs,aM5,wY bs_13 xs_14,Blk.mk BK.exact true [.int .i64 n_6,.int .i64 n_7,.int
 .i64 n_8,.int .i64 n_9,.int .i64 n_10,.int .i64 n_11,.int .i64 n_12]] 2=Option.some (jA bs_15)∧iG bs_13 xs_14=bs_15.length∧iG bs_13 xs_14=bs_15.length∧gD bs_15∧[AV.int .i64 n_7]=aA xs_16∧aDx xs_16) ∧
 ∃bs_17:List UInt8,∃xs_18:List Int,Lf (GetElem?.getElem? [aNm f s1 s2 s3 s4 s5 rs,aM5,aEr bs_15 xs_16,Blk.mk BK.exact true [.int .i64 n_6,.int .i64 n_7,.int .i64 n_8,.int .i64 n_9,.int .i64 n_10,.int .i64 n_11,.int .i64
 n_12]] 2=Option.some (jA bs_17)∧tY bs_15 xs_16 bs_17∧tY bs_15 xs_16 bs_17∧gD bs_17∧[AV.int .i64 n_8]=aA xs_18∧aFw xs_18)∧∃bs_19:List UInt8,∃xs_20:List Int,Lf (GetElem?.getElem? [aNm f s1 s2 s3 s4
 s5 rs,aM5,aFe bs_17 xs_18,Blk.mk BK.exact true [.int .i64 n_6,.int .i64 n_7,.int .i64 n_8,.int .i64 n_9,.int .i64 n_10,.int .i64 n_11,.int .i64 n_12]] 2=Option.some (jA bs_19)∧uK bs_17 xs_18 bs_19∧uK bs_17 xs_18
 bs_19∧gD bs_19∧[AV.int .i64 n_9,.int .i64 n_10,.int .i64 n_11,.int .i64 n_12]=aA xs_20∧4=xs_20.length∧aLe xs_20)∧exW .i64 ((x_5.1:Int)+1) (fun n_21=>zS∧∃y_22:Nat×List UInt8,aFl y_22 rs f s1 s2 s3
 s4 s5∧rs.length-y_22.1<rs.length-x_5.1∧bGh f s1 s2 s3 s4 s5 rs∧aLk∧aXk bs_19 xs_20 y_22 rs n_21))) else tlB f rs Q x_5 200 1 s1 s2 s3 s4 s5 true))):=by kernel_rfl

def aKl (f:Int) (rs:List Rc):LInv where
 α:=Nat×List UInt8
 pre x:=Lf (x.1≤rs.length∧x.2=(aJ 4 [f]++bY (rs.take x.1)))
 st x:=⟨mkT [(0,.nils),(3,.ptr 0 13 0),(5,.int .i64 (rs.length:Nat)),(6,.ptr 1 5 0),(7,.sl 2 x.2.length 0 x.2.length 1),(48,.lst 0 (aF rs) rs.length 7),(49,.int .i64 (rs.length:Nat)),(50,.int .i64 (x.1:Nat))],[⟨.exact,true,ctC ⟨2,f,0,0,0,0,0,0,rs,[],0,0,[]⟩⟩,⟨.exact,true,b5 false false true false false⟩,⟨.grow,true,ofBytes x.2⟩]⟩
 mu x:=rs.length-x.1
noncomputable def yC (hv:Nat→Option Pa) (hb:Nat→Option Bool) (f:Int) (rs:List Rc) (Q:Out→List Blk→Gh→Prop):Prop:=
 bH (e24 aG2 (fun i=>bif Nat.beq i 46000 then some (fun _=>[[aKl f rs]]) else none) hv hb) (wpx (e24 aG2 (fun i=>bif Nat.beq i 46000 then some (fun _=>[[aKl f rs]]) else none) hv hb) 1000) 46 [.nils,.agg (ctC ⟨2,f,0,0,0,0,0,0,rs,[],0,0,[]⟩)] [] {} Q
abbrev aDy (x_3:Nat×List UInt8) (rs:List Rc) (f:Int):Prop:=Lf (x_3.1≤rs.length∧x_3.2=aJ 4 [f]++bY (rs.take x_3.1))
abbrev bGl (f:Int) (rs:List Rc):Prop:=aK [AV.int .i64 2,.int .i64 f,.int .i64 0,.int .i64 0,.int .i64 0,.int .i64 0,.int .i64 0,.int .i64 0,aFv rs,.lst 0 [] 0 1,.int .i64 0,.int .i64 0,.lst 0 [] 0 1]
abbrev aM1:Prop:=aK [AV.bool false,.bool false,.bool true,.bool false,.bool false]
abbrev aLq (xs_0:List Int):Nat:=(aJ 4 xs_0).length
abbrev aS6 (f:Int) (rs:List Rc):Blk:=Blk.mk BK.exact true [.int .i64 2,.int .i64 f,.int .i64 0,.int .i64 0,.int .i64 0,.int .i64 0,.int .i64 0,.int .i64 0,aFv rs,.lst 0 [] 0 1,.int .i64 0,.int .i64 0,.lst 0 [] 0 1]
abbrev aTd:Blk:=Blk.mk BK.exact true [.bool false,.bool false,.bool true,.bool false,.bool false]
theorem bBo (f:Int) (rs:List Rc) (Q:Out→List Blk→Gh→Prop):yC (bG [(188462,.int .i64),(188465,.int .i64),(188469,.agg [.int .i64,.int .i64,.int .i64,.int .i64,.int .i64,.int .i64,.int .i64]),(188496,
 .int .i64),(188523,.int .i64),(188524,.int .i64),(188525,.int .i64),(188528,.int .i64),(188529,.int .i64),(188538,.int .i64),(188539,.int .i64)]) (bF []) f rs Q=(∃xs_0:List Int,aM8 f xs_0∧exI .i64 (rs.length :
 Int) (fun n_1=>exI .i64 (rs.length:Int) (fun n_2=>(∃x_3:Nat×List UInt8,aDy x_3 rs f∧bGl f rs∧aM1∧ofBytes (aJ 4 xs_0)=ofBytes x_3.2∧AV.nils=AV.nils∧aK (AV.ptr 0 13 0)∧AV.sl 2 (aLq xs_0) 0 (aLq xs_0)
 1=AV.sl 2 x_3.2.length 0 x_3.2.length 1∧tV n_1 rs∧tV n_2 rs∧aE8 rs∧aK (AV.ptr 1 5 0)∧AV.int .i64 0=xE x_3∧True)∧∀x_3:Nat×List UInt8,aDy x_3 rs f→bif decide ((x_3.1:Int)<(rs.length:Int)) then
 ckQ (Nat.blt (sI x_3) rs.length&&true) (ckQ (aFd x_3 rs) (∃n_4 n_5 n_6 n_7 n_8 n_9 n_10,aEw x_3 rs=AV.agg [.int .i64 n_4,.int .i64 n_5,.int .i64 n_6,.int .i64 n_7,.int .i64 n_8,.int .i64 n_9,.int .i64 n_10]∧∃bs_11 :
 List UInt8,∃xs_12:List Int,Lf (GetElem?.getElem? [aS6 f rs,aTd,wL x_3,Blk.mk BK.exact true [.int .i64 n_4,.int .i64 n_5,.int .i64 n_6,.int .i64 n_7,.int .i64 n_8,.int .i64 n_9,.int .i64 n_10]] 2=Option.some (jA
 bs_11)∧oC x_3 bs_11∧oC x_3 bs_11∧gD bs_11∧[AV.int .i64 n_4]=aA xs_12∧uB xs_12)∧∃bs_13:List UInt8,∃xs_14:List Int,Lf (GetElem?.getElem? [aS6 f rs,aTd,wY bs_11 xs_12,Blk.mk BK.exact true [.int
 .i64 n_4,.int .i64 n_5,.int .i64 n_6,.int .i64 n_7,.int .i64 n_8,.int .i64 n_9,.int .i64 n_10]] 2=Option.some (jA bs_13)∧iG bs_11 xs_12=bs_13.length∧iG bs_11 xs_12=bs_13.length∧gD bs_13∧[AV.int .i64 n_5] =
 aA xs_14∧aDx xs_14)∧∃bs_15:List UInt8,∃xs_16:List Int,Lf (GetElem?.getElem? [aS6 f rs,aTd,aEr bs_13 xs_14,Blk.mk BK.exact true [.int .i64 n_4,.int .i64 n_5,.int .i64 n_6,.int .i64 n_7,.int .i64 n_8,.int .i64
 n_9,.int .i64 n_10]] 2=Option.some (jA bs_15)∧tY bs_13 xs_14 bs_15∧tY bs_13 xs_14 bs_15∧gD bs_15∧[AV.int .i64 n_6]=aA xs_16∧aFw xs_16)∧∃bs_17:List UInt8,∃xs_18:List Int,Lf (GetElem?.getElem? [aS6
 f rs,aTd,aFe bs_15 xs_16,Blk.mk BK.exact true [.int .i64 n_4,.int .i64 n_5,.int .i64 n_6,.int .i64 n_7,.int .i64 n_8,.int .i64 n_9,.int .i64 n_10]] 2=Option.some (jA bs_17)∧uK bs_15 xs_16 bs_17∧uK bs_15 xs_16
 bs_17∧gD bs_17∧[AV.int .i64 n_7,.int .i64 n_8,.int .i64 n_9,.int .i64 n_10]=aA xs_18∧4=xs_18.length∧aLe xs_18)∧exW .i64 ((x_3.1:Int)+1) (fun n_19=>zS∧∃y_20:Nat×List UInt8,aDy y_20 rs f ∧
 rs.length-y_20.1<rs.length-x_3.1∧bGl f rs∧aM1∧aXk bs_17 xs_18 y_20 rs n_19))) else tlB f rs Q x_3 201 2 0 0 0 0 0 false))):=by kernel_rfl

def aKm (bs:List UInt8) (f s1 s2 s3 s4 s5:Int) (rs:List Rc):LInv where
 α:=Nat×List UInt8
 pre x:=Lf (x.1≤rs.length∧x.2=(aJ 4 [f]++aJ 4 [s1,s2,s3,s4,s5]++bY (rs.take x.1)))
 st x:=⟨mkT [(0,.sl 0 bs.length 0 bs.length 1),(3,.ptr 1 13 0),(5,.int .i64 (rs.length:Nat)),(6,.ptr 2 5 0),(7,.sl 3 x.2.length 0 x.2.length 1),(48,.lst 0 (aF rs) rs.length 7),(49,.int .i64 (rs.length:Nat)),(50,.int .i64 (x.1:Nat))],[⟨.grow,true,ofBytes bs⟩,⟨.exact,true,ctC ⟨1,f,0,s1,s2,s3,s4,s5,rs,[],0,0,[]⟩⟩,⟨.exact,true,b5 false true true false false⟩,⟨.grow,true,ofBytes x.2⟩]⟩
 mu x:=rs.length-x.1
noncomputable def vS (hv:Nat→Option Pa) (hb:Nat→Option Bool) (bs:List UInt8) (f s1 s2 s3 s4 s5:Int) (rs:List Rc) (Q:Out→List Blk→Gh→Prop):Prop:=
 bH (e24 aG2 (fun i=>bif Nat.beq i 46000 then some (fun _=>[[aKm bs f s1 s2 s3 s4 s5 rs]]) else none) hv hb) (wpx (e24 aG2 (fun i=>bif Nat.beq i 46000 then some (fun _=>[[aKm bs f s1 s2 s3 s4 s5 rs]]) else none) hv hb) 1000) 46 [.sl 0 bs.length 0 bs.length 1,.agg (ctC ⟨1,f,0,s1,s2,s3,s4,s5,rs,[],0,0,[]⟩)] [⟨.grow,true,ofBytes bs⟩] {} Q
abbrev tlA (bs:List UInt8) (f:Int) (rs:List Rc) (Q:Out→List Blk→Gh→Prop) (a0:Nat×List UInt8) (a1:Int) (a2:Int) (a3:Int) (a4:Int) (a5:Int) (a6:Int) (a7:Bool) (a8:Int):Prop:=
ckQ (Nat.beq (ofBytes a0.2).length a0.2.length) (exI .i64 (a0.2.length:Int) fun u_0=>exW .i64 (0-u_0) fun u_1=>exW .i64 (((u_1%18446744073709551616).toNat &&& 3:Nat):Int) fun u_2=>ckQ (decide (0≤u_2)&&decide (u_2 ≤
 1099511627776)&&tO (List.replicate u_2.toNat [AV.int .u8 0]).flatten&&true&&Nat.ble (u_2.toNat*1) 1099511627776) (bif decide (u_2=0) then ckQ (Nat.beq u_2.toNat 0) (ckQ (Nat.beq (ofBytes a0.2).length a0.2.length&&true) (exI
 .i64 (rs.length:Int) fun u_3=>exW .i64 ((128 ||| (u_3%18446744073709551616).toNat:Nat):Int) fun u_4=>∃u_5:List UInt8,∃u_6:List Int,Lf (GetElem?.getElem? [Blk.mk BK.grow true (ofBytes bs),Blk.mk BK.exact true [.int .i64
 (a1:Int),.int .i64 f,.int .i64 0,.int .i64 a2,.int .i64 a3,.int .i64 a4,.int .i64 a5,.int .i64 a6,.lst 0 (aF rs) rs.length 7,.lst 0 [] 0 1,.int .i64 0,.int .i64 0,.lst 0 [] 0 1],Blk.mk BK.exact true [.bool false,.bool
 a7,.bool true,.bool false,.bool false],Blk.mk BK.grow true (ofBytes a0.2)] 0=Option.some (Blk.mk BK.grow true (ofBytes u_5))∧bs.length=u_5.length∧bs.length=u_5.length∧u_5.length≤1000000∧[AV.int .i64 u_4,.int .i64 (a8 :
 Int)]=aA u_6∧2=u_6.length∧(1:Int)≤(1:Int)∧(1:Int)≤(7:Int)∧u_6.length≤1000000)∧ckQ (Nat.beq (ofBytes a0.2).length a0.2.length) (exI .i64 (a0.2.length:Int) fun u_7=>exW .i64 (u_7.tdiv 4) fun u_8=>∃u_9 :
 List UInt8,∃u_10:List Int,Lf (GetElem?.getElem? [Blk.mk BK.grow true (ofBytes (u_5++aJ 1 u_6)),Blk.mk BK.exact true [.int .i64 (a1:Int),.int .i64 f,.int .i64 0,.int .i64 a2,.int .i64 a3,.int .i64 a4,.int .i64 a5,.int
 .i64 a6,.lst 0 (aF rs) rs.length 7,.lst 0 [] 0 1,.int .i64 0,.int .i64 0,.lst 0 [] 0 1],Blk.mk BK.exact true [.bool false,.bool a7,.bool true,.bool false,.bool false],Blk.mk BK.grow true (ofBytes a0.2)] 0=Option.some
 (Blk.mk BK.grow true (ofBytes u_9))∧(u_5++aJ 1 u_6).length=u_9.length∧(u_5++aJ 1 u_6).length=u_9.length∧u_9.length≤1000000∧[AV.int .i64 u_8]=aA u_10∧1=u_10.length∧(1:Int)≤(2:Int)∧(2:Int)≤(7 :
 Int)∧u_10.length≤1000000)∧ckQ (Nat.beq (ofBytes a0.2).length a0.2.length&&true&&Nat.ble (0+a0.2.length*1) a0.2.length&&tO (((ofBytes a0.2).drop 0).take (a0.2.length*1))&&true&&Nat.ble (a0.2.length*1)
 1099511627776) (bif Nat.beq a0.2.length 0 then ckQ (Nat.beq a0.2.length 0) (ckQ (Nat.beq (ofBytes (u_9++aJ 2 u_10)).length (u_9++aJ 2 u_10).length&&true) (true=true∧Q (.ret (.sl 0 (u_9++aJ 2 u_10).length 0 (u_9++aJ 2
 u_10).length 1)) [Blk.mk BK.grow true (ofBytes (u_9++aJ 2 u_10))] {})) else ckQ (Nat.blt 0 a0.2.length) (ckQ (Nat.beq (ofBytes (u_9++aJ 2 u_10)).length (u_9++aJ 2 u_10).length&&true&&Nat.beq (0+(u_9++aJ 2 u_10).length
 * 1) (u_9++aJ 2 u_10).length&&Nat.ble ((u_9++aJ 2 u_10).length+a0.2.length) 1099511627776&&Nat.ble (((u_9++aJ 2 u_10).length+a0.2.length)*1) 1099511627776) (((bB 0 (((ofBytes a0.2).drop 0).take (a0.2.length*1)) ||
 bB 1 (ofBytes (u_9++aJ 2 u_10)++((ofBytes a0.2).drop 0).take (a0.2.length*1)))&&true)=true∧Q (.ret (.sl 0 ((u_9++aJ 2 u_10).length+(((ofBytes a0.2).drop 0).take (a0.2.length*1)).length) 0 ((u_9++aJ 2
 u_10).length+a0.2.length) 1)) [Blk.mk BK.grow (bB 0 (((ofBytes a0.2).drop 0).take (a0.2.length*1))) (ofBytes (u_9++aJ 2 u_10)++((ofBytes a0.2).drop 0).take (a0.2.length*1))] {})))))) else ckQ (Nat.blt 0 u_2.toNat) (ckQ
 (Nat.beq (ofBytes a0.2).length a0.2.length&&true&&Nat.beq (0+a0.2.length*1) a0.2.length&&Nat.ble (a0.2.length+u_2.toNat) 1099511627776&&Nat.ble ((a0.2.length+u_2.toNat)*1) 1099511627776) (exI .i64 (rs.length:Int) fun
 u_11=>exW .i64 ((128 ||| (u_11%18446744073709551616).toNat:Nat):Int) fun u_12=>∃u_13:List UInt8,∃u_14:List Int,Lf (GetElem?.getElem? [Blk.mk BK.grow true (ofBytes bs),Blk.mk BK.exact true [.int .i64 (a1:Int),.int .i64
 f,.int .i64 0,.int .i64 a2,.int .i64 a3,.int .i64 a4,.int .i64 a5,.int .i64 a6,.lst 0 (aF rs) rs.length 7,.lst 0 [] 0 1,.int .i64 0,.int .i64 0,.lst 0 [] 0 1],Blk.mk BK.exact true [.bool false,.bool a7,.bool true,.bool
 false,.bool false],Blk.mk BK.grow (bB 0 (List.replicate u_2.toNat [AV.int .u8 0]).flatten) (ofBytes a0.2++(List.replicate u_2.toNat [AV.int .u8 0]).flatten)] 0=Option.some (Blk.mk BK.grow true (ofBytes u_13))∧bs.length =
 u_13.length∧bs.length=u_13.length∧u_13.length≤1000000∧[AV.int .i64 u_12,.int .i64 (a8:Int)]=aA u_14∧2=u_14.length∧(1:Int)≤(1:Int)∧(1:Int)≤(7:Int)∧u_14.length≤1000000)∧ckQ (Nat.beq (ofBytes a0.2
 ++ (List.replicate u_2.toNat [AV.int .u8 0]).flatten).length (a0.2.length+(List.replicate u_2.toNat [AV.int .u8 0]).flatten.length)) (exI .i64 ((a0.2.length+u_2.toNat:Nat):Int) fun u_15=>exW .i64 (u_15.tdiv 4) fun u_16=>∃u_17
 : List UInt8,∃u_18:List Int,Lf (GetElem?.getElem? [Blk.mk BK.grow true (ofBytes (u_13++aJ 1 u_14)),Blk.mk BK.exact true [.int .i64 (a1:Int),.int .i64 f,.int .i64 0,.int .i64 a2,.int .i64 a3,.int .i64 a4,.int .i64 a5,.int
 .i64 a6,.lst 0 (aF rs) rs.length 7,.lst 0 [] 0 1,.int .i64 0,.int .i64 0,.lst 0 [] 0 1],Blk.mk BK.exact true [.bool false,.bool a7,.bool true,.bool false,.bool false],Blk.mk BK.grow (bB 0 (List.replicate u_2.toNat [AV.int
 .u8 0]).flatten) (ofBytes a0.2++(List.replicate u_2.toNat [AV.int .u8 0]).flatten)] 0=Option.some (Blk.mk BK.grow true (ofBytes u_17))∧(u_13++aJ 1 u_14).length=u_17.length∧(u_13++aJ 1 u_14).length=u_17.length ∧
 u_17.length≤1000000∧[AV.int .i64 u_16]=aA u_18∧1=u_18.length∧(1:Int)≤(2:Int)∧(2:Int)≤(7:Int)∧u_18.length≤1000000)∧ckQ (Nat.beq (ofBytes a0.2++(List.replicate u_2.toNat [AV.int .u8 0]).flatten).length
 (a0.2.length+(List.replicate u_2.toNat [AV.int .u8 0]).flatten.length)&&true&&Nat.ble (0+(a0.2.length+u_2.toNat)*1) (a0.2.length+(List.replicate u_2.toNat [AV.int .u8 0]).flatten.length)&&tO (((ofBytes a0.2 ++
 (List.replicate u_2.toNat [AV.int .u8 0]).flatten).drop 0).take ((a0.2.length+u_2.toNat)*1))&&true&&Nat.ble ((a0.2.length+u_2.toNat)*1) 1099511627776) (bif Nat.beq (a0.2.length+u_2.toNat) 0 then ckQ (Nat.beq (a0.2.length +
 u_2.toNat) 0) (ckQ (Nat.beq (ofBytes (u_17++aJ 2 u_18)).length (u_17++aJ 2 u_18).length&&true) (true=true∧Q (.ret (.sl 0 (u_17++aJ 2 u_18).length 0 (u_17++aJ 2 u_18).length 1)) [Blk.mk BK.grow true (ofBytes (u_17 ++
 aJ 2 u_18))] {})) else ckQ (Nat.blt 0 (a0.2.length+u_2.toNat)) (ckQ (Nat.beq (ofBytes (u_17++aJ 2 u_18)).length (u_17++aJ 2 u_18).length&&true&&Nat.beq (0+(u_17++aJ 2 u_18).length*1) (u_17++aJ 2 u_18).length &&
 Nat.ble ((u_17++aJ 2 u_18).length+(a0.2.length+u_2.toNat)) 1099511627776&&Nat.ble (((u_17++aJ 2 u_18).length+(a0.2.length+u_2.toNat))*1) 1099511627776) (((bB 0 (((ofBytes a0.2++(List.replicate u_2.toNat [AV.int .u8
 0]).flatten).drop 0).take ((a0.2.length+u_2.toNat)*1))||bB 1 (ofBytes (u_17++aJ 2 u_18)++((ofBytes a0.2++(List.replicate u_2.toNat [AV.int .u8 0]).flatten).drop 0).take ((a0.2.length+u_2.toNat)*1)))&&true)=true∧Q
 (.ret (.sl 0 ((u_17++aJ 2 u_18).length+(((ofBytes a0.2++(List.replicate u_2.toNat [AV.int .u8 0]).flatten).drop 0).take ((a0.2.length+u_2.toNat)*1)).length) 0 ((u_17++aJ 2 u_18).length+(a0.2.length+u_2.toNat)) 1))
 [Blk.mk BK.grow (bB 0 (((ofBytes a0.2++(List.replicate u_2.toNat [AV.int .u8 0]).flatten).drop 0).take ((a0.2.length+u_2.toNat)*1))) (ofBytes (u_17++aJ 2 u_18)++((ofBytes a0.2++(List.replicate u_2.toNat [AV.int .u8
 0]).flatten).drop 0).take ((a0.2.length+u_2.toNat)*1))] {}))))))))
abbrev aGc (bs:List UInt8):Prop:=aK (AV.sl 0 bs.length 0 bs.length 1)
abbrev aE1:Prop:=aK (AV.ptr 1 13 0)
abbrev aXe (bs_1:List UInt8) (xs_2:List Int) (x_5:Nat×List UInt8):Prop:=AV.sl 3 (iG bs_1 xs_2) 0 (iG bs_1 xs_2) 1=AV.sl 3 x_5.2.length 0 x_5.2.length 1
abbrev aEp:Prop:=aK (AV.ptr 2 5 0)
abbrev aVr (bs_19:List UInt8) (xs_20:List Int) (y_22:Nat×List UInt8) (bs:List UInt8) (rs:List Rc) (n_21:Int):Prop:=ofBytes (bs_19++aJ 4 xs_20)=ofBytes y_22.2∧aK (AV.sl 0 bs.length 0 bs.length 1)∧aE1∧AV.sl 3 (iG bs_19 xs_20) 0 (iG bs_19 xs_20) 1=AV.sl 3 y_22.2.length 0 y_22.2.length 1∧aK (aBh rs)∧aK (aBh rs)∧aIn rs∧aEp∧AV.int .i64 n_21=AV.int .i64 (y_22.1:Int)∧True
theorem aZp (bs:List UInt8) (f:Int) (s1:Int) (s2:Int) (s3:Int) (s4:Int) (s5:Int) (rs:List Rc) (Q:Out→List Blk→Gh→Prop):vS (bG [(188462,.int .i64),(188465,.int .i64),(188469,.agg [.int .i64,.int
 .i64,.int .i64,.int .i64,.int .i64,.int .i64,.int .i64]),(188496,.int .i64),(188523,.int .i64),(188524,.int .i64),(188525,.int .i64),(188528,.int .i64),(188529,.int .i64),(188538,.int .i64),(188539,.int .i64)]) (bF
 [(192510,true)]) bs f s1 s2 s3 s4 s5 rs Q=(∃xs_0:List Int,aM8 f xs_0∧∃bs_1:List UInt8,∃xs_2:List Int,Lf (GetElem?.getElem? [jA bs,aNm f s1 s2 s3 s4 s5 rs,aM5,aFb xs_0] 3=Option.some (jA bs_1)∧uE xs_0
 bs_1∧uE xs_0 bs_1∧gD bs_1∧[AV.int .i64 s1,.int .i64 s2,.int .i64 s3,.int .i64 s4,.int .i64 s5]=aA xs_2∧5=xs_2.length∧aLe xs_2)∧exI .i64 (rs.length:Int) (fun n_3=>exI .i64 (rs.length:Int) (fun n_4=>(∃
 x_5:Nat×List UInt8,aFl x_5 rs f s1 s2 s3 s4 s5∧aK (ofBytes bs)∧bGh f s1 s2 s3 s4 s5 rs∧aLk∧aAa bs_1 xs_2=ofBytes x_5.2∧aGc bs∧aE1∧aXe bs_1 xs_2 x_5∧tV n_3 rs∧tV n_4 rs∧aE8 rs∧aEp ∧
 AV.int .i64 0=xE x_5∧True)∧∀x_5:Nat×List UInt8,aFl x_5 rs f s1 s2 s3 s4 s5→bif decide ((x_5.1:Int)<(rs.length:Int)) then ckQ (Nat.blt (sI x_5) rs.length&&true) (ckQ (aFd x_5 rs) (∃n_6 n_7 n_8 n_9 n_10 n_11
 n_12,aEw x_5 rs=AV.agg [.int .i64 n_6,.int .i64 n_7,.int .i64 n_8,.int .i64 n_9,.int .i64 n_10,.int .i64 n_11,.int .i64 n_12]∧∃bs_13:List UInt8,∃xs_14:List Int,Lf (GetElem?.getElem? [jA bs,aNm f s1 s2 s3 s4 s5 rs,
 aM5,wL x_5,Blk.mk BK.exact true [.int .i64 n_6,.int .i64 n_7,.int .i64 n_8,.int .i64 n_9,.int .i64 n_10,.int .i64 n_11,.int .i64 n_12]] 3=Option.some (jA bs_13)∧oC x_5 bs_13∧oC x_5 bs_13∧gD bs_13∧[AV.int
 .i64 n_6]=aA xs_14∧uB xs_14)∧∃bs_15:List UInt8,∃xs_16:List Int,Lf (GetElem?.getElem? [jA bs,aNm f s1 s2 s3 s4 s5 rs,aM5,wY bs_13 xs_14,Blk.mk BK.exact true [.int .i64 n_6,.int .i64 n_7,.int .i64 n_8,.int
 .i64 n_9,.int .i64 n_10,.int .i64 n_11,.int .i64 n_12]] 3=Option.some (jA bs_15)∧iG bs_13 xs_14=bs_15.length∧iG bs_13 xs_14=bs_15.length∧gD bs_15∧[AV.int .i64 n_7]=aA xs_16∧aDx xs_16)∧∃bs_17:List
 UInt8,∃xs_18:List Int,Lf (GetElem?.getElem? [jA bs,aNm f s1 s2 s3 s4 s5 rs,aM5,aEr bs_15 xs_16,Blk.mk BK.exact true [.int .i64 n_6,.int .i64 n_7,.int .i64 n_8,.int .i64 n_9,.int .i64 n_10,.int .i64 n_11,.int .i64
 n_12]] 3=Option.some (jA bs_17)∧tY bs_15 xs_16 bs_17∧tY bs_15 xs_16 bs_17∧gD bs_17∧[AV.int .i64 n_8]=aA xs_18∧aFw xs_18)∧∃bs_19:List UInt8,∃xs_20:List Int,Lf (GetElem?.getElem? [jA bs,aNm f s1
 s2 s3 s4 s5 rs,aM5,aFe bs_17 xs_18,Blk.mk BK.exact true [.int .i64 n_6,.int .i64 n_7,.int .i64 n_8,.int .i64 n_9,.int .i64 n_10,.int .i64 n_11,.int .i64 n_12]] 3=Option.some (jA bs_19)∧uK bs_17 xs_18 bs_19∧uK
 bs_17 xs_18 bs_19∧gD bs_19∧[AV.int .i64 n_9,.int .i64 n_10,.int .i64 n_11,.int .i64 n_12]=aA xs_20∧4=xs_20.length∧aLe xs_20)∧exW .i64 ((x_5.1:Int)+1) (fun n_21=>zS∧∃y_22:Nat×List UInt8,aFl y_22
 rs f s1 s2 s3 s4 s5∧rs.length-y_22.1<rs.length-x_5.1∧aK (ofBytes bs)∧bGh f s1 s2 s3 s4 s5 rs∧aLk∧aVr bs_19 xs_20 y_22 bs rs n_21))) else tlA bs f rs Q x_5 1 s1 s2 s3 s4 s5 true 200))):=by kernel_rfl

def aKf (bs:List UInt8) (f:Int) (rs:List Rc):LInv where
 α:=Nat×List UInt8
 pre x:=Lf (x.1≤rs.length∧x.2=(aJ 4 [f]++bY (rs.take x.1)))
 st x:=⟨mkT [(0,.sl 0 bs.length 0 bs.length 1),(3,.ptr 1 13 0),(5,.int .i64 (rs.length:Nat)),(6,.ptr 2 5 0),(7,.sl 3 x.2.length 0 x.2.length 1),(48,.lst 0 (aF rs) rs.length 7),(49,.int .i64 (rs.length:Nat)),(50,.int .i64 (x.1:Nat))],[⟨.grow,true,ofBytes bs⟩,⟨.exact,true,ctC ⟨2,f,0,0,0,0,0,0,rs,[],0,0,[]⟩⟩,⟨.exact,true,b5 false false true false false⟩,⟨.grow,true,ofBytes x.2⟩]⟩
 mu x:=rs.length-x.1
noncomputable def xI (hv:Nat→Option Pa) (hb:Nat→Option Bool) (bs:List UInt8) (f:Int) (rs:List Rc) (Q:Out→List Blk→Gh→Prop):Prop:=
 bH (e24 aG2 (fun i=>bif Nat.beq i 46000 then some (fun _=>[[aKf bs f rs]]) else none) hv hb) (wpx (e24 aG2 (fun i=>bif Nat.beq i 46000 then some (fun _=>[[aKf bs f rs]]) else none) hv hb) 1000) 46 [.sl 0 bs.length 0 bs.length 1,.agg (ctC ⟨2,f,0,0,0,0,0,0,rs,[],0,0,[]⟩)] [⟨.grow,true,ofBytes bs⟩] {} Q
abbrev aW8 (x_3:Nat×List UInt8):AV:=.sl 3 x_3.2.length 0 x_3.2.length 1
theorem aZ8 (bs:List UInt8) (f:Int) (rs:List Rc) (Q:Out→List Blk→Gh→Prop):xI (bG [(188462,.int .i64),(188465,.int .i64),(188469,.agg [.int .i64,.int .i64,.int .i64,.int .i64,.int .i64,.int .i64,.int
 .i64]),(188496,.int .i64),(188523,.int .i64),(188524,.int .i64),(188525,.int .i64),(188528,.int .i64),(188529,.int .i64),(188538,.int .i64),(188539,.int .i64)]) (bF [(192510,true)]) bs f rs Q=(∃xs_0:List Int,aM8
 f xs_0∧exI .i64 (rs.length:Int) (fun n_1=>exI .i64 (rs.length:Int) (fun n_2=>(∃x_3:Nat×List UInt8,aDy x_3 rs f∧aK (ofBytes bs)∧bGl f rs∧aM1∧ofBytes (aJ 4 xs_0)=ofBytes x_3.2∧aGc bs∧aE1∧AV.sl 3
 (aLq xs_0) 0 (aLq xs_0) 1=aW8 x_3∧tV n_1 rs∧tV n_2 rs∧aE8 rs∧aEp∧AV.int .i64 0=xE x_3∧True)∧∀x_3:Nat×List UInt8,aDy x_3 rs f→bif decide ((x_3.1:Int)<(rs.length:Int)) then ckQ (Nat.blt
 (sI x_3) rs.length&&true) (ckQ (aFd x_3 rs) (∃n_4 n_5 n_6 n_7 n_8 n_9 n_10,aEw x_3 rs=AV.agg [.int .i64 n_4,.int .i64 n_5,.int .i64 n_6,.int .i64 n_7,.int .i64 n_8,.int .i64 n_9,.int .i64 n_10]∧∃bs_11:List UInt8,∃
 xs_12:List Int,Lf (GetElem?.getElem? [jA bs,aS6 f rs,aTd,wL x_3,Blk.mk BK.exact true [.int .i64 n_4,.int .i64 n_5,.int .i64 n_6,.int .i64 n_7,.int .i64 n_8,.int .i64 n_9,.int .i64 n_10]] 3=Option.some (jA bs_11) ∧
 oC x_3 bs_11∧oC x_3 bs_11∧gD bs_11∧[AV.int .i64 n_4]=aA xs_12∧uB xs_12)∧∃bs_13:List UInt8,∃xs_14:List Int,Lf (GetElem?.getElem? [jA bs,aS6 f rs,aTd,wY bs_11 xs_12,Blk.mk BK.exact true [.int
 .i64 n_4,.int .i64 n_5,.int .i64 n_6,.int .i64 n_7,.int .i64 n_8,.int .i64 n_9,.int .i64 n_10]] 3=Option.some (jA bs_13)∧iG bs_11 xs_12=bs_13.length∧iG bs_11 xs_12=bs_13.length∧gD bs_13∧[AV.int .i64 n_5] =
 aA xs_14∧aDx xs_14)∧∃bs_15:List UInt8,∃xs_16:List Int,Lf (GetElem?.getElem? [jA bs,aS6 f rs,aTd,aEr bs_13 xs_14,Blk.mk BK.exact true [.int .i64 n_4,.int .i64 n_5,.int .i64 n_6,.int .i64 n_7,.int .i64 n_8,
 .int .i64 n_9,.int .i64 n_10]] 3=Option.some (jA bs_15)∧tY bs_13 xs_14 bs_15∧tY bs_13 xs_14 bs_15∧gD bs_15∧[AV.int .i64 n_6]=aA xs_16∧aFw xs_16)∧∃bs_17:List UInt8,∃xs_18:List Int,Lf
 (GetElem?.getElem? [jA bs,aS6 f rs,aTd,aFe bs_15 xs_16,Blk.mk BK.exact true [.int .i64 n_4,.int .i64 n_5,.int .i64 n_6,.int .i64 n_7,.int .i64 n_8,.int .i64 n_9,.int .i64 n_10]] 3=Option.some (jA bs_17)∧uK bs_15
 xs_16 bs_17∧uK bs_15 xs_16 bs_17∧gD bs_17∧[AV.int .i64 n_7,.int .i64 n_8,.int .i64 n_9,.int .i64 n_10]=aA xs_18∧4=xs_18.length∧aLe xs_18)∧exW .i64 ((x_3.1:Int)+1) (fun n_19=>zS∧∃y_20:Nat×List
 UInt8,aDy y_20 rs f∧rs.length-y_20.1<rs.length-x_3.1∧aK (ofBytes bs)∧bGl f rs∧aM1∧aVr bs_17 xs_18 y_20 bs rs n_19))) else tlA bs f rs Q x_3 2 0 0 0 0 0 false 201))):=by kernel_rfl

noncomputable def wZ (hv:Nat→Option Pa) (hb:Nat→Option Bool) (bs:List UInt8) (f:Int) (Q:Out→List Blk→Gh→Prop):Prop:=
 bH (e24 aG2 (fun _=>none) hv hb) (wpx (e24 aG2 (fun _=>none) hv hb) 1000) 46 [.sl 0 bs.length 0 bs.length 1,.agg (ctC ⟨3,f,0,0,0,0,0,0,[],[],0,0,[]⟩)] [⟨.grow,true,ofBytes bs⟩] {} Q
abbrev tlC (bs:List UInt8) (f:Int) (Q:Out→List Blk→Gh→Prop) (a0:List UInt8) (a1:Int) (a2:Int) (a3:List AV) (a4:Nat) (a5:Int) (a6:Int) (a7:List AV) (a8:Nat) (a9:Bool) (a10:Bool) (a11:Bool) (a12:List Blk) (a13:Int) (a14:Int):Prop:=
ckQ (Nat.beq (ofBytes a0).length a0.length) (exI .i64 (a0.length:Int) fun u_0=>exW .i64 (0-u_0) fun u_1=>exW .i64 (((u_1%18446744073709551616).toNat &&& 3:Nat):Int) fun u_2=>ckQ (decide (0≤u_2)&&decide (u_2 ≤
 1099511627776)&&tO (List.replicate u_2.toNat [AV.int .u8 0]).flatten&&true&&Nat.ble (u_2.toNat*1) 1099511627776) (bif decide (u_2=0) then ckQ (Nat.beq u_2.toNat 0) (ckQ (Nat.beq (ofBytes a0).length a0.length&&true) (∃u_3 :
 List UInt8,∃u_4:List Int,Lf (GetElem?.getElem? (Blk.mk BK.grow true (ofBytes bs)::Blk.mk BK.exact true [.int .i64 (a1:Int),.int .i64 f,.int .i64 a2,.int .i64 0,.int .i64 0,.int .i64 0,.int .i64 0,.int .i64 0,.lst 0
 (aF []) 0 7,.lst 0 a3 a4 1,.int .i64 a5,.int .i64 a6,.lst 0 a7 a8 1]::Blk.mk BK.exact true [.bool a9,.bool false,.bool false,.bool a10,.bool a11]::Blk.mk BK.grow true (ofBytes a0)::a12) 0=Option.some (Blk.mk BK.grow
 true (ofBytes u_3))∧bs.length=u_3.length∧bs.length=u_3.length∧u_3.length≤1000000∧[AV.int .i64 (a13:Int),.int .i64 (a14:Int)]=aA u_4∧2=u_4.length∧(1:Int)≤(1:Int)∧(1:Int)≤(7:Int)∧u_4.length ≤
 1000000)∧ckQ (Nat.beq (ofBytes a0).length a0.length) (exI .i64 (a0.length:Int) fun u_5=>exW .i64 (u_5.tdiv 4) fun u_6=>∃u_7:List UInt8,∃u_8:List Int,Lf (GetElem?.getElem? (Blk.mk BK.grow true (ofBytes (u_3++aJ 1 u_4))
 :: Blk.mk BK.exact true [.int .i64 (a1:Int),.int .i64 f,.int .i64 a2,.int .i64 0,.int .i64 0,.int .i64 0,.int .i64 0,.int .i64 0,.lst 0 (aF []) 0 7,.lst 0 a3 a4 1,.int .i64 a5,.int .i64 a6,.lst 0 a7 a8 1]::Blk.mk
 BK.exact true [.bool a9,.bool false,.bool false,.bool a10,.bool a11]::Blk.mk BK.grow true (ofBytes a0)::a12) 0=Option.some (Blk.mk BK.grow true (ofBytes u_7))∧(u_3++aJ 1 u_4).length=u_7.length∧(u_3++aJ 1 u_4).length
 = u_7.length∧u_7.length≤1000000∧[AV.int .i64 u_6]=aA u_8∧1=u_8.length∧(1:Int)≤(2:Int)∧(2:Int)≤(7:Int)∧u_8.length≤1000000)∧ckQ (Nat.beq (ofBytes a0).length a0.length&&true&&Nat.ble (0+a0.length *
 1) a0.length&&tO (((ofBytes a0).drop 0).take (a0.length*1))&&true&&Nat.ble (a0.length*1) 1099511627776) (bif Nat.beq a0.length 0 then ckQ (Nat.beq a0.length 0) (ckQ (Nat.beq (ofBytes (u_7++aJ 2 u_8)).length (u_7++aJ 2
 u_8).length&&true) (true=true∧Q (.ret (.sl 0 (u_7++aJ 2 u_8).length 0 (u_7++aJ 2 u_8).length 1)) [Blk.mk BK.grow true (ofBytes (u_7++aJ 2 u_8))] {})) else ckQ (Nat.blt 0 a0.length) (ckQ (Nat.beq (ofBytes (u_7++aJ 2
 u_8)).length (u_7++aJ 2 u_8).length&&true&&Nat.beq (0+(u_7++aJ 2 u_8).length*1) (u_7++aJ 2 u_8).length&&Nat.ble ((u_7++aJ 2 u_8).length+a0.length) 1099511627776&&Nat.ble (((u_7++aJ 2 u_8).length +
 a0.length)*1) 1099511627776) (((bB 0 (((ofBytes a0).drop 0).take (a0.length*1))||bB 1 (ofBytes (u_7++aJ 2 u_8)++((ofBytes a0).drop 0).take (a0.length*1)))&&true)=true∧Q (.ret (.sl 0 ((u_7++aJ 2 u_8).length +
 (((ofBytes a0).drop 0).take (a0.length*1)).length) 0 ((u_7++aJ 2 u_8).length+a0.length) 1)) [Blk.mk BK.grow (bB 0 (((ofBytes a0).drop 0).take (a0.length*1))) (ofBytes (u_7++aJ 2 u_8)++((ofBytes a0).drop 0).take (a0.length
 * 1))] {})))))) else ckQ (Nat.blt 0 u_2.toNat) (ckQ (Nat.beq (ofBytes a0).length a0.length&&true&&Nat.beq (0+a0.length*1) a0.length&&Nat.ble (a0.length+u_2.toNat) 1099511627776&&Nat.ble ((a0.length+u_2.toNat)*1)
 1099511627776) (∃u_9:List UInt8,∃u_10:List Int,Lf (GetElem?.getElem? (Blk.mk BK.grow true (ofBytes bs)::Blk.mk BK.exact true [.int .i64 (a1:Int),.int .i64 f,.int .i64 a2,.int .i64 0,.int .i64 0,.int .i64 0,.int .i64 0,
 .int .i64 0,.lst 0 (aF []) 0 7,.lst 0 a3 a4 1,.int .i64 a5,.int .i64 a6,.lst 0 a7 a8 1]::Blk.mk BK.exact true [.bool a9,.bool false,.bool false,.bool a10,.bool a11]::Blk.mk BK.grow (bB 0 (List.replicate u_2.toNat
 [AV.int .u8 0]).flatten) (ofBytes a0++(List.replicate u_2.toNat [AV.int .u8 0]).flatten)::a12) 0=Option.some (Blk.mk BK.grow true (ofBytes u_9))∧bs.length=u_9.length∧bs.length=u_9.length∧u_9.length≤1000000∧[AV.int .i64
 (a13:Int),.int .i64 (a14:Int)]=aA u_10∧2=u_10.length∧(1:Int)≤(1:Int)∧(1:Int)≤(7:Int)∧u_10.length≤1000000)∧ckQ (Nat.beq (ofBytes a0++(List.replicate u_2.toNat [AV.int .u8 0]).flatten).length (a0.length
 + (List.replicate u_2.toNat [AV.int .u8 0]).flatten.length)) (exI .i64 ((a0.length+u_2.toNat:Nat):Int) fun u_11=>exW .i64 (u_11.tdiv 4) fun u_12=>∃u_13:List UInt8,∃u_14:List Int,Lf (GetElem?.getElem? (Blk.mk BK.grow true
 (ofBytes (u_9++aJ 1 u_10))::Blk.mk BK.exact true [.int .i64 (a1:Int),.int .i64 f,.int .i64 a2,.int .i64 0,.int .i64 0,.int .i64 0,.int .i64 0,.int .i64 0,.lst 0 (aF []) 0 7,.lst 0 a3 a4 1,.int .i64 a5,.int .i64 a6,
 .lst 0 a7 a8 1]::Blk.mk BK.exact true [.bool a9,.bool false,.bool false,.bool a10,.bool a11]::Blk.mk BK.grow (bB 0 (List.replicate u_2.toNat [AV.int .u8 0]).flatten) (ofBytes a0++(List.replicate u_2.toNat [AV.int .u8
 0]).flatten)::a12) 0=Option.some (Blk.mk BK.grow true (ofBytes u_13))∧(u_9++aJ 1 u_10).length=u_13.length∧(u_9++aJ 1 u_10).length=u_13.length∧u_13.length≤1000000∧[AV.int .i64 u_12]=aA u_14∧1=u_14.length
 ∧ (1:Int)≤(2:Int)∧(2:Int)≤(7:Int)∧u_14.length≤1000000)∧ckQ (Nat.beq (ofBytes a0++(List.replicate u_2.toNat [AV.int .u8 0]).flatten).length (a0.length+(List.replicate u_2.toNat [AV.int .u8 0]).flatten.length)&&true
 && Nat.ble (0+(a0.length+u_2.toNat)*1) (a0.length+(List.replicate u_2.toNat [AV.int .u8 0]).flatten.length)&&tO (((ofBytes a0++(List.replicate u_2.toNat [AV.int .u8 0]).flatten).drop 0).take ((a0.length+u_2.toNat)*1)) &&
 true&&Nat.ble ((a0.length+u_2.toNat)*1) 1099511627776) (bif Nat.beq (a0.length+u_2.toNat) 0 then ckQ (Nat.beq (a0.length+u_2.toNat) 0) (ckQ (Nat.beq (ofBytes (u_13++aJ 2 u_14)).length (u_13++aJ 2 u_14).length&&true)
 (true=true∧Q (.ret (.sl 0 (u_13++aJ 2 u_14).length 0 (u_13++aJ 2 u_14).length 1)) [Blk.mk BK.grow true (ofBytes (u_13++aJ 2 u_14))] {})) else ckQ (Nat.blt 0 (a0.length+u_2.toNat)) (ckQ (Nat.beq (ofBytes (u_13++aJ 2
 u_14)).length (u_13++aJ 2 u_14).length&&true&&Nat.beq (0+(u_13++aJ 2 u_14).length*1) (u_13++aJ 2 u_14).length&&Nat.ble ((u_13++aJ 2 u_14).length+(a0.length+u_2.toNat)) 1099511627776&&Nat.ble (((u_13++aJ
 2 u_14).length+(a0.length+u_2.toNat))*1) 1099511627776) (((bB 0 (((ofBytes a0++(List.replicate u_2.toNat [AV.int .u8 0]).flatten).drop 0).take ((a0.length+u_2.toNat)*1))||bB 1 (ofBytes (u_13++aJ 2 u_14)++((ofBytes
 a0++(List.replicate u_2.toNat [AV.int .u8 0]).flatten).drop 0).take ((a0.length+u_2.toNat)*1)))&&true)=true∧Q (.ret (.sl 0 ((u_13++aJ 2 u_14).length+(((ofBytes a0++(List.replicate u_2.toNat [AV.int .u8 0]).flatten).drop
 0).take ((a0.length+u_2.toNat)*1)).length) 0 ((u_13++aJ 2 u_14).length+(a0.length+u_2.toNat)) 1)) [Blk.mk BK.grow (bB 0 (((ofBytes a0++(List.replicate u_2.toNat [AV.int .u8 0]).flatten).drop 0).take ((a0.length+u_2.toNat)
 * 1))) (ofBytes (u_13++aJ 2 u_14)++((ofBytes a0++(List.replicate u_2.toNat [AV.int .u8 0]).flatten).drop 0).take ((a0.length+u_2.toNat)*1))] {}))))))))
theorem bFc (bs:List UInt8) (f:Int) (Q:Out→List Blk→Gh→Prop):wZ (bG [(188523,.int .i64),(188524,.int .i64),(188525,.int .i64),(188538,.int .i64),(188539,.int .i64)]) (bF [(192510,true)]) bs f Q=(∃xs_0:List Int,Lf ([AV.int .i64 f]=aA xs_0∧1=xs_0.length∧(1:Int)≤(4:Int)∧(4:Int)≤(7:Int)∧1≤xs_0.length∧xs_0.length≤1000000)∧tlC bs f Q (aJ 4 xs_0) 3 0 [] 0 0 0 [] 0 false false false [] 129 203):=by kernel_rfl

def aKg (bs:List UInt8) (f a:Int) (lo:List Int):LInv where
 α:=Nat×List UInt8
 pre x:=Lf (x.1≤(aM lo).length∧x.2=(aJ 4 [f]++aJ 4 [a]++dE ((aM lo).take x.1)))
 st x:=⟨mkT [(0,.sl 0 bs.length 0 bs.length 1),(3,.ptr 1 13 0),(5,.int .i64 1),(6,.ptr 2 5 0),(7,.sl 3 x.2.length 0 x.2.length 1),(83,.lst 0 (aR (aM lo)) (aM lo).length 2),(84,.int .i64 ((aM lo).length:Nat)),(85,.int .i64 (x.1:Nat))],[⟨.grow,true,ofBytes bs⟩,⟨.exact,true,ctC ⟨4,f,a,0,0,0,0,0,[],lo,0,0,[]⟩⟩,⟨.exact,true,b5 true false false true false⟩,⟨.grow,true,ofBytes x.2⟩]⟩
 mu x:=(aM lo).length-x.1
noncomputable def xR (hv:Nat→Option Pa) (hb:Nat→Option Bool) (bs:List UInt8) (f a:Int) (lo:List Int) (Q:Out→List Blk→Gh→Prop):Prop:=
 bH (e24 bBc (fun i=>bif Nat.beq i 46002 then some (fun _=>[[aKg bs f a lo]]) else none) hv hb) (wpx (e24 bBc (fun i=>bif Nat.beq i 46002 then some (fun _=>[[aKg bs f a lo]]) else none) hv hb) 1000) 46 [.sl 0 bs.length 0 bs.length 1,.agg (ctC ⟨4,f,a,0,0,0,0,0,[],lo,0,0,[]⟩)] [⟨.grow,true,ofBytes bs⟩] {} Q
abbrev aGx (ti:List Int):AV:=.lst 0 (aA ti) ti.length 1
abbrev aXp (f a:Int) (lo:List Int):Blk:=Blk.mk BK.exact true [.int .i64 4,.int .i64 f,.int .i64 a,.int .i64 0,.int .i64 0,.int .i64 0,.int .i64 0,.int .i64 0,.lst 0 (aF []) 0 7,aGx lo,.int .i64 0,.int .i64 0,.lst 0 [] 0 1]
abbrev aUu:Blk:=Blk.mk BK.exact true [.bool true,.bool false,.bool false,.bool true,.bool false]
abbrev aT1 (x_5:Nat×List UInt8) (lo:List Int) (f a:Int):Prop:=Lf (x_5.1≤(aM lo).length∧x_5.2=aJ 4 [f]++aJ 4 [a]++dE ((aM lo).take x_5.1))
abbrev bAu (f a:Int) (lo:List Int):Prop:=aK [AV.int .i64 4,.int .i64 f,.int .i64 a,.int .i64 0,.int .i64 0,.int .i64 0,.int .i64 0,.int .i64 0,.lst 0 (aF []) 0 7,aGx lo,.int .i64 0,.int .i64 0,.lst 0 [] 0 1]
abbrev bA4:Prop:=aK [AV.bool true,.bool false,.bool false,.bool true,.bool false]
abbrev aW3 (xs_3:List Int):AV:=.lst 0 (aR (aM xs_3)) (aM xs_3).length 2
theorem bDb (bs:List UInt8) (f:Int) (a:Int) (lo:List Int) (Q:Out→List Blk→Gh→Prop):xR (bG [(188500,.int .i64),(188504,.agg [.int .i64,.int .i64]),(188508,.int .i64),(188523,.int .i64),(188524,.int
 .i64),(188525,.int .i64),(188538,.int .i64),(188539,.int .i64)]) (bF [(192510,true)]) bs f a lo Q=(∃xs_0:List Int,aM8 f xs_0∧∃bs_1:List UInt8,∃xs_2:List Int,Lf (GetElem?.getElem? [jA bs,aXp f a lo,aUu,
 aFb xs_0] 3=Option.some (jA bs_1)∧uE xs_0 bs_1∧uE xs_0 bs_1∧gD bs_1∧[AV.int .i64 a]=aA xs_2∧uB xs_2)∧∃xs_3:List Int,Lf (aA lo=aA xs_3∧lo.length=xs_3.length∧bV xs_3=true)∧exI
 .i64 ((aM xs_3).length:Int) (fun n_4=>(∃x_5:Nat×List UInt8,aT1 x_5 lo f a∧aK (ofBytes bs)∧bAu f a lo∧bA4∧aAa bs_1 xs_2=ofBytes x_5.2∧aGc bs∧aE1∧aXe bs_1 xs_2 x_5∧aW3 xs_3=aW3 lo∧aK
 (AV.int .i64 1)∧AV.int .i64 0=xE x_5∧AV.int .i64 n_4=AV.int .i64 ((aM lo).length:Int)∧aEp∧True)∧∀x_5:Nat×List UInt8,aT1 x_5 lo f a→bif decide ((x_5.1:Int)<((aM lo).length:Int)) then ckQ (Nat.blt
 (sI x_5) (aM lo).length&&true) (ckQ (Nat.ble (sI x_5*2+2) (aR (aM lo)).length) (∃n_6 n_7,AV.agg (((aR (aM lo)).drop (sI x_5*2)).take 2)=AV.agg [.int .i64 n_6,.int .i64 n_7]∧∃bs_8:List UInt8,
 ∃xs_9:List Int,∃k2_10:BK,∃lf_11:Bool,Lf (GetElem?.getElem? [jA bs,aXp f a lo,aUu,wL x_5,Blk.mk BK.exact true [.int .i64 n_6,.int .i64 n_7]] 3=Option.some (jA bs_8)∧oC x_5 bs_8∧oC x_5 bs_8∧gD
 bs_8∧GetElem?.getElem? [jA bs,aXp f a lo,aUu,wL x_5,Blk.mk BK.exact true [.int .i64 n_6,.int .i64 n_7]] 4=Option.some (Blk.mk k2_10 lf_11 (aA xs_9))∧(3:Nat)≠(4:Nat)∧2=xs_9.length∧2=xs_9.length∧((2 :
 Nat)=(1:Nat)∨(2:Nat)=(2:Nat)))∧exW .i64 ((x_5.1:Int)+1) (fun n_12=>zS∧∃y_13:Nat×List UInt8,aT1 y_13 lo f a∧(aM lo).length-y_13.1<(aM lo).length-x_5.1∧aK (ofBytes bs)∧bAu f a lo ∧
 bA4∧ofBytes (bs_8++aJ 2 xs_9)=ofBytes y_13.2∧aGc bs∧aE1∧AV.sl 3 (bs_8++aJ 2 xs_9).length 0 (bs_8++aJ 2 xs_9).length 1=aW8 y_13∧aK (aW3 lo)∧aK (AV.int .i64 1)∧AV.int .i64 n_12=xE y_13∧aK
 (AV.int .i64 ((aM lo).length:Int))∧aEp∧True))) else tlC bs f Q x_5.2 4 a (aA lo) lo.length 0 0 [] 0 true true false [] 129 205)):=by kernel_rfl

noncomputable def wE (hv:Nat→Option Pa) (hb:Nat→Option Bool) (bs:List UInt8) (f a:Int) (Q:Out→List Blk→Gh→Prop):Prop:=
 bH (e24 aG2 (fun _=>none) hv hb) (wpx (e24 aG2 (fun _=>none) hv hb) 1000) 46 [.sl 0 bs.length 0 bs.length 1,.agg (ctC ⟨5,f,a,0,0,0,0,0,[],[],0,0,[]⟩)] [⟨.grow,true,ofBytes bs⟩] {} Q
theorem bEw (bs:List UInt8) (f:Int) (a:Int) (Q:Out→List Blk→Gh→Prop):wE (bG [(188523,.int .i64),(188524,.int .i64),(188525,.int .i64),(188538,.int .i64),(188539,.int .i64)]) (bF [(192510,true)]) bs f a Q=(∃xs_0:List Int,Lf ([AV.int .i64 f]=aA xs_0∧1=xs_0.length∧(1:Int)≤(4:Int)∧(4:Int)≤(7:Int)∧1≤xs_0.length∧xs_0.length≤1000000)∧∃bs_1:List UInt8,∃xs_2:List Int,Lf (GetElem?.getElem? [Blk.mk
 BK.grow true (ofBytes bs),Blk.mk BK.exact true [.int .i64 5,.int .i64 f,.int .i64 a,.int .i64 0,.int .i64 0,.int .i64 0,.int .i64 0,.int .i64 0,.lst 0 (aF []) 0 7,.lst 0 [] 0 1,.int .i64 0,.int .i64 0,.lst 0 [] 0 1],
 Blk.mk BK.exact true [.bool true,.bool false,.bool false,.bool false,.bool false],Blk.mk BK.grow true (ofBytes (aJ 4 xs_0))] 3=Option.some (Blk.mk BK.grow true (ofBytes bs_1))∧(aJ 4 xs_0).length=bs_1.length∧(aJ 4
 xs_0).length=bs_1.length∧bs_1.length≤1000000∧[AV.int .i64 a]=aA xs_2∧1=xs_2.length∧(1:Int)≤(4:Int)∧(4:Int)≤(7:Int)∧xs_2.length≤1000000)∧tlC bs f Q (bs_1++aJ 4 xs_2) 5 a [] 0 0 0 [] 0 true false
 false [] 129 206):=by kernel_rfl

noncomputable def vL (hv:Nat→Option Pa) (hb:Nat→Option Bool) (bs:List UInt8) (f a ba ro:Int) (ti:List Int) (Q:Out→List Blk→Gh→Prop):Prop:=
 bH (e24 aG2 (fun _=>none) hv hb) (wpx (e24 aG2 (fun _=>none) hv hb) 1000) 46 [.sl 0 bs.length 0 bs.length 1,.agg (ctC ⟨6,f,a,0,0,0,0,0,[],[],ba,ro,ti⟩)] [⟨.grow,true,ofBytes bs⟩] {} Q
abbrev bHy (f a ba ro:Int) (ti:List Int):Blk:=Blk.mk BK.exact true [.int .i64 6,.int .i64 f,.int .i64 a,.int .i64 0,.int .i64 0,.int .i64 0,.int .i64 0,.int .i64 0,.lst 0 (aF []) 0 7,.lst 0 [] 0 1,.int .i64 ba,.int .i64 ro,aGx ti]
abbrev aQ3:Blk:=Blk.mk BK.exact true [.bool true,.bool false,.bool false,.bool false,.bool true]
abbrev aOf (ba:Int):Blk:=Blk.mk BK.exact true [.int .i64 ba]
theorem bBd (bs:List UInt8) (f:Int) (a:Int) (ba:Int) (ro:Int) (ti:List Int) (Q:Out→List Blk→Gh→Prop):vL (bG [(188523,.int .i64),(188524,.int .i64),(188525,.int .i64),(188538,.int .i64),(188539,
 .int .i64)]) (bF [(192510,true)]) bs f a ba ro ti Q=(∃xs_0:List Int,aM8 f xs_0∧∃bs_1:List UInt8,∃xs_2:List Int,Lf (GetElem?.getElem? [jA bs,bHy f a ba ro ti,aQ3,aFb xs_0] 3=Option.some (jA bs_1)∧uE
 xs_0 bs_1∧uE xs_0 bs_1∧gD bs_1∧[AV.int .i64 a]=aA xs_2∧uB xs_2)∧∃bs_3:List UInt8,∃xs_4:List Int,∃k2_5:BK,∃lf_6:Bool,Lf (GetElem?.getElem? [jA bs,bHy f a ba ro ti,aQ3,wY bs_1 xs_2,aOf
 ba] 3=Option.some (jA bs_3)∧iG bs_1 xs_2=bs_3.length∧iG bs_1 xs_2=bs_3.length∧gD bs_3∧GetElem?.getElem? [jA bs,bHy f a ba ro ti,aQ3,wY bs_1 xs_2,aOf ba] 4=Option.some (Blk.mk k2_5 lf_6 (aA
 xs_4))∧(3:Nat)≠(4:Nat)∧1=xs_4.length∧1=xs_4.length∧((1:Nat)=(1:Nat)∨(1:Nat)=(2:Nat)))∧ckQ (bK [.int .i64 ro] [.int .i64 ro]&&true) (ckQ (bK [aGx ti] [aGx ti]&&true) (∃bs_7:List UInt8,∃
 xs_8:List Int,Lf (GetElem?.getElem? [jA bs,bHy f a ba ro ti,aQ3,Blk.mk BK.grow true (ofBytes (bs_3++aJ 2 xs_4)),aOf ba] 3=Option.some (jA bs_7)∧(bs_3++aJ 2 xs_4).length=bs_7.length∧(bs_3++aJ 2
 xs_4).length=bs_7.length∧bs_7.length≤10000∧aA ti=aA xs_8∧ti.length=xs_8.length∧(aZ xs_8).2.2=true)∧tlC bs f Q (bs_7++pJ xs_8 ro) 6 a [] 0 ba ro (aA ti) ti.length true false true [aOf ba] 143
 205))):=by kernel_rfl

end Go.Proofs.YtafchcmemeinlaaDoor
