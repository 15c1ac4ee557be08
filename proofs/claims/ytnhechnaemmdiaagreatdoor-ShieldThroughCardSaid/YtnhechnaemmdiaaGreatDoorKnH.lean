/-
  Chapter 3: the block of a counter.
-/
import Derived.Test.YtnhechnaemmdiaaGreatDoorKnA
set_option linter.unusedSimpArgs false
set_option linter.unusedVariables false
namespace Go.Proofs.YtnhechnaemmdiaaGreatDoor
open Go.RowKit
set_option maxRecDepth 1000000

def oC (x y:Nat):Nat:=(x+y)%4294967296
def aAa (x y:Nat):Nat:=(x%4294967296) ^^^ (y%4294967296)
def aQq (k x:Nat):Nat:=((x*2^k)%4294967296) ||| ((x/2^(32-k))%4294967296)
def leW (x:Nat):List Nat:=[x%256,x/256%256,x/65536%256,x/16777216%256]
def quM (a b c d:Nat):Nat×Nat×Nat×Nat:=
 let a:=oC a b
 let d:=aQq 16 (aAa d a)
 let c:=oC c d
 let b:=aQq 12 (aAa b c)
 let a:=oC a b
 let d:=aQq 8 (aAa d a)
 let c:=oC c d
 let b:=aQq 7 (aAa b c)
 (a,b,c,d)
theorem mP (x:Nat):IntKind.wrap .u32 (x:Int)=((x%4294967296:Nat):Int):=by
 show (x:Int)%4294967296=_
 omega
theorem iF (x:Nat):IntKind.wrap .u8 (x:Int)=((x%256:Nat):Int):=by
 show (x:Int)%256=_
 omega
theorem aAt (x y:Nat):IntKind.wrap .u32 ((x:Int)+(y:Int))=((oC x y:Nat):Int):=by
 rw[←Int.natCast_add,mP];rfl
theorem aJw (x:Nat):((x:Int)%4294967296).toNat=x%4294967296:=by omega
theorem aHa {x:Nat} (h:x<4294967296):x%4294967296=x:=bPw h
theorem aYp (x y:Nat):aAa x y<4294967296:=bTi (n:=32) (bRc _ (by omega)) (bRc _ (by omega))
theorem aW5 (k x:Nat):aQq k x<4294967296:=bQa (n:=32) (bRc _ (by omega)) (bRc _ (by omega))
theorem aG2 (x y:Nat):IntKind.wrap .u32 ((((x:Int)%4294967296).toNat ^^^ ((y:Int)%4294967296).toNat:Nat):Int)=((aAa x y:Nat):Int):=by
 rw[aJw,aJw,mP]
 exact congrArg _ (aHa (aYp x y))
theorem aHm (k x:Nat) (M N:Int) (hm:M=((2^k:Nat):Int)) (hn:N=((2^(32-k):Nat):Int)) :
  IntKind.wrap .u32 (((IntKind.wrap .u32 ((x:Int)*M)%4294967296).toNat ||| (Int.fdiv (x:Int) N%4294967296).toNat:Nat):Int)=((aQq k x:Nat):Int):=by
 subst hm hn
 have h0:(0:Int)≤((2^(32-k):Nat):Int):=bSp _
 have e1:=mP (x*2^k)
 rw[←bTy,e1,bP0 _ h0,←Int.natCast_ediv,aJw,aJw,mP,Nat.mod_mod]
 exact congrArg _ (aHa (aW5 k x))
theorem aE6 (x:Nat) (N:Int) (n:Nat) (h:N=(n:Int)):Int.fdiv (x:Int) N=((x/n:Nat):Int):=by
 subst h
 rw[bP0 _ (bSp _),Int.natCast_ediv]
theorem quI {a b c d:Nat} {K:Int→Int→Int→Int→Prop} (h:∀a' b' c' d':Nat,quM a b c d=(a',b',c',d')→K a' b' c' d') :
(∃n_2:Int,(((AV.int .u32 (IntKind.wrap .u32 ((Nat.cast a:Int)+(Nat.cast b:Int))))=(AV.int .u32 n_2)) ∧
 (∃n_3:Int,(((AV.int .u32 (IntKind.wrap .u32 (Nat.cast ((Int.toNat ((Nat.cast d:Int)%(4294967296:Int))) ^^^ (Int.toNat (n_2%(4294967296:Int)))):Int)))=(AV.int .u32 n_3)) ∧
 (∃n_4:Int,(((AV.int .u32 (IntKind.wrap .u32 (n_3*(65536:Int))))=(AV.int .u32 n_4)) ∧
 (∃n_5:Int,(((AV.int .u32 (Int.fdiv n_3 (65536:Int)))=(AV.int .u32 n_5)) ∧
 (∃n_6:Int,(((AV.int .u32 (IntKind.wrap .u32 (Nat.cast ((Int.toNat (n_4%(4294967296:Int))) ||| (Int.toNat (n_5%(4294967296:Int)))):Int)))=(AV.int .u32 n_6)) ∧
 (∃n_7:Int,(((AV.int .u32 (IntKind.wrap .u32 ((Nat.cast c:Int)+n_6)))=(AV.int .u32 n_7)) ∧
 (∃n_8:Int,(((AV.int .u32 (IntKind.wrap .u32 (Nat.cast ((Int.toNat ((Nat.cast b:Int)%(4294967296:Int))) ^^^ (Int.toNat (n_7%(4294967296:Int)))):Int)))=(AV.int .u32 n_8)) ∧
 (∃n_9:Int,(((AV.int .u32 (IntKind.wrap .u32 (n_8*(4096:Int))))=(AV.int .u32 n_9)) ∧
 (∃n_10:Int,(((AV.int .u32 (Int.fdiv n_8 (1048576:Int)))=(AV.int .u32 n_10)) ∧
 (∃n_11:Int,(((AV.int .u32 (IntKind.wrap .u32 (Nat.cast ((Int.toNat (n_9%(4294967296:Int))) ||| (Int.toNat (n_10%(4294967296:Int)))):Int)))=(AV.int .u32 n_11)) ∧
 (∃n_12:Int,(((AV.int .u32 (IntKind.wrap .u32 (n_2+n_11)))=(AV.int .u32 n_12)) ∧
 (∃n_13:Int,(((AV.int .u32 (IntKind.wrap .u32 (Nat.cast ((Int.toNat (n_6%(4294967296:Int))) ^^^ (Int.toNat (n_12%(4294967296:Int)))):Int)))=(AV.int .u32 n_13)) ∧
 (∃n_14:Int,(((AV.int .u32 (IntKind.wrap .u32 (n_13*(256:Int))))=(AV.int .u32 n_14)) ∧
 (∃n_15:Int,(((AV.int .u32 (Int.fdiv n_13 (16777216:Int)))=(AV.int .u32 n_15)) ∧
 (∃n_16:Int,(((AV.int .u32 (IntKind.wrap .u32 (Nat.cast ((Int.toNat (n_14%(4294967296:Int))) ||| (Int.toNat (n_15%(4294967296:Int)))):Int)))=(AV.int .u32 n_16)) ∧
 (∃n_17:Int,(((AV.int .u32 (IntKind.wrap .u32 (n_7+n_16)))=(AV.int .u32 n_17)) ∧
 (∃n_18:Int,(((AV.int .u32 (IntKind.wrap .u32 (Nat.cast ((Int.toNat (n_11%(4294967296:Int))) ^^^ (Int.toNat (n_17%(4294967296:Int)))):Int)))=(AV.int .u32 n_18)) ∧
 (∃n_19:Int,(((AV.int .u32 (IntKind.wrap .u32 (n_18*(128:Int))))=(AV.int .u32 n_19)) ∧
 (∃n_20:Int,(((AV.int .u32 (Int.fdiv n_18 (33554432:Int)))=(AV.int .u32 n_20)) ∧
 (∃n_21:Int,(((AV.int .u32 (IntKind.wrap .u32 (Nat.cast ((Int.toNat (n_19%(4294967296:Int))) ||| (Int.toNat (n_20%(4294967296:Int)))):Int)))=(AV.int .u32 n_21))∧K n_12 n_21 n_17 n_16)))))))))))))))))))))))))))))))))))))))):=by
  obtain ⟨a1,e1⟩:∃y,oC a b=y:=⟨_,rfl⟩
  obtain ⟨d1,e2⟩:∃y,aQq 16 (aAa d a1)=y:=⟨_,rfl⟩
  obtain ⟨c1,e3⟩:∃y,oC c d1=y:=⟨_,rfl⟩
  obtain ⟨b1,e4⟩:∃y,aQq 12 (aAa b c1)=y:=⟨_,rfl⟩
  obtain ⟨a2,e5⟩:∃y,oC a1 b1=y:=⟨_,rfl⟩
  obtain ⟨d2,e6⟩:∃y,aQq 8 (aAa d1 a2)=y:=⟨_,rfl⟩
  obtain ⟨c2,e7⟩:∃y,oC c1 d2=y:=⟨_,rfl⟩
  obtain ⟨b2,e8⟩:∃y,aQq 7 (aAa b1 c2)=y:=⟨_,rfl⟩
  have hh:=h a2 b2 c2 d2 (by simp only[quM,e1,e2,e3,e4,e5,e6,e7,e8])
  refine ⟨a1,by rw[aAt,e1],aAa d a1,by rw[aG2],_,rfl,_,rfl,d1,(congrArg (AV.int .u32) ((aHm 16 (aAa d a1) 65536 65536 rfl rfl).trans (by rw[e2]))), ?_⟩
  refine ⟨c1,by rw[aAt,e3],aAa b c1,by rw[aG2],_,rfl,_,rfl,b1,(congrArg (AV.int .u32) ((aHm 12 (aAa b c1) 4096 1048576 rfl rfl).trans (by rw[e4]))), ?_⟩
  refine ⟨a2,by rw[aAt,e5],aAa d1 a2,by rw[aG2],_,rfl,_,rfl,d2,(congrArg (AV.int .u32) ((aHm 8 (aAa d1 a2) 256 16777216 rfl rfl).trans (by rw[e6]))), ?_⟩
  exact ⟨c2,by rw[aAt,e7],aAa b1 c2,by rw[aG2],_,rfl,_,rfl,b2,(congrArg (AV.int .u32) ((aHm 7 (aAa b1 c2) 128 33554432 rfl rfl).trans (by rw[e8]))),hh⟩
theorem woI {a m:Nat} {K:Int→Int→Int→Int→Prop} (h:∀p q r s:Nat,leW (oC a m)=[p,q,r,s]→K p q r s) :
(∃n_2:Int,(((AV.int .u32 (Nat.cast a:Int))=(AV.int .u32 n_2)) ∧
 (∃n_3:Int,(((AV.int .u32 (IntKind.wrap .u32 (n_2+(Nat.cast m:Int))))=(AV.int .u32 n_3)) ∧
 (∃n_4:Int,(((AV.int .u8 (IntKind.wrap .u8 n_3))=(AV.int .u8 n_4)) ∧
 (∃n_5:Int,(((AV.int .u32 (Int.fdiv n_3 (256:Int)))=(AV.int .u32 n_5)) ∧
 (∃n_6:Int,(((AV.int .u8 (IntKind.wrap .u8 n_5))=(AV.int .u8 n_6)) ∧
 (∃n_7:Int,(((AV.int .u32 (Int.fdiv n_3 (65536:Int)))=(AV.int .u32 n_7)) ∧
 (∃n_8:Int,(((AV.int .u8 (IntKind.wrap .u8 n_7))=(AV.int .u8 n_8)) ∧
 (∃n_9:Int,(((AV.int .u32 (Int.fdiv n_3 (16777216:Int)))=(AV.int .u32 n_9)) ∧
 (∃n_10:Int,(((AV.int .u8 (IntKind.wrap .u8 n_9))=(AV.int .u8 n_10))∧K n_4 n_6 n_8 n_10)))))))))))))))))):=by
  obtain ⟨x,e1⟩:∃y,oC a m=y:=⟨_,rfl⟩
  rw[e1] at h
  exact ⟨_,rfl,x,by rw[aAt,e1],_,by rw[iF],_,(congrArg (AV.int .u32) (aE6 x 256 256 rfl)),_,by rw[iF],_,(congrArg (AV.int .u32) (aE6 x 65536 65536 rfl)),_,by rw[iF],_,(congrArg (AV.int .u32) (aE6 x 16777216 16777216 rfl)),_,by rw[iF],h _ _ _ _ rfl⟩
structure W16 where
 (x0 x1 x2 x3 x4 x5 x6 x7 x8 x9 x10 x11 x12 x13 x14 x15:Nat)
def aHs (w:W16):W16:=
 let p:=quM w.x0 w.x4 w.x8 w.x12
 let q:=quM w.x1 w.x5 w.x9 w.x13
 let r:=quM w.x2 w.x6 w.x10 w.x14
 let s:=quM w.x3 w.x7 w.x11 w.x15
 let a:=quM p.1 q.2.1 r.2.2.1 s.2.2.2
 let b:=quM q.1 r.2.1 s.2.2.1 p.2.2.2
 let c:=quM r.1 s.2.1 p.2.2.1 q.2.2.2
 let d:=quM s.1 p.2.1 q.2.2.1 r.2.2.2
 ⟨a.1,b.1,c.1,d.1,d.2.1,a.2.1,b.2.1,c.2.1,c.2.2.1,d.2.2.1,a.2.2.1,b.2.2.1,b.2.2.2,c.2.2.2,d.2.2.2,a.2.2.2⟩
def zI:Nat→W16→W16
 | 0,w=>w
 | n+1,w=>aHs (zI n w)
def bJ3 (w m:W16):List Nat:=leW (oC w.x0 m.x0)++leW (oC w.x1 m.x1)++leW (oC w.x2 m.x2)++leW (oC w.x3 m.x3)++leW (oC w.x4 m.x4)++leW (oC w.x5 m.x5)++leW (oC w.x6 m.x6)++leW (oC w.x7 m.x7)++leW (oC w.x8 m.x8)++leW (oC w.x9 m.x9)++leW (oC w.x10 m.x10)++leW (oC w.x11 m.x11)++leW (oC w.x12 m.x12)++leW (oC w.x13 m.x13)++leW (oC w.x14 m.x14)++leW (oC w.x15 m.x15)
def aV (l:List Nat):List AV:=l.map fun (n:Nat)=>AV.int .u8 (n:Int)
def aBf (w:W16) (c:Int):List Nat:=bJ3 { w with x12:=(c%4294967296).toNat } (zI 10 { w with x12:=(c%4294967296).toNat })
def W16.cells (w:W16):List AV:=[.int .u32 w.x0,.int .u32 w.x1,.int .u32 w.x2,.int .u32 w.x3,.int .u32 w.x4,.int .u32 w.x5,.int .u32 w.x6,.int .u32 w.x7,.int .u32 w.x8,.int .u32 w.x9,.int .u32 w.x10,.int .u32 w.x11,.int .u32 w.x12,.int .u32 w.x13,.int .u32 w.x14,.int .u32 w.x15]
def bBz:List AV:=List.replicate 64 (.int .u8 0)
def bG9 (w:W16):LInv where
 α:=Nat×W16
 pre p:=Lf (p.1≤10∧p.2=zI p.1 w)
 st p:=⟨mkT [(2,.ptr 0 16 0),(4,.ptr 1 64 0),(5,.ptr 2 16 0),(6,.ptr 3 1 0),(15,.int .i64 p.1)],[⟨.exact,true,w.cells⟩,⟨.exact,true,bBz⟩,⟨.exact,true,p.2.cells⟩,⟨.exact,false,[.ptr 2 16 0]⟩]⟩
 mu p:=10-p.1
noncomputable def aV8 (hv:Nat→Option Pa) (hb:Nat→Option Bool) (w:W16):Env:=e04 sm0 (fun i=>bif Nat.beq i 210000 then some (fun _=>[[bG9 w]]) else none) hv hb
noncomputable def aDu (hv:Nat→Option Pa) (hb:Nat→Option Bool) (w:W16) (c:Int) (Q:Out→List Blk→Gh→Prop):Prop:=
 aY (aV8 hv hb { w with x12:=(c%4294967296).toNat }) (wpx (aV8 hv hb { w with x12:=(c%4294967296).toNat }) 1000) 210 [.agg w.cells,.int .i64 c] [] {} Q
abbrev aC1 (c:Int):Nat:=(c%4294967296).toNat
abbrev bJc (x_1:Nat×W16) (w:W16) (c:Int):Prop:=Lf (x_1.1≤10∧x_1.2=zI x_1.1 (W16.mk (W16.x0 w) (W16.x1 w) (W16.x2 w) (W16.x3 w) (W16.x4 w) (W16.x5 w) (W16.x6 w) (W16.x7 w) (W16.x8 w) (W16.x9 w) (W16.x10 w) (W16.x11 w) (aC1 c) (W16.x13 w) (W16.x14 w) (W16.x15 w)))
abbrev bLz (w:W16) (n_0:Int):List AV:=[.int .u32 (w.1:Int),.int .u32 (w.2:Int),.int .u32 (w.3:Int),.int .u32 (w.4:Int),.int .u32 (w.5:Int),.int .u32 (w.6:Int),.int .u32 (w.7:Int),.int .u32 (w.8:Int),.int .u32 (w.9:Int),.int .u32 (w.10:Int),.int .u32 (w.11:Int),.int .u32 (w.12:Int),.int .u32 n_0,.int .u32 (w.14:Int),.int .u32 (w.15:Int),.int .u32 (w.16:Int)]
abbrev bLl (w:W16) (c:Int):List AV:=[.int .u32 (w.1:Int),.int .u32 (w.2:Int),.int .u32 (w.3:Int),.int .u32 (w.4:Int),.int .u32 (w.5:Int),.int .u32 (w.6:Int),.int .u32 (w.7:Int),.int .u32 (w.8:Int),.int .u32 (w.9:Int),.int .u32 (w.10:Int),.int .u32 (w.11:Int),.int .u32 (w.12:Int),.int .u32 (aC1 c:Int),.int .u32 (w.14:Int),.int .u32 (w.15:Int),.int .u32 (w.16:Int)]
abbrev bKn:Prop:=aJ [AV.int .u8 0,.int .u8 0,.int .u8 0,.int .u8 0,.int .u8 0,.int .u8 0,.int .u8 0,.int .u8 0,.int .u8 0,.int .u8 0,.int .u8 0,.int .u8 0,.int .u8 0,.int .u8 0,.int .u8 0,.int .u8 0,.int .u8 0,.int .u8 0,.int .u8 0,.int .u8 0,.int .u8 0,.int .u8 0,.int .u8 0,.int .u8 0,.int .u8 0,.int .u8 0,.int .u8 0,.int .u8 0,.int .u8 0,.int .u8 0,.int .u8 0,.int .u8 0,.int .u8 0,.int .u8 0,.int .u8 0,.int .u8 0,.int .u8 0,.int .u8 0,.int .u8 0,.int .u8 0,.int .u8 0,.int .u8 0,.int .u8 0,.int .u8 0,.int .u8 0,.int .u8 0,.int .u8 0,.int .u8 0,.int .u8 0,.int .u8 0,.int .u8 0,.int .u8 0,.int .u8 0,.int .u8 0,.int .u8 0,.int .u8 0,.int .u8 0,.int .u8 0,.int .u8 0,.int .u8 0,.int .u8 0,.int .u8 0,.int .u8 0,.int .u8 0]
abbrev bLd (x_1:Nat×W16):List AV:=[.int .u32 (x_1.2.1:Int),.int .u32 (x_1.2.2:Int),.int .u32 (x_1.2.3:Int),.int .u32 (x_1.2.4:Int),.int .u32 (x_1.2.5:Int),.int .u32 (x_1.2.6:Int),.int .u32 (x_1.2.7:Int),.int .u32 (x_1.2.8:Int),.int .u32 (x_1.2.9:Int),.int .u32 (x_1.2.10:Int),.int .u32 (x_1.2.11:Int),.int .u32 (x_1.2.12:Int),.int .u32 (x_1.2.13:Int),.int .u32 (x_1.2.14:Int),.int .u32 (x_1.2.15:Int),.int .u32 (x_1.2.16:Int)]
abbrev bKf:Prop:=aJ (AV.ptr 2 16 0)∧aJ (AV.ptr 0 16 0)∧aJ (AV.ptr 1 64 0)∧aJ (AV.ptr 3 1 0)∧True
abbrev kU (n_4 n_5:Int):Int:=((aC1 n_4 ||| aC1 n_5:Nat):Int)
abbrev pI (n_6 n_12:Int):Int:=((aC1 n_6 ^^^ aC1 n_12:Nat):Int)
theorem bKr (w:W16) (c:Int) (Q:Out→List Blk→Gh→Prop):aDu (bD [(860171,.int .u32),(938027,.int .u32),(938036,.int .u32),(970763,.int .u32),(970767,.int .u32),(970768,.int .u32),(938045,.int .u32),(938054,
 .int .u32),(938063,.int .u32),(938072,.int .u32),(938081,.int .u32),(938090,.int .u32),(860185,.int .i64),(860195,.int .u32),(860208,.int .u8),(860210,.int .u32),(860211,.int .u8),(860213,.int .u32),(860214,.int .u8),
 (860216,.int .u32),(860217,.int .u8),(860191,.int .u32)]) (bE []) w c Q=(exW .u32 c (fun n_0=>(∃x_1:Nat×W16,bJc x_1 w c∧bLz w n_0=bLl w c∧bKn∧bLz w n_0=bLd x_1∧aJ [AV.ptr 2 16 0]∧AV.int .i64 0 =
 AV.int .i64 (x_1.1:Int)∧bKf)∧∀x_1:Nat×W16,bJc x_1 w c→bif decide ((x_1.1:Int)<10) then exW .u32 ((x_1.2.1:Int)+(x_1.2.5:Int)) (fun n_2=>exW .u32 ((((x_1.2.13:Int)%4294967296).toNat ^^^ aC1 n_2:Nat):Int)
 (fun n_3=>exW .u32 (n_3*65536) (fun n_4=>exI .u32 (Int.fdiv n_3 65536) (fun n_5=>exW .u32 (kU n_4 n_5) (fun n_6=>exW .u32 ((x_1.2.9:Int)+n_6) (fun n_7=>exW .u32 ((((x_1.2.5:Int)%4294967296).toNat ^^^ aC1 n_7:Nat) :
 Int) (fun n_8=>exW .u32 (n_8*4096) (fun n_9=>exI .u32 (Int.fdiv n_8 1048576) (fun n_10=>exW .u32 (kU n_9 n_10) (fun n_11=>exW .u32 (n_2+n_11) (fun n_12=>exW .u32 (pI n_6 n_12) (fun n_13=>exW .u32 (n_13*256) (fun n_14
 => exI .u32 (Int.fdiv n_13 16777216) (fun n_15=>exW .u32 (kU n_14 n_15) (fun n_16=>exW .u32 (n_7+n_16) (fun n_17=>exW .u32 (pI n_11 n_17) (fun n_18=>exW .u32 (n_18*128) (fun n_19=>exI .u32 (Int.fdiv n_18 33554432) (fun
 n_20=>exW .u32 (kU n_19 n_20) (fun n_21=>exW .u32 ((x_1.2.2:Int)+(x_1.2.6:Int)) (fun n_22=>exW .u32 ((((x_1.2.14:Int)%4294967296).toNat ^^^ aC1 n_22:Nat):Int) (fun n_23=>exW .u32 (n_23*65536) (fun n_24=>exI
 .u32 (Int.fdiv n_23 65536) (fun n_25=>exW .u32 (kU n_24 n_25) (fun n_26=>exW .u32 ((x_1.2.10:Int)+n_26) (fun n_27=>exW .u32 ((((x_1.2.6:Int)%4294967296).toNat ^^^ aC1 n_27:Nat):Int) (fun n_28=>exW .u32 (n_28*4096)
 (fun n_29=>exI .u32 (Int.fdiv n_28 1048576) (fun n_30=>exW .u32 (kU n_29 n_30) (fun n_31=>exW .u32 (n_22+n_31) (fun n_32=>exW .u32 (pI n_26 n_32) (fun n_33=>exW .u32 (n_33*256) (fun n_34=>exI .u32 (Int.fdiv n_33
 16777216) (fun n_35=>exW .u32 (kU n_34 n_35) (fun n_36=>exW .u32 (n_27+n_36) (fun n_37=>exW .u32 (pI n_31 n_37) (fun n_38=>exW .u32 (n_38*128) (fun n_39=>exI .u32 (Int.fdiv n_38 33554432) (fun n_40=>exW .u32 (kU n_39
 n_40) (fun n_41=>exW .u32 ((x_1.2.3:Int)+(x_1.2.7:Int)) (fun n_42=>exW .u32 ((((x_1.2.15:Int)%4294967296).toNat ^^^ aC1 n_42:Nat):Int) (fun n_43=>exW .u32 (n_43*65536) (fun n_44=>exI .u32 (Int.fdiv n_43 65536) (fun
 n_45=>exW .u32 (kU n_44 n_45) (fun n_46=>exW .u32 ((x_1.2.11:Int)+n_46) (fun n_47=>exW .u32 ((((x_1.2.7:Int)%4294967296).toNat ^^^ aC1 n_47:Nat):Int) (fun n_48=>exW .u32 (n_48*4096) (fun n_49=>exI .u32 (Int.fdiv
 n_48 1048576) (fun n_50=>exW .u32 (kU n_49 n_50) (fun n_51=>exW .u32 (n_42+n_51) (fun n_52=>exW .u32 (pI n_46 n_52) (fun n_53=>exW .u32 (n_53*256) (fun n_54=>exI .u32 (Int.fdiv n_53 16777216) (fun n_55=>exW .u32 (kU
 n_54 n_55) (fun n_56=>exW .u32 (n_47+n_56) (fun n_57=>exW .u32 (pI n_51 n_57) (fun n_58=>exW .u32 (n_58*128) (fun n_59=>exI .u32 (Int.fdiv n_58 33554432) (fun n_60=>exW .u32 (kU n_59 n_60) (fun n_61=>exW .u32 ((x_1.2.4
 : Int)+(x_1.2.8:Int)) (fun n_62=>exW .u32 ((((x_1.2.16:Int)%4294967296).toNat ^^^ aC1 n_62:Nat):Int) (fun n_63=>exW .u32 (n_63*65536) (fun n_64=>exI .u32 (Int.fdiv n_63 65536) (fun n_65=>exW .u32 (kU n_64 n_65)
 (fun n_66=>exW .u32 ((x_1.2.12:Int)+n_66) (fun n_67=>exW .u32 ((((x_1.2.8:Int)%4294967296).toNat ^^^ aC1 n_67:Nat):Int) (fun n_68=>exW .u32 (n_68*4096) (fun n_69=>exI .u32 (Int.fdiv n_68 1048576) (fun n_70=>exW
 .u32 (kU n_69 n_70) (fun n_71=>exW .u32 (n_62+n_71) (fun n_72=>exW .u32 (pI n_66 n_72) (fun n_73=>exW .u32 (n_73*256) (fun n_74=>exI .u32 (Int.fdiv n_73 16777216) (fun n_75=>exW .u32 (kU n_74 n_75) (fun n_76=>exW .u32
 (n_67+n_76) (fun n_77=>exW .u32 (pI n_71 n_77) (fun n_78=>exW .u32 (n_78*128) (fun n_79=>exI .u32 (Int.fdiv n_78 33554432) (fun n_80=>exW .u32 (kU n_79 n_80) (fun n_81=>exW .u32 (n_12+n_41) (fun n_82=>exW .u32 (pI
 n_76 n_82) (fun n_83=>exW .u32 (n_83*65536) (fun n_84=>exI .u32 (Int.fdiv n_83 65536) (fun n_85=>exW .u32 (kU n_84 n_85) (fun n_86=>exW .u32 (n_57+n_86) (fun n_87=>exW .u32 (pI n_41 n_87) (fun n_88=>exW .u32 (n_88 *
 4096) (fun n_89=>exI .u32 (Int.fdiv n_88 1048576) (fun n_90=>exW .u32 (kU n_89 n_90) (fun n_91=>exW .u32 (n_82+n_91) (fun n_92=>exW .u32 (pI n_86 n_92) (fun n_93=>exW .u32 (n_93*256) (fun n_94=>exI .u32 (Int.fdiv n_93
 16777216) (fun n_95=>exW .u32 (kU n_94 n_95) (fun n_96=>exW .u32 (n_87+n_96) (fun n_97=>exW .u32 (pI n_91 n_97) (fun n_98=>exW .u32 (n_98*128) (fun n_99=>exI .u32 (Int.fdiv n_98 33554432) (fun n_100=>exW .u32 (kU n_99
 n_100) (fun n_101=>exW .u32 (n_32+n_61) (fun n_102=>exW .u32 (pI n_16 n_102) (fun n_103=>exW .u32 (n_103*65536) (fun n_104=>exI .u32 (Int.fdiv n_103 65536) (fun n_105=>exW .u32 (kU n_104 n_105) (fun n_106=>exW .u32
 (n_77+n_106) (fun n_107=>exW .u32 (pI n_61 n_107) (fun n_108=>exW .u32 (n_108*4096) (fun n_109=>exI .u32 (Int.fdiv n_108 1048576) (fun n_110=>exW .u32 (kU n_109 n_110) (fun n_111=>exW .u32 (n_102+n_111) (fun n_112=>
 exW .u32 (pI n_106 n_112) (fun n_113=>exW .u32 (n_113*256) (fun n_114=>exI .u32 (Int.fdiv n_113 16777216) (fun n_115=>exW .u32 (kU n_114 n_115) (fun n_116=>exW .u32 (n_107+n_116) (fun n_117=>exW .u32 (pI n_111 n_117)
 (fun n_118=>exW .u32 (n_118*128) (fun n_119=>exI .u32 (Int.fdiv n_118 33554432) (fun n_120=>exW .u32 (kU n_119 n_120) (fun n_121=>exW .u32 (n_52+n_81) (fun n_122=>exW .u32 (pI n_36 n_122) (fun n_123=>exW .u32 (n_123 *
 65536) (fun n_124=>exI .u32 (Int.fdiv n_123 65536) (fun n_125=>exW .u32 (kU n_124 n_125) (fun n_126=>exW .u32 (n_17+n_126) (fun n_127=>exW .u32 (pI n_81 n_127) (fun n_128=>exW .u32 (n_128*4096) (fun n_129=>exI .u32
 (Int.fdiv n_128 1048576) (fun n_130=>exW .u32 (kU n_129 n_130) (fun n_131=>exW .u32 (n_122+n_131) (fun n_132=>exW .u32 (pI n_126 n_132) (fun n_133=>exW .u32 (n_133*256) (fun n_134=>exI .u32 (Int.fdiv n_133 16777216) (fun
 n_135=>exW .u32 (kU n_134 n_135) (fun n_136=>exW .u32 (n_127+n_136) (fun n_137=>exW .u32 (pI n_131 n_137) (fun n_138=>exW .u32 (n_138*128) (fun n_139=>exI .u32 (Int.fdiv n_138 33554432) (fun n_140=>exW .u32 (kU n_139
 n_140) (fun n_141=>exW .u32 (n_72+n_21) (fun n_142=>exW .u32 (pI n_56 n_142) (fun n_143=>exW .u32 (n_143*65536) (fun n_144=>exI .u32 (Int.fdiv n_143 65536) (fun n_145=>exW .u32 (kU n_144 n_145) (fun n_146=>exW .u32
 (n_37+n_146) (fun n_147=>exW .u32 (pI n_21 n_147) (fun n_148=>exW .u32 (n_148*4096) (fun n_149=>exI .u32 (Int.fdiv n_148 1048576) (fun n_150=>exW .u32 (kU n_149 n_150) (fun n_151=>exW .u32 (n_142+n_151) (fun n_152=>
 exW .u32 (pI n_146 n_152) (fun n_153=>exW .u32 (n_153*256) (fun n_154=>exI .u32 (Int.fdiv n_153 16777216) (fun n_155=>exW .u32 (kU n_154 n_155) (fun n_156=>exW .u32 (n_147+n_156) (fun n_157=>exW .u32 (pI n_151 n_157)
 (fun n_158=>exW .u32 (n_158*128) (fun n_159=>exI .u32 (Int.fdiv n_158 33554432) (fun n_160=>exW .u32 (kU n_159 n_160) (fun n_161=>exW .i64 ((x_1.1:Int)+1) (fun n_162=>(True∧(0:Nat)=(0:Nat))∧∃y_163:Nat×W16,
 bJc y_163 w c∧10-y_163.1<10-x_1.1∧aJ (bLl w c)∧bKn∧[AV.int .u32 n_92,.int .u32 n_112,.int .u32 n_132,.int .u32 n_152,.int .u32 n_161,.int .u32 n_101,.int .u32 n_121,.int .u32 n_141,.int .u32 n_137,.int .u32
 n_157,.int .u32 n_97,.int .u32 n_117,.int .u32 n_116,.int .u32 n_136,.int .u32 n_156,.int .u32 n_96]=bLd y_163∧aJ [AV.ptr 2 16 0]∧AV.int .i64 n_162=AV.int .i64 (y_163.1:Int) ∧
 bKf))))))))))))))))))))))))))))))))))))))))))))))))))))))))))))))))))))))))))))))))))))))))))))))))))))))))))))))))))))))))))))))))))))))))))))))))))))))))))))))))) else exI .u32 (w.1:Int) (fun n_2=>exW .u32 (n_2+(x_1.2.1:Int))
 (fun n_3=>exW .u8 n_3 (fun n_4=>exI .u32 (Int.fdiv n_3 256) (fun n_5=>exW .u8 n_5 (fun n_6=>exI .u32 (Int.fdiv n_3 65536) (fun n_7=>exW .u8 n_7 (fun n_8=>exI .u32 (Int.fdiv n_3 16777216) (fun n_9=>exW .u8 n_9 (fun n_10=>exI
 .u32 (w.2:Int) (fun n_11=>exW .u32 (n_11+(x_1.2.2:Int)) (fun n_12=>exW .u8 n_12 (fun n_13=>exI .u32 (Int.fdiv n_12 256) (fun n_14=>exW .u8 n_14 (fun n_15=>exI .u32 (Int.fdiv n_12 65536) (fun n_16=>exW .u8 n_16 (fun n_17
 => exI .u32 (Int.fdiv n_12 16777216) (fun n_18=>exW .u8 n_18 (fun n_19=>exI .u32 (w.3:Int) (fun n_20=>exW .u32 (n_20+(x_1.2.3:Int)) (fun n_21=>exW .u8 n_21 (fun n_22=>exI .u32 (Int.fdiv n_21 256) (fun n_23=>exW .u8 n_23
 (fun n_24=>exI .u32 (Int.fdiv n_21 65536) (fun n_25=>exW .u8 n_25 (fun n_26=>exI .u32 (Int.fdiv n_21 16777216) (fun n_27=>exW .u8 n_27 (fun n_28=>exI .u32 (w.4:Int) (fun n_29=>exW .u32 (n_29+(x_1.2.4:Int)) (fun n_30=>
 exW .u8 n_30 (fun n_31=>exI .u32 (Int.fdiv n_30 256) (fun n_32=>exW .u8 n_32 (fun n_33=>exI .u32 (Int.fdiv n_30 65536) (fun n_34=>exW .u8 n_34 (fun n_35=>exI .u32 (Int.fdiv n_30 16777216) (fun n_36=>exW .u8 n_36 (fun n_37=>
 exI .u32 (w.5:Int) (fun n_38=>exW .u32 (n_38+(x_1.2.5:Int)) (fun n_39=>exW .u8 n_39 (fun n_40=>exI .u32 (Int.fdiv n_39 256) (fun n_41=>exW .u8 n_41 (fun n_42=>exI .u32 (Int.fdiv n_39 65536) (fun n_43=>exW .u8 n_43 (fun
 n_44=>exI .u32 (Int.fdiv n_39 16777216) (fun n_45=>exW .u8 n_45 (fun n_46=>exI .u32 (w.6:Int) (fun n_47=>exW .u32 (n_47+(x_1.2.6:Int)) (fun n_48=>exW .u8 n_48 (fun n_49=>exI .u32 (Int.fdiv n_48 256) (fun n_50=>exW .u8
 n_50 (fun n_51=>exI .u32 (Int.fdiv n_48 65536) (fun n_52=>exW .u8 n_52 (fun n_53=>exI .u32 (Int.fdiv n_48 16777216) (fun n_54=>exW .u8 n_54 (fun n_55=>exI .u32 (w.7:Int) (fun n_56=>exW .u32 (n_56+(x_1.2.7:Int)) (fun n_57
 => exW .u8 n_57 (fun n_58=>exI .u32 (Int.fdiv n_57 256) (fun n_59=>exW .u8 n_59 (fun n_60=>exI .u32 (Int.fdiv n_57 65536) (fun n_61=>exW .u8 n_61 (fun n_62=>exI .u32 (Int.fdiv n_57 16777216) (fun n_63=>exW .u8 n_63 (fun n_64=>
 exI .u32 (w.8:Int) (fun n_65=>exW .u32 (n_65+(x_1.2.8:Int)) (fun n_66=>exW .u8 n_66 (fun n_67=>exI .u32 (Int.fdiv n_66 256) (fun n_68=>exW .u8 n_68 (fun n_69=>exI .u32 (Int.fdiv n_66 65536) (fun n_70=>exW .u8 n_70 (fun
 n_71=>exI .u32 (Int.fdiv n_66 16777216) (fun n_72=>exW .u8 n_72 (fun n_73=>exI .u32 (w.9:Int) (fun n_74=>exW .u32 (n_74+(x_1.2.9:Int)) (fun n_75=>exW .u8 n_75 (fun n_76=>exI .u32 (Int.fdiv n_75 256) (fun n_77=>exW .u8
 n_77 (fun n_78=>exI .u32 (Int.fdiv n_75 65536) (fun n_79=>exW .u8 n_79 (fun n_80=>exI .u32 (Int.fdiv n_75 16777216) (fun n_81=>exW .u8 n_81 (fun n_82=>exI .u32 (w.10:Int) (fun n_83=>exW .u32 (n_83+(x_1.2.10:Int)) (fun
 n_84=>exW .u8 n_84 (fun n_85=>exI .u32 (Int.fdiv n_84 256) (fun n_86=>exW .u8 n_86 (fun n_87=>exI .u32 (Int.fdiv n_84 65536) (fun n_88=>exW .u8 n_88 (fun n_89=>exI .u32 (Int.fdiv n_84 16777216) (fun n_90=>exW .u8 n_90 (fun
 n_91=>exI .u32 (w.11:Int) (fun n_92=>exW .u32 (n_92+(x_1.2.11:Int)) (fun n_93=>exW .u8 n_93 (fun n_94=>exI .u32 (Int.fdiv n_93 256) (fun n_95=>exW .u8 n_95 (fun n_96=>exI .u32 (Int.fdiv n_93 65536) (fun n_97=>exW .u8
 n_97 (fun n_98=>exI .u32 (Int.fdiv n_93 16777216) (fun n_99=>exW .u8 n_99 (fun n_100=>exI .u32 (w.12:Int) (fun n_101=>exW .u32 (n_101+(x_1.2.12:Int)) (fun n_102=>exW .u8 n_102 (fun n_103=>exI .u32 (Int.fdiv n_102 256)
 (fun n_104=>exW .u8 n_104 (fun n_105=>exI .u32 (Int.fdiv n_102 65536) (fun n_106=>exW .u8 n_106 (fun n_107=>exI .u32 (Int.fdiv n_102 16777216) (fun n_108=>exW .u8 n_108 (fun n_109=>exI .u32 (aC1 c:Int) (fun n_110=>exW .u32
 (n_110+(x_1.2.13:Int)) (fun n_111=>exW .u8 n_111 (fun n_112=>exI .u32 (Int.fdiv n_111 256) (fun n_113=>exW .u8 n_113 (fun n_114=>exI .u32 (Int.fdiv n_111 65536) (fun n_115=>exW .u8 n_115 (fun n_116=>exI .u32 (Int.fdiv n_111
 16777216) (fun n_117=>exW .u8 n_117 (fun n_118=>exI .u32 (w.14:Int) (fun n_119=>exW .u32 (n_119+(x_1.2.14:Int)) (fun n_120=>exW .u8 n_120 (fun n_121=>exI .u32 (Int.fdiv n_120 256) (fun n_122=>exW .u8 n_122 (fun n_123=>
 exI .u32 (Int.fdiv n_120 65536) (fun n_124=>exW .u8 n_124 (fun n_125=>exI .u32 (Int.fdiv n_120 16777216) (fun n_126=>exW .u8 n_126 (fun n_127=>exI .u32 (w.15:Int) (fun n_128=>exW .u32 (n_128+(x_1.2.15:Int)) (fun n_129=>
 exW .u8 n_129 (fun n_130=>exI .u32 (Int.fdiv n_129 256) (fun n_131=>exW .u8 n_131 (fun n_132=>exI .u32 (Int.fdiv n_129 65536) (fun n_133=>exW .u8 n_133 (fun n_134=>exI .u32 (Int.fdiv n_129 16777216) (fun n_135=>exW .u8 n_135
 (fun n_136=>exI .u32 (w.16:Int) (fun n_137=>exW .u32 (n_137+(x_1.2.16:Int)) (fun n_138=>exW .u8 n_138 (fun n_139=>exI .u32 (Int.fdiv n_138 256) (fun n_140=>exW .u8 n_140 (fun n_141=>exI .u32 (Int.fdiv n_138 65536) (fun
 n_142=>exW .u8 n_142 (fun n_143=>exI .u32 (Int.fdiv n_138 16777216) (fun n_144=>exW .u8 n_144 (fun n_145=>Q (.ret (.agg [.int .u8 n_4,.int .u8 n_6,.int .u8 n_8,.int .u8 n_10,.int .u8 n_13,.int .u8 n_15,.int .u8 n_17,.int .u8
 n_19,.int .u8 n_22,.int .u8 n_24,.int .u8 n_26,.int .u8 n_28,.int .u8 n_31,.int .u8 n_33,.int .u8 n_35,.int .u8 n_37,.int .u8 n_40,.int .u8 n_42,.int .u8 n_44,.int .u8 n_46,.int .u8 n_49,.int .u8 n_51,.int .u8 n_53,.int .u8
 n_55,.int .u8 n_58,.int .u8 n_60,.int .u8 n_62,.int .u8 n_64,.int .u8 n_67,.int .u8 n_69,.int .u8 n_71,.int .u8 n_73,.int .u8 n_76,.int .u8 n_78,.int .u8 n_80,.int .u8 n_82,.int .u8 n_85,.int .u8 n_87,.int .u8 n_89,.int .u8
 n_91,.int .u8 n_94,.int .u8 n_96,.int .u8 n_98,.int .u8 n_100,.int .u8 n_103,.int .u8 n_105,.int .u8 n_107,.int .u8 n_109,.int .u8 n_112,.int .u8 n_114,.int .u8 n_116,.int .u8 n_118,.int .u8 n_121,.int .u8 n_123,.int .u8
 n_125,.int .u8 n_127,.int .u8 n_130,.int .u8 n_132,.int .u8 n_134,.int .u8 n_136,.int .u8 n_139,.int .u8 n_141,.int .u8 n_143,.int .u8 n_145])) []
 {})))))))))))))))))))))))))))))))))))))))))))))))))))))))))))))))))))))))))))))))))))))))))))))))))))))))))))))))))))))))))))))))))))))))))))))))))):=by kernel_rfl


theorem aW7 (w:W16) (c:Int) (Q:Out→List Blk→Gh→Prop) (hq:Q (.ret (.agg (aV (aBf w c)))) [] {}):∃hv hb,aDu hv hb w c Q:=by
 obtain ⟨hv,hb',e⟩:∃hv hb,aDu hv hb w c Q=_:=⟨_,_,bKr w c Q⟩
 refine ⟨hv,hb',e.mpr ?_⟩
 delta aC1 bJc bLz bLl bKn bLd bKf kU pI
 clear e
 unfold aBf at hq
 generalize hw : { w with x12:=(c%4294967296).toNat }=w' at *
 have h12:IntKind.wrap .u32 c=(((c%4294967296).toNat:Nat):Int):=by
  show c%4294967296=_
  omega
 have hcs:w'.cells=[.int .u32 w.x0,.int .u32 w.x1,.int .u32 w.x2,.int .u32 w.x3,.int .u32 w.x4,.int .u32 w.x5,.int .u32 w.x6,.int .u32 w.x7,.int .u32 w.x8,.int .u32 w.x9,.int .u32 w.x10,.int .u32 w.x11,.int .u32 (((c%4294967296).toNat:Nat):Int),.int .u32 w.x13,.int .u32 w.x14,.int .u32 w.x15]:=by subst hw;rfl
 simp only[W16.cells] at hcs
 refine ⟨_,by rw[h12],⟨(0,w'),⟨by omega,rfl⟩, ?_⟩, ?_⟩
 ·rw[hcs]
  simp
 rintro ⟨k,v⟩ ⟨hk,hv2⟩
 dsimp only at hk hv2
 refine aD (fun h => ?_) (fun h => ?_)
 ·dsimp only at h ⊢
  refine quI (fun a0 b0 c0 d0 e0 => ?_)
  refine quI (fun a1 b1 c1 d1 e1 => ?_)
  refine quI (fun a2 b2 c2 d2 e2 => ?_)
  refine quI (fun a3 b3 c3 d3 e3 => ?_)
  refine quI (fun a4 b4 c4 d4 e4 => ?_)
  refine quI (fun a5 b5 c5 d5 e5 => ?_)
  refine quI (fun a6 b6 c6 d6 e6 => ?_)
  refine quI (fun a7 b7 c7 d7 e7 => ?_)
  have er:aHs v=⟨a4,a5,a6,a7,b7,b4,b5,b6,c6,c7,c4,c5,d5,d6,d7,d4⟩:=by simp only[aHs,e0,e1,e2,e3,e4,e5,e6,e7]
  refine aI (by omega) (by omega) ⟨⟨trivial,by trivial⟩,(k+1,aHs v),⟨by omega,by rw[hv2];rfl⟩, ?_, ?_⟩
  ·dsimp only;omega
  ·rw[er]
   simp
 ·obtain rfl:k=10:=by dsimp only at h;omega
  dsimp only
  refine woI (fun p0 q0 r0 s0 f0 => ?_)
  refine woI (fun p1 q1 r1 s1 f1 => ?_)
  refine woI (fun p2 q2 r2 s2 f2 => ?_)
  refine woI (fun p3 q3 r3 s3 f3 => ?_)
  refine woI (fun p4 q4 r4 s4 f4 => ?_)
  refine woI (fun p5 q5 r5 s5 f5 => ?_)
  refine woI (fun p6 q6 r6 s6 f6 => ?_)
  refine woI (fun p7 q7 r7 s7 f7 => ?_)
  refine woI (fun p8 q8 r8 s8 f8 => ?_)
  refine woI (fun p9 q9 r9 s9 f9 => ?_)
  refine woI (fun p10 q10 r10 s10 f10 => ?_)
  refine woI (fun p11 q11 r11 s11 f11 => ?_)
  refine woI (fun p12 q12 r12 s12 f12 => ?_)
  refine woI (fun p13 q13 r13 s13 f13 => ?_)
  refine woI (fun p14 q14 r14 s14 f14 => ?_)
  refine woI (fun p15 q15 r15 s15 f15 => ?_)
  subst hw
  rw[←hv2] at hq
  simp only[bJ3,f0,f1,f2,f3,f4,f5,f6,f7,f8,f9,f10,f11,f12,f13,f14,f15,aV,bPh,bPg,bO2,bSz] at hq
  exact hq
def bI7:Con
 | [.agg cs,.int .i64 c],H,K=>∃w:W16,Lf (cs=w.cells)∧∀l:List Nat,Lf (l=aBf w c)→K (.ret (.agg (aV l))) H
 | _,_,_=>False
theorem aFm (l:List Nat):aL 0 (aV l)=true∧bG (aV l)=true:=by
 induction l with
 | nil=>exact ⟨rfl,rfl⟩
 | cons x l ih=>exact ⟨by simpa [aV,aL,old] using ih.1,by simpa [aV,bG,noY] using ih.2⟩
theorem aWf:aF Tryz.prog gl0 210 bI7:=by
 refine aP (enters_of (by kernel_rfl)) aM fun args H Q hc => ?_
 unfold bI7 at hc
 split at hc
 ·rename_i cs c
  obtain ⟨w,⟨rfl⟩,hq⟩:=hc
  obtain ⟨hv,hb',h⟩:=aW7 w c (Q:=fun o H' _=>H'=[]∧(∃v,o=.ret v∧old 0 v=true∧noY v=true)∧Q o H) ⟨rfl,⟨_,rfl,by simpa [old] using (aFm _).1,by simpa [noY] using (aFm _).2⟩,hq _ ⟨rfl⟩⟩
  exact ⟨rfl,rfl,_,1000,aT bT _ _ _,rfl,h⟩
 ·exact hc.elim
def smC:SM:=dV [(210,bI7)]
theorem bF9:∀f g,smC f=some g→aF Tryz.prog gl0 f g:=bF _ (by simp only[bOr,bOx,bP3,bQe];exact aWf)
def aJ6 (s:List UInt8) (i:Nat):Nat:=(s.getD i 0).toNat
def bQ (s:List UInt8) (m:Nat):Nat:=((aJ6 s m ||| aJ6 s (m+1)*256) ||| aJ6 s (m+2)*65536) ||| aJ6 s (m+3)*16777216
theorem yH (s:List UInt8) (i:Nat):aJ6 s i<256:=(s.getD i 0).toNat_lt
theorem qL {s:List UInt8} {m i k:Nat} (h:k=s.length-m):(UInt8.toNat (List.getD (List.take k (List.drop m s)) i (UInt8.ofNat 0)))=aJ6 s (m+i):=by
 subst h
 have e:List.take (s.length-m) (List.drop m s)=List.drop m s:=bOk (by simp)
 rw[e,aJ6,bOs,bPr,←bOs]
 rfl
theorem wI {x:Nat} (h:x<4294967296):IntKind.wrap .u32 (x:Int)=(x:Int):=by
 rw[mP,bPw h]
theorem bKu (x:Nat) (M:Int) (n:Nat) (hM:M=(n:Int)) (h:x*n<4294967296):IntKind.wrap .u32 ((x:Int)*M)=((x*n:Nat):Int):=by
 subst hM
 rw[←bTy,wI h]
theorem orw (x y:Nat) (hx:x<4294967296) (hy:y<4294967296):IntKind.wrap .u32 (((((x:Int)%4294967296).toNat ||| ((y:Int)%4294967296).toNat:Nat)):Int)=((x ||| y:Nat):Int):=by
 rw[aJw,aJw,aHa hx,aHa hy,wI (bQa (n:=32) hx hy)]
theorem lC {cd:Bool} {s:List UInt8} {m:Nat} (hcd:cd=true) (hm:m+4≤s.length) {K:Int→Prop} (hk:K ((bQ s m:Nat):Int)) :
 (bif cd then (∃s_5:(List UInt8),(((AV.str (List.take ((List.length s)-m) (List.drop m s)))=(AV.str s_5)) ∧
 (bif (Nat.blt (0:Nat) (List.length s_5)) then (∃n_6:Int,(((AV.int .u8 (Nat.cast (UInt8.toNat (List.getD s_5 (0:Nat) (UInt8.ofNat (0:Nat)))):Int))=(AV.int .u8 n_6)) ∧
 (∃n_7:Int,(((AV.int .u32 (IntKind.wrap .u32 n_6))=(AV.int .u32 n_7)) ∧
 (bif (Nat.blt (1:Nat) (List.length s_5)) then (∃n_8:Int,(((AV.int .u8 (Nat.cast (UInt8.toNat (List.getD s_5 (1:Nat) (UInt8.ofNat (0:Nat)))):Int))=(AV.int .u8 n_8)) ∧
 (∃n_9:Int,(((AV.int .u32 (IntKind.wrap .u32 n_8))=(AV.int .u32 n_9)) ∧
 (∃n_10:Int,(((AV.int .u32 (IntKind.wrap .u32 (n_9*(256:Int))))=(AV.int .u32 n_10)) ∧
 (∃n_11:Int,(((AV.int .u32 (IntKind.wrap .u32 (Nat.cast ((Int.toNat (n_7%(4294967296:Int))) ||| (Int.toNat (n_10%(4294967296:Int)))):Int)))=(AV.int .u32 n_11)) ∧
 (bif (Nat.blt (2:Nat) (List.length s_5)) then (∃n_12:Int,(((AV.int .u8 (Nat.cast (UInt8.toNat (List.getD s_5 (2:Nat) (UInt8.ofNat (0:Nat)))):Int))=(AV.int .u8 n_12)) ∧
 (∃n_13:Int,(((AV.int .u32 (IntKind.wrap .u32 n_12))=(AV.int .u32 n_13)) ∧
 (∃n_14:Int,(((AV.int .u32 (IntKind.wrap .u32 (n_13*(65536:Int))))=(AV.int .u32 n_14)) ∧
 (∃n_15:Int,(((AV.int .u32 (IntKind.wrap .u32 (Nat.cast ((Int.toNat (n_11%(4294967296:Int))) ||| (Int.toNat (n_14%(4294967296:Int)))):Int)))=(AV.int .u32 n_15)) ∧
 (bif (Nat.blt (3:Nat) (List.length s_5)) then (∃n_16:Int,(((AV.int .u8 (Nat.cast (UInt8.toNat (List.getD s_5 (3:Nat) (UInt8.ofNat (0:Nat)))):Int))=(AV.int .u8 n_16)) ∧
 (∃n_17:Int,(((AV.int .u32 (IntKind.wrap .u32 n_16))=(AV.int .u32 n_17)) ∧
 (∃n_18:Int,(((AV.int .u32 (IntKind.wrap .u32 (n_17*(16777216:Int))))=(AV.int .u32 n_18)) ∧
 (∃n_19:Int,(((AV.int .u32 (IntKind.wrap .u32 (Nat.cast ((Int.toNat (n_15%(4294967296:Int))) ||| (Int.toNat (n_18%(4294967296:Int)))):Int)))=(AV.int .u32 n_19))∧K n_19)))))))) else False))))))))) else False))))))))) else False))))) else False))) else False):=by
  subst hcd
  have b0:=yH s (m+0)
  have b1:=yH s (m+1)
  have b2:=yH s (m+2)
  have b3:=yH s (m+3)
  have o1:(aJ6 s (m+0) ||| aJ6 s (m+1)*256)<4294967296:=bQa (n:=32) (by omega) (by omega)
  have o2:((aJ6 s (m+0) ||| aJ6 s (m+1)*256) ||| aJ6 s (m+2)*65536)<4294967296:=bQa (n:=32) o1 (by omega)
  have hl:∀i,i<4→Nat.blt i (List.length (List.take (s.length-m) (List.drop m s)))=true:=fun i hi=>bG8 (by simp;omega)
  refine ⟨_,rfl,ckI (hl 0 (by omega)) ⟨_,rfl,_,by rw[qL rfl,wI (by omega)],ckI (hl 1 (by omega)) ⟨_,rfl,_,by rw[qL rfl,wI (by omega)],_,by rw[bKu _ 256 256 rfl (by omega)],_,by rw[orw _ _ (by omega) (by omega)],ckI (hl 2 (by omega)) ⟨_,rfl,_,by rw[qL rfl,wI (by omega)],_,by rw[bKu _ 65536 65536 rfl (by omega)],_,by rw[orw _ _ o1 (by omega)],ckI (hl 3 (by omega)) ⟨_,rfl,_,by rw[qL rfl,wI (by omega)],_,by rw[bKu _ 16777216 16777216 rfl (by omega)],_,by rw[orw _ _ o2 (by omega)];rfl,hk⟩⟩⟩⟩⟩
noncomputable def aEm (hv:Nat→Option Pa) (hb:Nat→Option Bool) (key nonce:List UInt8) (c:Int) (Q:Out→List Blk→Gh→Prop):Prop:=
 aY (e04 smC (fun _=>none) hv hb) (wpx (e04 smC (fun _=>none) hv hb) 1000) 165 [.str key,.str nonce,.int .i64 c] [] {} Q
abbrev aCx (s_4:List UInt8):Bool:=Nat.ble s_4.length s_4.length
abbrev aBl (s_5:List UInt8):Bool:=Nat.blt 0 s_5.length
abbrev aAf (s_5:List UInt8):Int:=(UInt8.toNat (s_5.getD 0 (UInt8.ofNat 0)):Int)
abbrev aAx (s_5:List UInt8):Bool:=Nat.blt 1 s_5.length
abbrev aBz (s_5:List UInt8):Int:=(UInt8.toNat (s_5.getD 1 (UInt8.ofNat 0)):Int)
abbrev gB (n_7 n_10:Int):Int:=(((n_7%4294967296).toNat ||| (n_10%4294967296).toNat:Nat):Int)
abbrev aBm (s_5:List UInt8):Bool:=Nat.blt 2 s_5.length
abbrev aCk (s_5:List UInt8):Int:=(UInt8.toNat (s_5.getD 2 (UInt8.ofNat 0)):Int)
abbrev jT (s_5:List UInt8):Bool:=Nat.blt 3 s_5.length
abbrev aBg (s_5:List UInt8):Int:=(UInt8.toNat (s_5.getD 3 (UInt8.ofNat 0)):Int)
abbrev bD9 (l_246:List Nat):List AV:=aO [.int .u8 0,.int .u8 0,.int .u8 0,.int .u8 0,.int .u8 0,.int .u8 0,.int .u8 0,.int .u8 0,.int .u8 0,.int .u8 0,.int .u8 0,.int .u8 0,.int .u8 0,.int .u8 0,.int .u8 0,.int .u8 0,.int .u8 0,.int .u8 0,.int .u8 0,.int .u8 0,.int .u8 0,.int .u8 0,.int .u8 0,.int .u8 0,.int .u8 0,.int .u8 0,.int .u8 0,.int .u8 0,.int .u8 0,.int .u8 0,.int .u8 0,.int .u8 0,.int .u8 0,.int .u8 0,.int .u8 0,.int .u8 0,.int .u8 0,.int .u8 0,.int .u8 0,.int .u8 0,.int .u8 0,.int .u8 0,.int .u8 0,.int .u8 0,.int .u8 0,.int .u8 0,.int .u8 0,.int .u8 0,.int .u8 0,.int .u8 0,.int .u8 0,.int .u8 0,.int .u8 0,.int .u8 0,.int .u8 0,.int .u8 0,.int .u8 0,.int .u8 0,.int .u8 0,.int .u8 0,.int .u8 0,.int .u8 0,.int .u8 0,.int .u8 0] 0 (aV l_246)
abbrev aP6:Out:=.ret (.tup [.str [],.int .i64 2])
theorem bL4 (key:List UInt8) (nonce:List UInt8) (c:Int) (Q:Out→List Blk→Gh→Prop):aEm (bD [(663560,.int .i64),(663564,.int .i64),(667657,.str),(667658,.str),(667660,.str),(667668,.str),(851972,.int .u8),
 (851973,.int .u32),(851975,.int .u8),(851976,.int .u32),(851977,.int .u32),(851978,.int .u32),(851980,.int .u8),(851981,.int .u32),(851982,.int .u32),(851983,.int .u32),(851985,.int .u8),(851986,.int .u32),(851987,
 .int .u32),(851988,.int .u32),(675860,.str)]) (bE []) key nonce c Q=(exI .i64 (key.length:Int) (fun n_0=>bif n_0==32 then exI .i64 (nonce.length:Int) (fun n_1=>bif n_1==12 then bif decide (c≥0) then bif decide (c <
 4294967296) then ckQ (decide (16+key.length≤9223372036854775807)&&true) (exS (.str ([UInt8.ofNat 101,UInt8.ofNat 120,UInt8.ofNat 112,UInt8.ofNat 97,UInt8.ofNat 110,UInt8.ofNat 100,UInt8.ofNat 32,UInt8.ofNat 51,UInt8.ofNat 50,
 UInt8.ofNat 45,UInt8.ofNat 98,UInt8.ofNat 121,UInt8.ofNat 116,UInt8.ofNat 101,UInt8.ofNat 32,UInt8.ofNat 107]++key)) (fun s_2=>ckQ (decide (s_2.length+4≤9223372036854775807)&&true) (exS (.str (s_2++[UInt8.ofNat 0,
 UInt8.ofNat 0,UInt8.ofNat 0,UInt8.ofNat 0])) (fun s_3=>ckQ (decide (s_3.length+nonce.length≤9223372036854775807)&&true) (exS (.str (s_3++nonce)) (fun s_4=>ckQ (aCx s_4) (exS (.str ((s_4.drop 0).take (s_4.length-0))) (fun
 s_5=>ckQ (aBl s_5) (exI .u8 (aAf s_5) (fun n_6=>exW .u32 n_6 (fun n_7=>ckQ (aAx s_5) (exI .u8 (aBz s_5) (fun n_8=>exW .u32 n_8 (fun n_9=>exW .u32 (n_9*256) (fun n_10=>exW .u32 (gB n_7 n_10) (fun n_11=>ckQ (aBm s_5)
 (exI .u8 (aCk s_5) (fun n_12=>exW .u32 n_12 (fun n_13=>exW .u32 (n_13*65536) (fun n_14=>exW .u32 (gB n_11 n_14) (fun n_15=>ckQ (jT s_5) (exI .u8 (aBg s_5) (fun n_16=>exW .u32 n_16 (fun n_17=>exW .u32 (n_17*16777216)
 (fun n_18=>exW .u32 (gB n_15 n_18) (fun n_19=>ckQ (Nat.ble 4 s_4.length&&aCx s_4) (exS (.str ((s_4.drop 4).take (s_4.length-4))) (fun s_20=>ckQ (aBl s_20) (exI .u8 (aAf s_20) (fun n_21=>exW .u32 n_21 (fun n_22=>ckQ (aAx
 s_20) (exI .u8 (aBz s_20) (fun n_23=>exW .u32 n_23 (fun n_24=>exW .u32 (n_24*256) (fun n_25=>exW .u32 (gB n_22 n_25) (fun n_26=>ckQ (aBm s_20) (exI .u8 (aCk s_20) (fun n_27=>exW .u32 n_27 (fun n_28=>exW .u32 (n_28 *
 65536) (fun n_29=>exW .u32 (gB n_26 n_29) (fun n_30=>ckQ (jT s_20) (exI .u8 (aBg s_20) (fun n_31=>exW .u32 n_31 (fun n_32=>exW .u32 (n_32*16777216) (fun n_33=>exW .u32 (gB n_30 n_33) (fun n_34=>ckQ (Nat.ble 8
 s_4.length&&aCx s_4) (exS (.str ((s_4.drop 8).take (s_4.length-8))) (fun s_35=>ckQ (aBl s_35) (exI .u8 (aAf s_35) (fun n_36=>exW .u32 n_36 (fun n_37=>ckQ (aAx s_35) (exI .u8 (aBz s_35) (fun n_38=>exW .u32 n_38 (fun n_39=>
 exW .u32 (n_39*256) (fun n_40=>exW .u32 (gB n_37 n_40) (fun n_41=>ckQ (aBm s_35) (exI .u8 (aCk s_35) (fun n_42=>exW .u32 n_42 (fun n_43=>exW .u32 (n_43*65536) (fun n_44=>exW .u32 (gB n_41 n_44) (fun n_45=>ckQ (jT
 s_35) (exI .u8 (aBg s_35) (fun n_46=>exW .u32 n_46 (fun n_47=>exW .u32 (n_47*16777216) (fun n_48=>exW .u32 (gB n_45 n_48) (fun n_49=>ckQ (Nat.ble 12 s_4.length&&aCx s_4) (exS (.str ((s_4.drop 12).take (s_4.length-12)))
 (fun s_50=>ckQ (aBl s_50) (exI .u8 (aAf s_50) (fun n_51=>exW .u32 n_51 (fun n_52=>ckQ (aAx s_50) (exI .u8 (aBz s_50) (fun n_53=>exW .u32 n_53 (fun n_54=>exW .u32 (n_54*256) (fun n_55=>exW .u32 (gB n_52 n_55) (fun n_56
 => ckQ (aBm s_50) (exI .u8 (aCk s_50) (fun n_57=>exW .u32 n_57 (fun n_58=>exW .u32 (n_58*65536) (fun n_59=>exW .u32 (gB n_56 n_59) (fun n_60=>ckQ (jT s_50) (exI .u8 (aBg s_50) (fun n_61=>exW .u32 n_61 (fun n_62=>exW
 .u32 (n_62*16777216) (fun n_63=>exW .u32 (gB n_60 n_63) (fun n_64=>ckQ (Nat.ble 16 s_4.length&&aCx s_4) (exS (.str ((s_4.drop 16).take (s_4.length-16))) (fun s_65=>ckQ (aBl s_65) (exI .u8 (aAf s_65) (fun n_66=>exW .u32
 n_66 (fun n_67=>ckQ (aAx s_65) (exI .u8 (aBz s_65) (fun n_68=>exW .u32 n_68 (fun n_69=>exW .u32 (n_69*256) (fun n_70=>exW .u32 (gB n_67 n_70) (fun n_71=>ckQ (aBm s_65) (exI .u8 (aCk s_65) (fun n_72=>exW .u32 n_72 (fun
 n_73=>exW .u32 (n_73*65536) (fun n_74=>exW .u32 (gB n_71 n_74) (fun n_75=>ckQ (jT s_65) (exI .u8 (aBg s_65) (fun n_76=>exW .u32 n_76 (fun n_77=>exW .u32 (n_77*16777216) (fun n_78=>exW .u32 (gB n_75 n_78) (fun n_79
 => ckQ (Nat.ble 20 s_4.length&&aCx s_4) (exS (.str ((s_4.drop 20).take (s_4.length-20))) (fun s_80=>ckQ (aBl s_80) (exI .u8 (aAf s_80) (fun n_81=>exW .u32 n_81 (fun n_82=>ckQ (aAx s_80) (exI .u8 (aBz s_80) (fun n_83=>exW
 .u32 n_83 (fun n_84=>exW .u32 (n_84*256) (fun n_85=>exW .u32 (gB n_82 n_85) (fun n_86=>ckQ (aBm s_80) (exI .u8 (aCk s_80) (fun n_87=>exW .u32 n_87 (fun n_88=>exW .u32 (n_88*65536) (fun n_89=>exW .u32 (gB n_86 n_89)
 (fun n_90=>ckQ (jT s_80) (exI .u8 (aBg s_80) (fun n_91=>exW .u32 n_91 (fun n_92=>exW .u32 (n_92*16777216) (fun n_93=>exW .u32 (gB n_90 n_93) (fun n_94=>ckQ (Nat.ble 24 s_4.length&&aCx s_4) (exS (.str ((s_4.drop
 24).take (s_4.length-24))) (fun s_95=>ckQ (aBl s_95) (exI .u8 (aAf s_95) (fun n_96=>exW .u32 n_96 (fun n_97=>ckQ (aAx s_95) (exI .u8 (aBz s_95) (fun n_98=>exW .u32 n_98 (fun n_99=>exW .u32 (n_99*256) (fun n_100=>exW
 .u32 (gB n_97 n_100) (fun n_101=>ckQ (aBm s_95) (exI .u8 (aCk s_95) (fun n_102=>exW .u32 n_102 (fun n_103=>exW .u32 (n_103*65536) (fun n_104=>exW .u32 (gB n_101 n_104) (fun n_105=>ckQ (jT s_95) (exI .u8 (aBg s_95)
 (fun n_106=>exW .u32 n_106 (fun n_107=>exW .u32 (n_107*16777216) (fun n_108=>exW .u32 (gB n_105 n_108) (fun n_109=>ckQ (Nat.ble 28 s_4.length&&aCx s_4) (exS (.str ((s_4.drop 28).take (s_4.length-28))) (fun s_110=>ckQ
 (aBl s_110) (exI .u8 (aAf s_110) (fun n_111=>exW .u32 n_111 (fun n_112=>ckQ (aAx s_110) (exI .u8 (aBz s_110) (fun n_113=>exW .u32 n_113 (fun n_114=>exW .u32 (n_114*256) (fun n_115=>exW .u32 (gB n_112 n_115) (fun n_116=>
 ckQ (aBm s_110) (exI .u8 (aCk s_110) (fun n_117=>exW .u32 n_117 (fun n_118=>exW .u32 (n_118*65536) (fun n_119=>exW .u32 (gB n_116 n_119) (fun n_120=>ckQ (jT s_110) (exI .u8 (aBg s_110) (fun n_121=>exW .u32 n_121 (fun
 n_122=>exW .u32 (n_122*16777216) (fun n_123=>exW .u32 (gB n_120 n_123) (fun n_124=>ckQ (Nat.ble 32 s_4.length&&aCx s_4) (exS (.str ((s_4.drop 32).take (s_4.length-32))) (fun s_125=>ckQ (aBl s_125) (exI .u8 (aAf s_125)
 (fun n_126=>exW .u32 n_126 (fun n_127=>ckQ (aAx s_125) (exI .u8 (aBz s_125) (fun n_128=>exW .u32 n_128 (fun n_129=>exW .u32 (n_129*256) (fun n_130=>exW .u32 (gB n_127 n_130) (fun n_131=>ckQ (aBm s_125) (exI .u8 (aCk
 s_125) (fun n_132=>exW .u32 n_132 (fun n_133=>exW .u32 (n_133*65536) (fun n_134=>exW .u32 (gB n_131 n_134) (fun n_135=>ckQ (jT s_125) (exI .u8 (aBg s_125) (fun n_136=>exW .u32 n_136 (fun n_137=>exW .u32 (n_137 *
 16777216) (fun n_138=>exW .u32 (gB n_135 n_138) (fun n_139=>ckQ (Nat.ble 36 s_4.length&&aCx s_4) (exS (.str ((s_4.drop 36).take (s_4.length-36))) (fun s_140=>ckQ (aBl s_140) (exI .u8 (aAf s_140) (fun n_141=>exW .u32 n_141
 (fun n_142=>ckQ (aAx s_140) (exI .u8 (aBz s_140) (fun n_143=>exW .u32 n_143 (fun n_144=>exW .u32 (n_144*256) (fun n_145=>exW .u32 (gB n_142 n_145) (fun n_146=>ckQ (aBm s_140) (exI .u8 (aCk s_140) (fun n_147=>exW .u32
 n_147 (fun n_148=>exW .u32 (n_148*65536) (fun n_149=>exW .u32 (gB n_146 n_149) (fun n_150=>ckQ (jT s_140) (exI .u8 (aBg s_140) (fun n_151=>exW .u32 n_151 (fun n_152=>exW .u32 (n_152*16777216) (fun n_153=>exW .u32
 (gB n_150 n_153) (fun n_154=>ckQ (Nat.ble 40 s_4.length&&aCx s_4) (exS (.str ((s_4.drop 40).take (s_4.length-40))) (fun s_155=>ckQ (aBl s_155) (exI .u8 (aAf s_155) (fun n_156=>exW .u32 n_156 (fun n_157=>ckQ (aAx s_155)
 (exI .u8 (aBz s_155) (fun n_158=>exW .u32 n_158 (fun n_159=>exW .u32 (n_159*256) (fun n_160=>exW .u32 (gB n_157 n_160) (fun n_161=>ckQ (aBm s_155) (exI .u8 (aCk s_155) (fun n_162=>exW .u32 n_162 (fun n_163=>exW .u32
 (n_163*65536) (fun n_164=>exW .u32 (gB n_161 n_164) (fun n_165=>ckQ (jT s_155) (exI .u8 (aBg s_155) (fun n_166=>exW .u32 n_166 (fun n_167=>exW .u32 (n_167*16777216) (fun n_168=>exW .u32 (gB n_165 n_168) (fun n_169=>
 ckQ (Nat.ble 44 s_4.length&&aCx s_4) (exS (.str ((s_4.drop 44).take (s_4.length-44))) (fun s_170=>ckQ (aBl s_170) (exI .u8 (aAf s_170) (fun n_171=>exW .u32 n_171 (fun n_172=>ckQ (aAx s_170) (exI .u8 (aBz s_170) (fun n_173=>
 exW .u32 n_173 (fun n_174=>exW .u32 (n_174*256) (fun n_175=>exW .u32 (gB n_172 n_175) (fun n_176=>ckQ (aBm s_170) (exI .u8 (aCk s_170) (fun n_177=>exW .u32 n_177 (fun n_178=>exW .u32 (n_178*65536) (fun n_179=>exW .u32
 (gB n_176 n_179) (fun n_180=>ckQ (jT s_170) (exI .u8 (aBg s_170) (fun n_181=>exW .u32 n_181 (fun n_182=>exW .u32 (n_182*16777216) (fun n_183=>exW .u32 (gB n_180 n_183) (fun n_184=>ckQ (Nat.ble 48 s_4.length&&aCx s_4)
 (exS (.str ((s_4.drop 48).take (s_4.length-48))) (fun s_185=>ckQ (aBl s_185) (exI .u8 (aAf s_185) (fun n_186=>exW .u32 n_186 (fun n_187=>ckQ (aAx s_185) (exI .u8 (aBz s_185) (fun n_188=>exW .u32 n_188 (fun n_189=>exW .u32
 (n_189*256) (fun n_190=>exW .u32 (gB n_187 n_190) (fun n_191=>ckQ (aBm s_185) (exI .u8 (aCk s_185) (fun n_192=>exW .u32 n_192 (fun n_193=>exW .u32 (n_193*65536) (fun n_194=>exW .u32 (gB n_191 n_194) (fun n_195=>ckQ
 (jT s_185) (exI .u8 (aBg s_185) (fun n_196=>exW .u32 n_196 (fun n_197=>exW .u32 (n_197*16777216) (fun n_198=>exW .u32 (gB n_195 n_198) (fun n_199=>ckQ (Nat.ble 52 s_4.length&&aCx s_4) (exS (.str ((s_4.drop 52).take
 (s_4.length-52))) (fun s_200=>ckQ (aBl s_200) (exI .u8 (aAf s_200) (fun n_201=>exW .u32 n_201 (fun n_202=>ckQ (aAx s_200) (exI .u8 (aBz s_200) (fun n_203=>exW .u32 n_203 (fun n_204=>exW .u32 (n_204*256) (fun n_205=>exW
 .u32 (gB n_202 n_205) (fun n_206=>ckQ (aBm s_200) (exI .u8 (aCk s_200) (fun n_207=>exW .u32 n_207 (fun n_208=>exW .u32 (n_208*65536) (fun n_209=>exW .u32 (gB n_206 n_209) (fun n_210=>ckQ (jT s_200) (exI .u8 (aBg
 s_200) (fun n_211=>exW .u32 n_211 (fun n_212=>exW .u32 (n_212*16777216) (fun n_213=>exW .u32 (gB n_210 n_213) (fun n_214=>ckQ (Nat.ble 56 s_4.length&&aCx s_4) (exS (.str ((s_4.drop 56).take (s_4.length-56))) (fun s_215=>
 ckQ (aBl s_215) (exI .u8 (aAf s_215) (fun n_216=>exW .u32 n_216 (fun n_217=>ckQ (aAx s_215) (exI .u8 (aBz s_215) (fun n_218=>exW .u32 n_218 (fun n_219=>exW .u32 (n_219*256) (fun n_220=>exW .u32 (gB n_217 n_220) (fun n_221
 => ckQ (aBm s_215) (exI .u8 (aCk s_215) (fun n_222=>exW .u32 n_222 (fun n_223=>exW .u32 (n_223*65536) (fun n_224=>exW .u32 (gB n_221 n_224) (fun n_225=>ckQ (jT s_215) (exI .u8 (aBg s_215) (fun n_226=>exW .u32 n_226 (fun
 n_227=>exW .u32 (n_227*16777216) (fun n_228=>exW .u32 (gB n_225 n_228) (fun n_229=>ckQ (Nat.ble 60 s_4.length&&aCx s_4) (exS (.str ((s_4.drop 60).take (s_4.length-60))) (fun s_230=>ckQ (aBl s_230) (exI .u8 (aAf s_230)
 (fun n_231=>exW .u32 n_231 (fun n_232=>ckQ (aAx s_230) (exI .u8 (aBz s_230) (fun n_233=>exW .u32 n_233 (fun n_234=>exW .u32 (n_234*256) (fun n_235=>exW .u32 (gB n_232 n_235) (fun n_236=>ckQ (aBm s_230) (exI .u8 (aCk
 s_230) (fun n_237=>exW .u32 n_237 (fun n_238=>exW .u32 (n_238*65536) (fun n_239=>exW .u32 (gB n_236 n_239) (fun n_240=>ckQ (jT s_230) (exI .u8 (aBg s_230) (fun n_241=>exW .u32 n_241 (fun n_242=>exW .u32 (n_242 *
 16777216) (fun n_243=>exW .u32 (gB n_240 n_243) (fun n_244=>∃w_245:W16,Lf ([AV.int .u32 n_19,.int .u32 n_34,.int .u32 n_49,.int .u32 n_64,.int .u32 n_79,.int .u32 n_94,.int .u32 n_109,.int .u32 n_124,.int .u32 n_139,.int
 .u32 n_154,.int .u32 n_169,.int .u32 n_184,.int .u32 n_199,.int .u32 n_214,.int .u32 n_229,.int .u32 n_244]=[AV.int .u32 (w_245.1:Int),.int .u32 (w_245.2:Int),.int .u32 (w_245.3:Int),.int .u32 (w_245.4:Int),.int .u32
 (w_245.5:Int),.int .u32 (w_245.6:Int),.int .u32 (w_245.7:Int),.int .u32 (w_245.8:Int),.int .u32 (w_245.9:Int),.int .u32 (w_245.10:Int),.int .u32 (w_245.11:Int),.int .u32 (w_245.12:Int),.int .u32 (w_245.13:Int),
 .int .u32 (w_245.14:Int),.int .u32 (w_245.15:Int),.int .u32 (w_245.16:Int)])∧∀l_246:List Nat,Lf (l_246=aBf w_245 c)→ckQ (Nat.beq (aV l_246).length 64&&fJ (aV l_246)&&true) (ckQ (Nat.beq (bD9
 l_246).length 64&&true) (ckQ (Nat.beq (bD9 l_246).length 64&&true&&true&&fK (((bD9 l_246).drop 0).take 64)) (exS (.str (List.map toB (((bD9 l_246).drop 0).take 64))) (fun s_247=>Q (.ret (.tup [.str s_247,.int .i64 0])) []
 {}))))))))))))))))))))))))))))))))))))))))))))))))))))))))))))))))))))))))))))))))))))))))))))))))))))))))))))))))))))))))))))))))))))))))))))))))))))))))))))))))))))))))))))))))))))))))))))))))))))))))))))))))))))))))))))))))))))))))))))))))))))))))))))))))))))))))))))))))))))))))))))))))))))))))))))))))))))))))))))))))))))))))))
 else Q aP6 [] {} else Q aP6 [] {} else Q aP6 [] {}) else Q aP6 [] {})):=by kernel_rfl


def aDr:List UInt8:=[101,120,112,97,110,100,32,51,50,45,98,121,116,101,32,107]
def aEz (key nonce:List UInt8):List UInt8:=((aDr++key)++[0,0,0,0])++nonce
def dK (key nonce:List UInt8):W16:=
 let s:=aEz key nonce
 ⟨bQ s 0,bQ s 4,bQ s 8,bQ s 12,bQ s 16,bQ s 20,bQ s 24,bQ s 28,bQ s 32,bQ s 36,bQ s 40,bQ s 44,bQ s 48,bQ s 52,bQ s 56,bQ s 60⟩
def rightM (key nonce:List UInt8) (c:Int):Bool:=Nat.beq key.length 32&&Nat.beq nonce.length 12&&decide (0≤c)&&decide (c<4294967296)
def kY (key nonce:List UInt8) (c:Int):List UInt8×Int:=if rightM key nonce c then ((aBf (dK key nonce) c).map UInt8.ofNat,0) else ([],2)
theorem rF (w:W16) (c:Int):(aBf w c).length=64:=by simp[aBf,bJ3,leW]

theorem jA (z cs:List AV) (h:z.length≤cs.length):aO z 0 cs=cs:=by
 simp only[aO,bQ4,bPg,bQo]
 rw[bP4 h,bPd]
theorem aU6 (l:List Nat):fJ (aV l)=true:=by
 induction l with
 | nil=>rfl
 | cons x l ih=>simpa [aV,fJ,one] using ih
theorem aY9 (l:List Nat):fK (aV l)=true:=by
 induction l with
 | nil=>rfl
 | cons x l ih=>simpa [aV,fK] using ih
theorem bMi (l:List Nat):(aV l).map toB=l.map UInt8.ofNat:=by
 simp[aV,toB]

theorem aKu (key nonce:List UInt8) (c:Int) (Q:Out→List Blk→Gh→Prop) (hq:∀s e,kY key nonce c=(s,e)→Q (.ret (.tup [.str s,.int .i64 e])) [] {}):∃hv hb,aEm hv hb key nonce c Q:=by
 obtain ⟨hv,hb',e⟩:∃hv hb,aEm hv hb key nonce c Q=_:=⟨_,_,bL4 key nonce c Q⟩
 refine ⟨hv,hb',e.mpr ?_⟩
 delta aCx aBl aAf aAx aBz gB aBm aCk jT aBg bD9 aP6
 clear e
 by_cases hr:rightM key nonce c=true
 ·have hq':=hq _ _ (if_pos hr)
  simp only[rightM,bN9,aN,bOc] at hr
  obtain ⟨⟨⟨h1,h2⟩,h3⟩,h4⟩:=hr
  refine ⟨_,rfl, ?_⟩
  rw[h1,h2]
  refine aS (fun _=>⟨_,rfl,aS (fun _=>aD (fun _=>aD (fun _ => ?_) (fun h=>absurd h4 h)) (fun h=>absurd h3 h)) (fun h=>absurd rfl h)⟩) (fun h=>absurd rfl h)
  have hl:(aEz key nonce).length=64:=by simp[aEz,aDr,h1,h2]
  obtain ⟨s,hs⟩:∃s,aEz key nonce=s:=⟨_,rfl⟩
  have hf:dK key nonce=⟨bQ s 0,bQ s 4,bQ s 8,bQ s 12,bQ s 16,bQ s 20,bQ s 24,bQ s 28,bQ s 32,bQ s 36,bQ s 40,bQ s 44,bQ s 48,bQ s 52,bQ s 56,bQ s 60⟩:=by rw[dK,hs]
  refine ckI (by simp) ⟨_,rfl,ckI (by simp[h1]) ⟨_,rfl,ckI (by simp[h1]) ⟨s,by rw[←hs];rfl, ?_⟩⟩⟩
  rw[hs] at hl
  rw[hf] at hq'
  refine lC (m:=0) (by first | (simp only[bN9,bOh,bOg,bOc,aC,bOi,aN,aA,bN8,bOb,bOe,bOa,bOo,bOp,bOf,bOd,bOj,ne_eq];done) | (simp only[bN9,bOh,bOg,bOc,aC,bOi,aN,aA,bN8,bOb,bOe,bOa,bOo,bOp,bOf,bOd,bOj,ne_eq];omega) | rfl | (simp;done) | (simp;omega)) (by omega) ?_
  refine lC (m:=4) (by first | (simp only[bN9,bOh,bOg,bOc,aC,bOi,aN,aA,bN8,bOb,bOe,bOa,bOo,bOp,bOf,bOd,bOj,ne_eq];done) | (simp only[bN9,bOh,bOg,bOc,aC,bOi,aN,aA,bN8,bOb,bOe,bOa,bOo,bOp,bOf,bOd,bOj,ne_eq];omega) | rfl | (simp;done) | (simp;omega)) (by omega) ?_
  refine lC (m:=8) (by first | (simp only[bN9,bOh,bOg,bOc,aC,bOi,aN,aA,bN8,bOb,bOe,bOa,bOo,bOp,bOf,bOd,bOj,ne_eq];done) | (simp only[bN9,bOh,bOg,bOc,aC,bOi,aN,aA,bN8,bOb,bOe,bOa,bOo,bOp,bOf,bOd,bOj,ne_eq];omega) | rfl | (simp;done) | (simp;omega)) (by omega) ?_
  refine lC (m:=12) (by first | (simp only[bN9,bOh,bOg,bOc,aC,bOi,aN,aA,bN8,bOb,bOe,bOa,bOo,bOp,bOf,bOd,bOj,ne_eq];done) | (simp only[bN9,bOh,bOg,bOc,aC,bOi,aN,aA,bN8,bOb,bOe,bOa,bOo,bOp,bOf,bOd,bOj,ne_eq];omega) | rfl | (simp;done) | (simp;omega)) (by omega) ?_
  refine lC (m:=16) (by first | (simp only[bN9,bOh,bOg,bOc,aC,bOi,aN,aA,bN8,bOb,bOe,bOa,bOo,bOp,bOf,bOd,bOj,ne_eq];done) | (simp only[bN9,bOh,bOg,bOc,aC,bOi,aN,aA,bN8,bOb,bOe,bOa,bOo,bOp,bOf,bOd,bOj,ne_eq];omega) | rfl | (simp;done) | (simp;omega)) (by omega) ?_
  refine lC (m:=20) (by first | (simp only[bN9,bOh,bOg,bOc,aC,bOi,aN,aA,bN8,bOb,bOe,bOa,bOo,bOp,bOf,bOd,bOj,ne_eq];done) | (simp only[bN9,bOh,bOg,bOc,aC,bOi,aN,aA,bN8,bOb,bOe,bOa,bOo,bOp,bOf,bOd,bOj,ne_eq];omega) | rfl | (simp;done) | (simp;omega)) (by omega) ?_
  refine lC (m:=24) (by first | (simp only[bN9,bOh,bOg,bOc,aC,bOi,aN,aA,bN8,bOb,bOe,bOa,bOo,bOp,bOf,bOd,bOj,ne_eq];done) | (simp only[bN9,bOh,bOg,bOc,aC,bOi,aN,aA,bN8,bOb,bOe,bOa,bOo,bOp,bOf,bOd,bOj,ne_eq];omega) | rfl | (simp;done) | (simp;omega)) (by omega) ?_
  refine lC (m:=28) (by first | (simp only[bN9,bOh,bOg,bOc,aC,bOi,aN,aA,bN8,bOb,bOe,bOa,bOo,bOp,bOf,bOd,bOj,ne_eq];done) | (simp only[bN9,bOh,bOg,bOc,aC,bOi,aN,aA,bN8,bOb,bOe,bOa,bOo,bOp,bOf,bOd,bOj,ne_eq];omega) | rfl | (simp;done) | (simp;omega)) (by omega) ?_
  refine lC (m:=32) (by first | (simp only[bN9,bOh,bOg,bOc,aC,bOi,aN,aA,bN8,bOb,bOe,bOa,bOo,bOp,bOf,bOd,bOj,ne_eq];done) | (simp only[bN9,bOh,bOg,bOc,aC,bOi,aN,aA,bN8,bOb,bOe,bOa,bOo,bOp,bOf,bOd,bOj,ne_eq];omega) | rfl | (simp;done) | (simp;omega)) (by omega) ?_
  refine lC (m:=36) (by first | (simp only[bN9,bOh,bOg,bOc,aC,bOi,aN,aA,bN8,bOb,bOe,bOa,bOo,bOp,bOf,bOd,bOj,ne_eq];done) | (simp only[bN9,bOh,bOg,bOc,aC,bOi,aN,aA,bN8,bOb,bOe,bOa,bOo,bOp,bOf,bOd,bOj,ne_eq];omega) | rfl | (simp;done) | (simp;omega)) (by omega) ?_
  refine lC (m:=40) (by first | (simp only[bN9,bOh,bOg,bOc,aC,bOi,aN,aA,bN8,bOb,bOe,bOa,bOo,bOp,bOf,bOd,bOj,ne_eq];done) | (simp only[bN9,bOh,bOg,bOc,aC,bOi,aN,aA,bN8,bOb,bOe,bOa,bOo,bOp,bOf,bOd,bOj,ne_eq];omega) | rfl | (simp;done) | (simp;omega)) (by omega) ?_
  refine lC (m:=44) (by first | (simp only[bN9,bOh,bOg,bOc,aC,bOi,aN,aA,bN8,bOb,bOe,bOa,bOo,bOp,bOf,bOd,bOj,ne_eq];done) | (simp only[bN9,bOh,bOg,bOc,aC,bOi,aN,aA,bN8,bOb,bOe,bOa,bOo,bOp,bOf,bOd,bOj,ne_eq];omega) | rfl | (simp;done) | (simp;omega)) (by omega) ?_
  refine lC (m:=48) (by first | (simp only[bN9,bOh,bOg,bOc,aC,bOi,aN,aA,bN8,bOb,bOe,bOa,bOo,bOp,bOf,bOd,bOj,ne_eq];done) | (simp only[bN9,bOh,bOg,bOc,aC,bOi,aN,aA,bN8,bOb,bOe,bOa,bOo,bOp,bOf,bOd,bOj,ne_eq];omega) | rfl | (simp;done) | (simp;omega)) (by omega) ?_
  refine lC (m:=52) (by first | (simp only[bN9,bOh,bOg,bOc,aC,bOi,aN,aA,bN8,bOb,bOe,bOa,bOo,bOp,bOf,bOd,bOj,ne_eq];done) | (simp only[bN9,bOh,bOg,bOc,aC,bOi,aN,aA,bN8,bOb,bOe,bOa,bOo,bOp,bOf,bOd,bOj,ne_eq];omega) | rfl | (simp;done) | (simp;omega)) (by omega) ?_
  refine lC (m:=56) (by first | (simp only[bN9,bOh,bOg,bOc,aC,bOi,aN,aA,bN8,bOb,bOe,bOa,bOo,bOp,bOf,bOd,bOj,ne_eq];done) | (simp only[bN9,bOh,bOg,bOc,aC,bOi,aN,aA,bN8,bOb,bOe,bOa,bOo,bOp,bOf,bOd,bOj,ne_eq];omega) | rfl | (simp;done) | (simp;omega)) (by omega) ?_
  refine lC (m:=60) (by first | (simp only[bN9,bOh,bOg,bOc,aC,bOi,aN,aA,bN8,bOb,bOe,bOa,bOo,bOp,bOf,bOd,bOj,ne_eq];done) | (simp only[bN9,bOh,bOg,bOc,aC,bOi,aN,aA,bN8,bOb,bOe,bOa,bOo,bOp,bOf,bOd,bOj,ne_eq];omega) | rfl | (simp;done) | (simp;omega)) (by omega) ?_
  refine ⟨⟨bQ s 0,bQ s 4,bQ s 8,bQ s 12,bQ s 16,bQ s 20,bQ s 24,bQ s 28,bQ s 32,bQ s 36,bQ s 40,bQ s 44,bQ s 48,bQ s 52,bQ s 56,bQ s 60⟩,⟨rfl⟩,fun l hl2 => ?_⟩
  have hll:l.length=64:=by rw[hl2.h];exact rF _ _
  have hcl:(aV l).length=64:=by simp[aV,hll]
  rw[jA _ _ (by rw[hcl];simp)]
  have ht:List.take 64 (List.drop 0 (aV l))=aV l:=by rw[bOv,bOk (by omega)]
  rw[←hl2.h] at hq'
  clear hl2
  rw[ht,bMi]
  exact ckI (by rw[hcl,aU6];rfl) (ckI (by rw[hcl];rfl) (ckI (by rw[hcl,aY9];rfl) ⟨_,rfl,hq'⟩))
 ·have hq':=hq _ _ (if_neg hr)
  simp only[rightM,bN9,aN,bOc] at hr
  refine ⟨_,rfl,aS (fun h1=>⟨_,rfl,aS (fun h2=>aD (fun h3=>aD (fun h4 => ?_) (fun _=>hq')) (fun _=>hq')) (fun _=>hq')⟩) (fun _=>hq')⟩
  exact absurd ⟨⟨⟨by omega,by omega⟩,by omega⟩,by omega⟩ hr

def aBt:Con
 | [.str key,.str nonce,.int .i64 c],H,K=>∀s e,Lf (kY key nonce c=(s,e))→K (.ret (.tup [.str s,.int .i64 e])) H
 | _,_,_=>False
theorem zW:aF Tryz.prog gl0 165 aBt:=by
 refine aP (enters_of (by kernel_rfl)) aM fun args H Q hc => ?_
 unfold aBt at hc
 split at hc
 ·rename_i key nonce c
  obtain ⟨hv,hb',h⟩:=aKu key nonce c (Q:=fun o H' _=>H'=[]∧(∃v,o=.ret v∧old 0 v=true∧noY v=true)∧Q o H) (fun s e he=>⟨rfl,⟨_,rfl,rfl,rfl⟩,hc s e ⟨he⟩⟩)
  exact ⟨rfl,rfl,_,1000,aT bF9 _ _ _,rfl,h⟩
 ·exact hc.elim
end Go.Proofs.YtnhechnaemmdiaaGreatDoor
