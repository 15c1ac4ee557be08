/-
  Chapter 3: the block of a counter.
-/
import Derived.Test.YtnhechnaemmdiaaGreatDoorKnA
set_option linter.unusedSimpArgs false
set_option linter.unusedVariables false
namespace Go.Proofs.YtnhechnaemmdiaaGreatDoor
open Go.RowKit
set_option maxRecDepth 1000000

def qJ(x y:Nat):Nat:=(x+y)%4294967296
def aDb(x y:Nat):Nat:=(x%4294967296) ^^^ (y%4294967296)
def aWe(k x:Nat):Nat:=((x*2^k)%4294967296) ||| ((x/2^(32-k))%4294967296)
def leW(x:Nat):List Nat:=[x%256,x/256%256,x/65536%256,x/16777216%256]
def quM(a b c d:Nat):Nat×Nat×Nat×Nat:=
 let a:=qJ a b
 let d:=aWe 16 (aDb d a)
 let c:=qJ c d
 let b:=aWe 12 (aDb b c)
 let a:=qJ a b
 let d:=aWe 8 (aDb d a)
 let c:=qJ c d
 let b:=aWe 7 (aDb b c)
 (a,b,c,d)
theorem oN(x:Nat):IntKind.wrap .u32 (x:Int)=((x%4294967296:Nat):Int):=by
 show(x:Int)%4294967296=_
 omega
theorem jK(x:Nat):IntKind.wrap .u8 (x:Int)=((x%256:Nat):Int):=by
 show(x:Int)%256=_
 omega
theorem aFo(x y:Nat):IntKind.wrap .u32 ((x:Int)+(y:Int))=((qJ x y:Nat):Int):=by
 rw[←Int.natCast_add,oN];rfl
theorem aMb(x:Nat):((x:Int)%4294967296).toNat=x%4294967296:=by omega
theorem aKx{x:Nat}(h:x<4294967296):x%4294967296=x:=bZh h
theorem bHy(x y:Nat):aDb x y<4294967296:=cCj (n:=32) (cA7 _ (by omega)) (cA7 _ (by omega))
theorem bD7(k x:Nat):aWe k x<4294967296:=bYx (n:=32) (cA7 _ (by omega)) (cA7 _ (by omega))
theorem aKd(x y:Nat):IntKind.wrap .u32 ((((x:Int)%4294967296).toNat ^^^ ((y:Int)%4294967296).toNat:Nat):Int)=((aDb x y:Nat):Int):=by
 rw[aMb,aMb,oN]
 exact congrArg _ (aKx (bHy x y))
theorem aLf(k x:Nat)(M N:Int)(hm:M=((2^k:Nat):Int))(hn:N=((2^(32-k):Nat):Int)) :
  IntKind.wrap .u32 (((IntKind.wrap .u32 ((x:Int)*M)%4294967296).toNat ||| (Int.fdiv (x:Int) N%4294967296).toNat:Nat):Int)=((aWe k x:Nat):Int):=by
 subst hm hn
 have h0:(0:Int)<=((2^(32-k):Nat):Int):=Int.natCast_nonneg _
 have e1:=oN (x*2^k)
 rw[←cCx,e1,bX3 _ h0,←Int.natCast_ediv,aMb,aMb,oN,Nat.mod_mod]
 exact congrArg _ (aKx (bD7 k x))
theorem aEn(x:Nat)(N:Int)(n:Nat)(h:N=(n:Int)):Int.fdiv (x:Int) N=((x/n:Nat):Int):=by
 subst h
 rw[bX3 _ (Int.natCast_nonneg _),Int.natCast_ediv]
theorem quI{a b c d:Nat}{K:Int->Int->Int->Int->Prop}(h:∀a' b' c' d':Nat,quM a b c d=(a',b',c',d')->K a' b' c' d') :
(∃n_2:Int,(((AV.int .u32 (IntKind.wrap .u32 ((Nat.cast a:Int)+(Nat.cast b:Int))))=(AV.int .u32 n_2)) ∧
 (∃n_3:Int,(((AV.int .u32 (IntKind.wrap .u32 (Nat.cast ((Int.toNat ((Nat.cast d:Int)%(4294967296:Int))) ^^^ (Int.toNat (n_2%(4294967296:Int)))):Int)))=(AV.int .u32 n_3)) ∧
 (∃n_4:Int,(((AV.int .u32 (IntKind.wrap .u32 (n_3*(65536:Int))))=(AV.int .u32 n_4)) ∧
 (∃n_5:Int,(((AV.int .u32 (Int.fdiv n_3 (65536:Int)))=(AV.int .u32 n_5)) ∧
 (∃n_6:Int,(((AV.int .u32 (IntKind.wrap .u32 (Nat.cast ((Int.toNat (n_4%(4294967296:Int))) ||| (Int.toNat (n_5%(4294967296:Int)))):Int)))=(AV.int .u32 n_6)) ∧
 (∃n_7:Int,(((AV.int .u32 (IntKind.wrap .u32 ((Nat.cast c:Int)+n_6)))=(AV.int .u32 n_7)) ∧
 (∃n_8:Int,(((AV.int .u32 (IntKind.wrap .u32 (Nat.cast ((Int.toNat ((Nat.cast b:Int)%(4294967296:Int))) ^^^ (Int.toNat (n_7%(4294967296:Int)))):Int)))=(AV.int .u32 n_8)) ∧
 (∃n_9:Int,(((AV.int .u32 (IntKind.wrap .u32 (n_8*(4096:Int))))=(AV.int .u32 n_9)) ∧
 (∃n_10:Int,(((AV.int .u32 (Int.fdiv n_8 (1048576:Int)))=(AV.int .u32 n_10)) ∧
 (∃n_11:Int,(((AV.int .u32 (IntKind.wrap .u32 (Nat.cast ((Int.toNat (n_9%(4294967296:Int))) ||| (Int.toNat (n_10%(4294967296:Int)))):Int)))=(AV.int .u32 n_11)) ∧
 (∃n_12:Int,(((AV.int .u32 (IntKind.wrap .u32 (n_2+n_11)))=(AV.int .u32 n_12)) ∧
 (∃n_13:Int,(((AV.int .u32 (IntKind.wrap .u32 (Nat.cast ((Int.toNat (n_6%(4294967296:Int))) ^^^ (Int.toNat (n_12%(4294967296:Int)))):Int)))=(AV.int .u32 n_13)) ∧
 (∃n_14:Int,(((AV.int .u32 (IntKind.wrap .u32 (n_13*(256:Int))))=(AV.int .u32 n_14)) ∧
 (∃n_15:Int,(((AV.int .u32 (Int.fdiv n_13 (16777216:Int)))=(AV.int .u32 n_15)) ∧
 (∃n_16:Int,(((AV.int .u32 (IntKind.wrap .u32 (Nat.cast ((Int.toNat (n_14%(4294967296:Int))) ||| (Int.toNat (n_15%(4294967296:Int)))):Int)))=(AV.int .u32 n_16)) ∧
 (∃n_17:Int,(((AV.int .u32 (IntKind.wrap .u32 (n_7+n_16)))=(AV.int .u32 n_17)) ∧
 (∃n_18:Int,(((AV.int .u32 (IntKind.wrap .u32 (Nat.cast ((Int.toNat (n_11%(4294967296:Int))) ^^^ (Int.toNat (n_17%(4294967296:Int)))):Int)))=(AV.int .u32 n_18)) ∧
 (∃n_19:Int,(((AV.int .u32 (IntKind.wrap .u32 (n_18*(128:Int))))=(AV.int .u32 n_19)) ∧
 (∃n_20:Int,(((AV.int .u32 (Int.fdiv n_18 (33554432:Int)))=(AV.int .u32 n_20)) ∧
 (∃n_21:Int,(((AV.int .u32 (IntKind.wrap .u32 (Nat.cast ((Int.toNat (n_19%(4294967296:Int))) ||| (Int.toNat (n_20%(4294967296:Int)))):Int)))=(AV.int .u32 n_21))∧K n_12 n_21 n_17 n_16)))))))))))))))))))))))))))))))))))))))):=by
  obtain⟨a1,e1⟩:∃y,qJ a b=y:=⟨_,rfl⟩
  obtain⟨d1,e2⟩:∃y,aWe 16 (aDb d a1)=y:=⟨_,rfl⟩
  obtain⟨c1,e3⟩:∃y,qJ c d1=y:=⟨_,rfl⟩
  obtain⟨b1,e4⟩:∃y,aWe 12 (aDb b c1)=y:=⟨_,rfl⟩
  obtain⟨a2,e5⟩:∃y,qJ a1 b1=y:=⟨_,rfl⟩
  obtain⟨d2,e6⟩:∃y,aWe 8 (aDb d1 a2)=y:=⟨_,rfl⟩
  obtain⟨c2,e7⟩:∃y,qJ c1 d2=y:=⟨_,rfl⟩
  obtain⟨b2,e8⟩:∃y,aWe 7 (aDb b1 c2)=y:=⟨_,rfl⟩
  have hh:=h a2 b2 c2 d2 (by simp only[quM,e1,e2,e3,e4,e5,e6,e7,e8])
  refine⟨a1,by rw[aFo,e1],aDb d a1,by rw[aKd],_,rfl,_,rfl,d1,(congrArg (AV.int .u32) ((aLf 16 (aDb d a1) 65536 65536 rfl rfl).trans (by rw[e2]))), ?_⟩
  refine⟨c1,by rw[aFo,e3],aDb b c1,by rw[aKd],_,rfl,_,rfl,b1,(congrArg (AV.int .u32) ((aLf 12 (aDb b c1) 4096 1048576 rfl rfl).trans (by rw[e4]))), ?_⟩
  refine⟨a2,by rw[aFo,e5],aDb d1 a2,by rw[aKd],_,rfl,_,rfl,d2,(congrArg (AV.int .u32) ((aLf 8 (aDb d1 a2) 256 16777216 rfl rfl).trans (by rw[e6]))), ?_⟩
  exact⟨c2,by rw[aFo,e7],aDb b1 c2,by rw[aKd],_,rfl,_,rfl,b2,(congrArg (AV.int .u32) ((aLf 7 (aDb b1 c2) 128 33554432 rfl rfl).trans (by rw[e8]))),hh⟩
theorem woI{a m:Nat}{K:Int->Int->Int->Int->Prop}(h:∀p q r s:Nat,leW (qJ a m)=[p,q,r,s]->K p q r s) :
(∃n_2:Int,(((AV.int .u32 (Nat.cast a:Int))=(AV.int .u32 n_2)) ∧
 (∃n_3:Int,(((AV.int .u32 (IntKind.wrap .u32 (n_2+(Nat.cast m:Int))))=(AV.int .u32 n_3)) ∧
 (∃n_4:Int,(((AV.int .u8 (IntKind.wrap .u8 n_3))=(AV.int .u8 n_4)) ∧
 (∃n_5:Int,(((AV.int .u32 (Int.fdiv n_3 (256:Int)))=(AV.int .u32 n_5)) ∧
 (∃n_6:Int,(((AV.int .u8 (IntKind.wrap .u8 n_5))=(AV.int .u8 n_6)) ∧
 (∃n_7:Int,(((AV.int .u32 (Int.fdiv n_3 (65536:Int)))=(AV.int .u32 n_7)) ∧
 (∃n_8:Int,(((AV.int .u8 (IntKind.wrap .u8 n_7))=(AV.int .u8 n_8)) ∧
 (∃n_9:Int,(((AV.int .u32 (Int.fdiv n_3 (16777216:Int)))=(AV.int .u32 n_9)) ∧
 (∃n_10:Int,(((AV.int .u8 (IntKind.wrap .u8 n_9))=(AV.int .u8 n_10))∧K n_4 n_6 n_8 n_10)))))))))))))))))):=by
  obtain⟨x,e1⟩:∃y,qJ a m=y:=⟨_,rfl⟩
  rw[e1]at h
  exact⟨_,rfl,x,by rw[aFo,e1],_,by rw[jK],_,(congrArg (AV.int .u32) (aEn x 256 256 rfl)),_,by rw[jK],_,(congrArg (AV.int .u32) (aEn x 65536 65536 rfl)),_,by rw[jK],_,(congrArg (AV.int .u32) (aEn x 16777216 16777216 rfl)),_,by rw[jK],h _ _ _ _ rfl⟩
structure W16 where
 (x0 x1 x2 x3 x4 x5 x6 x7 x8 x9 x10 x11 x12 x13 x14 x15:Nat)
def aKs(w:W16):W16:=
 let p:=quM w.x0 w.x4 w.x8 w.x12
 let q:=quM w.x1 w.x5 w.x9 w.x13
 let r:=quM w.x2 w.x6 w.x10 w.x14
 let s:=quM w.x3 w.x7 w.x11 w.x15
 let a:=quM p.1 q.2.1 r.2.2.1 s.2.2.2
 let b:=quM q.1 r.2.1 s.2.2.1 p.2.2.2
 let c:=quM r.1 s.2.1 p.2.2.1 q.2.2.2
 let d:=quM s.1 p.2.1 q.2.2.1 r.2.2.2
 ⟨a.1,b.1,c.1,d.1,d.2.1,a.2.1,b.2.1,c.2.1,c.2.2.1,d.2.2.1,a.2.2.1,b.2.2.1,b.2.2.2,c.2.2.2,d.2.2.2,a.2.2.2⟩
def aBd:Nat->W16->W16
 | 0,w=>w
 | n+1,w=>aKs (aBd n w)
def bUs(w m:W16):List Nat:=leW (qJ w.x0 m.x0)++leW (qJ w.x1 m.x1)++leW (qJ w.x2 m.x2)++leW (qJ w.x3 m.x3)++leW (qJ w.x4 m.x4)++leW (qJ w.x5 m.x5)++leW (qJ w.x6 m.x6)++leW (qJ w.x7 m.x7)++leW (qJ w.x8 m.x8)++leW (qJ w.x9 m.x9)++leW (qJ w.x10 m.x10)++leW (qJ w.x11 m.x11)++leW (qJ w.x12 m.x12)++leW (qJ w.x13 m.x13)++leW (qJ w.x14 m.x14)++leW (qJ w.x15 m.x15)
def aX(l:List Nat):HB:=l.map λ(n:Nat)=>AV.int .u8 (n:Int)
def aWf(w:W16)(c:Int):List Nat:=bUs { w with x12:=(c%4294967296).toNat } (aBd 10 { w with x12:=(c%4294967296).toNat })
def W16.cells(w:W16):HB:=[.int .u32 w.x0,.int .u32 w.x1,.int .u32 w.x2,.int .u32 w.x3,.int .u32 w.x4,.int .u32 w.x5,.int .u32 w.x6,.int .u32 w.x7,.int .u32 w.x8,.int .u32 w.x9,.int .u32 w.x10,.int .u32 w.x11,.int .u32 w.x12,.int .u32 w.x13,.int .u32 w.x14,.int .u32 w.x15]
def bEn:HB:=List.replicate 64 (.int .u8 0)
def bNz(w:W16):LInv where
 α:=Nat×W16
 pre p:=Lf (p.1<=10∧p.2=aBd p.1 w)
 st p:=⟨mkT [(2,.ptr 0 16 0),(4,.ptr 1 64 0),(5,.ptr 2 16 0),(6,.ptr 3 1 0),(15,.int .i64 p.1)],[⟨.exact,true,w.cells⟩,⟨.exact,true,bEn⟩,⟨.exact,true,p.2.cells⟩,⟨.exact,false,[.ptr 2 16 0]⟩]⟩
 mu p:=10-p.1
noncomputable def bBl(hv:LI)(hb:LB)(w:W16):Env:=e04 sm0 (λi=>bif Nat.beq i 210000 then some (λ_=>[[bNz w]])else none) hv hb
noncomputable def aHb(hv:LI)(hb:LB)(w:W16)(c:Int)(Q:BS):Prop:=
 aT (bBl hv hb { w with x12:=(c%4294967296).toNat }) (wpx (bBl hv hb { w with x12:=(c%4294967296).toNat }) 1000) 210 [.agg w.cells,.int .i64 c] [] {} Q
abbrev aGg(c:Int):Nat:=(c%4294967296).toNat
abbrev bQ4(x_1:Nat×W16)(w:W16)(c:Int):Prop:=Lf (x_1.1<=10∧x_1.2=aBd x_1.1 (W16.mk (W16.x0 w) (W16.x1 w) (W16.x2 w) (W16.x3 w) (W16.x4 w) (W16.x5 w) (W16.x6 w) (W16.x7 w) (W16.x8 w) (W16.x9 w) (W16.x10 w) (W16.x11 w) (aGg c) (W16.x13 w) (W16.x14 w) (W16.x15 w)))
abbrev bVe(w:W16)(n_0:Int):HB:=[.int .u32 (w.1:Int),.int .u32 (w.2:Int),.int .u32 (w.3:Int),.int .u32 (w.4:Int),.int .u32 (w.5:Int),.int .u32 (w.6:Int),.int .u32 (w.7:Int),.int .u32 (w.8:Int),.int .u32 (w.9:Int),.int .u32 (w.10:Int),.int .u32 (w.11:Int),.int .u32 (w.12:Int),.int .u32 n_0,.int .u32 (w.14:Int),.int .u32 (w.15:Int),.int .u32 (w.16:Int)]
abbrev bUl(w:W16)(c:Int):HB:=[.int .u32 (w.1:Int),.int .u32 (w.2:Int),.int .u32 (w.3:Int),.int .u32 (w.4:Int),.int .u32 (w.5:Int),.int .u32 (w.6:Int),.int .u32 (w.7:Int),.int .u32 (w.8:Int),.int .u32 (w.9:Int),.int .u32 (w.10:Int),.int .u32 (w.11:Int),.int .u32 (w.12:Int),.int .u32 (aGg c:Int),.int .u32 (w.14:Int),.int .u32 (w.15:Int),.int .u32 (w.16:Int)]
abbrev bUe:Prop:=aK [AV.int .u8 0,.int .u8 0,.int .u8 0,.int .u8 0,.int .u8 0,.int .u8 0,.int .u8 0,.int .u8 0,.int .u8 0,.int .u8 0,.int .u8 0,.int .u8 0,.int .u8 0,.int .u8 0,.int .u8 0,.int .u8 0,.int .u8 0,.int .u8 0,.int .u8 0,.int .u8 0,.int .u8 0,.int .u8 0,.int .u8 0,.int .u8 0,.int .u8 0,.int .u8 0,.int .u8 0,.int .u8 0,.int .u8 0,.int .u8 0,.int .u8 0,.int .u8 0,.int .u8 0,.int .u8 0,.int .u8 0,.int .u8 0,.int .u8 0,.int .u8 0,.int .u8 0,.int .u8 0,.int .u8 0,.int .u8 0,.int .u8 0,.int .u8 0,.int .u8 0,.int .u8 0,.int .u8 0,.int .u8 0,.int .u8 0,.int .u8 0,.int .u8 0,.int .u8 0,.int .u8 0,.int .u8 0,.int .u8 0,.int .u8 0,.int .u8 0,.int .u8 0,.int .u8 0,.int .u8 0,.int .u8 0,.int .u8 0,.int .u8 0,.int .u8 0]
abbrev bS7(x_1:Nat×W16):HB:=[.int .u32 (x_1.2.1:Int),.int .u32 (x_1.2.2:Int),.int .u32 (x_1.2.3:Int),.int .u32 (x_1.2.4:Int),.int .u32 (x_1.2.5:Int),.int .u32 (x_1.2.6:Int),.int .u32 (x_1.2.7:Int),.int .u32 (x_1.2.8:Int),.int .u32 (x_1.2.9:Int),.int .u32 (x_1.2.10:Int),.int .u32 (x_1.2.11:Int),.int .u32 (x_1.2.12:Int),.int .u32 (x_1.2.13:Int),.int .u32 (x_1.2.14:Int),.int .u32 (x_1.2.15:Int),.int .u32 (x_1.2.16:Int)]
abbrev bUw:Prop:=aK (AV.ptr 2 16 0)∧aK (AV.ptr 0 16 0)∧aK (AV.ptr 1 64 0)∧aK (AV.ptr 3 1 0)∧True
abbrev mJ(n_4 n_5:Int):Int:=((aGg n_4 ||| aGg n_5:Nat):Int)
abbrev sI(n_6 n_12:Int):Int:=((aGg n_6 ^^^ aGg n_12:Nat):Int)
theorem bSf(w:W16)(c:Int)(Q:BS):aHb (aW [(860171,.int .u32),(938027,.int .u32),(938036,.int .u32),(970763,.int .u32),(970767,.int .u32),(970768,.int .u32),(938045,.int .u32),(938054,
 .int .u32),(938063,.int .u32),(938072,.int .u32),(938081,.int .u32),(938090,.int .u32),(860185,.int .i64),(860195,.int .u32),(860208,.int .u8),(860210,.int .u32),(860211,.int .u8),(860213,.int .u32),(860214,.int .u8),
 (860216,.int .u32),(860217,.int .u8),(860191,.int .u32)]) (aV []) w c Q=(exW .u32 c (λn_0=>(∃x_1:Nat×W16,bQ4 x_1 w c∧bVe w n_0=bUl w c∧bUe∧bVe w n_0=bS7 x_1∧aK [AV.ptr 2 16 0]∧AV.int .i64 0 =
 AV.int .i64 (x_1.1:Int)∧bUw)∧∀x_1:Nat×W16,bQ4 x_1 w c->bif decide ((x_1.1:Int)<10)then exW .u32 ((x_1.2.1:Int)+(x_1.2.5:Int)) (λn_2=>exW .u32 ((((x_1.2.13:Int)%4294967296).toNat ^^^ aGg n_2:Nat):Int)
 (λn_3=>exW .u32 (n_3*65536) (λn_4=>exI .u32 (Int.fdiv n_3 65536) (λn_5=>exW .u32 (mJ n_4 n_5) (λn_6=>exW .u32 ((x_1.2.9:Int)+n_6) (λn_7=>exW .u32 ((((x_1.2.5:Int)%4294967296).toNat ^^^ aGg n_7:Nat) :
 Int) (λn_8=>exW .u32 (n_8*4096) (λn_9=>exI .u32 (Int.fdiv n_8 1048576) (λn_10=>exW .u32 (mJ n_9 n_10) (λn_11=>exW .u32 (n_2+n_11) (λn_12=>exW .u32 (sI n_6 n_12) (λn_13=>exW .u32 (n_13*256) (λn_14
 => exI .u32 (Int.fdiv n_13 16777216) (λn_15=>exW .u32 (mJ n_14 n_15) (λn_16=>exW .u32 (n_7+n_16) (λn_17=>exW .u32 (sI n_11 n_17) (λn_18=>exW .u32 (n_18*128) (λn_19=>exI .u32 (Int.fdiv n_18 33554432) (fun
 n_20=>exW .u32 (mJ n_19 n_20) (λn_21=>exW .u32 ((x_1.2.2:Int)+(x_1.2.6:Int)) (λn_22=>exW .u32 ((((x_1.2.14:Int)%4294967296).toNat ^^^ aGg n_22:Nat):Int) (λn_23=>exW .u32 (n_23*65536) (λn_24=>exI
 .u32 (Int.fdiv n_23 65536) (λn_25=>exW .u32 (mJ n_24 n_25) (λn_26=>exW .u32 ((x_1.2.10:Int)+n_26) (λn_27=>exW .u32 ((((x_1.2.6:Int)%4294967296).toNat ^^^ aGg n_27:Nat):Int) (λn_28=>exW .u32 (n_28*4096)
 (λn_29=>exI .u32 (Int.fdiv n_28 1048576) (λn_30=>exW .u32 (mJ n_29 n_30) (λn_31=>exW .u32 (n_22+n_31) (λn_32=>exW .u32 (sI n_26 n_32) (λn_33=>exW .u32 (n_33*256) (λn_34=>exI .u32 (Int.fdiv n_33
 16777216) (λn_35=>exW .u32 (mJ n_34 n_35) (λn_36=>exW .u32 (n_27+n_36) (λn_37=>exW .u32 (sI n_31 n_37) (λn_38=>exW .u32 (n_38*128) (λn_39=>exI .u32 (Int.fdiv n_38 33554432) (λn_40=>exW .u32 (mJ n_39
 n_40) (λn_41=>exW .u32 ((x_1.2.3:Int)+(x_1.2.7:Int)) (λn_42=>exW .u32 ((((x_1.2.15:Int)%4294967296).toNat ^^^ aGg n_42:Nat):Int) (λn_43=>exW .u32 (n_43*65536) (λn_44=>exI .u32 (Int.fdiv n_43 65536) (fun
 n_45=>exW .u32 (mJ n_44 n_45) (λn_46=>exW .u32 ((x_1.2.11:Int)+n_46) (λn_47=>exW .u32 ((((x_1.2.7:Int)%4294967296).toNat ^^^ aGg n_47:Nat):Int) (λn_48=>exW .u32 (n_48*4096) (λn_49=>exI .u32 (Int.fdiv
 n_48 1048576) (λn_50=>exW .u32 (mJ n_49 n_50) (λn_51=>exW .u32 (n_42+n_51) (λn_52=>exW .u32 (sI n_46 n_52) (λn_53=>exW .u32 (n_53*256) (λn_54=>exI .u32 (Int.fdiv n_53 16777216) (λn_55=>exW .u32 (mJ
 n_54 n_55) (λn_56=>exW .u32 (n_47+n_56) (λn_57=>exW .u32 (sI n_51 n_57) (λn_58=>exW .u32 (n_58*128) (λn_59=>exI .u32 (Int.fdiv n_58 33554432) (λn_60=>exW .u32 (mJ n_59 n_60) (λn_61=>exW .u32 ((x_1.2.4
 : Int)+(x_1.2.8:Int)) (λn_62=>exW .u32 ((((x_1.2.16:Int)%4294967296).toNat ^^^ aGg n_62:Nat):Int) (λn_63=>exW .u32 (n_63*65536) (λn_64=>exI .u32 (Int.fdiv n_63 65536) (λn_65=>exW .u32 (mJ n_64 n_65)
 (λn_66=>exW .u32 ((x_1.2.12:Int)+n_66) (λn_67=>exW .u32 ((((x_1.2.8:Int)%4294967296).toNat ^^^ aGg n_67:Nat):Int) (λn_68=>exW .u32 (n_68*4096) (λn_69=>exI .u32 (Int.fdiv n_68 1048576) (λn_70=>exW
 .u32 (mJ n_69 n_70) (λn_71=>exW .u32 (n_62+n_71) (λn_72=>exW .u32 (sI n_66 n_72) (λn_73=>exW .u32 (n_73*256) (λn_74=>exI .u32 (Int.fdiv n_73 16777216) (λn_75=>exW .u32 (mJ n_74 n_75) (λn_76=>exW .u32
 (n_67+n_76) (λn_77=>exW .u32 (sI n_71 n_77) (λn_78=>exW .u32 (n_78*128) (λn_79=>exI .u32 (Int.fdiv n_78 33554432) (λn_80=>exW .u32 (mJ n_79 n_80) (λn_81=>exW .u32 (n_12+n_41) (λn_82=>exW .u32 (sI
 n_76 n_82) (λn_83=>exW .u32 (n_83*65536) (λn_84=>exI .u32 (Int.fdiv n_83 65536) (λn_85=>exW .u32 (mJ n_84 n_85) (λn_86=>exW .u32 (n_57+n_86) (λn_87=>exW .u32 (sI n_41 n_87) (λn_88=>exW .u32 (n_88 *
 4096) (λn_89=>exI .u32 (Int.fdiv n_88 1048576) (λn_90=>exW .u32 (mJ n_89 n_90) (λn_91=>exW .u32 (n_82+n_91) (λn_92=>exW .u32 (sI n_86 n_92) (λn_93=>exW .u32 (n_93*256) (λn_94=>exI .u32 (Int.fdiv n_93
 16777216) (λn_95=>exW .u32 (mJ n_94 n_95) (λn_96=>exW .u32 (n_87+n_96) (λn_97=>exW .u32 (sI n_91 n_97) (λn_98=>exW .u32 (n_98*128) (λn_99=>exI .u32 (Int.fdiv n_98 33554432) (λn_100=>exW .u32 (mJ n_99
 n_100) (λn_101=>exW .u32 (n_32+n_61) (λn_102=>exW .u32 (sI n_16 n_102) (λn_103=>exW .u32 (n_103*65536) (λn_104=>exI .u32 (Int.fdiv n_103 65536) (λn_105=>exW .u32 (mJ n_104 n_105) (λn_106=>exW .u32
 (n_77+n_106) (λn_107=>exW .u32 (sI n_61 n_107) (λn_108=>exW .u32 (n_108*4096) (λn_109=>exI .u32 (Int.fdiv n_108 1048576) (λn_110=>exW .u32 (mJ n_109 n_110) (λn_111=>exW .u32 (n_102+n_111) (λn_112=>
 exW .u32 (sI n_106 n_112) (λn_113=>exW .u32 (n_113*256) (λn_114=>exI .u32 (Int.fdiv n_113 16777216) (λn_115=>exW .u32 (mJ n_114 n_115) (λn_116=>exW .u32 (n_107+n_116) (λn_117=>exW .u32 (sI n_111 n_117)
 (λn_118=>exW .u32 (n_118*128) (λn_119=>exI .u32 (Int.fdiv n_118 33554432) (λn_120=>exW .u32 (mJ n_119 n_120) (λn_121=>exW .u32 (n_52+n_81) (λn_122=>exW .u32 (sI n_36 n_122) (λn_123=>exW .u32 (n_123 *
 65536) (λn_124=>exI .u32 (Int.fdiv n_123 65536) (λn_125=>exW .u32 (mJ n_124 n_125) (λn_126=>exW .u32 (n_17+n_126) (λn_127=>exW .u32 (sI n_81 n_127) (λn_128=>exW .u32 (n_128*4096) (λn_129=>exI .u32
 (Int.fdiv n_128 1048576) (λn_130=>exW .u32 (mJ n_129 n_130) (λn_131=>exW .u32 (n_122+n_131) (λn_132=>exW .u32 (sI n_126 n_132) (λn_133=>exW .u32 (n_133*256) (λn_134=>exI .u32 (Int.fdiv n_133 16777216) (fun
 n_135=>exW .u32 (mJ n_134 n_135) (λn_136=>exW .u32 (n_127+n_136) (λn_137=>exW .u32 (sI n_131 n_137) (λn_138=>exW .u32 (n_138*128) (λn_139=>exI .u32 (Int.fdiv n_138 33554432) (λn_140=>exW .u32 (mJ n_139
 n_140) (λn_141=>exW .u32 (n_72+n_21) (λn_142=>exW .u32 (sI n_56 n_142) (λn_143=>exW .u32 (n_143*65536) (λn_144=>exI .u32 (Int.fdiv n_143 65536) (λn_145=>exW .u32 (mJ n_144 n_145) (λn_146=>exW .u32
 (n_37+n_146) (λn_147=>exW .u32 (sI n_21 n_147) (λn_148=>exW .u32 (n_148*4096) (λn_149=>exI .u32 (Int.fdiv n_148 1048576) (λn_150=>exW .u32 (mJ n_149 n_150) (λn_151=>exW .u32 (n_142+n_151) (λn_152=>
 exW .u32 (sI n_146 n_152) (λn_153=>exW .u32 (n_153*256) (λn_154=>exI .u32 (Int.fdiv n_153 16777216) (λn_155=>exW .u32 (mJ n_154 n_155) (λn_156=>exW .u32 (n_147+n_156) (λn_157=>exW .u32 (sI n_151 n_157)
 (λn_158=>exW .u32 (n_158*128) (λn_159=>exI .u32 (Int.fdiv n_158 33554432) (λn_160=>exW .u32 (mJ n_159 n_160) (λn_161=>exW .i64 ((x_1.1:Int)+1) (λn_162=>(True∧(0:Nat)=(0:Nat))∧∃y_163:Nat×W16,
 bQ4 y_163 w c∧10-y_163.1<10-x_1.1∧aK (bUl w c)∧bUe∧[AV.int .u32 n_92,.int .u32 n_112,.int .u32 n_132,.int .u32 n_152,.int .u32 n_161,.int .u32 n_101,.int .u32 n_121,.int .u32 n_141,.int .u32 n_137,.int .u32
 n_157,.int .u32 n_97,.int .u32 n_117,.int .u32 n_116,.int .u32 n_136,.int .u32 n_156,.int .u32 n_96]=bS7 y_163∧aK [AV.ptr 2 16 0]∧AV.int .i64 n_162=AV.int .i64 (y_163.1:Int) ∧
 bUw)))))))))))))))))))))))))))))))))))))))))))))))))))))))))))))))))))))))))))))))))))))))))))))))))))))))))))))))))))))))))))))))))))))))))))))))))))))))))))))))))else exI .u32 (w.1:Int) (λn_2=>exW .u32 (n_2+(x_1.2.1:Int))
 (λn_3=>exW .u8 n_3 (λn_4=>exI .u32 (Int.fdiv n_3 256) (λn_5=>exW .u8 n_5 (λn_6=>exI .u32 (Int.fdiv n_3 65536) (λn_7=>exW .u8 n_7 (λn_8=>exI .u32 (Int.fdiv n_3 16777216) (λn_9=>exW .u8 n_9 (λn_10=>exI
 .u32 (w.2:Int) (λn_11=>exW .u32 (n_11+(x_1.2.2:Int)) (λn_12=>exW .u8 n_12 (λn_13=>exI .u32 (Int.fdiv n_12 256) (λn_14=>exW .u8 n_14 (λn_15=>exI .u32 (Int.fdiv n_12 65536) (λn_16=>exW .u8 n_16 (λn_17
 => exI .u32 (Int.fdiv n_12 16777216) (λn_18=>exW .u8 n_18 (λn_19=>exI .u32 (w.3:Int) (λn_20=>exW .u32 (n_20+(x_1.2.3:Int)) (λn_21=>exW .u8 n_21 (λn_22=>exI .u32 (Int.fdiv n_21 256) (λn_23=>exW .u8 n_23
 (λn_24=>exI .u32 (Int.fdiv n_21 65536) (λn_25=>exW .u8 n_25 (λn_26=>exI .u32 (Int.fdiv n_21 16777216) (λn_27=>exW .u8 n_27 (λn_28=>exI .u32 (w.4:Int) (λn_29=>exW .u32 (n_29+(x_1.2.4:Int)) (λn_30=>
 exW .u8 n_30 (λn_31=>exI .u32 (Int.fdiv n_30 256) (λn_32=>exW .u8 n_32 (λn_33=>exI .u32 (Int.fdiv n_30 65536) (λn_34=>exW .u8 n_34 (λn_35=>exI .u32 (Int.fdiv n_30 16777216) (λn_36=>exW .u8 n_36 (λn_37=>
 exI .u32 (w.5:Int) (λn_38=>exW .u32 (n_38+(x_1.2.5:Int)) (λn_39=>exW .u8 n_39 (λn_40=>exI .u32 (Int.fdiv n_39 256) (λn_41=>exW .u8 n_41 (λn_42=>exI .u32 (Int.fdiv n_39 65536) (λn_43=>exW .u8 n_43 (fun
 n_44=>exI .u32 (Int.fdiv n_39 16777216) (λn_45=>exW .u8 n_45 (λn_46=>exI .u32 (w.6:Int) (λn_47=>exW .u32 (n_47+(x_1.2.6:Int)) (λn_48=>exW .u8 n_48 (λn_49=>exI .u32 (Int.fdiv n_48 256) (λn_50=>exW .u8
 n_50 (λn_51=>exI .u32 (Int.fdiv n_48 65536) (λn_52=>exW .u8 n_52 (λn_53=>exI .u32 (Int.fdiv n_48 16777216) (λn_54=>exW .u8 n_54 (λn_55=>exI .u32 (w.7:Int) (λn_56=>exW .u32 (n_56+(x_1.2.7:Int)) (λn_57
 => exW .u8 n_57 (λn_58=>exI .u32 (Int.fdiv n_57 256) (λn_59=>exW .u8 n_59 (λn_60=>exI .u32 (Int.fdiv n_57 65536) (λn_61=>exW .u8 n_61 (λn_62=>exI .u32 (Int.fdiv n_57 16777216) (λn_63=>exW .u8 n_63 (λn_64=>
 exI .u32 (w.8:Int) (λn_65=>exW .u32 (n_65+(x_1.2.8:Int)) (λn_66=>exW .u8 n_66 (λn_67=>exI .u32 (Int.fdiv n_66 256) (λn_68=>exW .u8 n_68 (λn_69=>exI .u32 (Int.fdiv n_66 65536) (λn_70=>exW .u8 n_70 (fun
 n_71=>exI .u32 (Int.fdiv n_66 16777216) (λn_72=>exW .u8 n_72 (λn_73=>exI .u32 (w.9:Int) (λn_74=>exW .u32 (n_74+(x_1.2.9:Int)) (λn_75=>exW .u8 n_75 (λn_76=>exI .u32 (Int.fdiv n_75 256) (λn_77=>exW .u8
 n_77 (λn_78=>exI .u32 (Int.fdiv n_75 65536) (λn_79=>exW .u8 n_79 (λn_80=>exI .u32 (Int.fdiv n_75 16777216) (λn_81=>exW .u8 n_81 (λn_82=>exI .u32 (w.10:Int) (λn_83=>exW .u32 (n_83+(x_1.2.10:Int)) (fun
 n_84=>exW .u8 n_84 (λn_85=>exI .u32 (Int.fdiv n_84 256) (λn_86=>exW .u8 n_86 (λn_87=>exI .u32 (Int.fdiv n_84 65536) (λn_88=>exW .u8 n_88 (λn_89=>exI .u32 (Int.fdiv n_84 16777216) (λn_90=>exW .u8 n_90 (fun
 n_91=>exI .u32 (w.11:Int) (λn_92=>exW .u32 (n_92+(x_1.2.11:Int)) (λn_93=>exW .u8 n_93 (λn_94=>exI .u32 (Int.fdiv n_93 256) (λn_95=>exW .u8 n_95 (λn_96=>exI .u32 (Int.fdiv n_93 65536) (λn_97=>exW .u8
 n_97 (λn_98=>exI .u32 (Int.fdiv n_93 16777216) (λn_99=>exW .u8 n_99 (λn_100=>exI .u32 (w.12:Int) (λn_101=>exW .u32 (n_101+(x_1.2.12:Int)) (λn_102=>exW .u8 n_102 (λn_103=>exI .u32 (Int.fdiv n_102 256)
 (λn_104=>exW .u8 n_104 (λn_105=>exI .u32 (Int.fdiv n_102 65536) (λn_106=>exW .u8 n_106 (λn_107=>exI .u32 (Int.fdiv n_102 16777216) (λn_108=>exW .u8 n_108 (λn_109=>exI .u32 (aGg c:Int) (λn_110=>exW .u32
 (n_110+(x_1.2.13:Int)) (λn_111=>exW .u8 n_111 (λn_112=>exI .u32 (Int.fdiv n_111 256) (λn_113=>exW .u8 n_113 (λn_114=>exI .u32 (Int.fdiv n_111 65536) (λn_115=>exW .u8 n_115 (λn_116=>exI .u32 (Int.fdiv n_111
 16777216) (λn_117=>exW .u8 n_117 (λn_118=>exI .u32 (w.14:Int) (λn_119=>exW .u32 (n_119+(x_1.2.14:Int)) (λn_120=>exW .u8 n_120 (λn_121=>exI .u32 (Int.fdiv n_120 256) (λn_122=>exW .u8 n_122 (λn_123=>
 exI .u32 (Int.fdiv n_120 65536) (λn_124=>exW .u8 n_124 (λn_125=>exI .u32 (Int.fdiv n_120 16777216) (λn_126=>exW .u8 n_126 (λn_127=>exI .u32 (w.15:Int) (λn_128=>exW .u32 (n_128+(x_1.2.15:Int)) (λn_129=>
 exW .u8 n_129 (λn_130=>exI .u32 (Int.fdiv n_129 256) (λn_131=>exW .u8 n_131 (λn_132=>exI .u32 (Int.fdiv n_129 65536) (λn_133=>exW .u8 n_133 (λn_134=>exI .u32 (Int.fdiv n_129 16777216) (λn_135=>exW .u8 n_135
 (λn_136=>exI .u32 (w.16:Int) (λn_137=>exW .u32 (n_137+(x_1.2.16:Int)) (λn_138=>exW .u8 n_138 (λn_139=>exI .u32 (Int.fdiv n_138 256) (λn_140=>exW .u8 n_140 (λn_141=>exI .u32 (Int.fdiv n_138 65536) (fun
 n_142=>exW .u8 n_142 (λn_143=>exI .u32 (Int.fdiv n_138 16777216) (λn_144=>exW .u8 n_144 (λn_145=>Q (.ret (.agg [.int .u8 n_4,.int .u8 n_6,.int .u8 n_8,.int .u8 n_10,.int .u8 n_13,.int .u8 n_15,.int .u8 n_17,.int .u8
 n_19,.int .u8 n_22,.int .u8 n_24,.int .u8 n_26,.int .u8 n_28,.int .u8 n_31,.int .u8 n_33,.int .u8 n_35,.int .u8 n_37,.int .u8 n_40,.int .u8 n_42,.int .u8 n_44,.int .u8 n_46,.int .u8 n_49,.int .u8 n_51,.int .u8 n_53,.int .u8
 n_55,.int .u8 n_58,.int .u8 n_60,.int .u8 n_62,.int .u8 n_64,.int .u8 n_67,.int .u8 n_69,.int .u8 n_71,.int .u8 n_73,.int .u8 n_76,.int .u8 n_78,.int .u8 n_80,.int .u8 n_82,.int .u8 n_85,.int .u8 n_87,.int .u8 n_89,.int .u8
 n_91,.int .u8 n_94,.int .u8 n_96,.int .u8 n_98,.int .u8 n_100,.int .u8 n_103,.int .u8 n_105,.int .u8 n_107,.int .u8 n_109,.int .u8 n_112,.int .u8 n_114,.int .u8 n_116,.int .u8 n_118,.int .u8 n_121,.int .u8 n_123,.int .u8
 n_125,.int .u8 n_127,.int .u8 n_130,.int .u8 n_132,.int .u8 n_134,.int .u8 n_136,.int .u8 n_139,.int .u8 n_141,.int .u8 n_143,.int .u8 n_145])) []
 {})))))))))))))))))))))))))))))))))))))))))))))))))))))))))))))))))))))))))))))))))))))))))))))))))))))))))))))))))))))))))))))))))))))))))))))))))):=by kernel_rfl


theorem bGl(w:W16)(c:Int)(Q:BS)(hq:Q (.ret (.agg (aX (aWf w c)))) [] {}):∃hv hb,aHb hv hb w c Q:=by
 obtain⟨hv,hb',e⟩:∃hv hb,aHb hv hb w c Q=_:=⟨_,_,bSf w c Q⟩
 refine⟨hv,hb',e.mpr ?_⟩
 delta aGg bQ4 bVe bUl bUe bS7 bUw mJ sI
 clear e
 unfold aWf at hq
 generalize hw : { w with x12:=(c%4294967296).toNat }=w' at *
 have h12:IntKind.wrap .u32 c=(((c%4294967296).toNat:Nat):Int):=by
  show c%4294967296=_
  omega
 have hcs:w'.cells=[.int .u32 w.x0,.int .u32 w.x1,.int .u32 w.x2,.int .u32 w.x3,.int .u32 w.x4,.int .u32 w.x5,.int .u32 w.x6,.int .u32 w.x7,.int .u32 w.x8,.int .u32 w.x9,.int .u32 w.x10,.int .u32 w.x11,.int .u32 (((c%4294967296).toNat:Nat):Int),.int .u32 w.x13,.int .u32 w.x14,.int .u32 w.x15]:=by subst hw;rfl
 simp only[W16.cells]at hcs
 refine⟨_,by rw[h12],⟨(0,w'),⟨by omega,rfl⟩, ?_⟩, ?_⟩
 ·rw[hcs]
  simp
 rintro⟨k,v⟩ ⟨hk,hv2⟩
 dsimp only at hk hv2
 refine aH (λh => ?_) (λh => ?_)
 ·dsimp only at h ⊢
  refine quI (λa0 b0 c0 d0 e0 => ?_)
  refine quI (λa1 b1 c1 d1 e1 => ?_)
  refine quI (λa2 b2 c2 d2 e2 => ?_)
  refine quI (λa3 b3 c3 d3 e3 => ?_)
  refine quI (λa4 b4 c4 d4 e4 => ?_)
  refine quI (λa5 b5 c5 d5 e5 => ?_)
  refine quI (λa6 b6 c6 d6 e6 => ?_)
  refine quI (λa7 b7 c7 d7 e7 => ?_)
  have er:aKs v=⟨a4,a5,a6,a7,b7,b4,b5,b6,c6,c7,c4,c5,d5,d6,d7,d4⟩:=by simp only[aKs,e0,e1,e2,e3,e4,e5,e6,e7]
  refine aF ⟨⟨trivial,by trivial⟩,(k+1,aKs v),⟨by omega,by rw[hv2];rfl⟩, ?_, ?_⟩
  ·dsimp only;omega
  ·rw[er]
   simp
 ·obtain rfl:k=10:=by dsimp only at h;omega
  dsimp only
  refine woI (λp0 q0 r0 s0 f0 => ?_)
  refine woI (λp1 q1 r1 s1 f1 => ?_)
  refine woI (λp2 q2 r2 s2 f2 => ?_)
  refine woI (λp3 q3 r3 s3 f3 => ?_)
  refine woI (λp4 q4 r4 s4 f4 => ?_)
  refine woI (λp5 q5 r5 s5 f5 => ?_)
  refine woI (λp6 q6 r6 s6 f6 => ?_)
  refine woI (λp7 q7 r7 s7 f7 => ?_)
  refine woI (λp8 q8 r8 s8 f8 => ?_)
  refine woI (λp9 q9 r9 s9 f9 => ?_)
  refine woI (λp10 q10 r10 s10 f10 => ?_)
  refine woI (λp11 q11 r11 s11 f11 => ?_)
  refine woI (λp12 q12 r12 s12 f12 => ?_)
  refine woI (λp13 q13 r13 s13 f13 => ?_)
  refine woI (λp14 q14 r14 s14 f14 => ?_)
  refine woI (λp15 q15 r15 s15 f15 => ?_)
  subst hw
  rw[←hv2]at hq
  simp only[bUs,f0,f1,f2,f3,f4,f5,f6,f7,f8,f9,f10,f11,f12,f13,f14,f15,aX,bX0,bX2,bXu,cBt]at hq
  exact hq
def bRy:Con
 | [.agg cs,.int .i64 c],H,K=>∃w:W16,Lf (cs=w.cells)∧∀l:List Nat,Lf (l=aWf w c)->K (.ret (.agg (aX l))) H
 | _,_,_=>False
theorem aIz(l:List Nat):aP 0 (aX l)=true∧bX (aX l)=true:=by
 induction l with
 | nil=>exact⟨rfl,rfl⟩
 | cons x l ih=>exact⟨by simpa[aX,aP,old]using ih.1,by simpa[aX,bX,noY]using ih.2⟩
theorem bBk:aI Tryz.prog gl0 210 bRy:=by
 refine aQ (enters_of (by kernel_rfl)) aO λargs H Q hc => ?_
 unfold bRy at hc
 split at hc
 ·rename_i cs c
  obtain⟨w,⟨rfl⟩,hq⟩:=hc
  obtain⟨hv,hb',h⟩:=bGl w c (Q:=λo H' _=>H'=[]∧(∃v,o=.ret v∧old 0 v=true∧noY v=true)∧Q o H) ⟨rfl,⟨_,rfl,by simpa[old]using(aIz _).1,by simpa[noY]using(aIz _).2⟩,hq _ ⟨rfl⟩⟩
  exact⟨rfl,rfl,_,1000,aS bY _ _ _,rfl,h⟩
 ·exact hc.elim
def smC:SM:=gG [(210,bRy)]
theorem bLp:∀f g,smC f=some g->aI Tryz.prog gl0 f g:=bO _ (by simp only[bXd,bXn,bY0,bY4];exact bBk)
def aOr(s:LA)(i:Nat):Nat:=(s.getD i 0).toNat
def eY(s:LA)(m:Nat):Nat:=((aOr s m ||| aOr s (m+1)*256) ||| aOr s (m+2)*65536) ||| aOr s (m+3)*16777216
theorem aBs(s:LA)(i:Nat):aOr s i<256:=(s.getD i 0).toNat_lt
theorem uE{s:LA}{m i k:Nat}(h:k=s.length-m):(UInt8.toNat (List.getD (List.take k (List.drop m s)) i (UInt8.ofNat 0)))=aOr s (m+i):=by
 subst h
 have e:List.take (s.length-m) (List.drop m s)=List.drop m s:=bW4 (by simp)
 rw[e,aOr,bW7,bYo,←bW7]
 rfl
theorem aAc{x:Nat}(h:x<4294967296):IntKind.wrap .u32 (x:Int)=(x:Int):=by
 rw[oN,bZh h]
theorem bTb(x:Nat)(M:Int)(n:Nat)(hM:M=(n:Int))(h:x*n<4294967296):IntKind.wrap .u32 ((x:Int)*M)=((x*n:Nat):Int):=by
 subst hM
 rw[←cCx,aAc h]
theorem orw(x y:Nat)(hx:x<4294967296)(hy:y<4294967296):IntKind.wrap .u32 (((((x:Int)%4294967296).toNat ||| ((y:Int)%4294967296).toNat:Nat)):Int)=((x ||| y:Nat):Int):=by
 rw[aMb,aMb,aKx hx,aKx hy,aAc (bYx (n:=32) hx hy)]
theorem mU{cd:Bool}{s:LA}{m:Nat}(hcd:cd=true)(hm:m+4<=s.length){K:Int->Prop}(hk:K ((eY s m:Nat):Int)) :
 (bif cd then(∃s_5:LA,(((AV.str (List.take ((List.length s)-m) (List.drop m s)))=(AV.str s_5)) ∧
 (bif(Nat.blt (0:Nat) (List.length s_5))then(∃n_6:Int,(((AV.int .u8 (Nat.cast (UInt8.toNat (List.getD s_5 (0:Nat) (UInt8.ofNat (0:Nat)))):Int))=(AV.int .u8 n_6)) ∧
 (∃n_7:Int,(((AV.int .u32 (IntKind.wrap .u32 n_6))=(AV.int .u32 n_7)) ∧
 (bif(Nat.blt (1:Nat) (List.length s_5))then(∃n_8:Int,(((AV.int .u8 (Nat.cast (UInt8.toNat (List.getD s_5 (1:Nat) (UInt8.ofNat (0:Nat)))):Int))=(AV.int .u8 n_8)) ∧
 (∃n_9:Int,(((AV.int .u32 (IntKind.wrap .u32 n_8))=(AV.int .u32 n_9)) ∧
 (∃n_10:Int,(((AV.int .u32 (IntKind.wrap .u32 (n_9*(256:Int))))=(AV.int .u32 n_10)) ∧
 (∃n_11:Int,(((AV.int .u32 (IntKind.wrap .u32 (Nat.cast ((Int.toNat (n_7%(4294967296:Int))) ||| (Int.toNat (n_10%(4294967296:Int)))):Int)))=(AV.int .u32 n_11)) ∧
 (bif(Nat.blt (2:Nat) (List.length s_5))then(∃n_12:Int,(((AV.int .u8 (Nat.cast (UInt8.toNat (List.getD s_5 (2:Nat) (UInt8.ofNat (0:Nat)))):Int))=(AV.int .u8 n_12)) ∧
 (∃n_13:Int,(((AV.int .u32 (IntKind.wrap .u32 n_12))=(AV.int .u32 n_13)) ∧
 (∃n_14:Int,(((AV.int .u32 (IntKind.wrap .u32 (n_13*(65536:Int))))=(AV.int .u32 n_14)) ∧
 (∃n_15:Int,(((AV.int .u32 (IntKind.wrap .u32 (Nat.cast ((Int.toNat (n_11%(4294967296:Int))) ||| (Int.toNat (n_14%(4294967296:Int)))):Int)))=(AV.int .u32 n_15)) ∧
 (bif(Nat.blt (3:Nat) (List.length s_5))then(∃n_16:Int,(((AV.int .u8 (Nat.cast (UInt8.toNat (List.getD s_5 (3:Nat) (UInt8.ofNat (0:Nat)))):Int))=(AV.int .u8 n_16)) ∧
 (∃n_17:Int,(((AV.int .u32 (IntKind.wrap .u32 n_16))=(AV.int .u32 n_17)) ∧
 (∃n_18:Int,(((AV.int .u32 (IntKind.wrap .u32 (n_17*(16777216:Int))))=(AV.int .u32 n_18)) ∧
 (∃n_19:Int,(((AV.int .u32 (IntKind.wrap .u32 (Nat.cast ((Int.toNat (n_15%(4294967296:Int))) ||| (Int.toNat (n_18%(4294967296:Int)))):Int)))=(AV.int .u32 n_19))∧K n_19))))))))else False)))))))))else False)))))))))else False)))))else False)))else False):=by
  subst hcd
  have b0:=aBs s (m+0)
  have b1:=aBs s (m+1)
  have b2:=aBs s (m+2)
  have b3:=aBs s (m+3)
  have o1:(aOr s (m+0) ||| aOr s (m+1)*256)<4294967296:=bYx (n:=32) (by omega) (by omega)
  have o2:((aOr s (m+0) ||| aOr s (m+1)*256) ||| aOr s (m+2)*65536)<4294967296:=bYx (n:=32) o1 (by omega)
  have hl:∀i,i<4->Nat.blt i (List.length (List.take (s.length-m) (List.drop m s)))=true:=λi hi=>aXd (by simp;omega)
  refine⟨_,rfl,ckI (hl 0 (by omega)) ⟨_,rfl,_,by rw[uE rfl,aAc (by omega)],ckI (hl 1 (by omega)) ⟨_,rfl,_,by rw[uE rfl,aAc (by omega)],_,by rw[bTb _ 256 256 rfl (by omega)],_,by rw[orw _ _ (by omega) (by omega)],ckI (hl 2 (by omega)) ⟨_,rfl,_,by rw[uE rfl,aAc (by omega)],_,by rw[bTb _ 65536 65536 rfl (by omega)],_,by rw[orw _ _ o1 (by omega)],ckI (hl 3 (by omega)) ⟨_,rfl,_,by rw[uE rfl,aAc (by omega)],_,by rw[bTb _ 16777216 16777216 rfl (by omega)],_,by rw[orw _ _ o2 (by omega)];rfl,hk⟩⟩⟩⟩⟩
noncomputable def aHd(hv:LI)(hb:LB)(key nonce:LA)(c:Int)(Q:BS):Prop:=
 aT (e04 smC (λ_=>none) hv hb) (wpx (e04 smC (λ_=>none) hv hb) 1000) 165 [.str key,.str nonce,.int .i64 c] [] {} Q
abbrev aEg(s_4:LA):Bool:=Nat.ble s_4.length s_4.length
abbrev aEo(s_5:LA):Bool:=Nat.blt 0 s_5.length
abbrev aFa(s_5:LA):Int:=(UInt8.toNat (s_5.getD 0 (UInt8.ofNat 0)):Int)
abbrev aEd(s_5:LA):Bool:=Nat.blt 1 s_5.length
abbrev aDi(s_5:LA):Int:=(UInt8.toNat (s_5.getD 1 (UInt8.ofNat 0)):Int)
abbrev gW(n_7 n_10:Int):Int:=(((n_7%4294967296).toNat ||| (n_10%4294967296).toNat:Nat):Int)
abbrev aFm(s_5:LA):Bool:=Nat.blt 2 s_5.length
abbrev aD3(s_5:LA):Int:=(UInt8.toNat (s_5.getD 2 (UInt8.ofNat 0)):Int)
abbrev lH(s_5:LA):Bool:=Nat.blt 3 s_5.length
abbrev aE8(s_5:LA):Int:=(UInt8.toNat (s_5.getD 3 (UInt8.ofNat 0)):Int)
abbrev bP4(l_246:List Nat):HB:=aN [.int .u8 0,.int .u8 0,.int .u8 0,.int .u8 0,.int .u8 0,.int .u8 0,.int .u8 0,.int .u8 0,.int .u8 0,.int .u8 0,.int .u8 0,.int .u8 0,.int .u8 0,.int .u8 0,.int .u8 0,.int .u8 0,.int .u8 0,.int .u8 0,.int .u8 0,.int .u8 0,.int .u8 0,.int .u8 0,.int .u8 0,.int .u8 0,.int .u8 0,.int .u8 0,.int .u8 0,.int .u8 0,.int .u8 0,.int .u8 0,.int .u8 0,.int .u8 0,.int .u8 0,.int .u8 0,.int .u8 0,.int .u8 0,.int .u8 0,.int .u8 0,.int .u8 0,.int .u8 0,.int .u8 0,.int .u8 0,.int .u8 0,.int .u8 0,.int .u8 0,.int .u8 0,.int .u8 0,.int .u8 0,.int .u8 0,.int .u8 0,.int .u8 0,.int .u8 0,.int .u8 0,.int .u8 0,.int .u8 0,.int .u8 0,.int .u8 0,.int .u8 0,.int .u8 0,.int .u8 0,.int .u8 0,.int .u8 0,.int .u8 0,.int .u8 0] 0 (aX l_246)
abbrev aTr:Out:=.ret (.tup [.str [],.int .i64 2])
theorem bUr(key:LA)(nonce:LA)(c:Int)(Q:BS):aHd (aW [(663560,.int .i64),(663564,.int .i64),(667657,.str),(667658,.str),(667660,.str),(667668,.str),(851972,.int .u8),
 (851973,.int .u32),(851975,.int .u8),(851976,.int .u32),(851977,.int .u32),(851978,.int .u32),(851980,.int .u8),(851981,.int .u32),(851982,.int .u32),(851983,.int .u32),(851985,.int .u8),(851986,.int .u32),(851987,
 .int .u32),(851988,.int .u32),(675860,.str)]) (aV []) key nonce c Q=(exI .i64 (key.length:Int) (λn_0=>bif n_0==32 then exI .i64 (nonce.length:Int) (λn_1=>bif n_1==12 then bif decide (c≥0)then bif decide (c <
 4294967296)then ckQ (decide (16+key.length<=9223372036854775807)&&true) (exS (.str ([UInt8.ofNat 101,UInt8.ofNat 120,UInt8.ofNat 112,UInt8.ofNat 97,UInt8.ofNat 110,UInt8.ofNat 100,UInt8.ofNat 32,UInt8.ofNat 51,UInt8.ofNat 50,
 UInt8.ofNat 45,UInt8.ofNat 98,UInt8.ofNat 121,UInt8.ofNat 116,UInt8.ofNat 101,UInt8.ofNat 32,UInt8.ofNat 107]++key)) (λs_2=>ckQ (decide (s_2.length+4<=9223372036854775807)&&true) (exS (.str (s_2++[UInt8.ofNat 0,
 UInt8.ofNat 0,UInt8.ofNat 0,UInt8.ofNat 0])) (λs_3=>ckQ (decide (s_3.length+nonce.length<=9223372036854775807)&&true) (exS (.str (s_3++nonce)) (λs_4=>ckQ (aEg s_4) (exS (.str ((s_4.drop 0).take (s_4.length-0))) (fun
 s_5=>ckQ (aEo s_5) (exI .u8 (aFa s_5) (λn_6=>exW .u32 n_6 (λn_7=>ckQ (aEd s_5) (exI .u8 (aDi s_5) (λn_8=>exW .u32 n_8 (λn_9=>exW .u32 (n_9*256) (λn_10=>exW .u32 (gW n_7 n_10) (λn_11=>ckQ (aFm s_5)
 (exI .u8 (aD3 s_5) (λn_12=>exW .u32 n_12 (λn_13=>exW .u32 (n_13*65536) (λn_14=>exW .u32 (gW n_11 n_14) (λn_15=>ckQ (lH s_5) (exI .u8 (aE8 s_5) (λn_16=>exW .u32 n_16 (λn_17=>exW .u32 (n_17*16777216)
 (λn_18=>exW .u32 (gW n_15 n_18) (λn_19=>ckQ (Nat.ble 4 s_4.length&&aEg s_4) (exS (.str ((s_4.drop 4).take (s_4.length-4))) (λs_20=>ckQ (aEo s_20) (exI .u8 (aFa s_20) (λn_21=>exW .u32 n_21 (λn_22=>ckQ (aEd
 s_20) (exI .u8 (aDi s_20) (λn_23=>exW .u32 n_23 (λn_24=>exW .u32 (n_24*256) (λn_25=>exW .u32 (gW n_22 n_25) (λn_26=>ckQ (aFm s_20) (exI .u8 (aD3 s_20) (λn_27=>exW .u32 n_27 (λn_28=>exW .u32 (n_28 *
 65536) (λn_29=>exW .u32 (gW n_26 n_29) (λn_30=>ckQ (lH s_20) (exI .u8 (aE8 s_20) (λn_31=>exW .u32 n_31 (λn_32=>exW .u32 (n_32*16777216) (λn_33=>exW .u32 (gW n_30 n_33) (λn_34=>ckQ (Nat.ble 8
 s_4.length&&aEg s_4) (exS (.str ((s_4.drop 8).take (s_4.length-8))) (λs_35=>ckQ (aEo s_35) (exI .u8 (aFa s_35) (λn_36=>exW .u32 n_36 (λn_37=>ckQ (aEd s_35) (exI .u8 (aDi s_35) (λn_38=>exW .u32 n_38 (λn_39=>
 exW .u32 (n_39*256) (λn_40=>exW .u32 (gW n_37 n_40) (λn_41=>ckQ (aFm s_35) (exI .u8 (aD3 s_35) (λn_42=>exW .u32 n_42 (λn_43=>exW .u32 (n_43*65536) (λn_44=>exW .u32 (gW n_41 n_44) (λn_45=>ckQ (lH
 s_35) (exI .u8 (aE8 s_35) (λn_46=>exW .u32 n_46 (λn_47=>exW .u32 (n_47*16777216) (λn_48=>exW .u32 (gW n_45 n_48) (λn_49=>ckQ (Nat.ble 12 s_4.length&&aEg s_4) (exS (.str ((s_4.drop 12).take (s_4.length-12)))
 (λs_50=>ckQ (aEo s_50) (exI .u8 (aFa s_50) (λn_51=>exW .u32 n_51 (λn_52=>ckQ (aEd s_50) (exI .u8 (aDi s_50) (λn_53=>exW .u32 n_53 (λn_54=>exW .u32 (n_54*256) (λn_55=>exW .u32 (gW n_52 n_55) (λn_56
 => ckQ (aFm s_50) (exI .u8 (aD3 s_50) (λn_57=>exW .u32 n_57 (λn_58=>exW .u32 (n_58*65536) (λn_59=>exW .u32 (gW n_56 n_59) (λn_60=>ckQ (lH s_50) (exI .u8 (aE8 s_50) (λn_61=>exW .u32 n_61 (λn_62=>exW
 .u32 (n_62*16777216) (λn_63=>exW .u32 (gW n_60 n_63) (λn_64=>ckQ (Nat.ble 16 s_4.length&&aEg s_4) (exS (.str ((s_4.drop 16).take (s_4.length-16))) (λs_65=>ckQ (aEo s_65) (exI .u8 (aFa s_65) (λn_66=>exW .u32
 n_66 (λn_67=>ckQ (aEd s_65) (exI .u8 (aDi s_65) (λn_68=>exW .u32 n_68 (λn_69=>exW .u32 (n_69*256) (λn_70=>exW .u32 (gW n_67 n_70) (λn_71=>ckQ (aFm s_65) (exI .u8 (aD3 s_65) (λn_72=>exW .u32 n_72 (fun
 n_73=>exW .u32 (n_73*65536) (λn_74=>exW .u32 (gW n_71 n_74) (λn_75=>ckQ (lH s_65) (exI .u8 (aE8 s_65) (λn_76=>exW .u32 n_76 (λn_77=>exW .u32 (n_77*16777216) (λn_78=>exW .u32 (gW n_75 n_78) (λn_79
 => ckQ (Nat.ble 20 s_4.length&&aEg s_4) (exS (.str ((s_4.drop 20).take (s_4.length-20))) (λs_80=>ckQ (aEo s_80) (exI .u8 (aFa s_80) (λn_81=>exW .u32 n_81 (λn_82=>ckQ (aEd s_80) (exI .u8 (aDi s_80) (λn_83=>exW
 .u32 n_83 (λn_84=>exW .u32 (n_84*256) (λn_85=>exW .u32 (gW n_82 n_85) (λn_86=>ckQ (aFm s_80) (exI .u8 (aD3 s_80) (λn_87=>exW .u32 n_87 (λn_88=>exW .u32 (n_88*65536) (λn_89=>exW .u32 (gW n_86 n_89)
 (λn_90=>ckQ (lH s_80) (exI .u8 (aE8 s_80) (λn_91=>exW .u32 n_91 (λn_92=>exW .u32 (n_92*16777216) (λn_93=>exW .u32 (gW n_90 n_93) (λn_94=>ckQ (Nat.ble 24 s_4.length&&aEg s_4) (exS (.str ((s_4.drop
 24).take (s_4.length-24))) (λs_95=>ckQ (aEo s_95) (exI .u8 (aFa s_95) (λn_96=>exW .u32 n_96 (λn_97=>ckQ (aEd s_95) (exI .u8 (aDi s_95) (λn_98=>exW .u32 n_98 (λn_99=>exW .u32 (n_99*256) (λn_100=>exW
 .u32 (gW n_97 n_100) (λn_101=>ckQ (aFm s_95) (exI .u8 (aD3 s_95) (λn_102=>exW .u32 n_102 (λn_103=>exW .u32 (n_103*65536) (λn_104=>exW .u32 (gW n_101 n_104) (λn_105=>ckQ (lH s_95) (exI .u8 (aE8 s_95)
 (λn_106=>exW .u32 n_106 (λn_107=>exW .u32 (n_107*16777216) (λn_108=>exW .u32 (gW n_105 n_108) (λn_109=>ckQ (Nat.ble 28 s_4.length&&aEg s_4) (exS (.str ((s_4.drop 28).take (s_4.length-28))) (λs_110=>ckQ
 (aEo s_110) (exI .u8 (aFa s_110) (λn_111=>exW .u32 n_111 (λn_112=>ckQ (aEd s_110) (exI .u8 (aDi s_110) (λn_113=>exW .u32 n_113 (λn_114=>exW .u32 (n_114*256) (λn_115=>exW .u32 (gW n_112 n_115) (λn_116=>
 ckQ (aFm s_110) (exI .u8 (aD3 s_110) (λn_117=>exW .u32 n_117 (λn_118=>exW .u32 (n_118*65536) (λn_119=>exW .u32 (gW n_116 n_119) (λn_120=>ckQ (lH s_110) (exI .u8 (aE8 s_110) (λn_121=>exW .u32 n_121 (fun
 n_122=>exW .u32 (n_122*16777216) (λn_123=>exW .u32 (gW n_120 n_123) (λn_124=>ckQ (Nat.ble 32 s_4.length&&aEg s_4) (exS (.str ((s_4.drop 32).take (s_4.length-32))) (λs_125=>ckQ (aEo s_125) (exI .u8 (aFa s_125)
 (λn_126=>exW .u32 n_126 (λn_127=>ckQ (aEd s_125) (exI .u8 (aDi s_125) (λn_128=>exW .u32 n_128 (λn_129=>exW .u32 (n_129*256) (λn_130=>exW .u32 (gW n_127 n_130) (λn_131=>ckQ (aFm s_125) (exI .u8 (aD3
 s_125) (λn_132=>exW .u32 n_132 (λn_133=>exW .u32 (n_133*65536) (λn_134=>exW .u32 (gW n_131 n_134) (λn_135=>ckQ (lH s_125) (exI .u8 (aE8 s_125) (λn_136=>exW .u32 n_136 (λn_137=>exW .u32 (n_137 *
 16777216) (λn_138=>exW .u32 (gW n_135 n_138) (λn_139=>ckQ (Nat.ble 36 s_4.length&&aEg s_4) (exS (.str ((s_4.drop 36).take (s_4.length-36))) (λs_140=>ckQ (aEo s_140) (exI .u8 (aFa s_140) (λn_141=>exW .u32 n_141
 (λn_142=>ckQ (aEd s_140) (exI .u8 (aDi s_140) (λn_143=>exW .u32 n_143 (λn_144=>exW .u32 (n_144*256) (λn_145=>exW .u32 (gW n_142 n_145) (λn_146=>ckQ (aFm s_140) (exI .u8 (aD3 s_140) (λn_147=>exW .u32
 n_147 (λn_148=>exW .u32 (n_148*65536) (λn_149=>exW .u32 (gW n_146 n_149) (λn_150=>ckQ (lH s_140) (exI .u8 (aE8 s_140) (λn_151=>exW .u32 n_151 (λn_152=>exW .u32 (n_152*16777216) (λn_153=>exW .u32
 (gW n_150 n_153) (λn_154=>ckQ (Nat.ble 40 s_4.length&&aEg s_4) (exS (.str ((s_4.drop 40).take (s_4.length-40))) (λs_155=>ckQ (aEo s_155) (exI .u8 (aFa s_155) (λn_156=>exW .u32 n_156 (λn_157=>ckQ (aEd s_155)
 (exI .u8 (aDi s_155) (λn_158=>exW .u32 n_158 (λn_159=>exW .u32 (n_159*256) (λn_160=>exW .u32 (gW n_157 n_160) (λn_161=>ckQ (aFm s_155) (exI .u8 (aD3 s_155) (λn_162=>exW .u32 n_162 (λn_163=>exW .u32
 (n_163*65536) (λn_164=>exW .u32 (gW n_161 n_164) (λn_165=>ckQ (lH s_155) (exI .u8 (aE8 s_155) (λn_166=>exW .u32 n_166 (λn_167=>exW .u32 (n_167*16777216) (λn_168=>exW .u32 (gW n_165 n_168) (λn_169=>
 ckQ (Nat.ble 44 s_4.length&&aEg s_4) (exS (.str ((s_4.drop 44).take (s_4.length-44))) (λs_170=>ckQ (aEo s_170) (exI .u8 (aFa s_170) (λn_171=>exW .u32 n_171 (λn_172=>ckQ (aEd s_170) (exI .u8 (aDi s_170) (λn_173=>
 exW .u32 n_173 (λn_174=>exW .u32 (n_174*256) (λn_175=>exW .u32 (gW n_172 n_175) (λn_176=>ckQ (aFm s_170) (exI .u8 (aD3 s_170) (λn_177=>exW .u32 n_177 (λn_178=>exW .u32 (n_178*65536) (λn_179=>exW .u32
 (gW n_176 n_179) (λn_180=>ckQ (lH s_170) (exI .u8 (aE8 s_170) (λn_181=>exW .u32 n_181 (λn_182=>exW .u32 (n_182*16777216) (λn_183=>exW .u32 (gW n_180 n_183) (λn_184=>ckQ (Nat.ble 48 s_4.length&&aEg s_4)
 (exS (.str ((s_4.drop 48).take (s_4.length-48))) (λs_185=>ckQ (aEo s_185) (exI .u8 (aFa s_185) (λn_186=>exW .u32 n_186 (λn_187=>ckQ (aEd s_185) (exI .u8 (aDi s_185) (λn_188=>exW .u32 n_188 (λn_189=>exW .u32
 (n_189*256) (λn_190=>exW .u32 (gW n_187 n_190) (λn_191=>ckQ (aFm s_185) (exI .u8 (aD3 s_185) (λn_192=>exW .u32 n_192 (λn_193=>exW .u32 (n_193*65536) (λn_194=>exW .u32 (gW n_191 n_194) (λn_195=>ckQ
 (lH s_185) (exI .u8 (aE8 s_185) (λn_196=>exW .u32 n_196 (λn_197=>exW .u32 (n_197*16777216) (λn_198=>exW .u32 (gW n_195 n_198) (λn_199=>ckQ (Nat.ble 52 s_4.length&&aEg s_4) (exS (.str ((s_4.drop 52).take
 (s_4.length-52))) (λs_200=>ckQ (aEo s_200) (exI .u8 (aFa s_200) (λn_201=>exW .u32 n_201 (λn_202=>ckQ (aEd s_200) (exI .u8 (aDi s_200) (λn_203=>exW .u32 n_203 (λn_204=>exW .u32 (n_204*256) (λn_205=>exW
 .u32 (gW n_202 n_205) (λn_206=>ckQ (aFm s_200) (exI .u8 (aD3 s_200) (λn_207=>exW .u32 n_207 (λn_208=>exW .u32 (n_208*65536) (λn_209=>exW .u32 (gW n_206 n_209) (λn_210=>ckQ (lH s_200) (exI .u8 (aE8
 s_200) (λn_211=>exW .u32 n_211 (λn_212=>exW .u32 (n_212*16777216) (λn_213=>exW .u32 (gW n_210 n_213) (λn_214=>ckQ (Nat.ble 56 s_4.length&&aEg s_4) (exS (.str ((s_4.drop 56).take (s_4.length-56))) (λs_215=>
 ckQ (aEo s_215) (exI .u8 (aFa s_215) (λn_216=>exW .u32 n_216 (λn_217=>ckQ (aEd s_215) (exI .u8 (aDi s_215) (λn_218=>exW .u32 n_218 (λn_219=>exW .u32 (n_219*256) (λn_220=>exW .u32 (gW n_217 n_220) (λn_221
 => ckQ (aFm s_215) (exI .u8 (aD3 s_215) (λn_222=>exW .u32 n_222 (λn_223=>exW .u32 (n_223*65536) (λn_224=>exW .u32 (gW n_221 n_224) (λn_225=>ckQ (lH s_215) (exI .u8 (aE8 s_215) (λn_226=>exW .u32 n_226 (fun
 n_227=>exW .u32 (n_227*16777216) (λn_228=>exW .u32 (gW n_225 n_228) (λn_229=>ckQ (Nat.ble 60 s_4.length&&aEg s_4) (exS (.str ((s_4.drop 60).take (s_4.length-60))) (λs_230=>ckQ (aEo s_230) (exI .u8 (aFa s_230)
 (λn_231=>exW .u32 n_231 (λn_232=>ckQ (aEd s_230) (exI .u8 (aDi s_230) (λn_233=>exW .u32 n_233 (λn_234=>exW .u32 (n_234*256) (λn_235=>exW .u32 (gW n_232 n_235) (λn_236=>ckQ (aFm s_230) (exI .u8 (aD3
 s_230) (λn_237=>exW .u32 n_237 (λn_238=>exW .u32 (n_238*65536) (λn_239=>exW .u32 (gW n_236 n_239) (λn_240=>ckQ (lH s_230) (exI .u8 (aE8 s_230) (λn_241=>exW .u32 n_241 (λn_242=>exW .u32 (n_242 *
 16777216) (λn_243=>exW .u32 (gW n_240 n_243) (λn_244=>∃w_245:W16,Lf ([AV.int .u32 n_19,.int .u32 n_34,.int .u32 n_49,.int .u32 n_64,.int .u32 n_79,.int .u32 n_94,.int .u32 n_109,.int .u32 n_124,.int .u32 n_139,.int
 .u32 n_154,.int .u32 n_169,.int .u32 n_184,.int .u32 n_199,.int .u32 n_214,.int .u32 n_229,.int .u32 n_244]=[AV.int .u32 (w_245.1:Int),.int .u32 (w_245.2:Int),.int .u32 (w_245.3:Int),.int .u32 (w_245.4:Int),.int .u32
 (w_245.5:Int),.int .u32 (w_245.6:Int),.int .u32 (w_245.7:Int),.int .u32 (w_245.8:Int),.int .u32 (w_245.9:Int),.int .u32 (w_245.10:Int),.int .u32 (w_245.11:Int),.int .u32 (w_245.12:Int),.int .u32 (w_245.13:Int),
 .int .u32 (w_245.14:Int),.int .u32 (w_245.15:Int),.int .u32 (w_245.16:Int)])∧∀l_246:List Nat,Lf (l_246=aWf w_245 c)->ckQ (Nat.beq (aX l_246).length 64&&eH (aX l_246)&&true) (ckQ (Nat.beq (bP4
 l_246).length 64&&true) (ckQ (Nat.beq (bP4 l_246).length 64&&true&&true&&fU (((bP4 l_246).drop 0).take 64)) (exS (.str (List.map toB (((bP4 l_246).drop 0).take 64))) (λs_247=>Q (.ret (.tup [.str s_247,.int .i64 0])) []
 {}))))))))))))))))))))))))))))))))))))))))))))))))))))))))))))))))))))))))))))))))))))))))))))))))))))))))))))))))))))))))))))))))))))))))))))))))))))))))))))))))))))))))))))))))))))))))))))))))))))))))))))))))))))))))))))))))))))))))))))))))))))))))))))))))))))))))))))))))))))))))))))))))))))))))))))))))))))))))))))))))))))))))))
 else Q aTr [] {}else Q aTr [] {}else Q aTr [] {})else Q aTr [] {})):=by kernel_rfl


def aHm:LA:=[101,120,112,97,110,100,32,51,50,45,98,121,116,101,32,107]
def aIy(key nonce:LA):LA:=((aHm++key)++[0,0,0,0])++nonce
def fD(key nonce:LA):W16:=
 let s:=aIy key nonce
 ⟨eY s 0,eY s 4,eY s 8,eY s 12,eY s 16,eY s 20,eY s 24,eY s 28,eY s 32,eY s 36,eY s 40,eY s 44,eY s 48,eY s 52,eY s 56,eY s 60⟩
def dR(key nonce:LA)(c:Int):Bool:=Nat.beq key.length 32&&Nat.beq nonce.length 12&&decide (0<=c)&&decide (c<4294967296)
def mP(key nonce:LA)(c:Int):LA×Int:=if dR key nonce c then((aWf (fD key nonce) c).map UInt8.ofNat,0)else([],2)
theorem aBb(w:W16)(c:Int):(aWf w c).length=64:=by simp[aWf,bUs,leW]

theorem kC(z cs:HB)(h:z.length<=cs.length):aN z 0 cs=cs:=by
 simp only[aN,bZ3,bX2,bY6]
 rw[bX9 h,bXs]
theorem bDb(l:List Nat):eH (aX l)=true:=by
 induction l with
 | nil=>rfl
 | cons x l ih=>simpa[aX,eH,one]using ih
theorem bHj(l:List Nat):fU (aX l)=true:=by
 induction l with
 | nil=>rfl
 | cons x l ih=>simpa[aX,fU]using ih
theorem bT2(l:List Nat):(aX l).map toB=l.map UInt8.ofNat:=by
 simp[aX,toB]

theorem aVb(key nonce:LA)(c:Int)(Q:BS)(hq:∀s e,mP key nonce c=(s,e)->Q (.ret (.tup [.str s,.int .i64 e])) [] {}):∃hv hb,aHd hv hb key nonce c Q:=by
 obtain⟨hv,hb',e⟩:∃hv hb,aHd hv hb key nonce c Q=_:=⟨_,_,bUr key nonce c Q⟩
 refine⟨hv,hb',e.mpr ?_⟩
 delta aEg aEo aFa aEd aDi gW aFm aD3 lH aE8 bP4 aTr
 clear e
 by_cases hr:dR key nonce c=true
 ·have hq':=hq _ _ (if_pos hr)
  simp only[dR,bW3,bS,bW6]at hr
  obtain⟨⟨⟨h1,h2⟩,h3⟩,h4⟩:=hr
  refine⟨_,rfl, ?_⟩
  rw[h1,h2]
  refine bJ (λ_=>⟨_,rfl,bJ (λ_=>aH (λ_=>aH (λ_ => ?_) (λh=>absurd h4 h)) (λh=>absurd h3 h)) (λh=>absurd rfl h)⟩) (λh=>absurd rfl h)
  have hl:(aIy key nonce).length=64:=by simp[aIy,aHm,h1,h2]
  obtain⟨s,hs⟩:∃s,aIy key nonce=s:=⟨_,rfl⟩
  have hf:fD key nonce=⟨eY s 0,eY s 4,eY s 8,eY s 12,eY s 16,eY s 20,eY s 24,eY s 28,eY s 32,eY s 36,eY s 40,eY s 44,eY s 48,eY s 52,eY s 56,eY s 60⟩:=by rw[fD,hs]
  refine ckI (by simp) ⟨_,rfl,ckI (by simp[h1]) ⟨_,rfl,ckI (by simp[h1]) ⟨s,by rw[←hs];rfl, ?_⟩⟩⟩
  rw[hs]at hl
  rw[hf]at hq'
  refine mU (m:=0) (by first | rfl | (simp[aD]<;>omega)) (by omega) ?_
  refine mU (m:=4) (by first | rfl | (simp[aD]<;>omega)) (by omega) ?_
  refine mU (m:=8) (by first | rfl | (simp[aD]<;>omega)) (by omega) ?_
  refine mU (m:=12) (by first | rfl | (simp[aD]<;>omega)) (by omega) ?_
  refine mU (m:=16) (by first | rfl | (simp[aD]<;>omega)) (by omega) ?_
  refine mU (m:=20) (by first | rfl | (simp[aD]<;>omega)) (by omega) ?_
  refine mU (m:=24) (by first | rfl | (simp[aD]<;>omega)) (by omega) ?_
  refine mU (m:=28) (by first | rfl | (simp[aD]<;>omega)) (by omega) ?_
  refine mU (m:=32) (by first | rfl | (simp[aD]<;>omega)) (by omega) ?_
  refine mU (m:=36) (by first | rfl | (simp[aD]<;>omega)) (by omega) ?_
  refine mU (m:=40) (by first | rfl | (simp[aD]<;>omega)) (by omega) ?_
  refine mU (m:=44) (by first | rfl | (simp[aD]<;>omega)) (by omega) ?_
  refine mU (m:=48) (by first | rfl | (simp[aD]<;>omega)) (by omega) ?_
  refine mU (m:=52) (by first | rfl | (simp[aD]<;>omega)) (by omega) ?_
  refine mU (m:=56) (by first | rfl | (simp[aD]<;>omega)) (by omega) ?_
  refine mU (m:=60) (by first | rfl | (simp[aD]<;>omega)) (by omega) ?_
  refine⟨⟨eY s 0,eY s 4,eY s 8,eY s 12,eY s 16,eY s 20,eY s 24,eY s 28,eY s 32,eY s 36,eY s 40,eY s 44,eY s 48,eY s 52,eY s 56,eY s 60⟩,⟨rfl⟩,λl hl2 => ?_⟩
  have hll:l.length=64:=by rw[hl2.h];exact aBb _ _
  have hcl:(aX l).length=64:=by simp[aX,hll]
  rw[kC _ _ (by rw[hcl];simp)]
  have ht:List.take 64 (List.drop 0 (aX l))=aX l:=by rw[bXl,bW4 (by omega)]
  rw[←hl2.h]at hq'
  clear hl2
  rw[ht,bT2]
  exact ckI (by rw[hcl,bDb];rfl) (ckI (by rw[hcl];rfl) (ckI (by rw[hcl,bHj];rfl) ⟨_,rfl,hq'⟩))
 ·have hq':=hq _ _ (if_neg hr)
  simp only[dR,bW3,bS,bW6]at hr
  refine⟨_,rfl,bJ (λh1=>⟨_,rfl,bJ (λh2=>aH (λh3=>aH (λh4 => ?_) (λ_=>hq')) (λ_=>hq')) (λ_=>hq')⟩) (λ_=>hq')⟩
  exact absurd ⟨⟨⟨by omega,by omega⟩,by omega⟩,by omega⟩ hr

def aE7:Con
 | [.str key,.str nonce,.int .i64 c],H,K=>∀s e,Lf (mP key nonce c=(s,e))->K (.ret (.tup [.str s,.int .i64 e])) H
 | _,_,_=>False
theorem aAz:aI Tryz.prog gl0 165 aE7:=by
 refine aQ (enters_of (by kernel_rfl)) aO λargs H Q hc => ?_
 unfold aE7 at hc
 split at hc
 ·rename_i key nonce c
  obtain⟨hv,hb',h⟩:=aVb key nonce c (Q:=λo H' _=>H'=[]∧(∃v,o=.ret v∧old 0 v=true∧noY v=true)∧Q o H) (λs e he=>⟨rfl,⟨_,rfl,rfl,rfl⟩,hc s e ⟨he⟩⟩)
  exact⟨rfl,rfl,_,1000,aS bLp _ _ _,rfl,h⟩
 ·exact hc.elim
end Go.Proofs.YtnhechnaemmdiaaGreatDoor
