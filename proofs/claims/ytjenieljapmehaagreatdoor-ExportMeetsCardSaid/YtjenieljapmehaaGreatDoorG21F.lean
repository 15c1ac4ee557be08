/-
  Chapter 18: the program's mix.
-/
import Derived.Test.YtjenieljapmehaaGreatDoorG21E
set_option linter.unusedSimpArgs false
set_option linter.unusedVariables false
set_option linter.unusedSectionVars false
namespace Go.Proofs.YtjenieljapmehaaGreatDoor
open Go.RowKit
set_option maxRecDepth 1000000

structure W8 where
 a:Nat
 b:Nat
 c:Nat
 d:Nat
 e:Nat
 f:Nat
 g:Nat
 h:Nat
def andW (x y:Nat):Nat:=(x%4294967296) &&& (y%4294967296)
def notW (x:Nat):Nat:=4294967295 ^^^ (x%4294967296)
def x3W (x y z:Nat):Nat:=xorW (xorW x y) z
def oneW (k w:Nat) (v:W8):Nat:=addW (addW (addW (addW v.h (x3W (rotW 26 v.e) (rotW 21 v.e) (rotW 7 v.e))) (xorW (andW v.e v.f) (andW (notW v.e) v.g))) k) w
def twoW (v:W8):Nat:=addW (x3W (rotW 30 v.a) (rotW 19 v.a) (rotW 10 v.a)) (x3W (andW v.a v.b) (andW v.a v.c) (andW v.b v.c))
def rndW (k w:Nat) (v:W8):W8:=⟨addW (oneW k w v) (twoW v),v.a,v.b,v.c,addW v.d (oneW k w v),v.e,v.f,v.g⟩
def rndsM (k w:List Nat):Nat→W8→W8
 | 0,v=>v
 | t+1,v=>rndW (k.getD t 0) (w.getD t 0) (rndsM k w t v)
def be4W (b:List UInt8) (i:Nat):Nat:=(((b.getD i 0).toNat*256+(b.getD (i+1) 0).toNat)*256+(b.getD (i+2) 0).toNat)*256+(b.getD (i+3) 0).toNat
def nextW (w:List Nat) (t:Nat):Nat:=addW (addW (addW (w.getD (t-16) 0) (w.getD (t-7) 0)) (x3W (rotW 25 (w.getD (t-15) 0)) (rotW 14 (w.getD (t-15) 0)) (w.getD (t-15) 0/8))) (x3W (rotW 15 (w.getD (t-2) 0)) (rotW 13 (w.getD (t-2) 0)) (w.getD (t-2) 0/1024))
def schM (b:List UInt8):Nat→List Nat
 | 0=>[]
 | t+1=>schM b t++[if t<16 then be4W b (4*t) else nextW (schM b t) t]
def addsM (v u:W8):W8:=⟨addW v.a u.a,addW v.b u.b,addW v.c u.c,addW v.d u.d,addW v.e u.e,addW v.f u.f,addW v.g u.g,addW v.h u.h⟩
def hashM (k:List Nat) (v:W8) (b:List UInt8):W8:=addsM v (rndsM k (schM b 64) 64 v)
def mixM (k:List Nat):Nat→W8→List UInt8→W8
 | 0,v,_=>v
 | f+1,v,s=>if 64≤s.length then mixM k f (hashM k v (s.take 64)) (s.drop 64) else v
abbrev cel8 (v:W8):List AV:=[.int .u32 (v.a:Int),.int .u32 (v.b:Int),.int .u32 (v.c:Int),.int .u32 (v.d:Int),.int .u32 (v.e:Int),.int .u32 (v.f:Int),.int .u32 (v.g:Int),.int .u32 (v.h:Int)]
def celT (v:W8) (t:List UInt8) (n:Int):List AV:=[.int .u32 (v.a:Int),.int .u32 (v.b:Int),.int .u32 (v.c:Int),.int .u32 (v.d:Int),.int .u32 (v.e:Int),.int .u32 (v.f:Int),.int .u32 (v.g:Int),.int .u32 (v.h:Int),.str t,.int .i64 n]
abbrev okW8 (v:W8):Prop:=v.a<4294967296∧v.b<4294967296∧v.c<4294967296∧v.d<4294967296∧v.e<4294967296∧v.f<4294967296∧v.g<4294967296∧v.h<4294967296
def smX:SM:=lookS [(149,cRot)]
theorem smX_ok:∀f g,smX f=some g→ValidF Tryz.prog gl0 f g:=lookS_ok _ (by simp only[List.mem_cons,List.not_mem_nil,or_false,forall_eq];exact rot_ok)
def unI:AV→Nat
 | .int _ n=>n.toNat
 | _=>0
def wsM (l:List AV):List Nat:=l.map unI
def inv_162 (v0:W8) (t:List UInt8) (n:Int) (s0:List UInt8) (ks:List Nat) (s:S):List (List LInv):=match s.hp with
 | [⟨k0,f0,_⟩,b1,b2,⟨k3,f3,_⟩]=>[[{ α:=W8×List UInt8,pre:=fun x=>Lf (okW8 x.1∧x.2.length≤s0.length∧mixM ks (x.2.length/64) x.1 x.2=mixM ks (s0.length/64) v0 s0),st:=fun x=>⟨mkT [(0,s.tm.get 0),(1,s.tm.get 1)],[⟨k0,f0,celT x.1 t n⟩,b1,b2,⟨k3,f3,[.str x.2]⟩]⟩,mu:=fun x=>x.2.length }]]
 | _=>[]
def inv_154a (s:S):List (List LInv):=match s.hp,s.tm.get 6 with
 | [b0,b1,b2,b3,⟨k,f,_⟩],.str b=>[[{ α:=Nat×List Nat,pre:=fun x=>Lf (x.1≤64∧x.2.length=64∧x.2.take x.1=schM b x.1),st:=fun x=>⟨mkT [(3,s.tm.get 3),(5,s.tm.get 5),(6,s.tm.get 6),(7,s.tm.get 7),(22,.int .i64 (x.1:Nat))],[b0,b1,b2,b3,⟨k,f,cells32M x.2⟩]⟩,mu:=fun x=>64-x.1 }]]
 | _,_=>[]
def inv_154b (ks:List Nat) (s:S):List (List LInv):=match s.hp with
 | [⟨k0,f0,[.int p0 a,.int p1 b,.int p2 c,.int p3 d,.int p4 e,.int p5 f,.int p6 g,.int p7 h,x8,x9]⟩,b1,b2,b3,⟨k4,f4,cs⟩,⟨k5,f5,_⟩]=>
  [[{ α:=Nat×W8,pre:=fun x=>Lf (x.1≤64∧okW8 x.2∧x.2=rndsM ks (wsM cs) x.1 ⟨a.toNat,b.toNat,c.toNat,d.toNat,e.toNat,f.toNat,g.toNat,h.toNat⟩),st:=fun x=>⟨mkT [(3,s.tm.get 3),(5,s.tm.get 5),(7,s.tm.get 7),(12,s.tm.get 12),(97,.int .i64 (x.1:Nat))],[⟨k0,f0,[.int p0 a,.int p1 b,.int p2 c,.int p3 d,.int p4 e,.int p5 f,.int p6 g,.int p7 h,x8,x9]⟩,b1,b2,b3,⟨k4,f4,cs⟩,⟨k5,f5,cel8 x.2⟩]⟩,mu:=fun x=>64-x.1 }]]
 | _=>[]
noncomputable def env_154 (hv:Nat→Option Pa) (hb:Nat→Option Bool) (v0:W8) (t:List UInt8) (n:Int) (s0:List UInt8) (ks:List Nat):Env:=e18 smX (fun i=>bif Nat.beq i 162000 then some (inv_162 v0 t n s0 ks) else bif Nat.beq i 140002 then some inv_154a else bif Nat.beq i 140004 then some (inv_154b ks) else none) hv hb
noncomputable def goal_154 (hv:Nat→Option Pa) (hb:Nat→Option Bool) (v:W8) (t:List UInt8) (n:Int) (s:List UInt8) (ks:List Nat) (Q:Out→List Blk→Gh→Prop):Prop:=
 callx (env_154 hv hb v t n s ks) (wpx (env_154 hv hb v t n s ks) 1000) 140 [.ptr 0 10 0,.str s,.agg (cells32M ks)] [⟨.exact,true,celT v t n⟩] {} Q
def vc_154_1 (s:List UInt8) (ks:List Nat):Prop:=(
((((Lp.mk (0:Nat) (T.n (T.n (T.n T.e (AV.ptr (1:Nat) (1:Nat) (0:Nat)) (T.n (T.n T.e (AV.str s) T.e) AV.undef T.e)) (AV.str s) (T.n T.e (AV.ptr (2:Nat) (List.length (cells32M ks)) (0:Nat)) T.e)) (AV.ptr (0:Nat) (10:Nat) (0:Nat)) (T.n (T.n T.e AV.undef (T.n (T.n T.e (AV.fn (Fn.func (162:Nat)) [] ((AV.ptr (3:Nat) (1:Nat) (0:Nat))::[])) T.e) AV.undef T.e)) (AV.agg (cells32M ks)) T.e)) ((21:Nat)::[]) (rfA fn140.body) (rfB fn140.body) Lst.busy (140:Nat))::[])=((Lp.mk (0:Nat) (T.n (T.n (T.n T.e (AV.ptr (1:Nat) (1:Nat) (0:Nat)) (T.n (T.n T.e (AV.str s) T.e) AV.undef T.e)) (AV.str s) (T.n T.e (AV.ptr (2:Nat) (List.length (cells32M ks)) (0:Nat)) T.e)) (AV.ptr (0:Nat) (10:Nat) (0:Nat)) (T.n (T.n T.e AV.undef (T.n (T.n T.e (AV.fn (Fn.func (162:Nat)) [] ((AV.ptr (3:Nat) (1:Nat) (0:Nat))::[])) T.e) AV.undef T.e)) (AV.agg (cells32M ks)) T.e)) ((21:Nat)::[]) (rfA fn140.body) (rfB fn140.body) Lst.busy (140:Nat))::[])) ∧
 ((1:Nat)=(1:Nat))))
theorem vc_154 (v:W8) (t:List UInt8) (n:Int) (s:List UInt8) (ks:List Nat) (Q:Out→List Blk→Gh→Prop):goal_154 (lookV [(663556,.int .i64),(663562,.str),(573464,.int .i64),(573469,.int .i64),(573471,.int .i64),
 (573472,.int .i64),(573473,.str),(573476,.int .u8),(573477,.int .u32),(573478,.int .u32),(573480,.int .u8),(573481,.int .u32),(573482,.int .u32),(573483,.int .u32),(573485,.int .u8),(573486,.int .u32),(573487,.int
 .u32),(573488,.int .u32),(573490,.int .u8),(573491,.int .u32),(573492,.int .u32),(573531,.int .i64),(573495,.int .i64),(573497,.int .u32),(573499,.int .i64),(573501,.int .u32),(573504,.int .i64),(573506,.int .u32),
 (573508,.int .i64),(573510,.int .u32),(573511,.int .u32),(573518,.int .u32),(573527,.int .u32),(573513,.int .u32),(573515,.int .u32),(573516,.int .u32),(573519,.int .u32),(573520,.int .u32),(573522,.int .u32),(573524,
 .int .u32),(573525,.int .u32),(573528,.int .u32),(573529,.int .u32),(573536,.agg [(.int .u32),(.int .u32),(.int .u32),(.int .u32),(.int .u32),(.int .u32),(.int .u32),(.int .u32)]),(573539,.int .i64),(573541,.int .u32),
 (573543,.int .u32),(573545,.int .u32),(573557,.int .u32),(573558,.int .u32),(573560,.int .u32),(573562,.int .u32),(573563,.int .u32),(573564,.int .u32),(573568,.int .u32),(573572,.int .u32),(573547,.int .u32),(573549,
 .int .u32),(573550,.int .u32),(573552,.int .u32),(573553,.int .u32),(573554,.int .u32),(573565,.int .u32),(573569,.int .u32),(573573,.int .u32),(573584,.int .u32),(573585,.int .u32),(573588,.int .u32),(573589,.int
 .u32),(573590,.int .u32),(573592,.int .u32),(573594,.int .u32),(573595,.int .u32),(573596,.int .u32),(573575,.int .u32),(573577,.int .u32),(573578,.int .u32),(573580,.int .u32),(573581,.int .u32),(573597,.int .u32),
 (573600,.int .u32),(573602,.int .u32),(573604,.int .u32),(573606,.int .u32),(573608,.int .u32),(573610,.int .u32),(573612,.int .u32),(573614,.int .u32),(573616,.int .u32),(573618,.int .i64),(573628,.int .u32),(573631,
 .int .u32),(573632,.int .u32),(663559,.str)]) (lookB [(1573448192,true),(1573456384,true),(1573464576,true),(1663552000,true),(667646,true)]) v t n s ks Q=((∃x_0:W8×List UInt8,Lf (okW8 x_0.1∧x_0.2.length≤s.length ∧
 mixM ks (x_0.2.length/64) x_0.1 x_0.2=mixM ks (s.length/64) v s)∧[AV.int .u32 (v.1:Int),.int .u32 (v.2:Int),.int .u32 (v.3:Int),.int .u32 (v.4:Int),.int .u32 (v.5:Int),.int .u32 (v.6:Int),.int .u32 (v.7:Int),
 .int .u32 (v.8:Int),.str t,.int .i64 n]=[AV.int .u32 (x_0.1.1:Int),.int .u32 (x_0.1.2:Int),.int .u32 (x_0.1.3:Int),.int .u32 (x_0.1.4:Int),.int .u32 (x_0.1.5:Int),.int .u32 (x_0.1.6:Int),.int .u32 (x_0.1.7:Int),
 .int .u32 (x_0.1.8:Int),.str t,.int .i64 n]∧eqqQ [AV.ptr 0 10 0]∧ckQ (oldL 0 (cells32M ks)==oldL 0 (cells32M ks)) (eqqQ (cells32M ks)∧[AV.str s]=[AV.str x_0.2]∧eqqQ (AV.yld 0)∧eqqQ (AV.ptr 3 1 0)∧True))∧∀x_0:W8 ×
 List UInt8,Lf (okW8 x_0.1∧x_0.2.length≤s.length∧mixM ks (x_0.2.length/64) x_0.1 x_0.2=mixM ks (s.length/64) v s)→exI .i64 (x_0.2.length:Int) fun n_1=>bif decide (n_1≥64) then ckQ (Nat.ble 64 x_0.2.length) (exS (.str
 ((x_0.2.drop 0).take 64)) fun s_2=>(∃x_3:Nat×List Nat,Lf (x_3.1≤64∧x_3.2.length=64∧x_3.2.take x_3.1=schM s_2 x_3.1)∧eqqQ [AV.int .u32 (x_0.1.1:Int),.int .u32 (x_0.1.2:Int),.int .u32 (x_0.1.3:Int),.int .u32
 (x_0.1.4:Int),.int .u32 (x_0.1.5:Int),.int .u32 (x_0.1.6:Int),.int .u32 (x_0.1.7:Int),.int .u32 (x_0.1.8:Int),.str t,.int .i64 n]∧eqqQ [AV.ptr 0 10 0]∧ckQ (oldL 0 (cells32M ks)==oldL 0 (cells32M ks)) (eqqQ (cells32M
 ks)∧eqqQ [AV.str x_0.2]∧[AV.int .u32 0,.int .u32 0,.int .u32 0,.int .u32 0,.int .u32 0,.int .u32 0,.int .u32 0,.int .u32 0,.int .u32 0,.int .u32 0,.int .u32 0,.int .u32 0,.int .u32 0,.int .u32 0,.int .u32 0,.int .u32 0,
 .int .u32 0,.int .u32 0,.int .u32 0,.int .u32 0,.int .u32 0,.int .u32 0,.int .u32 0,.int .u32 0,.int .u32 0,.int .u32 0,.int .u32 0,.int .u32 0,.int .u32 0,.int .u32 0,.int .u32 0,.int .u32 0,.int .u32 0,.int .u32 0,.int
 .u32 0,.int .u32 0,.int .u32 0,.int .u32 0,.int .u32 0,.int .u32 0,.int .u32 0,.int .u32 0,.int .u32 0,.int .u32 0,.int .u32 0,.int .u32 0,.int .u32 0,.int .u32 0,.int .u32 0,.int .u32 0,.int .u32 0,.int .u32 0,.int .u32
 0,.int .u32 0,.int .u32 0,.int .u32 0,.int .u32 0,.int .u32 0,.int .u32 0,.int .u32 0,.int .u32 0,.int .u32 0,.int .u32 0,.int .u32 0]=cells32M x_3.2∧eqqQ (AV.ptr 1 1 0)∧eqqQ (AV.ptr 4 64 0)∧eqqQ (AV.ptr 2 (cells32M
 ks).length 0)∧eqqQ (AV.str s_2)∧AV.int .i64 0=AV.int .i64 (x_3.1:Int)∧True))∧∀x_3:Nat×List Nat,Lf (x_3.1≤64∧x_3.2.length=64∧x_3.2.take x_3.1=schM s_2 x_3.1)→bif decide ((x_3.1:Int)<64) then exI .i64 (x_3.1
 : Int) fun n_4=>bif decide (n_4<16) then exW .i64 (4*n_4) fun n_5=>exW .i64 (4*n_4) fun n_6=>exW .i64 (n_6+4) fun n_7=>ckQ (decide (0≤n_5)&&decide (0≤n_7)&&Nat.ble n_5.toNat n_7.toNat&&Nat.ble n_7.toNat
 s_2.length) (exS (.str ((s_2.drop n_5.toNat).take (n_7.toNat-n_5.toNat))) fun s_8=>ckQ (Nat.blt 0 s_8.length) (exI .u8 (UInt8.toNat (s_8.getD 0 (UInt8.ofNat 0)):Int) fun n_9=>exW .u32 n_9 fun n_10=>exW .u32 (n_10*16777216) fun
 n_11=>ckQ (Nat.blt 1 s_8.length) (exI .u8 (UInt8.toNat (s_8.getD 1 (UInt8.ofNat 0)):Int) fun n_12=>exW .u32 n_12 fun n_13=>exW .u32 (n_13*65536) fun n_14=>exW .u32 (((n_11%4294967296).toNat ||| (n_14%4294967296).toNat :
 Nat):Int) fun n_15=>ckQ (Nat.blt 2 s_8.length) (exI .u8 (UInt8.toNat (s_8.getD 2 (UInt8.ofNat 0)):Int) fun n_16=>exW .u32 n_16 fun n_17=>exW .u32 (n_17*256) fun n_18=>exW .u32 (((n_15%4294967296).toNat ||| (n_18 %
 4294967296).toNat:Nat):Int) fun n_19=>ckQ (Nat.blt 3 s_8.length) (exI .u8 (UInt8.toNat (s_8.getD 3 (UInt8.ofNat 0)):Int) fun n_20=>exW .u32 n_20 fun n_21=>exW .u32 (((n_19%4294967296).toNat ||| (n_21%4294967296).toNat :
 Nat):Int) fun n_22=>ckQ (decide (0≤n_4)&&Nat.blt n_4.toNat 64&&Nat.beq (cells32M x_3.2).length 64) (ckQ (Nat.beq (cells32M x_3.2).length 64&&Nat.ble (0+n_4.toNat*1+1) 64&&true&&true&&true) (exW .i64 ((x_3.1:Int) +
 1) fun n_23=>((oldL 0 (cells32M ks)||oldL 5 (cells32M ks))&&true)=true∧vc_154_1 s ks∧∃y_24:Nat×List Nat,Lf (y_24.1≤64∧y_24.2.length=64∧y_24.2.take y_24.1=schM s_2 y_24.1)∧64-y_24.1<64-x_3.1∧eqqQ
 [AV.int .u32 (x_0.1.1:Int),.int .u32 (x_0.1.2:Int),.int .u32 (x_0.1.3:Int),.int .u32 (x_0.1.4:Int),.int .u32 (x_0.1.5:Int),.int .u32 (x_0.1.6:Int),.int .u32 (x_0.1.7:Int),.int .u32 (x_0.1.8:Int),.str t,.int .i64 n]
 ∧ eqqQ [AV.ptr 0 10 0]∧ckQ (oldL 0 (cells32M ks)==oldL 0 (cells32M ks)) (eqqQ (cells32M ks)∧eqqQ [AV.str x_0.2]∧setRange (cells32M x_3.2) (0+n_4.toNat*1) [.int .u32 n_22]=cells32M y_24.2∧eqqQ (AV.ptr 1 1 0)∧eqqQ (AV.ptr 4
 64 0)∧eqqQ (AV.ptr 2 (cells32M ks).length 0)∧eqqQ (AV.str s_2)∧AV.int .i64 n_23=AV.int .i64 (y_24.1:Int)∧True)))))))) else exW .i64 (n_4-15) fun n_5=>ckQ (decide (0≤n_5)&&Nat.blt n_5.toNat 64&&Nat.beq (cells32M
 x_3.2).length 64) (ckQ (Nat.beq (cells32M x_3.2).length 64&&Nat.blt (0+n_5.toNat*1) 64) (exV .u32 ((((cells32M x_3.2).drop (0+n_5.toNat*1)).take 1).getD 0 AV.undef) fun n_6=>exW .i64 (n_4-2) fun n_7=>ckQ (decide (0≤n_7)
 && Nat.blt n_7.toNat 64&&Nat.beq (cells32M x_3.2).length 64) (ckQ (Nat.beq (cells32M x_3.2).length 64&&Nat.blt (0+n_7.toNat*1) 64) (exV .u32 ((((cells32M x_3.2).drop (0+n_7.toNat*1)).take 1).getD 0 AV.undef) fun n_8=>exW .i64
 (n_4-16) fun n_9=>ckQ (decide (0≤n_9)&&Nat.blt n_9.toNat 64&&Nat.beq (cells32M x_3.2).length 64) (ckQ (Nat.beq (cells32M x_3.2).length 64&&Nat.blt (0+n_9.toNat*1) 64) (exV .u32 ((((cells32M x_3.2).drop (0+n_9.toNat *
 1)).take 1).getD 0 AV.undef) fun n_10=>exW .i64 (n_4-7) fun n_11=>ckQ (decide (0≤n_11)&&Nat.blt n_11.toNat 64&&Nat.beq (cells32M x_3.2).length 64) (ckQ (Nat.beq (cells32M x_3.2).length 64&&Nat.blt (0+n_11.toNat*1) 64)
 (exV .u32 ((((cells32M x_3.2).drop (0+n_11.toNat*1)).take 1).getD 0 AV.undef) fun n_12=>exW .u32 (n_10+n_12) fun n_13=>exI .u32 (Int.fdiv n_6 8) fun n_14=>exI .u32 (Int.fdiv n_8 1024) fun n_15=>∃n_16:Nat,Lf (n_6=(n_16 :
 Int)∧n_16<4294967296∧rotOk (Int.negSucc 6))∧∀r_17:Nat,Lf (r_17=rotW (32+Int.negSucc 6).toNat n_16)→ckQ (eqAVL (((cells32M x_3.2).drop (0+n_11.toNat*1)).take 1) (((cells32M x_3.2).drop (0+n_11.toNat*1)).take 1) &&
 Option.some ((cells32M x_3.2).length+1)==Option.some ((cells32M x_3.2).length+1)) (ckQ (Option.some ((cells32M x_3.2).length+1)==Option.some ((cells32M x_3.2).length+1)) (ckQ (eqAVL (((cells32M x_3.2).drop (0+n_9.toNat *
 1)).take 1) (((cells32M x_3.2).drop (0+n_9.toNat*1)).take 1)&&Option.some ((cells32M x_3.2).length+1)==Option.some ((cells32M x_3.2).length+1)) (ckQ (Option.some ((cells32M x_3.2).length+1)==Option.some ((cells32M
 x_3.2).length+1)) (exI .u32 (r_17:Int) fun n_18=>∃n_19:Nat,Lf (n_6=(n_19:Int)∧n_19<4294967296∧rotOk (Int.negSucc 17))∧∀r_20:Nat,Lf (r_20=rotW (32+Int.negSucc 17).toNat n_19)→ckQ (eqAVL (((cells32M
 x_3.2).drop (0+n_11.toNat*1)).take 1) (((cells32M x_3.2).drop (0+n_11.toNat*1)).take 1)&&Option.some ((cells32M x_3.2).length+1)==Option.some ((cells32M x_3.2).length+1)) (ckQ (Option.some ((cells32M x_3.2).length+1) ==
 Option.some ((cells32M x_3.2).length+1)) (ckQ (eqAVL (((cells32M x_3.2).drop (0+n_9.toNat*1)).take 1) (((cells32M x_3.2).drop (0+n_9.toNat*1)).take 1)&&Option.some ((cells32M x_3.2).length+1)==Option.some ((cells32M
 x_3.2).length+1)) (ckQ (Option.some ((cells32M x_3.2).length+1)==Option.some ((cells32M x_3.2).length+1)) (exI .u32 (r_20:Int) fun n_21=>exW .u32 (((n_18%4294967296).toNat ^^^ (n_21%4294967296).toNat:Nat):Int) fun n_22
 => exW .u32 (((n_22%4294967296).toNat ^^^ (n_14%4294967296).toNat:Nat):Int) fun n_23=>exW .u32 (n_13+n_23) fun n_24=>∃n_25:Nat,Lf (n_8=(n_25:Int)∧n_25<4294967296∧rotOk (Int.negSucc 16))∧∀r_26:Nat,Lf (r_26
 = rotW (32+Int.negSucc 16).toNat n_25)→ckQ (eqAVL (((cells32M x_3.2).drop (0+n_11.toNat*1)).take 1) (((cells32M x_3.2).drop (0+n_11.toNat*1)).take 1)&&Option.some ((cells32M x_3.2).length+1)==Option.some ((cells32M
 x_3.2).length+1)) (ckQ (Option.some ((cells32M x_3.2).length+1)==Option.some ((cells32M x_3.2).length+1)) (ckQ (eqAVL (((cells32M x_3.2).drop (0+n_9.toNat*1)).take 1) (((cells32M x_3.2).drop (0+n_9.toNat*1)).take 1) &&
 Option.some ((cells32M x_3.2).length+1)==Option.some ((cells32M x_3.2).length+1)) (ckQ (Option.some ((cells32M x_3.2).length+1)==Option.some ((cells32M x_3.2).length+1)) (exI .u32 (r_26:Int) fun n_27=>∃n_28:Nat,Lf (n_8
 = (n_28:Int)∧n_28<4294967296∧rotOk (Int.negSucc 18))∧∀r_29:Nat,Lf (r_29=rotW (32+Int.negSucc 18).toNat n_28)→ckQ (eqAVL (((cells32M x_3.2).drop (0+n_11.toNat*1)).take 1) (((cells32M x_3.2).drop (0+n_11.toNat *
 1)).take 1)&&Option.some ((cells32M x_3.2).length+1)==Option.some ((cells32M x_3.2).length+1)) (ckQ (Option.some ((cells32M x_3.2).length+1)==Option.some ((cells32M x_3.2).length+1)) (ckQ (eqAVL (((cells32M x_3.2).drop (0 +
 n_9.toNat*1)).take 1) (((cells32M x_3.2).drop (0+n_9.toNat*1)).take 1)&&Option.some ((cells32M x_3.2).length+1)==Option.some ((cells32M x_3.2).length+1)) (ckQ (Option.some ((cells32M x_3.2).length+1)==Option.some
 ((cells32M x_3.2).length+1)) (exI .u32 (r_29:Int) fun n_30=>exW .u32 (((n_27%4294967296).toNat ^^^ (n_30%4294967296).toNat:Nat):Int) fun n_31=>exW .u32 (((n_31%4294967296).toNat ^^^ (n_15%4294967296).toNat:Nat):Int)
 fun n_32=>exW .u32 (n_24+n_32) fun n_33=>ckQ (decide (0≤n_4)&&Nat.blt n_4.toNat 64&&Nat.beq (cells32M x_3.2).length 64) (ckQ (Nat.beq (cells32M x_3.2).length 64&&Nat.ble (0+n_4.toNat*1+1) 64&&true&&true&&true)
 (exW .i64 ((x_3.1:Int)+1) fun n_34=>((oldL 0 (cells32M ks)||oldL 5 (cells32M ks))&&true)=true∧vc_154_1 s ks∧∃y_35:Nat×List Nat,Lf (y_35.1≤64∧y_35.2.length=64∧y_35.2.take y_35.1=schM s_2 y_35.1)∧64-y_35.1
 < 64-x_3.1∧eqqQ [AV.int .u32 (x_0.1.1:Int),.int .u32 (x_0.1.2:Int),.int .u32 (x_0.1.3:Int),.int .u32 (x_0.1.4:Int),.int .u32 (x_0.1.5:Int),.int .u32 (x_0.1.6:Int),.int .u32 (x_0.1.7:Int),.int .u32 (x_0.1.8:Int),
 .str t,.int .i64 n]∧eqqQ [AV.ptr 0 10 0]∧ckQ (oldL 0 (cells32M ks)==oldL 0 (cells32M ks)) (eqqQ (cells32M ks)∧eqqQ [AV.str x_0.2]∧setRange (cells32M x_3.2) (0+n_4.toNat*1) [.int .u32 n_33]=cells32M y_35.2∧eqqQ (AV.ptr 1
 1 0)∧eqqQ (AV.ptr 4 64 0)∧eqqQ (AV.ptr 2 (cells32M ks).length 0)∧eqqQ (AV.str s_2)∧AV.int .i64 n_34=AV.int .i64 (y_35.1:Int)∧True))))))))))))))))))))))))))) else ∃n_4 n_5 n_6 n_7 n_8 n_9 n_10 n_11,AV.agg [.int .u32 (x_0.1.1
 : Int),.int .u32 (x_0.1.2:Int),.int .u32 (x_0.1.3:Int),.int .u32 (x_0.1.4:Int),.int .u32 (x_0.1.5:Int),.int .u32 (x_0.1.6:Int),.int .u32 (x_0.1.7:Int),.int .u32 (x_0.1.8:Int)]=AV.agg [.int .u32 n_4,.int .u32 n_5,
 .int .u32 n_6,.int .u32 n_7,.int .u32 n_8,.int .u32 n_9,.int .u32 n_10,.int .u32 n_11]∧(∃x_12:Nat×W8,Lf (x_12.1≤64∧okW8 x_12.2∧x_12.2=rndsM ks (wsM (cells32M x_3.2)) x_12.1 (W8.mk (x_0.1.1:Int).toNat (x_0.1.2 :
 Int).toNat (x_0.1.3:Int).toNat (x_0.1.4:Int).toNat (x_0.1.5:Int).toNat (x_0.1.6:Int).toNat (x_0.1.7:Int).toNat (x_0.1.8:Int).toNat))∧eqqQ [AV.int .u32 (x_0.1.1:Int),.int .u32 (x_0.1.2:Int),.int .u32 (x_0.1.3:Int),
 .int .u32 (x_0.1.4:Int),.int .u32 (x_0.1.5:Int),.int .u32 (x_0.1.6:Int),.int .u32 (x_0.1.7:Int),.int .u32 (x_0.1.8:Int),.str t,.int .i64 n]∧eqqQ [AV.ptr 0 10 0]∧ckQ (oldL 0 (cells32M ks)==oldL 0 (cells32M ks)) (eqqQ
 (cells32M ks)∧eqqQ [AV.str x_0.2]∧eqqQ (cells32M x_3.2)∧[AV.int .u32 n_4,.int .u32 n_5,.int .u32 n_6,.int .u32 n_7,.int .u32 n_8,.int .u32 n_9,.int .u32 n_10,.int .u32 n_11]=[AV.int .u32 (x_12.2.1:Int),.int .u32 (x_12.2.2
 : Int),.int .u32 (x_12.2.3:Int),.int .u32 (x_12.2.4:Int),.int .u32 (x_12.2.5:Int),.int .u32 (x_12.2.6:Int),.int .u32 (x_12.2.7:Int),.int .u32 (x_12.2.8:Int)]∧eqqQ (AV.ptr 1 1 0)∧eqqQ (AV.ptr 4 64 0)∧eqqQ (AV.ptr 2
 (cells32M ks).length 0)∧AV.int .i64 0=AV.int .i64 (x_12.1:Int)∧eqqQ (AV.ptr 5 8 0)∧True))∧∀x_12:Nat×W8,Lf (x_12.1≤64∧okW8 x_12.2∧x_12.2=rndsM ks (wsM (cells32M x_3.2)) x_12.1 (W8.mk (x_0.1.1:Int).toNat (x_0.1.2
 : Int).toNat (x_0.1.3:Int).toNat (x_0.1.4:Int).toNat (x_0.1.5:Int).toNat (x_0.1.6:Int).toNat (x_0.1.7:Int).toNat (x_0.1.8:Int).toNat))→bif decide ((x_12.1:Int)<64) then exI .i64 (x_12.1:Int) fun n_13=>exI .u32
 (x_12.2.1:Int) fun n_14=>exI .u32 (x_12.2.5:Int) fun n_15=>exI .u32 (x_12.2.8:Int) fun n_16=>exI .u32 (x_12.2.6:Int) fun n_17=>exW .u32 (((n_15%4294967296).toNat &&& (n_17%4294967296).toNat:Nat):Int) fun n_18=>exW
 .u32 ((4294967295 ^^^ (n_15%4294967296).toNat:Nat):Int) fun n_19=>exI .u32 (x_12.2.7:Int) fun n_20=>exW .u32 (((n_19%4294967296).toNat &&& (n_20%4294967296).toNat:Nat):Int) fun n_21=>exW .u32 (((n_18 %
 4294967296).toNat ^^^ (n_21%4294967296).toNat:Nat):Int) fun n_22=>ckQ (decide (0≤n_13)&&Nat.blt n_13.toNat 64&&Nat.beq (cells32M ks).length (cells32M ks).length) (ckQ (Nat.beq (cells32M ks).length (cells32M ks).length &&
 Nat.blt (0+n_13.toNat*1) (cells32M ks).length) (exV .u32 ((((cells32M ks).drop (0+n_13.toNat*1)).take 1).getD 0 AV.undef) fun n_23=>ckQ (decide (0≤n_13)&&Nat.blt n_13.toNat 64&&Nat.beq (cells32M x_3.2).length 64) (ckQ
 (Nat.beq (cells32M x_3.2).length 64&&Nat.blt (0+n_13.toNat*1) 64) (exV .u32 ((((cells32M x_3.2).drop (0+n_13.toNat*1)).take 1).getD 0 AV.undef) fun n_24=>∃n_25:Nat,Lf (n_15=(n_25:Int)∧n_25<4294967296∧rotOk
 (Int.negSucc 5))∧∀r_26:Nat,Lf (r_26=rotW (32+Int.negSucc 5).toNat n_25)→ckQ (eqAVL (((cells32M x_3.2).drop (0+n_13.toNat*1)).take 1) (((cells32M x_3.2).drop (0+n_13.toNat*1)).take 1)&&Option.some ((cells32M
 x_3.2).length+1)==Option.some ((cells32M x_3.2).length+1)) (ckQ (Option.some ((cells32M x_3.2).length+1)==Option.some ((cells32M x_3.2).length+1)) (ckQ (eqAVL (((cells32M ks).drop (0+n_13.toNat*1)).take 1) (((cells32M
 ks).drop (0+n_13.toNat*1)).take 1)&&Option.some ((cells32M ks).length+1)==Option.some ((cells32M ks).length+1)) (ckQ (Option.some ((cells32M ks).length+1)==Option.some ((cells32M ks).length+1)) (ckQ (eqAVL [.int .u32
 (x_12.2.7:Int)] [.int .u32 (x_12.2.7:Int)]&&true) (ckQ (eqAVL [.int .u32 (x_12.2.6:Int)] [.int .u32 (x_12.2.6:Int)]&&true) (ckQ (eqAVL [.int .u32 (x_12.2.8:Int)] [.int .u32 (x_12.2.8:Int)]&&true) (exI .u32 (r_26:Int)
 fun n_27=>∃n_28:Nat,Lf (n_15=(n_28:Int)∧n_28<4294967296∧rotOk (Int.negSucc 10))∧∀r_29:Nat,Lf (r_29=rotW (32+Int.negSucc 10).toNat n_28)→ckQ (eqAVL (((cells32M x_3.2).drop (0+n_13.toNat*1)).take 1)
 (((cells32M x_3.2).drop (0+n_13.toNat*1)).take 1)&&Option.some ((cells32M x_3.2).length+1)==Option.some ((cells32M x_3.2).length+1)) (ckQ (Option.some ((cells32M x_3.2).length+1)==Option.some ((cells32M x_3.2).length+1))
 (ckQ (eqAVL (((cells32M ks).drop (0+n_13.toNat*1)).take 1) (((cells32M ks).drop (0+n_13.toNat*1)).take 1)&&Option.some ((cells32M ks).length+1)==Option.some ((cells32M ks).length+1)) (ckQ (Option.some ((cells32M ks).length
 + 1)==Option.some ((cells32M ks).length+1)) (ckQ (eqAVL [.int .u32 (x_12.2.7:Int)] [.int .u32 (x_12.2.7:Int)]&&true) (ckQ (eqAVL [.int .u32 (x_12.2.6:Int)] [.int .u32 (x_12.2.6:Int)]&&true) (ckQ (eqAVL [.int .u32 (x_12.2.8
 : Int)] [.int .u32 (x_12.2.8:Int)]&&true) (exI .u32 (r_29:Int) fun n_30=>exW .u32 (((n_27%4294967296).toNat ^^^ (n_30%4294967296).toNat:Nat):Int) fun n_31=>∃n_32:Nat,Lf (n_15=(n_32:Int)∧n_32<4294967296∧rotOk
 (Int.negSucc 24))∧∀r_33:Nat,Lf (r_33=rotW (32+Int.negSucc 24).toNat n_32)→ckQ (eqAVL (((cells32M x_3.2).drop (0+n_13.toNat*1)).take 1) (((cells32M x_3.2).drop (0+n_13.toNat*1)).take 1)&&Option.some ((cells32M
 x_3.2).length+1)==Option.some ((cells32M x_3.2).length+1)) (ckQ (Option.some ((cells32M x_3.2).length+1)==Option.some ((cells32M x_3.2).length+1)) (ckQ (eqAVL (((cells32M ks).drop (0+n_13.toNat*1)).take 1) (((cells32M
 ks).drop (0+n_13.toNat*1)).take 1)&&Option.some ((cells32M ks).length+1)==Option.some ((cells32M ks).length+1)) (ckQ (Option.some ((cells32M ks).length+1)==Option.some ((cells32M ks).length+1)) (ckQ (eqAVL [.int .u32
 (x_12.2.7:Int)] [.int .u32 (x_12.2.7:Int)]&&true) (ckQ (eqAVL [.int .u32 (x_12.2.6:Int)] [.int .u32 (x_12.2.6:Int)]&&true) (ckQ (eqAVL [.int .u32 (x_12.2.8:Int)] [.int .u32 (x_12.2.8:Int)]&&true) (exI .u32 (r_33:Int)
 fun n_34=>exW .u32 (((n_31%4294967296).toNat ^^^ (n_34%4294967296).toNat:Nat):Int) fun n_35=>exW .u32 (n_16+n_35) fun n_36=>exW .u32 (n_36+n_22) fun n_37=>exW .u32 (n_37+n_23) fun n_38=>exW .u32 (n_38+n_24) fun
 n_39=>exI .u32 (x_12.2.2:Int) fun n_40=>exW .u32 (((n_14%4294967296).toNat &&& (n_40%4294967296).toNat:Nat):Int) fun n_41=>exI .u32 (x_12.2.3:Int) fun n_42=>exW .u32 (((n_14%4294967296).toNat &&& (n_42 %
 4294967296).toNat:Nat):Int) fun n_43=>exW .u32 (((n_41%4294967296).toNat ^^^ (n_43%4294967296).toNat:Nat):Int) fun n_44=>exI .u32 (x_12.2.2:Int) fun n_45=>exI .u32 (x_12.2.3:Int) fun n_46=>exW .u32 (((n_45 %
 4294967296).toNat &&& (n_46%4294967296).toNat:Nat):Int) fun n_47=>exW .u32 (((n_44%4294967296).toNat ^^^ (n_47%4294967296).toNat:Nat):Int) fun n_48=>∃n_49:Nat,Lf (n_14=(n_49:Int)∧n_49<4294967296∧rotOk
 (Int.negSucc 1))∧∀r_50:Nat,Lf (r_50=rotW (32+Int.negSucc 1).toNat n_49)→ckQ (eqAVL [.int .u32 (x_12.2.3:Int)] [.int .u32 (x_12.2.3:Int)]&&true) (ckQ (eqAVL [.int .u32 (x_12.2.2:Int)] [.int .u32 (x_12.2.2:Int)] &&
 true) (ckQ (eqAVL [.int .u32 (x_12.2.3:Int)] [.int .u32 (x_12.2.3:Int)]&&true) (ckQ (eqAVL [.int .u32 (x_12.2.2:Int)] [.int .u32 (x_12.2.2:Int)]&&true) (exI .u32 (r_50:Int) fun n_51=>∃n_52:Nat,Lf (n_14=(n_52:Int) ∧
 n_52<4294967296∧rotOk (Int.negSucc 12))∧∀r_53:Nat,Lf (r_53=rotW (32+Int.negSucc 12).toNat n_52)→ckQ (eqAVL [.int .u32 (x_12.2.3:Int)] [.int .u32 (x_12.2.3:Int)]&&true) (ckQ (eqAVL [.int .u32 (x_12.2.2:Int)] [.int
 .u32 (x_12.2.2:Int)]&&true) (ckQ (eqAVL [.int .u32 (x_12.2.3:Int)] [.int .u32 (x_12.2.3:Int)]&&true) (ckQ (eqAVL [.int .u32 (x_12.2.2:Int)] [.int .u32 (x_12.2.2:Int)]&&true) (exI .u32 (r_53:Int) fun n_54=>exW .u32
 (((n_51%4294967296).toNat ^^^ (n_54%4294967296).toNat:Nat):Int) fun n_55=>∃n_56:Nat,Lf (n_14=(n_56:Int)∧n_56<4294967296∧rotOk (Int.negSucc 21))∧∀r_57:Nat,Lf (r_57=rotW (32+Int.negSucc 21).toNat n_56)→ckQ
 (eqAVL [.int .u32 (x_12.2.3:Int)] [.int .u32 (x_12.2.3:Int)]&&true) (ckQ (eqAVL [.int .u32 (x_12.2.2:Int)] [.int .u32 (x_12.2.2:Int)]&&true) (ckQ (eqAVL [.int .u32 (x_12.2.3:Int)] [.int .u32 (x_12.2.3:Int)]&&true) (ckQ
 (eqAVL [.int .u32 (x_12.2.2:Int)] [.int .u32 (x_12.2.2:Int)]&&true) (exI .u32 (r_57:Int) fun n_58=>exW .u32 (((n_55%4294967296).toNat ^^^ (n_58%4294967296).toNat:Nat):Int) fun n_59=>exW .u32 (n_59+n_48) fun n_60=>
 exW .u32 (n_39+n_60) fun n_61=>exI .u32 (x_12.2.1:Int) fun n_62=>exI .u32 (x_12.2.2:Int) fun n_63=>exI .u32 (x_12.2.3:Int) fun n_64=>exI .u32 (x_12.2.4:Int) fun n_65=>exW .u32 (n_65+n_39) fun n_66=>exI .u32
 (x_12.2.5:Int) fun n_67=>exI .u32 (x_12.2.6:Int) fun n_68=>exI .u32 (x_12.2.7:Int) fun n_69=>exW .i64 ((x_12.1:Int)+1) fun n_70=>((oldL 0 (cells32M ks)||oldL 6 (cells32M ks))&&true)=true∧vc_154_1 s ks∧∃y_71 :
 Nat×W8,Lf (y_71.1≤64∧okW8 y_71.2∧y_71.2=rndsM ks (wsM (cells32M x_3.2)) y_71.1 (W8.mk (x_0.1.1:Int).toNat (x_0.1.2:Int).toNat (x_0.1.3:Int).toNat (x_0.1.4:Int).toNat (x_0.1.5:Int).toNat (x_0.1.6:Int).toNat (x_0.1.7 :
 Int).toNat (x_0.1.8:Int).toNat))∧64-y_71.1<64-x_12.1∧eqqQ [AV.int .u32 (x_0.1.1:Int),.int .u32 (x_0.1.2:Int),.int .u32 (x_0.1.3:Int),.int .u32 (x_0.1.4:Int),.int .u32 (x_0.1.5:Int),.int .u32 (x_0.1.6:Int),.int
 .u32 (x_0.1.7:Int),.int .u32 (x_0.1.8:Int),.str t,.int .i64 n]∧eqqQ [AV.ptr 0 10 0]∧ckQ (oldL 0 (cells32M ks)==oldL 0 (cells32M ks)) (eqqQ (cells32M ks)∧eqqQ [AV.str x_0.2]∧eqqQ (cells32M x_3.2)∧[AV.int .u32 n_61,.int
 .u32 n_62,.int .u32 n_63,.int .u32 n_64,.int .u32 n_66,.int .u32 n_67,.int .u32 n_68,.int .u32 n_69]=[AV.int .u32 (y_71.2.1:Int),.int .u32 (y_71.2.2:Int),.int .u32 (y_71.2.3:Int),.int .u32 (y_71.2.4:Int),.int .u32
 (y_71.2.5:Int),.int .u32 (y_71.2.6:Int),.int .u32 (y_71.2.7:Int),.int .u32 (y_71.2.8:Int)]∧eqqQ (AV.ptr 1 1 0)∧eqqQ (AV.ptr 4 64 0)∧eqqQ (AV.ptr 2 (cells32M ks).length 0)∧AV.int .i64 n_70=AV.int .i64 (y_71.1:Int) ∧
 eqqQ (AV.ptr 5 8 0)∧True)))))))))))))))))))))))))))))))))))))) else exI .u32 (x_0.1.1:Int) fun n_13=>exI .u32 (x_12.2.1:Int) fun n_14=>exW .u32 (n_13+n_14) fun n_15=>((oldL 0 (cells32M ks)||oldL 6 (cells32M ks))&&true) =
 true∧exI .u32 (x_0.1.2:Int) fun n_16=>exI .u32 (x_12.2.2:Int) fun n_17=>exW .u32 (n_16+n_17) fun n_18=>((oldL 0 (cells32M ks)||oldL 6 (cells32M ks))&&true)=true∧exI .u32 (x_0.1.3:Int) fun n_19=>exI .u32 (x_12.2.3
 : Int) fun n_20=>exW .u32 (n_19+n_20) fun n_21=>((oldL 0 (cells32M ks)||oldL 6 (cells32M ks))&&true)=true∧exI .u32 (x_0.1.4:Int) fun n_22=>exI .u32 (x_12.2.4:Int) fun n_23=>exW .u32 (n_22+n_23) fun n_24=>((oldL 0
 (cells32M ks)||oldL 6 (cells32M ks))&&true)=true∧exI .u32 (x_0.1.5:Int) fun n_25=>exI .u32 (x_12.2.5:Int) fun n_26=>exW .u32 (n_25+n_26) fun n_27=>((oldL 0 (cells32M ks)||oldL 6 (cells32M ks))&&true)=true∧exI
 .u32 (x_0.1.6:Int) fun n_28=>exI .u32 (x_12.2.6:Int) fun n_29=>exW .u32 (n_28+n_29) fun n_30=>((oldL 0 (cells32M ks)||oldL 6 (cells32M ks))&&true)=true∧exI .u32 (x_0.1.7:Int) fun n_31=>exI .u32 (x_12.2.7:Int) fun
 n_32=>exW .u32 (n_31+n_32) fun n_33=>((oldL 0 (cells32M ks)||oldL 6 (cells32M ks))&&true)=true∧exI .u32 (x_0.1.8:Int) fun n_34=>exI .u32 (x_12.2.8:Int) fun n_35=>exW .u32 (n_34+n_35) fun n_36=>((oldL 0 (cells32M
 ks)||oldL 6 (cells32M ks))&&true)=true∧ckQ (Nat.ble 64 x_0.2.length&&Nat.ble x_0.2.length x_0.2.length) (exS (.str ((x_0.2.drop 64).take (x_0.2.length-64))) fun s_37=>((oldL 0 (cells32M ks)||oldL 4 (cells32M ks))&&true) =
 true∧(eqqQ [Lp.mk 0 (T.n (T.n (T.n T.e (.ptr 1 1 0) (T.n (T.n T.e (.str s) T.e) .undef T.e)) (.str s) (T.n T.e (.ptr 2 (cells32M ks).length 0) T.e)) (.ptr 0 10 0) (T.n (T.n T.e .undef (T.n (T.n T.e (.fn (Fn.func 162) [] [.ptr 3 1 0])
 T.e) .undef T.e)) (.agg (cells32M ks)) T.e)) [21] (rfA fn140.body) (rfB fn140.body) Lst.ready 140]∧(1:Nat)=(1:Nat))∧∃y_38:W8×List UInt8,Lf (okW8 y_38.1∧y_38.2.length≤s.length∧mixM ks (y_38.2.length/64) y_38.1 y_38.2
 = mixM ks (s.length/64) v s)∧y_38.2.length<x_0.2.length∧[AV.int .u32 n_15,.int .u32 n_18,.int .u32 n_21,.int .u32 n_24,.int .u32 n_27,.int .u32 n_30,.int .u32 n_33,.int .u32 n_36,.str t,.int .i64 n]=[AV.int .u32
 (y_38.1.1:Int),.int .u32 (y_38.1.2:Int),.int .u32 (y_38.1.3:Int),.int .u32 (y_38.1.4:Int),.int .u32 (y_38.1.5:Int),.int .u32 (y_38.1.6:Int),.int .u32 (y_38.1.7:Int),.int .u32 (y_38.1.8:Int),.str t,.int .i64 n] ∧
 eqqQ [AV.ptr 0 10 0]∧ckQ (oldL 0 (cells32M ks)==oldL 0 (cells32M ks)) (eqqQ (cells32M ks)∧[AV.str s_37]=[AV.str y_38.2]∧eqqQ (AV.yld 0)∧eqqQ (AV.ptr 3 1 0)∧True))) else ((oldL 0 (cells32M ks)||oldL 4 (cells32M ks))&&true)
 = true∧Q (.ret (.tup [])) [Blk.mk BK.exact true [.int .u32 (x_0.1.1:Int),.int .u32 (x_0.1.2:Int),.int .u32 (x_0.1.3:Int),.int .u32 (x_0.1.4:Int),.int .u32 (x_0.1.5:Int),.int .u32 (x_0.1.6:Int),.int .u32 (x_0.1.7:Int),
 .int .u32 (x_0.1.8:Int),.str t,.int .i64 n]] (Gh.mk 0 1 [])):=by kernel_rfl

end Go.Proofs.YtjenieljapmehaaGreatDoor
