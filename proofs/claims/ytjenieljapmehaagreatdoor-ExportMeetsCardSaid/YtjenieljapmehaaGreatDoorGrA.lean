/-
  Chapter 21: the environment of chapter 17's texts.
-/
import Derived.Test.YtjenieljapmehaaGreatDoorG21A
import Derived.Test.YtjenieljapmehaaGreatDoorEnH
import Derived.MakeChecks
set_option linter.unusedSimpArgs false
set_option linter.unusedVariables false
namespace Go.Proofs.YtjenieljapmehaaGreatDoor.Rc
open Go.RowKit
set_option maxRecDepth 1000000

noncomputable abbrev e04 (sm:SM) (inv:Nat→Option (S→List (List LInv))) (hv:Nat→Option Pa) (hb:Nat→Option Bool):Env:=e18 sm inv hv hb
theorem names04:namesOk Tryz.prog=true:=names18
theorem mixed04:Tryz.prog.follows .mixedOrders=true:=mixed18
theorem envFor04 {sm:SM} (h:∀f g,sm f=some g→ValidF Tryz.prog gl0 f g) (inv:Nat→Option (S→List (List LInv))) (hv:Nat→Option Pa) (hb:Nat→Option Bool):EnvFor Tryz.prog (e04 sm inv hv hb):=envFor18 h inv hv hb
end Go.Proofs.YtjenieljapmehaaGreatDoor.Rc

set_option linter.unusedSimpArgs false
set_option linter.unusedVariables false
namespace Go.Proofs.YtjenieljapmehaaGreatDoor.Rc
open Go.RowKit
set_option maxRecDepth 1000000

def addW (x y:Nat):Nat:=(x+y)%4294967296
def xorW (x y:Nat):Nat:=(x%4294967296) ^^^ (y%4294967296)
def rotW (k x:Nat):Nat:=((x*2^k)%4294967296) ||| ((x/2^(32-k))%4294967296)
def leW (x:Nat):List Nat:=[x%256,x/256%256,x/65536%256,x/16777216%256]
def quM (a b c d:Nat):Nat×Nat×Nat×Nat:=
 let a:=addW a b
 let d:=rotW 16 (xorW d a)
 let c:=addW c d
 let b:=rotW 12 (xorW b c)
 let a:=addW a b
 let d:=rotW 8 (xorW d a)
 let c:=addW c d
 let b:=rotW 7 (xorW b c)
 (a,b,c,d)
theorem u32_wrap (x:Nat):IntKind.wrap .u32 (x:Int)=((x%4294967296:Nat):Int):=by
 show (x:Int)%4294967296=_
 omega
theorem u8_wrap (x:Nat):IntKind.wrap .u8 (x:Int)=((x%256:Nat):Int):=by
 show (x:Int)%256=_
 omega
theorem addW_w (x y:Nat):IntKind.wrap .u32 ((x:Int)+(y:Int))=((addW x y:Nat):Int):=by
 rw[←Int.natCast_add,u32_wrap];rfl
theorem mod32 (x:Nat):((x:Int)%4294967296).toNat=x%4294967296:=by omega
theorem bits32 {x:Nat} (h:x<4294967296):x%4294967296=x:=Nat.mod_eq_of_lt h
theorem xorW_lt (x y:Nat):xorW x y<4294967296:=Nat.xor_lt_two_pow (n:=32) (Nat.mod_lt _ (by omega)) (Nat.mod_lt _ (by omega))
theorem rotW_lt (k x:Nat):rotW k x<4294967296:=Nat.or_lt_two_pow (n:=32) (Nat.mod_lt _ (by omega)) (Nat.mod_lt _ (by omega))
theorem xorW_w (x y:Nat):IntKind.wrap .u32 ((((x:Int)%4294967296).toNat ^^^ ((y:Int)%4294967296).toNat:Nat):Int)=((xorW x y:Nat):Int):=by
 rw[mod32,mod32,u32_wrap]
 exact congrArg _ (bits32 (xorW_lt x y))
theorem rotW_w (k x:Nat) (M N:Int) (hm:M=((2^k:Nat):Int)) (hn:N=((2^(32-k):Nat):Int)) :
  IntKind.wrap .u32 (((IntKind.wrap .u32 ((x:Int)*M)%4294967296).toNat ||| (Int.fdiv (x:Int) N%4294967296).toNat:Nat):Int)=((rotW k x:Nat):Int):=by
 subst hm hn
 have h0:(0:Int)≤((2^(32-k):Nat):Int):=Int.natCast_nonneg _
 have e1:=u32_wrap (x*2^k)
 rw[←Int.natCast_mul,e1,Int.fdiv_eq_ediv_of_nonneg _ h0,←Int.natCast_ediv,mod32,mod32,u32_wrap,Nat.mod_mod]
 exact congrArg _ (bits32 (rotW_lt k x))
theorem fdivN (x:Nat) (N:Int) (n:Nat) (h:N=(n:Int)):Int.fdiv (x:Int) N=((x/n:Nat):Int):=by
 subst h
 rw[Int.fdiv_eq_ediv_of_nonneg _ (Int.natCast_nonneg _),Int.natCast_ediv]
theorem quI {a b c d:Nat} {K:Int→Int→Int→Int→Prop} (h:∀a' b' c' d':Nat,quM a b c d=(a',b',c',d')→K a' b' c' d') :
(∃n_2:Int,(((AV.int .u32 (IntKind.wrap .u32 ((Nat.cast a:Int)+(Nat.cast b:Int))))=(AV.int .u32 n_2)) ∧
 (∃n_3:Int,(((AV.int .u32 (IntKind.wrap .u32 (Nat.cast ((Int.toNat ((Nat.cast d:Int)%(4294967296:Int))) ^^^ (Int.toNat (n_2%(4294967296:Int)))):Int)))=(AV.int .u32 n_3)) ∧
 (∃n_4:Int,(((AV.int .u32 (IntKind.wrap .u32 (n_3*(65536:Int))))=(AV.int .u32 n_4)) ∧
 (∃n_5:Int,(((AV.int .u32 (Int.fdiv n_3 (65536:Int)))=(AV.int .u32 n_5)) ∧
 (∃n_6:Int,(((AV.int .u32 (IntKind.wrap .u32 (Nat.cast ((Int.toNat (n_4%(4294967296:Int))) ||| (Int.toNat (n_5%(4294967296:Int)))):Int)))=(AV.int .u32 n_6)) ∧
 (∃n_7:Int,(((AV.int .u32 (IntKind.wrap .u32 ((Nat.cast c:Int)+n_6)))=(AV.int .u32 n_7)) ∧
 (∃n_8:Int,(((AV.int .u32 (IntKind.wrap .u32 (Nat.cast ((Int.toNat ((Nat.cast b:Int)%(4294967296:Int))) ^^^ (Int.toNat (n_7%(4294967296:Int)))):Int)))=(AV.int .u32 n_8)) ∧
 (∃n_9:Int,(((AV.int .u32 (IntKind.wrap .u32 (n_8*(4096:Int))))=(AV.int .u32 n_9)) ∧
 (∃n_10:Int,(((AV.int .u32 (Int.fdiv n_8 (1048576:Int)))=(AV.int .u32 n_10)) ∧
 (∃n_11:Int,(((AV.int .u32 (IntKind.wrap .u32 (Nat.cast ((Int.toNat (n_9%(4294967296:Int))) ||| (Int.toNat (n_10%(4294967296:Int)))):Int)))=(AV.int .u32 n_11)) ∧
 (∃n_12:Int,(((AV.int .u32 (IntKind.wrap .u32 (n_2+n_11)))=(AV.int .u32 n_12)) ∧
 (∃n_13:Int,(((AV.int .u32 (IntKind.wrap .u32 (Nat.cast ((Int.toNat (n_6%(4294967296:Int))) ^^^ (Int.toNat (n_12%(4294967296:Int)))):Int)))=(AV.int .u32 n_13)) ∧
 (∃n_14:Int,(((AV.int .u32 (IntKind.wrap .u32 (n_13*(256:Int))))=(AV.int .u32 n_14)) ∧
 (∃n_15:Int,(((AV.int .u32 (Int.fdiv n_13 (16777216:Int)))=(AV.int .u32 n_15)) ∧
 (∃n_16:Int,(((AV.int .u32 (IntKind.wrap .u32 (Nat.cast ((Int.toNat (n_14%(4294967296:Int))) ||| (Int.toNat (n_15%(4294967296:Int)))):Int)))=(AV.int .u32 n_16)) ∧
 (∃n_17:Int,(((AV.int .u32 (IntKind.wrap .u32 (n_7+n_16)))=(AV.int .u32 n_17)) ∧
 (∃n_18:Int,(((AV.int .u32 (IntKind.wrap .u32 (Nat.cast ((Int.toNat (n_11%(4294967296:Int))) ^^^ (Int.toNat (n_17%(4294967296:Int)))):Int)))=(AV.int .u32 n_18)) ∧
 (∃n_19:Int,(((AV.int .u32 (IntKind.wrap .u32 (n_18*(128:Int))))=(AV.int .u32 n_19)) ∧
 (∃n_20:Int,(((AV.int .u32 (Int.fdiv n_18 (33554432:Int)))=(AV.int .u32 n_20)) ∧
 (∃n_21:Int,(((AV.int .u32 (IntKind.wrap .u32 (Nat.cast ((Int.toNat (n_19%(4294967296:Int))) ||| (Int.toNat (n_20%(4294967296:Int)))):Int)))=(AV.int .u32 n_21))∧K n_12 n_21 n_17 n_16)))))))))))))))))))))))))))))))))))))))):=by
  obtain ⟨a1,e1⟩:∃y,addW a b=y:=⟨_,rfl⟩
  obtain ⟨d1,e2⟩:∃y,rotW 16 (xorW d a1)=y:=⟨_,rfl⟩
  obtain ⟨c1,e3⟩:∃y,addW c d1=y:=⟨_,rfl⟩
  obtain ⟨b1,e4⟩:∃y,rotW 12 (xorW b c1)=y:=⟨_,rfl⟩
  obtain ⟨a2,e5⟩:∃y,addW a1 b1=y:=⟨_,rfl⟩
  obtain ⟨d2,e6⟩:∃y,rotW 8 (xorW d1 a2)=y:=⟨_,rfl⟩
  obtain ⟨c2,e7⟩:∃y,addW c1 d2=y:=⟨_,rfl⟩
  obtain ⟨b2,e8⟩:∃y,rotW 7 (xorW b1 c2)=y:=⟨_,rfl⟩
  have hh:=h a2 b2 c2 d2 (by simp only[quM,e1,e2,e3,e4,e5,e6,e7,e8])
  refine ⟨a1,by rw[addW_w,e1],xorW d a1,by rw[xorW_w],_,rfl,_,rfl,d1,(congrArg (AV.int .u32) ((rotW_w 16 (xorW d a1) 65536 65536 rfl rfl).trans (by rw[e2]))), ?_⟩
  refine ⟨c1,by rw[addW_w,e3],xorW b c1,by rw[xorW_w],_,rfl,_,rfl,b1,(congrArg (AV.int .u32) ((rotW_w 12 (xorW b c1) 4096 1048576 rfl rfl).trans (by rw[e4]))), ?_⟩
  refine ⟨a2,by rw[addW_w,e5],xorW d1 a2,by rw[xorW_w],_,rfl,_,rfl,d2,(congrArg (AV.int .u32) ((rotW_w 8 (xorW d1 a2) 256 16777216 rfl rfl).trans (by rw[e6]))), ?_⟩
  exact ⟨c2,by rw[addW_w,e7],xorW b1 c2,by rw[xorW_w],_,rfl,_,rfl,b2,(congrArg (AV.int .u32) ((rotW_w 7 (xorW b1 c2) 128 33554432 rfl rfl).trans (by rw[e8]))),hh⟩
theorem woI {a m:Nat} {K:Int→Int→Int→Int→Prop} (h:∀p q r s:Nat,leW (addW a m)=[p,q,r,s]→K p q r s) :
(∃n_2:Int,(((AV.int .u32 (Nat.cast a:Int))=(AV.int .u32 n_2)) ∧
 (∃n_3:Int,(((AV.int .u32 (IntKind.wrap .u32 (n_2+(Nat.cast m:Int))))=(AV.int .u32 n_3)) ∧
 (∃n_4:Int,(((AV.int .u8 (IntKind.wrap .u8 n_3))=(AV.int .u8 n_4)) ∧
 (∃n_5:Int,(((AV.int .u32 (Int.fdiv n_3 (256:Int)))=(AV.int .u32 n_5)) ∧
 (∃n_6:Int,(((AV.int .u8 (IntKind.wrap .u8 n_5))=(AV.int .u8 n_6)) ∧
 (∃n_7:Int,(((AV.int .u32 (Int.fdiv n_3 (65536:Int)))=(AV.int .u32 n_7)) ∧
 (∃n_8:Int,(((AV.int .u8 (IntKind.wrap .u8 n_7))=(AV.int .u8 n_8)) ∧
 (∃n_9:Int,(((AV.int .u32 (Int.fdiv n_3 (16777216:Int)))=(AV.int .u32 n_9)) ∧
 (∃n_10:Int,(((AV.int .u8 (IntKind.wrap .u8 n_9))=(AV.int .u8 n_10))∧K n_4 n_6 n_8 n_10)))))))))))))))))):=by
  obtain ⟨x,e1⟩:∃y,addW a m=y:=⟨_,rfl⟩
  rw[e1] at h
  exact ⟨_,rfl,x,by rw[addW_w,e1],_,by rw[u8_wrap],_,(congrArg (AV.int .u32) (fdivN x 256 256 rfl)),_,by rw[u8_wrap],_,(congrArg (AV.int .u32) (fdivN x 65536 65536 rfl)),_,by rw[u8_wrap],_,(congrArg (AV.int .u32) (fdivN x 16777216 16777216 rfl)),_,by rw[u8_wrap],h _ _ _ _ rfl⟩
structure W16 where
 (x0 x1 x2 x3 x4 x5 x6 x7 x8 x9 x10 x11 x12 x13 x14 x15:Nat)
def roundM (w:W16):W16:=
 let p:=quM w.x0 w.x4 w.x8 w.x12
 let q:=quM w.x1 w.x5 w.x9 w.x13
 let r:=quM w.x2 w.x6 w.x10 w.x14
 let s:=quM w.x3 w.x7 w.x11 w.x15
 let a:=quM p.1 q.2.1 r.2.2.1 s.2.2.2
 let b:=quM q.1 r.2.1 s.2.2.1 p.2.2.2
 let c:=quM r.1 s.2.1 p.2.2.1 q.2.2.2
 let d:=quM s.1 p.2.1 q.2.2.1 r.2.2.2
 ⟨a.1,b.1,c.1,d.1,d.2.1,a.2.1,b.2.1,c.2.1,c.2.2.1,d.2.2.1,a.2.2.1,b.2.2.1,b.2.2.2,c.2.2.2,d.2.2.2,a.2.2.2⟩
def roundsM:Nat→W16→W16
 | 0,w=>w
 | n+1,w=>roundM (roundsM n w)
def outM (w m:W16):List Nat:=leW (addW w.x0 m.x0)++leW (addW w.x1 m.x1)++leW (addW w.x2 m.x2)++leW (addW w.x3 m.x3)++leW (addW w.x4 m.x4)++leW (addW w.x5 m.x5)++leW (addW w.x6 m.x6)++leW (addW w.x7 m.x7)++leW (addW w.x8 m.x8)++leW (addW w.x9 m.x9)++leW (addW w.x10 m.x10)++leW (addW w.x11 m.x11)++leW (addW w.x12 m.x12)++leW (addW w.x13 m.x13)++leW (addW w.x14 m.x14)++leW (addW w.x15 m.x15)
def cells8NM (l:List Nat):List AV:=l.map fun (n:Nat)=>AV.int .u8 (n:Int)
def blkM (w:W16) (c:Int):List Nat:=outM { w with x12:=(c%4294967296).toNat } (roundsM 10 { w with x12:=(c%4294967296).toNat })
def W16.cells (w:W16):List AV:=[.int .u32 w.x0,.int .u32 w.x1,.int .u32 w.x2,.int .u32 w.x3,.int .u32 w.x4,.int .u32 w.x5,.int .u32 w.x6,.int .u32 w.x7,.int .u32 w.x8,.int .u32 w.x9,.int .u32 w.x10,.int .u32 w.x11,.int .u32 w.x12,.int .u32 w.x13,.int .u32 w.x14,.int .u32 w.x15]
def zeros64:List AV:=List.replicate 64 (.int .u8 0)
def inv_47 (w:W16):LInv where
 α:=Nat×W16
 pre p:=Lf (p.1≤10∧p.2=roundsM p.1 w)
 st p:=⟨mkT [(2,.ptr 0 16 0),(4,.ptr 1 64 0),(5,.ptr 2 16 0),(6,.ptr 3 1 0),(15,.int .i64 p.1)],[⟨.exact,true,w.cells⟩,⟨.exact,true,zeros64⟩,⟨.exact,true,p.2.cells⟩,⟨.exact,false,[.ptr 2 16 0]⟩]⟩
 mu p:=10-p.1
noncomputable def env_47 (hv:Nat→Option Pa) (hb:Nat→Option Bool) (w:W16):Env:=e04 sm0 (fun i=>bif Nat.beq i 122000 then some (fun _=>[[inv_47 w]]) else none) hv hb
noncomputable def goal_47 (hv:Nat→Option Pa) (hb:Nat→Option Bool) (w:W16) (c:Int) (Q:Out→List Blk→Gh→Prop):Prop:=
 callx (env_47 hv hb { w with x12:=(c%4294967296).toNat }) (wpx (env_47 hv hb { w with x12:=(c%4294967296).toNat }) 1000) 122 [.agg w.cells,.int .i64 c] [] {} Q
theorem vc_47 (w:W16) (c:Int) (Q:Out→List Blk→Gh→Prop):goal_47 (lookV [(499723,.int .u32),(581675,.int .u32),(581684,.int .u32),(610315,.int .u32),(610319,.int .u32),(610320,.int .u32),(581693,.int .u32),(581702,
 .int .u32),(581711,.int .u32),(581720,.int .u32),(581729,.int .u32),(581738,.int .u32),(499737,.int .i64),(499747,.int .u32),(499760,.int .u8),(499762,.int .u32),(499763,.int .u8),(499765,.int .u32),(499766,.int .u8),
 (499768,.int .u32),(499769,.int .u8),(499743,.int .u32)]) (lookB []) w c Q=(exW .u32 c fun n_0=>(∃x_1:Nat×W16,Lf (x_1.1≤10∧x_1.2=roundsM x_1.1 (W16.mk (W16.x0 w) (W16.x1 w) (W16.x2 w) (W16.x3 w) (W16.x4 w) (W16.x5 w)
 (W16.x6 w) (W16.x7 w) (W16.x8 w) (W16.x9 w) (W16.x10 w) (W16.x11 w) (c%4294967296).toNat (W16.x13 w) (W16.x14 w) (W16.x15 w)))∧[AV.int .u32 (w.1:Int),.int .u32 (w.2:Int),.int .u32 (w.3:Int),.int .u32 (w.4:Int),.int .u32
 (w.5:Int),.int .u32 (w.6:Int),.int .u32 (w.7:Int),.int .u32 (w.8:Int),.int .u32 (w.9:Int),.int .u32 (w.10:Int),.int .u32 (w.11:Int),.int .u32 (w.12:Int),.int .u32 n_0,.int .u32 (w.14:Int),.int .u32 (w.15:Int),
 .int .u32 (w.16:Int)]=[AV.int .u32 (w.1:Int),.int .u32 (w.2:Int),.int .u32 (w.3:Int),.int .u32 (w.4:Int),.int .u32 (w.5:Int),.int .u32 (w.6:Int),.int .u32 (w.7:Int),.int .u32 (w.8:Int),.int .u32 (w.9:Int),
 .int .u32 (w.10:Int),.int .u32 (w.11:Int),.int .u32 (w.12:Int),.int .u32 ((c%4294967296).toNat:Int),.int .u32 (w.14:Int),.int .u32 (w.15:Int),.int .u32 (w.16:Int)]∧eqqQ [AV.int .u8 0,.int .u8 0,.int .u8 0,.int
 .u8 0,.int .u8 0,.int .u8 0,.int .u8 0,.int .u8 0,.int .u8 0,.int .u8 0,.int .u8 0,.int .u8 0,.int .u8 0,.int .u8 0,.int .u8 0,.int .u8 0,.int .u8 0,.int .u8 0,.int .u8 0,.int .u8 0,.int .u8 0,.int .u8 0,.int .u8 0,.int
 .u8 0,.int .u8 0,.int .u8 0,.int .u8 0,.int .u8 0,.int .u8 0,.int .u8 0,.int .u8 0,.int .u8 0,.int .u8 0,.int .u8 0,.int .u8 0,.int .u8 0,.int .u8 0,.int .u8 0,.int .u8 0,.int .u8 0,.int .u8 0,.int .u8 0,.int .u8 0,.int
 .u8 0,.int .u8 0,.int .u8 0,.int .u8 0,.int .u8 0,.int .u8 0,.int .u8 0,.int .u8 0,.int .u8 0,.int .u8 0,.int .u8 0,.int .u8 0,.int .u8 0,.int .u8 0,.int .u8 0,.int .u8 0,.int .u8 0,.int .u8 0,.int .u8 0,.int .u8 0,.int
 .u8 0]∧[AV.int .u32 (w.1:Int),.int .u32 (w.2:Int),.int .u32 (w.3:Int),.int .u32 (w.4:Int),.int .u32 (w.5:Int),.int .u32 (w.6:Int),.int .u32 (w.7:Int),.int .u32 (w.8:Int),.int .u32 (w.9:Int),.int .u32 (w.10 :
 Int),.int .u32 (w.11:Int),.int .u32 (w.12:Int),.int .u32 n_0,.int .u32 (w.14:Int),.int .u32 (w.15:Int),.int .u32 (w.16:Int)]=[AV.int .u32 (x_1.2.1:Int),.int .u32 (x_1.2.2:Int),.int .u32 (x_1.2.3:Int),.int .u32
 (x_1.2.4:Int),.int .u32 (x_1.2.5:Int),.int .u32 (x_1.2.6:Int),.int .u32 (x_1.2.7:Int),.int .u32 (x_1.2.8:Int),.int .u32 (x_1.2.9:Int),.int .u32 (x_1.2.10:Int),.int .u32 (x_1.2.11:Int),.int .u32 (x_1.2.12:Int),
 .int .u32 (x_1.2.13:Int),.int .u32 (x_1.2.14:Int),.int .u32 (x_1.2.15:Int),.int .u32 (x_1.2.16:Int)]∧eqqQ [AV.ptr 2 16 0]∧AV.int .i64 0=AV.int .i64 (x_1.1:Int)∧eqqQ (AV.ptr 2 16 0)∧eqqQ (AV.ptr 0 16 0)∧eqqQ (AV.ptr
 1 64 0)∧eqqQ (AV.ptr 3 1 0)∧True)∧∀x_1:Nat×W16,Lf (x_1.1≤10∧x_1.2=roundsM x_1.1 (W16.mk (W16.x0 w) (W16.x1 w) (W16.x2 w) (W16.x3 w) (W16.x4 w) (W16.x5 w) (W16.x6 w) (W16.x7 w) (W16.x8 w) (W16.x9 w) (W16.x10 w) (W16.x11 w)
 (c%4294967296).toNat (W16.x13 w) (W16.x14 w) (W16.x15 w)))→bif decide ((x_1.1:Int)<10) then exW .u32 ((x_1.2.1:Int)+(x_1.2.5:Int)) fun n_2=>exW .u32 ((((x_1.2.13:Int)%4294967296).toNat ^^^ (n_2%4294967296).toNat :
 Nat):Int) fun n_3=>exW .u32 (n_3*65536) fun n_4=>exI .u32 (Int.fdiv n_3 65536) fun n_5=>exW .u32 (((n_4%4294967296).toNat ||| (n_5%4294967296).toNat:Nat):Int) fun n_6=>exW .u32 ((x_1.2.9:Int)+n_6) fun n_7=>exW
 .u32 ((((x_1.2.5:Int)%4294967296).toNat ^^^ (n_7%4294967296).toNat:Nat):Int) fun n_8=>exW .u32 (n_8*4096) fun n_9=>exI .u32 (Int.fdiv n_8 1048576) fun n_10=>exW .u32 (((n_9%4294967296).toNat ||| (n_10 %
 4294967296).toNat:Nat):Int) fun n_11=>exW .u32 (n_2+n_11) fun n_12=>exW .u32 (((n_6%4294967296).toNat ^^^ (n_12%4294967296).toNat:Nat):Int) fun n_13=>exW .u32 (n_13*256) fun n_14=>exI .u32 (Int.fdiv n_13 16777216)
 fun n_15=>exW .u32 (((n_14%4294967296).toNat ||| (n_15%4294967296).toNat:Nat):Int) fun n_16=>exW .u32 (n_7+n_16) fun n_17=>exW .u32 (((n_11%4294967296).toNat ^^^ (n_17%4294967296).toNat:Nat):Int) fun n_18=>exW
 .u32 (n_18*128) fun n_19=>exI .u32 (Int.fdiv n_18 33554432) fun n_20=>exW .u32 (((n_19%4294967296).toNat ||| (n_20%4294967296).toNat:Nat):Int) fun n_21=>exW .u32 ((x_1.2.2:Int)+(x_1.2.6:Int)) fun n_22=>exW .u32
 ((((x_1.2.14:Int)%4294967296).toNat ^^^ (n_22%4294967296).toNat:Nat):Int) fun n_23=>exW .u32 (n_23*65536) fun n_24=>exI .u32 (Int.fdiv n_23 65536) fun n_25=>exW .u32 (((n_24%4294967296).toNat ||| (n_25 %
 4294967296).toNat:Nat):Int) fun n_26=>exW .u32 ((x_1.2.10:Int)+n_26) fun n_27=>exW .u32 ((((x_1.2.6:Int)%4294967296).toNat ^^^ (n_27%4294967296).toNat:Nat):Int) fun n_28=>exW .u32 (n_28*4096) fun n_29=>exI .u32
 (Int.fdiv n_28 1048576) fun n_30=>exW .u32 (((n_29%4294967296).toNat ||| (n_30%4294967296).toNat:Nat):Int) fun n_31=>exW .u32 (n_22+n_31) fun n_32=>exW .u32 (((n_26%4294967296).toNat ^^^ (n_32%4294967296).toNat:Nat) :
 Int) fun n_33=>exW .u32 (n_33*256) fun n_34=>exI .u32 (Int.fdiv n_33 16777216) fun n_35=>exW .u32 (((n_34%4294967296).toNat ||| (n_35%4294967296).toNat:Nat):Int) fun n_36=>exW .u32 (n_27+n_36) fun n_37=>exW .u32
 (((n_31%4294967296).toNat ^^^ (n_37%4294967296).toNat:Nat):Int) fun n_38=>exW .u32 (n_38*128) fun n_39=>exI .u32 (Int.fdiv n_38 33554432) fun n_40=>exW .u32 (((n_39%4294967296).toNat ||| (n_40%4294967296).toNat:Nat) :
 Int) fun n_41=>exW .u32 ((x_1.2.3:Int)+(x_1.2.7:Int)) fun n_42=>exW .u32 ((((x_1.2.15:Int)%4294967296).toNat ^^^ (n_42%4294967296).toNat:Nat):Int) fun n_43=>exW .u32 (n_43*65536) fun n_44=>exI .u32 (Int.fdiv n_43
 65536) fun n_45=>exW .u32 (((n_44%4294967296).toNat ||| (n_45%4294967296).toNat:Nat):Int) fun n_46=>exW .u32 ((x_1.2.11:Int)+n_46) fun n_47=>exW .u32 ((((x_1.2.7:Int)%4294967296).toNat ^^^ (n_47%4294967296).toNat :
 Nat):Int) fun n_48=>exW .u32 (n_48*4096) fun n_49=>exI .u32 (Int.fdiv n_48 1048576) fun n_50=>exW .u32 (((n_49%4294967296).toNat ||| (n_50%4294967296).toNat:Nat):Int) fun n_51=>exW .u32 (n_42+n_51) fun n_52=>exW
 .u32 (((n_46%4294967296).toNat ^^^ (n_52%4294967296).toNat:Nat):Int) fun n_53=>exW .u32 (n_53*256) fun n_54=>exI .u32 (Int.fdiv n_53 16777216) fun n_55=>exW .u32 (((n_54%4294967296).toNat ||| (n_55%4294967296).toNat :
 Nat):Int) fun n_56=>exW .u32 (n_47+n_56) fun n_57=>exW .u32 (((n_51%4294967296).toNat ^^^ (n_57%4294967296).toNat:Nat):Int) fun n_58=>exW .u32 (n_58*128) fun n_59=>exI .u32 (Int.fdiv n_58 33554432) fun n_60=>exW
 .u32 (((n_59%4294967296).toNat ||| (n_60%4294967296).toNat:Nat):Int) fun n_61=>exW .u32 ((x_1.2.4:Int)+(x_1.2.8:Int)) fun n_62=>exW .u32 ((((x_1.2.16:Int)%4294967296).toNat ^^^ (n_62%4294967296).toNat:Nat):Int)
 fun n_63=>exW .u32 (n_63*65536) fun n_64=>exI .u32 (Int.fdiv n_63 65536) fun n_65=>exW .u32 (((n_64%4294967296).toNat ||| (n_65%4294967296).toNat:Nat):Int) fun n_66=>exW .u32 ((x_1.2.12:Int)+n_66) fun n_67=>exW .u32
 ((((x_1.2.8:Int)%4294967296).toNat ^^^ (n_67%4294967296).toNat:Nat):Int) fun n_68=>exW .u32 (n_68*4096) fun n_69=>exI .u32 (Int.fdiv n_68 1048576) fun n_70=>exW .u32 (((n_69%4294967296).toNat ||| (n_70 %
 4294967296).toNat:Nat):Int) fun n_71=>exW .u32 (n_62+n_71) fun n_72=>exW .u32 (((n_66%4294967296).toNat ^^^ (n_72%4294967296).toNat:Nat):Int) fun n_73=>exW .u32 (n_73*256) fun n_74=>exI .u32 (Int.fdiv n_73 16777216)
 fun n_75=>exW .u32 (((n_74%4294967296).toNat ||| (n_75%4294967296).toNat:Nat):Int) fun n_76=>exW .u32 (n_67+n_76) fun n_77=>exW .u32 (((n_71%4294967296).toNat ^^^ (n_77%4294967296).toNat:Nat):Int) fun n_78=>exW
 .u32 (n_78*128) fun n_79=>exI .u32 (Int.fdiv n_78 33554432) fun n_80=>exW .u32 (((n_79%4294967296).toNat ||| (n_80%4294967296).toNat:Nat):Int) fun n_81=>exW .u32 (n_12+n_41) fun n_82=>exW .u32 (((n_76 %
 4294967296).toNat ^^^ (n_82%4294967296).toNat:Nat):Int) fun n_83=>exW .u32 (n_83*65536) fun n_84=>exI .u32 (Int.fdiv n_83 65536) fun n_85=>exW .u32 (((n_84%4294967296).toNat ||| (n_85%4294967296).toNat:Nat):Int) fun
 n_86=>exW .u32 (n_57+n_86) fun n_87=>exW .u32 (((n_41%4294967296).toNat ^^^ (n_87%4294967296).toNat:Nat):Int) fun n_88=>exW .u32 (n_88*4096) fun n_89=>exI .u32 (Int.fdiv n_88 1048576) fun n_90=>exW .u32 (((n_89 %
 4294967296).toNat ||| (n_90%4294967296).toNat:Nat):Int) fun n_91=>exW .u32 (n_82+n_91) fun n_92=>exW .u32 (((n_86%4294967296).toNat ^^^ (n_92%4294967296).toNat:Nat):Int) fun n_93=>exW .u32 (n_93*256) fun n_94=>exI
 .u32 (Int.fdiv n_93 16777216) fun n_95=>exW .u32 (((n_94%4294967296).toNat ||| (n_95%4294967296).toNat:Nat):Int) fun n_96=>exW .u32 (n_87+n_96) fun n_97=>exW .u32 (((n_91%4294967296).toNat ^^^ (n_97%4294967296).toNat :
 Nat):Int) fun n_98=>exW .u32 (n_98*128) fun n_99=>exI .u32 (Int.fdiv n_98 33554432) fun n_100=>exW .u32 (((n_99%4294967296).toNat ||| (n_100%4294967296).toNat:Nat):Int) fun n_101=>exW .u32 (n_32+n_61) fun n_102=>exW
 .u32 (((n_16%4294967296).toNat ^^^ (n_102%4294967296).toNat:Nat):Int) fun n_103=>exW .u32 (n_103*65536) fun n_104=>exI .u32 (Int.fdiv n_103 65536) fun n_105=>exW .u32 (((n_104%4294967296).toNat ||| (n_105 %
 4294967296).toNat:Nat):Int) fun n_106=>exW .u32 (n_77+n_106) fun n_107=>exW .u32 (((n_61%4294967296).toNat ^^^ (n_107%4294967296).toNat:Nat):Int) fun n_108=>exW .u32 (n_108*4096) fun n_109=>exI .u32 (Int.fdiv n_108
 1048576) fun n_110=>exW .u32 (((n_109%4294967296).toNat ||| (n_110%4294967296).toNat:Nat):Int) fun n_111=>exW .u32 (n_102+n_111) fun n_112=>exW .u32 (((n_106%4294967296).toNat ^^^ (n_112%4294967296).toNat:Nat):Int)
 fun n_113=>exW .u32 (n_113*256) fun n_114=>exI .u32 (Int.fdiv n_113 16777216) fun n_115=>exW .u32 (((n_114%4294967296).toNat ||| (n_115%4294967296).toNat:Nat):Int) fun n_116=>exW .u32 (n_107+n_116) fun n_117=>exW .u32
 (((n_111%4294967296).toNat ^^^ (n_117%4294967296).toNat:Nat):Int) fun n_118=>exW .u32 (n_118*128) fun n_119=>exI .u32 (Int.fdiv n_118 33554432) fun n_120=>exW .u32 (((n_119%4294967296).toNat ||| (n_120%4294967296).toNat
 : Nat):Int) fun n_121=>exW .u32 (n_52+n_81) fun n_122=>exW .u32 (((n_36%4294967296).toNat ^^^ (n_122%4294967296).toNat:Nat):Int) fun n_123=>exW .u32 (n_123*65536) fun n_124=>exI .u32 (Int.fdiv n_123 65536) fun n_125
 => exW .u32 (((n_124%4294967296).toNat ||| (n_125%4294967296).toNat:Nat):Int) fun n_126=>exW .u32 (n_17+n_126) fun n_127=>exW .u32 (((n_81%4294967296).toNat ^^^ (n_127%4294967296).toNat:Nat):Int) fun n_128=>exW .u32
 (n_128*4096) fun n_129=>exI .u32 (Int.fdiv n_128 1048576) fun n_130=>exW .u32 (((n_129%4294967296).toNat ||| (n_130%4294967296).toNat:Nat):Int) fun n_131=>exW .u32 (n_122+n_131) fun n_132=>exW .u32 (((n_126 %
 4294967296).toNat ^^^ (n_132%4294967296).toNat:Nat):Int) fun n_133=>exW .u32 (n_133*256) fun n_134=>exI .u32 (Int.fdiv n_133 16777216) fun n_135=>exW .u32 (((n_134%4294967296).toNat ||| (n_135%4294967296).toNat:Nat) :
 Int) fun n_136=>exW .u32 (n_127+n_136) fun n_137=>exW .u32 (((n_131%4294967296).toNat ^^^ (n_137%4294967296).toNat:Nat):Int) fun n_138=>exW .u32 (n_138*128) fun n_139=>exI .u32 (Int.fdiv n_138 33554432) fun n_140=>exW
 .u32 (((n_139%4294967296).toNat ||| (n_140%4294967296).toNat:Nat):Int) fun n_141=>exW .u32 (n_72+n_21) fun n_142=>exW .u32 (((n_56%4294967296).toNat ^^^ (n_142%4294967296).toNat:Nat):Int) fun n_143=>exW .u32 (n_143
 * 65536) fun n_144=>exI .u32 (Int.fdiv n_143 65536) fun n_145=>exW .u32 (((n_144%4294967296).toNat ||| (n_145%4294967296).toNat:Nat):Int) fun n_146=>exW .u32 (n_37+n_146) fun n_147=>exW .u32 (((n_21%4294967296).toNat
 ^^^ (n_147%4294967296).toNat:Nat):Int) fun n_148=>exW .u32 (n_148*4096) fun n_149=>exI .u32 (Int.fdiv n_148 1048576) fun n_150=>exW .u32 (((n_149%4294967296).toNat ||| (n_150%4294967296).toNat:Nat):Int) fun n_151=>
 exW .u32 (n_142+n_151) fun n_152=>exW .u32 (((n_146%4294967296).toNat ^^^ (n_152%4294967296).toNat:Nat):Int) fun n_153=>exW .u32 (n_153*256) fun n_154=>exI .u32 (Int.fdiv n_153 16777216) fun n_155=>exW .u32 (((n_154 %
 4294967296).toNat ||| (n_155%4294967296).toNat:Nat):Int) fun n_156=>exW .u32 (n_147+n_156) fun n_157=>exW .u32 (((n_151%4294967296).toNat ^^^ (n_157%4294967296).toNat:Nat):Int) fun n_158=>exW .u32 (n_158*128) fun
 n_159=>exI .u32 (Int.fdiv n_158 33554432) fun n_160=>exW .u32 (((n_159%4294967296).toNat ||| (n_160%4294967296).toNat:Nat):Int) fun n_161=>exW .i64 ((x_1.1:Int)+1) fun n_162=>(True∧(0:Nat)=(0:Nat))∧∃y_163 :
 Nat×W16,Lf (y_163.1≤10∧y_163.2=roundsM y_163.1 (W16.mk (W16.x0 w) (W16.x1 w) (W16.x2 w) (W16.x3 w) (W16.x4 w) (W16.x5 w) (W16.x6 w) (W16.x7 w) (W16.x8 w) (W16.x9 w) (W16.x10 w) (W16.x11 w) (c%4294967296).toNat (W16.x13 w)
 (W16.x14 w) (W16.x15 w)))∧10-y_163.1<10-x_1.1∧eqqQ [AV.int .u32 (w.1:Int),.int .u32 (w.2:Int),.int .u32 (w.3:Int),.int .u32 (w.4:Int),.int .u32 (w.5:Int),.int .u32 (w.6:Int),.int .u32 (w.7:Int),.int .u32 (w.8
 : Int),.int .u32 (w.9:Int),.int .u32 (w.10:Int),.int .u32 (w.11:Int),.int .u32 (w.12:Int),.int .u32 ((c%4294967296).toNat:Int),.int .u32 (w.14:Int),.int .u32 (w.15:Int),.int .u32 (w.16:Int)]∧eqqQ [AV.int .u8 0,
 .int .u8 0,.int .u8 0,.int .u8 0,.int .u8 0,.int .u8 0,.int .u8 0,.int .u8 0,.int .u8 0,.int .u8 0,.int .u8 0,.int .u8 0,.int .u8 0,.int .u8 0,.int .u8 0,.int .u8 0,.int .u8 0,.int .u8 0,.int .u8 0,.int .u8 0,.int .u8 0,
 .int .u8 0,.int .u8 0,.int .u8 0,.int .u8 0,.int .u8 0,.int .u8 0,.int .u8 0,.int .u8 0,.int .u8 0,.int .u8 0,.int .u8 0,.int .u8 0,.int .u8 0,.int .u8 0,.int .u8 0,.int .u8 0,.int .u8 0,.int .u8 0,.int .u8 0,.int .u8 0,
 .int .u8 0,.int .u8 0,.int .u8 0,.int .u8 0,.int .u8 0,.int .u8 0,.int .u8 0,.int .u8 0,.int .u8 0,.int .u8 0,.int .u8 0,.int .u8 0,.int .u8 0,.int .u8 0,.int .u8 0,.int .u8 0,.int .u8 0,.int .u8 0,.int .u8 0,.int .u8 0,
 .int .u8 0,.int .u8 0,.int .u8 0]∧[AV.int .u32 n_92,.int .u32 n_112,.int .u32 n_132,.int .u32 n_152,.int .u32 n_161,.int .u32 n_101,.int .u32 n_121,.int .u32 n_141,.int .u32 n_137,.int .u32 n_157,.int .u32 n_97,.int .u32
 n_117,.int .u32 n_116,.int .u32 n_136,.int .u32 n_156,.int .u32 n_96]=[AV.int .u32 (y_163.2.1:Int),.int .u32 (y_163.2.2:Int),.int .u32 (y_163.2.3:Int),.int .u32 (y_163.2.4:Int),.int .u32 (y_163.2.5:Int),.int .u32
 (y_163.2.6:Int),.int .u32 (y_163.2.7:Int),.int .u32 (y_163.2.8:Int),.int .u32 (y_163.2.9:Int),.int .u32 (y_163.2.10:Int),.int .u32 (y_163.2.11:Int),.int .u32 (y_163.2.12:Int),.int .u32 (y_163.2.13:Int),.int .u32
 (y_163.2.14:Int),.int .u32 (y_163.2.15:Int),.int .u32 (y_163.2.16:Int)]∧eqqQ [AV.ptr 2 16 0]∧AV.int .i64 n_162=AV.int .i64 (y_163.1:Int)∧eqqQ (AV.ptr 2 16 0)∧eqqQ (AV.ptr 0 16 0)∧eqqQ (AV.ptr 1 64 0)∧eqqQ (AV.ptr 3
 1 0)∧True else exI .u32 (w.1:Int) fun n_2=>exW .u32 (n_2+(x_1.2.1:Int)) fun n_3=>exW .u8 n_3 fun n_4=>exI .u32 (Int.fdiv n_3 256) fun n_5=>exW .u8 n_5 fun n_6=>exI .u32 (Int.fdiv n_3 65536) fun n_7=>exW .u8 n_7 fun n_8
 => exI .u32 (Int.fdiv n_3 16777216) fun n_9=>exW .u8 n_9 fun n_10=>exI .u32 (w.2:Int) fun n_11=>exW .u32 (n_11+(x_1.2.2:Int)) fun n_12=>exW .u8 n_12 fun n_13=>exI .u32 (Int.fdiv n_12 256) fun n_14=>exW .u8 n_14 fun n_15
 => exI .u32 (Int.fdiv n_12 65536) fun n_16=>exW .u8 n_16 fun n_17=>exI .u32 (Int.fdiv n_12 16777216) fun n_18=>exW .u8 n_18 fun n_19=>exI .u32 (w.3:Int) fun n_20=>exW .u32 (n_20+(x_1.2.3:Int)) fun n_21=>exW .u8 n_21 fun
 n_22=>exI .u32 (Int.fdiv n_21 256) fun n_23=>exW .u8 n_23 fun n_24=>exI .u32 (Int.fdiv n_21 65536) fun n_25=>exW .u8 n_25 fun n_26=>exI .u32 (Int.fdiv n_21 16777216) fun n_27=>exW .u8 n_27 fun n_28=>exI .u32 (w.4:Int) fun
 n_29=>exW .u32 (n_29+(x_1.2.4:Int)) fun n_30=>exW .u8 n_30 fun n_31=>exI .u32 (Int.fdiv n_30 256) fun n_32=>exW .u8 n_32 fun n_33=>exI .u32 (Int.fdiv n_30 65536) fun n_34=>exW .u8 n_34 fun n_35=>exI .u32 (Int.fdiv n_30
 16777216) fun n_36=>exW .u8 n_36 fun n_37=>exI .u32 (w.5:Int) fun n_38=>exW .u32 (n_38+(x_1.2.5:Int)) fun n_39=>exW .u8 n_39 fun n_40=>exI .u32 (Int.fdiv n_39 256) fun n_41=>exW .u8 n_41 fun n_42=>exI .u32 (Int.fdiv
 n_39 65536) fun n_43=>exW .u8 n_43 fun n_44=>exI .u32 (Int.fdiv n_39 16777216) fun n_45=>exW .u8 n_45 fun n_46=>exI .u32 (w.6:Int) fun n_47=>exW .u32 (n_47+(x_1.2.6:Int)) fun n_48=>exW .u8 n_48 fun n_49=>exI .u32
 (Int.fdiv n_48 256) fun n_50=>exW .u8 n_50 fun n_51=>exI .u32 (Int.fdiv n_48 65536) fun n_52=>exW .u8 n_52 fun n_53=>exI .u32 (Int.fdiv n_48 16777216) fun n_54=>exW .u8 n_54 fun n_55=>exI .u32 (w.7:Int) fun n_56=>exW .u32
 (n_56+(x_1.2.7:Int)) fun n_57=>exW .u8 n_57 fun n_58=>exI .u32 (Int.fdiv n_57 256) fun n_59=>exW .u8 n_59 fun n_60=>exI .u32 (Int.fdiv n_57 65536) fun n_61=>exW .u8 n_61 fun n_62=>exI .u32 (Int.fdiv n_57 16777216) fun n_63
 => exW .u8 n_63 fun n_64=>exI .u32 (w.8:Int) fun n_65=>exW .u32 (n_65+(x_1.2.8:Int)) fun n_66=>exW .u8 n_66 fun n_67=>exI .u32 (Int.fdiv n_66 256) fun n_68=>exW .u8 n_68 fun n_69=>exI .u32 (Int.fdiv n_66 65536) fun n_70
 => exW .u8 n_70 fun n_71=>exI .u32 (Int.fdiv n_66 16777216) fun n_72=>exW .u8 n_72 fun n_73=>exI .u32 (w.9:Int) fun n_74=>exW .u32 (n_74+(x_1.2.9:Int)) fun n_75=>exW .u8 n_75 fun n_76=>exI .u32 (Int.fdiv n_75 256) fun
 n_77=>exW .u8 n_77 fun n_78=>exI .u32 (Int.fdiv n_75 65536) fun n_79=>exW .u8 n_79 fun n_80=>exI .u32 (Int.fdiv n_75 16777216) fun n_81=>exW .u8 n_81 fun n_82=>exI .u32 (w.10:Int) fun n_83=>exW .u32 (n_83+(x_1.2.10 :
 Int)) fun n_84=>exW .u8 n_84 fun n_85=>exI .u32 (Int.fdiv n_84 256) fun n_86=>exW .u8 n_86 fun n_87=>exI .u32 (Int.fdiv n_84 65536) fun n_88=>exW .u8 n_88 fun n_89=>exI .u32 (Int.fdiv n_84 16777216) fun n_90=>exW .u8 n_90 fun
 n_91=>exI .u32 (w.11:Int) fun n_92=>exW .u32 (n_92+(x_1.2.11:Int)) fun n_93=>exW .u8 n_93 fun n_94=>exI .u32 (Int.fdiv n_93 256) fun n_95=>exW .u8 n_95 fun n_96=>exI .u32 (Int.fdiv n_93 65536) fun n_97=>exW .u8 n_97 fun
 n_98=>exI .u32 (Int.fdiv n_93 16777216) fun n_99=>exW .u8 n_99 fun n_100=>exI .u32 (w.12:Int) fun n_101=>exW .u32 (n_101+(x_1.2.12:Int)) fun n_102=>exW .u8 n_102 fun n_103=>exI .u32 (Int.fdiv n_102 256) fun n_104=>exW
 .u8 n_104 fun n_105=>exI .u32 (Int.fdiv n_102 65536) fun n_106=>exW .u8 n_106 fun n_107=>exI .u32 (Int.fdiv n_102 16777216) fun n_108=>exW .u8 n_108 fun n_109=>exI .u32 ((c%4294967296).toNat:Int) fun n_110=>exW .u32 (n_110
 + (x_1.2.13:Int)) fun n_111=>exW .u8 n_111 fun n_112=>exI .u32 (Int.fdiv n_111 256) fun n_113=>exW .u8 n_113 fun n_114=>exI .u32 (Int.fdiv n_111 65536) fun n_115=>exW .u8 n_115 fun n_116=>exI .u32 (Int.fdiv n_111 16777216)
 fun n_117=>exW .u8 n_117 fun n_118=>exI .u32 (w.14:Int) fun n_119=>exW .u32 (n_119+(x_1.2.14:Int)) fun n_120=>exW .u8 n_120 fun n_121=>exI .u32 (Int.fdiv n_120 256) fun n_122=>exW .u8 n_122 fun n_123=>exI .u32 (Int.fdiv
 n_120 65536) fun n_124=>exW .u8 n_124 fun n_125=>exI .u32 (Int.fdiv n_120 16777216) fun n_126=>exW .u8 n_126 fun n_127=>exI .u32 (w.15:Int) fun n_128=>exW .u32 (n_128+(x_1.2.15:Int)) fun n_129=>exW .u8 n_129 fun n_130=>
 exI .u32 (Int.fdiv n_129 256) fun n_131=>exW .u8 n_131 fun n_132=>exI .u32 (Int.fdiv n_129 65536) fun n_133=>exW .u8 n_133 fun n_134=>exI .u32 (Int.fdiv n_129 16777216) fun n_135=>exW .u8 n_135 fun n_136=>exI .u32 (w.16:Int)
 fun n_137=>exW .u32 (n_137+(x_1.2.16:Int)) fun n_138=>exW .u8 n_138 fun n_139=>exI .u32 (Int.fdiv n_138 256) fun n_140=>exW .u8 n_140 fun n_141=>exI .u32 (Int.fdiv n_138 65536) fun n_142=>exW .u8 n_142 fun n_143=>exI .u32
 (Int.fdiv n_138 16777216) fun n_144=>exW .u8 n_144 fun n_145=>Q (.ret (.agg [.int .u8 n_4,.int .u8 n_6,.int .u8 n_8,.int .u8 n_10,.int .u8 n_13,.int .u8 n_15,.int .u8 n_17,.int .u8 n_19,.int .u8 n_22,.int .u8 n_24,.int .u8
 n_26,.int .u8 n_28,.int .u8 n_31,.int .u8 n_33,.int .u8 n_35,.int .u8 n_37,.int .u8 n_40,.int .u8 n_42,.int .u8 n_44,.int .u8 n_46,.int .u8 n_49,.int .u8 n_51,.int .u8 n_53,.int .u8 n_55,.int .u8 n_58,.int .u8 n_60,.int .u8
 n_62,.int .u8 n_64,.int .u8 n_67,.int .u8 n_69,.int .u8 n_71,.int .u8 n_73,.int .u8 n_76,.int .u8 n_78,.int .u8 n_80,.int .u8 n_82,.int .u8 n_85,.int .u8 n_87,.int .u8 n_89,.int .u8 n_91,.int .u8 n_94,.int .u8 n_96,.int .u8
 n_98,.int .u8 n_100,.int .u8 n_103,.int .u8 n_105,.int .u8 n_107,.int .u8 n_109,.int .u8 n_112,.int .u8 n_114,.int .u8 n_116,.int .u8 n_118,.int .u8 n_121,.int .u8 n_123,.int .u8 n_125,.int .u8 n_127,.int .u8 n_130,.int .u8
 n_132,.int .u8 n_134,.int .u8 n_136,.int .u8 n_139,.int .u8 n_141,.int .u8 n_143,.int .u8 n_145])) [] {}):=by kernel_rfl


theorem blk_run (w:W16) (c:Int) (Q:Out→List Blk→Gh→Prop) (hq:Q (.ret (.agg (cells8NM (blkM w c)))) [] {}):∃hv hb,goal_47 hv hb w c Q:=by
 obtain ⟨hv,hb',e⟩:∃hv hb,goal_47 hv hb w c Q=_:=⟨_,_,vc_47 w c Q⟩
 refine ⟨hv,hb',e.mpr ?_⟩
 clear e
 unfold blkM at hq
 generalize hw : { w with x12:=(c%4294967296).toNat }=w' at *
 have h12:IntKind.wrap .u32 c=(((c%4294967296).toNat:Nat):Int):=by
  show c%4294967296=_
  omega
 have hcs:w'.cells=[.int .u32 w.x0,.int .u32 w.x1,.int .u32 w.x2,.int .u32 w.x3,.int .u32 w.x4,.int .u32 w.x5,.int .u32 w.x6,.int .u32 w.x7,.int .u32 w.x8,.int .u32 w.x9,.int .u32 w.x10,.int .u32 w.x11,.int .u32 (((c%4294967296).toNat:Nat):Int),.int .u32 w.x13,.int .u32 w.x14,.int .u32 w.x15]:=by subst hw;rfl
 simp only[W16.cells] at hcs
 refine ⟨_,by rw[h12],⟨(0,w'),⟨by omega,rfl⟩, ?_⟩, ?_⟩
 ·rw[hcs]
  simp
 rintro ⟨k,v⟩ ⟨hk,hv2⟩
 dsimp only at hk hv2
 refine splitD (fun h => ?_) (fun h => ?_)
 ·dsimp only at h ⊢
  refine quI (fun a0 b0 c0 d0 e0 => ?_)
  refine quI (fun a1 b1 c1 d1 e1 => ?_)
  refine quI (fun a2 b2 c2 d2 e2 => ?_)
  refine quI (fun a3 b3 c3 d3 e3 => ?_)
  refine quI (fun a4 b4 c4 d4 e4 => ?_)
  refine quI (fun a5 b5 c5 d5 e5 => ?_)
  refine quI (fun a6 b6 c6 d6 e6 => ?_)
  refine quI (fun a7 b7 c7 d7 e7 => ?_)
  have er:roundM v=⟨a4,a5,a6,a7,b7,b4,b5,b6,c6,c7,c4,c5,d5,d6,d7,d4⟩:=by simp only[roundM,e0,e1,e2,e3,e4,e5,e6,e7]
  refine wrapI (by omega) (by omega) ⟨⟨trivial,by trivial⟩,(k+1,roundM v),⟨by omega,by rw[hv2];rfl⟩, ?_, ?_⟩
  ·dsimp only;omega
  ·rw[er]
   simp
 ·obtain rfl:k=10:=by dsimp only at h;omega
  dsimp only
  refine woI (fun p0 q0 r0 s0 f0 => ?_)
  refine woI (fun p1 q1 r1 s1 f1 => ?_)
  refine woI (fun p2 q2 r2 s2 f2 => ?_)
  refine woI (fun p3 q3 r3 s3 f3 => ?_)
  refine woI (fun p4 q4 r4 s4 f4 => ?_)
  refine woI (fun p5 q5 r5 s5 f5 => ?_)
  refine woI (fun p6 q6 r6 s6 f6 => ?_)
  refine woI (fun p7 q7 r7 s7 f7 => ?_)
  refine woI (fun p8 q8 r8 s8 f8 => ?_)
  refine woI (fun p9 q9 r9 s9 f9 => ?_)
  refine woI (fun p10 q10 r10 s10 f10 => ?_)
  refine woI (fun p11 q11 r11 s11 f11 => ?_)
  refine woI (fun p12 q12 r12 s12 f12 => ?_)
  refine woI (fun p13 q13 r13 s13 f13 => ?_)
  refine woI (fun p14 q14 r14 s14 f14 => ?_)
  refine woI (fun p15 q15 r15 s15 f15 => ?_)
  subst hw
  rw[←hv2] at hq
  simp only[outM,f0,f1,f2,f3,f4,f5,f6,f7,f8,f9,f10,f11,f12,f13,f14,f15,cells8NM,List.cons_append,List.nil_append,List.map_cons,List.map_nil] at hq
  exact hq
end Go.Proofs.YtjenieljapmehaaGreatDoor.Rc
