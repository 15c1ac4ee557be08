/-
  Chapter 3: the run of Apply.
-/
import Derived.Test.YtjenieljapmehaaGreatDoorR21SD
set_option linter.unusedSimpArgs false
set_option linter.unusedVariables false
namespace Go.Proofs.YtjenieljapmehaaGreatDoor.Rc
open Go.RowKit
set_option maxRecDepth 1000000

def smD:SM:=lookS [(99,cFirst),(122,cBlk)]
theorem smD_ok:∀f g,smD f=some g→ValidF Tryz.prog gl0 f g:=lookS_ok _ (by simp only[List.mem_cons,List.not_mem_nil,or_false,forall_eq_or_imp,forall_eq];exact ⟨first_ok,blk_ok⟩)
def x8M (a:UInt8) (n:Nat):UInt8:=a ^^^ UInt8.ofNat n
def zipXM (s:List UInt8) (l:List Nat):List UInt8:=List.zipWith x8M s l
def appM (w:W16) (c:Int):Nat→List UInt8→List UInt8
 | 0,_=>[]
 | f+1,s=>if s.length≤64 then zipXM s (blkM w c) else zipXM (s.take 64) (blkM w c)++appM w (c+1) f (s.drop 64)
abbrev X68:=Nat×List UInt8×List UInt8
def inv_68 (w:W16) (c:Int) (s:List UInt8):LInv where
 α:=X68
 pre a:=Lf (a.2.1.length=64*a.1∧a.2.1.length+a.2.2.length=s.length∧(a.1=0∨0<a.2.2.length)∧a.1≤70∧appM w c 70 s=a.2.1++appM w (c+a.1) (70-a.1) a.2.2)
 st a:=⟨mkT [(0,.yld 0),(1,.ptr 3 16 0),(2,.ptr 4 1 0)],[⟨.grow,true,ofBytes (a.2.1++a.2.2)⟩,⟨.exact,false,[.sl 0 s.length 0 s.length 1]⟩,⟨.exact,true,[.int .i64 ((64*a.1:Nat):Int)]⟩,⟨.exact,true,w.cells⟩,⟨.exact,true,[.int .i64 (c+(a.1:Nat))]⟩]⟩
 mu a:=71-a.1
abbrev X21:=Nat×List UInt8×List UInt8×List Nat×Nat
def inv_21i (w:W16) (s:List UInt8) (ce:Int) (O bc:List AV) (at0:Int):LInv where
 α:=X21
 pre a:=Lf (a.2.1.length=64*a.1∧O=ofBytes (a.2.1++a.2.2.1)∧at0=((64*a.1:Nat):Int)∧bc=cells8NM a.2.2.2.1∧a.2.2.2.1.length=64∧a.2.2.2.2≤64∧a.2.2.2.2≤a.2.2.1.length∧a.2.1.length+a.2.2.1.length=s.length)
 st a:=⟨mkT [(10,.ptr 1 1 0),(11,.ptr 2 1 0),(12,.ptr 5 64 0),(13,.int .i64 (a.2.2.2.2:Nat))],[⟨.grow,true,ofBytes (a.2.1++(zipXM (a.2.2.1.take a.2.2.2.2) a.2.2.2.1++a.2.2.1.drop a.2.2.2.2))⟩,⟨.exact,false,[.sl 0 s.length 0 s.length 1]⟩,⟨.exact,true,[.int .i64 ((64*a.1+a.2.2.2.2:Nat):Int)]⟩,⟨.exact,true,w.cells⟩,⟨.exact,true,[.int .i64 ce]⟩,⟨.exact,true,bc⟩]⟩
 mu a:=64-a.2.2.2.2
def inv_21f (w:W16) (s:List UInt8) (S:S):List (List LInv):=match S.hp with
 | [b0,_,b2,_,b4,b5]=>(match b2.cs,b4.cs with
  | [.int _ at0],[.int _ ce]=>[[inv_21i w s ce b0.cs b5.cs at0]]
  | _,_=>[])
 | _=>[]
noncomputable def env_21 (hv:Nat→Option Pa) (hb:Nat→Option Bool) (w:W16) (c:Int) (s:List UInt8):Env:=
 e04 smD (fun i=>bif Nat.beq i 124000 then some (fun _=>[[inv_68 w c s]]) else bif Nat.beq i 73003 then some (inv_21f w s) else none) hv hb
noncomputable def goal_21 (hv:Nat→Option Pa) (hb:Nat→Option Bool) (w0:W16) (key nonce:List UInt8) (c:Int) (s:List UInt8) (Q:Out→List Blk→Gh→Prop):Prop:=
 callx (env_21 hv hb w0 c s) (wpx (env_21 hv hb w0 c s) 1000) 73 [.str key,.str nonce,.int .i64 c,.str s] [] {} Q
theorem vc_21 (w0:Rc.W16) (key:List UInt8) (nonce:List UInt8) (c:Int) (s:List UInt8) (Q:Out→List Blk→Gh→Prop):goal_21 (lookV [(401416,.int .i64),(401420,.int .i64),(299030,.int .i64),(299035,.int .i64),(299036,
 .int .i64),(299037,.int .i64),(299038,.int .i64),(507910,.int .i64),(299051,.int .i64),(299053,.int .i64),(299059,.int .i64),(299061,.int .u8),(299064,.int .u8),(299065,.int .u8),(299067,.int .i64),(299068,.int .i64),
 (299057,.int .i64),(299069,.int .i64),(299071,.int .i64),(299074,.str),(507913,.int .i64),(507914,.int .i64)]) (lookB []) w0 key nonce c s Q=(exI .i64 (key.length:Int) fun n_0=>bif n_0==32 then exI .i64 (nonce.length :
 Int) fun n_1=>bif n_1==12 then bif decide (c≥0) then bif decide (c<4294967296) then exI .i64 (s.length:Int) fun n_2=>bif decide (n_2>4096) then Q (.ret (.tup [.str [],.int .i64 3])) [] {} else exI .i64 (s.length:Int) fun
 n_3=>exW .i64 (n_3+63) fun n_4=>exW .i64 (n_4.tdiv 64) fun n_5=>exW .i64 (c+n_5) fun n_6=>bif decide (n_6>4294967296) then Q (.ret (.tup [.str [],.int .i64 6])) [] {} else Lf (key.length=32∧nonce.length=12)∧∀w_7 :
 Rc.W16,Lf (w_7=Rc.firstM key nonce)→(∃x_8:Nat×List UInt8×List UInt8,Lf (x_8.2.1.length=64*x_8.1∧x_8.2.1.length+x_8.2.2.length=s.length∧(x_8.1=0∨0<x_8.2.2.length)∧x_8.1≤70∧Rc.appM w0 c 70 s=x_8.2.1 ++
 Rc.appM w0 (c+(x_8.1:Int)) (70-x_8.1) x_8.2.2)∧ckQ (oldL 0 (ofBytes s)==true) (ofBytes s=ofBytes (x_8.2.1++x_8.2.2)∧eqqQ [AV.sl 0 s.length 0 s.length 1]∧[AV.int .i64 0]=[AV.int .i64 ((64*x_8.1:Nat):Int)]∧[AV.int
 .u32 (w_7.1:Int),.int .u32 (w_7.2:Int),.int .u32 (w_7.3:Int),.int .u32 (w_7.4:Int),.int .u32 (w_7.5:Int),.int .u32 (w_7.6:Int),.int .u32 (w_7.7:Int),.int .u32 (w_7.8:Int),.int .u32 (w_7.9:Int),.int .u32 (w_7.10 :
 Int),.int .u32 (w_7.11:Int),.int .u32 (w_7.12:Int),.int .u32 (w_7.13:Int),.int .u32 (w_7.14:Int),.int .u32 (w_7.15:Int),.int .u32 (w_7.16:Int)]=[AV.int .u32 (w0.1:Int),.int .u32 (w0.2:Int),.int .u32 (w0.3:Int),
 .int .u32 (w0.4:Int),.int .u32 (w0.5:Int),.int .u32 (w0.6:Int),.int .u32 (w0.7:Int),.int .u32 (w0.8:Int),.int .u32 (w0.9:Int),.int .u32 (w0.10:Int),.int .u32 (w0.11:Int),.int .u32 (w0.12:Int),.int .u32 (w0.13 :
 Int),.int .u32 (w0.14:Int),.int .u32 (w0.15:Int),.int .u32 (w0.16:Int)]∧[AV.int .i64 c]=[AV.int .i64 (c+(x_8.1:Int))]∧eqqQ (AV.yld 0)∧eqqQ (AV.ptr 3 16 0)∧eqqQ (AV.ptr 4 1 0)∧True))∧∀x_8:Nat×List UInt8 ×
 List UInt8,Lf (x_8.2.1.length=64*x_8.1∧x_8.2.1.length+x_8.2.2.length=s.length∧(x_8.1=0∨0<x_8.2.2.length)∧x_8.1≤70∧Rc.appM w0 c 70 s=x_8.2.1++Rc.appM w0 (c+(x_8.1:Int)) (70-x_8.1) x_8.2.2)→exI .i64 (c +
 (x_8.1:Int)) fun n_9=>∃w_10:Rc.W16,Lf ([AV.int .u32 (w0.1:Int),.int .u32 (w0.2:Int),.int .u32 (w0.3:Int),.int .u32 (w0.4:Int),.int .u32 (w0.5:Int),.int .u32 (w0.6:Int),.int .u32 (w0.7:Int),.int .u32 (w0.8 :
 Int),.int .u32 (w0.9:Int),.int .u32 (w0.10:Int),.int .u32 (w0.11:Int),.int .u32 (w0.12:Int),.int .u32 (w0.13:Int),.int .u32 (w0.14:Int),.int .u32 (w0.15:Int),.int .u32 (w0.16:Int)]=[AV.int .u32 (w_10.1:Int),
 .int .u32 (w_10.2:Int),.int .u32 (w_10.3:Int),.int .u32 (w_10.4:Int),.int .u32 (w_10.5:Int),.int .u32 (w_10.6:Int),.int .u32 (w_10.7:Int),.int .u32 (w_10.8:Int),.int .u32 (w_10.9:Int),.int .u32 (w_10.10:Int),.int
 .u32 (w_10.11:Int),.int .u32 (w_10.12:Int),.int .u32 (w_10.13:Int),.int .u32 (w_10.14:Int),.int .u32 (w_10.15:Int),.int .u32 (w_10.16:Int)])∧∀l_11:List Nat,Lf (l_11=Rc.blkM w_10 n_9)→ckQ (Nat.beq (Rc.cells8NM
 l_11).length 64&&oneL (Rc.cells8NM l_11)&&true) ((∃x_12:Nat×List UInt8×List UInt8×List Nat×Nat,Lf (x_12.2.1.length=64*x_12.1∧ofBytes (x_8.2.1++x_8.2.2)=ofBytes (x_12.2.1++x_12.2.2.1)∧((64*x_8.1:Nat):Int)
 = ((64*x_12.1:Nat):Int)∧setRange [.int .u8 0,.int .u8 0,.int .u8 0,.int .u8 0,.int .u8 0,.int .u8 0,.int .u8 0,.int .u8 0,.int .u8 0,.int .u8 0,.int .u8 0,.int .u8 0,.int .u8 0,.int .u8 0,.int .u8 0,.int .u8 0,.int
 .u8 0,.int .u8 0,.int .u8 0,.int .u8 0,.int .u8 0,.int .u8 0,.int .u8 0,.int .u8 0,.int .u8 0,.int .u8 0,.int .u8 0,.int .u8 0,.int .u8 0,.int .u8 0,.int .u8 0,.int .u8 0,.int .u8 0,.int .u8 0,.int .u8 0,.int .u8 0,.int
 .u8 0,.int .u8 0,.int .u8 0,.int .u8 0,.int .u8 0,.int .u8 0,.int .u8 0,.int .u8 0,.int .u8 0,.int .u8 0,.int .u8 0,.int .u8 0,.int .u8 0,.int .u8 0,.int .u8 0,.int .u8 0,.int .u8 0,.int .u8 0,.int .u8 0,.int .u8 0,.int
 .u8 0,.int .u8 0,.int .u8 0,.int .u8 0,.int .u8 0,.int .u8 0,.int .u8 0,.int .u8 0] 0 (Rc.cells8NM l_11)=Rc.cells8NM x_12.2.2.2.1∧x_12.2.2.2.1.length=64∧x_12.2.2.2.2≤64∧x_12.2.2.2.2≤x_12.2.2.1.length∧x_12.2.1.length
 + x_12.2.2.1.length=s.length)∧ofBytes (x_8.2.1++x_8.2.2)=ofBytes (x_12.2.1++(Rc.zipXM (x_12.2.2.1.take x_12.2.2.2.2) x_12.2.2.2.1++x_12.2.2.1.drop x_12.2.2.2.2))∧eqqQ [AV.sl 0 s.length 0 s.length 1]∧[AV.int .i64 ((64 *
 x_8.1:Nat):Int)]=[AV.int .i64 ((64*x_12.1+x_12.2.2.2.2:Nat):Int)]∧eqqQ [AV.int .u32 (w0.1:Int),.int .u32 (w0.2:Int),.int .u32 (w0.3:Int),.int .u32 (w0.4:Int),.int .u32 (w0.5:Int),.int .u32 (w0.6:Int),.int
 .u32 (w0.7:Int),.int .u32 (w0.8:Int),.int .u32 (w0.9:Int),.int .u32 (w0.10:Int),.int .u32 (w0.11:Int),.int .u32 (w0.12:Int),.int .u32 (w0.13:Int),.int .u32 (w0.14:Int),.int .u32 (w0.15:Int),.int .u32 (w0.16 :
 Int)]∧eqqQ [AV.int .i64 (c+(x_8.1:Int))]∧ckQ (oldL 0 (Rc.cells8NM l_11)==true) (eqqQ (setRange [.int .u8 0,.int .u8 0,.int .u8 0,.int .u8 0,.int .u8 0,.int .u8 0,.int .u8 0,.int .u8 0,.int .u8 0,.int .u8 0,.int .u8 0,
 .int .u8 0,.int .u8 0,.int .u8 0,.int .u8 0,.int .u8 0,.int .u8 0,.int .u8 0,.int .u8 0,.int .u8 0,.int .u8 0,.int .u8 0,.int .u8 0,.int .u8 0,.int .u8 0,.int .u8 0,.int .u8 0,.int .u8 0,.int .u8 0,.int .u8 0,.int .u8 0,
 .int .u8 0,.int .u8 0,.int .u8 0,.int .u8 0,.int .u8 0,.int .u8 0,.int .u8 0,.int .u8 0,.int .u8 0,.int .u8 0,.int .u8 0,.int .u8 0,.int .u8 0,.int .u8 0,.int .u8 0,.int .u8 0,.int .u8 0,.int .u8 0,.int .u8 0,.int .u8 0,
 .int .u8 0,.int .u8 0,.int .u8 0,.int .u8 0,.int .u8 0,.int .u8 0,.int .u8 0,.int .u8 0,.int .u8 0,.int .u8 0,.int .u8 0,.int .u8 0,.int .u8 0] 0 (Rc.cells8NM l_11))∧eqqQ (AV.ptr 2 1 0)∧AV.int .i64 0=AV.int .i64
 (x_12.2.2.2.2:Int)∧eqqQ (AV.ptr 5 64 0)∧eqqQ (AV.ptr 1 1 0)∧True))∧∀x_12:Nat×List UInt8×List UInt8×List Nat×Nat,Lf (x_12.2.1.length=64*x_12.1∧ofBytes (x_8.2.1++x_8.2.2)=ofBytes (x_12.2.1++x_12.2.2.1) ∧
 ((64*x_8.1:Nat):Int)=((64*x_12.1:Nat):Int)∧setRange [.int .u8 0,.int .u8 0,.int .u8 0,.int .u8 0,.int .u8 0,.int .u8 0,.int .u8 0,.int .u8 0,.int .u8 0,.int .u8 0,.int .u8 0,.int .u8 0,.int .u8 0,.int .u8 0,
 .int .u8 0,.int .u8 0,.int .u8 0,.int .u8 0,.int .u8 0,.int .u8 0,.int .u8 0,.int .u8 0,.int .u8 0,.int .u8 0,.int .u8 0,.int .u8 0,.int .u8 0,.int .u8 0,.int .u8 0,.int .u8 0,.int .u8 0,.int .u8 0,.int .u8 0,.int .u8 0,
 .int .u8 0,.int .u8 0,.int .u8 0,.int .u8 0,.int .u8 0,.int .u8 0,.int .u8 0,.int .u8 0,.int .u8 0,.int .u8 0,.int .u8 0,.int .u8 0,.int .u8 0,.int .u8 0,.int .u8 0,.int .u8 0,.int .u8 0,.int .u8 0,.int .u8 0,.int .u8 0,
 .int .u8 0,.int .u8 0,.int .u8 0,.int .u8 0,.int .u8 0,.int .u8 0,.int .u8 0,.int .u8 0,.int .u8 0,.int .u8 0] 0 (Rc.cells8NM l_11)=Rc.cells8NM x_12.2.2.2.1∧x_12.2.2.2.1.length=64∧x_12.2.2.2.2≤64∧x_12.2.2.2.2 ≤
 x_12.2.2.1.length∧x_12.2.1.length+x_12.2.2.1.length=s.length)→bif decide ((x_12.2.2.2.2:Int)<64) then exI .i64 ((64*x_12.1+x_12.2.2.2.2:Nat):Int) fun n_13=>ckQ (Nat.beq (ofBytes (x_12.2.1++(Rc.zipXM (x_12.2.2.1.take
 x_12.2.2.2.2) x_12.2.2.2.1++x_12.2.2.1.drop x_12.2.2.2.2))).length s.length) (exI .i64 (s.length:Int) fun n_14=>bif decide (n_13<n_14) then exI .i64 ((64*x_12.1+x_12.2.2.2.2:Nat):Int) fun n_15=>ckQ (decide (0≤n_15) &&
 Nat.blt n_15.toNat s.length&&Nat.beq (ofBytes (x_12.2.1++(Rc.zipXM (x_12.2.2.1.take x_12.2.2.2.2) x_12.2.2.2.1++x_12.2.2.1.drop x_12.2.2.2.2))).length s.length&&true) (ckQ (Nat.beq (ofBytes (x_12.2.1++(Rc.zipXM (x_12.2.2.1.take
 x_12.2.2.2.2) x_12.2.2.2.1++x_12.2.2.1.drop x_12.2.2.2.2))).length s.length&&Nat.blt (0+n_15.toNat*1) s.length) (exV .u8 ((((ofBytes (x_12.2.1++(Rc.zipXM (x_12.2.2.1.take x_12.2.2.2.2) x_12.2.2.2.1++x_12.2.2.1.drop
 x_12.2.2.2.2))).drop (0+n_15.toNat*1)).take 1).getD 0 AV.undef) fun n_16=>ckQ (Nat.blt (x_12.2.2.2.2:Int).toNat 64&&Nat.beq (setRange [.int .u8 0,.int .u8 0,.int .u8 0,.int .u8 0,.int .u8 0,.int .u8 0,.int .u8 0,.int .u8
 0,.int .u8 0,.int .u8 0,.int .u8 0,.int .u8 0,.int .u8 0,.int .u8 0,.int .u8 0,.int .u8 0,.int .u8 0,.int .u8 0,.int .u8 0,.int .u8 0,.int .u8 0,.int .u8 0,.int .u8 0,.int .u8 0,.int .u8 0,.int .u8 0,.int .u8 0,.int .u8
 0,.int .u8 0,.int .u8 0,.int .u8 0,.int .u8 0,.int .u8 0,.int .u8 0,.int .u8 0,.int .u8 0,.int .u8 0,.int .u8 0,.int .u8 0,.int .u8 0,.int .u8 0,.int .u8 0,.int .u8 0,.int .u8 0,.int .u8 0,.int .u8 0,.int .u8 0,.int .u8
 0,.int .u8 0,.int .u8 0,.int .u8 0,.int .u8 0,.int .u8 0,.int .u8 0,.int .u8 0,.int .u8 0,.int .u8 0,.int .u8 0,.int .u8 0,.int .u8 0,.int .u8 0,.int .u8 0,.int .u8 0,.int .u8 0] 0 (Rc.cells8NM l_11)).length 64) (ckQ
 (Nat.beq (setRange [.int .u8 0,.int .u8 0,.int .u8 0,.int .u8 0,.int .u8 0,.int .u8 0,.int .u8 0,.int .u8 0,.int .u8 0,.int .u8 0,.int .u8 0,.int .u8 0,.int .u8 0,.int .u8 0,.int .u8 0,.int .u8 0,.int .u8 0,.int .u8 0,
 .int .u8 0,.int .u8 0,.int .u8 0,.int .u8 0,.int .u8 0,.int .u8 0,.int .u8 0,.int .u8 0,.int .u8 0,.int .u8 0,.int .u8 0,.int .u8 0,.int .u8 0,.int .u8 0,.int .u8 0,.int .u8 0,.int .u8 0,.int .u8 0,.int .u8 0,.int .u8 0,
 .int .u8 0,.int .u8 0,.int .u8 0,.int .u8 0,.int .u8 0,.int .u8 0,.int .u8 0,.int .u8 0,.int .u8 0,.int .u8 0,.int .u8 0,.int .u8 0,.int .u8 0,.int .u8 0,.int .u8 0,.int .u8 0,.int .u8 0,.int .u8 0,.int .u8 0,.int .u8 0,
 .int .u8 0,.int .u8 0,.int .u8 0,.int .u8 0,.int .u8 0,.int .u8 0] 0 (Rc.cells8NM l_11)).length 64&&Nat.blt (0+(x_12.2.2.2.2:Int).toNat*1) 64) (exV .u8 ((((setRange [.int .u8 0,.int .u8 0,.int .u8 0,.int .u8 0,.int .u8 0,
 .int .u8 0,.int .u8 0,.int .u8 0,.int .u8 0,.int .u8 0,.int .u8 0,.int .u8 0,.int .u8 0,.int .u8 0,.int .u8 0,.int .u8 0,.int .u8 0,.int .u8 0,.int .u8 0,.int .u8 0,.int .u8 0,.int .u8 0,.int .u8 0,.int .u8 0,.int .u8 0,
 .int .u8 0,.int .u8 0,.int .u8 0,.int .u8 0,.int .u8 0,.int .u8 0,.int .u8 0,.int .u8 0,.int .u8 0,.int .u8 0,.int .u8 0,.int .u8 0,.int .u8 0,.int .u8 0,.int .u8 0,.int .u8 0,.int .u8 0,.int .u8 0,.int .u8 0,.int .u8 0,
 .int .u8 0,.int .u8 0,.int .u8 0,.int .u8 0,.int .u8 0,.int .u8 0,.int .u8 0,.int .u8 0,.int .u8 0,.int .u8 0,.int .u8 0,.int .u8 0,.int .u8 0,.int .u8 0,.int .u8 0,.int .u8 0,.int .u8 0,.int .u8 0,.int .u8 0] 0
 (Rc.cells8NM l_11)).drop (0+(x_12.2.2.2.2:Int).toNat*1)).take 1).getD 0 AV.undef) fun n_17=>exW .u8 (((n_16%256).toNat ^^^ (n_17%256).toNat:Nat):Int) fun n_18=>ckQ (decide (0≤n_15)&&Nat.blt n_15.toNat s.length &&
 Nat.beq (ofBytes (x_12.2.1++(Rc.zipXM (x_12.2.2.1.take x_12.2.2.2.2) x_12.2.2.2.1++x_12.2.2.1.drop x_12.2.2.2.2))).length s.length&&true) (ckQ (Nat.beq (ofBytes (x_12.2.1++(Rc.zipXM (x_12.2.2.1.take x_12.2.2.2.2) x_12.2.2.2.1 ++
 x_12.2.2.1.drop x_12.2.2.2.2))).length s.length&&Nat.ble (0+n_15.toNat*1+1) s.length&&true&&true&&true) (exI .i64 ((64*x_12.1+x_12.2.2.2.2:Nat):Int) fun n_19=>exW .i64 (n_19+1) fun n_20=>exW .i64 ((x_12.2.2.2.2
 : Int)+1) fun n_21=>(eqqQ [Lp.mk 0 (T.n (T.n (T.n (T.n (T.n (T.n T.e (.bool false) T.e) (.str key) T.e) .undef (T.n T.e (.bool false) T.e)) (.str s) (T.n (T.n (T.n T.e (.str nonce) T.e) (.bool false) T.e) (.ptr 2 1 0) (T.n T.e (.int
 .i64 n_3) T.e))) (.str nonce) (T.n (T.n (T.n (T.n T.e (.sl 0 s.length 0 s.length 1) T.e) (.int .i64 c) T.e) (.int .i64 0) (T.n T.e (.int .i64 c) T.e)) .undef (T.n (T.n (T.n T.e (.int .i64 c) T.e) (.str s) T.e) .undef (T.n T.e (.int .i64
 n_5) T.e)))) (.str key) (T.n (T.n (T.n (T.n (T.n T.e (.str s) T.e) (.str nonce) T.e) (.str []) (T.n T.e (.bool false) T.e)) .undef (T.n (T.n (T.n T.e (.agg [.int .u32 (w_7.1:Int),.int .u32 (w_7.2:Int),.int .u32 (w_7.3:Int),.int
 .u32 (w_7.4:Int),.int .u32 (w_7.5:Int),.int .u32 (w_7.6:Int),.int .u32 (w_7.7:Int),.int .u32 (w_7.8:Int),.int .u32 (w_7.9:Int),.int .u32 (w_7.10:Int),.int .u32 (w_7.11:Int),.int .u32 (w_7.12:Int),.int .u32
 (w_7.13:Int),.int .u32 (w_7.14:Int),.int .u32 (w_7.15:Int),.int .u32 (w_7.16:Int)]) T.e) (.bool false) T.e) .undef (T.n T.e (.int .i64 n_4) T.e))) (.int .i64 c) (T.n (T.n (T.n (T.n T.e (.str key) T.e) (.bool true) T.e) (.ptr 1 1
 0) (T.n T.e (.str s) T.e)) .undef (T.n (T.n (T.n T.e (.fn (Fn.func 124) [] [.ptr 3 16 0,.ptr 4 1 0]) T.e) (.int .i64 n_2) T.e) (.bool false) (T.n T.e (.int .i64 n_6) T.e))))) [39] (AC.region [AOper.mk (Option.some (12:Nat)) (AOp.box
 (AO.c (.agg [.int .u8 0,.int .u8 0,.int .u8 0,.int .u8 0,.int .u8 0,.int .u8 0,.int .u8 0,.int .u8 0,.int .u8 0,.int .u8 0,.int .u8 0,.int .u8 0,.int .u8 0,.int .u8 0,.int .u8 0,.int .u8 0,.int .u8 0,.int .u8 0,.int .u8
 0,.int .u8 0,.int .u8 0,.int .u8 0,.int .u8 0,.int .u8 0,.int .u8 0,.int .u8 0,.int .u8 0,.int .u8 0,.int .u8 0,.int .u8 0,.int .u8 0,.int .u8 0,.int .u8 0,.int .u8 0,.int .u8 0,.int .u8 0,.int .u8 0,.int .u8 0,.int .u8
 0,.int .u8 0,.int .u8 0,.int .u8 0,.int .u8 0,.int .u8 0,.int .u8 0,.int .u8 0,.int .u8 0,.int .u8 0,.int .u8 0,.int .u8 0,.int .u8 0,.int .u8 0,.int .u8 0,.int .u8 0,.int .u8 0,.int .u8 0,.int .u8 0,.int .u8 0,.int .u8
 0,.int .u8 0,.int .u8 0,.int .u8 0,.int .u8 0,.int .u8 0]))) Option.none 0 0,AOper.mk Option.none (AOp.st 64 (AO.t 12) (AO.t 39)) Option.none 0 0]) (AC.block 2 (AC.seq (AC.seq (AC.region [AOper.mk (Option.some (13:Nat)) (AOp.mv
 (AO.c (.int .i64 0))) Option.none 0 0]) (AC.block 3 (AC.loop 73003 15360 (AC.seq (AC.seq (AC.region [AOper.mk (Option.some (40:Nat)) (AOp.mv (AO.t 13)) Option.none 0 0,AOper.mk (Option.some (41:Nat)) (AOp.bin Go.BinOp.lss Sh.it (AO.t
 40) (AO.c (.int .i64 64))) Option.none 0 0,AOper.mk (Option.some (42:Nat)) (AOp.mv (AO.t 41)) Option.none 0 0,AOper.mk (Option.some (43:Nat)) (AOp.ld false 1 (AO.t 11)) (Option.some (Prod.mk (42:Nat) true)) 0 0,AOper.mk
 (Option.some (44:Nat)) (AOp.ld false 1 (AO.t 10)) (Option.some (Prod.mk (42:Nat) true)) 0 0,AOper.mk (Option.some (45:Nat)) (AOp.lenL (AO.t 44)) (Option.some (Prod.mk (42:Nat) true)) 0 0,AOper.mk (Option.some (46:Nat)) (AOp.bin
 Go.BinOp.lss Sh.it (AO.t 43) (AO.t 45)) (Option.some (Prod.mk (42:Nat) true)) 0 0,AOper.mk (Option.some (47:Nat)) (AOp.pick (AO.t 42) (AO.t 46) (AO.c (.bool false))) Option.none 0 0]) (AC.cond (AO.t 47) AC.skip (AC.exit 3))) (AC.seq
 (AC.block 4 (AC.seq (AC.drawn [AOper.mk (Option.some (50:Nat)) (AOp.ld false 1 (AO.t 10)) Option.none 0 0,AOper.mk (Option.some (51:Nat)) (AOp.ld false 1 (AO.t 11)) Option.none 1 0,AOper.mk (Option.some (52:Nat)) (AOp.iaL 1 (AO.t
 50) (AO.t 51)) Option.none 2 3,AOper.mk (Option.some (53:Nat)) (AOp.ld false 1 (AO.t 52)) Option.none 3 7,AOper.mk (Option.some (54:Nat)) (AOp.mv (AO.t 13)) Option.none 4 0,AOper.mk (Option.some (55:Nat)) (AOp.iaA 64 1 (AO.t 12)
 (AO.t 54)) Option.none 5 16,AOper.mk (Option.some (56:Nat)) (AOp.ld false 1 (AO.t 55)) Option.none 6 48,AOper.mk (Option.some (57:Nat)) (AOp.bin Go.BinOp.xor Sh.it (AO.t 53) (AO.t 56)) Option.none 7 127,AOper.mk (Option.some (58 :
 Nat)) (AOp.iaL 1 (AO.t 50) (AO.t 51)) Option.none 8 255,AOper.mk Option.none (AOp.st 1 (AO.t 58) (AO.t 57)) Option.none 9 511]) (AC.region [AOper.mk (Option.some (59:Nat)) (AOp.ld false 1 (AO.t 11)) Option.none 0 0,AOper.mk
 (Option.some (60:Nat)) (AOp.bin Go.BinOp.add Sh.it (AO.t 59) (AO.c (.int .i64 1))) Option.none 0 0,AOper.mk Option.none (AOp.st 1 (AO.t 11) (AO.t 60)) Option.none 0 0]))) (AC.region [AOper.mk (Option.some (48:Nat)) (AOp.mv (AO.t 13))
 Option.none 0 0,AOper.mk (Option.some (49:Nat)) (AOp.bin Go.BinOp.add Sh.it (AO.t 48) (AO.c (.int .i64 1))) Option.none 0 0,AOper.mk (Option.some (13:Nat)) (AOp.mv (AO.t 49)) Option.none 0 0])))))) (AC.seq (AC.region [AOper.mk
 (Option.some (61:Nat)) (AOp.ld false 1 (AO.t 11)) Option.none 0 0,AOper.mk (Option.some (62:Nat)) (AOp.ld false 1 (AO.t 10)) Option.none 0 0,AOper.mk (Option.some (63:Nat)) (AOp.lenL (AO.t 62)) Option.none 0 0,AOper.mk
 (Option.some (64:Nat)) (AOp.bin Go.BinOp.eql Sh.it (AO.t 61) (AO.t 63)) Option.none 0 0]) (AC.cond (AO.t 64) (AC.exit 1) AC.skip)))) Lst.busy 73]∧(1:Nat)=(1:Nat))∧∃y_22:Nat×List UInt8×List UInt8×List Nat×Nat,Lf
 (y_22.2.1.length=64*y_22.1∧ofBytes (x_8.2.1++x_8.2.2)=ofBytes (y_22.2.1++y_22.2.2.1)∧((64*x_8.1:Nat):Int)=((64*y_22.1:Nat):Int)∧setRange [.int .u8 0,.int .u8 0,.int .u8 0,.int .u8 0,.int .u8 0,.int .u8 0,
 .int .u8 0,.int .u8 0,.int .u8 0,.int .u8 0,.int .u8 0,.int .u8 0,.int .u8 0,.int .u8 0,.int .u8 0,.int .u8 0,.int .u8 0,.int .u8 0,.int .u8 0,.int .u8 0,.int .u8 0,.int .u8 0,.int .u8 0,.int .u8 0,.int .u8 0,.int .u8 0,
 .int .u8 0,.int .u8 0,.int .u8 0,.int .u8 0,.int .u8 0,.int .u8 0,.int .u8 0,.int .u8 0,.int .u8 0,.int .u8 0,.int .u8 0,.int .u8 0,.int .u8 0,.int .u8 0,.int .u8 0,.int .u8 0,.int .u8 0,.int .u8 0,.int .u8 0,.int .u8 0,
 .int .u8 0,.int .u8 0,.int .u8 0,.int .u8 0,.int .u8 0,.int .u8 0,.int .u8 0,.int .u8 0,.int .u8 0,.int .u8 0,.int .u8 0,.int .u8 0,.int .u8 0,.int .u8 0,.int .u8 0,.int .u8 0,.int .u8 0,.int .u8 0] 0 (Rc.cells8NM l_11) =
 Rc.cells8NM y_22.2.2.2.1∧y_22.2.2.2.1.length=64∧y_22.2.2.2.2≤64∧y_22.2.2.2.2≤y_22.2.2.1.length∧y_22.2.1.length+y_22.2.2.1.length=s.length)∧64-y_22.2.2.2.2<64-x_12.2.2.2.2∧setRange (ofBytes (x_12.2.1++(Rc.zipXM
 (x_12.2.2.1.take x_12.2.2.2.2) x_12.2.2.2.1++x_12.2.2.1.drop x_12.2.2.2.2))) (0+n_15.toNat*1) [.int .u8 n_18]=ofBytes (y_22.2.1++(Rc.zipXM (y_22.2.2.1.take y_22.2.2.2.2) y_22.2.2.2.1++y_22.2.2.1.drop y_22.2.2.2.2))∧eqqQ
 [AV.sl 0 s.length 0 s.length 1]∧[AV.int .i64 n_20]=[AV.int .i64 ((64*y_22.1+y_22.2.2.2.2:Nat):Int)]∧eqqQ [AV.int .u32 (w0.1:Int),.int .u32 (w0.2:Int),.int .u32 (w0.3:Int),.int .u32 (w0.4:Int),.int .u32 (w0.5 :
 Int),.int .u32 (w0.6:Int),.int .u32 (w0.7:Int),.int .u32 (w0.8:Int),.int .u32 (w0.9:Int),.int .u32 (w0.10:Int),.int .u32 (w0.11:Int),.int .u32 (w0.12:Int),.int .u32 (w0.13:Int),.int .u32 (w0.14:Int),.int .u32
 (w0.15:Int),.int .u32 (w0.16:Int)]∧eqqQ [AV.int .i64 (c+(x_8.1:Int))]∧eqqQ (setRange [.int .u8 0,.int .u8 0,.int .u8 0,.int .u8 0,.int .u8 0,.int .u8 0,.int .u8 0,.int .u8 0,.int .u8 0,.int .u8 0,.int .u8 0,.int .u8
 0,.int .u8 0,.int .u8 0,.int .u8 0,.int .u8 0,.int .u8 0,.int .u8 0,.int .u8 0,.int .u8 0,.int .u8 0,.int .u8 0,.int .u8 0,.int .u8 0,.int .u8 0,.int .u8 0,.int .u8 0,.int .u8 0,.int .u8 0,.int .u8 0,.int .u8 0,.int .u8
 0,.int .u8 0,.int .u8 0,.int .u8 0,.int .u8 0,.int .u8 0,.int .u8 0,.int .u8 0,.int .u8 0,.int .u8 0,.int .u8 0,.int .u8 0,.int .u8 0,.int .u8 0,.int .u8 0,.int .u8 0,.int .u8 0,.int .u8 0,.int .u8 0,.int .u8 0,.int .u8
 0,.int .u8 0,.int .u8 0,.int .u8 0,.int .u8 0,.int .u8 0,.int .u8 0,.int .u8 0,.int .u8 0,.int .u8 0,.int .u8 0,.int .u8 0,.int .u8 0] 0 (Rc.cells8NM l_11))∧eqqQ (AV.ptr 2 1 0)∧AV.int .i64 n_21=AV.int .i64 (y_22.2.2.2.2 :
 Int)∧eqqQ (AV.ptr 5 64 0)∧eqqQ (AV.ptr 1 1 0)∧True)))))) else exI .i64 ((64*x_12.1+x_12.2.2.2.2:Nat):Int) fun n_15=>ckQ (Nat.beq (ofBytes (x_12.2.1++(Rc.zipXM (x_12.2.2.1.take x_12.2.2.2.2) x_12.2.2.2.1++x_12.2.2.1.drop
 x_12.2.2.2.2))).length s.length) (exI .i64 (s.length:Int) fun n_16=>bif n_15==n_16 then ckQ (Nat.beq (ofBytes (x_12.2.1++(Rc.zipXM (x_12.2.2.1.take x_12.2.2.2.2) x_12.2.2.2.1++x_12.2.2.1.drop x_12.2.2.2.2))).length s.length &&
 Nat.ble (0+s.length) s.length&&true&&allU8 (((ofBytes (x_12.2.1++(Rc.zipXM (x_12.2.2.1.take x_12.2.2.2.2) x_12.2.2.2.1++x_12.2.2.1.drop x_12.2.2.2.2))).drop 0).take s.length)) (exS (.str (List.map toB (((ofBytes (x_12.2.1 ++
 (Rc.zipXM (x_12.2.2.1.take x_12.2.2.2.2) x_12.2.2.2.1++x_12.2.2.1.drop x_12.2.2.2.2))).drop 0).take s.length))) fun s_17=>Q (.ret (.tup [.str s_17,.int .i64 0])) [] (Gh.mk 0 1 [])) else exI .i64 (c+(x_8.1:Int)) fun n_17=>exW
 .i64 (n_17+1) fun n_18=>(eqqQ [Lp.mk 0 (T.n (T.n (T.n (T.n (T.n (T.n T.e (.bool false) T.e) (.str key) T.e) .undef (T.n T.e (.bool false) T.e)) (.str s) (T.n (T.n (T.n T.e (.str nonce) T.e) (.bool false) T.e) (.ptr 2 1 0) (T.n T.e
 (.int .i64 n_3) T.e))) (.str nonce) (T.n (T.n (T.n (T.n T.e (.sl 0 s.length 0 s.length 1) T.e) (.int .i64 c) T.e) (.int .i64 0) (T.n T.e (.int .i64 c) T.e)) .undef (T.n (T.n (T.n T.e (.int .i64 c) T.e) (.str s) T.e) .undef (T.n T.e (.int
 .i64 n_5) T.e)))) (.str key) (T.n (T.n (T.n (T.n (T.n T.e (.str s) T.e) (.str nonce) T.e) (.str []) (T.n T.e (.bool false) T.e)) .undef (T.n (T.n (T.n T.e (.agg [.int .u32 (w_7.1:Int),.int .u32 (w_7.2:Int),.int .u32 (w_7.3:Int),
 .int .u32 (w_7.4:Int),.int .u32 (w_7.5:Int),.int .u32 (w_7.6:Int),.int .u32 (w_7.7:Int),.int .u32 (w_7.8:Int),.int .u32 (w_7.9:Int),.int .u32 (w_7.10:Int),.int .u32 (w_7.11:Int),.int .u32 (w_7.12:Int),.int .u32
 (w_7.13:Int),.int .u32 (w_7.14:Int),.int .u32 (w_7.15:Int),.int .u32 (w_7.16:Int)]) T.e) (.bool false) T.e) .undef (T.n T.e (.int .i64 n_4) T.e))) (.int .i64 c) (T.n (T.n (T.n (T.n T.e (.str key) T.e) (.bool true) T.e) (.ptr 1 1
 0) (T.n T.e (.str s) T.e)) .undef (T.n (T.n (T.n T.e (.fn (Fn.func 124) [] [.ptr 3 16 0,.ptr 4 1 0]) T.e) (.int .i64 n_2) T.e) (.bool false) (T.n T.e (.int .i64 n_6) T.e))))) [39] (AC.region [AOper.mk (Option.some (12:Nat)) (AOp.box
 (AO.c (.agg [.int .u8 0,.int .u8 0,.int .u8 0,.int .u8 0,.int .u8 0,.int .u8 0,.int .u8 0,.int .u8 0,.int .u8 0,.int .u8 0,.int .u8 0,.int .u8 0,.int .u8 0,.int .u8 0,.int .u8 0,.int .u8 0,.int .u8 0,.int .u8 0,.int .u8
 0,.int .u8 0,.int .u8 0,.int .u8 0,.int .u8 0,.int .u8 0,.int .u8 0,.int .u8 0,.int .u8 0,.int .u8 0,.int .u8 0,.int .u8 0,.int .u8 0,.int .u8 0,.int .u8 0,.int .u8 0,.int .u8 0,.int .u8 0,.int .u8 0,.int .u8 0,.int .u8
 0,.int .u8 0,.int .u8 0,.int .u8 0,.int .u8 0,.int .u8 0,.int .u8 0,.int .u8 0,.int .u8 0,.int .u8 0,.int .u8 0,.int .u8 0,.int .u8 0,.int .u8 0,.int .u8 0,.int .u8 0,.int .u8 0,.int .u8 0,.int .u8 0,.int .u8 0,.int .u8
 0,.int .u8 0,.int .u8 0,.int .u8 0,.int .u8 0,.int .u8 0]))) Option.none 0 0,AOper.mk Option.none (AOp.st 64 (AO.t 12) (AO.t 39)) Option.none 0 0]) (AC.block 2 (AC.seq (AC.seq (AC.region [AOper.mk (Option.some (13:Nat)) (AOp.mv
 (AO.c (.int .i64 0))) Option.none 0 0]) (AC.block 3 (AC.loop 73003 15360 (AC.seq (AC.seq (AC.region [AOper.mk (Option.some (40:Nat)) (AOp.mv (AO.t 13)) Option.none 0 0,AOper.mk (Option.some (41:Nat)) (AOp.bin Go.BinOp.lss Sh.it (AO.t
 40) (AO.c (.int .i64 64))) Option.none 0 0,AOper.mk (Option.some (42:Nat)) (AOp.mv (AO.t 41)) Option.none 0 0,AOper.mk (Option.some (43:Nat)) (AOp.ld false 1 (AO.t 11)) (Option.some (Prod.mk (42:Nat) true)) 0 0,AOper.mk
 (Option.some (44:Nat)) (AOp.ld false 1 (AO.t 10)) (Option.some (Prod.mk (42:Nat) true)) 0 0,AOper.mk (Option.some (45:Nat)) (AOp.lenL (AO.t 44)) (Option.some (Prod.mk (42:Nat) true)) 0 0,AOper.mk (Option.some (46:Nat)) (AOp.bin
 Go.BinOp.lss Sh.it (AO.t 43) (AO.t 45)) (Option.some (Prod.mk (42:Nat) true)) 0 0,AOper.mk (Option.some (47:Nat)) (AOp.pick (AO.t 42) (AO.t 46) (AO.c (.bool false))) Option.none 0 0]) (AC.cond (AO.t 47) AC.skip (AC.exit 3))) (AC.seq
 (AC.block 4 (AC.seq (AC.drawn [AOper.mk (Option.some (50:Nat)) (AOp.ld false 1 (AO.t 10)) Option.none 0 0,AOper.mk (Option.some (51:Nat)) (AOp.ld false 1 (AO.t 11)) Option.none 1 0,AOper.mk (Option.some (52:Nat)) (AOp.iaL 1 (AO.t
 50) (AO.t 51)) Option.none 2 3,AOper.mk (Option.some (53:Nat)) (AOp.ld false 1 (AO.t 52)) Option.none 3 7,AOper.mk (Option.some (54:Nat)) (AOp.mv (AO.t 13)) Option.none 4 0,AOper.mk (Option.some (55:Nat)) (AOp.iaA 64 1 (AO.t 12)
 (AO.t 54)) Option.none 5 16,AOper.mk (Option.some (56:Nat)) (AOp.ld false 1 (AO.t 55)) Option.none 6 48,AOper.mk (Option.some (57:Nat)) (AOp.bin Go.BinOp.xor Sh.it (AO.t 53) (AO.t 56)) Option.none 7 127,AOper.mk (Option.some (58 :
 Nat)) (AOp.iaL 1 (AO.t 50) (AO.t 51)) Option.none 8 255,AOper.mk Option.none (AOp.st 1 (AO.t 58) (AO.t 57)) Option.none 9 511]) (AC.region [AOper.mk (Option.some (59:Nat)) (AOp.ld false 1 (AO.t 11)) Option.none 0 0,AOper.mk
 (Option.some (60:Nat)) (AOp.bin Go.BinOp.add Sh.it (AO.t 59) (AO.c (.int .i64 1))) Option.none 0 0,AOper.mk Option.none (AOp.st 1 (AO.t 11) (AO.t 60)) Option.none 0 0]))) (AC.region [AOper.mk (Option.some (48:Nat)) (AOp.mv (AO.t 13))
 Option.none 0 0,AOper.mk (Option.some (49:Nat)) (AOp.bin Go.BinOp.add Sh.it (AO.t 48) (AO.c (.int .i64 1))) Option.none 0 0,AOper.mk (Option.some (13:Nat)) (AOp.mv (AO.t 49)) Option.none 0 0])))))) (AC.seq (AC.region [AOper.mk
 (Option.some (61:Nat)) (AOp.ld false 1 (AO.t 11)) Option.none 0 0,AOper.mk (Option.some (62:Nat)) (AOp.ld false 1 (AO.t 10)) Option.none 0 0,AOper.mk (Option.some (63:Nat)) (AOp.lenL (AO.t 62)) Option.none 0 0,AOper.mk
 (Option.some (64:Nat)) (AOp.bin Go.BinOp.eql Sh.it (AO.t 61) (AO.t 63)) Option.none 0 0]) (AC.cond (AO.t 64) (AC.exit 1) AC.skip)))) Lst.ready 73]∧(1:Nat)=(1:Nat))∧∃y_19:Nat×List UInt8×List UInt8,Lf (y_19.2.1.length =
 64*y_19.1∧y_19.2.1.length+y_19.2.2.length=s.length∧(y_19.1=0∨0<y_19.2.2.length)∧y_19.1≤70∧Rc.appM w0 c 70 s=y_19.2.1++Rc.appM w0 (c+(y_19.1:Int)) (70-y_19.1) y_19.2.2)∧71-y_19.1<71-x_8.1∧ofBytes
 (x_12.2.1++(Rc.zipXM (x_12.2.2.1.take x_12.2.2.2.2) x_12.2.2.2.1++x_12.2.2.1.drop x_12.2.2.2.2))=ofBytes (y_19.2.1++y_19.2.2)∧eqqQ [AV.sl 0 s.length 0 s.length 1]∧[AV.int .i64 ((64*x_12.1+x_12.2.2.2.2:Nat):Int)] =
 [AV.int .i64 ((64*y_19.1:Nat):Int)]∧eqqQ [AV.int .u32 (w0.1:Int),.int .u32 (w0.2:Int),.int .u32 (w0.3:Int),.int .u32 (w0.4:Int),.int .u32 (w0.5:Int),.int .u32 (w0.6:Int),.int .u32 (w0.7:Int),.int .u32 (w0.8 :
 Int),.int .u32 (w0.9:Int),.int .u32 (w0.10:Int),.int .u32 (w0.11:Int),.int .u32 (w0.12:Int),.int .u32 (w0.13:Int),.int .u32 (w0.14:Int),.int .u32 (w0.15:Int),.int .u32 (w0.16:Int)]∧[AV.int .i64 n_18]=[AV.int
 .i64 (c+(y_19.1:Int))]∧eqqQ (AV.yld 0)∧eqqQ (AV.ptr 3 16 0)∧eqqQ (AV.ptr 4 1 0)∧True)) else exI .i64 ((64*x_12.1+x_12.2.2.2.2:Nat):Int) fun n_13=>ckQ (Nat.beq (ofBytes (x_12.2.1++(Rc.zipXM (x_12.2.2.1.take
 x_12.2.2.2.2) x_12.2.2.2.1++x_12.2.2.1.drop x_12.2.2.2.2))).length s.length) (exI .i64 (s.length:Int) fun n_14=>bif n_13==n_14 then ckQ (Nat.beq (ofBytes (x_12.2.1++(Rc.zipXM (x_12.2.2.1.take x_12.2.2.2.2) x_12.2.2.2.1 ++
 x_12.2.2.1.drop x_12.2.2.2.2))).length s.length&&Nat.ble (0+s.length) s.length&&true&&allU8 (((ofBytes (x_12.2.1++(Rc.zipXM (x_12.2.2.1.take x_12.2.2.2.2) x_12.2.2.2.1++x_12.2.2.1.drop x_12.2.2.2.2))).drop 0).take s.length))
 (exS (.str (List.map toB (((ofBytes (x_12.2.1++(Rc.zipXM (x_12.2.2.1.take x_12.2.2.2.2) x_12.2.2.2.1++x_12.2.2.1.drop x_12.2.2.2.2))).drop 0).take s.length))) fun s_15=>Q (.ret (.tup [.str s_15,.int .i64 0])) [] (Gh.mk 0 1 [])) else
 exI .i64 (c+(x_8.1:Int)) fun n_15=>exW .i64 (n_15+1) fun n_16=>(eqqQ [Lp.mk 0 (T.n (T.n (T.n (T.n (T.n (T.n T.e (.bool false) T.e) (.str key) T.e) .undef (T.n T.e (.bool false) T.e)) (.str s) (T.n (T.n (T.n T.e (.str nonce) T.e)
 (.bool false) T.e) (.ptr 2 1 0) (T.n T.e (.int .i64 n_3) T.e))) (.str nonce) (T.n (T.n (T.n (T.n T.e (.sl 0 s.length 0 s.length 1) T.e) (.int .i64 c) T.e) (.int .i64 0) (T.n T.e (.int .i64 c) T.e)) .undef (T.n (T.n (T.n T.e (.int .i64 c)
 T.e) (.str s) T.e) .undef (T.n T.e (.int .i64 n_5) T.e)))) (.str key) (T.n (T.n (T.n (T.n (T.n T.e (.str s) T.e) (.str nonce) T.e) (.str []) (T.n T.e (.bool false) T.e)) .undef (T.n (T.n (T.n T.e (.agg [.int .u32 (w_7.1:Int),.int .u32
 (w_7.2:Int),.int .u32 (w_7.3:Int),.int .u32 (w_7.4:Int),.int .u32 (w_7.5:Int),.int .u32 (w_7.6:Int),.int .u32 (w_7.7:Int),.int .u32 (w_7.8:Int),.int .u32 (w_7.9:Int),.int .u32 (w_7.10:Int),.int .u32 (w_7.11 :
 Int),.int .u32 (w_7.12:Int),.int .u32 (w_7.13:Int),.int .u32 (w_7.14:Int),.int .u32 (w_7.15:Int),.int .u32 (w_7.16:Int)]) T.e) (.bool false) T.e) .undef (T.n T.e (.int .i64 n_4) T.e))) (.int .i64 c) (T.n (T.n (T.n (T.n T.e
 (.str key) T.e) (.bool true) T.e) (.ptr 1 1 0) (T.n T.e (.str s) T.e)) .undef (T.n (T.n (T.n T.e (.fn (Fn.func 124) [] [.ptr 3 16 0,.ptr 4 1 0]) T.e) (.int .i64 n_2) T.e) (.bool false) (T.n T.e (.int .i64 n_6) T.e))))) [39] (AC.region
 [AOper.mk (Option.some (12:Nat)) (AOp.box (AO.c (.agg [.int .u8 0,.int .u8 0,.int .u8 0,.int .u8 0,.int .u8 0,.int .u8 0,.int .u8 0,.int .u8 0,.int .u8 0,.int .u8 0,.int .u8 0,.int .u8 0,.int .u8 0,.int .u8 0,.int .u8 0,
 .int .u8 0,.int .u8 0,.int .u8 0,.int .u8 0,.int .u8 0,.int .u8 0,.int .u8 0,.int .u8 0,.int .u8 0,.int .u8 0,.int .u8 0,.int .u8 0,.int .u8 0,.int .u8 0,.int .u8 0,.int .u8 0,.int .u8 0,.int .u8 0,.int .u8 0,.int .u8 0,
 .int .u8 0,.int .u8 0,.int .u8 0,.int .u8 0,.int .u8 0,.int .u8 0,.int .u8 0,.int .u8 0,.int .u8 0,.int .u8 0,.int .u8 0,.int .u8 0,.int .u8 0,.int .u8 0,.int .u8 0,.int .u8 0,.int .u8 0,.int .u8 0,.int .u8 0,.int .u8 0,
 .int .u8 0,.int .u8 0,.int .u8 0,.int .u8 0,.int .u8 0,.int .u8 0,.int .u8 0,.int .u8 0,.int .u8 0]))) Option.none 0 0,AOper.mk Option.none (AOp.st 64 (AO.t 12) (AO.t 39)) Option.none 0 0]) (AC.block 2 (AC.seq (AC.seq (AC.region
 [AOper.mk (Option.some (13:Nat)) (AOp.mv (AO.c (.int .i64 0))) Option.none 0 0]) (AC.block 3 (AC.loop 73003 15360 (AC.seq (AC.seq (AC.region [AOper.mk (Option.some (40:Nat)) (AOp.mv (AO.t 13)) Option.none 0 0,AOper.mk (Option.some (41
 : Nat)) (AOp.bin Go.BinOp.lss Sh.it (AO.t 40) (AO.c (.int .i64 64))) Option.none 0 0,AOper.mk (Option.some (42:Nat)) (AOp.mv (AO.t 41)) Option.none 0 0,AOper.mk (Option.some (43:Nat)) (AOp.ld false 1 (AO.t 11)) (Option.some (Prod.mk
 (42:Nat) true)) 0 0,AOper.mk (Option.some (44:Nat)) (AOp.ld false 1 (AO.t 10)) (Option.some (Prod.mk (42:Nat) true)) 0 0,AOper.mk (Option.some (45:Nat)) (AOp.lenL (AO.t 44)) (Option.some (Prod.mk (42:Nat) true)) 0 0,AOper.mk
 (Option.some (46:Nat)) (AOp.bin Go.BinOp.lss Sh.it (AO.t 43) (AO.t 45)) (Option.some (Prod.mk (42:Nat) true)) 0 0,AOper.mk (Option.some (47:Nat)) (AOp.pick (AO.t 42) (AO.t 46) (AO.c (.bool false))) Option.none 0 0]) (AC.cond (AO.t
 47) AC.skip (AC.exit 3))) (AC.seq (AC.block 4 (AC.seq (AC.drawn [AOper.mk (Option.some (50:Nat)) (AOp.ld false 1 (AO.t 10)) Option.none 0 0,AOper.mk (Option.some (51:Nat)) (AOp.ld false 1 (AO.t 11)) Option.none 1 0,AOper.mk
 (Option.some (52:Nat)) (AOp.iaL 1 (AO.t 50) (AO.t 51)) Option.none 2 3,AOper.mk (Option.some (53:Nat)) (AOp.ld false 1 (AO.t 52)) Option.none 3 7,AOper.mk (Option.some (54:Nat)) (AOp.mv (AO.t 13)) Option.none 4 0,AOper.mk
 (Option.some (55:Nat)) (AOp.iaA 64 1 (AO.t 12) (AO.t 54)) Option.none 5 16,AOper.mk (Option.some (56:Nat)) (AOp.ld false 1 (AO.t 55)) Option.none 6 48,AOper.mk (Option.some (57:Nat)) (AOp.bin Go.BinOp.xor Sh.it (AO.t 53) (AO.t 56))
 Option.none 7 127,AOper.mk (Option.some (58:Nat)) (AOp.iaL 1 (AO.t 50) (AO.t 51)) Option.none 8 255,AOper.mk Option.none (AOp.st 1 (AO.t 58) (AO.t 57)) Option.none 9 511]) (AC.region [AOper.mk (Option.some (59:Nat)) (AOp.ld false 1
 (AO.t 11)) Option.none 0 0,AOper.mk (Option.some (60:Nat)) (AOp.bin Go.BinOp.add Sh.it (AO.t 59) (AO.c (.int .i64 1))) Option.none 0 0,AOper.mk Option.none (AOp.st 1 (AO.t 11) (AO.t 60)) Option.none 0 0]))) (AC.region [AOper.mk
 (Option.some (48:Nat)) (AOp.mv (AO.t 13)) Option.none 0 0,AOper.mk (Option.some (49:Nat)) (AOp.bin Go.BinOp.add Sh.it (AO.t 48) (AO.c (.int .i64 1))) Option.none 0 0,AOper.mk (Option.some (13:Nat)) (AOp.mv (AO.t 49)) Option.none 0
 0])))))) (AC.seq (AC.region [AOper.mk (Option.some (61:Nat)) (AOp.ld false 1 (AO.t 11)) Option.none 0 0,AOper.mk (Option.some (62:Nat)) (AOp.ld false 1 (AO.t 10)) Option.none 0 0,AOper.mk (Option.some (63:Nat)) (AOp.lenL (AO.t 62))
 Option.none 0 0,AOper.mk (Option.some (64:Nat)) (AOp.bin Go.BinOp.eql Sh.it (AO.t 61) (AO.t 63)) Option.none 0 0]) (AC.cond (AO.t 64) (AC.exit 1) AC.skip)))) Lst.ready 73]∧(1:Nat)=(1:Nat))∧∃y_17:Nat×List UInt8×List
 UInt8,Lf (y_17.2.1.length=64*y_17.1∧y_17.2.1.length+y_17.2.2.length=s.length∧(y_17.1=0∨0<y_17.2.2.length)∧y_17.1≤70∧Rc.appM w0 c 70 s=y_17.2.1++Rc.appM w0 (c+(y_17.1:Int)) (70-y_17.1) y_17.2.2)∧71 -
 y_17.1<71-x_8.1∧ofBytes (x_12.2.1++(Rc.zipXM (x_12.2.2.1.take x_12.2.2.2.2) x_12.2.2.2.1++x_12.2.2.1.drop x_12.2.2.2.2))=ofBytes (y_17.2.1++y_17.2.2)∧eqqQ [AV.sl 0 s.length 0 s.length 1]∧[AV.int .i64 ((64*x_12.1 +
 x_12.2.2.2.2:Nat):Int)]=[AV.int .i64 ((64*y_17.1:Nat):Int)]∧eqqQ [AV.int .u32 (w0.1:Int),.int .u32 (w0.2:Int),.int .u32 (w0.3:Int),.int .u32 (w0.4:Int),.int .u32 (w0.5:Int),.int .u32 (w0.6:Int),.int .u32
 (w0.7:Int),.int .u32 (w0.8:Int),.int .u32 (w0.9:Int),.int .u32 (w0.10:Int),.int .u32 (w0.11:Int),.int .u32 (w0.12:Int),.int .u32 (w0.13:Int),.int .u32 (w0.14:Int),.int .u32 (w0.15:Int),.int .u32 (w0.16:Int)] ∧
 [AV.int .i64 n_16]=[AV.int .i64 (c+(y_17.1:Int))]∧eqqQ (AV.yld 0)∧eqqQ (AV.ptr 3 16 0)∧eqqQ (AV.ptr 4 1 0)∧True)) else Q (.ret (.tup [.str [],.int .i64 2])) [] {} else Q (.ret (.tup [.str [],.int .i64 2])) [] {} else Q
 (.ret (.tup [.str [],.int .i64 2])) [] {} else Q (.ret (.tup [.str [],.int .i64 2])) [] {}):=by kernel_rfl


theorem ofB_len (l:List UInt8):(ofBytes l).length=l.length:=by simp[ofBytes]
theorem oldL_ofB (l:List UInt8):oldL 0 (ofBytes l)=true:=by
 induction l with
 | nil=>rfl
 | cons x l ih=>simpa [ofBytes,oldL,old] using ih
theorem oldL_8 (l:List Nat):oldL 0 (cells8NM l)=true:=(flat_8N l).1
theorem allU8_ofB (l:List UInt8):allU8 (ofBytes l)=true:=by
 induction l with
 | nil=>rfl
 | cons x l ih=>simpa [ofBytes,allU8] using ih
theorem ofB_inj {a b:List UInt8} (h:ofBytes a=ofBytes b):a=b:=by
 induction a generalizing b with
 | nil=>cases b with | nil=>rfl | cons y ys=>simp[ofBytes] at h
 | cons x xs ih=>cases b with
  | nil=>simp[ofBytes] at h
  | cons y ys=>
   simp only[ofBytes,List.map_cons,List.cons.injEq,AV.int.injEq,true_and,Int.natCast_inj] at h
   rw[UInt8.toNat_inj.1 h.1,ih h.2]

theorem c8_inj {a b:List Nat} (h:cells8NM a=cells8NM b):a=b:=by
 induction a generalizing b with
 | nil=>cases b with | nil=>rfl | cons y ys=>simp[cells8NM] at h
 | cons x xs ih=>cases b with
  | nil=>simp[cells8NM] at h
  | cons y ys=>
   simp only[cells8NM,List.map_cons,List.cons.injEq,AV.int.injEq,true_and,Int.natCast_inj] at h
   rw[h.1,ih h.2]
theorem ldB {L:List UInt8} {j m:Nat} (hj:j<L.length) (hm:m=j) {K:Int→Prop} (hk:K ((L.getD j 0).toNat:Int)):∃n:Int,(List.take 1 (List.drop m (ofBytes L))).getD 0 AV.undef=AV.int .u8 n∧K n:=by
 subst hm
 refine ⟨_, ?_,hk⟩
 rw[List.getD_eq_getElem?_getD,List.getElem?_take,if_pos (by omega),List.getElem?_drop,ofBytes,List.getElem?_map,Nat.add_zero,List.getElem?_eq_getElem hj]
 simp[hj]
theorem ld8 {l:List Nat} {j m:Nat} (hj:j<l.length) (hm:m=j) {K:Int→Prop} (hk:K ((l.getD j 0:Nat):Int)):∃n:Int,(List.take 1 (List.drop m (cells8NM l))).getD 0 AV.undef=AV.int .u8 n∧K n:=by
 subst hm
 refine ⟨_, ?_,hk⟩
 rw[List.getD_eq_getElem?_getD,List.getElem?_take,if_pos (by omega),List.getElem?_drop,cells8NM,List.getElem?_map,Nat.add_zero,List.getElem?_eq_getElem hj]
 simp[hj]
theorem stB {L:List UInt8} {j m:Nat} {b:UInt8} (hj:j<L.length) (hm:m=j):setRange (ofBytes L) m [AV.int .u8 (b.toNat:Int)]=ofBytes (L.set j b):=by
 subst hm
 rw[List.set_eq_take_append_cons_drop,if_pos hj]
 simp[setRange,ofBytes]
theorem xor8 (a:UInt8) (n:Nat):IntKind.wrap .u8 (((((a.toNat:Int)%256).toNat ^^^ ((n:Int)%256).toNat:Nat)):Int)=((x8M a n).toNat:Int):=by
 have h1:((a.toNat:Int)%256).toNat=a.toNat:=by have:=a.toNat_lt;omega
 have h2:((n:Int)%256).toNat=n%256:=by omega
 rw[h1,h2,u8_wrap,x8M,UInt8.toNat_xor,UInt8.toNat_ofNat']
 congr 1
 exact Nat.mod_eq_of_lt (Nat.xor_lt_two_pow (n:=8) a.toNat_lt (Nat.mod_lt _ (by omega)))
theorem zipX_len (s:List UInt8) (l:List Nat):(zipXM s l).length=min s.length l.length:=by simp[zipXM]
theorem zipX_succ {r:List UInt8} {l:List Nat} {i:Nat} (h1:i<r.length) (h2:i<l.length):zipXM (r.take (i+1)) l=zipXM (r.take i) l++[x8M (r.getD i 0) (l.getD i 0)]:=by
 apply List.ext_getElem
 ·simp[zipXM];omega
 ·intro j hj1 hj2
  simp only[zipXM,List.length_zipWith,List.length_take] at hj1
  by_cases h:j<i
  ·rw[List.getElem_append_left (by simp[zipXM];omega)]
   simp[zipXM]
  ·obtain rfl:j=i:=by omega
   rw[List.getElem_append_right (by simp[zipXM];omega)]
   simp[zipXM,h1,h2]
theorem set_mid {dn Z D:List UInt8} {j:Nat} {x b:UInt8} (hj:j=dn.length+Z.length):(dn++(Z++x::D)).set j b=dn++(Z++b::D):=by
 subst hj
 rw[List.set_append_right _ _ (by omega),List.set_append_right _ _ (by omega)]
 simp

theorem apply_run (key nonce:List UInt8) (c:Int) (s:List UInt8) (w0:W16) (hw0:w0=firstM key nonce) (Q:Out→List Blk→Gh→Prop) (hq1:rightM key nonce c=false→Q (.ret (.tup [.str [],.int .i64 2])) [] {})
  (hq2:rightM key nonce c=true→4096<s.length→Q (.ret (.tup [.str [],.int .i64 3])) [] {})
  (hq3:rightM key nonce c=true→s.length≤4096→4294967296<c+((s.length:Int)+63)/64→Q (.ret (.tup [.str [],.int .i64 6])) [] {})
  (hq4:rightM key nonce c=true→s.length≤4096→c+((s.length:Int)+63)/64≤4294967296→Q (.ret (.tup [.str (appM w0 c 70 s),.int .i64 0])) [] ⟨0,1,[]⟩):∃hv hb,goal_21 hv hb w0 key nonce c s Q:=by
 obtain ⟨hv,hb',e⟩:∃hv hb,goal_21 hv hb w0 key nonce c s Q=_:=⟨_,_,vc_21 w0 key nonce c s Q⟩
 refine ⟨hv,hb',e.mpr ?_⟩
 clear e
 have hr:rightM key nonce c=true↔key.length=32∧nonce.length=12∧0≤c∧c<4294967296:=by
  simp only[rightM,Bool.and_eq_true,nbeq,decide_eq_true_eq,and_assoc]
 have no:¬ (key.length=32∧nonce.length=12∧0≤c∧c<4294967296)→Q (.ret (.tup [.str [],.int .i64 2])) [] {}:=fun h=>hq1 (by
  cases hb:rightM key nonce c
  ·rfl
  ·exact absurd (hr.1 hb) h)
 refine ⟨_,rfl,splitE (fun h1=>⟨_,rfl,splitE (fun h2=>splitD (fun h3=>splitD (fun h4 => ?_) (fun h=>no (by omega))) (fun h=>no (by omega))) (fun h=>no (by omega))⟩) (fun h=>no (by omega))⟩
 have hR:=hr.2 ⟨by omega,by omega,by omega,by omega⟩
 refine ⟨_,rfl,splitD (fun h5=>hq2 hR (by omega)) (fun h5 => ?_)⟩
 have h5':s.length≤4096:=by omega
 have htd:((s.length:Int)+63).tdiv 64=((s.length:Int)+63)/64:=Int.tdiv_eq_ediv_of_nonneg (by omega)
 refine ⟨_,rfl,wrapI (by omega) (by omega) ?_⟩
 rw[htd]
 refine wrapI (by omega) (by omega) (wrapI (by omega) (by omega) (splitD (fun h6=>hq3 hR h5' (by omega)) (fun h6 => ?_)))
 have hQ:=hq4 hR h5' (by omega)
 refine ⟨⟨by omega,by omega⟩,fun w hw => ?_⟩
 obtain rfl:w=w0:=hw.h.trans hw0.symm
 refine ⟨⟨(0,[],s),⟨by simp,by simp,by simp,by simp,by simp⟩, ?_⟩, ?_⟩
 ·rw[oldL_ofB]
  simp
 rintro ⟨k,dn,r⟩ ⟨g1,g2,g3,g4,g5⟩
 dsimp only at *
 refine ⟨_,rfl,w,⟨rfl⟩,fun l hl => ?_⟩
 have hll:l.length=64:=by rw[hl.h];exact len_blk _ _
 have hcl:(cells8NM l).length=64:=by simp[cells8NM,hll]
 rw[setRange_full _ _ (by rw[hcl];simp)]
 refine ckI (by rw[hcl,oneL_8];rfl) ⟨⟨(k,dn,r,l,0),⟨g1,rfl,rfl,rfl,hll,by simp,by simp,g2⟩, ?_⟩, ?_⟩
 ·rw[oldL_8]
  simp[zipXM]
 rintro ⟨k',dn',r',l',i⟩ ⟨f1,f2,f3,f4,f5,f6,f7,f8⟩
 dsimp only at *
 obtain rfl:k=k':=by omega
 have hin:=ofB_inj f2
 obtain ⟨rfl,rfl⟩:=List.append_inj hin (by omega)
 obtain rfl:=c8_inj f4
 have hk64:k≤64:=by omega
 have hz:(zipXM (r.take i) l).length=i:=by rw[zipX_len,List.length_take];omega
 have hM:(dn++(zipXM (r.take i) l++r.drop i)).length=s.length:=by simp only[List.length_append,List.length_drop,hz];omega
 have hap:appM w (c+(k:Int)) (70-k) r=if r.length≤64 then zipXM r l else zipXM (r.take 64) l++appM w (c+(k:Int)+1) (69-k) (r.drop 64):=by
  rw[show 70-k=(69-k)+1 by omega,appM,←hl.h]
 have hap2:∀ (h64:i=64∨i=r.length) (hat:64*k+i=s.length),dn++(zipXM (r.take i) l++r.drop i)=appM w c 70 s:=by
  intro h64 hat
  have e1:i=r.length:=by omega
  rw[g5,hap,if_pos (by omega),e1,List.take_length,List.drop_length,List.append_nil]
 have hend:∀ (h64:i=64∨i=r.length) (hat:64*k+i=s.length),(List.map toB (List.take s.length (List.drop 0 (ofBytes (dn++(zipXM (r.take i) l++r.drop i))))))=appM w c 70 s:=by
  intro h64 hat
  rw[List.drop_zero,List.take_of_length_le (by rw[ofB_len,hM];omega),hap2 h64 hat]
  simp only[ofBytes,List.map_map]
  conv=>rhs;rw[←List.map_id (appM w c 70 s)]
  congr 1
  funext x
  simp[toB]
 have hback:i=64→64*k+i≠s.length→(dn++zipXM (r.take 64) l).length=64*(k+1)∧(dn++zipXM (r.take 64) l).length+(r.drop 64).length=s.length∧0<(r.drop 64).length∧appM w c 70 s=(dn++zipXM (r.take 64) l)++appM w (c+((k+1:Nat):Int)) (70-(k+1)) (r.drop 64):=by
  rintro rfl hne
  have e2:c+(k:Int)+1=c+((k+1:Nat):Int):=by omega
  have e3:69-k=70-(k+1):=by omega
  refine ⟨?_, ?_, ?_, ?_⟩
  ·rw[List.length_append,hz];omega
  ·rw[List.length_append,hz,List.length_drop];omega
  ·rw[List.length_drop];omega
  ·rw[g5,hap,if_neg (by omega),e2,e3,List.append_assoc]
 have hlB:(ofBytes (dn++(zipXM (r.take i) l++r.drop i))).length=s.length:=by rw[ofB_len,hM]
 have hall:allU8 (List.take s.length (List.drop 0 (ofBytes (dn++(zipXM (r.take i) l++r.drop i)))))=true:=by
  rw[List.drop_zero,List.take_of_length_le (by omega)]
  exact allU8_ofB _
 refine splitD (fun hi => ?_) (fun hi => ?_)
 ·refine ⟨_,rfl,ckI (by rw[ofB_len,hM];exact beq_t rfl) ⟨_,rfl,splitD (fun hlt => ?_) (fun hge => ?_)⟩⟩
  ·have hir:i<r.length:=by omega
   have hD:r.drop i=r.getD i 0::r.drop (i+1):=by rw[List.drop_eq_getElem_cons hir];simp[hir]
   have hg:(dn++(zipXM (r.take i) l++r.drop i)).getD (64*k+i) 0=r.getD i 0:=by
    rw[List.getD_eq_getElem?_getD,List.getElem?_append_right (by omega),List.getElem?_append_right (by omega),hz,List.getElem?_drop,List.getD_eq_getElem?_getD]
    congr 2
    omega
   refine ⟨_,rfl,ckI (by first | (simp only[Bool.and_eq_true,Bool.and_true,Bool.true_and,decide_eq_true_eq,blt_iff,Nat.ble_eq,nbeq,cellsI_len,hlB,List.length_append,List.length_cons,List.length_nil,Int.toNat_natCast,and_true,true_and,Bool.or_eq_true,Bool.not_eq_true',bne_iff_ne,ne_eq];done) | (simp only[Bool.and_eq_true,Bool.and_true,Bool.true_and,decide_eq_true_eq,blt_iff,Nat.ble_eq,nbeq,cellsI_len,hlB,List.length_append,List.length_cons,List.length_nil,Int.toNat_natCast,and_true,true_and,Bool.or_eq_true,Bool.not_eq_true',bne_iff_ne,ne_eq];omega) | rfl | (simp;done) | (simp;omega)) (ckI (by first | (simp only[Bool.and_eq_true,Bool.and_true,Bool.true_and,decide_eq_true_eq,blt_iff,Nat.ble_eq,nbeq,cellsI_len,hlB,List.length_append,List.length_cons,List.length_nil,Int.toNat_natCast,and_true,true_and,Bool.or_eq_true,Bool.not_eq_true',bne_iff_ne,ne_eq];done) | (simp only[Bool.and_eq_true,Bool.and_true,Bool.true_and,decide_eq_true_eq,blt_iff,Nat.ble_eq,nbeq,cellsI_len,hlB,List.length_append,List.length_cons,List.length_nil,Int.toNat_natCast,and_true,true_and,Bool.or_eq_true,Bool.not_eq_true',bne_iff_ne,ne_eq];omega) | rfl | (simp;done) | (simp;omega)) (ldB (j:=64*k+i) (by omega) (by omega) ?_))⟩
   rw[hg]
   refine ckI (by first | (simp only[Bool.and_eq_true,Bool.and_true,Bool.true_and,decide_eq_true_eq,blt_iff,Nat.ble_eq,nbeq,cellsI_len,hcl,List.length_append,List.length_cons,List.length_nil,Int.toNat_natCast,and_true,true_and,Bool.or_eq_true,Bool.not_eq_true',bne_iff_ne,ne_eq];done) | (simp only[Bool.and_eq_true,Bool.and_true,Bool.true_and,decide_eq_true_eq,blt_iff,Nat.ble_eq,nbeq,cellsI_len,hcl,List.length_append,List.length_cons,List.length_nil,Int.toNat_natCast,and_true,true_and,Bool.or_eq_true,Bool.not_eq_true',bne_iff_ne,ne_eq];omega) | rfl | (simp;done) | (simp;omega)) (ckI (by first | (simp only[Bool.and_eq_true,Bool.and_true,Bool.true_and,decide_eq_true_eq,blt_iff,Nat.ble_eq,nbeq,cellsI_len,hcl,List.length_append,List.length_cons,List.length_nil,Int.toNat_natCast,and_true,true_and,Bool.or_eq_true,Bool.not_eq_true',bne_iff_ne,ne_eq];done) | (simp only[Bool.and_eq_true,Bool.and_true,Bool.true_and,decide_eq_true_eq,blt_iff,Nat.ble_eq,nbeq,cellsI_len,hcl,List.length_append,List.length_cons,List.length_nil,Int.toNat_natCast,and_true,true_and,Bool.or_eq_true,Bool.not_eq_true',bne_iff_ne,ne_eq];omega) | rfl | (simp;done) | (simp;omega)) (ld8 (j:=i) (by omega) (by omega) ?_))
   refine ⟨_,by rw[xor8],ckI (by first | (simp only[Bool.and_eq_true,Bool.and_true,Bool.true_and,decide_eq_true_eq,blt_iff,Nat.ble_eq,nbeq,cellsI_len,hlB,List.length_append,List.length_cons,List.length_nil,Int.toNat_natCast,and_true,true_and,Bool.or_eq_true,Bool.not_eq_true',bne_iff_ne,ne_eq];done) | (simp only[Bool.and_eq_true,Bool.and_true,Bool.true_and,decide_eq_true_eq,blt_iff,Nat.ble_eq,nbeq,cellsI_len,hlB,List.length_append,List.length_cons,List.length_nil,Int.toNat_natCast,and_true,true_and,Bool.or_eq_true,Bool.not_eq_true',bne_iff_ne,ne_eq];omega) | rfl | (simp;done) | (simp;omega)) (ckI (by first | (simp only[Bool.and_eq_true,Bool.and_true,Bool.true_and,decide_eq_true_eq,blt_iff,Nat.ble_eq,nbeq,cellsI_len,hlB,List.length_append,List.length_cons,List.length_nil,Int.toNat_natCast,and_true,true_and,Bool.or_eq_true,Bool.not_eq_true',bne_iff_ne,ne_eq];done) | (simp only[Bool.and_eq_true,Bool.and_true,Bool.true_and,decide_eq_true_eq,blt_iff,Nat.ble_eq,nbeq,cellsI_len,hlB,List.length_append,List.length_cons,List.length_nil,Int.toNat_natCast,and_true,true_and,Bool.or_eq_true,Bool.not_eq_true',bne_iff_ne,ne_eq];omega) | rfl | (simp;done) | (simp;omega)) ⟨_,rfl,wrapI (by omega) (by omega) (wrapI (by omega) (by omega) ?_)⟩)⟩
   have hadd:((64*k+i:Nat):Int)+1=((64*k+(i+1):Nat):Int):=by omega
   refine ⟨?_,(k,dn,r,l,i+1),⟨g1,rfl,rfl,rfl,hll, ?_, ?_,g2⟩, ?_, ?_⟩
   ·first | trivial | exact ⟨rfl,rfl⟩
   ·show i+1≤64
    omega
   ·show i+1≤r.length
    omega
   ·show 64-(i+1)<64-i
    omega
   ·rw[stB (j:=64*k+i) (by omega) (by omega),hD,set_mid (by omega),hadd]
    dsimp only
    rw[zipX_succ hir (by omega),List.append_assoc]
    simp
  ·have hat:64*k+i=s.length:=by omega
   refine ⟨_,rfl,ckI (by first | (simp only[Bool.and_eq_true,Bool.and_true,Bool.true_and,decide_eq_true_eq,blt_iff,Nat.ble_eq,nbeq,cellsI_len,hlB,List.length_append,List.length_cons,List.length_nil,Int.toNat_natCast,and_true,true_and,Bool.or_eq_true,Bool.not_eq_true',bne_iff_ne,ne_eq];done) | (simp only[Bool.and_eq_true,Bool.and_true,Bool.true_and,decide_eq_true_eq,blt_iff,Nat.ble_eq,nbeq,cellsI_len,hlB,List.length_append,List.length_cons,List.length_nil,Int.toNat_natCast,and_true,true_and,Bool.or_eq_true,Bool.not_eq_true',bne_iff_ne,ne_eq];omega) | rfl | (simp;done) | (simp;omega)) ⟨_,rfl,splitE (fun _ => ?_) (fun hne=>absurd (by omega) hne)⟩⟩
   refine ckI (by rw[hall,hlB];simp) ⟨_,rfl, ?_⟩
   rw[hend (.inr (by omega)) hat]
   exact hQ
 ·have hi64:i=64:=by omega
  refine ⟨_,rfl,ckI (by first | (simp only[Bool.and_eq_true,Bool.and_true,Bool.true_and,decide_eq_true_eq,blt_iff,Nat.ble_eq,nbeq,cellsI_len,hlB,List.length_append,List.length_cons,List.length_nil,Int.toNat_natCast,and_true,true_and,Bool.or_eq_true,Bool.not_eq_true',bne_iff_ne,ne_eq];done) | (simp only[Bool.and_eq_true,Bool.and_true,Bool.true_and,decide_eq_true_eq,blt_iff,Nat.ble_eq,nbeq,cellsI_len,hlB,List.length_append,List.length_cons,List.length_nil,Int.toNat_natCast,and_true,true_and,Bool.or_eq_true,Bool.not_eq_true',bne_iff_ne,ne_eq];omega) | rfl | (simp;done) | (simp;omega)) ⟨_,rfl,splitE (fun heq => ?_) (fun hne => ?_)⟩⟩
  ·have hat:64*k+i=s.length:=by omega
   refine ckI (by rw[hall,hlB];simp) ⟨_,rfl, ?_⟩
   rw[hend (.inl hi64) hat]
   exact hQ
  ·obtain ⟨b1,b2,b3,b4⟩:=hback hi64 (by omega)
   subst hi64
   have hadd:c+(k:Int)+1=c+((k+1:Nat):Int):=by omega
   have hadd2:64*k+64=64*(k+1):=by omega
   refine ⟨_,rfl,wrapI (by omega) (by omega) ⟨?_,(k+1,dn++zipXM (r.take 64) l,r.drop 64),⟨b1,b2,.inr b3, ?_,b4⟩, ?_, ?_⟩⟩
   ·first | trivial | exact ⟨rfl,rfl⟩
   ·show k+1≤70
    omega
   ·show 71-(k+1)<71-k
    omega
   ·rw[hadd]
    dsimp only
    rw[List.append_assoc,hadd2]
    simp
end Go.Proofs.YtjenieljapmehaaGreatDoor.Rc
