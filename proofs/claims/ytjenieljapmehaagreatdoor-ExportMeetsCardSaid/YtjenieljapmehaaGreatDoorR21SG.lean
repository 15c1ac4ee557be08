/-
  Chapter 4: the contract of number; the run of tag.
-/
import Derived.Test.YtjenieljapmehaaGreatDoorR21SF
set_option linter.unusedSimpArgs false
set_option linter.unusedVariables false
namespace Go.Proofs.YtjenieljapmehaaGreatDoor.Rc
open Go.RowKit
set_option maxRecDepth 1000000

def cNumber:Con
 | [.lst _ l n 1],H,K=>∃s:List UInt8,Lf (l=ofBytes s∧n=s.length∧s.length≤17∧leNM s<1361129467683753853853498429727072845824)∧∀a b c d e:Nat,Lf (limM (leNM s)=[a,b,c,d,e])→K (.ret (.agg [.int .u64 a,.int .u64 b,.int .u64 c,.int .u64 d,.int .u64 e])) H
 | _,_,_=>False
theorem number_raw:ValidF Tryz.prog gl0 125 cNumber:=by
 refine valid_flat (enters_of (by kernel_rfl)) gl0_noY fun args H Q hc => ?_
 unfold cNumber at hc
 split at hc
 ·rename_i t l n
  obtain ⟨s,⟨rfl,rfl,h1,h2⟩,hq⟩:=hc
  obtain ⟨hv,hb',h⟩:=number_run t s (Q:=fun o H' _=>H'=[]∧(∃v,o=.ret v∧old 0 v=true∧noY v=true)∧Q o H) h1 h2 ⟨rfl,⟨_,rfl,by rw[old,oldL_U],by rw[noY,noY_U]⟩,hq _ _ _ _ _ ⟨rfl⟩⟩
  exact ⟨rfl,rfl,_,1000,envFor04 sm0_ok _ _ _,rfl,h⟩
 ·exact hc.elim
def cNumberV:Con:=fun args H Q=>lendL [1] H args fun a=>cNumber a H Q
theorem number_ok:ValidF Tryz.prog gl0 125 cNumberV:=valid_view number_raw gl0_noY [1] fun args H Q hc=>by
 unfold cNumber at hc
 split at hc
 ·obtain ⟨s,h,hq⟩:=hc
  exact ⟨s,h,fun a b c d e he=>⟨rfl,⟨_,rfl,rfl⟩,hq a b c d e he⟩⟩
 ·exact hc.elim
def smG:SM:=lookS [(125,cNumberV)]
theorem smG_ok:∀f g,smG f=some g→ValidF Tryz.prog gl0 f g:=lookS_ok _ (by simp only[List.mem_cons,List.not_mem_nil,or_false,forall_eq];exact number_ok)

def pM:Nat:=1361129467683753853853498429727072845819
def polyM (r:Nat):Nat→Nat→List UInt8→Nat
 | 0,h,_=>h
 | f+1,h,q=>if q=[] then h else polyM r f ((h+leNM (q.take 16++[1]))*r%pM) (q.drop 16)
def valM (a b c d e:Nat):Nat:=a+b*67108864+c*4503599627370496+d*302231454903657293676544+e*20282409603651670423947251286016
abbrev X75:=List UInt8×Nat×Nat×Nat×Nat×Nat×Nat
def inv_75 (rb s:List UInt8) (r0 r1 r2 r3 r4:Nat):LInv where
 α:=X75
 pre p:=Lf (p.1.length≤p.2.1∧p.2.1≤s.length∧p.2.2.1≤67108864∧p.2.2.2.1≤67108864∧p.2.2.2.2.1≤67108864∧p.2.2.2.2.2.1≤67108864∧p.2.2.2.2.2.2≤67108864∧polyM (leNM rb) p.2.1 (valM p.2.2.1 p.2.2.2.1 p.2.2.2.2.1 p.2.2.2.2.2.1 p.2.2.2.2.2.2%pM) p.1=polyM (leNM rb) s.length 0 s)
 st p:=⟨mkT [(0,.yld 0),(1,.ptr 2 1 0)],[⟨.grow,true,ofBytes rb⟩,⟨.exact,true,[.int .u64 (p.2.2.1:Nat),.int .u64 (p.2.2.2.1:Nat),.int .u64 (p.2.2.2.2.1:Nat),.int .u64 (p.2.2.2.2.2.1:Nat),.int .u64 (p.2.2.2.2.2.2:Nat),.int .u64 (r0:Nat),.int .u64 (r1:Nat),.int .u64 (r2:Nat),.int .u64 (r3:Nat),.int .u64 (r4:Nat)]⟩,⟨.exact,true,[.str p.1]⟩]⟩
 mu p:=p.2.1
noncomputable def env_34 (hv:Nat→Option Pa) (hb:Nat→Option Bool) (rb s:List UInt8) (r0 r1 r2 r3 r4:Nat):Env:=
 e04 smG (fun i=>bif Nat.beq i 143000 then some (fun _=>[[inv_75 rb s r0 r1 r2 r3 r4]]) else none) hv hb
noncomputable def goal_34 (hv:Nat→Option Pa) (hb:Nat→Option Bool) (rb:List UInt8) (r0 r1 r2 r3 r4:Nat) (key s:List UInt8) (Q:Out→List Blk→Gh→Prop):Prop:=
 callx (env_34 hv hb rb s r0 r1 r2 r3 r4) (wpx (env_34 hv hb rb s r0 r1 r2 r3 r4) 1000) 101 [.str key,.str s] [] {} Q
theorem vc_34 (rb:List UInt8) (r0:Nat) (r1:Nat) (r2:Nat) (r3:Nat) (r4:Nat) (key:List UInt8) (s:List UInt8) (Q:Out→List Blk→Gh→Prop):goal_34 (lookV [(413717,.str),(413726,.int .u8),(413727,.int .u8),(413736,
 .int .u8),(413737,.int .u8),(585733,.int .i64),(585736,.int .i64),(585737,.int .i64),(585741,.str),(520216,.int .u64),(520248,.int .u64),(520249,.int .u64),(520258,.int .u64),(520260,.int .u64),(520261,.int .u64),
 (524303,.int .u64),(524311,.int .u64),(524317,.int .u64),(524326,.int .u64),(524327,.int .u64),(524339,.int .u64),(524340,.int .u64),(524347,.int .u64),(585749,.str),(413753,.int .u64),(413762,.int .u64),(413767,.int
 .u64),(413771,.int .u64),(413779,.str),(413791,.int .u64),(413805,.int .u64),(413807,.int .u64),(413810,.int .u64),(413812,.int .u64),(413813,.int .u64),(413820,.int .u8),(413824,.int .u64),(413828,.str)]) (lookB
 [(1413696000,true),(1413704192,true),(1520192000,true),(1520208384,true),(1520200192,true),(1524296192,true),(1524288000,true),(528382,true),(524286,true),(1413728768,true),(1413736960,false)]) rb r0 r1 r2 r3 r4 key s
 Q=(ckQ (Nat.ble 16 key.length) (exS (.str ((key.drop 0).take 16)) fun s_0=>ckQ (Nat.blt 3 s_0.length&&Nat.beq (ofBytes s_0).length s_0.length&&true) (ckQ (Nat.beq (ofBytes s_0).length s_0.length&&Nat.blt 3 s_0.length) (exV .u8
 ((((ofBytes s_0).drop 3).take 1).getD 0 AV.undef) fun n_1=>exW .u8 (((n_1%256).toNat &&& 15:Nat):Int) fun n_2=>ckQ (Nat.blt 3 s_0.length&&Nat.beq (ofBytes s_0).length s_0.length&&true) (ckQ (Nat.beq (ofBytes s_0).length
 s_0.length&&Nat.ble 4 s_0.length&&true&&true&&true) (((oldL 0 (ofBytes s_0)&&true||oldL 1 (setRange (ofBytes s_0) 3 [.int .u8 n_2]))&&true)=true∧ckQ (Nat.blt 7 s_0.length&&Nat.beq (setRange (ofBytes s_0) 3 [.int .u8
 n_2]).length s_0.length&&true) (ckQ (Nat.beq (setRange (ofBytes s_0) 3 [.int .u8 n_2]).length s_0.length&&Nat.blt 7 s_0.length) (exV .u8 ((((setRange (ofBytes s_0) 3 [.int .u8 n_2]).drop 7).take 1).getD 0 AV.undef) fun n_3=>exW .u8
 (((n_3%256).toNat &&& 15:Nat):Int) fun n_4=>ckQ (Nat.blt 7 s_0.length&&Nat.beq (setRange (ofBytes s_0) 3 [.int .u8 n_2]).length s_0.length&&true) (ckQ (Nat.beq (setRange (ofBytes s_0) 3 [.int .u8 n_2]).length s_0.length &&
 Nat.ble 8 s_0.length&&true&&true&&true) (((oldL 0 (ofBytes s_0)&&true&&true||oldL 1 (setRange (setRange (ofBytes s_0) 3 [.int .u8 n_2]) 7 [.int .u8 n_4]))&&true)=true∧ckQ (Nat.blt 11 s_0.length&&Nat.beq (setRange
 (setRange (ofBytes s_0) 3 [.int .u8 n_2]) 7 [.int .u8 n_4]).length s_0.length&&true) (ckQ (Nat.beq (setRange (setRange (ofBytes s_0) 3 [.int .u8 n_2]) 7 [.int .u8 n_4]).length s_0.length&&Nat.blt 11 s_0.length) (exV .u8 ((((setRange
 (setRange (ofBytes s_0) 3 [.int .u8 n_2]) 7 [.int .u8 n_4]).drop 11).take 1).getD 0 AV.undef) fun n_5=>exW .u8 (((n_5%256).toNat &&& 15:Nat):Int) fun n_6=>ckQ (Nat.blt 11 s_0.length&&Nat.beq (setRange (setRange (ofBytes s_0) 3
 [.int .u8 n_2]) 7 [.int .u8 n_4]).length s_0.length&&true) (ckQ (Nat.beq (setRange (setRange (ofBytes s_0) 3 [.int .u8 n_2]) 7 [.int .u8 n_4]).length s_0.length&&Nat.ble 12 s_0.length&&true&&true&&true) (((oldL 0 (ofBytes s_0) &&
 true&&true&&true||oldL 1 (setRange (setRange (setRange (ofBytes s_0) 3 [.int .u8 n_2]) 7 [.int .u8 n_4]) 11 [.int .u8 n_6]))&&true)=true∧ckQ (Nat.blt 15 s_0.length&&Nat.beq (setRange (setRange (setRange (ofBytes s_0) 3 [.int
 .u8 n_2]) 7 [.int .u8 n_4]) 11 [.int .u8 n_6]).length s_0.length&&true) (ckQ (Nat.beq (setRange (setRange (setRange (ofBytes s_0) 3 [.int .u8 n_2]) 7 [.int .u8 n_4]) 11 [.int .u8 n_6]).length s_0.length&&Nat.blt 15 s_0.length) (exV .u8
 ((((setRange (setRange (setRange (ofBytes s_0) 3 [.int .u8 n_2]) 7 [.int .u8 n_4]) 11 [.int .u8 n_6]).drop 15).take 1).getD 0 AV.undef) fun n_7=>exW .u8 (((n_7%256).toNat &&& 15:Nat):Int) fun n_8=>ckQ (Nat.blt 15 s_0.length &&
 Nat.beq (setRange (setRange (setRange (ofBytes s_0) 3 [.int .u8 n_2]) 7 [.int .u8 n_4]) 11 [.int .u8 n_6]).length s_0.length&&true) (ckQ (Nat.beq (setRange (setRange (setRange (ofBytes s_0) 3 [.int .u8 n_2]) 7 [.int .u8 n_4]) 11 [.int
 .u8 n_6]).length s_0.length&&Nat.ble 16 s_0.length&&true&&true&&true) (((oldL 0 (ofBytes s_0)&&true&&true&&true&&true||oldL 1 (setRange (setRange (setRange (setRange (ofBytes s_0) 3 [.int .u8 n_2]) 7 [.int .u8 n_4]) 11
 [.int .u8 n_6]) 15 [.int .u8 n_8]))&&true)=true∧ckQ (Nat.blt 4 s_0.length&&Nat.beq (setRange (setRange (setRange (setRange (ofBytes s_0) 3 [.int .u8 n_2]) 7 [.int .u8 n_4]) 11 [.int .u8 n_6]) 15 [.int .u8 n_8]).length s_0.length &&
 true) (ckQ (Nat.beq (setRange (setRange (setRange (setRange (ofBytes s_0) 3 [.int .u8 n_2]) 7 [.int .u8 n_4]) 11 [.int .u8 n_6]) 15 [.int .u8 n_8]).length s_0.length&&Nat.blt 4 s_0.length) (exV .u8 ((((setRange (setRange (setRange
 (setRange (ofBytes s_0) 3 [.int .u8 n_2]) 7 [.int .u8 n_4]) 11 [.int .u8 n_6]) 15 [.int .u8 n_8]).drop 4).take 1).getD 0 AV.undef) fun n_9=>exW .u8 (((n_9%256).toNat &&& 252:Nat):Int) fun n_10=>ckQ (Nat.blt 4 s_0.length &&
 Nat.beq (setRange (setRange (setRange (setRange (ofBytes s_0) 3 [.int .u8 n_2]) 7 [.int .u8 n_4]) 11 [.int .u8 n_6]) 15 [.int .u8 n_8]).length s_0.length&&true) (ckQ (Nat.beq (setRange (setRange (setRange (setRange (ofBytes s_0) 3 [.int
 .u8 n_2]) 7 [.int .u8 n_4]) 11 [.int .u8 n_6]) 15 [.int .u8 n_8]).length s_0.length&&Nat.ble 5 s_0.length&&true&&true&&true) (((oldL 0 (ofBytes s_0)&&true&&true&&true&&true&&true||oldL 1 (setRange (setRange (setRange
 (setRange (setRange (ofBytes s_0) 3 [.int .u8 n_2]) 7 [.int .u8 n_4]) 11 [.int .u8 n_6]) 15 [.int .u8 n_8]) 4 [.int .u8 n_10]))&&true)=true∧ckQ (Nat.blt 8 s_0.length&&Nat.beq (setRange (setRange (setRange (setRange (setRange
 (ofBytes s_0) 3 [.int .u8 n_2]) 7 [.int .u8 n_4]) 11 [.int .u8 n_6]) 15 [.int .u8 n_8]) 4 [.int .u8 n_10]).length s_0.length&&true) (ckQ (Nat.beq (setRange (setRange (setRange (setRange (setRange (ofBytes s_0) 3 [.int .u8 n_2]) 7 [.int
 .u8 n_4]) 11 [.int .u8 n_6]) 15 [.int .u8 n_8]) 4 [.int .u8 n_10]).length s_0.length&&Nat.blt 8 s_0.length) (exV .u8 ((((setRange (setRange (setRange (setRange (setRange (ofBytes s_0) 3 [.int .u8 n_2]) 7 [.int .u8 n_4]) 11 [.int .u8
 n_6]) 15 [.int .u8 n_8]) 4 [.int .u8 n_10]).drop 8).take 1).getD 0 AV.undef) fun n_11=>exW .u8 (((n_11%256).toNat &&& 252:Nat):Int) fun n_12=>ckQ (Nat.blt 8 s_0.length&&Nat.beq (setRange (setRange (setRange (setRange (setRange
 (ofBytes s_0) 3 [.int .u8 n_2]) 7 [.int .u8 n_4]) 11 [.int .u8 n_6]) 15 [.int .u8 n_8]) 4 [.int .u8 n_10]).length s_0.length&&true) (ckQ (Nat.beq (setRange (setRange (setRange (setRange (setRange (ofBytes s_0) 3 [.int .u8 n_2]) 7 [.int
 .u8 n_4]) 11 [.int .u8 n_6]) 15 [.int .u8 n_8]) 4 [.int .u8 n_10]).length s_0.length&&Nat.ble 9 s_0.length&&true&&true&&true) (((oldL 0 (ofBytes s_0)&&true&&true&&true&&true&&true&&true||oldL 1 (setRange (setRange
 (setRange (setRange (setRange (setRange (ofBytes s_0) 3 [.int .u8 n_2]) 7 [.int .u8 n_4]) 11 [.int .u8 n_6]) 15 [.int .u8 n_8]) 4 [.int .u8 n_10]) 8 [.int .u8 n_12]))&&true)=true∧ckQ (Nat.blt 12 s_0.length&&Nat.beq (setRange
 (setRange (setRange (setRange (setRange (setRange (ofBytes s_0) 3 [.int .u8 n_2]) 7 [.int .u8 n_4]) 11 [.int .u8 n_6]) 15 [.int .u8 n_8]) 4 [.int .u8 n_10]) 8 [.int .u8 n_12]).length s_0.length&&true) (ckQ (Nat.beq (setRange (setRange
 (setRange (setRange (setRange (setRange (ofBytes s_0) 3 [.int .u8 n_2]) 7 [.int .u8 n_4]) 11 [.int .u8 n_6]) 15 [.int .u8 n_8]) 4 [.int .u8 n_10]) 8 [.int .u8 n_12]).length s_0.length&&Nat.blt 12 s_0.length) (exV .u8 ((((setRange
 (setRange (setRange (setRange (setRange (setRange (ofBytes s_0) 3 [.int .u8 n_2]) 7 [.int .u8 n_4]) 11 [.int .u8 n_6]) 15 [.int .u8 n_8]) 4 [.int .u8 n_10]) 8 [.int .u8 n_12]).drop 12).take 1).getD 0 AV.undef) fun n_13=>exW .u8 (((n_13 %
 256).toNat &&& 252:Nat):Int) fun n_14=>ckQ (Nat.blt 12 s_0.length&&Nat.beq (setRange (setRange (setRange (setRange (setRange (setRange (ofBytes s_0) 3 [.int .u8 n_2]) 7 [.int .u8 n_4]) 11 [.int .u8 n_6]) 15 [.int .u8 n_8]) 4 [.int
 .u8 n_10]) 8 [.int .u8 n_12]).length s_0.length&&true) (ckQ (Nat.beq (setRange (setRange (setRange (setRange (setRange (setRange (ofBytes s_0) 3 [.int .u8 n_2]) 7 [.int .u8 n_4]) 11 [.int .u8 n_6]) 15 [.int .u8 n_8]) 4 [.int .u8 n_10]) 8
 [.int .u8 n_12]).length s_0.length&&Nat.ble 13 s_0.length&&true&&true&&true) (((oldL 0 (ofBytes s_0)&&true&&true&&true&&true&&true&&true&&true||oldL 1 (setRange (setRange (setRange (setRange (setRange (setRange
 (setRange (ofBytes s_0) 3 [.int .u8 n_2]) 7 [.int .u8 n_4]) 11 [.int .u8 n_6]) 15 [.int .u8 n_8]) 4 [.int .u8 n_10]) 8 [.int .u8 n_12]) 12 [.int .u8 n_14]))&&true)=true∧ckQ (Nat.beq (setRange (setRange (setRange (setRange (setRange
 (setRange (setRange (ofBytes s_0) 3 [.int .u8 n_2]) 7 [.int .u8 n_4]) 11 [.int .u8 n_6]) 15 [.int .u8 n_8]) 4 [.int .u8 n_10]) 8 [.int .u8 n_12]) 12 [.int .u8 n_14]).length s_0.length&&Nat.ble (0+s_0.length*1) s_0.length&&true) (∃
 s_15:List UInt8,Lf (List.map (fun (x_16:AV)=>frzV 1 [Blk.mk BK.grow (oldL 0 (ofBytes s_0)&&true&&true&&true&&true&&true&&true&&true) (setRange (setRange (setRange (setRange (setRange (setRange (setRange (ofBytes s_0) 3
 [.int .u8 n_2]) 7 [.int .u8 n_4]) 11 [.int .u8 n_6]) 15 [.int .u8 n_8]) 4 [.int .u8 n_10]) 8 [.int .u8 n_12]) 12 [.int .u8 n_14])] 8 x_16) (((setRange (setRange (setRange (setRange (setRange (setRange (setRange (ofBytes s_0) 3 [.int .u8
 n_2]) 7 [.int .u8 n_4]) 11 [.int .u8 n_6]) 15 [.int .u8 n_8]) 4 [.int .u8 n_10]) 8 [.int .u8 n_12]) 12 [.int .u8 n_14]).drop 0).take (s_0.length*1))=ofBytes s_15∧s_0.length=s_15.length∧s_15.length≤17∧Rc.leNM s_15 <
 1361129467683753853853498429727072845824)∧∀a_16 b_17 c_18 d_19 e_20:Nat,Lf (Rc.limM (Rc.leNM s_15)=[a_16,b_17,c_18,d_19,e_20])→(∃x_21:List UInt8×Nat×Nat×Nat×Nat×Nat×Nat,Lf (x_21.1.length≤x_21.2.1∧x_21.2.1
 ≤ s.length∧x_21.2.2.1≤67108864∧x_21.2.2.2.1≤67108864∧x_21.2.2.2.2.1≤67108864∧x_21.2.2.2.2.2.1≤67108864∧x_21.2.2.2.2.2.2≤67108864∧Rc.polyM (Rc.leNM rb) x_21.2.1 (Rc.valM x_21.2.2.1 x_21.2.2.2.1 x_21.2.2.2.2.1
 x_21.2.2.2.2.2.1 x_21.2.2.2.2.2.2%Rc.pM) x_21.1=Rc.polyM (Rc.leNM rb) s.length 0 s)∧ckQ ((oldL 0 (ofBytes s_0)&&true&&true&&true&&true&&true&&true&&true)==true) (setRange (setRange (setRange (setRange (setRange
 (setRange (setRange (ofBytes s_0) 3 [.int .u8 n_2]) 7 [.int .u8 n_4]) 11 [.int .u8 n_6]) 15 [.int .u8 n_8]) 4 [.int .u8 n_10]) 8 [.int .u8 n_12]) 12 [.int .u8 n_14]=ofBytes rb∧[AV.int .u64 0,.int .u64 0,.int .u64 0,.int .u64 0,.int
 .u64 0,.int .u64 (a_16:Int),.int .u64 (b_17:Int),.int .u64 (c_18:Int),.int .u64 (d_19:Int),.int .u64 (e_20:Int)]=[AV.int .u64 (x_21.2.2.1:Int),.int .u64 (x_21.2.2.2.1:Int),.int .u64 (x_21.2.2.2.2.1:Int),.int .u64
 (x_21.2.2.2.2.2.1:Int),.int .u64 (x_21.2.2.2.2.2.2:Int),.int .u64 (r0:Int),.int .u64 (r1:Int),.int .u64 (r2:Int),.int .u64 (r3:Int),.int .u64 (r4:Int)]∧[AV.str s]=[AV.str x_21.1]∧eqqQ (AV.yld 0)∧eqqQ (AV.ptr 2 1
 0)∧True))∧∀x_21:List UInt8×Nat×Nat×Nat×Nat×Nat×Nat,Lf (x_21.1.length≤x_21.2.1∧x_21.2.1≤s.length∧x_21.2.2.1≤67108864∧x_21.2.2.2.1≤67108864∧x_21.2.2.2.2.1≤67108864∧x_21.2.2.2.2.2.1≤67108864 ∧
 x_21.2.2.2.2.2.2≤67108864∧Rc.polyM (Rc.leNM rb) x_21.2.1 (Rc.valM x_21.2.2.1 x_21.2.2.2.1 x_21.2.2.2.2.1 x_21.2.2.2.2.2.1 x_21.2.2.2.2.2.2%Rc.pM) x_21.1=Rc.polyM (Rc.leNM rb) s.length 0 s)→exI .i64 (x_21.1.length:Int) fun n_22
 => bif decide (n_22>0) then exI .i64 (x_21.1.length:Int) fun n_23=>exI .i64 (imin n_23 16) fun n_24=>ckQ (decide (0≤n_24)&&true&&Nat.ble n_24.toNat x_21.1.length) (exS (.str ((x_21.1.drop 0).take (n_24.toNat-0))) fun s_25
 => ckQ (Nat.beq (ofBytes s_25).length s_25.length&&true&&Nat.beq (0+s_25.length*1) s_25.length&&Nat.ble (s_25.length+1) 1099511627776&&Nat.ble ((s_25.length+1)*1) 1099511627776) (ckQ (Nat.beq (ofBytes s_25++[AV.int .u8
 1]).length (s_25.length+1)&&Nat.ble (0+(s_25.length+1)*1) (s_25.length+1)&&true) (∃s_26:List UInt8,Lf (List.map (fun (x_27:AV)=>frzV 1 [Blk.mk BK.grow true (ofBytes rb),Blk.mk BK.exact true [.int .u64 (x_21.2.2.1 :
 Int),.int .u64 (x_21.2.2.2.1:Int),.int .u64 (x_21.2.2.2.2.1:Int),.int .u64 (x_21.2.2.2.2.2.1:Int),.int .u64 (x_21.2.2.2.2.2.2:Int),.int .u64 (r0:Int),.int .u64 (r1:Int),.int .u64 (r2:Int),.int .u64 (r3:Int),.int
 .u64 (r4:Int)],Blk.mk BK.exact true [.str x_21.1],Blk.mk BK.grow (oldL 0 (ofBytes s_25)&&true) (ofBytes s_25++[AV.int .u8 1]),Blk.mk BK.exact true [.int .u8 1]] 8 x_27) (((ofBytes s_25++[AV.int .u8 1]).drop 0).take ((s_25.length
 + 1)*1))=ofBytes s_26∧s_25.length+1=s_26.length∧s_26.length≤17∧Rc.leNM s_26<1361129467683753853853498429727072845824)∧∀a_27 b_28 c_29 d_30 e_31:Nat,Lf (Rc.limM (Rc.leNM s_26)=[a_27,b_28,c_29,d_30,e_31])→exW
 .u64 ((x_21.2.2.1:Int)+(a_27:Int)) fun n_32=>((oldL 0 (ofBytes s_25)&&true||oldL 5 (ofBytes s_25++[AV.int .u8 1]))&&true)=true∧exW .u64 ((x_21.2.2.2.1:Int)+(b_28:Int)) fun n_33=>((oldL 0 (ofBytes s_25)&&true
 || oldL 5 (ofBytes s_25++[AV.int .u8 1]))&&true)=true∧exW .u64 ((x_21.2.2.2.2.1:Int)+(c_29:Int)) fun n_34=>((oldL 0 (ofBytes s_25)&&true||oldL 5 (ofBytes s_25++[AV.int .u8 1]))&&true)=true∧exW .u64
 ((x_21.2.2.2.2.2.1:Int)+(d_30:Int)) fun n_35=>((oldL 0 (ofBytes s_25)&&true||oldL 5 (ofBytes s_25++[AV.int .u8 1]))&&true)=true∧exW .u64 ((x_21.2.2.2.2.2.2:Int)+(e_31:Int)) fun n_36=>((oldL 0 (ofBytes s_25) &&
 true||oldL 5 (ofBytes s_25++[AV.int .u8 1]))&&true)=true∧exW .u64 (n_32*(r0:Int)) fun n_37=>exW .u64 (0+n_37) fun n_38=>((oldL 0 (ofBytes s_25)&&true||oldL 6 (ofBytes s_25++[AV.int .u8 1]))&&true)=true∧exW
 .u64 (n_32*(r1:Int)) fun n_39=>exW .u64 (0+n_39) fun n_40=>((oldL 0 (ofBytes s_25)&&true||oldL 6 (ofBytes s_25++[AV.int .u8 1]))&&true)=true∧exW .u64 (n_32*(r2:Int)) fun n_41=>exW .u64 (0+n_41) fun n_42=>
 ((oldL 0 (ofBytes s_25)&&true||oldL 6 (ofBytes s_25++[AV.int .u8 1]))&&true)=true∧exW .u64 (n_32*(r3:Int)) fun n_43=>exW .u64 (0+n_43) fun n_44=>((oldL 0 (ofBytes s_25)&&true||oldL 6 (ofBytes s_25++[AV.int .u8
 1]))&&true)=true∧exW .u64 (n_32*(r4:Int)) fun n_45=>exW .u64 (0+n_45) fun n_46=>((oldL 0 (ofBytes s_25)&&true||oldL 6 (ofBytes s_25++[AV.int .u8 1]))&&true)=true∧((oldL 0 (ofBytes s_25)&&true||oldL 6
 (ofBytes s_25++[AV.int .u8 1]))&&true)=true∧exW .u64 (n_33*(r0:Int)) fun n_47=>exW .u64 (n_40+n_47) fun n_48=>((oldL 0 (ofBytes s_25)&&true||oldL 6 (ofBytes s_25++[AV.int .u8 1]))&&true)=true∧exW .u64 (n_33 *
 (r1:Int)) fun n_49=>exW .u64 (n_42+n_49) fun n_50=>((oldL 0 (ofBytes s_25)&&true||oldL 6 (ofBytes s_25++[AV.int .u8 1]))&&true)=true∧exW .u64 (n_33*(r2:Int)) fun n_51=>exW .u64 (n_44+n_51) fun n_52=>((oldL 0
 (ofBytes s_25)&&true||oldL 6 (ofBytes s_25++[AV.int .u8 1]))&&true)=true∧exW .u64 (n_33*(r3:Int)) fun n_53=>exW .u64 (n_46+n_53) fun n_54=>((oldL 0 (ofBytes s_25)&&true||oldL 6 (ofBytes s_25++[AV.int .u8 1])) &&
 true)=true∧exW .u64 (5*n_33) fun n_55=>exW .u64 (n_55*(r4:Int)) fun n_56=>exW .u64 (n_38+n_56) fun n_57=>((oldL 0 (ofBytes s_25)&&true||oldL 6 (ofBytes s_25++[AV.int .u8 1]))&&true)=true∧((oldL 0 (ofBytes
 s_25)&&true||oldL 6 (ofBytes s_25++[AV.int .u8 1]))&&true)=true∧exW .u64 (n_34*(r0:Int)) fun n_58=>exW .u64 (n_50+n_58) fun n_59=>((oldL 0 (ofBytes s_25)&&true||oldL 6 (ofBytes s_25++[AV.int .u8 1]))&&true) =
 true∧exW .u64 (n_34*(r1:Int)) fun n_60=>exW .u64 (n_52+n_60) fun n_61=>((oldL 0 (ofBytes s_25)&&true||oldL 6 (ofBytes s_25++[AV.int .u8 1]))&&true)=true∧exW .u64 (n_34*(r2:Int)) fun n_62=>exW .u64 (n_54 +
 n_62) fun n_63=>((oldL 0 (ofBytes s_25)&&true||oldL 6 (ofBytes s_25++[AV.int .u8 1]))&&true)=true∧exW .u64 (5*n_34) fun n_64=>exW .u64 (n_64*(r3:Int)) fun n_65=>exW .u64 (n_57+n_65) fun n_66=>((oldL 0 (ofBytes
 s_25)&&true||oldL 6 (ofBytes s_25++[AV.int .u8 1]))&&true)=true∧exW .u64 (5*n_34) fun n_67=>exW .u64 (n_67*(r4:Int)) fun n_68=>exW .u64 (n_48+n_68) fun n_69=>((oldL 0 (ofBytes s_25)&&true||oldL 6 (ofBytes s_25
 ++ [AV.int .u8 1]))&&true)=true∧((oldL 0 (ofBytes s_25)&&true||oldL 6 (ofBytes s_25++[AV.int .u8 1]))&&true)=true∧exW .u64 (n_35*(r0:Int)) fun n_70=>exW .u64 (n_61+n_70) fun n_71=>((oldL 0 (ofBytes s_25)&&true
 || oldL 6 (ofBytes s_25++[AV.int .u8 1]))&&true)=true∧exW .u64 (n_35*(r1:Int)) fun n_72=>exW .u64 (n_63+n_72) fun n_73=>((oldL 0 (ofBytes s_25)&&true||oldL 6 (ofBytes s_25++[AV.int .u8 1]))&&true)=true∧exW
 .u64 (5*n_35) fun n_74=>exW .u64 (n_74*(r2:Int)) fun n_75=>exW .u64 (n_66+n_75) fun n_76=>((oldL 0 (ofBytes s_25)&&true||oldL 6 (ofBytes s_25++[AV.int .u8 1]))&&true)=true∧exW .u64 (5*n_35) fun n_77=>exW .u64
 (n_77*(r3:Int)) fun n_78=>exW .u64 (n_69+n_78) fun n_79=>((oldL 0 (ofBytes s_25)&&true||oldL 6 (ofBytes s_25++[AV.int .u8 1]))&&true)=true∧exW .u64 (5*n_35) fun n_80=>exW .u64 (n_80*(r4:Int)) fun n_81=>exW
 .u64 (n_59+n_81) fun n_82=>((oldL 0 (ofBytes s_25)&&true||oldL 6 (ofBytes s_25++[AV.int .u8 1]))&&true)=true∧((oldL 0 (ofBytes s_25)&&true||oldL 6 (ofBytes s_25++[AV.int .u8 1]))&&true)=true∧exW .u64 (n_36*(r0
 : Int)) fun n_83=>exW .u64 (n_73+n_83) fun n_84=>((oldL 0 (ofBytes s_25)&&true||oldL 6 (ofBytes s_25++[AV.int .u8 1]))&&true)=true∧exW .u64 (5*n_36) fun n_85=>exW .u64 (n_85*(r1:Int)) fun n_86=>exW .u64 (n_76 +
 n_86) fun n_87=>((oldL 0 (ofBytes s_25)&&true||oldL 6 (ofBytes s_25++[AV.int .u8 1]))&&true)=true∧exW .u64 (5*n_36) fun n_88=>exW .u64 (n_88*(r2:Int)) fun n_89=>exW .u64 (n_79+n_89) fun n_90=>((oldL 0 (ofBytes
 s_25)&&true||oldL 6 (ofBytes s_25++[AV.int .u8 1]))&&true)=true∧exW .u64 (5*n_36) fun n_91=>exW .u64 (n_91*(r3:Int)) fun n_92=>exW .u64 (n_82+n_92) fun n_93=>((oldL 0 (ofBytes s_25)&&true||oldL 6 (ofBytes s_25
 ++ [AV.int .u8 1]))&&true)=true∧exW .u64 (5*n_36) fun n_94=>exW .u64 (n_94*(r4:Int)) fun n_95=>exW .u64 (n_71+n_95) fun n_96=>((oldL 0 (ofBytes s_25)&&true||oldL 6 (ofBytes s_25++[AV.int .u8 1]))&&true)=true ∧
 ((oldL 0 (ofBytes s_25)&&true||oldL 6 (ofBytes s_25++[AV.int .u8 1]))&&true)=true∧exW .u64 (n_87+0) fun n_97=>exI .u64 (Int.fdiv n_97 67108864) fun n_98=>exW .u64 (((n_97%18446744073709551616).toNat &&& 67108863:Nat)
 : Int) fun n_99=>((oldL 0 (ofBytes s_25)&&true||oldL 6 (ofBytes s_25++[AV.int .u8 1]))&&true)=true∧exW .u64 (n_90+n_98) fun n_100=>exI .u64 (Int.fdiv n_100 67108864) fun n_101=>exW .u64 (((n_100 %
 18446744073709551616).toNat &&& 67108863:Nat):Int) fun n_102=>((oldL 0 (ofBytes s_25)&&true||oldL 6 (ofBytes s_25++[AV.int .u8 1]))&&true)=true∧exW .u64 (n_93+n_101) fun n_103=>exI .u64 (Int.fdiv n_103 67108864) fun
 n_104=>exW .u64 (((n_103%18446744073709551616).toNat &&& 67108863:Nat):Int) fun n_105=>((oldL 0 (ofBytes s_25)&&true||oldL 6 (ofBytes s_25++[AV.int .u8 1]))&&true)=true∧exW .u64 (n_96+n_104) fun n_106=>exI .u64
 (Int.fdiv n_106 67108864) fun n_107=>exW .u64 (((n_106%18446744073709551616).toNat &&& 67108863:Nat):Int) fun n_108=>((oldL 0 (ofBytes s_25)&&true||oldL 6 (ofBytes s_25++[AV.int .u8 1]))&&true)=true∧exW .u64 (n_84 +
 n_107) fun n_109=>exI .u64 (Int.fdiv n_109 67108864) fun n_110=>exW .u64 (((n_109%18446744073709551616).toNat &&& 67108863:Nat):Int) fun n_111=>((oldL 0 (ofBytes s_25)&&true||oldL 6 (ofBytes s_25++[AV.int .u8 1])) &&
 true)=true∧exW .u64 (5*n_110) fun n_112=>exW .u64 (n_99+n_112) fun n_113=>((oldL 0 (ofBytes s_25)&&true||oldL 6 (ofBytes s_25++[AV.int .u8 1]))&&true)=true∧exW .u64 (n_113+0) fun n_114=>exI .u64 (Int.fdiv n_114
 67108864) fun n_115=>exW .u64 (((n_114%18446744073709551616).toNat &&& 67108863:Nat):Int) fun n_116=>((oldL 0 (ofBytes s_25)&&true||oldL 6 (ofBytes s_25++[AV.int .u8 1]))&&true)=true∧exW .u64 (n_102+n_115) fun n_117
 => exI .u64 (Int.fdiv n_117 67108864) fun n_118=>exW .u64 (((n_117%18446744073709551616).toNat &&& 67108863:Nat):Int) fun n_119=>((oldL 0 (ofBytes s_25)&&true||oldL 6 (ofBytes s_25++[AV.int .u8 1]))&&true)=true∧exW
 .u64 (n_105+n_118) fun n_120=>exI .u64 (Int.fdiv n_120 67108864) fun n_121=>exW .u64 (((n_120%18446744073709551616).toNat &&& 67108863:Nat):Int) fun n_122=>((oldL 0 (ofBytes s_25)&&true||oldL 6 (ofBytes s_25++[AV.int
 .u8 1]))&&true)=true∧exW .u64 (n_108+n_121) fun n_123=>exI .u64 (Int.fdiv n_123 67108864) fun n_124=>exW .u64 (((n_123%18446744073709551616).toNat &&& 67108863:Nat):Int) fun n_125=>((oldL 0 (ofBytes s_25)&&true ||
 oldL 6 (ofBytes s_25++[AV.int .u8 1]))&&true)=true∧exW .u64 (n_111+n_124) fun n_126=>exI .u64 (Int.fdiv n_126 67108864) fun n_127=>exW .u64 (((n_126%18446744073709551616).toNat &&& 67108863:Nat):Int) fun n_128=>((oldL
 0 (ofBytes s_25)&&true||oldL 6 (ofBytes s_25++[AV.int .u8 1]))&&true)=true∧exW .u64 (5*n_127) fun n_129=>exW .u64 (n_116+n_129) fun n_130=>((oldL 0 (ofBytes s_25)&&true||oldL 6 (ofBytes s_25++[AV.int .u8 1])) &&
 true)=true∧exI .u64 (Int.fdiv n_130 67108864) fun n_131=>exW .u64 (n_119+n_131) fun n_132=>exW .u64 (((n_130%18446744073709551616).toNat &&& 67108863:Nat):Int) fun n_133=>((oldL 0 (ofBytes s_25)&&true||oldL 6 (ofBytes
 s_25++[AV.int .u8 1]))&&true)=true∧((oldL 0 (ofBytes s_25)&&true||oldL 5 (ofBytes s_25++[AV.int .u8 1]))&&true)=true∧ckQ (decide (0≤n_24)&&true&&Nat.ble n_24.toNat x_21.1.length&&Nat.ble x_21.1.length
 x_21.1.length) (exS (.str ((x_21.1.drop n_24.toNat).take (x_21.1.length-n_24.toNat))) fun s_134=>(eqqQ [Lp.mk 0 (T.n (T.n (T.n (T.n (T.n T.e .undef (T.n T.e (.fn (Fn.func 143) [] [.ptr 2 1 0]) T.e)) (.int .i64 16) T.e) .undef (T.n T.e
 .undef (T.n (T.n T.e (.sl 0 s_0.length 0 s_0.length 1) T.e) .undef T.e))) (.str s) (T.n (T.n (T.n (T.n T.e (.int .i64 16) T.e) .undef T.e) .undef T.e) (.sl 0 s_0.length 0 s_0.length 1) (T.n T.e .undef (T.n (T.n T.e (.agg [.int .u64 0,.int
 .u64 0,.int .u64 0,.int .u64 0,.int .u64 0,.int .u64 (a_16:Int),.int .u64 (b_17:Int),.int .u64 (c_18:Int),.int .u64 (d_19:Int),.int .u64 (e_20:Int)]) T.e) .undef T.e)))) (.str key) (T.n (T.n (T.n T.e (.ptr 1 10 0) T.e)
 (.str []) (T.n T.e .undef (T.n (T.n T.e (.agg [.int .u64 (a_16:Int),.int .u64 (b_17:Int),.int .u64 (c_18:Int),.int .u64 (d_19:Int),.int .u64 (e_20:Int)]) T.e) .undef T.e))) .undef (T.n (T.n (T.n (T.n T.e (.bool false) T.e)
 .undef T.e) .undef T.e) .undef (T.n T.e .undef (T.n (T.n T.e (.str s) T.e) .undef T.e))))) [48] (AC.region [AOper.mk (Option.some (9:Nat)) (AOp.mv (AO.t 48)) Option.none 0 0]) (AC.block 5 (AC.region [AOper.mk (Option.some (49:Nat))
 (AOp.mv (AO.t 9)) Option.none 0 0,AOper.mk (Option.some (50:Nat)) (AOp.call (AO.c (.fn (Fn.func 127) [] [])) [AO.t 8,AO.t 49]) Option.none 0 0])) Lst.ready 101]∧(1:Nat)=(1:Nat))∧∃y_135:List UInt8×Nat×Nat×Nat×Nat ×
 Nat×Nat,Lf (y_135.1.length≤y_135.2.1∧y_135.2.1≤s.length∧y_135.2.2.1≤67108864∧y_135.2.2.2.1≤67108864∧y_135.2.2.2.2.1≤67108864∧y_135.2.2.2.2.2.1≤67108864∧y_135.2.2.2.2.2.2≤67108864∧Rc.polyM (Rc.leNM rb)
 y_135.2.1 (Rc.valM y_135.2.2.1 y_135.2.2.2.1 y_135.2.2.2.2.1 y_135.2.2.2.2.2.1 y_135.2.2.2.2.2.2%Rc.pM) y_135.1=Rc.polyM (Rc.leNM rb) s.length 0 s)∧y_135.2.1<x_21.2.1∧eqqQ (ofBytes rb)∧[AV.int .u64 n_133,.int .u64 n_132,.int
 .u64 n_122,.int .u64 n_125,.int .u64 n_128,.int .u64 (r0:Int),.int .u64 (r1:Int),.int .u64 (r2:Int),.int .u64 (r3:Int),.int .u64 (r4:Int)]=[AV.int .u64 (y_135.2.2.1:Int),.int .u64 (y_135.2.2.2.1:Int),.int .u64
 (y_135.2.2.2.2.1:Int),.int .u64 (y_135.2.2.2.2.2.1:Int),.int .u64 (y_135.2.2.2.2.2.2:Int),.int .u64 (r0:Int),.int .u64 (r1:Int),.int .u64 (r2:Int),.int .u64 (r3:Int),.int .u64 (r4:Int)]∧[AV.str s_134]=[AV.str
 y_135.1]∧eqqQ (AV.yld 0)∧eqqQ (AV.ptr 2 1 0)∧True)))) else exW .u64 ((x_21.2.2.1:Int)+0) fun n_23=>exI .u64 (Int.fdiv n_23 67108864) fun n_24=>exW .u64 (((n_23%18446744073709551616).toNat &&& 67108863:Nat):Int) fun n_25
 => true=true∧exW .u64 ((x_21.2.2.2.1:Int)+n_24) fun n_26=>exI .u64 (Int.fdiv n_26 67108864) fun n_27=>exW .u64 (((n_26%18446744073709551616).toNat &&& 67108863:Nat):Int) fun n_28=>true=true∧exW .u64 ((x_21.2.2.2.2.1
 : Int)+n_27) fun n_29=>exI .u64 (Int.fdiv n_29 67108864) fun n_30=>exW .u64 (((n_29%18446744073709551616).toNat &&& 67108863:Nat):Int) fun n_31=>true=true∧exW .u64 ((x_21.2.2.2.2.2.1:Int)+n_30) fun n_32=>exI .u64
 (Int.fdiv n_32 67108864) fun n_33=>exW .u64 (((n_32%18446744073709551616).toNat &&& 67108863:Nat):Int) fun n_34=>true=true∧exW .u64 ((x_21.2.2.2.2.2.2:Int)+n_33) fun n_35=>exI .u64 (Int.fdiv n_35 67108864) fun n_36=>
 exW .u64 (((n_35%18446744073709551616).toNat &&& 67108863:Nat):Int) fun n_37=>true=true∧exW .u64 (5*n_36) fun n_38=>exW .u64 (n_25+n_38) fun n_39=>true=true∧exW .u64 (n_39+0) fun n_40=>exI .u64 (Int.fdiv n_40
 67108864) fun n_41=>exW .u64 (((n_40%18446744073709551616).toNat &&& 67108863:Nat):Int) fun n_42=>true=true∧exW .u64 (n_28+n_41) fun n_43=>exI .u64 (Int.fdiv n_43 67108864) fun n_44=>exW .u64 (((n_43 %
 18446744073709551616).toNat &&& 67108863:Nat):Int) fun n_45=>true=true∧exW .u64 (n_31+n_44) fun n_46=>exI .u64 (Int.fdiv n_46 67108864) fun n_47=>exW .u64 (((n_46%18446744073709551616).toNat &&& 67108863:Nat):Int) fun
 n_48=>true=true∧exW .u64 (n_34+n_47) fun n_49=>exI .u64 (Int.fdiv n_49 67108864) fun n_50=>exW .u64 (((n_49%18446744073709551616).toNat &&& 67108863:Nat):Int) fun n_51=>true=true∧exW .u64 (n_37+n_50) fun n_52=>
 exI .u64 (Int.fdiv n_52 67108864) fun n_53=>exW .u64 (((n_52%18446744073709551616).toNat &&& 67108863:Nat):Int) fun n_54=>true=true∧exW .u64 (5*n_53) fun n_55=>exW .u64 (n_42+n_55) fun n_56=>true=true∧exI .u64
 (Int.fdiv n_56 67108864) fun n_57=>exW .u64 (n_45+n_57) fun n_58=>exW .u64 (((n_56%18446744073709551616).toNat &&& 67108863:Nat):Int) fun n_59=>true=true∧exW .u64 (n_59+5) fun n_60=>exW .u64 (n_60+0) fun n_61=>exI
 .u64 (Int.fdiv n_61 67108864) fun n_62=>exW .u64 (((n_61%18446744073709551616).toNat &&& 67108863:Nat):Int) fun n_63=>exW .u64 (n_58+n_62) fun n_64=>exI .u64 (Int.fdiv n_64 67108864) fun n_65=>exW .u64 (((n_64 %
 18446744073709551616).toNat &&& 67108863:Nat):Int) fun n_66=>exW .u64 (n_48+n_65) fun n_67=>exI .u64 (Int.fdiv n_67 67108864) fun n_68=>exW .u64 (((n_67%18446744073709551616).toNat &&& 67108863:Nat):Int) fun n_69=>exW
 .u64 (n_51+n_68) fun n_70=>exI .u64 (Int.fdiv n_70 67108864) fun n_71=>exW .u64 (((n_70%18446744073709551616).toNat &&& 67108863:Nat):Int) fun n_72=>exW .u64 (n_54+n_71) fun n_73=>exI .u64 (Int.fdiv n_73 67108864) fun
 n_74=>exW .u64 (((n_73%18446744073709551616).toNat &&& 67108863:Nat):Int) fun n_75=>bif decide (n_74>0) then ckQ (Nat.ble 16 key.length&&Nat.ble key.length key.length) (exS (.str ((key.drop 16).take (key.length-16))) fun
 s_76=>ckQ (Nat.beq (ofBytes s_76).length s_76.length&&Nat.ble (0+s_76.length*1) s_76.length&&true) (∃s_77:List UInt8,Lf (List.map (fun (x_78:AV)=>frzV 1 [Blk.mk BK.grow true (ofBytes rb),Blk.mk BK.exact true [.int .u64
 n_63,.int .u64 n_66,.int .u64 n_69,.int .u64 n_72,.int .u64 n_75,.int .u64 (r0:Int),.int .u64 (r1:Int),.int .u64 (r2:Int),.int .u64 (r3:Int),.int .u64 (r4:Int)],Blk.mk BK.exact true [.str x_21.1],Blk.mk BK.exact true
 [.int .u64 n_63,.int .u64 n_66,.int .u64 n_69,.int .u64 n_72,.int .u64 n_75],Blk.mk BK.grow (oldL 0 (ofBytes s_76)) (ofBytes s_76)] 8 x_78) (((ofBytes s_76).drop 0).take (s_76.length*1))=ofBytes s_77∧s_76.length=s_77.length ∧
 s_77.length≤17∧Rc.leNM s_77<1361129467683753853853498429727072845824)∧∀a_78 b_79 c_80 d_81 e_82:Nat,Lf (Rc.limM (Rc.leNM s_77)=[a_78,b_79,c_80,d_81,e_82])→exW .u64 (n_63+(a_78:Int)) fun n_83=>((oldL 0 (ofBytes
 s_76)||oldL 5 (ofBytes s_76))&&true)=true∧exW .u64 (n_66+(b_79:Int)) fun n_84=>((oldL 0 (ofBytes s_76)||oldL 5 (ofBytes s_76))&&true)=true∧exW .u64 (n_69+(c_80:Int)) fun n_85=>((oldL 0 (ofBytes s_76)||oldL 5
 (ofBytes s_76))&&true)=true∧exW .u64 (n_72+(d_81:Int)) fun n_86=>((oldL 0 (ofBytes s_76)||oldL 5 (ofBytes s_76))&&true)=true∧exW .u64 (n_75+(e_82:Int)) fun n_87=>((oldL 0 (ofBytes s_76)||oldL 5 (ofBytes s_76))
 && true)=true∧exW .u64 (n_83+0) fun n_88=>exI .u64 (Int.fdiv n_88 67108864) fun n_89=>exW .u64 (((n_88%18446744073709551616).toNat &&& 67108863:Nat):Int) fun n_90=>exW .u64 (n_90*1) fun n_91=>exW .u64 ((0 ||| (n_91 %
 18446744073709551616).toNat:Nat):Int) fun n_92=>exW .u8 n_92 fun n_93=>exI .u64 (Int.fdiv n_92 256) fun n_94=>exW .u8 n_94 fun n_95=>exI .u64 (Int.fdiv n_94 256) fun n_96=>exW .u8 n_96 fun n_97=>exI .u64 (Int.fdiv n_96 256)
 fun n_98=>exW .u64 (n_84+n_89) fun n_99=>exI .u64 (Int.fdiv n_99 67108864) fun n_100=>exW .u64 (((n_99%18446744073709551616).toNat &&& 67108863:Nat):Int) fun n_101=>exW .u64 (n_101*4) fun n_102=>exW .u64 (((n_98 %
 18446744073709551616).toNat ||| (n_102%18446744073709551616).toNat:Nat):Int) fun n_103=>exW .u8 n_103 fun n_104=>exI .u64 (Int.fdiv n_103 256) fun n_105=>exW .u8 n_105 fun n_106=>exI .u64 (Int.fdiv n_105 256) fun n_107=>exW
 .u8 n_107 fun n_108=>exI .u64 (Int.fdiv n_107 256) fun n_109=>exW .u64 (n_85+n_100) fun n_110=>exI .u64 (Int.fdiv n_110 67108864) fun n_111=>exW .u64 (((n_110%18446744073709551616).toNat &&& 67108863:Nat):Int) fun n_112=>
 exW .u64 (n_112*16) fun n_113=>exW .u64 (((n_109%18446744073709551616).toNat ||| (n_113%18446744073709551616).toNat:Nat):Int) fun n_114=>exW .u8 n_114 fun n_115=>exI .u64 (Int.fdiv n_114 256) fun n_116=>exW .u8 n_116 fun
 n_117=>exI .u64 (Int.fdiv n_116 256) fun n_118=>exW .u8 n_118 fun n_119=>exI .u64 (Int.fdiv n_118 256) fun n_120=>exW .u64 (n_86+n_111) fun n_121=>exI .u64 (Int.fdiv n_121 67108864) fun n_122=>exW .u64 (((n_121 %
 18446744073709551616).toNat &&& 67108863:Nat):Int) fun n_123=>exW .u64 (n_123*64) fun n_124=>exW .u64 (((n_120%18446744073709551616).toNat ||| (n_124%18446744073709551616).toNat:Nat):Int) fun n_125=>exW .u8 n_125 fun
 n_126=>exI .u64 (Int.fdiv n_125 256) fun n_127=>exW .u8 n_127 fun n_128=>exI .u64 (Int.fdiv n_127 256) fun n_129=>exW .u8 n_129 fun n_130=>exI .u64 (Int.fdiv n_129 256) fun n_131=>exW .u8 n_131 fun n_132=>exI .u64 (Int.fdiv
 n_131 256) fun n_133=>exW .u64 (n_87+n_122) fun n_134=>exI .u64 (Int.fdiv n_134 67108864) fun n_135=>exW .u64 (((n_134%18446744073709551616).toNat &&& 67108863:Nat):Int) fun n_136=>exW .u64 (n_136*1) fun n_137=>exW .u64
 (((n_133%18446744073709551616).toNat ||| (n_137%18446744073709551616).toNat:Nat):Int) fun n_138=>exW .u8 n_138 fun n_139=>exI .u64 (Int.fdiv n_138 256) fun n_140=>exW .u8 n_140 fun n_141=>exI .u64 (Int.fdiv n_140 256) fun
 n_142=>exW .u8 n_142 fun n_143=>exI .u64 (Int.fdiv n_142 256) fun n_144=>exS (.str [toB (.int .u8 n_93),toB (.int .u8 n_95),toB (.int .u8 n_97),toB (.int .u8 n_104),toB (.int .u8 n_106),toB (.int .u8 n_108),toB (.int .u8
 n_115),toB (.int .u8 n_117),toB (.int .u8 n_119),toB (.int .u8 n_126),toB (.int .u8 n_128),toB (.int .u8 n_130),toB (.int .u8 n_132),toB (.int .u8 n_139),toB (.int .u8 n_141),toB (.int .u8 n_143)]) fun s_145=>Q (.ret (.str
 s_145)) [] (Gh.mk 0 1 []))) else ckQ (Nat.ble 16 key.length&&Nat.ble key.length key.length) (exS (.str ((key.drop 16).take (key.length-16))) fun s_76=>ckQ (Nat.beq (ofBytes s_76).length s_76.length&&Nat.ble (0+s_76.length*1)
 s_76.length&&true) (∃s_77:List UInt8,Lf (List.map (fun (x_78:AV)=>frzV 1 [Blk.mk BK.grow true (ofBytes rb),Blk.mk BK.exact true [.int .u64 n_59,.int .u64 n_58,.int .u64 n_48,.int .u64 n_51,.int .u64 n_54,.int .u64 (r0 :
 Int),.int .u64 (r1:Int),.int .u64 (r2:Int),.int .u64 (r3:Int),.int .u64 (r4:Int)],Blk.mk BK.exact true [.str x_21.1],Blk.mk BK.exact true [.int .u64 n_63,.int .u64 n_66,.int .u64 n_69,.int .u64 n_72,.int .u64 n_75],
 Blk.mk BK.grow (oldL 0 (ofBytes s_76)) (ofBytes s_76)] 8 x_78) (((ofBytes s_76).drop 0).take (s_76.length*1))=ofBytes s_77∧s_76.length=s_77.length∧s_77.length≤17∧Rc.leNM s_77<1361129467683753853853498429727072845824)∧∀
 a_78 b_79 c_80 d_81 e_82:Nat,Lf (Rc.limM (Rc.leNM s_77)=[a_78,b_79,c_80,d_81,e_82])→exW .u64 (n_59+(a_78:Int)) fun n_83=>((oldL 0 (ofBytes s_76)||oldL 5 (ofBytes s_76))&&true)=true∧exW .u64 (n_58+(b_79:Int))
 fun n_84=>((oldL 0 (ofBytes s_76)||oldL 5 (ofBytes s_76))&&true)=true∧exW .u64 (n_48+(c_80:Int)) fun n_85=>((oldL 0 (ofBytes s_76)||oldL 5 (ofBytes s_76))&&true)=true∧exW .u64 (n_51+(d_81:Int)) fun n_86=>
 ((oldL 0 (ofBytes s_76)||oldL 5 (ofBytes s_76))&&true)=true∧exW .u64 (n_54+(e_82:Int)) fun n_87=>((oldL 0 (ofBytes s_76)||oldL 5 (ofBytes s_76))&&true)=true∧exW .u64 (n_83+0) fun n_88=>exI .u64 (Int.fdiv n_88
 67108864) fun n_89=>exW .u64 (((n_88%18446744073709551616).toNat &&& 67108863:Nat):Int) fun n_90=>exW .u64 (n_90*1) fun n_91=>exW .u64 ((0 ||| (n_91%18446744073709551616).toNat:Nat):Int) fun n_92=>exW .u8 n_92 fun
 n_93=>exI .u64 (Int.fdiv n_92 256) fun n_94=>exW .u8 n_94 fun n_95=>exI .u64 (Int.fdiv n_94 256) fun n_96=>exW .u8 n_96 fun n_97=>exI .u64 (Int.fdiv n_96 256) fun n_98=>exW .u64 (n_84+n_89) fun n_99=>exI .u64 (Int.fdiv n_99
 67108864) fun n_100=>exW .u64 (((n_99%18446744073709551616).toNat &&& 67108863:Nat):Int) fun n_101=>exW .u64 (n_101*4) fun n_102=>exW .u64 (((n_98%18446744073709551616).toNat ||| (n_102%18446744073709551616).toNat:Nat)
 : Int) fun n_103=>exW .u8 n_103 fun n_104=>exI .u64 (Int.fdiv n_103 256) fun n_105=>exW .u8 n_105 fun n_106=>exI .u64 (Int.fdiv n_105 256) fun n_107=>exW .u8 n_107 fun n_108=>exI .u64 (Int.fdiv n_107 256) fun n_109=>exW .u64
 (n_85+n_100) fun n_110=>exI .u64 (Int.fdiv n_110 67108864) fun n_111=>exW .u64 (((n_110%18446744073709551616).toNat &&& 67108863:Nat):Int) fun n_112=>exW .u64 (n_112*16) fun n_113=>exW .u64 (((n_109 %
 18446744073709551616).toNat ||| (n_113%18446744073709551616).toNat:Nat):Int) fun n_114=>exW .u8 n_114 fun n_115=>exI .u64 (Int.fdiv n_114 256) fun n_116=>exW .u8 n_116 fun n_117=>exI .u64 (Int.fdiv n_116 256) fun n_118=>exW
 .u8 n_118 fun n_119=>exI .u64 (Int.fdiv n_118 256) fun n_120=>exW .u64 (n_86+n_111) fun n_121=>exI .u64 (Int.fdiv n_121 67108864) fun n_122=>exW .u64 (((n_121%18446744073709551616).toNat &&& 67108863:Nat):Int) fun n_123=>
 exW .u64 (n_123*64) fun n_124=>exW .u64 (((n_120%18446744073709551616).toNat ||| (n_124%18446744073709551616).toNat:Nat):Int) fun n_125=>exW .u8 n_125 fun n_126=>exI .u64 (Int.fdiv n_125 256) fun n_127=>exW .u8 n_127 fun
 n_128=>exI .u64 (Int.fdiv n_127 256) fun n_129=>exW .u8 n_129 fun n_130=>exI .u64 (Int.fdiv n_129 256) fun n_131=>exW .u8 n_131 fun n_132=>exI .u64 (Int.fdiv n_131 256) fun n_133=>exW .u64 (n_87+n_122) fun n_134=>exI .u64
 (Int.fdiv n_134 67108864) fun n_135=>exW .u64 (((n_134%18446744073709551616).toNat &&& 67108863:Nat):Int) fun n_136=>exW .u64 (n_136*1) fun n_137=>exW .u64 (((n_133%18446744073709551616).toNat ||| (n_137 %
 18446744073709551616).toNat:Nat):Int) fun n_138=>exW .u8 n_138 fun n_139=>exI .u64 (Int.fdiv n_138 256) fun n_140=>exW .u8 n_140 fun n_141=>exI .u64 (Int.fdiv n_140 256) fun n_142=>exW .u8 n_142 fun n_143=>exI .u64
 (Int.fdiv n_142 256) fun n_144=>exS (.str [toB (.int .u8 n_93),toB (.int .u8 n_95),toB (.int .u8 n_97),toB (.int .u8 n_104),toB (.int .u8 n_106),toB (.int .u8 n_108),toB (.int .u8 n_115),toB (.int .u8 n_117),toB (.int .u8 n_119),
 toB (.int .u8 n_126),toB (.int .u8 n_128),toB (.int .u8 n_130),toB (.int .u8 n_132),toB (.int .u8 n_139),toB (.int .u8 n_141),toB (.int .u8 n_143)]) fun s_145=>Q (.ret (.str s_145)) [] (Gh.mk 0 1
 [])))))))))))))))))))))))))))))))))):=by kernel_rfl

end Go.Proofs.YtjenieljapmehaaGreatDoor.Rc
