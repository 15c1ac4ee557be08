/-
  Chapter 4: the reference's Apply, up, eight.
-/
import Derived.Test.YtiholnebhmjbjaaGreatZ4RK
set_option linter.unusedSimpArgs false
set_option linter.unusedVariables false
set_option linter.unusedSectionVars false
namespace Go.Proofs.YtiholnebhmjbjaaGreat
open Go.RowKit
set_option maxRecDepth 1000000

def blkBM (w:W16) (c:Int):List UInt8:=(blkM w c).map UInt8.ofNat
def inv_35 (s:S):List (List LInv):=match s.tm.get 0,s.tm.get 1,s.tm.get 2,s.tm.get 3 with
 | .str key,.str nonce,.int _ c,.str t=>[[
  { α:=Nat,pre:=fun p=>Lf (p=0),st:=fun p=>⟨mkT [(0,s.tm.get 0),(1,s.tm.get 1),(2,s.tm.get 2),(3,s.tm.get 3),(9,.nils),(10,.str []),(11,.int .i64 (p:Nat))],[]⟩,mu:=fun _=>t.length+1 },
  { α:=Nat×List AV,pre:=fun x=>Lf (1≤x.1∧x.1≤t.length),st:=fun x=>⟨mkT [(0,s.tm.get 0),(1,s.tm.get 1),(2,s.tm.get 2),(3,s.tm.get 3),(9,.sl 1 x.1 0 x.1 1),(10,.str (blkBM (firstM key nonce) (c+((x.1-1)/64:Nat)))),(11,.int .i64 (x.1:Nat))],[⟨.exact,true,x.2⟩,⟨.grow,true,ofBytes ((appM (firstM key nonce) c 70 t).take x.1)⟩]⟩,mu:=fun x=>t.length-x.1 }]]
 | _,_,_,_=>[]
def smAp:SM:=lookS [(61,cBlkR)]
theorem smAp_ok:∀f g,smAp f=some g→ValidF Tryz.prog gl0 f g:=lookS_ok _ (by simp only[List.mem_cons,List.not_mem_nil,or_false,forall_eq];exact rblk_ok)
noncomputable def env_35 (hv:Nat→Option Pa) (hb:Nat→Option Bool):Env := { e04 smAp (fun x=>bif Nat.beq x 59000 then some inv_35 else none) hv hb with hz:=fun k=>Nat.beq k 241701 }
noncomputable def goal_35f (hv:Nat→Option Pa) (hb:Nat→Option Bool) (key nonce:List UInt8) (c:Int) (s:List UInt8) (Q:Out→List Blk→Gh→Prop):Prop:=
 callx (env_35 hv hb) (wpx (env_35 hv hb) 1000) 59 [.str key,.str nonce,.int .i64 c,.str s] [] {} Q
abbrev zRL9 (key:List UInt8):Prop:=eqqQ (AV.str key)
abbrev zRL6 (x_0:Nat×List AV) (s:List UInt8):Prop:=Lf (1≤x_0.1∧x_0.1≤s.length)
abbrev zRL2 (n_10:Int) (s:List UInt8):Bool:=decide (0≤n_10)&&Nat.blt n_10.toNat s.length
abbrev zRL1 (s:List UInt8) (n_10:Int):Int:=(UInt8.toNat (s.getD n_10.toNat (UInt8.ofNat 0)):Int)
abbrev zRL7 (n_11 n_15:Int):Int:=(((n_11%256).toNat ^^^ (n_15%256).toNat:Nat):Int)
abbrev zRL4:Prop:=True∧(0:Nat)=(0:Nat)
abbrev zRL13 (s:List UInt8):Prop:=∃y_19:Nat,Lf (y_19=0)∧s.length+1<s.length+1∧False
abbrev zRL3 (y_19:Nat×List AV) (key nonce:List UInt8) (c:Int) (s:List UInt8):List AV:=ofBytes ((appM (firstM key nonce) c 70 s).take y_19.1)
abbrev zRL12 (n_18:Int) (y_19:Nat×List AV):Prop:=AV.int .i64 n_18=AV.int .i64 (y_19.1:Int)
abbrev zRL5 (key nonce:List UInt8) (c:Int) (y_19:Nat×List AV):AV:=.str (blkBM (firstM key nonce) (c+(((y_19.1-1)/64:Nat):Int)))
abbrev zRL11 (x_0:Nat×List AV) (key nonce:List UInt8) (c:Int) (s:List UInt8):Bool:=Nat.beq (zRL3 x_0 key nonce c s).length x_0.1&&true&&Nat.beq (0+x_0.1*1) x_0.1&&Nat.ble (x_0.1+1) 1099511627776&&Nat.ble ((x_0.1+1)*1) 1099511627776
theorem vc_35f (key:List UInt8) (nonce:List UInt8) (c:Int) (s:List UInt8) (Q:Out→List Blk→Gh→Prop):goal_35f (lookV [(241676,.int .i64),(241678,.int .i64),(241682,.int .i64),(241683,.int .i64),(241688,.int .i64),
 (241689,.int .i64),(241690,.int .i64),(241694,.int .i64),(241695,.int .u8),(241697,.int .i64),(241698,.int .i64),(241699,.int .u8),(241700,.int .u8),(241680,.int .i64),(241681,.int .i64),(241696,.str),(241704,.str)])
 (lookB []) key nonce c s Q=(((∃x_0:Nat,Lf (x_0=0)∧zRL9 key∧zRL9 nonce∧eqqQ (AV.str s)∧AV.int .i64 0=AV.int .i64 (x_0:Int)∧AV.nils=AV.nils∧eqqQ (AV.int .i64 c)∧eqqQ (AV.str [])∧True)∨∃x_0:Nat×List AV,
 zRL6 x_0 s∧False)∧(∀x_0:Nat,Lf (x_0=0)→exI .i64 (x_0:Int) (fun n_1=>exI .i64 (s.length:Int) (fun n_2=>bif decide (n_1<n_2) then exI .i64 (x_0:Int) (fun n_3=>exI .i64 (n_3.tmod 64) (fun n_4=>bif n_4==0 then exI
 .i64 (x_0:Int) (fun n_5=>exW .i64 (n_5.tdiv 64) (fun n_6=>exW .i64 (c+n_6) (fun n_7=>∃n_8:Nat,Lf (n_7=(n_8:Int)∧n_8<4294967296∧key.length=32∧nonce.length=12)∧∀t_9:List UInt8,Lf (t_9=List.map
 UInt8.ofNat (blkM (firstM key nonce) n_7))→exI .i64 (x_0:Int) (fun n_10=>ckQ (zRL2 n_10 s) (exI .u8 (zRL1 s n_10) (fun n_11=>exS (.str t_9) (fun s_12=>exI .i64 (x_0:Int) (fun n_13=>exI .i64 (n_13.tmod 64) (fun n_14=>ckQ
 (zRL2 n_14 s_12) (exI .u8 (zRL1 s_12 n_14) (fun n_15=>exW .u8 (zRL7 n_11 n_15) (fun n_16=>exI .i64 (x_0:Int) (fun n_17=>exW .i64 (n_17+1) (fun n_18=>zRL4∧(zRL13 s∨∃y_19:Nat×List AV,zRL6 y_19 s∧s.length-y_19.1 <
 s.length+1∧[AV.int .u8 n_16]=y_19.2∧[AV.int .u8 n_16]=zRL3 y_19 key nonce c s∧zRL9 key∧zRL9 nonce∧eqqQ (AV.str s)∧zRL12 n_18 y_19∧AV.sl 1 1 0 1 1=AV.sl 1 y_19.1 0 y_19.1 1∧eqqQ (AV.int .i64 c)∧AV.str t_9=zRL5
 key nonce c y_19∧True))))))))))))))) else exI .i64 (x_0:Int) (fun n_5=>ckQ (zRL2 n_5 s) (exI .u8 (zRL1 s n_5) (fun n_6=>exS (.str []) (fun s_7=>exI .i64 (x_0:Int) (fun n_8=>exI .i64 (n_8.tmod 64) (fun n_9=>ckQ (zRL2 n_9
 s_7) (exI .u8 (zRL1 s_7 n_9) (fun n_10=>exW .u8 (zRL7 n_6 n_10) (fun n_11=>exI .i64 (x_0:Int) (fun n_12=>exW .i64 (n_12+1) (fun n_13=>zRL4∧(zRL13 s∨∃y_14:Nat×List AV,zRL6 y_14 s∧s.length-y_14.1<s.length+1 ∧
 [AV.int .u8 n_11]=y_14.2∧[AV.int .u8 n_11]=zRL3 y_14 key nonce c s∧zRL9 key∧zRL9 nonce∧eqqQ (AV.str s)∧zRL12 n_13 y_14∧AV.sl 1 1 0 1 1=AV.sl 1 y_14.1 0 y_14.1 1∧eqqQ (AV.int .i64 c)∧AV.str []=zRL5 key nonce c y_14 ∧
 True)))))))))))))) else exS (.str []) (fun s_3=>Q (.ret (.str s_3)) [] {}))))∧∀x_0:Nat×List AV,zRL6 x_0 s→exI .i64 (x_0.1:Int) (fun n_1=>exI .i64 (s.length:Int) (fun n_2=>bif decide (n_1<n_2) then exI .i64 (x_0.1 :
 Int) (fun n_3=>exI .i64 (n_3.tmod 64) (fun n_4=>bif n_4==0 then exI .i64 (x_0.1:Int) (fun n_5=>exW .i64 (n_5.tdiv 64) (fun n_6=>exW .i64 (c+n_6) (fun n_7=>∃n_8:Nat,Lf (n_7=(n_8:Int)∧n_8<4294967296∧key.length =
 32∧nonce.length=12)∧∀t_9:List UInt8,Lf (t_9=List.map UInt8.ofNat (blkM (firstM key nonce) n_7))→exI .i64 (x_0.1:Int) (fun n_10=>ckQ (zRL2 n_10 s) (exI .u8 (zRL1 s n_10) (fun n_11=>exS (.str t_9) (fun s_12=>exI .i64
 (x_0.1:Int) (fun n_13=>exI .i64 (n_13.tmod 64) (fun n_14=>ckQ (zRL2 n_14 s_12) (exI .u8 (zRL1 s_12 n_14) (fun n_15=>exW .u8 (zRL7 n_11 n_15) (fun n_16=>ckQ (zRL11 x_0 key nonce c s) (exI .i64 (x_0.1:Int) (fun n_17=>exW .i64
 (n_17+1) (fun n_18=>zRL4∧((∃y_19:Nat,Lf (y_19=0)∧s.length+1<s.length-x_0.1∧False)∨∃y_19:Nat×List AV,zRL6 y_19 s∧s.length-y_19.1<s.length-x_0.1∧x_0.2=y_19.2∧zRL3 x_0 key nonce c s++[AV.int .u8
 n_16]=zRL3 y_19 key nonce c s∧zRL9 key∧zRL9 nonce∧eqqQ (AV.str s)∧zRL12 n_18 y_19∧AV.sl 1 (x_0.1+1) 0 (x_0.1+1) 1=AV.sl 1 y_19.1 0 y_19.1 1∧eqqQ (AV.int .i64 c)∧AV.str t_9=zRL5 key nonce c y_19 ∧
 True)))))))))))))))) else exI .i64 (x_0.1:Int) (fun n_5=>ckQ (zRL2 n_5 s) (exI .u8 (zRL1 s n_5) (fun n_6=>exS (.str (blkBM (firstM key nonce) (c+(((x_0.1-1)/64:Nat):Int)))) (fun s_7=>exI .i64 (x_0.1:Int) (fun n_8=>exI
 .i64 (n_8.tmod 64) (fun n_9=>ckQ (zRL2 n_9 s_7) (exI .u8 (zRL1 s_7 n_9) (fun n_10=>exW .u8 (zRL7 n_6 n_10) (fun n_11=>ckQ (zRL11 x_0 key nonce c s) (exI .i64 (x_0.1:Int) (fun n_12=>exW .i64 (n_12+1) (fun n_13=>zRL4∧((∃y_14
 : Nat,Lf (y_14=0)∧s.length+1<s.length-x_0.1∧False)∨∃y_14:Nat×List AV,zRL6 y_14 s∧s.length-y_14.1<s.length-x_0.1∧x_0.2=y_14.2∧zRL3 x_0 key nonce c s++[AV.int .u8 n_11]=zRL3 y_14 key nonce c s∧zRL9
 key∧zRL9 nonce∧eqqQ (AV.str s)∧zRL12 n_13 y_14∧AV.sl 1 (x_0.1+1) 0 (x_0.1+1) 1=AV.sl 1 y_14.1 0 y_14.1 1∧eqqQ (AV.int .i64 c)∧zRL5 key nonce c x_0=zRL5 key nonce c y_14∧True))))))))))))))) else ckQ (Nat.beq (zRL3 x_0
 key nonce c s).length x_0.1&&Nat.ble (0+x_0.1) x_0.1&&true&&allU8 (((zRL3 x_0 key nonce c s).drop 0).take x_0.1)) (exS (.str (List.map toB (((zRL3 x_0 key nonce c s).drop 0).take x_0.1))) (fun s_3=>Q (.ret (.str s_3)) [] {})))))
 := by kernel_rfl

def inv_37 (s:S):List (List LInv):=match s.tm.get 0 with
 | .str t=>[[{ α:=Nat,pre:=fun k=>Lf (k≤(16-t.length%16)%16),st:=fun k=>⟨mkT [(0,.str (t++List.replicate k 0))],[]⟩,mu:=fun k=>20-k }]]
 | _=>[]
noncomputable def env_37 (hv:Nat→Option Pa) (hb:Nat→Option Bool):Env := { e04 sm0 (fun x=>bif Nat.beq x 62000 then some inv_37 else none) hv hb with hz:=fun k=>Nat.beq k 253960 }
noncomputable def goal_37f (hv:Nat→Option Pa) (hb:Nat→Option Bool) (s:List UInt8) (Q:Out→List Blk→Gh→Prop):Prop:=
 callx (env_37 hv hb) (wpx (env_37 hv hb) 1000) 62 [.str s] [] {} Q
abbrev zRL8 (s:List UInt8) (x_0:Nat):List UInt8:=s++List.replicate x_0 (UInt8.ofNat 0)
theorem vc_37f (s:List UInt8) (Q:Out→List Blk→Gh→Prop):goal_37f (lookV [(253955,.str),(253956,.int .i64),(253957,.int .i64),(253959,.str),(253962,.str),(253963,.str)]) (lookB []) s Q=((∃x_0:Nat,Lf (x_0≤(16-s.length%16)%16)∧AV.str s=AV.str (zRL8 s x_0)∧True)∧∀x_0:Nat,Lf (x_0≤(16-s.length%16)%16)→exS (.str (zRL8 s x_0)) (fun s_1=>exI .i64 (s_1.length:Int) (fun n_2=>exI .i64 (n_2.tmod 16) (fun n_3=>bif n_3 !=0 then exS (.str (zRL8 s x_0)) (fun s_4=>ckQ (decide (s_4.length+1≤9223372036854775807)&&true) (exS (.str (s_4++[toB (.int .u8 0)])) (fun s_5=>zRL4∧∃y_6:Nat,Lf (y_6≤(16-s.length%16)%16)∧20-y_6<20-x_0∧AV.str s_5=AV.str (zRL8 s y_6)∧True))) else exS (.str (zRL8 s x_0)) (fun s_4=>Q (.ret (.str s_4)) [] {}))))):=by kernel_rfl

def inv_38 (n:Nat) (s:S):List (List LInv):=match s.hp with
 | [⟨k,f,_⟩]=>[[{ α:=Nat,pre:=fun i=>Lf (i≤8),st:=fun i=>⟨mkT [(0,.int .i64 (n/256^i:Nat)),(3,s.tm.get 3),(4,.int .i64 (i:Nat))],[⟨k,f,ofBytes (leBM i n++List.replicate (8-i) 0)⟩]⟩,mu:=fun i=>8-i }]]
 | _=>[]
noncomputable def env_38 (hv:Nat→Option Pa) (hb:Nat→Option Bool) (n:Nat):Env:=e04 sm0 (fun x=>bif Nat.beq x 63000 then some (inv_38 n) else none) hv hb
noncomputable def goal_38f (hv:Nat→Option Pa) (hb:Nat→Option Bool) (n:Nat) (Q:Out→List Blk→Gh→Prop):Prop:=
 callx (env_38 hv hb n) (wpx (env_38 hv hb n) 1000) 63 [.int .i64 (n:Nat)] [] {} Q
abbrev zRL0 (x_0 n:Nat):List AV:=ofBytes (leBM x_0 n++List.replicate (8-x_0) (UInt8.ofNat 0))
abbrev zRL10 (n x_0:Nat):Int:=((n/(256:Nat)^x_0:Nat):Int)
theorem vc_38f (n:Nat) (Q:Out→List Blk→Gh→Prop):goal_38f (lookV [(258054,.int .i64),(258059,.int .i64),(258060,.int .i64),(258061,.int .i64),(258062,.int .u8),(258064,.int .i64),(258065,.int .i64),(258056,.int
 .i64),(258057,.int .i64),(258067,.str)]) (lookB []) n Q=((∃x_0:Nat,Lf (x_0≤8)∧[AV.int .u8 0,.int .u8 0,.int .u8 0,.int .u8 0,.int .u8 0,.int .u8 0,.int .u8 0,.int .u8 0]=zRL0 x_0 n∧AV.int .i64 (n:Int)=AV.int
 .i64 (zRL10 n x_0)∧eqqQ (AV.sl 0 8 0 8 1)∧AV.int .i64 0=AV.int .i64 (x_0:Int)∧True)∧∀x_0:Nat,Lf (x_0≤8)→exI .i64 (x_0:Int) (fun n_1=>bif decide (n_1<8) then exI .i64 (x_0:Int) (fun n_2=>exI .i64 (zRL10 n x_0)
 (fun n_3=>exI .i64 (n_3.tmod 256) (fun n_4=>exW .u8 n_4 (fun n_5=>ckQ (decide (0≤n_2)&&Nat.blt n_2.toNat 8&&Nat.beq (zRL0 x_0 n).length 8&&true) (ckQ (Nat.beq (zRL0 x_0 n).length 8&&Nat.ble (0+n_2.toNat*1+1) 8&&true
 && true&&true) (exI .i64 (zRL10 n x_0) (fun n_6=>exW .i64 (n_6.tdiv 256) (fun n_7=>exI .i64 (x_0:Int) (fun n_8=>exW .i64 (n_8+1) (fun n_9=>zRL4∧∃y_10:Nat,Lf (y_10≤8)∧8-y_10<8-x_0∧setRange (zRL0 x_0 n) (0 +
 n_2.toNat*1) [.int .u8 n_5]=zRL0 y_10 n∧AV.int .i64 n_7=AV.int .i64 (zRL10 n y_10)∧eqqQ (AV.sl 0 8 0 8 1)∧AV.int .i64 n_9=AV.int .i64 (y_10:Int)∧True)))))))))) else ckQ (Nat.beq (zRL0 x_0 n).length 8&&true&&true &&
 allU8 (((zRL0 x_0 n).drop 0).take 8)) (exS (.str (List.map toB (((zRL0 x_0 n).drop 0).take 8))) (fun s_2=>Q (.ret (.str s_2)) [] {})))):=by kernel_rfl

theorem u8z:UInt8.ofNat 0=(0:UInt8):=rfl
theorem up_run (s:List UInt8) (hs:s.length≤100000) (Q:Out→List Blk→Gh→Prop) (hq:Q (.ret (.str (s++List.replicate ((16-s.length%16)%16) 0))) [] {}):∃hv hb,goal_37f hv hb s Q:=by
 obtain ⟨hv,hb',e⟩:∃hv hb,goal_37f hv hb s Q=_:=⟨_,_,vc_37f s Q⟩
 refine ⟨hv,hb',e.mpr ?_⟩
 delta zRL8 zRL4
 clear e
 refine ⟨⟨0,⟨by omega⟩,by simp,trivial⟩, ?_⟩
 rintro k ⟨hk⟩
 have hl:(s++List.replicate k (0:UInt8)).length=s.length+k:=by simp
 rw[u8z]
 refine ⟨_,rfl,_,rfl, ?_⟩
 rw[hl]
 refine exM (s.length+k) 16 (splitNE (fun h => ?_) (fun h => ?_))
 ·exact ⟨_,rfl,ckI (by rw[hl];simp;omega) ⟨_,rfl,⟨trivial,rfl⟩,k+1,⟨by omega⟩,by omega,by rw[List.replicate_succ',List.append_assoc];rfl,trivial⟩⟩
 ·obtain rfl:k=(16-s.length%16)%16:=by omega
  exact ⟨_,rfl,hq⟩
def cUpR:Con
 | [.str s],H,K=>Lf (s.length≤100000)∧∀t,Lf (t=s++List.replicate ((16-s.length%16)%16) (0:UInt8))→K (.ret (.str t)) H
 | _,_,_=>False
theorem rup_ok:ValidF Tryz.prog gl0 62 cUpR:=by
 refine valid_flat (enters_of (by kernel_rfl)) gl0_noY fun args H Q hc => ?_
 unfold cUpR at hc
 split at hc
 ·rename_i s
  obtain ⟨⟨h1⟩,hq⟩:=hc
  obtain ⟨hv,hb',h⟩:=up_run s h1 (Q:=fun o H' _=>H'=[]∧(∃v,o=.ret v∧old 0 v=true∧noY v=true)∧Q o H) ⟨rfl,⟨_,rfl,rfl,rfl⟩,hq _ ⟨rfl⟩⟩
  exact ⟨rfl,rfl,_,1000,⟨mixed04,names04,tabA_ok,sm0_ok⟩,rfl,h⟩
 ·exact hc.elim
theorem leB_snoc:∀n x,leBM (n+1) x=leBM n x++[UInt8.ofNat (x/256^n%256)]
 | 0,x=>by simp[leBM]
 | n+1,x=>by
  rw[leBM,leB_snoc n,leBM,List.cons_append,Nat.div_div_eq_div_mul,Nat.pow_succ,Nat.mul_comm]
theorem eight_run (n:Nat) (hn:n≤100000) (Q:Out→List Blk→Gh→Prop) (hq:Q (.ret (.str (leBM 8 n))) [] {}):∃hv hb,goal_38f hv hb n Q:=by
 obtain ⟨hv,hb',e⟩:∃hv hb,goal_38f hv hb n Q=_:=⟨_,_,vc_38f n Q⟩
 refine ⟨hv,hb',e.mpr ?_⟩
 delta zRL0 zRL10 zRL4
 clear e
 refine ⟨⟨0,⟨by omega⟩,rfl,by simp,rfl,rfl,trivial⟩, ?_⟩
 rintro i ⟨hi⟩
 have hl:(leBM i n++List.replicate (8-i) (UInt8.ofNat 0)).length=8:=by rw[List.length_append,leB_len,List.length_replicate];omega
 have hlB:(ofBytes (leBM i n++List.replicate (8-i) (UInt8.ofNat 0))).length=8:=by rw[ofB_len,hl]
 have hd:n/256^i≤n:=Nat.div_le_self _ _
 refine ⟨_,rfl,splitD (fun h => ?_) (fun h => ?_)⟩
 ·have hst:=leB_snoc i n
  have hdd:n/256^(i+1)=n/256^i/256:=by rw[Nat.pow_succ,Nat.div_div_eq_div_mul]
  obtain ⟨D,hD⟩:∃D,n/256^i=D:=⟨_,rfl⟩
  rw[hD] at hst hdd hd ⊢
  refine ⟨_,rfl,_,rfl,exM D 256 (wrapU8 (by omega) (by omega) (ckI (by rw[hlB];simp;omega) (ckI (by rw[hlB];simp;omega) ⟨_,rfl,exT D 256 (by omega) ⟨_,rfl,wrapI (by omega) (by omega) ⟨⟨trivial,rfl⟩,i+1,⟨by omega⟩,by omega, ?_,by rw[hdd],rfl,rfl,trivial⟩⟩⟩)))⟩
  rw[show ((D%256:Nat):Int)=((UInt8.ofNat (D%256)).toNat:Int) by rw[UInt8.toNat_ofNat'];omega,stB (j:=i) (by omega) (by simp),hst,List.set_append,if_neg (by rw[leB_len];omega),leB_len,Nat.sub_self,show 8-i=(8-(i+1))+1 by omega,List.replicate_succ,List.set_cons_zero,List.append_assoc]
  rfl
 ·obtain rfl:i=8:=by omega
  rw[List.drop_zero,List.take_of_length_le (by omega),toB_ofB]
  refine ckI (by rw[hlB,allU8_ofB];rfl) ⟨_,rfl, ?_⟩
  simpa using hq
def cEight:Con
 | [.int .i64 x],H,K=>∃n:Nat,Lf (x=(n:Int)∧n≤100000)∧∀t,Lf (t=leBM 8 n)→K (.ret (.str t)) H
 | _,_,_=>False
theorem eight_ok:ValidF Tryz.prog gl0 63 cEight:=by
 refine valid_flat (enters_of (by kernel_rfl)) gl0_noY fun args H Q hc => ?_
 unfold cEight at hc
 split at hc
 ·obtain ⟨n,⟨rfl,h1⟩,hq⟩:=hc
  obtain ⟨hv,hb',h⟩:=eight_run n h1 (Q:=fun o H' _=>H'=[]∧(∃v,o=.ret v∧old 0 v=true∧noY v=true)∧Q o H) ⟨rfl,⟨_,rfl,rfl,rfl⟩,hq _ ⟨rfl⟩⟩
  exact ⟨rfl,rfl,_,1000,envFor04 sm0_ok _ _ _,rfl,h⟩
 ·exact hc.elim
theorem app_get (w:W16):∀ (f:Nat) (c:Int) (s:List UInt8) (i:Nat),i<s.length→s.length≤64*f→(appM w c f s).getD i 0=x8M (s.getD i 0) ((blkM w (c+(i/64:Nat))).getD (i%64) 0)
 | 0,c,s,i,h1,h2=>by omega
 | f+1,c,s,i,h1,h2=>by
  have hb:=len_blk w c
  have zg:∀ (a:List UInt8) (b:List Nat) (j:Nat),j<a.length→j<b.length→(zipXM a b).getD j 0=x8M (a.getD j 0) (b.getD j 0):=fun a b j ha hb=>by
   rw[zipXM,List.getD_eq_getElem?_getD,List.getElem?_zipWith,List.getD_eq_getElem?_getD,List.getD_eq_getElem?_getD,List.getElem?_eq_getElem ha,List.getElem?_eq_getElem hb]
   rfl
  rw[appM]
  split
  ·rename_i hs
   rw[zg _ _ _ h1 (by omega),Nat.div_eq_of_lt (by omega),Nat.mod_eq_of_lt (by omega),Int.natCast_zero,Int.add_zero]
  ·rename_i hs
   have lt:(s.take 64).length=64:=by rw[List.length_take];omega
   have lz:(zipXM (s.take 64) (blkM w c)).length=64:=by rw[zipX_len,lt,hb];rfl
   by_cases hi:i<64
   ·rw[List.getD_eq_getElem?_getD,List.getElem?_append_left (by omega),←List.getD_eq_getElem?_getD,zg _ _ _ (by omega) (by omega),Nat.div_eq_of_lt hi,Nat.mod_eq_of_lt hi,Int.natCast_zero,Int.add_zero]
    have e1:(s.take 64).getD i 0=s.getD i 0:=by rw[List.getD_eq_getElem?_getD,List.getElem?_take,if_pos hi,←List.getD_eq_getElem?_getD]
    rw[e1]
   ·have e1:(s.drop 64).getD (i-64) 0=s.getD i 0:=by rw[List.getD_eq_getElem?_getD,List.getElem?_drop,←List.getD_eq_getElem?_getD,show 64+(i-64)=i by omega]
    have e2:(i-64)%64=i%64:=by omega
    have e3:c+1+(((i-64)/64:Nat):Int)=c+((i/64:Nat):Int):=by omega
    rw[List.getD_eq_getElem?_getD,List.getElem?_append_right (by omega),←List.getD_eq_getElem?_getD,lz,app_get w f (c+1) (s.drop 64) (i-64) (by rw[List.length_drop];omega) (by rw[List.length_drop];omega),e1,e2,e3]
theorem rapply_run (key nonce:List UInt8) (c:Int) (s:List UInt8) (hk:key.length=32) (hn:nonce.length=12) (hc:0≤c∧c≤1000) (hs:s.length≤4480) (Q:Out→List Blk→Gh→Prop) (hq:Q (.ret (.str (appM (firstM key nonce) c 70 s))) [] {}):∃hv hb,goal_35f hv hb key nonce c s Q:=by
 obtain ⟨hv,hb',e⟩:∃hv hb,goal_35f hv hb key nonce c s Q=_:=⟨_,_,vc_35f key nonce c s Q⟩
 refine ⟨hv,hb',e.mpr ?_⟩
 delta zRL9 zRL6 zRL2 zRL1 zRL7 zRL4 zRL13 zRL3 zRL12 zRL5 zRL11
 clear e
 have hal:=app_len (firstM key nonce) 70 c s (by omega)
 have hget:=app_get (firstM key nonce) 70 c s
 obtain ⟨w,hw⟩:∃w,w=firstM key nonce:=⟨_,rfl⟩
 rw[←hw] at hal hget hq ⊢
 obtain ⟨T,hT⟩:∃T,T=appM w c 70 s:=⟨_,rfl⟩
 rw[←hT] at hal hget hq ⊢
 have hstep:∀i,i<s.length→ofBytes (T.take i)++[AV.int .u8 ((x8M (s.getD i 0) ((blkM w (c+(i/64:Nat))).getD (i%64) 0)).toNat:Int)]=ofBytes (T.take (i+1)):=fun i hi=>by
  rw[take_snocD T 0 (by omega),hget i hi (by omega)]
  simp[ofBytes]
 have hblk:∀k:Int,(blkBM w k).length=64:=fun k=>by rw[blkBM,List.length_map,len_blk]
 have hxor:∀i (k:Int),IntKind.wrap .u8 (((((s.getD i 0).toNat:Int)%256).toNat ^^^ ((((blkBM w k).getD (i%64) 0).toNat:Int)%256).toNat:Nat):Int)=((x8M (s.getD i 0) ((blkM w k).getD (i%64) 0)).toNat:Int):=fun i k=>by
  have e:(blkBM w k).getD (i%64) 0=UInt8.ofNat ((blkM w k).getD (i%64) 0):=by
   rw[blkBM,List.getD_eq_getElem?_getD,List.getElem?_map,List.getD_eq_getElem?_getD]
   cases (blkM w k)[i%64]?<;>rfl
  rw[e,x8M,UInt8.toNat_xor]
  have h1:=(s.getD i 0).toNat_lt
  have h2:=(UInt8.ofNat ((blkM w k).getD (i%64) 0)).toNat_lt
  generalize (s.getD i 0).toNat=a at *
  generalize (UInt8.ofNat ((blkM w k).getD (i%64) 0)).toNat=b at *
  have h3:a ^^^ b<2^8:=Nat.xor_lt_two_pow h1 h2
  rw[show ((a:Int)%256).toNat=a by omega,show ((b:Int)%256).toNat=b by omega]
  rw[show IntKind.wrap .u8 ((a ^^^ b:Nat):Int)=((a ^^^ b:Nat):Int)%256 from rfl]
  omega
 refine ⟨.inl ⟨0,⟨rfl⟩,rfl,rfl,rfl,rfl,rfl,rfl,rfl,trivial⟩, ?_, ?_⟩
 ·rintro _ ⟨rfl⟩
  refine ⟨_,rfl,_,rfl,splitD (fun h => ?_) (fun h => ?_)⟩
  ·refine ⟨_,rfl,exM 0 64 (splitE (fun _ => ?_) (fun h=>absurd rfl h))⟩
   refine ⟨_,rfl,exT 0 64 (by omega) (wrapI (by omega) (by omega) ⟨(c+((0/64:Nat):Int)).toNat,⟨by omega,by omega,hk,hn⟩, ?_⟩)⟩
   rintro b ⟨hb⟩
   have hb2:b=blkBM w (c+((0/64:Nat):Int)):=hb
   refine ⟨_,rfl,ckI (by simp;omega) ⟨_,rfl,_,rfl,_,rfl,exM 0 64 (ckI (by rw[hb2,hblk];rfl) ⟨_,rfl, ?_⟩)⟩⟩
   rw[Int.toNat_natCast,u8z,hb2]
   exact exW_of (hxor 0 _) ⟨_,rfl,wrapI (by omega) (by omega) ⟨⟨trivial,rfl⟩,.inr ⟨(1,_),⟨by simp,by dsimp only;omega⟩,by dsimp only;omega,rfl,hstep 0 (by omega),rfl,rfl,rfl,rfl,rfl,rfl,rfl,trivial⟩⟩⟩
  ·have:s=[]:=List.length_eq_zero_iff.1 (by omega)
   have hT0:T=[]:=List.length_eq_zero_iff.1 (by omega)
   rw[hT0] at hq
   exact ⟨_,rfl,hq⟩
 ·rintro ⟨i,u⟩ ⟨h1,h2⟩
  dsimp only at h1 h2 ⊢
  have hcl:(ofBytes (T.take i)).length=i:=by rw[ofB_len,List.length_take];omega
  have hck:((ofBytes (T.take i)).length.beq i&&true&&(0+i*1).beq i&&(i+1).ble 1099511627776&&((i+1)*1).ble 1099511627776)=true:=by rw[hcl];simp;omega
  have hst:=hstep i
  refine ⟨_,rfl,_,rfl,splitD (fun h => ?_) (fun h => ?_)⟩
  ·refine ⟨_,rfl,exM i 64 (splitE (fun h0 => ?_) (fun h0 => ?_))⟩
   ·refine ⟨_,rfl,exT i 64 (by omega) (wrapI (by omega) (by omega) ⟨(c+((i/64:Nat):Int)).toNat,⟨by omega,by omega,hk,hn⟩, ?_⟩)⟩
    rintro b ⟨hb⟩
    have hb2:b=blkBM w (c+((i/64:Nat):Int)):=hb
    refine ⟨_,rfl,ckI (by simp;omega) ⟨_,rfl,_,rfl,_,rfl,exM i 64 (ckI (by rw[hb2,hblk];simp;omega) ⟨_,rfl, ?_⟩)⟩⟩
    rw[Int.toNat_natCast,Int.toNat_natCast,u8z,hb2]
    exact exW_of (hxor i _) (ckI hck ⟨_,rfl,wrapI (by omega) (by omega) ⟨⟨trivial,rfl⟩,.inr ⟨(i+1,u),⟨by simp,by dsimp only;omega⟩,by dsimp only;omega,rfl,hst (by omega),rfl,rfl,rfl,rfl,rfl,rfl,rfl,trivial⟩⟩⟩)
   ·have he:(i-1)/64=i/64:=by omega
    rw[he]
    refine ⟨_,rfl,ckI (by simp;omega) ⟨_,rfl,_,rfl,_,rfl,exM i 64 (ckI (by rw[hblk];simp;omega) ⟨_,rfl, ?_⟩)⟩⟩
    rw[Int.toNat_natCast,Int.toNat_natCast,u8z]
    exact exW_of (hxor i _) (ckI hck ⟨_,rfl,wrapI (by omega) (by omega) ⟨⟨trivial,rfl⟩,.inr ⟨(i+1,u),⟨by simp,by dsimp only;omega⟩,by dsimp only;omega,rfl,hst (by omega),rfl,rfl,rfl,rfl,rfl,rfl,rfl,trivial⟩⟩⟩)
  ·obtain rfl:i=s.length:=by omega
   have hTt:T.take s.length=T:=List.take_of_length_le (by omega)
   rw[hTt] at hcl ⊢
   rw[strB (by omega) rfl,List.drop_zero,List.take_of_length_le (by omega),allU8_ofB,hcl]
   exact ckI (by simp) ⟨_,rfl,hq⟩
def cApR:Con
 | [.str key,.str nonce,.int .i64 c,.str s],H,K=>Lf (key.length=32∧nonce.length=12∧(0≤c∧c≤1000)∧s.length≤4480)∧∀t,Lf (t=appM (firstM key nonce) c 70 s)→K (.ret (.str t)) H
 | _,_,_=>False
theorem rap_ok:ValidF Tryz.prog gl0 59 cApR:=by
 refine valid_flat (enters_of (by kernel_rfl)) gl0_noY fun args H Q hc => ?_
 unfold cApR at hc
 split at hc
 ·rename_i key nonce c s
  obtain ⟨⟨h1,h2,h3,h4⟩,hq⟩:=hc
  obtain ⟨hv,hb',h⟩:=rapply_run key nonce c s h1 h2 h3 h4 (Q:=fun o H' _=>H'=[]∧(∃v,o=.ret v∧old 0 v=true∧noY v=true)∧Q o H) ⟨rfl,⟨_,rfl,rfl,rfl⟩,hq _ ⟨rfl⟩⟩
  exact ⟨rfl,rfl,_,1000,⟨mixed04,names04,tabA_ok,smAp_ok⟩,rfl,h⟩
 ·exact hc.elim
end Go.Proofs.YtiholnebhmjbjaaGreat
