/-
  Chapter 18: the program's digest: add, end.
-/
import Derived.Test.YtjenieljapmehaaGreatDoorG21H
set_option linter.unusedSimpArgs false
set_option linter.unusedVariables false
set_option linter.unusedSectionVars false
namespace Go.Proofs.YtjenieljapmehaaGreatDoor
open Go.RowKit
set_option maxRecDepth 1000000

theorem fd_56 (x:Nat):Int.fdiv (x:Int) 72057594037927936=((x/72057594037927936:Nat):Int):=by
 rw[Int.fdiv_eq_ediv_of_nonneg _ (by omega)]
 omega
theorem fd_48 (x:Nat):Int.fdiv (x:Int) 281474976710656=((x/281474976710656:Nat):Int):=by
 rw[Int.fdiv_eq_ediv_of_nonneg _ (by omega)]
 omega
theorem fd_40 (x:Nat):Int.fdiv (x:Int) 1099511627776=((x/1099511627776:Nat):Int):=by
 rw[Int.fdiv_eq_ediv_of_nonneg _ (by omega)]
 omega
theorem fd_32 (x:Nat):Int.fdiv (x:Int) 4294967296=((x/4294967296:Nat):Int):=by
 rw[Int.fdiv_eq_ediv_of_nonneg _ (by omega)]
 omega
theorem fd_24 (x:Nat):Int.fdiv (x:Int) 16777216=((x/16777216:Nat):Int):=by
 rw[Int.fdiv_eq_ediv_of_nonneg _ (by omega)]
 omega
theorem fd_16 (x:Nat):Int.fdiv (x:Int) 65536=((x/65536:Nat):Int):=by
 rw[Int.fdiv_eq_ediv_of_nonneg _ (by omega)]
 omega
theorem fd_8 (x:Nat):Int.fdiv (x:Int) 256=((x/256:Nat):Int):=by
 rw[Int.fdiv_eq_ediv_of_nonneg _ (by omega)]
 omega
theorem fd_0 (x:Nat):Int.fdiv (x:Int) 1=((x/1:Nat):Int):=by
 rw[Int.fdiv_eq_ediv_of_nonneg _ (by omega)]
 omega
theorem w64 {x:Nat} (h:x<18446744073709551616):IntKind.wrap .u64 (x:Int)=(x:Int):=by
 show (x:Int)%18446744073709551616=_
 omega
theorem w64m {x:Nat} (h:x*8<18446744073709551616):IntKind.wrap .u64 ((x:Int)*8)=((8*x:Nat):Int):=by
 show (x:Int)*8%18446744073709551616=_
 omega
theorem tdiv64 (x:Nat):Int.tdiv (x:Int) 64=((x/64:Nat):Int):=rfl
theorem take64 {ks:List Nat} (h:ks.length=64):List.take 64 (List.drop 0 (cells32M ks))=cells32M ks:=by
 rw[List.drop_zero,List.take_of_length_le (by rw[cells32_len];omega)]
def addM (kk:List Nat) (x:W8×List UInt8×Nat) (s:List UInt8):W8×List UInt8×Nat:=
 (mixM kk ((x.2.1++s).length/64) x.1 (x.2.1++s),(x.2.1++s).drop ((x.2.1++s).length/64*64),x.2.2+s.length)
theorem add_run (v:W8) (t:List UInt8) (n:Nat) (s:List UInt8) (ks:List Nat) (hv:okW8 v) (hk:okK ks) (hl:t.length+s.length≤10000000) (hn:n≤1000000000) (Q:Out→List Blk→Gh→Prop)
  (hq:∀v',addM ks (v,t,n) s=v'→okW8 v'.1→Q (.ret (.tup [])) [⟨.exact,true,celT v'.1 v'.2.1 v'.2.2⟩] {}):∃hv hb,goal_133 hv hb v t n s ks Q:=by
 obtain ⟨hv',hb',e'⟩:∃hv hb,goal_133 hv hb v t n s ks Q=_:=⟨_,_,vc_133 v t n s ks Q⟩
 refine ⟨hv',hb',e'.mpr ?_⟩
 clear e'
 have hkl:(cells32M ks).length=64:=by rw[cells32_len,hk.1]
 have hal:(t++s).length=t.length+s.length:=List.length_append
 refine ckI (by simp;omega) ⟨_,rfl,ckI (by rw[hkl];rfl) ?_⟩
 try dsimp only
 rw[take64 hk.1]
 refine ⟨⟨rfl,rfl,by simp[oldL,old,old32],by simp[noYL,noY,noY32],rfl,rfl⟩,v,ks,t,n,⟨rfl,rfl,hk,hv,by omega⟩, ?_⟩
 rintro v' ⟨e1,e2⟩
 refine ⟨_,rfl, ?_⟩
 try dsimp only
 rw[tdiv64]
 refine wrapI (by omega) (by omega) (wrapI (by omega) (by omega) (ckI (by simp;omega) ⟨_,rfl,ckI (by rw[Nat.ble_eq];simp;omega) ⟨by rw[old32];rfl,_,rfl,wrapI (by omega) (by omega) ?_⟩⟩))
 have h:=hq (addM ks (v,t,n) s) rfl (by rw[addM];dsimp only;rw[←e1];exact e2)
 have e5:List.take ((t++s).length-((((t++s).length/64:Nat):Int)*64).toNat) (List.drop ((((t++s).length/64:Nat):Int)*64).toNat (t++s))=(t++s).drop ((t++s).length/64*64):=by
  try dsimp only
  rw[show ((((t++s).length/64:Nat):Int)*64).toNat=(t++s).length/64*64 by omega,List.take_of_length_le (by rw[List.length_drop];omega)]
 rw[e5]
 rw[addM] at h
 dsimp only at h
 rw[←e1] at h
 exact h
def padM (t:List UInt8) (n:Nat):List UInt8:=(((((((((t++[UInt8.ofNat 128])++List.replicate ((119-t.length)%64) 0)++[UInt8.ofNat (8*n/72057594037927936%256)])++[UInt8.ofNat (8*n/281474976710656%256)])++[UInt8.ofNat (8*n/1099511627776%256)])++[UInt8.ofNat (8*n/4294967296%256)])++[UInt8.ofNat (8*n/16777216%256)])++[UInt8.ofNat (8*n/65536%256)])++[UInt8.ofNat (8*n/256%256)])++[UInt8.ofNat (8*n/1%256)]
def oct4 (w:Nat):List UInt8:=[UInt8.ofNat (w/16777216%256),UInt8.ofNat (w/65536%256),UInt8.ofNat (w/256%256),UInt8.ofNat (w%256)]
def octs8 (v:W8):List UInt8:=oct4 v.a++(oct4 v.b++(oct4 v.c++(oct4 v.d++(oct4 v.e++(oct4 v.f++(oct4 v.g++oct4 v.h))))))
def endM (kk:List Nat) (v:W8) (t:List UInt8) (n:Nat):List UInt8:=octs8 (mixM kk ((padM t n).length/64) v (padM t n))
theorem rep_one (n:Nat):(List.replicate n [AV.int .u8 0]).flatten=List.replicate n (AV.int .u8 0):=by
 induction n with
 | zero=>rfl
 | succ n ih=>simp only[List.replicate_succ,List.flatten_cons,ih];rfl
theorem allU8_rep (n:Nat):allU8 (List.replicate n (AV.int .u8 0))=true:=by
 induction n with
 | zero=>rfl
 | succ n ih=>simp only[List.replicate_succ,allU8,ih]
theorem end_run (v:W8) (t:List UInt8) (n:Nat) (ks:List Nat) (hv:okW8 v) (hk:okK ks) (hl:t.length≤64) (hn:n≤1000000000) (Q:Out→List Blk→Gh→Prop)
  (hq:Q (.ret (.str (endM ks v t n))) [] {}):∃hv hb,goal_134 hv hb v t n ks Q:=by
 obtain ⟨hv',hb',e'⟩:∃hv hb,goal_134 hv hb v t n ks Q=_:=⟨_,_,vc_134 v t n ks Q⟩
 refine ⟨hv',hb',e'.mpr ?_⟩
 clear e'
 have hkl:(cells32M ks).length=64:=by rw[cells32_len,hk.1]
 refine ckI (by simp;omega) ⟨_,rfl,_,rfl,wrapI (by omega) (by omega) ⟨_,rfl, ?_⟩⟩
 have e3:(119-(t.length:Int)).tmod 64=(((119-t.length)%64:Nat):Int):=by
  try dsimp only
  rw[Int.tmod_eq_emod_of_nonneg (by omega)]
  omega
 try dsimp only
 rw[e3,rep_one]
 have hp:padM t n=padM t n:=rfl
 conv at hp=>rhs;unfold padM
 obtain ⟨z,hz,hz2⟩:∃z,(119-t.length)%64=z∧z<64:=⟨_,rfl,by omega⟩
 rw[hz] at hp ⊢
 rw[Int.toNat_natCast]
 have e4:List.take z (List.drop 0 (List.replicate z (AV.int .u8 0)))=List.replicate z (AV.int .u8 0):=by rw[List.drop_zero,List.take_of_length_le (by simp)]
 try dsimp only
 rw[e4]
 refine ckI (by simp;omega) (ckI (by rw[allU8_rep];simp) ⟨List.replicate z 0,by rw[List.map_replicate];rfl,ckI (by simp;omega) ⟨_,rfl,_,congrArg (AV.int .u64) (w64 (by omega)),_,congrArg (AV.int .u64) (w64m (by omega)), ?_⟩⟩)
 try dsimp only
 rw[take64 hk.1]
 repeat (first
  | with_reducible refine ⟨_,congrArg (AV.int _) (fd_56 _), ?_⟩
  | with_reducible refine ⟨_,congrArg (AV.int _) (fd_48 _), ?_⟩
  | with_reducible refine ⟨_,congrArg (AV.int _) (fd_40 _), ?_⟩
  | with_reducible refine ⟨_,congrArg (AV.int _) (fd_32 _), ?_⟩
  | with_reducible refine ⟨_,congrArg (AV.int _) (fd_24 _), ?_⟩
  | with_reducible refine ⟨_,congrArg (AV.int _) (fd_16 _), ?_⟩
  | with_reducible refine ⟨_,congrArg (AV.int _) (fd_8 _), ?_⟩
  | with_reducible refine ⟨_,congrArg (AV.int _) (fd_0 _), ?_⟩
  | with_reducible refine ⟨_,congrArg (AV.int .u8) (u8_wrap _), ?_⟩
  | ((with_reducible refine ckI ?_ ?_);(focus (first | (rw[hkl];rfl) | (simp;omega))))
  | with_reducible refine ⟨_,rfl, ?_⟩)
 refine ⟨⟨rfl,rfl,by simp[oldL,old,old32],by simp[noYL,noY,noY32],rfl,rfl⟩,v,ks,t,n,⟨rfl,rfl,hk,hv,by simp;omega⟩, ?_⟩
 rintro v' ⟨e1,e2⟩
 have e1':v'=mixM ks ((padM t n).length/64) v (padM t n):=e1.trans (by rw[hp];rfl)
 clear e1 hp
 refine ⟨_,_,_,_,_,_,_,_,rfl, ?_⟩
 repeat (first
  | with_reducible refine ⟨_,congrArg (AV.int _) (fd_24 _), ?_⟩
  | with_reducible refine ⟨_,congrArg (AV.int _) (fd_16 _), ?_⟩
  | with_reducible refine ⟨_,congrArg (AV.int _) (fd_8 _), ?_⟩
  | with_reducible refine ⟨_,congrArg (AV.int .u8) (u8_wrap _), ?_⟩
  | with_reducible refine ⟨_,rfl, ?_⟩)
 refine (congrArg (fun x=>Q (.ret (.str x)) [] {}) (?_:_=endM ks v t n)).mpr hq
 try dsimp only
 rw[endM,←e1']
 rfl
def gAdd:List AV→List AV→(Out→List AV→Prop)→Prop
 | [.str s,.agg ks],cs,R=>∃ (v:W8) (kk:List Nat) (t:List UInt8) (n:Nat),Lf (cs=celT v t n∧ks=cells32M kk∧okK kk∧okW8 v∧t.length+s.length≤10000000∧n≤1000000000)∧∀ (v':W8) (t':List UInt8) (n':Nat),Lf (addM kk (v,t,n) s=(v',t',n')∧okW8 v')→R (.ret (.tup [])) (celT v' t' n')
 | _,_,_=>False
theorem add_ok:ValidF Tryz.prog gl0 119 (ptrC 10 gAdd):=by
 refine valid_ptr (enters_of (by kernel_rfl)) gl0_noY fun rest cs R h1 h2 h3 h4 hg => ?_
 unfold gAdd at hg
 split at hg
 ·rename_i s ks
  obtain ⟨v,kk,t,n,⟨rfl,rfl,k1,k3,k4,k5⟩,hq⟩:=hg
  obtain ⟨hv,hb',h⟩:=add_run v t n s kk k3 k1 k4 k5 (Q:=fun o H' _=>∃cs',H'=[⟨.exact,true,cs'⟩]∧oldL 0 cs'=true∧noYL cs'=true∧(∃v,o=.ret v∧old 0 v=true∧noY v=true)∧R o cs') (fun v' e1 e2=>⟨_,rfl,rfl,rfl,⟨_,rfl,rfl,rfl⟩,hq v'.1 v'.2.1 v'.2.2 ⟨e1,e2⟩⟩)
  exact ⟨_,1000,envFor18 smH_ok _ _ _,rfl,h⟩
 ·exact hg.elim
def cEnd:Con
 | [.agg cs,.agg ks],H,K=>∃ (v:W8) (kk:List Nat) (t:List UInt8) (n:Nat),Lf (cs=celT v t n∧ks=cells32M kk∧okK kk∧okW8 v∧t.length≤64∧n≤1000000000)∧∀x,Lf (x=endM kk v t n)→K (.ret (.str x)) H
 | _,_,_=>False
theorem end18_ok:ValidF Tryz.prog gl0 120 cEnd:=by
 refine valid_flat (enters_of (by kernel_rfl)) gl0_noY fun args H Q hc => ?_
 unfold cEnd at hc
 split at hc
 ·rename_i cs ks
  obtain ⟨v,kk,t,n,⟨rfl,rfl,k1,k3,k4,k5⟩,hq⟩:=hc
  obtain ⟨hv,hb',h⟩:=end_run v t n kk k3 k1 k4 k5 (Q:=fun o H' _=>H'=[]∧(∃v,o=.ret v∧old 0 v=true∧noY v=true)∧Q o H) ⟨rfl,⟨_,rfl,rfl,rfl⟩,hq _ ⟨rfl⟩⟩
  exact ⟨by simp[oldL,old,celT_old,old32],by simp[noYL,noY,celT_noY,noY32],_,1000,envFor18 smH_ok _ _ _,rfl,h⟩
 ·exact hc.elim
end Go.Proofs.YtjenieljapmehaaGreatDoor

set_option linter.unusedSimpArgs false
set_option linter.unusedVariables false
set_option linter.unusedSectionVars false
namespace Go.Proofs.YtjenieljapmehaaGreatDoor
open Go.RowKit
set_option maxRecDepth 1000000

abbrev celK (st:W8) (kk:List Nat):List AV:=cel8 st++cells32M kk
def smM1:SM:=lookS [(91,cConst)]
theorem smM1_ok:∀f g,smM1 f=some g→ValidF Tryz.prog gl0 f g:=lookS_ok _ (by simp only[List.mem_cons,List.not_mem_nil,or_false,forall_eq];exact const_ok)
noncomputable def goal_114 (hv:Nat→Option Pa) (hb:Nat→Option Bool) (Q:Out→List Blk→Gh→Prop):Prop:=
 callx (e18 smM1 (fun _=>none) hv hb) (wpx (e18 smM1 (fun _=>none) hv hb) 1000) 67 [] [] {} Q
theorem vc_114 (Q:Out→List Blk→Gh→Prop):goal_114 (lookV []) (lookB []) Q=(Q (.ret (.agg [.int .u32 1779033703,.int .u32 3144134277,.int .u32 1013904242,.int .u32 2773480762,.int .u32 1359893119,.int .u32 2600822924,.int
 .u32 528734635,.int .u32 1541459225,.int .u32 1116352408,.int .u32 1899447441,.int .u32 3049323471,.int .u32 3921009573,.int .u32 961987163,.int .u32 1508970993,.int .u32 2453635748,.int .u32 2870763221,.int .u32 3624381080,.int
 .u32 310598401,.int .u32 607225278,.int .u32 1426881987,.int .u32 1925078388,.int .u32 2162078206,.int .u32 2614888103,.int .u32 3248222580,.int .u32 3835390401,.int .u32 4022224774,.int .u32 264347078,.int .u32 604807628,.int
 .u32 770255983,.int .u32 1249150122,.int .u32 1555081692,.int .u32 1996064986,.int .u32 2554220882,.int .u32 2821834349,.int .u32 2952996808,.int .u32 3210313671,.int .u32 3336571891,.int .u32 3584528711,.int .u32 113926993,.int
 .u32 338241895,.int .u32 666307205,.int .u32 773529912,.int .u32 1294757372,.int .u32 1396182291,.int .u32 1695183700,.int .u32 1986661051,.int .u32 2177026350,.int .u32 2456956037,.int .u32 2730485921,.int .u32 2820302411,.int
 .u32 3259730800,.int .u32 3345764771,.int .u32 3516065817,.int .u32 3600352804,.int .u32 4094571909,.int .u32 275423344,.int .u32 430227734,.int .u32 506948616,.int .u32 659060556,.int .u32 883997877,.int .u32 958139571,.int
 .u32 1322822218,.int .u32 1537002063,.int .u32 1747873779,.int .u32 1955562222,.int .u32 2024104815,.int .u32 2227730452,.int .u32 2361852424,.int .u32 2428436474,.int .u32 2756734187,.int .u32 3204031479,.int .u32 3329325298]))
 [] {}):=by kernel_rfl

def cellsSM (l:List (List UInt8)):List AV:=l.map AV.str
abbrev X115:=Nat×W8×List UInt8×Nat
def inv_115 (st:W8) (kk:List Nat) (l:List (List UInt8)) (s:S):List (List LInv):=match s.hp with
 | [b0,⟨k,f,_⟩]=>[[{ α:=X115,pre:=fun x=>Lf (x.1≤l.length∧okW8 x.2.1∧x.2.2.1.length≤64∧x.2.2.2≤100000*x.1∧(l.take x.1).foldl (addM kk) (st,[],0)=x.2),st:=fun x=>⟨mkT [(2,s.tm.get 2),(5,s.tm.get 5),(12,s.tm.get 12),(13,s.tm.get 13),(14,.int .i64 (x.1:Nat))],[b0,⟨k,f,celT x.2.1 x.2.2.1 x.2.2.2⟩]⟩,mu:=fun x=>l.length-x.1 }]]
 | _=>[]
def smS1:SM:=lookS [(119,ptrC 10 gAdd),(120,cEnd)]
theorem smS1_ok:∀f g,smS1 f=some g→ValidF Tryz.prog gl0 f g:=lookS_ok _ (by simp only[List.mem_cons,List.not_mem_nil,or_false,forall_eq_or_imp,forall_eq];exact ⟨add_ok,end18_ok⟩)
noncomputable def env_115 (hv:Nat→Option Pa) (hb:Nat→Option Bool) (st:W8) (kk:List Nat) (l:List (List UInt8)):Env:=e18 smS1 (fun i=>bif Nat.beq i 92000 then some (inv_115 st kk l) else none) hv hb
noncomputable def goal_115 (hv:Nat→Option Pa) (hb:Nat→Option Bool) (tg:Nat) (st:W8) (kk:List Nat) (l:List (List UInt8)) (Q:Out→List Blk→Gh→Prop):Prop:=
 callx (env_115 hv hb st kk l) (wpx (env_115 hv hb st kk l) 1000) 92 [.agg (cel8 st++cells32M kk),.lst tg (cellsSM l) l.length 1] [] {} Q
theorem vc_115 (tg:Nat) (st:W8) (kk:List Nat) (l:List (List UInt8)) (Q:Out→List Blk→Gh→Prop):goal_115 (lookV [(376841,.agg [(.int .u32),(.int .u32),(.int .u32),(.int .u32),(.int .u32),(.int .u32),(.int .u32),(.int
 .u32)]),(376845,.int .i64),(376849,.str),(376854,.int .i64),(376855,.agg [(.int .u32),(.int .u32),(.int .u32),(.int .u32),(.int .u32),(.int .u32),(.int .u32),(.int .u32),(.str),(.int .i64)])]) (lookB [(1376832000,true)])
 tg st kk l Q=(ckQ (Nat.beq ([AV.int .u32 (st.1:Int),.int .u32 (st.2:Int),.int .u32 (st.3:Int),.int .u32 (st.4:Int),.int .u32 (st.5:Int),.int .u32 (st.6:Int),.int .u32 (st.7:Int),.int .u32 (st.8:Int)]++cells32M
 kk).length ([AV.int .u32 (st.1:Int),.int .u32 (st.2:Int),.int .u32 (st.3:Int),.int .u32 (st.4:Int),.int .u32 (st.5:Int),.int .u32 (st.6:Int),.int .u32 (st.7:Int),.int .u32 (st.8:Int)]++cells32M kk).length) (ckQ
 (Nat.beq ([AV.int .u32 (st.1:Int),.int .u32 (st.2:Int),.int .u32 (st.3:Int),.int .u32 (st.4:Int),.int .u32 (st.5:Int),.int .u32 (st.6:Int),.int .u32 (st.7:Int),.int .u32 (st.8:Int)]++cells32M kk).length ([AV.int
 .u32 (st.1:Int),.int .u32 (st.2:Int),.int .u32 (st.3:Int),.int .u32 (st.4:Int),.int .u32 (st.5:Int),.int .u32 (st.6:Int),.int .u32 (st.7:Int),.int .u32 (st.8:Int)]++cells32M kk).length&&true) (∃n_0 n_1 n_2 n_3
 n_4 n_5 n_6 n_7,AV.agg [.int .u32 (st.1:Int),.int .u32 (st.2:Int),.int .u32 (st.3:Int),.int .u32 (st.4:Int),.int .u32 (st.5:Int),.int .u32 (st.6:Int),.int .u32 (st.7:Int),.int .u32 (st.8:Int)]=AV.agg [.int .u32
 n_0,.int .u32 n_1,.int .u32 n_2,.int .u32 n_3,.int .u32 n_4,.int .u32 n_5,.int .u32 n_6,.int .u32 n_7]∧exI .i64 (l.length:Int) fun n_8=>(∃x_9:Nat×W8×List UInt8×Nat,Lf (x_9.1≤l.length∧okW8 x_9.2.1 ∧
 x_9.2.2.1.length≤64∧x_9.2.2.2≤100000*x_9.1∧List.foldl (addM kk) (Prod.mk st (Prod.mk [] (0:Nat))) (l.take x_9.1)=x_9.2)∧ckQ (oldL 0 ([AV.int .u32 (st.1:Int),.int .u32 (st.2:Int),.int .u32 (st.3:Int),.int .u32 (st.4
 : Int),.int .u32 (st.5:Int),.int .u32 (st.6:Int),.int .u32 (st.7:Int),.int .u32 (st.8:Int)]++cells32M kk)==oldL 0 ([AV.int .u32 (st.1:Int),.int .u32 (st.2:Int),.int .u32 (st.3:Int),.int .u32 (st.4:Int),.int .u32
 (st.5:Int),.int .u32 (st.6:Int),.int .u32 (st.7:Int),.int .u32 (st.8:Int)]++cells32M kk)) (eqqQ ([AV.int .u32 (st.1:Int),.int .u32 (st.2:Int),.int .u32 (st.3:Int),.int .u32 (st.4:Int),.int .u32 (st.5:Int),.int
 .u32 (st.6:Int),.int .u32 (st.7:Int),.int .u32 (st.8:Int)]++cells32M kk)∧[AV.int .u32 n_0,.int .u32 n_1,.int .u32 n_2,.int .u32 n_3,.int .u32 n_4,.int .u32 n_5,.int .u32 n_6,.int .u32 n_7,.str [],.int .i64 0]=[AV.int
 .u32 (x_9.2.1.1:Int),.int .u32 (x_9.2.1.2:Int),.int .u32 (x_9.2.1.3:Int),.int .u32 (x_9.2.1.4:Int),.int .u32 (x_9.2.1.5:Int),.int .u32 (x_9.2.1.6:Int),.int .u32 (x_9.2.1.7:Int),.int .u32 (x_9.2.1.8:Int),.str
 x_9.2.2.1,.int .i64 (x_9.2.2.2:Int)]∧eqqQ (AV.ptr 1 10 0)∧eqqQ (AV.int .i64 n_8)∧eqqQ (AV.ptr 0 ([AV.int .u32 (st.1:Int),.int .u32 (st.2:Int),.int .u32 (st.3:Int),.int .u32 (st.4:Int),.int .u32 (st.5:Int),.int .u32
 (st.6:Int),.int .u32 (st.7:Int),.int .u32 (st.8:Int)]++cells32M kk).length 0)∧eqqQ (AV.lst tg (cellsSM l) l.length 1)∧AV.int .i64 0=AV.int .i64 (x_9.1:Int)∧True))∧∀x_9:Nat×W8×List UInt8×Nat,Lf (x_9.1 ≤
 l.length∧okW8 x_9.2.1∧x_9.2.2.1.length≤64∧x_9.2.2.2≤100000*x_9.1∧List.foldl (addM kk) (Prod.mk st (Prod.mk [] (0:Nat))) (l.take x_9.1)=x_9.2)→bif decide ((x_9.1:Int)<n_8) then ckQ (Nat.blt (x_9.1:Int).toNat
 l.length&&true) (ckQ (Nat.blt ((x_9.1:Int).toNat*1) (cellsSM l).length) (exS ((cellsSM l).getD ((x_9.1:Int).toNat*1) AV.undef) fun s_10=>ckQ (Nat.beq ([AV.int .u32 (st.1:Int),.int .u32 (st.2:Int),.int .u32 (st.3:Int),
 .int .u32 (st.4:Int),.int .u32 (st.5:Int),.int .u32 (st.6:Int),.int .u32 (st.7:Int),.int .u32 (st.8:Int)]++cells32M kk).length ([AV.int .u32 (st.1:Int),.int .u32 (st.2:Int),.int .u32 (st.3:Int),.int .u32 (st.4 :
 Int),.int .u32 (st.5:Int),.int .u32 (st.6:Int),.int .u32 (st.7:Int),.int .u32 (st.8:Int)]++cells32M kk).length) (ckQ (Nat.beq ([AV.int .u32 (st.1:Int),.int .u32 (st.2:Int),.int .u32 (st.3:Int),.int .u32 (st.4:Int),
 .int .u32 (st.5:Int),.int .u32 (st.6:Int),.int .u32 (st.7:Int),.int .u32 (st.8:Int)]++cells32M kk).length ([AV.int .u32 (st.1:Int),.int .u32 (st.2:Int),.int .u32 (st.3:Int),.int .u32 (st.4:Int),.int .u32 (st.5 :
 Int),.int .u32 (st.6:Int),.int .u32 (st.7:Int),.int .u32 (st.8:Int)]++cells32M kk).length&&Nat.ble 72 ([AV.int .u32 (st.1:Int),.int .u32 (st.2:Int),.int .u32 (st.3:Int),.int .u32 (st.4:Int),.int .u32 (st.5:Int),
 .int .u32 (st.6:Int),.int .u32 (st.7:Int),.int .u32 (st.8:Int)]++cells32M kk).length) (Lf (Nat.blt 1 (List.length [Blk.mk BK.exact (oldL 0 ([AV.int .u32 (st.1:Int),.int .u32 (st.2:Int),.int .u32 (st.3:Int),.int .u32
 (st.4:Int),.int .u32 (st.5:Int),.int .u32 (st.6:Int),.int .u32 (st.7:Int),.int .u32 (st.8:Int)]++cells32M kk)) ([AV.int .u32 (st.1:Int),.int .u32 (st.2:Int),.int .u32 (st.3:Int),.int .u32 (st.4:Int),.int .u32
 (st.5:Int),.int .u32 (st.6:Int),.int .u32 (st.7:Int),.int .u32 (st.8:Int)]++cells32M kk),Blk.mk BK.exact true [.int .u32 (x_9.2.1.1:Int),.int .u32 (x_9.2.1.2:Int),.int .u32 (x_9.2.1.3:Int),.int .u32 (x_9.2.1.4 :
 Int),.int .u32 (x_9.2.1.5:Int),.int .u32 (x_9.2.1.6:Int),.int .u32 (x_9.2.1.7:Int),.int .u32 (x_9.2.1.8:Int),.str x_9.2.2.1,.int .i64 (x_9.2.2.2:Int)]])=true∧eqqQ (10:Nat)∧oldL 0 [.str s_10,.agg ((([AV.int .u32
 (st.1:Int),.int .u32 (st.2:Int),.int .u32 (st.3:Int),.int .u32 (st.4:Int),.int .u32 (st.5:Int),.int .u32 (st.6:Int),.int .u32 (st.7:Int),.int .u32 (st.8:Int)]++cells32M kk).drop 8).take 64)]=true∧noYL [.str
 s_10,.agg ((([AV.int .u32 (st.1:Int),.int .u32 (st.2:Int),.int .u32 (st.3:Int),.int .u32 (st.4:Int),.int .u32 (st.5:Int),.int .u32 (st.6:Int),.int .u32 (st.7:Int),.int .u32 (st.8:Int)]++cells32M kk).drop 8).take
 64)]=true∧oldL 0 [.int .u32 (x_9.2.1.1:Int),.int .u32 (x_9.2.1.2:Int),.int .u32 (x_9.2.1.3:Int),.int .u32 (x_9.2.1.4:Int),.int .u32 (x_9.2.1.5:Int),.int .u32 (x_9.2.1.6:Int),.int .u32 (x_9.2.1.7:Int),.int .u32
 (x_9.2.1.8:Int),.str x_9.2.2.1,.int .i64 (x_9.2.2.2:Int)]=true∧noYL [.int .u32 (x_9.2.1.1:Int),.int .u32 (x_9.2.1.2:Int),.int .u32 (x_9.2.1.3:Int),.int .u32 (x_9.2.1.4:Int),.int .u32 (x_9.2.1.5:Int),.int .u32
 (x_9.2.1.6:Int),.int .u32 (x_9.2.1.7:Int),.int .u32 (x_9.2.1.8:Int),.str x_9.2.2.1,.int .i64 (x_9.2.2.2:Int)]=true)∧∃v_11:W8,∃kk_12:List Nat,∃t_13:List UInt8,∃n_14:Nat,Lf ([AV.int .u32 (x_9.2.1.1:Int),
 .int .u32 (x_9.2.1.2:Int),.int .u32 (x_9.2.1.3:Int),.int .u32 (x_9.2.1.4:Int),.int .u32 (x_9.2.1.5:Int),.int .u32 (x_9.2.1.6:Int),.int .u32 (x_9.2.1.7:Int),.int .u32 (x_9.2.1.8:Int),.str x_9.2.2.1,.int .i64 (x_9.2.2.2
 : Int)]=[AV.int .u32 (v_11.1:Int),.int .u32 (v_11.2:Int),.int .u32 (v_11.3:Int),.int .u32 (v_11.4:Int),.int .u32 (v_11.5:Int),.int .u32 (v_11.6:Int),.int .u32 (v_11.7:Int),.int .u32 (v_11.8:Int),.str t_13,.int
 .i64 (n_14:Int)]∧(([AV.int .u32 (st.1:Int),.int .u32 (st.2:Int),.int .u32 (st.3:Int),.int .u32 (st.4:Int),.int .u32 (st.5:Int),.int .u32 (st.6:Int),.int .u32 (st.7:Int),.int .u32 (st.8:Int)]++cells32M kk).drop
 8).take 64=cells32M kk_12∧okK kk_12∧okW8 v_11∧t_13.length+s_10.length≤10000000∧n_14≤1000000000)∧∀v'_15:W8,∀t'_16:List UInt8,∀n'_17:Nat,Lf (addM kk_12 (Prod.mk v_11 (Prod.mk t_13 n_14)) s_10=Prod.mk v'_15
 (Prod.mk t'_16 n'_17)∧okW8 v'_15)→exW .i64 ((x_9.1:Int)+1) fun n_18=>((oldL 0 ([AV.int .u32 (st.1:Int),.int .u32 (st.2:Int),.int .u32 (st.3:Int),.int .u32 (st.4:Int),.int .u32 (st.5:Int),.int .u32 (st.6:Int),
 .int .u32 (st.7:Int),.int .u32 (st.8:Int)]++cells32M kk)||oldL 2 ([AV.int .u32 (st.1:Int),.int .u32 (st.2:Int),.int .u32 (st.3:Int),.int .u32 (st.4:Int),.int .u32 (st.5:Int),.int .u32 (st.6:Int),.int .u32 (st.7 :
 Int),.int .u32 (st.8:Int)]++cells32M kk))&&true)=true∧(True∧(0:Nat)=(0:Nat))∧∃y_19:Nat×W8×List UInt8×Nat,Lf (y_19.1≤l.length∧okW8 y_19.2.1∧y_19.2.2.1.length≤64∧y_19.2.2.2≤100000*y_19.1 ∧
 List.foldl (addM kk) (Prod.mk st (Prod.mk [] (0:Nat))) (l.take y_19.1)=y_19.2)∧l.length-y_19.1<l.length-x_9.1∧ckQ (oldL 0 ([AV.int .u32 (st.1:Int),.int .u32 (st.2:Int),.int .u32 (st.3:Int),.int .u32 (st.4:Int),
 .int .u32 (st.5:Int),.int .u32 (st.6:Int),.int .u32 (st.7:Int),.int .u32 (st.8:Int)]++cells32M kk)==oldL 0 ([AV.int .u32 (st.1:Int),.int .u32 (st.2:Int),.int .u32 (st.3:Int),.int .u32 (st.4:Int),.int .u32 (st.5 :
 Int),.int .u32 (st.6:Int),.int .u32 (st.7:Int),.int .u32 (st.8:Int)]++cells32M kk)) (eqqQ ([AV.int .u32 (st.1:Int),.int .u32 (st.2:Int),.int .u32 (st.3:Int),.int .u32 (st.4:Int),.int .u32 (st.5:Int),.int .u32
 (st.6:Int),.int .u32 (st.7:Int),.int .u32 (st.8:Int)]++cells32M kk)∧[AV.int .u32 (v'_15.1:Int),.int .u32 (v'_15.2:Int),.int .u32 (v'_15.3:Int),.int .u32 (v'_15.4:Int),.int .u32 (v'_15.5:Int),.int .u32 (v'_15.6 :
 Int),.int .u32 (v'_15.7:Int),.int .u32 (v'_15.8:Int),.str t'_16,.int .i64 (n'_17:Int)]=[AV.int .u32 (y_19.2.1.1:Int),.int .u32 (y_19.2.1.2:Int),.int .u32 (y_19.2.1.3:Int),.int .u32 (y_19.2.1.4:Int),.int .u32
 (y_19.2.1.5:Int),.int .u32 (y_19.2.1.6:Int),.int .u32 (y_19.2.1.7:Int),.int .u32 (y_19.2.1.8:Int),.str y_19.2.2.1,.int .i64 (y_19.2.2.2:Int)]∧eqqQ (AV.ptr 1 10 0)∧eqqQ (AV.int .i64 n_8)∧eqqQ (AV.ptr 0 ([AV.int .u32
 (st.1:Int),.int .u32 (st.2:Int),.int .u32 (st.3:Int),.int .u32 (st.4:Int),.int .u32 (st.5:Int),.int .u32 (st.6:Int),.int .u32 (st.7:Int),.int .u32 (st.8:Int)]++cells32M kk).length 0)∧eqqQ (AV.lst tg (cellsSM l)
 l.length 1)∧AV.int .i64 n_18=AV.int .i64 (y_19.1:Int)∧True))))) else ∃n_10 n_11 n_12 n_13 n_14 n_15 n_16 n_17 s_18 n_19,AV.agg [.int .u32 (x_9.2.1.1:Int),.int .u32 (x_9.2.1.2:Int),.int .u32 (x_9.2.1.3:Int),.int .u32
 (x_9.2.1.4:Int),.int .u32 (x_9.2.1.5:Int),.int .u32 (x_9.2.1.6:Int),.int .u32 (x_9.2.1.7:Int),.int .u32 (x_9.2.1.8:Int),.str x_9.2.2.1,.int .i64 (x_9.2.2.2:Int)]=AV.agg [.int .u32 n_10,.int .u32 n_11,.int .u32 n_12,
 .int .u32 n_13,.int .u32 n_14,.int .u32 n_15,.int .u32 n_16,.int .u32 n_17,.str s_18,.int .i64 n_19]∧ckQ (Nat.beq ([AV.int .u32 (st.1:Int),.int .u32 (st.2:Int),.int .u32 (st.3:Int),.int .u32 (st.4:Int),.int .u32 (st.5 :
 Int),.int .u32 (st.6:Int),.int .u32 (st.7:Int),.int .u32 (st.8:Int)]++cells32M kk).length ([AV.int .u32 (st.1:Int),.int .u32 (st.2:Int),.int .u32 (st.3:Int),.int .u32 (st.4:Int),.int .u32 (st.5:Int),.int .u32
 (st.6:Int),.int .u32 (st.7:Int),.int .u32 (st.8:Int)]++cells32M kk).length) (ckQ (Nat.beq ([AV.int .u32 (st.1:Int),.int .u32 (st.2:Int),.int .u32 (st.3:Int),.int .u32 (st.4:Int),.int .u32 (st.5:Int),.int .u32 (st.6
 : Int),.int .u32 (st.7:Int),.int .u32 (st.8:Int)]++cells32M kk).length ([AV.int .u32 (st.1:Int),.int .u32 (st.2:Int),.int .u32 (st.3:Int),.int .u32 (st.4:Int),.int .u32 (st.5:Int),.int .u32 (st.6:Int),.int .u32
 (st.7:Int),.int .u32 (st.8:Int)]++cells32M kk).length&&Nat.ble 72 ([AV.int .u32 (st.1:Int),.int .u32 (st.2:Int),.int .u32 (st.3:Int),.int .u32 (st.4:Int),.int .u32 (st.5:Int),.int .u32 (st.6:Int),.int .u32 (st.7
 : Int),.int .u32 (st.8:Int)]++cells32M kk).length) (∃v_20:W8,∃kk_21:List Nat,∃t_22:List UInt8,∃n_23:Nat,Lf ([AV.int .u32 n_10,.int .u32 n_11,.int .u32 n_12,.int .u32 n_13,.int .u32 n_14,.int .u32 n_15,.int .u32
 n_16,.int .u32 n_17,.str s_18,.int .i64 n_19]=[AV.int .u32 (v_20.1:Int),.int .u32 (v_20.2:Int),.int .u32 (v_20.3:Int),.int .u32 (v_20.4:Int),.int .u32 (v_20.5:Int),.int .u32 (v_20.6:Int),.int .u32 (v_20.7:Int),
 .int .u32 (v_20.8:Int),.str t_22,.int .i64 (n_23:Int)]∧(([AV.int .u32 (st.1:Int),.int .u32 (st.2:Int),.int .u32 (st.3:Int),.int .u32 (st.4:Int),.int .u32 (st.5:Int),.int .u32 (st.6:Int),.int .u32 (st.7:Int),
 .int .u32 (st.8:Int)]++cells32M kk).drop 8).take 64=cells32M kk_21∧okK kk_21∧okW8 v_20∧t_22.length≤64∧n_23≤1000000000)∧∀x_24:List UInt8,Lf (x_24=endM kk_21 v_20 t_22 n_23)→Q (.ret (.str x_24)) [] {}))))):=by
 kernel_rfl

end Go.Proofs.YtjenieljapmehaaGreatDoor

set_option linter.unusedSimpArgs false
set_option linter.unusedVariables false
set_option linter.unusedSectionVars false
namespace Go.Proofs.YtjenieljapmehaaGreatDoor
open Go.RowKit
set_option maxRecDepth 1000000

def cMade:Con
 | [],H,K=>∀ks,Lf (ks=startM++kkM)→K (.ret (.agg (cells32M ks))) H
 | _,_,_=>False
theorem made_ok:ValidF Tryz.prog gl0 67 cMade:=by
 refine valid_flat (enters_of (by kernel_rfl)) gl0_noY fun args H Q hc => ?_
 unfold cMade at hc
 split at hc
 ·obtain ⟨hv,hb',e⟩:∃hv hb,goal_114 hv hb (fun o H' _=>H'=[]∧(∃v,o=.ret v∧old 0 v=true∧noY v=true)∧Q o H)=_:=⟨_,_,vc_114 _⟩
  exact ⟨rfl,rfl,_,1000,envFor18 smM1_ok _ hv hb',rfl,e.mpr ⟨rfl,⟨_,rfl,by kernel_rfl,by kernel_rfl⟩,hc (startM++kkM) ⟨rfl⟩⟩⟩
 ·exact hc.elim
theorem cellsS_len (l:List (List UInt8)):(cellsSM l).length=l.length:=by simp[cellsSM]
theorem getS {l:List (List UInt8)} {i m:Nat} (hi:i<l.length) (hm:m=i) {K:List UInt8→Prop} (hk:K l[i]):∃s,(cellsSM l).getD m AV.undef=AV.str s∧K s:=by
 subst hm
 refine ⟨_, ?_,hk⟩
 simp[cellsSM,List.getD_eq_getElem?_getD,hi]
theorem celK_len (st:W8) (kk:List Nat) (h:kk.length=64):(celK st kk).length=72:=by simp[cells32_len,h]
theorem celK_old (n:Nat) (st:W8) (kk:List Nat):oldL n (celK st kk)=true:=by simp[oldL,old,old32]
theorem celK_drop (st:W8) (kk:List Nat) (h:kk.length=64):List.take 64 (List.drop 8 (celK st kk))=cells32M kk:=by
 show List.take 64 (cells32M kk)=_
 rw[List.take_of_length_le (by rw[cells32_len];omega)]
theorem add_len (kk:List Nat) (x:W8×List UInt8×Nat) (s:List UInt8):(addM kk x s).2.1.length≤64:=by
 rw[addM]
 dsimp only
 rw[List.length_drop]
 omega
def sumLM (kk:List Nat) (st:W8) (l:List (List UInt8)):List UInt8:=endM kk (l.foldl (addM kk) (st,[],0)).1 (l.foldl (addM kk) (st,[],0)).2.1 (l.foldl (addM kk) (st,[],0)).2.2
theorem sum_run (tg:Nat) (st:W8) (kk:List Nat) (l:List (List UInt8)) (h1:okW8 st) (h2:okK kk) (h3:l.length≤1000) (h4:∀s∈l,s.length≤100000) (Q:Out→List Blk→Gh→Prop)
  (hq:Q (.ret (.str (sumLM kk st l))) [] {}):∃hv hb,goal_115 hv hb tg st kk l Q:=by
 obtain ⟨hv',hb',e'⟩:∃hv hb,goal_115 hv hb tg st kk l Q=_:=⟨_,_,vc_115 tg st kk l Q⟩
 refine ⟨hv',hb',e'.mpr ?_⟩
 clear e'
 have hl:=celK_len st kk h2.1
 have hB:(oldL 0 (celK st kk)==oldL 0 (celK st kk))=true:=by simp
 have hO:∀m m',((oldL m (celK st kk)||oldL m' (celK st kk))&&true)=true:=fun m m'=>by rw[celK_old];rfl
 refine ckI (by simp) (ckI (by simp) ⟨_,_,_,_,_,_,_,_,rfl,_,rfl,⟨(0,st,[],0),⟨by dsimp only;omega,h1,by simp,by dsimp only;omega,rfl⟩,ckI hB ⟨rfl,rfl,rfl,rfl,rfl,rfl,rfl,trivial⟩⟩, ?_⟩)
 rintro ⟨i,v,t,n⟩ ⟨hi,hv,ht,hn,hf⟩
 dsimp only at hi hv ht hn hf ⊢
 refine splitD (fun h => ?_) (fun h => ?_)
 ·have hil:i<l.length:=by omega
  have hs:=h4 l[i] (List.getElem_mem hil)
  refine ckI (by simp;omega) (ckI (by rw[cellsS_len];simp;omega) (getS hil (by simp) ?_))
  refine ckI (by simp) (ckI (by rw[hl];rfl) ?_)
  rw[celK_drop st kk h2.1]
  refine ⟨⟨rfl,rfl,by simp[oldL,old,old32],by simp[noYL,noY,noY32],rfl,rfl⟩,v,kk,t,n,⟨rfl,rfl,h2,hv,by omega,by omega⟩, ?_⟩
  rintro v' t' n' ⟨e1,e2⟩
  have hlen:=add_len kk (v,t,n) l[i]
  rw[e1] at hlen
  have hn':n'=n+l[i].length:=by
   have:=congrArg (fun x=>x.2.2) e1
   exact this.symm
  refine wrapI (by omega) (by omega) ⟨hO _ _,⟨trivial,rfl⟩,(i+1,v',t',n'),⟨by dsimp only;omega,e2,hlen,by dsimp only;omega, ?_⟩,by dsimp only;omega,ckI hB ⟨rfl,rfl,rfl,rfl,rfl,rfl,rfl,trivial⟩⟩
  dsimp only
  rw[List.take_add_one,List.getElem?_eq_getElem hil,List.foldl_append,hf]
  exact e1
 ·have hil:i=l.length:=by omega
  subst hil
  rw[List.take_of_length_le (Nat.le_refl _)] at hf
  refine ⟨_,_,_,_,_,_,_,_,_,_,rfl,ckI (by simp) (ckI (by rw[hl];rfl) ?_)⟩
  rw[celK_drop st kk h2.1]
  refine ⟨v,kk,t,n,⟨rfl,rfl,h2,hv,ht,by omega⟩, ?_⟩
  rintro x ⟨e⟩
  rw[e]
  rw[sumLM,hf] at hq
  exact hq
def cSum:Con
 | [.agg cs,.lst _ ss n 1],H,K=>∃ (st:W8) (kk:List Nat) (l:List (List UInt8)),Lf (cs=celK st kk∧ss=cellsSM l∧n=l.length∧okW8 st∧okK kk∧l.length≤1000∧∀s∈l,s.length≤100000)∧∀x,Lf (x=sumLM kk st l)→K (.ret (.str x)) H
 | _,_,_=>False
theorem cellsS_old (n:Nat) (l:List (List UInt8)):oldL n (cellsSM l)=true:=by
 induction l with
 | nil=>rfl
 | cons c s ih=>simp only[cellsSM,List.map_cons,oldL,old,Bool.true_and] at ih ⊢;exact ih
theorem cellsS_noY (l:List (List UInt8)):noYL (cellsSM l)=true:=by
 induction l with
 | nil=>rfl
 | cons c s ih=>simp only[cellsSM,List.map_cons,noYL,noY,Bool.true_and] at ih ⊢;exact ih
theorem sum18_raw:ValidF Tryz.prog gl0 92 cSum:=by
 refine valid_flat (enters_of (by kernel_rfl)) gl0_noY fun args H Q hc => ?_
 unfold cSum at hc
 split at hc
 ·rename_i cs tg ss n
  obtain ⟨st,kk,l,⟨rfl,rfl,rfl,k1,k2,k3,k4⟩,hq⟩:=hc
  obtain ⟨hv,hb',h⟩:=sum_run tg st kk l k1 k2 k3 k4 (Q:=fun o H' _=>H'=[]∧(∃v,o=.ret v∧old 0 v=true∧noY v=true)∧Q o H) ⟨rfl,⟨_,rfl,rfl,rfl⟩,hq _ ⟨rfl⟩⟩
  exact ⟨by simp[oldL,old,old32,cellsS_old],by simp[noYL,noY,noY32,cellsS_noY],_,1000,envFor18 smS1_ok _ _ _,rfl,h⟩
 ·exact hc.elim
def cSumV:Con:=fun args H Q=>lendL [0,1] H args fun a=>cSum a H Q
theorem sum18_ok:ValidF Tryz.prog gl0 92 cSumV:=valid_view sum18_raw gl0_noY [0,1] fun args H Q hc=>by
 unfold cSum at hc
 split at hc
 ·obtain ⟨st,kk,l,h,hq⟩:=hc
  exact ⟨st,kk,l,h,fun x hx=>⟨rfl,⟨_,rfl,rfl⟩,hq x hx⟩⟩
 ·exact hc.elim
end Go.Proofs.YtjenieljapmehaaGreatDoor
