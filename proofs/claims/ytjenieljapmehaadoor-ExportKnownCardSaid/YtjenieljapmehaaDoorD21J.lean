/-
  Chapter 18: the program's digest: add, end.
-/
import Derived.Test.YtjenieljapmehaaDoorD21H
set_option linter.unusedSimpArgs false
set_option linter.unusedVariables false
set_option linter.unusedSectionVars false
namespace Go.Proofs.YtjenieljapmehaaDoor
open Go.RowKit
set_option maxRecDepth 1000000

theorem fd_56 (x:Nat):Int.fdiv (x:Int) 72057594037927936=((x/72057594037927936:Nat):Int):=by
 rw[Int.fdiv_eq_ediv_of_nonneg _ (by omega)]
 omega
theorem fd_48 (x:Nat):Int.fdiv (x:Int) 281474976710656=((x/281474976710656:Nat):Int):=by
 rw[Int.fdiv_eq_ediv_of_nonneg _ (by omega)]
 omega
theorem fd_40 (x:Nat):Int.fdiv (x:Int) 1099511627776=((x/1099511627776:Nat):Int):=by
 rw[Int.fdiv_eq_ediv_of_nonneg _ (by omega)]
 omega
theorem fd_32 (x:Nat):Int.fdiv (x:Int) 4294967296=((x/4294967296:Nat):Int):=by
 rw[Int.fdiv_eq_ediv_of_nonneg _ (by omega)]
 omega
theorem fd_24 (x:Nat):Int.fdiv (x:Int) 16777216=((x/16777216:Nat):Int):=by
 rw[Int.fdiv_eq_ediv_of_nonneg _ (by omega)]
 omega
theorem fd_16 (x:Nat):Int.fdiv (x:Int) 65536=((x/65536:Nat):Int):=by
 rw[Int.fdiv_eq_ediv_of_nonneg _ (by omega)]
 omega
theorem fd_8 (x:Nat):Int.fdiv (x:Int) 256=((x/256:Nat):Int):=by
 rw[Int.fdiv_eq_ediv_of_nonneg _ (by omega)]
 omega
theorem fd_0 (x:Nat):Int.fdiv (x:Int) 1=((x/1:Nat):Int):=by
 rw[Int.fdiv_eq_ediv_of_nonneg _ (by omega)]
 omega
theorem w64 {x:Nat} (h:x<18446744073709551616):IntKind.wrap .u64 (x:Int)=(x:Int):=by
 show (x:Int)%18446744073709551616=_
 omega
theorem w64m {x:Nat} (h:x*8<18446744073709551616):IntKind.wrap .u64 ((x:Int)*8)=((8*x:Nat):Int):=by
 show (x:Int)*8%18446744073709551616=_
 omega
theorem tdiv64 (x:Nat):Int.tdiv (x:Int) 64=((x/64:Nat):Int):=rfl
theorem take64 {ks:List Nat} (h:ks.length=64):List.take 64 (List.drop 0 (cells32M ks))=cells32M ks:=by
 rw[List.drop_zero,List.take_of_length_le (by rw[cells32_len];omega)]
def addM (kk:List Nat) (x:W8×List UInt8×Nat) (s:List UInt8):W8×List UInt8×Nat:=
 (mixM kk ((x.2.1++s).length/64) x.1 (x.2.1++s),(x.2.1++s).drop ((x.2.1++s).length/64*64),x.2.2+s.length)
theorem add_run (v:W8) (t:List UInt8) (n:Nat) (s:List UInt8) (ks:List Nat) (hv:okW8 v) (hk:okK ks) (hl:t.length+s.length≤10000000) (hn:n≤1000000000) (Q:Out→List Blk→Gh→Prop)
  (hq:∀v',addM ks (v,t,n) s=v'→okW8 v'.1→Q (.ret (.tup [])) [⟨.exact,true,celT v'.1 v'.2.1 v'.2.2⟩] {}):∃hv hb,goal_133 hv hb v t n s ks Q:=by
 obtain ⟨hv',hb',e'⟩:∃hv hb,goal_133 hv hb v t n s ks Q=_:=⟨_,_,vc_133 v t n s ks Q⟩
 refine ⟨hv',hb',e'.mpr ?_⟩
 clear e'
 have hkl:(cells32M ks).length=64:=by rw[cells32_len,hk.1]
 have hal:(t++s).length=t.length+s.length:=List.length_append
 refine ckI (by simp;omega) ⟨_,rfl,ckI (by rw[hkl];rfl) ?_⟩
 try dsimp only
 rw[take64 hk.1]
 refine ⟨⟨rfl,rfl,by simp[oldL,old,old32],by simp[noYL,noY,noY32],rfl,rfl⟩,v,ks,t,n,⟨rfl,rfl,hk,hv,by omega⟩, ?_⟩
 rintro v' ⟨e1,e2⟩
 refine ⟨_,rfl, ?_⟩
 try dsimp only
 rw[tdiv64]
 refine wrapI (by omega) (by omega) (wrapI (by omega) (by omega) (ckI (by simp;omega) ⟨_,rfl,ckI (by rw[Nat.ble_eq];simp;omega) ⟨by rw[old32];rfl,_,rfl,wrapI (by omega) (by omega) ?_⟩⟩))
 have h:=hq (addM ks (v,t,n) s) rfl (by rw[addM];dsimp only;rw[←e1];exact e2)
 have e5:List.take ((t++s).length-((((t++s).length/64:Nat):Int)*64).toNat) (List.drop ((((t++s).length/64:Nat):Int)*64).toNat (t++s))=(t++s).drop ((t++s).length/64*64):=by
  try dsimp only
  rw[show ((((t++s).length/64:Nat):Int)*64).toNat=(t++s).length/64*64 by omega,List.take_of_length_le (by rw[List.length_drop];omega)]
 rw[e5]
 rw[addM] at h
 dsimp only at h
 rw[←e1] at h
 exact h
def padM (t:List UInt8) (n:Nat):List UInt8:=(((((((((t++[UInt8.ofNat 128])++List.replicate ((119-t.length)%64) 0)++[UInt8.ofNat (8*n/72057594037927936%256)])++[UInt8.ofNat (8*n/281474976710656%256)])++[UInt8.ofNat (8*n/1099511627776%256)])++[UInt8.ofNat (8*n/4294967296%256)])++[UInt8.ofNat (8*n/16777216%256)])++[UInt8.ofNat (8*n/65536%256)])++[UInt8.ofNat (8*n/256%256)])++[UInt8.ofNat (8*n/1%256)]
def oct4 (w:Nat):List UInt8:=[UInt8.ofNat (w/16777216%256),UInt8.ofNat (w/65536%256),UInt8.ofNat (w/256%256),UInt8.ofNat (w%256)]
def octs8 (v:W8):List UInt8:=oct4 v.a++(oct4 v.b++(oct4 v.c++(oct4 v.d++(oct4 v.e++(oct4 v.f++(oct4 v.g++oct4 v.h))))))
def endM (kk:List Nat) (v:W8) (t:List UInt8) (n:Nat):List UInt8:=octs8 (mixM kk ((padM t n).length/64) v (padM t n))
theorem rep_one (n:Nat):(List.replicate n [AV.int .u8 0]).flatten=List.replicate n (AV.int .u8 0):=by
 induction n with
 | zero=>rfl
 | succ n ih=>simp only[List.replicate_succ,List.flatten_cons,ih];rfl
theorem allU8_rep (n:Nat):allU8 (List.replicate n (AV.int .u8 0))=true:=by
 induction n with
 | zero=>rfl
 | succ n ih=>simp only[List.replicate_succ,allU8,ih]
theorem end_run (v:W8) (t:List UInt8) (n:Nat) (ks:List Nat) (hv:okW8 v) (hk:okK ks) (hl:t.length≤64) (hn:n≤1000000000) (Q:Out→List Blk→Gh→Prop)
  (hq:Q (.ret (.str (endM ks v t n))) [] {}):∃hv hb,goal_134 hv hb v t n ks Q:=by
 obtain ⟨hv',hb',e'⟩:∃hv hb,goal_134 hv hb v t n ks Q=_:=⟨_,_,vc_134 v t n ks Q⟩
 refine ⟨hv',hb',e'.mpr ?_⟩
 clear e'
 have hkl:(cells32M ks).length=64:=by rw[cells32_len,hk.1]
 refine ckI (by simp;omega) ⟨_,rfl,_,rfl,wrapI (by omega) (by omega) ⟨_,rfl, ?_⟩⟩
 have e3:(119-(t.length:Int)).tmod 64=(((119-t.length)%64:Nat):Int):=by
  try dsimp only
  rw[Int.tmod_eq_emod_of_nonneg (by omega)]
  omega
 try dsimp only
 rw[e3,rep_one]
 have hp:padM t n=padM t n:=rfl
 conv at hp=>rhs;unfold padM
 obtain ⟨z,hz,hz2⟩:∃z,(119-t.length)%64=z∧z<64:=⟨_,rfl,by omega⟩
 rw[hz] at hp ⊢
 rw[Int.toNat_natCast]
 have e4:List.take z (List.drop 0 (List.replicate z (AV.int .u8 0)))=List.replicate z (AV.int .u8 0):=by rw[List.drop_zero,List.take_of_length_le (by simp)]
 try dsimp only
 rw[e4]
 refine ckI (by simp;omega) (ckI (by rw[allU8_rep];simp) ⟨List.replicate z 0,by rw[List.map_replicate];rfl,ckI (by simp;omega) ⟨_,rfl,_,congrArg (AV.int .u64) (w64 (by omega)),_,congrArg (AV.int .u64) (w64m (by omega)), ?_⟩⟩)
 try dsimp only
 rw[take64 hk.1]
 repeat (first
  | with_reducible refine ⟨_,congrArg (AV.int _) (fd_56 _), ?_⟩
  | with_reducible refine ⟨_,congrArg (AV.int _) (fd_48 _), ?_⟩
  | with_reducible refine ⟨_,congrArg (AV.int _) (fd_40 _), ?_⟩
  | with_reducible refine ⟨_,congrArg (AV.int _) (fd_32 _), ?_⟩
  | with_reducible refine ⟨_,congrArg (AV.int _) (fd_24 _), ?_⟩
  | with_reducible refine ⟨_,congrArg (AV.int _) (fd_16 _), ?_⟩
  | with_reducible refine ⟨_,congrArg (AV.int _) (fd_8 _), ?_⟩
  | with_reducible refine ⟨_,congrArg (AV.int _) (fd_0 _), ?_⟩
  | with_reducible refine ⟨_,congrArg (AV.int .u8) (u8_wrap _), ?_⟩
  | ((with_reducible refine ckI ?_ ?_);(focus (first | (rw[hkl];rfl) | (simp;omega))))
  | with_reducible refine ⟨_,rfl, ?_⟩)
 refine ⟨⟨rfl,rfl,by simp[oldL,old,old32],by simp[noYL,noY,noY32],rfl,rfl⟩,v,ks,t,n,⟨rfl,rfl,hk,hv,by simp;omega⟩, ?_⟩
 rintro v' ⟨e1,e2⟩
 have e1':v'=mixM ks ((padM t n).length/64) v (padM t n):=e1.trans (by rw[hp];rfl)
 clear e1 hp
 refine ⟨_,_,_,_,_,_,_,_,rfl, ?_⟩
 repeat (first
  | with_reducible refine ⟨_,congrArg (AV.int _) (fd_24 _), ?_⟩
  | with_reducible refine ⟨_,congrArg (AV.int _) (fd_16 _), ?_⟩
  | with_reducible refine ⟨_,congrArg (AV.int _) (fd_8 _), ?_⟩
  | with_reducible refine ⟨_,congrArg (AV.int .u8) (u8_wrap _), ?_⟩
  | with_reducible refine ⟨_,rfl, ?_⟩)
 refine (congrArg (fun x=>Q (.ret (.str x)) [] {}) (?_:_=endM ks v t n)).mpr hq
 try dsimp only
 rw[endM,←e1']
 rfl
def gAdd:List AV→List AV→(Out→List AV→Prop)→Prop
 | [.str s,.agg ks],cs,R=>∃ (v:W8) (kk:List Nat) (t:List UInt8) (n:Nat),Lf (cs=celT v t n∧ks=cells32M kk∧okK kk∧okW8 v∧t.length+s.length≤10000000∧n≤1000000000)∧∀ (v':W8) (t':List UInt8) (n':Nat),Lf (addM kk (v,t,n) s=(v',t',n')∧okW8 v')→R (.ret (.tup [])) (celT v' t' n')
 | _,_,_=>False
theorem add_ok:ValidF Tryd.prog gl0 66 (ptrC 10 gAdd):=by
 refine valid_ptr (enters_of (by kernel_rfl)) gl0_noY fun rest cs R h1 h2 h3 h4 hg => ?_
 unfold gAdd at hg
 split at hg
 ·rename_i s ks
  obtain ⟨v,kk,t,n,⟨rfl,rfl,k1,k3,k4,k5⟩,hq⟩:=hg
  obtain ⟨hv,hb',h⟩:=add_run v t n s kk k3 k1 k4 k5 (Q:=fun o H' _=>∃cs',H'=[⟨.exact,true,cs'⟩]∧oldL 0 cs'=true∧noYL cs'=true∧(∃v,o=.ret v∧old 0 v=true∧noY v=true)∧R o cs') (fun v' e1 e2=>⟨_,rfl,rfl,rfl,⟨_,rfl,rfl,rfl⟩,hq v'.1 v'.2.1 v'.2.2 ⟨e1,e2⟩⟩)
  exact ⟨_,1000,envFor18 smH_ok _ _ _,rfl,h⟩
 ·exact hg.elim
def cEnd:Con
 | [.agg cs,.agg ks],H,K=>∃ (v:W8) (kk:List Nat) (t:List UInt8) (n:Nat),Lf (cs=celT v t n∧ks=cells32M kk∧okK kk∧okW8 v∧t.length≤64∧n≤1000000000)∧∀x,Lf (x=endM kk v t n)→K (.ret (.str x)) H
 | _,_,_=>False
theorem end18_ok:ValidF Tryd.prog gl0 67 cEnd:=by
 refine valid_flat (enters_of (by kernel_rfl)) gl0_noY fun args H Q hc => ?_
 unfold cEnd at hc
 split at hc
 ·rename_i cs ks
  obtain ⟨v,kk,t,n,⟨rfl,rfl,k1,k3,k4,k5⟩,hq⟩:=hc
  obtain ⟨hv,hb',h⟩:=end_run v t n kk k3 k1 k4 k5 (Q:=fun o H' _=>H'=[]∧(∃v,o=.ret v∧old 0 v=true∧noY v=true)∧Q o H) ⟨rfl,⟨_,rfl,rfl,rfl⟩,hq _ ⟨rfl⟩⟩
  exact ⟨by simp[oldL,old,celT_old,old32],by simp[noYL,noY,celT_noY,noY32],_,1000,envFor18 smH_ok _ _ _,rfl,h⟩
 ·exact hc.elim
end Go.Proofs.YtjenieljapmehaaDoor
