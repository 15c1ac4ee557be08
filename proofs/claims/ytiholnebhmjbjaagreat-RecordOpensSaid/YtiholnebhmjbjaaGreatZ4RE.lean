/-
  Chapter 4: the reference's product.
-/
import Derived.Test.YtiholnebhmjbjaaGreatZ4RD
set_option linter.unusedSimpArgs false
set_option linter.unusedVariables false
namespace Go.Proofs.YtiholnebhmjbjaaGreat
open Go.RowKit
set_option maxRecDepth 1000000

abbrev X32:=Nat×List Nat
def pre32 (a b:List Nat) (p:X32):Prop:=p.1≤a.length∧p.2.length=a.length+b.length+1∧valNM p.2=valNM (a.take p.1)*valNM b∧(∀j,p.2.getD j 0≤255)∧(∀j,p.1+b.length≤j→p.2.getD j 0=0)
def inv_32 (ta tb:Nat) (a b:List Nat):LInv where
 α:=X32
 pre p:=Lf (pre32 a b p)
 st p:=⟨mkT [(0,.lst ta (cellsNM a) a.length 1),(1,.lst tb (cellsNM b) b.length 1),(5,.sl 0 (a.length+b.length+1) 0 (a.length+b.length+1) 1),(6,.int .i64 (p.1:Nat))],[⟨.exact,true,cellsNM p.2⟩]⟩
 mu p:=a.length-p.1
abbrev X32i:=Nat×Nat×List Nat
def pre32i (a b:List Nat) (i:Nat) (L0:List Nat) (p:X32i):Prop:=i<a.length∧p.2.2.length=a.length+b.length+1∧valNM p.2.2+p.2.1*256^(i+p.1)=valNM L0+a.getD i 0*256^i*valNM (b.take p.1)∧(∀j,p.2.2.getD j 0≤255)∧p.2.1≤255∧(p.1≤b.length∨(p.1=b.length+1∧p.2.1=0))∧(∀j,i+p.1≤j→p.2.2.getD j 0=L0.getD j 0)
def inv_32i (ta tb:Nat) (a b:List Nat) (s:S):List (List LInv):=match s.tm.get 6,s.hp with
 | .int _ n,[bl]=>[[{ α:=X32i,pre:=fun p=>Lf (pre32i a b n.toNat (bl.cs.map unNM) p),st:=fun p=>⟨mkT [(0,.lst ta (cellsNM a) a.length 1),(1,.lst tb (cellsNM b) b.length 1),(5,.sl 0 (a.length+b.length+1) 0 (a.length+b.length+1) 1),(6,.int .i64 n),(7,.int .i64 (p.2.1:Nat)),(8,.int .i64 (p.1:Nat))],[⟨.exact,true,cellsNM p.2.2⟩]⟩,mu:=fun p=>b.length+1-p.1 }]]
 | _,_=>[]
noncomputable def env_32 (hv:Nat→Option Pa) (hb:Nat→Option Bool) (ta tb:Nat) (a b:List Nat):Env:=e04 sm0 (fun i=>bif Nat.beq i 87000 then some (fun _=>[[inv_32 ta tb a b]]) else bif Nat.beq i 87002 then some (inv_32i ta tb a b) else none) hv hb
noncomputable def goal_32 (hv:Nat→Option Pa) (hb:Nat→Option Bool) (ta tb:Nat) (a b:List Nat) (Q:Out→List Blk→Gh→Prop):Prop:=
 callx (env_32 hv hb ta tb a b) (wpx (env_32 hv hb ta tb a b) 1000) 87 [.lst ta (cellsNM a) a.length 1,.lst tb (cellsNM b) b.length 1] [] {} Q
abbrev zRE3 (ta:Nat) (a:List Nat):Prop:=eqqQ (AV.lst ta (cellsNM a) a.length 1)
abbrev zRE2 (a b:List Nat):Nat:=a.length+b.length+1
abbrev zRE4 (a b:List Nat):AV:=.sl 0 (zRE2 a b) 0 (zRE2 a b) 1
abbrev zRE1 (x_4:Nat×List Nat) (x_6:Nat×Nat×List Nat) (n_15:Int) (a b:List Nat) (ta tb:Nat):Prop:=exW .i64 ((x_4.1:Int)+(x_6.1:Int)) (fun n_16=>exI .i64 (n_15.tmod 256) (fun n_17=>ckQ (decide (0≤n_16)&&Nat.blt n_16.toNat (zRE2 a b)&&Nat.beq (cellsNM x_6.2.2).length (zRE2 a b)&&true) (ckQ (Nat.beq (cellsNM x_6.2.2).length (zRE2 a b)&&Nat.ble (0+n_16.toNat*1+1) (zRE2 a b)&&true&&true&&true) (exW .i64 (n_15.tdiv 256) (fun n_18=>exW .i64 ((x_6.1:Int)+1) (fun n_19=>(True∧(0:Nat)=(0:Nat))∧∃y_20:Nat×Nat×List Nat,Lf (pre32i a b (x_4.1:Int).toNat (List.map unNM (cellsNM x_4.2)) y_20)∧b.length+1-y_20.1<b.length+1-x_6.1∧setRange (cellsNM x_6.2.2) (0+n_16.toNat*1) [.int .i64 n_17]=cellsNM y_20.2.2∧zRE3 ta a∧zRE3 tb b∧AV.int .i64 n_18=AV.int .i64 (y_20.2.1:Int)∧eqqQ (zRE4 a b)∧AV.int .i64 n_19=AV.int .i64 (y_20.1:Int)∧eqqQ (AV.int .i64 (x_4.1:Int))∧True))))))
abbrev zRE0 (x_4:Nat×List Nat) (x_6:Nat×Nat×List Nat) (a b:List Nat) (ta tb:Nat):Prop:=exW .i64 ((x_4.1:Int)+(x_6.1:Int)) (fun n_8=>ckQ (decide (0≤n_8)&&Nat.blt n_8.toNat (zRE2 a b)&&Nat.beq (cellsNM x_6.2.2).length (zRE2 a b)&&true) (ckQ (Nat.beq (cellsNM x_6.2.2).length (zRE2 a b)&&Nat.blt (0+n_8.toNat*1) (zRE2 a b)) (exV .i64 ((((cellsNM x_6.2.2).drop (0+n_8.toNat*1)).take 1).getD 0 AV.undef) (fun n_9=>exW .i64 ((x_6.2.1:Int)+n_9) (fun n_10=>exI .i64 (b.length:Int) (fun n_11=>bif decide ((x_6.1:Int)<n_11) then ckQ (Nat.blt (x_4.1:Int).toNat a.length&&true) (ckQ (Nat.blt ((x_4.1:Int).toNat*1) (cellsNM a).length) (exV .i64 ((cellsNM a).getD ((x_4.1:Int).toNat*1) AV.undef) (fun n_12=>ckQ (Nat.blt (x_6.1:Int).toNat b.length&&true) (ckQ (Nat.blt ((x_6.1:Int).toNat*1) (cellsNM b).length) (exV .i64 ((cellsNM b).getD ((x_6.1:Int).toNat*1) AV.undef) (fun n_13=>exW .i64 (n_12*n_13) (fun n_14=>exW .i64 (n_10+n_14) (fun n_15=>zRE1 x_4 x_6 n_15 a b ta tb)))))))) else zRE1 x_4 x_6 n_10 a b ta tb))))))
theorem vc_32 (ta:Nat) (tb:Nat) (a:List Nat) (b:List Nat) (Q:Out→List Blk→Gh→Prop):goal_32 (lookV [(356362,.int .i64),(356364,.int .i64),(356365,.int .i64),(356366,.int .i64),(356370,.int .i64),(356376,.int
 .i64),(356388,.int .i64),(356390,.int .i64),(356391,.int .i64),(356394,.int .i64),(356400,.int .i64),(356404,.int .i64),(356405,.int .i64),(356406,.int .i64),(356410,.int .i64),(356412,.int .i64),(356415,.int .i64),
 (356383,.int .i64),(356373,.int .i64)]) (lookB []) ta tb a b Q=(exI .i64 (a.length:Int) (fun n_0=>exI .i64 (b.length:Int) (fun n_1=>exW .i64 (n_0+n_1) (fun n_2=>exW .i64 (n_2+1) (fun n_3=>ckQ (decide (0≤n_3) &&
 decide (n_3≤n_3)&&decide (n_3≤1099511627776)&&decide (n_3*8≤1099511627776)) ((∃x_4:Nat×List Nat,Lf (pre32 a b x_4)∧ckQ (oldL 0 (List.replicate n_3.toNat [AV.int .i64 0]).flatten==true) ((List.replicate n_3.toNat
 [AV.int .i64 0]).flatten=cellsNM x_4.2∧zRE3 ta a∧zRE3 tb b∧AV.sl 0 (n_3.toNat*1) 0 n_3.toNat 1=zRE4 a b∧AV.int .i64 0=AV.int .i64 (x_4.1:Int)∧True))∧∀x_4:Nat×List Nat,Lf (pre32 a b x_4)→exI .i64 (a.length :
 Int) (fun n_5=>bif decide ((x_4.1:Int)<n_5) then (∃x_6:Nat×Nat×List Nat,Lf (pre32i a b (x_4.1:Int).toNat (List.map unNM (cellsNM x_4.2)) x_6)∧cellsNM x_4.2=cellsNM x_6.2.2∧zRE3 ta a∧zRE3 tb b∧AV.int .i64 0 =
 AV.int .i64 (x_6.2.1:Int)∧eqqQ (zRE4 a b)∧AV.int .i64 0=AV.int .i64 (x_6.1:Int)∧eqqQ (AV.int .i64 (x_4.1:Int))∧True)∧∀x_6:Nat×Nat×List Nat,Lf (pre32i a b (x_4.1:Int).toNat (List.map unNM (cellsNM x_4.2)) x_6) →
 exI .i64 (b.length:Int) (fun n_7=>bif decide ((x_6.1:Int)<n_7) then zRE0 x_4 x_6 a b ta tb else bif decide ((x_6.2.1:Int)>0) then zRE0 x_4 x_6 a b ta tb else exW .i64 ((x_4.1:Int)+1) (fun n_8=>(True∧(0:Nat)=(0 :
 Nat))∧∃y_9:Nat×List Nat,Lf (pre32 a b y_9)∧a.length-y_9.1<a.length-x_4.1∧cellsNM x_6.2.2=cellsNM y_9.2∧zRE3 ta a∧zRE3 tb b∧eqqQ (zRE4 a b)∧AV.int .i64 n_8=AV.int .i64 (y_9.1:Int)∧True)) else Q (.ret (.sl 0
 (zRE2 a b) 0 (zRE2 a b) 1)) [Blk.mk BK.exact true (cellsNM x_4.2)] {}))))))):=by kernel_rfl

theorem get_over {l:List Nat} {j:Nat} (h:¬ j<l.length):l.getD j 0=0:=by
 rw[List.getD_eq_getElem?_getD,List.getElem?_eq_none (by omega)];rfl
theorem step32 {a b L0 L:List Nat} {i k c:Nat} (ha:∀j,a.getD j 0≤255) (hb:∀j,b.getD j 0≤255) (h:pre32i a b i L0 (k,c,L)) (hk:k<b.length∨0<c) (h0:∀j,i+b.length≤j→L0.getD j 0=0) (t:Nat) (ht:t=c+L.getD (i+k) 0+a.getD i 0*b.getD k 0) :
  i+k<L.length∧t≤65535∧pre32i a b i L0 (k+1,t/256,L.set (i+k) (t%256))∧b.length+1-(k+1)<b.length+1-k:=by
 obtain ⟨h1,h2,h3,h4,h5,h6,h7⟩:=h
 dsimp only at h1 h2 h3 h4 h5 h6 h7
 have hai:=ha i
 have hbk:=hb k
 have hL:=h4 (i+k)
 have hm:a.getD i 0*b.getD k 0≤255*255:=Nat.mul_le_mul hai hbk
 have hlt:i+k<L.length:=by omega
 have ht2:t≤65535:=by omega
 have vs:=val_set L (i+k) (t%256) hlt
 have vt:=val_take b k
 have hp:256^(i+(k+1))=256^(i+k)*256:=by rw[←Nat.add_assoc,Nat.pow_succ]
 have q1:t%256*256^(i+k)+t/256*(256^(i+k)*256)=t*256^(i+k):=by
  rw[Nat.mul_comm (256^(i+k)) 256,←Nat.mul_assoc,←Nat.add_mul]
  congr 1
  omega
 have q2:t*256^(i+k)=c*256^(i+k)+L.getD (i+k) 0*256^(i+k)+a.getD i 0*b.getD k 0*256^(i+k):=by rw[ht,Nat.add_mul,Nat.add_mul]
 have q3:a.getD i 0*256^i*(valNM (b.take k)+256^k*b.getD k 0)=a.getD i 0*256^i*valNM (b.take k)+a.getD i 0*b.getD k 0*256^(i+k):=by
  rw[Nat.mul_add,Nat.pow_add]
  congr 1
  simp only[Nat.mul_assoc,Nat.mul_comm,Nat.mul_left_comm]
 refine ⟨hlt,ht2,⟨h1,by dsimp only;rw[List.length_set];exact h2, ?_,fun j => ?_,by dsimp only;omega, ?_,fun j hj => ?_⟩,by omega⟩
 ·dsimp only
  rw[hp,vt,q3]
  omega
 ·dsimp only
  rw[set_get _ _ _ _ hlt]
  split
  ·omega
  ·exact h4 j
 ·dsimp only
  by_cases h8:k<b.length
  ·exact .inl h8
  ·refine .inr ⟨by omega, ?_⟩
   have e1:k=b.length:=by omega
   have e2:=h7 (i+k) (Nat.le_refl _)
   rw[h0 (i+k) (by omega)] at e2
   rw[get_over h8,Nat.mul_zero,e2] at ht
   omega
 ·dsimp only at hj ⊢
  rw[set_get _ _ _ _ hlt,if_neg (by omega)]
  exact h7 j (by omega)
theorem row32 {a b L0 L:List Nat} {i k c:Nat} (h0:pre32 a b (i,L0)) (h:pre32i a b i L0 (k,c,L)) (hk:¬ k<b.length) (hc:¬ 0<c):pre32 a b (i+1,L):=by
 obtain ⟨g1,g2,g3,g4,g5⟩:=h0
 obtain ⟨h1,h2,h3,h4,h5,h6,h7⟩:=h
 dsimp only at g1 g2 g3 g4 g5 h1 h2 h3 h4 h5 h6 h7
 obtain rfl:c=0:=by omega
 refine ⟨h1,h2, ?_,h4,fun j hj => ?_⟩
 ·dsimp only
  rw[List.take_of_length_le (by omega),Nat.zero_mul,Nat.add_zero] at h3
  rw[h3,g3,val_take,Nat.add_mul,Nat.mul_comm (256^i)]
 ·dsimp only at hj ⊢
  rw[h7 j (by omega),g5 j (by omega)]
theorem prod_run (ta tb:Nat) (a b:List Nat) (ha:∀j,a.getD j 0≤255) (hb:∀j,b.getD j 0≤255) (hla:a.length≤1000) (hlb:b.length≤1000) (Q:Out→List Blk→Gh→Prop)
  (hq:∀l,valNM l=valNM a*valNM b→(∀j,l.getD j 0≤255)→l.length=a.length+b.length+1→Q (.ret (.sl 0 l.length 0 l.length 1)) [⟨.exact,true,cellsNM l⟩] {}):∃hv hb,goal_32 hv hb ta tb a b Q:=by
 obtain ⟨hv,hb',e⟩:∃hv hb,goal_32 hv hb ta tb a b Q=_:=⟨_,_,vc_32 ta tb a b Q⟩
 refine ⟨hv,hb',e.mpr ?_⟩
 delta zRE3 zRE2 zRE4 zRE1 zRE0
 clear e
 have z:∀n,List.flatten (List.replicate n [AV.int .i64 0])=cellsNM (List.replicate n 0):=fun n=>by
  induction n with
  | zero=>rfl
  | succ k ih=>rw[List.replicate_succ,List.flatten_cons,ih];rfl
 have zv:∀n,valNM (List.replicate n 0)=0:=fun n=>by
  induction n with
  | zero=>rfl
  | succ k ih=>rw[List.replicate_succ,valNM,ih]
 have zg:∀n j,(List.replicate n 0).getD j 0=0:=fun n j=>by
  rw[List.getD_eq_getElem?_getD,List.getElem?_replicate]
  split<;>rfl
 have en:((a.length:Int)+(b.length:Int)+1).toNat=a.length+b.length+1:=by omega
 refine ⟨_,rfl,_,rfl,wrapI (by omega) (by omega) (wrapI (by omega) (by omega) (ckI (by simp;omega) ?_))⟩
 rw[en,z,Nat.mul_one]
 refine ⟨⟨(0,List.replicate (a.length+b.length+1) 0),⟨Nat.zero_le _,by simp,by simp[zv,valNM],fun j=>by dsimp only;rw[zg];omega,fun j _=>by dsimp only;rw[zg]⟩,ckI (by rw[oldL_N];rfl) ⟨rfl,rfl,rfl,rfl,rfl,trivial⟩⟩, ?_⟩
 rintro ⟨i,L0⟩ ⟨g⟩
 have g':=g
 obtain ⟨g1,g2,g3,g4,g5⟩:=g'
 dsimp only at *
 refine ⟨_,rfl,splitD (fun hi => ?_) (fun hi => ?_)⟩
 ·have hi':i<a.length:=by omega
  rw[unN_map,Int.toNat_natCast]
  refine ⟨⟨(0,0,L0),⟨hi',g2,by simp[valNM],g4,by dsimp only;omega,.inl (Nat.zero_le _),fun j _=>rfl⟩,rfl,rfl,rfl,rfl,rfl,rfl,rfl,trivial⟩, ?_⟩
  rintro ⟨k,c,L⟩ ⟨h⟩
  have h':=h
  obtain ⟨h1,h2,h3,h4,h5,h6,h7⟩:=h'
  dsimp only at *
  have hLi:=h4 (i+k)
  have hai:=ha i
  have hbk:=hb k
  have eik:((i:Int)+(k:Int)).toNat=i+k:=by omega
  have hmn:a.getD i 0*b.getD k 0≤255*255:=Nat.mul_le_mul hai hbk
  have hmi:((a.getD i 0:Nat):Int)*((b.getD k 0:Nat):Int)=((a.getD i 0*b.getD k 0:Nat):Int):=(Int.natCast_mul _ _).symm
  have w64:∀x:Int,0≤x→x≤1000000000→IntKind.wrap .i64 x=x:=fun x h1 h2=>by rw[IntKind.wrap_i64];omega
  have tq:∀x:Nat,Int.tdiv (x:Int) 256=((x/256:Nat):Int):=fun x=>by rw[Int.tdiv_eq_ediv_of_nonneg (by omega)];omega
  have tm:∀x:Nat,Int.tmod (x:Int) 256=((x%256:Nat):Int):=fun x=>by rw[Int.tmod_eq_emod_of_nonneg (by omega)];omega
  refine ⟨_,rfl,splitD (fun hk => ?_) (fun hk => ?_)⟩
  ·obtain ⟨s1,s2,s3,s4⟩:=step32 ha hb h (.inl (by omega)) g5 _ rfl
   refine wrapI (by omega) (by omega) ?_
   rw[eik,Nat.zero_add,Nat.mul_one,cellsN_len,h2]
   refine ckI (by simp;omega) (ckI (by simp;omega) (ldN s1 rfl (wrapI (by omega) (by omega) ⟨_,rfl,splitD (fun _ => ?_) (fun hx=>absurd hk hx)⟩)))
   rw[Int.toNat_natCast,Nat.mul_one,Nat.mul_one]
   refine ckI (by simp;omega) (ckI (by simp[cellsN_len];omega) (getN (j:=i) (by omega) rfl (ckI (by simp;omega) (ckI (by simp[cellsN_len];omega) (getN (j:=k) (by omega) rfl ?_)))))
   rw[hmi]
   refine wrapI (by omega) (by omega) (wrapI (by omega) (by omega) (wrapI (by omega) (by omega) ⟨_,rfl, ?_⟩))
   try dsimp only
   rw[show (c:Int)+((L.getD (i+k) 0:Nat):Int)+((a.getD i 0*b.getD k 0:Nat):Int)=((c+L.getD (i+k) 0+a.getD i 0*b.getD k 0:Nat):Int) by omega,tm,tq,eik,Nat.zero_add,Nat.mul_one,stN s1 rfl]
   refine ckI (by simp;omega) (ckI (by simp;omega) (wrapI (by omega) (by omega) (wrapI (by omega) (by omega) ⟨⟨trivial,rfl⟩,(k+1,(c+L.getD (i+k) 0+a.getD i 0*b.getD k 0)/256,L.set (i+k) ((c+L.getD (i+k) 0+a.getD i 0*b.getD k 0)%256)),⟨s3⟩,s4,rfl,rfl,rfl,rfl,rfl,rfl,rfl,trivial⟩)))
  ·have hkb:¬ k<b.length:=by omega
   refine splitD (fun hc => ?_) (fun hc => ?_)
   ·obtain ⟨s1,s2,s3,s4⟩:=step32 ha hb h (.inr (by omega)) g5 (c+L.getD (i+k) 0) (by rw[get_over hkb,Nat.mul_zero,Nat.add_zero])
    refine wrapI (by omega) (by omega) ?_
    rw[eik,Nat.zero_add,Nat.mul_one,cellsN_len,h2]
    refine ckI (by simp;omega) (ckI (by simp;omega) (ldN s1 rfl (wrapI (by omega) (by omega) ⟨_,rfl,splitD (fun hx=>absurd hx hk) (fun _=>wrapI (by omega) (by omega) ⟨_,rfl, ?_⟩)⟩)))
    try dsimp only
    rw[←Int.natCast_add c,tm,tq,eik,Nat.zero_add,Nat.mul_one,stN s1 rfl]
    refine ckI (by simp;omega) (ckI (by simp;omega) (wrapI (by omega) (by omega) (wrapI (by omega) (by omega) ⟨⟨trivial,rfl⟩,(k+1,(c+L.getD (i+k) 0)/256,L.set (i+k) ((c+L.getD (i+k) 0)%256)),⟨s3⟩,s4,rfl,rfl,rfl,rfl,rfl,rfl,rfl,trivial⟩)))
   ·exact wrapI (by omega) (by omega) ⟨⟨trivial,rfl⟩,(i+1,L),⟨row32 g h hkb (by omega)⟩,by dsimp only;omega,rfl,rfl,rfl,rfl,rfl,trivial⟩
 ·have e2:i=a.length:=by omega
  rw[List.take_of_length_le (by omega)] at g3
  have hh:=hq L0 g3 g4 g2
  rw[g2] at hh
  exact hh
def cProd:Con
 | [.lst ta ca na 1,.lst tb cb nb 1],H,K=>∃a b:List Nat,Lf (numK ta ca na a∧numK tb cb nb b∧a.length≤1000∧b.length≤1000)∧∀l:List Nat,Lf (valNM l=valNM a*valNM b∧(∀j,l.getD j 0≤255)∧l.length=a.length+b.length+1)→K (.ret (.lst 0 (cellsNM l) l.length 1)) H
 | _,_,_=>False
theorem prod_raw:ValidF Tryz.prog gl0 87 cProd:=by
 refine valid_frz (enters_of (by kernel_rfl)) gl0_noY 9 (nlR [1]) (wk_nlR _) fun args H Q hc => ?_
 unfold cProd at hc
 split at hc
 ·rename_i ta ca na tb cb nb
  obtain ⟨a,b,⟨⟨rfl,rfl,ha,_⟩,⟨rfl,rfl,hb,_⟩,hla,hlb⟩,hq⟩:=hc
  obtain ⟨hv,hb',h⟩:=prod_run ta tb a b ha hb hla hlb (fun o H' _=>∃v,o=.ret v∧Q (.ret (nlR [1] (frzV 0 H' 9 v))) H)
   (fun l h1 h2 h3=>⟨_,rfl,by
    rw[frz_slf (τ:=0) (d:=7) (id:=0) (tot:=l.length) (off:=0) (len:=l.length) (sz:=1) (b:=⟨.exact,true,cellsNM l⟩) (cs:=cellsNM l) rfl (cellsN_len l) (by omega) (by simp) (by rw[List.drop_zero];exact List.take_of_length_le (by rw[cellsN_len];omega)) (plain_cellsN l)]
    exact hq l ⟨h1,h2,h3⟩⟩)
  exact ⟨by simp[oldL,old,oldL_N],by simp[noYL,noY,noY_N],_,1000,envFor04 sm0_ok _ _ _,rfl,h⟩
 ·exact hc.elim
def cProdV:Con:=fun args H Q=>lendL [1,1] H args fun a=>cProd a H Q
theorem prod_ok:ValidF Tryz.prog gl0 87 cProdV:=valid_view prod_raw gl0_noY [1,1] fun args H Q hc=>by
 unfold cProd at hc
 split at hc
 ·obtain ⟨a,b,h,hq⟩:=hc
  exact ⟨a,b,h,fun l hl=>⟨rfl,⟨_,rfl,by simp[noT,noT_cellsN]⟩,hq l hl⟩⟩
 ·exact hc.elim
end Go.Proofs.YtiholnebhmjbjaaGreat
