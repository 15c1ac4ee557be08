/-
  Chapter 17, RecordOpens: Open of the program and of the reference for all arguments; receivers; datagrams: proved.
-/
import Derived.Test.YtiholnebhmjbjaaGreatZOA
set_option linter.unusedSimpArgs false
set_option linter.unusedVariables false
set_option linter.unusedSectionVars false
namespace Go.Proofs.YtiholnebhmjbjaaGreat
open Go.RowKit
set_option maxRecDepth 1000000

theorem open_short {key salt u:List UInt8} {a b c:Int} (h:u.length<16):(openRM key salt (a,b,c,u)).2≠0:=by
 rw[openRM,openM]
 dsimp only
 split
 ·simp
 ·split
  ·simp
  ·first | (rw[if_pos h];simp;done) | simp
theorem ropenrec_run (e:Int) (key salt:List UInt8) (t:Int) (k:Nat) (l:List Rc) (s:List UInt8) (hr:rcvOkM e key salt t k=true) (hk:k<18446744073709551616) (hs:s.length≤9223372036854775807) (hl:(decM s).1=l) (Q:Out→List Blk→Gh→Prop)
  (hq0:∀f,decM s=([],f)→f≠0→Q (.ret (.tup [.agg [.int .i64 0,.str [],.str [],.int .i64 0,.int .u64 0],.nils,.int .i64 f])) [] {})
  (hq1:∀ (a:Int) (b:Nat),decM s=(l,0)→opensM e key salt (t,k) l=((a,b),[])→Q (.ret (.tup [.agg [.int .i64 e,.str key,.str salt,.int .i64 a,.int .u64 (b:Nat)],.nils,.int .i64 0])) [] {})
  (hq2:∀ (a:Int) (b:Nat) (out:List Rc) (H:List Blk),decM s=(l,0)→opensM e key salt (t,k) l=((a,b),out)→H[3]? = some ⟨.grow,true,cellsRM out⟩→Q (.ret (.tup [.agg [.int .i64 e,.str key,.str salt,.int .i64 a,.int .u64 (b:Nat)],.sl 3 (out.length*4) 0 out.length 4,.int .i64 0])) H {}) :
  ∃hv hb,goal_o21 hv hb e key salt t k l s Q:=by
 obtain ⟨hv,hb',e'⟩:∃hv hb,goal_o21 hv hb e key salt t k l s Q=_:=⟨_,_,vc_o21 e key salt t k l s Q⟩
 refine ⟨hv,hb',e'.mpr ?_⟩
 delta zOA21 zOA23 zOA26 zOA4 zOA10 zOA5 zOA18 zOA24 zOA25 zOA13 zOA2 zOA9 zOA14 zOA1 zOA17 zOA28 zOA22 zOA19 zOA0
 clear e'
 obtain ⟨r1,r2,r3,r4⟩:=(rcv_iff e key salt t k).1 hr
 refine agg5 ⟨k,⟨rfl,hk⟩, ?_⟩
 rintro x ⟨hx⟩
 rw[hx,hr,cond_true]
 refine ⟨⟨hs⟩, ?_⟩
 rintro l' f ⟨hd⟩
 refine splitNE (fun h=>hq0 f (by rw[hd,dec_nil hd h]) h) (fun h0 => ?_)
 subst h0
 have hll:l'=l:=by rw[←hl,hd]
 subst hll
 have hall:=dec_right s
 rw[hl] at hall
 have hlen:=dec_len s
 rw[hl] at hlen
 have hcl:=cellsR_len l'
 have hm:∀i (hi:i<l'.length),∃a b c u,l'[i]=(a,b,c,u)∧(0≤a∧a≤255)∧(0≤b∧b≤65535)∧(0≤c∧c≤281474976710655)∧u.length≤1000:=fun i hi=>by
  obtain ⟨⟨a,b,c,u⟩,hR⟩:∃r,l'[i]=r:=⟨_,rfl⟩
  have hr:rightRM (a,b,c,u)=true:=by rw[←hR];exact List.all_eq_true.1 hall _ (List.getElem_mem hi)
  exact ⟨a,b,c,u,hR,(rightM_iff a b c u).1 hr⟩
 have eS:∀u:List UInt8,(eqAVL [AV.str u] [AV.str u]&&true)=true:=fun u=>by simp[eqAVL,eqAV,eqB_refl]
 have eR:∀ (a b c:Int) (u:List UInt8),(eqAVL [AV.int .i64 a,AV.int .i64 b,AV.int .i64 c,AV.str u] [AV.int .i64 a,AV.int .i64 b,AV.int .i64 c,AV.str u]&&true)=true:=fun a b c u=>by simp[eqAVL,eqAV,eqB_refl]
 refine ⟨.inl ⟨(0,(t,k)),⟨by omega,r4,hk,rfl⟩,rfl,rfl,rfl,rfl,rfl,rfl,rfl,trivial⟩, ?_, ?_⟩
 ·rintro ⟨i,wt,wk⟩ ⟨g1,g2,g3,g4⟩
  dsimp only at g1 g2 g3 g4 ⊢
  have wtr : -1≤wt∧wt<281474976710656:=by rcases ok_parts g2 with h | h<;>omega
  refine ⟨_,rfl,_,rfl,splitD (fun h1 => ?_) (fun h1 => ?_)⟩
  ·have hi:i<l'.length:=by omega
   obtain ⟨a,b,c,u,hR,k1,k2,k3,k4⟩:=hm i hi
   have hst:=opens_snoc (e:=e) (key:=key) (salt:=salt) (w:=(t,k)) hi
   rw[g4,hR] at hst
   have wt63 : -9223372036854775808≤wt∧wt≤9223372036854775807:=by omega
   have no:stepRM e key salt ((wt,wk),[]) (a,b,c,u)=((wt,wk),[])→(∃n,AV.int .i64 (i:Int)=AV.int .i64 n∧exW .i64 (n+1) fun n_18=>(True∧(0:Nat)=(0:Nat))∧((∃y:Nat×Wn,Lf (y.1≤l'.length∧okWM y.2.1 y.2.2=true∧y.2.2<18446744073709551616∧opensM e key salt (t,k) (l'.take y.1)=(y.2,[]))∧l'.length-y.1<l'.length-i∧[AV.int .i64 e,.str key,.str salt,.int .i64 wt,.int .u64 (wk:Int)]=[AV.int .i64 e,.str key,.str salt,.int .i64 y.2.1,.int .u64 (y.2.2:Int)]∧eqqQ [AV.int .i64 0,.str [],.str [],.int .i64 0,.int .u64 0]∧eqqQ (AV.lst 0 (cellsRM l') l'.length 4)∧AV.nils=AV.nils∧eqqQ (AV.ptr 0 5 0)∧eqqQ (AV.ptr 1 5 0)∧AV.int .i64 n_18=AV.int .i64 (y.1:Int)∧True) ∨
     ∃y:Nat×Wn×List Rc×List AV,Lf (y.1≤l'.length∧okWM y.2.1.1 y.2.1.2=true∧y.2.1.2<18446744073709551616∧0<y.2.2.1.length∧opensM e key salt (t,k) (l'.take y.1)=(y.2.1,y.2.2.1))∧l'.length-y.1<l'.length-i∧[AV.int .i64 e,.str key,.str salt,.int .i64 wt,.int .u64 (wk:Int)]=[AV.int .i64 e,.str key,.str salt,.int .i64 y.2.1.1,.int .u64 (y.2.1.2:Int)]∧eqqQ [AV.int .i64 0,.str [],.str [],.int .i64 0,.int .u64 0]∧False)):=fun h=>by
    rw[h] at hst
    exact ⟨_,rfl,wrapI (by omega) (by omega) ⟨⟨trivial,rfl⟩,.inl ⟨(i+1,(wt,wk)),⟨by dsimp only;omega,g2,g3,hst⟩,by dsimp only;omega,rfl,rfl,rfl,rfl,rfl,rfl,rfl,trivial⟩⟩⟩
   refine ⟨_,rfl,ckI (by simp;omega) (ckI (by rw[hcl];simp;omega) (getR hi hR (by simp) (splitNE (fun h2=>no (step_no (.inl h2))) (fun h2=>aggW2 ⟨wk,⟨rfl,g3,wt63,by omega,by omega⟩, ?_⟩))))⟩
   rintro fe ⟨hfe⟩
   have hfq:=fresh_eq (q:=c) g2 (by omega)
   rw[←hfe] at hfq
   refine splitNE (fun h3=>no (step_no (.inr (.inl ?_)))) (fun h3 => ?_)
   ·cases hb:isFreshM wt wk c with
    | false=>rfl
    | true=>exact absurd (hfq.2 hb) h3
   have hfr:=hfq.1 h3
   refine ⟨_,rfl,splitD (fun h4=>no (step_no (.inr (.inr (open_short (by omega)))))) (fun h4=>⟨_,rfl,⟨r3,k2,k3⟩, ?_⟩)⟩
   rintro nc ⟨hno⟩
   refine ckI (eS u) (ckI (eS u) (ckI (eR a b c u) (ckI (eS key) ⟨⟨⟨k1,k2,k3⟩,by omega,by omega⟩, ?_⟩)))
   rintro hd' ⟨hhd⟩
   refine ckI (eS u) (ckI (eS key) ⟨⟨r2,by rw[hno,nonce_len];exact r3,by rw[hhd,head_len];omega,by omega,by omega⟩, ?_⟩)
   rintro pl fb ⟨⟨hp1,hp2⟩,hp3⟩
   have ho:openRM key salt (a,b,c,u)=openM key nc hd' u:=by rw[hno,hhd];rfl
   cases fb with
   | false=>exact no (step_no (.inr (.inr (by rw[ho,hp2];simp))))
   | true=>
    have ho2:openRM key salt (a,b,c,u)=(pl,0):=by rw[ho];exact Prod.ext hp1.symm hp2
    rw[step_yes h2 hfr (by rw[ho2]),ho2] at hst
    rw[cond_true]
    rw[h3] at hfe
    refine aggW2 ⟨wk,⟨rfl,g3,wt63,by omega,by omega⟩, ?_⟩
    rintro a' b' e2 ⟨hmk⟩
    rw[markRM,if_neg (show ¬ freshWM wt wk c≠0 from fun h=>h hfe.symm)] at hmk
    have hm2:=(Prod.mk.inj hmk).1
    have hmo:=mark_okW g3 hfe.symm
    have hml:=mark_lt g3 hfe.symm
    dsimp only at hst
    rw[hm2] at hst hmo hml
    exact aggW2 ⟨_,rfl,wrapI (by omega) (by omega) ⟨⟨trivial,rfl⟩,.inr ⟨(i+1,(a',b'),[(a,b,c,pl)],_),⟨by dsimp only;omega,hmo,hml,by simp,hst⟩,by dsimp only;omega,rfl,rfl,rfl,rfl,rfl,rfl,rfl,rfl,rfl,trivial⟩⟩⟩
  ·have hi:l'.take i=l':=List.take_of_length_le (by omega)
   rw[hi] at g4
   exact agg5 (hq1 wt wk hd g4)
 ·rintro ⟨i,⟨wt,wk⟩,out,d3⟩ ⟨g1,g2,g3,g5,g4⟩
  dsimp only at g1 g2 g3 g4 g5 ⊢
  have wtr : -1≤wt∧wt<281474976710656:=by rcases ok_parts g2 with h | h<;>omega
  refine ⟨_,rfl,_,rfl,splitD (fun h1 => ?_) (fun h1 => ?_)⟩
  ·have hi:i<l'.length:=by omega
   obtain ⟨a,b,c,u,hR,k1,k2,k3,k4⟩:=hm i hi
   have hst:=opens_snoc (e:=e) (key:=key) (salt:=salt) (w:=(t,k)) hi
   have hol0:out.length≤i:=by
    have:=opens_len e key salt (l'.take i) ((t,k),[])
    have h2:(opensM e key salt (t,k) (l'.take i)).2.length≤0+(l'.take i).length:=this
    rw[g4] at h2
    simp at h2
    omega
   rw[g4,hR] at hst
   have wt63 : -9223372036854775808≤wt∧wt≤9223372036854775807:=by omega
   have no:stepRM e key salt ((wt,wk),out) (a,b,c,u)=((wt,wk),out)→(∃n,AV.int .i64 (i:Int)=AV.int .i64 n∧exW .i64 (n+1) fun n_18=>(True∧(0:Nat)=(0:Nat))∧((∃y:Nat×Wn,Lf (y.1≤l'.length∧okWM y.2.1 y.2.2=true∧y.2.2<18446744073709551616∧opensM e key salt (t,k) (l'.take y.1)=(y.2,[]))∧l'.length-y.1<l'.length-i∧[AV.int .i64 e,.str key,.str salt,.int .i64 wt,.int .u64 (wk:Int)]=[AV.int .i64 e,.str key,.str salt,.int .i64 y.2.1,.int .u64 (y.2.2:Int)]∧eqqQ [AV.int .i64 0,.str [],.str [],.int .i64 0,.int .u64 0]∧False) ∨
     ∃y:Nat×Wn×List Rc×List AV,Lf (y.1≤l'.length∧okWM y.2.1.1 y.2.1.2=true∧y.2.1.2<18446744073709551616∧0<y.2.2.1.length∧opensM e key salt (t,k) (l'.take y.1)=(y.2.1,y.2.2.1))∧l'.length-y.1<l'.length-i∧[AV.int .i64 e,.str key,.str salt,.int .i64 wt,.int .u64 (wk:Int)]=[AV.int .i64 e,.str key,.str salt,.int .i64 y.2.1.1,.int .u64 (y.2.1.2:Int)]∧eqqQ [AV.int .i64 0,.str [],.str [],.int .i64 0,.int .u64 0]∧d3=y.2.2.2∧cellsRM out=cellsRM y.2.2.1∧eqqQ (AV.lst 0 (cellsRM l') l'.length 4)∧AV.sl 3 (out.length*4) 0 out.length 4=AV.sl 3 (y.2.2.1.length*4) 0 y.2.2.1.length 4∧eqqQ (AV.ptr 0 5 0)∧eqqQ (AV.ptr 1 5 0)∧AV.int .i64 n_18=AV.int .i64 (y.1:Int)∧True)):=fun h=>by
    rw[h] at hst
    exact ⟨_,rfl,wrapI (by omega) (by omega) ⟨⟨trivial,rfl⟩,.inr ⟨(i+1,(wt,wk),out,d3),⟨by dsimp only;omega,g2,g3,g5,hst⟩,by dsimp only;omega,rfl,rfl,rfl,rfl,rfl,rfl,rfl,rfl,rfl,trivial⟩⟩⟩
   refine ⟨_,rfl,ckI (by simp;omega) (ckI (by rw[hcl];simp;omega) (getR hi hR (by simp) (splitNE (fun h2=>no (step_no (.inl h2))) (fun h2=>aggW2 ⟨wk,⟨rfl,g3,wt63,by omega,by omega⟩, ?_⟩))))⟩
   rintro fe ⟨hfe⟩
   have hfq:=fresh_eq (q:=c) g2 (by omega)
   rw[←hfe] at hfq
   refine splitNE (fun h3=>no (step_no (.inr (.inl ?_)))) (fun h3 => ?_)
   ·cases hb:isFreshM wt wk c with
    | false=>rfl
    | true=>exact absurd (hfq.2 hb) h3
   have hfr:=hfq.1 h3
   refine ⟨_,rfl,splitD (fun h4=>no (step_no (.inr (.inr (open_short (by omega)))))) (fun h4=>⟨_,rfl,⟨r3,k2,k3⟩, ?_⟩)⟩
   rintro nc ⟨hno⟩
   refine ckI (eS u) (ckI (eS u) (ckI (eR a b c u) (ckI (eS key) ⟨⟨⟨k1,k2,k3⟩,by omega,by omega⟩, ?_⟩)))
   rintro hd' ⟨hhd⟩
   refine ckI (eS u) (ckI (eS key) ⟨⟨r2,by rw[hno,nonce_len];exact r3,by rw[hhd,head_len];omega,by omega,by omega⟩, ?_⟩)
   rintro pl fb ⟨⟨hp1,hp2⟩,hp3⟩
   have ho:openRM key salt (a,b,c,u)=openM key nc hd' u:=by rw[hno,hhd];rfl
   cases fb with
   | false=>exact no (step_no (.inr (.inr (by rw[ho,hp2];simp))))
   | true=>
    have ho2:openRM key salt (a,b,c,u)=(pl,0):=by rw[ho];exact Prod.ext hp1.symm hp2
    rw[step_yes h2 hfr (by rw[ho2]),ho2] at hst
    rw[cond_true]
    rw[h3] at hfe
    refine aggW2 ⟨wk,⟨rfl,g3,wt63,by omega,by omega⟩, ?_⟩
    rintro a' b' e2 ⟨hmk⟩
    rw[markRM,if_neg (show ¬ freshWM wt wk c≠0 from fun h=>h hfe.symm)] at hmk
    have hm2:=(Prod.mk.inj hmk).1
    have hmo:=mark_okW g3 hfe.symm
    have hml:=mark_lt g3 hfe.symm
    have hol:=cellsR_len out
    have h12:=dec_le hd
    dsimp only at hst
    rw[hm2] at hst hmo hml
    refine aggW2 (ckI (by rw[hol];simp;omega) ⟨_,rfl,wrapI (by omega) (by omega) ⟨⟨trivial,rfl⟩,.inr ⟨(i+1,(a',b'),out++[(a,b,c,pl)],d3),⟨by dsimp only;omega,hmo,hml,by simp,hst⟩,by dsimp only;omega,rfl,rfl,rfl, ?_,rfl, ?_,rfl,rfl,rfl,trivial⟩⟩⟩)
    ·rw[cellsR_app];rfl
    ·simp only[List.length_append,List.length_singleton]
     congr 1
     omega
  ·have hi:l'.take i=l':=List.take_of_length_le (by omega)
   rw[hi] at g4
   exact agg5 (hq2 wt wk out _ hd g4 rfl)
end Go.Proofs.YtiholnebhmjbjaaGreat
