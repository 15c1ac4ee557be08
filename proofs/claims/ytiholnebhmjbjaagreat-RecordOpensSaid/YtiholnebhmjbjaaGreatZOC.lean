/-
  Chapter 17, RecordOpens: contracts; the law's residual.
-/
import Derived.Test.YtiholnebhmjbjaaGreatZOB
import Derived.Test.YtiholnebhmjbjaaGreatZ17I
set_option linter.unusedSimpArgs false
set_option linter.unusedVariables false
set_option linter.unusedSectionVars false
namespace Go.Proofs.YtiholnebhmjbjaaGreat
open Go.RowKit
set_option maxRecDepth 1000000

def openXM (e:Int) (key salt:List UInt8) (t:Int) (k:Nat) (s:List UInt8):(Int×List UInt8×List UInt8×Int×Nat)×List Rc×Int:=
 if rcvOkM e key salt t k=true then (if (decM s).2≠0 then ((0,[],[],0,0),[],(decM s).2) else
  ((e,key,salt,(opensM e key salt (t,k) (decM s).1).1.1,(opensM e key salt (t,k) (decM s).1).1.2),(opensM e key salt (t,k) (decM s).1).2,0)) else ((0,[],[],0,0),[],170)
def cOpenX:Con
 | [.agg [.int .i64 e,.str key,.str salt,.int .i64 t,.int .u64 u],.str s],H,K=>∃k:Nat,Lf (u=(k:Int)∧k<18446744073709551616∧s.length≤100000) ∧
   ∀ (a:Int) (ky sa:List UInt8) (b:Int) (c:Nat) (out:List Rc) (f:Int),Lf (openXM e key salt t k s=((a,ky,sa,b,c),out,f)∧out.length≤1000000) →
    K (.ret (.tup [.agg [.int .i64 a,.str ky,.str sa,.int .i64 b,.int .u64 (c:Nat)],.lst 0 (cellsRM out) out.length 4,.int .i64 f])) H
 | _,_,_=>False
theorem openX_len (e:Int) (key salt:List UInt8) (w:Wn) (s:List UInt8) (hs:s.length≤100000):(opensM e key salt w (decM s).1).2.length≤1000000:=by
 have h:=opens_len e key salt (decM s).1 (w,[])
 have h2:=dec_len s
 have h3:(opensM e key salt w (decM s).1).2.length≤0+(decM s).1.length:=h
 omega
theorem openX_bad {e:Int} {key salt:List UInt8} {t:Int} {k:Nat} (hr:rcvOkM e key salt t k=false) (s:List UInt8):openXM e key salt t k s=((0,[],[],0,0),[],170):=by
 rw[openXM,if_neg (by rw[hr];simp)]
theorem openX_err {e:Int} {key salt:List UInt8} {t:Int} {k:Nat} {s:List UInt8} {l:List Rc} {f:Int} (hr:rcvOkM e key salt t k=true) (hd:decM s=(l,f)) (hf:f≠0):openXM e key salt t k s=((0,[],[],0,0),[],f):=by
 rw[openXM,if_pos hr,hd,if_pos hf]
theorem openX_good {e:Int} {key salt:List UInt8} {t:Int} {k:Nat} {s:List UInt8} {l:List Rc} {a:Int} {b:Nat} {out:List Rc} (hr:rcvOkM e key salt t k=true) (hd:decM s=(l,0)) (ho:opensM e key salt (t,k) l=((a,b),out)):openXM e key salt t k s=((e,key,salt,a,b),out,0):=by
 rw[openXM,if_pos hr,hd,if_neg (by simp),ho]
theorem open_bad (e:Int) (key salt:List UInt8) (t:Int) (k:Nat) (l:List Rc) (s:List UInt8) (hr:rcvOkM e key salt t k=false) (hk:k<18446744073709551616) (Q:Out→List Blk→Gh→Prop)
  (hq:Q (.ret (.tup [.agg [.int .i64 0,.str [],.str [],.int .i64 0,.int .u64 0],.nils,.int .i64 170])) [] {}):∃hv hb,goal_27n hv hb e key salt t k l s Q:=by
 obtain ⟨hv,hb',e'⟩:∃hv hb,goal_27n hv hb e key salt t k l s Q=_:=⟨_,_,vc_27n e key salt t k l s Q⟩
 refine ⟨hv,hb',e'.mpr ?_⟩
 delta z7N15 z7N16 z7N13 z7N3 z7N5 z7N4 z7N6 z7N9 z7N12 z7N11 z7N8 z7N2 z7N7 z7N10 z7N1 z7N17 z7N14 z7N0
 clear e'
 refine agg5 ⟨k,⟨rfl,hk⟩, ?_⟩
 rintro x ⟨rfl⟩
 rw[hr]
 exact splitNE (fun h=>hq) (fun h=>absurd h (by decide))
theorem openX_ok:ValidF Tryz.prog gl0 20 cOpenX:=valid_frz (enters_of (by kernel_rfl)) gl0_noY 9 (nlR [0,4]) (wk_nlR _) fun args H Q hc=>by
 unfold cOpenX at hc
 split at hc
 ·rename_i e key salt t u s
  obtain ⟨k,⟨rfl,h1,h3⟩,hq⟩:=hc
  have hlen:=openX_len e key salt (t,k) s h3
  cases h2:rcvOkM e key salt t k with
  | false=>
   obtain ⟨hv,hb',h⟩:=open_bad e key salt t k [] s h2 h1 (Q:=fun o H' _=>∃v,o=.ret v∧Q (.ret (nlR [0,4] (frzV 0 H' 9 v))) H) ⟨_,rfl,hq 0 [] [] 0 0 [] 170 ⟨openX_bad h2 s,by simp⟩⟩
   exact ⟨rfl,rfl,_,1000,envFor04 smOp_ok _ _ _,rfl,h⟩
  | true=>
   obtain ⟨hv,hb',h⟩:=openrec_run e key salt t k (decM s).1 s h2 h1 (by omega) rfl (Q:=fun o H' _=>∃v,o=.ret v∧Q (.ret (nlR [0,4] (frzV 0 H' 9 v))) H)
    (fun f hd hf=>⟨_,rfl,hq _ _ _ _ _ [] f ⟨openX_err h2 hd hf,by simp⟩⟩)
    (fun a b hd k1 k2 k3=>⟨_,rfl,hq _ _ _ _ _ [] 0 ⟨openX_good h2 hd k3,by simp⟩⟩)
    (fun a b out H' hd k1 k2 k3 k4=>⟨_,rfl,by
     rw[frz_rec3 k4]
     exact hq _ _ _ _ _ out 0 ⟨openX_good h2 hd k3,by rw[k3] at hlen;exact hlen⟩⟩)
   exact ⟨rfl,rfl,_,1000,envFor04 smOp_ok _ _ _,rfl,h⟩
 ·exact hc.elim
theorem ropen_bad (e:Int) (key salt:List UInt8) (t:Int) (k:Nat) (l:List Rc) (s:List UInt8) (hr:rcvOkM e key salt t k=false) (hk:k<18446744073709551616) (Q:Out→List Blk→Gh→Prop)
  (hq:Q (.ret (.tup [.agg [.int .i64 0,.str [],.str [],.int .i64 0,.int .u64 0],.nils,.int .i64 170])) [] {}):∃hv hb,goal_o21 hv hb e key salt t k l s Q:=by
 obtain ⟨hv,hb',e'⟩:∃hv hb,goal_o21 hv hb e key salt t k l s Q=_:=⟨_,_,vc_o21 e key salt t k l s Q⟩
 refine ⟨hv,hb',e'.mpr ?_⟩
 delta zOA21 zOA23 zOA26 zOA4 zOA10 zOA5 zOA18 zOA24 zOA25 zOA13 zOA2 zOA9 zOA14 zOA1 zOA17 zOA28 zOA22 zOA19 zOA0
 clear e'
 refine agg5 ⟨k,⟨rfl,hk⟩, ?_⟩
 rintro x ⟨hx⟩
 rw[hx,hr]
 exact hq
theorem frz_rec5 {H:List Blk} {l:List Rc} {e a:Int} {b:Nat} {key salt:List UInt8} {f:Int} (hb:H[3]? = some ⟨.grow,true,cellsRM l⟩) :
  nlR [0,4] (frzV 0 H 9 (.tup [.agg [.int .i64 e,.str key,.str salt,.int .i64 a,.int .u64 (b:Nat)],.sl 3 (l.length*4) 0 l.length 4,.int .i64 f]))=.tup [.agg [.int .i64 e,.str key,.str salt,.int .i64 a,.int .u64 (b:Nat)],.lst 0 (cellsRM l) l.length 4,.int .i64 f]:=by
 have h:=frz_sl (τ:=0) (d:=6) (cs:=cellsRM l) (off:=0) (len:=l.length) (sz:=4) hb (cellsR_len l) (by omega) (by simp) (by rw[List.drop_zero];exact List.take_of_length_le (by rw[cellsR_len];omega)) (cellsR_plain l)
 have e1:frzV 0 H 9 (.tup [.agg [.int .i64 e,.str key,.str salt,.int .i64 a,.int .u64 (b:Nat)],.sl 3 (l.length*4) 0 l.length 4,.int .i64 f])=.tup [.agg [.int .i64 e,.str key,.str salt,.int .i64 a,.int .u64 (b:Nat)],frzV 0 H 8 (.sl 3 (l.length*4) 0 l.length 4),.int .i64 f]:=rfl
 rw[e1,h]
 rfl
theorem ropenX_ok:ValidF Tryz.prog gl0 21 cOpenX:=valid_frz (enters_of (by kernel_rfl)) gl0_noY 9 (nlR [0,4]) (wk_nlR _) fun args H Q hc=>by
 unfold cOpenX at hc
 split at hc
 ·rename_i e key salt t u s
  obtain ⟨k,⟨rfl,h1,h3⟩,hq⟩:=hc
  have hlen:=openX_len e key salt (t,k) s h3
  cases h2:rcvOkM e key salt t k with
  | false=>
   obtain ⟨hv,hb',h⟩:=ropen_bad e key salt t k [] s h2 h1 (Q:=fun o H' _=>∃v,o=.ret v∧Q (.ret (nlR [0,4] (frzV 0 H' 9 v))) H) ⟨_,rfl,hq 0 [] [] 0 0 [] 170 ⟨openX_bad h2 s,by simp⟩⟩
   exact ⟨rfl,rfl,_,1000,envFor_o21 _ _ _ _ _ _ _ _,rfl,h⟩
  | true=>
   obtain ⟨hv,hb',h⟩:=ropenrec_run e key salt t k (decM s).1 s h2 h1 (by omega) rfl (Q:=fun o H' _=>∃v,o=.ret v∧Q (.ret (nlR [0,4] (frzV 0 H' 9 v))) H)
    (fun f hd hf=>⟨_,rfl,hq _ _ _ _ _ [] f ⟨openX_err h2 hd hf,by simp⟩⟩)
    (fun a b hd k3=>⟨_,rfl,hq _ _ _ _ _ [] 0 ⟨openX_good h2 hd k3,by simp⟩⟩)
    (fun a b out H' hd k3 k4=>⟨_,rfl,by
     rw[frz_rec5 k4]
     exact hq _ _ _ _ _ out 0 ⟨openX_good h2 hd k3,by rw[k3] at hlen;exact hlen⟩⟩)
   exact ⟨rfl,rfl,_,1000,envFor_o21 _ _ _ _ _ _ _ _,rfl,h⟩
 ·exact hc.elim
def cDraftR:Con
 | [.agg [.int .u16 ep,.int .u16 st,.int .u8 a,.int .u8 b,.lst 0 l n 1]],H,K=>∃s:List UInt8,Lf ((l=ofBytes s∧n=s.length)∧(0≤ep∧ep≤65535)∧(0≤st∧st≤65535)∧s.length≤9223372036854775807) ∧
   ∀ (e:Int) (key salt:List UInt8) (t:Int) (k:Nat),Lf (k<18446744073709551616)→K (.ret (.agg [.int .i64 e,.str key,.str salt,.int .i64 t,.int .u64 (k:Nat)])) H
 | _,_,_=>False
theorem draftR_ok:ValidF Tryz.prog gl0 14 cDraftR:=by
 refine valid_flat (enters_of (by kernel_rfl)) gl0_noY fun args H Q hc => ?_
 unfold cDraftR at hc
 split at hc
 ·rename_i ep st a b l n
  obtain ⟨s,⟨⟨rfl,rfl⟩,h1,h2,h3⟩,hq⟩:=hc
  obtain ⟨hv,hb',e'⟩:∃hv hb,goal_o14 hv hb ep st a b s (fun o H' _=>H'=[]∧(∃v,o=.ret v∧old 0 v=true∧noY v=true)∧Q o H)=_:=⟨_,_,vc_o14 ep st a b s _⟩
  refine ⟨rfl,rfl,_,1000,envFor04 smOd_ok _ hv hb',rfl,e'.mpr ⟨s,⟨rfl,h1,h2⟩, ?_⟩⟩
  rintro e key salt ⟨k1,k2,k3⟩
  refine ⟨s,⟨rfl,rfl,h2,h3⟩, ?_⟩
  rintro t k ⟨g1,g2⟩
  exact ckI (by simp[eqAVL,eqAV,eqB_refl]) (ckI (by simp[eqAVL,eqAV,eqB_refl]) (ckI (by simp[eqAVL,eqAV]) (aggW2 ⟨rfl,⟨_,rfl,rfl,rfl⟩,hq _ _ _ _ k ⟨g2⟩⟩)))
 ·exact hc.elim
def cBendR:Con
 | [.agg [.int .u8 w,.int .i64 n,.str s,.int .i64 wt,.int .u64 x],.agg [.int .i64 e,.str key,.str salt,.int .i64 t,.int .u64 u]],H,K=>∃wk k:Nat,Lf (x=(wk:Int)∧u=(k:Int)∧wk<18446744073709551616∧k<18446744073709551616∧(0≤w∧w≤255)) ∧
   ∀ (e:Int) (key salt:List UInt8) (t:Int) (k:Nat),Lf (k<18446744073709551616)→K (.ret (.agg [.int .i64 e,.str key,.str salt,.int .i64 t,.int .u64 (k:Nat)])) H
 | _,_,_=>False
theorem bendR_ok:ValidF Tryz.prog gl0 16 cBendR:=by
 refine valid_flat (enters_of (by kernel_rfl)) gl0_noY fun args H Q hc => ?_
 unfold cBendR at hc
 split at hc
 ·rename_i w n s wt x e key salt t u
  obtain ⟨wk,k,⟨rfl,rfl,h1,h2,h3⟩,hq⟩:=hc
  obtain ⟨hv,hb',e'⟩:∃hv hb,goal_o16 hv hb w n s wt wk e key salt t k (fun o H' _=>H'=[]∧(∃v,o=.ret v∧old 0 v=true∧noY v=true)∧Q o H)=_:=⟨_,_,vc_o16 w n s wt wk e key salt t k _⟩
  refine ⟨rfl,rfl,_,1000,envFor04 sm0_ok _ hv hb',rfl,e'.mpr ⟨_,rfl, ?_⟩⟩
  have hm:imin (s.length:Int) 40=((min s.length 40:Nat):Int):=by unfold imin;split<;>omega
  refine splitE (fun _=>agg5 ⟨rfl,⟨_,rfl,rfl,rfl⟩,hq _ _ _ _ k ⟨h2⟩⟩) (fun _=>splitE (fun _=>aggW2 (agg5 ⟨rfl,⟨_,rfl,rfl,rfl⟩,hq _ _ _ _ wk ⟨h1⟩⟩)) (fun _=>splitE (fun _=>⟨_,rfl,_,rfl, ?_⟩) (fun _=>⟨_,rfl,_,rfl, ?_⟩)))
  ·rw[hm]
   exact ckI (by simp;omega) ⟨_,rfl,agg5 ⟨rfl,⟨_,rfl,rfl,rfl⟩,hq _ _ _ _ k ⟨h2⟩⟩⟩
  ·rw[hm]
   exact ckI (by simp;omega) ⟨_,rfl,agg5 ⟨rfl,⟨_,rfl,rfl,rfl⟩,hq _ _ _ _ k ⟨h2⟩⟩⟩
 ·exact hc.elim
theorem cellsS_len (l:List (List UInt8)):(cellsSM l).length=l.length:=by simp[cellsSM]
theorem cS_snoc (P:List (List UInt8)) (s:List UInt8):cellsSM P++[AV.str s]=cellsSM (P++[s]):=by
 rw[cellsSM,cellsSM,List.map_append];rfl
theorem cS_plain:∀l:List (List UInt8),∀x∈cellsSM l,plainB x=true:=fun l x h=>by
 simp only[cellsSM,List.mem_map] at h
 obtain ⟨s,_,rfl⟩:=h
 rfl
theorem getS1 {l:List (List UInt8)} {i n m:Nat} (hi:i<n) (hn:n≤l.length) (hm:m=i) {K:List UInt8→Prop} (hk:K (l[i]'(by omega))):∃s,(((cellsSM l).drop 0).take (n*1)).getD m AV.undef=AV.str s∧K s:=by
 subst hm
 refine ⟨_, ?_,hk⟩
 rw[List.drop_zero,Nat.mul_one,List.getD_eq_getElem?_getD,List.getElem?_take_of_lt hi,cellsSM,List.getElem?_map,List.getElem?_eq_getElem (by omega)]
 rfl
theorem seal_bd {e nx:Int} {key salt:List UInt8} {kind:Int} {body:List UInt8} {a b:Int} {k s x:List UInt8} {r:Int} (hb:body.length≤60) (h:sealXM e nx key salt kind body=(a,b,k,s,x,r)):x.length≤100:=by
 rw[sealXM] at h
 split at h
 ·rename_i he
  simp only[Prod.mk.injEq] at h
  obtain ⟨_,_,_,_,hx,_⟩:=h
  rw[errSM] at he
  split at he
  ·cases he
  ·rename_i hs
   obtain ⟨_,k2,k3,_⟩:=(snd_iff e nx key salt).1 (by simpa using hs)
   have hl:=sealed17_len (key:=key) (nonce:=nonceM salt e nx) (extra:=headM (kind,e,nx,[]) ((body.length:Int)+16)) (plain:=body) k2 (by rw[nonce_len];exact k3) (by rw[head_len];omega) (by omega)
   rw[←hx,boxM,List.length_append,head_len,hl]
   omega
 ·simp only[Prod.mk.injEq] at h
  obtain ⟨_,_,_,_,hx,_⟩:=h
  rw[←hx];simp
theorem boxes_run (e nx:Int) (key salt:List UInt8) (l:List (List UInt8)) (Q:Out→List Blk→Gh→Prop) (hq0:Q (.ret .nils) [] {})
  (hq1:∀ (out:List (List UInt8)) (H:List Blk),1≤out.length→out.length≤4→(∀s∈out,s.length≤100)→H[2]? = some ⟨.grow,true,cellsSM out⟩→Q (.ret (.sl 2 out.length 0 out.length 1)) H {}):∃hv hb,goal_o12 hv hb e nx key salt l Q:=by
 obtain ⟨hv',hb',e'⟩:∃hv hb,goal_o12 hv hb e nx key salt l Q=_:=⟨_,_,vc_o12 e nx key salt l Q⟩
 refine ⟨hv',hb',e'.mpr ?_⟩
 delta zOA16 zOA8 zOA11 zOA15 zOA3 zOA7 zOA12 zOA20 zOA27 zOA14
 clear e'
 obtain ⟨m,hm,hml,hm4⟩:∃m:Nat,imin (l.length:Int) 4=(m:Int)∧m≤l.length∧m≤4:=⟨min l.length 4,by unfold imin;split<;>omega,by omega,by omega⟩
 refine ⟨_,rfl,(m:Int),congrArg _ hm,ckI (by simp;omega) ?_⟩
 have em:(m:Int).toNat-0=m:=by omega
 rw[em]
 refine ⟨_,rfl,.inl ⟨(0,e,nx,key,salt),⟨by dsimp only;omega⟩,rfl,rfl,rfl,rfl,rfl,rfl,trivial⟩, ?_, ?_⟩
 ·rintro ⟨i,a,b,ky,sa⟩ ⟨g1⟩
  dsimp only at g1 ⊢
  refine splitD (fun h => ?_) (fun _=>hq0)
  have hi:i<m:=by omega
  refine ⟨_,rfl,ckI (by simp;omega) (ckI (by rw[List.length_take,List.drop_zero,cellsS_len];simp;omega) (getS1 hi hml (by simp) ⟨_,rfl,_,rfl, ?_⟩))⟩
  have he:imin ((l[i]'(by omega)).length:Int) 60=((min (l[i]'(by omega)).length 60:Nat):Int):=by unfold imin;split<;>omega
  rw[he]
  refine ckI (by simp;omega) ⟨_,rfl, ?_⟩
  rintro a9 b10 k11 s12 x13 r14 ⟨hs⟩
  have hx:=seal_bd (by simp;omega) hs
  refine splitE (fun _=>wrapI (by omega) (by omega) ⟨⟨trivial,rfl⟩,.inr ⟨(i+1,(a9,b10,k11,s12),[x13],_),⟨by dsimp only;omega,Nat.le_refl _,by show 1≤i+1;omega,fun t ht=>by rw[List.mem_singleton] at ht;subst ht;exact hx⟩,by dsimp only;omega,rfl,rfl,rfl,rfl,rfl,rfl,rfl,rfl,trivial⟩⟩) (fun _=>wrapI (by omega) (by omega) ⟨⟨trivial,rfl⟩,.inl ⟨(i+1,a,b,ky,sa),⟨by dsimp only;omega⟩,by dsimp only;omega,rfl,rfl,rfl,rfl,rfl,rfl,trivial⟩⟩)
 ·rintro ⟨i,⟨a,b,ky,sa⟩,P,dc⟩ ⟨g1,p1,p2,p3⟩
  dsimp only at g1 p1 p2 p3 ⊢
  refine splitD (fun h => ?_) (fun _=>hq1 P _ p1 (by omega) p3 rfl)
  have hi:i<m:=by omega
  have hcl:=cellsS_len P
  refine ⟨_,rfl,ckI (by simp;omega) (ckI (by rw[List.length_take,List.drop_zero,cellsS_len];simp;omega) (getS1 hi hml (by simp) ⟨_,rfl,_,rfl, ?_⟩))⟩
  have he:imin ((l[i]'(by omega)).length:Int) 60=((min (l[i]'(by omega)).length 60:Nat):Int):=by unfold imin;split<;>omega
  rw[he]
  refine ckI (by simp;omega) ⟨_,rfl, ?_⟩
  rintro a9 b10 k11 s12 x13 r14 ⟨hs⟩
  have hx:=seal_bd (by simp;omega) hs
  refine splitE (fun _=>ckI (by rw[hcl];simp;omega) (wrapI (by omega) (by omega) ⟨⟨trivial,rfl⟩,.inr ⟨(i+1,(a9,b10,k11,s12),P++[x13],dc),⟨by dsimp only;omega,by rw[List.length_append];omega,by rw[List.length_append,List.length_singleton];omega,fun t ht => ?_⟩,by dsimp only;omega,rfl,rfl,cS_snoc _ _,rfl, ?_,rfl,rfl,rfl,trivial⟩⟩)) (fun _=>wrapI (by omega) (by omega) ⟨⟨trivial,rfl⟩,.inr ⟨(i+1,(a,b,ky,sa),P,dc),⟨by dsimp only;omega,p1,by dsimp only;omega,p3⟩,by dsimp only;omega,rfl,rfl,rfl,rfl,rfl,rfl,rfl,rfl,trivial⟩⟩)
  ·rw[List.mem_append,List.mem_singleton] at ht
   rcases ht with ht | rfl
   ·exact p3 t ht
   ·exact hx
  ·rw[List.length_append,List.length_singleton]
def cBoxes:Con
 | [.agg [.int .i64 e,.int .i64 nx,.str key,.str salt],.lst 0 ss n 1],H,K=>∃l:List (List UInt8),Lf (ss=cellsSM l∧n=l.length)∧∀out:List (List UInt8),Lf (out.length≤4∧∀s∈out,s.length≤100)→K (.ret (.lst 0 (cellsSM out) out.length 1)) H
 | _,_,_=>False
theorem boxes_ok:ValidF Tryz.prog gl0 12 cBoxes:=valid_frz (enters_of (by kernel_rfl)) gl0_noY 9 (nlR [1]) (wk_nlR _) fun args H Q hc=>by
 unfold cBoxes at hc
 split at hc
 ·rename_i e nx key salt ss n
  obtain ⟨l,⟨rfl,rfl⟩,hq⟩:=hc
  obtain ⟨hv,hb',h⟩:=boxes_run e nx key salt l (Q:=fun o H' _=>∃v,o=.ret v∧Q (.ret (nlR [1] (frzV 0 H' 9 v))) H) ⟨_,rfl,hq [] ⟨by simp,by simp⟩⟩
   (fun out H' k1 k2 k3 k4=>⟨_,rfl,by
    rw[frz_sl (cs:=cellsSM out) k4 (cellsS_len out) (by omega) (by simp) (by rw[List.drop_zero];exact List.take_of_length_le (by rw[cellsS_len];omega)) (cS_plain out)]
    exact hq out ⟨k2,k3⟩⟩)
  exact ⟨rfl,rfl,_,1000,envFor_o12 _ _,rfl,h⟩
 ·exact hc.elim
theorem valid_belowH {P:Program} {gl:Nat→Option (List AV)} {f:FuncId} {c:List AV→List Blk→(Out→List Blk→Prop)→Prop} (he:Enters P f)
  (h:∀args H Q,c args H Q→∀ (m:M) (w:World) (vs:Array Value),VRL m args vs.toList→HR gl m H w→∃a v,Q (.ret a) H∧VR m a v∧Calls P f vs w fun e w'=>e=.returned v∧Below w.heap.size w w'):ValidF P gl f c:=by
 refine ⟨he,fun args H Q hc m w vs hv hH => ?_⟩
 obtain ⟨a,v,hq,ha,hr⟩:=h args H Q hc m w vs hv hH
 refine hr.mono ?_
 rintro e w' ⟨rfl,bel⟩
 exact ⟨.ret a,H,m,hq,ha,hH.same (Ext.refl m) rfl rfl fun j hj=>bel.block j hj,
  ⟨Ext.refl m,bel.os,bel.tape,bel.output,bel.size,fun k hk _=>bel.block k hk,fun _ h=>.inr h,fun _ _ h=>h,fun _ _ _ h=>.inl h⟩,Nat.le_refl _,fun _ _ h=>h⟩
theorem VRL_two {m:M} {a b:AV} {vs:Array Value} (hv:VRL m [a,b] vs.toList):∃v w,vs = #[v,w]∧VR m a v∧VR m b w:=by
 obtain ⟨v1,l1,e1,h1,r1⟩:=VRL_consL hv
 obtain ⟨v2,l2,e2,h2,r2⟩:=VRL_consL r1
 rw[VRL_nil] at r2
 subst r2
 subst e2
 exact ⟨v1,v2,by apply Array.ext';simpa using e1,h1,h2⟩
def cJoinB:Con
 | [.lst _ ss n 1,.str sep],H,K=>∃l:List (List UInt8),Lf (ss=cellsSM l∧n=l.length∧sep=[]∧l.length≤4∧∀s∈l,s.length≤100)∧∀x:List UInt8,Lf (x.length≤400)→K (.ret (.str x)) H
 | _,_,_=>False
theorem strs_vals {m:M}:∀ (l:List (List UInt8)) (vs:List Value),VRL m (cellsSM l) vs→vs=l.map fun s=>Value.string ⟨s.toArray⟩
 | [],vs,h=>by simpa [cellsSM] using h
 | s::l,vs,h=>by
  obtain ⟨v,vs',e,h1,h2⟩:=VRL_consL h
  rw[e,strs_vals l vs' h2]
  simp only[VR] at h1
  rw[h1]
  rfl
theorem flat_len {B:Nat}:∀l:List (List UInt8),(∀s∈l,s.length≤B)→l.flatten.length≤l.length*B
 | [],_=>by simp
 | s::l,h=>by
  have h1:=flat_len l fun x hx=>h x (by simp[hx])
  have h2:=h s (by simp)
  simp only[List.flatten_cons,List.length_append,List.length_cons,Nat.succ_mul]
  omega
theorem inter_nil:∀l:List (List UInt8),[].intercalate l=l.flatten
 | []=>rfl
 | [x]=>by simp[List.intercalate]
 | x::y::l=>by
  have:=inter_nil (y::l)
  simp only[List.intercalate,List.intersperse_cons_cons,List.flatten_cons] at this ⊢
  rw[this]
  simp
theorem join_len {l:List (List UInt8)} (h1:l.length≤4) (h2:∀s∈l,s.length≤100):(Lib.join l []).length≤400:=by
 rw[Lib.join,inter_nil]
 have:=flat_len l h2
 omega
theorem joinB_ok:ValidF Tryz.prog gl0 13 cJoinB:=by
 refine valid_belowH (enters_of (by kernel_rfl)) fun args H Q hc m w vs hv hH => ?_
 unfold cJoinB at hc
 split at hc
 ·rename_i tg ss n sep
  obtain ⟨l,⟨rfl,rfl,rfl,h1,h2⟩,hq⟩:=hc
  obtain ⟨v,u,rfl,g1,g2⟩:=VRL_two hv
  simp only[VR] at g1 g2
  subst g2
  obtain ⟨_,k2,oa,cap,rfl,k3,k4⟩:=g1
  have hjl:=join_len h1 h2
  have ex:(l.map fun s=>(⟨s.toArray⟩:ByteArray)).map (·.data.toList)=l:=by
   rw[List.map_map]
   exact (List.map_congr_left fun _ _=>rfl).trans (List.map_id l)
  rcases k4 with ⟨a,cs,rfl,k5,k6,k7,k8⟩ | ⟨k5,k6,_⟩
  ·obtain ⟨cu,e,fr,f1,f2⟩:=hH.frz _ _ _ k6
   have hvals:=strs_vals l _ k8
   obtain ⟨ab,ao,asp⟩:=a
   simp only at k5 k6 k7 k8 f1 hvals
   subst k5
   have hj:=Tryz.strings_Join ab ao cap (l.map fun s=>(⟨s.toArray⟩:ByteArray)) ⟨#[]⟩ w (fun j x hx => ?_) (Array.getElem?_eq_some_iff.1 f1).1 (by simp;omega) (by simpa using k3) (by rw[ex];simpa using (by omega:(Lib.join l []).length≤140737488355328))
   ·rw[ex,List.length_map] at hj
    exact ⟨.str (Lib.join l []),_,hq _ ⟨hjl⟩,by simp only[VR],hj⟩
   ·have e1:(l.map fun s=>Value.string ⟨s.toArray⟩)[j]? = some (.string x):=by
     rw[List.getElem?_map] at hx ⊢
     cases hy:l[j]? with
     | none=>rw[hy] at hx;simp at hx
     | some y=>rw[hy] at hx;simp only[Option.map_some,Option.some.injEq] at hx ⊢;rw[hx]
    rw[←hvals] at e1
    have hjl:j<(cellsSM l).length:=by
     rcases Nat.lt_or_ge j (cellsSM l).length with g | g
     ·exact g
     ·rw[List.getElem?_eq_none (by rw[List.length_take];omega)] at e1;simp at e1
    rw[List.getElem?_take_of_lt hjl,List.getElem?_drop] at e1
    have hcl:ao+j<cs.length:=by omega
    rw[←f2,List.getElem?_take_of_lt hcl] at e1
    simp only[World.cell?,f1,Option.isSome_none,Bool.false_eq_true,if_false]
    rw[←Array.getElem?_toList]
    exact e1
  ·have hl:l.length=0:=k5
   obtain rfl:=List.length_eq_zero_iff.1 hl
   exact ⟨.str [],.string ⟨#[]⟩,hq _ ⟨by simp⟩,by simp[VR],(Tryz.strings_Join_none oa cap ⟨#[]⟩ w).mono fun e w' h=>⟨h.1,h.2▸Below.refl _ _⟩⟩
 ·exact hc.elim
def smOl:SM:=lookS [(5,cTrue),(6,cDraftS),(12,cBoxes),(13,cJoinB),(14,cDraftR),(16,cBendR),(17,cRcvR),(18,cChkR),(19,cEdit17),(20,cOpenX),(21,cOpenX),(22,cSame)]
theorem smOl_ok:∀f g,smOl f=some g→ValidF Tryz.prog gl0 f g:=lookS_ok _ (by simp only[List.mem_cons,List.not_mem_nil,or_false,forall_eq_or_imp,forall_eq];exact ⟨wakes_ok,draftS_ok,boxes_ok,joinB_ok,draftR_ok,bendR_ok,rcvR_ok,chkR_ok,edit17_ok,openX_ok,ropenX_ok,same_ok⟩)
def inv_oj (s:S):List (List LInv):=match s.tm.get 14 with
 | .ptr id _ _=>match s.hp.getD id ⟨.ro,false,[]⟩ with
  | ⟨_,_,[.int _ e,.str key,.str salt,.int _ t,.int _ u]⟩=>[[{ α:=Int,pre:=fun x=>Lf (∃k:Nat,u=(k:Int)∧k<18446744073709551616∧x=chkM (rcvOkM e key salt t k)),st:=fun x=>⟨T.put 12 s.tm 15 (.int .i64 x),s.hp⟩,mu:=fun _=>0 }]]
  | _=>[]
 | _=>[]
noncomputable def env_o4 (hv:Nat→Option Pa) (hb:Nat→Option Bool):Env:=e04 smOl (fun i=>bif Nat.beq i 1000016431 then some inv_oj else none) hv hb
noncomputable def goal_o4 (hv:Nat→Option Pa) (hb:Nat→Option Bool) (ep st kk sk:Int) (sn:List UInt8) (wh n:Int) (bs:List UInt8) (wt:Int) (wk:Nat) (l:List (List UInt8)) (x y:Int) (tx text:List UInt8) (Q:Out→List Blk→Gh→Prop):Prop:=
 callx (env_o4 hv hb) (wpx (env_o4 hv hb) 1000) 4 [.agg [.int .u16 ep,.int .u16 st,.int .u8 kk,.int .u8 sk,.lst 0 (ofBytes sn) sn.length 1],.agg [.int .u8 wh,.int .i64 n,.str bs,.int .i64 wt,.int .u64 (wk:Nat)],.lst 0 (cellsSM l) l.length 1,.agg [.int .u16 x,.int .u16 y,.str tx],.str text] [] {} Q
abbrev zOC11 (ep:Int):Prop:=0≤ep∧ep≤65535
abbrev zOC5 (wk:Nat):AV:=.int .u64 (wk:Int)
abbrev zOC23 (sn s_13:List UInt8) (ep st:Int):Prop:=Lf ((ofBytes sn=ofBytes s_13∧sn.length=s_13.length)∧zOC11 ep∧zOC11 st∧s_13.length≤9223372036854775807)
abbrev zOC4 (k_18:Nat):Prop:=k_18<18446744073709551616
abbrev zOC7 (ep st kk sk:Int) (sn:List UInt8):Bool:=eqAVL [.int .u16 ep,.int .u16 st,.int .u8 kk,.int .u8 sk,.lst 0 (ofBytes sn) sn.length 1] [.int .u16 ep,.int .u16 st,.int .u8 kk,.int .u8 sk,.lst 0 (ofBytes sn) sn.length 1]&&true
abbrev zOC10 (wh n:Int) (bs:List UInt8) (wt:Int) (wk:Nat):Bool:=eqAVL [.int .u8 wh,.int .i64 n,.str bs,.int .i64 wt,zOC5 wk] [.int .u8 wh,.int .i64 n,.str bs,.int .i64 wt,zOC5 wk]&&true
abbrev zOC1 (e_14:Int) (key_15 salt_16:List UInt8) (t_17:Int) (k_18:Nat):AV:=.agg [.int .i64 e_14,.str key_15,.str salt_16,.int .i64 t_17,.int .u64 (k_18:Int)]
abbrev zOC14:Prop:=True∧(0:Nat)=(0:Nat)
abbrev zOC9 (ep st kk sk:Int) (sn:List UInt8):Prop:=eqqQ [AV.int .u16 ep,.int .u16 st,.int .u8 kk,.int .u8 sk,.lst 0 (ofBytes sn) sn.length 1]
abbrev zOC12 (wh n:Int) (bs:List UInt8) (wt:Int) (wk:Nat):Prop:=eqqQ [AV.int .u8 wh,.int .i64 n,.str bs,.int .i64 wt,zOC5 wk]
abbrev zOC16 (x y:Int) (tx:List UInt8):Prop:=eqqQ [AV.int .u16 x,.int .u16 y,.str tx]
abbrev zOC19:Prop:=eqqQ (AV.bool true)
abbrev zOC22 (text:List UInt8):Prop:=eqqQ (AV.str text)
abbrev zOC20:Prop:=eqqQ (AV.ptr 2 3 0)
abbrev zOC15:Prop:=eqqQ (AV.ptr 3 5 0)∧True
abbrev zOC3 (Q:Out→List Blk→Gh→Prop):Prop:=Q (.ret (.bool false)) [] {}
abbrev zOC17 (x_7:List UInt8):Bool:=decide (x_7.length+x_7.length≤9223372036854775807)&&true
abbrev zOC24 (n_56:Int) (text:List UInt8):Bool:=decide (0≤n_56)&&true&&Nat.ble n_56.toNat text.length
abbrev zOC2 (k_59:Nat) (x_7:List UInt8):Prop:=k_59<18446744073709551616∧x_7.length≤100000
abbrev zOC8 (out_65:List Rc):Prop:=out_65.length≤1000000
abbrev zOC0 (out_65 l_85 out_78 k_86:List Rc):Prop:=Lf ((cellsRM out_65=cellsRM l_85∧out_65.length=l_85.length)∧(cellsRM out_78=cellsRM k_86∧out_78.length=k_86.length)∧zOC8 l_85)
abbrev zOC21 (b_87:Bool) (l_85 k_86:List Rc):Prop:=Lf (b_87=sameRM l_85 k_86)
abbrev zOC18 (x_177 e_25:Int) (key_26 salt_27:List UInt8):Prop:=Lf (∃k_178:Nat,0=(k_178:Int)∧zOC4 k_178∧x_177=chkM (rcvOkM e_25 key_26 salt_27 (-1) k_178))
abbrev zOC13 (k_183:Nat) (x_7:List UInt8):Prop:=Lf (0=(k_183:Int)∧zOC2 k_183 x_7)
abbrev zOC6 (e_25:Int) (key_26 salt_27:List UInt8) (k_183:Nat) (x_7:List UInt8) (a_184:Int) (ky_185 sa_186:List UInt8) (b_187:Int) (c_188:Nat) (out_189:List Rc) (f_190:Int):Prop:=Lf (openXM e_25 key_26 salt_27 (-1) k_183 x_7=Prod.mk (Prod.mk a_184 (Prod.mk ky_185 (Prod.mk sa_186 (Prod.mk b_187 c_188)))) (Prod.mk out_189 f_190)∧out_189.length≤1000000)
theorem vc_o4 (ep:Int) (st:Int) (kk:Int) (sk:Int) (sn:List UInt8) (wh:Int) (n:Int) (bs:List UInt8) (wt:Int) (wk:Nat) (l:List (List UInt8)) (x:Int) (y:Int) (tx:List UInt8) (text:List UInt8) (Q:Out→List Blk →
 Gh→Prop):goal_o4 (lookV [(16421,.agg [(.int .u8),(.int .i64),(.str),(.int .i64),(.int .u64)]),(16417,.agg [(.int .i64),(.str),(.str),(.int .i64),(.int .u64)]),(16423,.agg [(.int .i64),(.str),(.str),(.int .i64),(.int
 .u64)]),(16424,.agg [(.int .i64),(.str),(.str),(.int .i64),(.int .u64)]),(16438,.str),(16444,.int .i64),(16445,.int .i64),(16446,.str),(16455,.agg [(.int .i64),(.str),(.str),(.int .i64),(.int .u64)]),(16462,.agg
 [(.int .i64),(.str),(.str),(.int .i64),(.int .u64)])]) (lookB [(65534,true)]) ep st kk sk sn wh n bs wt wk l x y tx text Q=(∃s_0:List UInt8,Lf (ofBytes sn=ofBytes s_0∧zOC11 ep∧zOC11 st)∧∀e_1:Int,∀key_2 salt_3:List
 UInt8,Lf (e_1=ep%4∧key_2.length=32∧salt_3.length=12)→∃l_4:List (List UInt8),Lf (cellsSM l=cellsSM l_4∧l.length=l_4.length)∧∀out_5:List (List UInt8),Lf (out_5.length≤4∧∀s_6:List UInt8,Membership.mem
 out_5 s_6→s_6.length≤100)→∃l_6:List (List UInt8),Lf (cellsSM out_5=cellsSM l_6∧out_5.length=l_6.length∧([]:List UInt8)=[]∧l_6.length≤4∧∀s_7:List UInt8,Membership.mem l_6 s_7→s_7.length≤100)∧∀x_7 :
 List UInt8,Lf (x_7.length≤400)→∃n_8 n_9 s_10 n_11 n_12,AV.agg [.int .u8 wh,.int .i64 n,.str bs,.int .i64 wt,zOC5 wk]=AV.agg [.int .u8 n_8,.int .i64 n_9,.str s_10,.int .i64 n_11,.int .u64 n_12]∧∃s_13:List UInt8,zOC23
 sn s_13 ep st∧∀e_14:Int,∀key_15 salt_16:List UInt8,∀t_17:Int,∀k_18:Nat,Lf (zOC4 k_18)→ckQ (zOC7 ep st kk sk sn) (ckQ (zOC10 wh n bs wt wk) (ckQ (zOC7 ep st kk sk sn) (∃n_19 s_20 s_21 n_22 n_23,zOC1 e_14 key_15 salt_16
 t_17 k_18=AV.agg [.int .i64 n_19,.str s_20,.str s_21,.int .i64 n_22,.int .u64 n_23]∧∃s_24:List UInt8,Lf (ofBytes sn=ofBytes s_24∧zOC11 ep∧zOC11 st)∧∀e_25:Int,∀key_26 salt_27:List UInt8,Lf (e_25=ep%4 ∧
 key_26.length=32∧salt_27.length=12)→ckQ (zOC7 ep st kk sk sn) (ckQ (zOC10 wh n bs wt wk) (true=true∧ckQ (zOC7 ep st kk sk sn) (ckQ (zOC10 wh n bs wt wk) (∃s_28:List UInt8,zOC23 sn s_28 ep st∧∀e_29:Int,∀key_30 salt_31
 : List UInt8,∀t_32:Int,∀k_33:Nat,Lf (zOC4 k_33)→ckQ (zOC10 wh n bs wt wk) (∃n_34 s_35 s_36 n_37 n_38,zOC1 e_29 key_30 salt_31 t_32 k_33=AV.agg [.int .i64 n_34,.str s_35,.str s_36,.int .i64 n_37,.int .u64 n_38]∧∃wk_39
 k_40:Nat,Lf (n_12=(wk_39:Int)∧n_38=(k_40:Int)∧zOC4 wk_39∧zOC4 k_40∧0≤n_8∧n_8≤255)∧∀e_41:Int,∀key_42 salt_43:List UInt8,∀t_44:Int,∀k_45:Nat,Lf (zOC4 k_45)→∃n_46 s_47 s_48 n_49 n_50,zOC1 e_41
 key_42 salt_43 t_44 k_45=AV.agg [.int .i64 n_46,.str s_47,.str s_48,.int .i64 n_49,.int .u64 n_50]∧(∃k_51:Nat,Lf (n_23=(k_51:Int)∧zOC4 k_51)∧∀b_52:Bool,Lf (b_52=rcvOkM n_19 s_20 s_21 n_22 k_51)→bif b_52 then
 zOC14∧∃x_53:Int,Lf (∃k_54:Nat,n_23=(k_54:Int)∧zOC4 k_54∧x_53=chkM (rcvOkM n_19 s_20 s_21 n_22 k_54))∧zOC9 ep st kk sk sn∧zOC12 wh n bs wt wk∧zOC16 x y tx∧eqqQ [AV.int .i64 n_19,.str s_20,.str s_21,.int .i64
 n_22,.int .u64 n_23]∧AV.int .i64 0=AV.int .i64 x_53∧zOC19∧eqqQ (AV.agg [.int .i64 n_19,.str s_20,.str s_21,.int .i64 n_22,.int .u64 n_23,.int .i64 e_25,.str key_26,.str salt_27,.int .i64 (-1),.int .u64 0,.int .i64 n_46,
 .str s_47,.str s_48,.int .i64 n_49,.int .u64 n_50])∧zOC22 text∧zOC20∧zOC22 x_7∧eqqQ (AV.agg [.int .i64 n_19,.str s_20,.str s_21,.int .i64 n_22,.int .u64 n_23])∧eqqQ (AV.int .i64 0)∧zOC15 else zOC14∧∃x_53:Int,Lf (∃
 k_54:Nat,n_23=(k_54:Int)∧zOC4 k_54∧x_53=chkM (rcvOkM n_19 s_20 s_21 n_22 k_54))∧zOC9 ep st kk sk sn∧zOC12 wh n bs wt wk∧zOC16 x y tx∧eqqQ [AV.int .i64 n_19,.str s_20,.str s_21,.int .i64 n_22,.int .u64 n_23] ∧
 AV.int .i64 170=AV.int .i64 x_53∧zOC19∧eqqQ (AV.agg [.int .i64 n_19,.str s_20,.str s_21,.int .i64 n_22,.int .u64 n_23,.int .i64 e_25,.str key_26,.str salt_27,.int .i64 (-1),.int .u64 0,.int .i64 n_46,.str s_47,.str s_48,
 .int .i64 n_49,.int .u64 n_50])∧zOC22 text∧zOC20∧zOC22 x_7∧eqqQ (AV.agg [.int .i64 n_19,.str s_20,.str s_21,.int .i64 n_22,.int .u64 n_23])∧eqqQ (AV.int .i64 0)∧zOC15)∧∀x_51:Int,Lf (∃k_52:Nat,n_23=(k_52:Int)
 ∧ zOC4 k_52∧x_51=chkM (rcvOkM n_19 s_20 s_21 n_22 k_52))→∃k_52:Nat,Lf (n_23=(k_52:Int)∧zOC4 k_52)∧∀x_53:Int,Lf (x_53=chkM (rcvOkM n_19 s_20 s_21 n_22 k_52))→bif x_53 !=x_51 then zOC3 Q else ckQ (zOC17 x_7) (exS
 (.str (x_7++x_7)) (fun s_54=>exI .i64 (text.length:Int) (fun n_55=>exI .i64 (imin n_55 100) (fun n_56=>ckQ (zOC24 n_56 text) (exS (.str ((text.drop 0).take (n_56.toNat-0))) (fun s_57=>Lf (zOC11 x∧zOC11 y∧x_7.length ≤
 100000)∧∀r_58:List UInt8,Lf (r_58.length≤x_7.length+40)→∃k_59:Nat,Lf (n_23=(k_59:Int)∧zOC2 k_59 x_7)∧∀a_60:Int,∀ky_61 sa_62:List UInt8,∀b_63:Int,∀c_64:Nat,∀out_65:List Rc,∀f_66:Int,Lf (openXM
 n_19 s_20 s_21 n_22 k_59 x_7=Prod.mk (Prod.mk a_60 (Prod.mk ky_61 (Prod.mk sa_62 (Prod.mk b_63 c_64)))) (Prod.mk out_65 f_66)∧zOC8 out_65)→∃n_67 s_68 s_69 n_70 n_71,zOC1 a_60 ky_61 sa_62 b_63 c_64=AV.agg [.int .i64 n_67,.str
 s_68,.str s_69,.int .i64 n_70,.int .u64 n_71]∧∃k_72:Nat,Lf (n_23=(k_72:Int)∧zOC2 k_72 x_7)∧∀a_73:Int,∀ky_74 sa_75:List UInt8,∀b_76:Int,∀c_77:Nat,∀out_78:List Rc,∀f_79:Int,Lf (openXM n_19 s_20 s_21
 n_22 k_72 x_7=Prod.mk (Prod.mk a_73 (Prod.mk ky_74 (Prod.mk sa_75 (Prod.mk b_76 c_77)))) (Prod.mk out_78 f_79)∧zOC8 out_78)→∃n_80 s_81 s_82 n_83 n_84,zOC1 a_73 ky_74 sa_75 b_76 c_77=AV.agg [.int .i64 n_80,.str s_81,.str s_82,
 .int .i64 n_83,.int .u64 n_84]∧bif !(n_67==n_80&&(eqB s_68 s_81&&(eqB s_69 s_82&&(n_70==n_83&&(n_71==n_84&&true)&&true)))) then zOC3 Q else bif f_66 !=f_79 then zOC3 Q else ∃l_85 k_86:List Rc,zOC0 out_65 l_85
 out_78 k_86∧∀b_87:Bool,zOC21 b_87 l_85 k_86→bif b_87 then ∃k_88:Nat,Lf (n_23=(k_88:Int)∧zOC2 k_88 s_54)∧∀a_89:Int,∀ky_90 sa_91:List UInt8,∀b_92:Int,∀c_93:Nat,∀out_94:List Rc,∀f_95:Int,Lf (openXM
 n_19 s_20 s_21 n_22 k_88 s_54=Prod.mk (Prod.mk a_89 (Prod.mk ky_90 (Prod.mk sa_91 (Prod.mk b_92 c_93)))) (Prod.mk out_94 f_95)∧zOC8 out_94)→∃n_96 s_97 s_98 n_99 n_100,zOC1 a_89 ky_90 sa_91 b_92 c_93=AV.agg [.int .i64 n_96,.str
 s_97,.str s_98,.int .i64 n_99,.int .u64 n_100]∧∃k_101:Nat,Lf (n_23=(k_101:Int)∧zOC2 k_101 s_54)∧∀a_102:Int,∀ky_103 sa_104:List UInt8,∀b_105:Int,∀c_106:Nat,∀out_107:List Rc,∀f_108:Int,Lf (openXM n_19
 s_20 s_21 n_22 k_101 s_54=Prod.mk (Prod.mk a_102 (Prod.mk ky_103 (Prod.mk sa_104 (Prod.mk b_105 c_106)))) (Prod.mk out_107 f_108)∧zOC8 out_107)→∃n_109 s_110 s_111 n_112 n_113,zOC1 a_102 ky_103 sa_104 b_105 c_106=AV.agg [.int .i64
 n_109,.str s_110,.str s_111,.int .i64 n_112,.int .u64 n_113]∧bif !(n_96==n_109&&(eqB s_97 s_110&&(eqB s_98 s_111&&(n_99==n_112&&(n_100==n_113&&true)&&true)))) then zOC3 Q else bif f_95 !=f_108 then zOC3 Q else ∃
 l_114 k_115:List Rc,zOC0 out_94 l_114 out_107 k_115∧∀b_116:Bool,zOC21 b_116 l_114 k_115→bif b_116 then ∃k_117:Nat,Lf (n_23=(k_117:Int)∧zOC2 k_117 r_58)∧∀a_118:Int,∀ky_119 sa_120:List UInt8,∀b_121:Int,∀
 c_122:Nat,∀out_123:List Rc,∀f_124:Int,Lf (openXM n_19 s_20 s_21 n_22 k_117 r_58=Prod.mk (Prod.mk a_118 (Prod.mk ky_119 (Prod.mk sa_120 (Prod.mk b_121 c_122)))) (Prod.mk out_123 f_124)∧zOC8 out_123)→∃n_125 s_126 s_127
 n_128 n_129,zOC1 a_118 ky_119 sa_120 b_121 c_122=AV.agg [.int .i64 n_125,.str s_126,.str s_127,.int .i64 n_128,.int .u64 n_129]∧∃k_130:Nat,Lf (n_23=(k_130:Int)∧zOC2 k_130 r_58)∧∀a_131:Int,∀ky_132 sa_133:List
 UInt8,∀b_134:Int,∀c_135:Nat,∀out_136:List Rc,∀f_137:Int,Lf (openXM n_19 s_20 s_21 n_22 k_130 r_58=Prod.mk (Prod.mk a_131 (Prod.mk ky_132 (Prod.mk sa_133 (Prod.mk b_134 c_135)))) (Prod.mk out_136 f_137)∧zOC8 out_136) →
 ∃n_138 s_139 s_140 n_141 n_142,zOC1 a_131 ky_132 sa_133 b_134 c_135=AV.agg [.int .i64 n_138,.str s_139,.str s_140,.int .i64 n_141,.int .u64 n_142]∧bif !(n_125==n_138&&(eqB s_126 s_139&&(eqB s_127 s_140&&(n_128==n_141 &&
 (n_129==n_142&&true)&&true)))) then zOC3 Q else bif f_124 !=f_137 then zOC3 Q else ∃l_143 k_144:List Rc,zOC0 out_123 l_143 out_136 k_144∧∀b_145:Bool,zOC21 b_145 l_143 k_144→bif b_145 then ∃k_146:Nat,Lf (n_23=(k_146
 : Int)∧zOC2 k_146 s_57)∧∀a_147:Int,∀ky_148 sa_149:List UInt8,∀b_150:Int,∀c_151:Nat,∀out_152:List Rc,∀f_153:Int,Lf (openXM n_19 s_20 s_21 n_22 k_146 s_57=Prod.mk (Prod.mk a_147 (Prod.mk ky_148 (Prod.mk sa_149
 (Prod.mk b_150 c_151)))) (Prod.mk out_152 f_153)∧zOC8 out_152)→∃n_154 s_155 s_156 n_157 n_158,zOC1 a_147 ky_148 sa_149 b_150 c_151=AV.agg [.int .i64 n_154,.str s_155,.str s_156,.int .i64 n_157,.int .u64 n_158]∧∃k_159:Nat,
 Lf (n_23=(k_159:Int)∧zOC2 k_159 s_57)∧∀a_160:Int,∀ky_161 sa_162:List UInt8,∀b_163:Int,∀c_164:Nat,∀out_165:List Rc,∀f_166:Int,Lf (openXM n_19 s_20 s_21 n_22 k_159 s_57=Prod.mk (Prod.mk a_160 (Prod.mk ky_161
 (Prod.mk sa_162 (Prod.mk b_163 c_164)))) (Prod.mk out_165 f_166)∧zOC8 out_165)→∃n_167 s_168 s_169 n_170 n_171,zOC1 a_160 ky_161 sa_162 b_163 c_164=AV.agg [.int .i64 n_167,.str s_168,.str s_169,.int .i64 n_170,.int .u64 n_171] ∧
 bif !(n_154==n_167&&(eqB s_155 s_168&&(eqB s_156 s_169&&(n_157==n_170&&(n_158==n_171&&true)&&true)))) then zOC3 Q else bif f_153 !=f_166 then zOC3 Q else ∃l_172 k_173:List Rc,zOC0 out_152 l_172 out_165 k_173∧∀
 b_174:Bool,zOC21 b_174 l_172 k_173→bif b_174 then (∃k_175:Nat,Lf (0=(k_175:Int)∧zOC4 k_175)∧∀b_176:Bool,Lf (b_176=rcvOkM e_25 key_26 salt_27 (-1) k_175)→bif b_176 then zOC14∧∃x_177:Int,zOC18 x_177 e_25 key_26
 salt_27∧zOC9 ep st kk sk sn∧zOC12 wh n bs wt wk∧zOC16 x y tx∧eqqQ [AV.int .i64 e_25,.str key_26,.str salt_27,.int .i64 (-1),.int .u64 0]∧AV.int .i64 0=AV.int .i64 x_177∧zOC19∧eqqQ (AV.agg [.int .i64 n_19,.str s_20,
 .str s_21,.int .i64 n_22,.int .u64 n_23,.int .i64 e_25,.str key_26,.str salt_27,.int .i64 (-1),.int .u64 0,.int .i64 n_46,.str s_47,.str s_48,.int .i64 n_49,.int .u64 n_50])∧zOC22 text∧zOC20∧zOC22 x_7∧eqqQ (AV.agg [.int
 .i64 e_25,.str key_26,.str salt_27,.int .i64 (-1),.int .u64 0])∧eqqQ (AV.int .i64 1)∧zOC15 else zOC14∧∃x_177:Int,zOC18 x_177 e_25 key_26 salt_27∧zOC9 ep st kk sk sn∧zOC12 wh n bs wt wk∧zOC16 x y tx∧eqqQ [AV.int .i64
 e_25,.str key_26,.str salt_27,.int .i64 (-1),.int .u64 0]∧AV.int .i64 170=AV.int .i64 x_177∧zOC19∧eqqQ (AV.agg [.int .i64 n_19,.str s_20,.str s_21,.int .i64 n_22,.int .u64 n_23,.int .i64 e_25,.str key_26,.str salt_27,
 .int .i64 (-1),.int .u64 0,.int .i64 n_46,.str s_47,.str s_48,.int .i64 n_49,.int .u64 n_50])∧zOC22 text∧zOC20∧zOC22 x_7∧eqqQ (AV.agg [.int .i64 e_25,.str key_26,.str salt_27,.int .i64 (-1),.int .u64 0])∧eqqQ (AV.int
 .i64 1)∧zOC15)∧∀x_175:Int,zOC18 x_175 e_25 key_26 salt_27→∃k_176:Nat,Lf (0=(k_176:Int)∧zOC4 k_176)∧∀x_177:Int,Lf (x_177=chkM (rcvOkM e_25 key_26 salt_27 (-1) k_176))→bif x_177 !=x_175 then zOC3 Q else ckQ
 (zOC17 x_7) (exS (.str (x_7++x_7)) (fun s_178=>exI .i64 (text.length:Int) (fun n_179=>exI .i64 (imin n_179 100) (fun n_180=>ckQ (zOC24 n_180 text) (exS (.str ((text.drop 0).take (n_180.toNat-0))) (fun s_181=>Lf (zOC11 x ∧
 zOC11 y∧x_7.length≤100000)∧∀r_182:List UInt8,Lf (r_182.length≤x_7.length+40)→∃k_183:Nat,zOC13 k_183 x_7∧∀a_184:Int,∀ky_185 sa_186:List UInt8,∀b_187:Int,∀c_188:Nat,∀out_189:List Rc,∀f_190:Int,
 zOC6 e_25 key_26 salt_27 k_183 x_7 a_184 ky_185 sa_186 b_187 c_188 out_189 f_190→∃n_191 s_192 s_193 n_194 n_195,zOC1 a_184 ky_185 sa_186 b_187 c_188=AV.agg [.int .i64 n_191,.str s_192,.str s_193,.int .i64 n_194,.int .u64 n_195] ∧
 ∃k_196:Nat,zOC13 k_196 x_7∧∀a_197:Int,∀ky_198 sa_199:List UInt8,∀b_200:Int,∀c_201:Nat,∀out_202:List Rc,∀f_203:Int,zOC6 e_25 key_26 salt_27 k_196 x_7 a_197 ky_198 sa_199 b_200 c_201 out_202 f_203→∃n_204
 s_205 s_206 n_207 n_208,zOC1 a_197 ky_198 sa_199 b_200 c_201=AV.agg [.int .i64 n_204,.str s_205,.str s_206,.int .i64 n_207,.int .u64 n_208]∧bif !(n_191==n_204&&(eqB s_192 s_205&&(eqB s_193 s_206&&(n_194==n_207&&(n_195
 == n_208&&true)&&true)))) then zOC3 Q else bif f_190 !=f_203 then zOC3 Q else ∃l_209 k_210:List Rc,zOC0 out_189 l_209 out_202 k_210∧∀b_211:Bool,zOC21 b_211 l_209 k_210→bif b_211 then ∃k_212:Nat,zOC13 k_212 s_178∧∀
 a_213:Int,∀ky_214 sa_215:List UInt8,∀b_216:Int,∀c_217:Nat,∀out_218:List Rc,∀f_219:Int,zOC6 e_25 key_26 salt_27 k_212 s_178 a_213 ky_214 sa_215 b_216 c_217 out_218 f_219→∃n_220 s_221 s_222 n_223 n_224,zOC1 a_213
 ky_214 sa_215 b_216 c_217=AV.agg [.int .i64 n_220,.str s_221,.str s_222,.int .i64 n_223,.int .u64 n_224]∧∃k_225:Nat,zOC13 k_225 s_178∧∀a_226:Int,∀ky_227 sa_228:List UInt8,∀b_229:Int,∀c_230:Nat,∀out_231:List
 Rc,∀f_232:Int,zOC6 e_25 key_26 salt_27 k_225 s_178 a_226 ky_227 sa_228 b_229 c_230 out_231 f_232→∃n_233 s_234 s_235 n_236 n_237,zOC1 a_226 ky_227 sa_228 b_229 c_230=AV.agg [.int .i64 n_233,.str s_234,.str s_235,.int .i64
 n_236,.int .u64 n_237]∧bif !(n_220==n_233&&(eqB s_221 s_234&&(eqB s_222 s_235&&(n_223==n_236&&(n_224==n_237&&true)&&true)))) then zOC3 Q else bif f_219 !=f_232 then zOC3 Q else ∃l_238 k_239:List Rc,zOC0 out_218
 l_238 out_231 k_239∧∀b_240:Bool,zOC21 b_240 l_238 k_239→bif b_240 then ∃k_241:Nat,zOC13 k_241 r_182∧∀a_242:Int,∀ky_243 sa_244:List UInt8,∀b_245:Int,∀c_246:Nat,∀out_247:List Rc,∀f_248:Int,zOC6 e_25
 key_26 salt_27 k_241 r_182 a_242 ky_243 sa_244 b_245 c_246 out_247 f_248→∃n_249 s_250 s_251 n_252 n_253,zOC1 a_242 ky_243 sa_244 b_245 c_246=AV.agg [.int .i64 n_249,.str s_250,.str s_251,.int .i64 n_252,.int .u64 n_253]∧∃k_254
 : Nat,zOC13 k_254 r_182∧∀a_255:Int,∀ky_256 sa_257:List UInt8,∀b_258:Int,∀c_259:Nat,∀out_260:List Rc,∀f_261:Int,zOC6 e_25 key_26 salt_27 k_254 r_182 a_255 ky_256 sa_257 b_258 c_259 out_260 f_261→∃n_262 s_263
 s_264 n_265 n_266,zOC1 a_255 ky_256 sa_257 b_258 c_259=AV.agg [.int .i64 n_262,.str s_263,.str s_264,.int .i64 n_265,.int .u64 n_266]∧bif !(n_249==n_262&&(eqB s_250 s_263&&(eqB s_251 s_264&&(n_252==n_265&&(n_253 ==
 n_266&&true)&&true)))) then zOC3 Q else bif f_248 !=f_261 then zOC3 Q else ∃l_267 k_268:List Rc,zOC0 out_247 l_267 out_260 k_268∧∀b_269:Bool,zOC21 b_269 l_267 k_268→bif b_269 then ∃k_270:Nat,zOC13 k_270 s_181∧∀a_271
 : Int,∀ky_272 sa_273:List UInt8,∀b_274:Int,∀c_275:Nat,∀out_276:List Rc,∀f_277:Int,zOC6 e_25 key_26 salt_27 k_270 s_181 a_271 ky_272 sa_273 b_274 c_275 out_276 f_277→∃n_278 s_279 s_280 n_281 n_282,zOC1 a_271 ky_272
 sa_273 b_274 c_275=AV.agg [.int .i64 n_278,.str s_279,.str s_280,.int .i64 n_281,.int .u64 n_282]∧∃k_283:Nat,zOC13 k_283 s_181∧∀a_284:Int,∀ky_285 sa_286:List UInt8,∀b_287:Int,∀c_288:Nat,∀out_289:List Rc,∀
 f_290:Int,zOC6 e_25 key_26 salt_27 k_283 s_181 a_284 ky_285 sa_286 b_287 c_288 out_289 f_290→∃n_291 s_292 s_293 n_294 n_295,zOC1 a_284 ky_285 sa_286 b_287 c_288=AV.agg [.int .i64 n_291,.str s_292,.str s_293,.int .i64 n_294,
 .int .u64 n_295]∧bif !(n_278==n_291&&(eqB s_279 s_292&&(eqB s_280 s_293&&(n_281==n_294&&(n_282==n_295&&true)&&true)))) then zOC3 Q else bif f_277 !=f_290 then zOC3 Q else ∃l_296 k_297:List Rc,zOC0 out_276 l_296
 out_289 k_297∧∀b_298:Bool,zOC21 b_298 l_296 k_297→bif b_298 then (∃k_299:Nat,Lf (n_50=(k_299:Int)∧zOC4 k_299)∧∀b_300:Bool,Lf (b_300=rcvOkM n_46 s_47 s_48 n_49 k_299)→bif b_300 then zOC14∧∃x_301:Int,Lf (∃
 k_302:Nat,n_50=(k_302:Int)∧zOC4 k_302∧x_301=chkM (rcvOkM n_46 s_47 s_48 n_49 k_302))∧zOC9 ep st kk sk sn∧zOC12 wh n bs wt wk∧zOC16 x y tx∧eqqQ [AV.int .i64 n_46,.str s_47,.str s_48,.int .i64 n_49,.int .u64 n_50] ∧
 AV.int .i64 0=AV.int .i64 x_301∧zOC19∧eqqQ (AV.agg [.int .i64 n_19,.str s_20,.str s_21,.int .i64 n_22,.int .u64 n_23,.int .i64 e_25,.str key_26,.str salt_27,.int .i64 (-1),.int .u64 0,.int .i64 n_46,.str s_47,.str s_48,
 .int .i64 n_49,.int .u64 n_50])∧zOC22 text∧zOC20∧zOC22 x_7∧eqqQ (AV.agg [.int .i64 n_46,.str s_47,.str s_48,.int .i64 n_49,.int .u64 n_50])∧eqqQ (AV.int .i64 2)∧zOC15 else zOC14∧∃x_301:Int,Lf (∃k_302:Nat,n_50 =
 (k_302:Int)∧zOC4 k_302∧x_301=chkM (rcvOkM n_46 s_47 s_48 n_49 k_302))∧zOC9 ep st kk sk sn∧zOC12 wh n bs wt wk∧zOC16 x y tx∧eqqQ [AV.int .i64 n_46,.str s_47,.str s_48,.int .i64 n_49,.int .u64 n_50]∧AV.int .i64 170 =
 AV.int .i64 x_301∧zOC19∧eqqQ (AV.agg [.int .i64 n_19,.str s_20,.str s_21,.int .i64 n_22,.int .u64 n_23,.int .i64 e_25,.str key_26,.str salt_27,.int .i64 (-1),.int .u64 0,.int .i64 n_46,.str s_47,.str s_48,.int .i64 n_49,
 .int .u64 n_50])∧zOC22 text∧zOC20∧zOC22 x_7∧eqqQ (AV.agg [.int .i64 n_46,.str s_47,.str s_48,.int .i64 n_49,.int .u64 n_50])∧eqqQ (AV.int .i64 2)∧zOC15)∧∀x_299:Int,Lf (∃k_300:Nat,n_50=(k_300:Int)∧zOC4 k_300
 ∧ x_299=chkM (rcvOkM n_46 s_47 s_48 n_49 k_300))→∃k_300:Nat,Lf (n_50=(k_300:Int)∧zOC4 k_300)∧∀x_301:Int,Lf (x_301=chkM (rcvOkM n_46 s_47 s_48 n_49 k_300))→bif x_301 !=x_299 then zOC3 Q else ckQ (zOC17 x_7) (exS
 (.str (x_7++x_7)) (fun s_302=>exI .i64 (text.length:Int) (fun n_303=>exI .i64 (imin n_303 100) (fun n_304=>ckQ (zOC24 n_304 text) (exS (.str ((text.drop 0).take (n_304.toNat-0))) (fun s_305=>Lf (zOC11 x∧zOC11 y∧x_7.length
 ≤ 100000)∧∀r_306:List UInt8,Lf (r_306.length≤x_7.length+40)→∃k_307:Nat,Lf (n_50=(k_307:Int)∧zOC2 k_307 x_7)∧∀a_308:Int,∀ky_309 sa_310:List UInt8,∀b_311:Int,∀c_312:Nat,∀out_313:List Rc,∀f_314 :
 Int,Lf (openXM n_46 s_47 s_48 n_49 k_307 x_7=Prod.mk (Prod.mk a_308 (Prod.mk ky_309 (Prod.mk sa_310 (Prod.mk b_311 c_312)))) (Prod.mk out_313 f_314)∧zOC8 out_313)→∃n_315 s_316 s_317 n_318 n_319,zOC1 a_308 ky_309 sa_310 b_311 c_312
 = AV.agg [.int .i64 n_315,.str s_316,.str s_317,.int .i64 n_318,.int .u64 n_319]∧∃k_320:Nat,Lf (n_50=(k_320:Int)∧zOC2 k_320 x_7)∧∀a_321:Int,∀ky_322 sa_323:List UInt8,∀b_324:Int,∀c_325:Nat,∀out_326:List
 Rc,∀f_327:Int,Lf (openXM n_46 s_47 s_48 n_49 k_320 x_7=Prod.mk (Prod.mk a_321 (Prod.mk ky_322 (Prod.mk sa_323 (Prod.mk b_324 c_325)))) (Prod.mk out_326 f_327)∧zOC8 out_326)→∃n_328 s_329 s_330 n_331 n_332,zOC1 a_321 ky_322
 sa_323 b_324 c_325=AV.agg [.int .i64 n_328,.str s_329,.str s_330,.int .i64 n_331,.int .u64 n_332]∧bif !(n_315==n_328&&(eqB s_316 s_329&&(eqB s_317 s_330&&(n_318==n_331&&(n_319==n_332&&true)&&true)))) then zOC3 Q
 else bif f_314 !=f_327 then zOC3 Q else ∃l_333 k_334:List Rc,zOC0 out_313 l_333 out_326 k_334∧∀b_335:Bool,zOC21 b_335 l_333 k_334→bif b_335 then ∃k_336:Nat,Lf (n_50=(k_336:Int)∧zOC2 k_336 s_302)∧∀a_337:Int,∀
 ky_338 sa_339:List UInt8,∀b_340:Int,∀c_341:Nat,∀out_342:List Rc,∀f_343:Int,Lf (openXM n_46 s_47 s_48 n_49 k_336 s_302=Prod.mk (Prod.mk a_337 (Prod.mk ky_338 (Prod.mk sa_339 (Prod.mk b_340 c_341)))) (Prod.mk out_342
 f_343)∧zOC8 out_342)→∃n_344 s_345 s_346 n_347 n_348,zOC1 a_337 ky_338 sa_339 b_340 c_341=AV.agg [.int .i64 n_344,.str s_345,.str s_346,.int .i64 n_347,.int .u64 n_348]∧∃k_349:Nat,Lf (n_50=(k_349:Int)∧zOC2 k_349
 s_302)∧∀a_350:Int,∀ky_351 sa_352:List UInt8,∀b_353:Int,∀c_354:Nat,∀out_355:List Rc,∀f_356:Int,Lf (openXM n_46 s_47 s_48 n_49 k_349 s_302=Prod.mk (Prod.mk a_350 (Prod.mk ky_351 (Prod.mk sa_352 (Prod.mk b_353
 c_354)))) (Prod.mk out_355 f_356)∧zOC8 out_355)→∃n_357 s_358 s_359 n_360 n_361,zOC1 a_350 ky_351 sa_352 b_353 c_354=AV.agg [.int .i64 n_357,.str s_358,.str s_359,.int .i64 n_360,.int .u64 n_361]∧bif !(n_344==n_357&&(eqB
 s_345 s_358&&(eqB s_346 s_359&&(n_347==n_360&&(n_348==n_361&&true)&&true)))) then zOC3 Q else bif f_343 !=f_356 then zOC3 Q else ∃l_362 k_363:List Rc,zOC0 out_342 l_362 out_355 k_363∧∀b_364:Bool,zOC21 b_364 l_362
 k_363→bif b_364 then ∃k_365:Nat,Lf (n_50=(k_365:Int)∧zOC2 k_365 r_306)∧∀a_366:Int,∀ky_367 sa_368:List UInt8,∀b_369:Int,∀c_370:Nat,∀out_371:List Rc,∀f_372:Int,Lf (openXM n_46 s_47 s_48 n_49 k_365 r_306
 = Prod.mk (Prod.mk a_366 (Prod.mk ky_367 (Prod.mk sa_368 (Prod.mk b_369 c_370)))) (Prod.mk out_371 f_372)∧zOC8 out_371)→∃n_373 s_374 s_375 n_376 n_377,zOC1 a_366 ky_367 sa_368 b_369 c_370=AV.agg [.int .i64 n_373,.str s_374,.str
 s_375,.int .i64 n_376,.int .u64 n_377]∧∃k_378:Nat,Lf (n_50=(k_378:Int)∧zOC2 k_378 r_306)∧∀a_379:Int,∀ky_380 sa_381:List UInt8,∀b_382:Int,∀c_383:Nat,∀out_384:List Rc,∀f_385:Int,Lf (openXM n_46 s_47
 s_48 n_49 k_378 r_306=Prod.mk (Prod.mk a_379 (Prod.mk ky_380 (Prod.mk sa_381 (Prod.mk b_382 c_383)))) (Prod.mk out_384 f_385)∧zOC8 out_384)→∃n_386 s_387 s_388 n_389 n_390,zOC1 a_379 ky_380 sa_381 b_382 c_383=AV.agg [.int .i64
 n_386,.str s_387,.str s_388,.int .i64 n_389,.int .u64 n_390]∧bif !(n_373==n_386&&(eqB s_374 s_387&&(eqB s_375 s_388&&(n_376==n_389&&(n_377==n_390&&true)&&true)))) then zOC3 Q else bif f_372 !=f_385 then zOC3 Q else
 ∃l_391 k_392:List Rc,zOC0 out_371 l_391 out_384 k_392∧∀b_393:Bool,zOC21 b_393 l_391 k_392→bif b_393 then ∃k_394:Nat,Lf (n_50=(k_394:Int)∧zOC2 k_394 s_305)∧∀a_395:Int,∀ky_396 sa_397:List UInt8,∀b_398:Int,
 ∀c_399:Nat,∀out_400:List Rc,∀f_401:Int,Lf (openXM n_46 s_47 s_48 n_49 k_394 s_305=Prod.mk (Prod.mk a_395 (Prod.mk ky_396 (Prod.mk sa_397 (Prod.mk b_398 c_399)))) (Prod.mk out_400 f_401)∧zOC8 out_400)→∃n_402 s_403 s_404
 n_405 n_406,zOC1 a_395 ky_396 sa_397 b_398 c_399=AV.agg [.int .i64 n_402,.str s_403,.str s_404,.int .i64 n_405,.int .u64 n_406]∧∃k_407:Nat,Lf (n_50=(k_407:Int)∧zOC2 k_407 s_305)∧∀a_408:Int,∀ky_409 sa_410:List
 UInt8,∀b_411:Int,∀c_412:Nat,∀out_413:List Rc,∀f_414:Int,Lf (openXM n_46 s_47 s_48 n_49 k_407 s_305=Prod.mk (Prod.mk a_408 (Prod.mk ky_409 (Prod.mk sa_410 (Prod.mk b_411 c_412)))) (Prod.mk out_413 f_414)∧zOC8 out_413) →
 ∃n_415 s_416 s_417 n_418 n_419,zOC1 a_408 ky_409 sa_410 b_411 c_412=AV.agg [.int .i64 n_415,.str s_416,.str s_417,.int .i64 n_418,.int .u64 n_419]∧bif !(n_402==n_415&&(eqB s_403 s_416&&(eqB s_404 s_417&&(n_405==n_418 &&
 (n_406==n_419&&true)&&true)))) then zOC3 Q else bif f_401 !=f_414 then zOC3 Q else ∃l_420 k_421:List Rc,zOC0 out_400 l_420 out_413 k_421∧∀b_422:Bool,zOC21 b_422 l_420 k_421→bif b_422 then Q (.ret (.bool true)) [] {} else
 zOC3 Q else zOC3 Q else zOC3 Q else zOC3 Q)))))) else zOC3 Q else zOC3 Q else zOC3 Q else zOC3 Q)))))) else zOC3 Q else zOC3 Q else zOC3 Q else zOC3 Q))))))))))))))):=by kernel_rfl

end Go.Proofs.YtiholnebhmjbjaaGreat
