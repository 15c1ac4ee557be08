/-
  Chapter 4: the reference's Seal and Open; changes.
-/
import Derived.Test.YtiholnebhmjbjaaGreatZ4RL
set_option linter.unusedSimpArgs false
set_option linter.unusedVariables false
set_option linter.unusedSectionVars false
namespace Go.Proofs.YtiholnebhmjbjaaGreat
open Go.RowKit
set_option maxRecDepth 1000000

def smSr:SM:=lookS [(60,cTagR),(59,cApR),(61,cBlkR),(62,cUpR),(63,cEight)]
theorem smSr_ok:∀f g,smSr f=some g→ValidF Tryz.prog gl0 f g:=lookS_ok _ (by simp only[List.mem_cons,List.not_mem_nil,or_false,forall_eq_or_imp,forall_eq];exact ⟨rtag_ok,rap_ok,rblk_ok,rup_ok,eight_ok⟩)
noncomputable def goal_16f (hv:Nat→Option Pa) (hb:Nat→Option Bool) (key nonce extra plain:List UInt8) (Q:Out→List Blk→Gh→Prop):Prop:=
 callx (e04 smSr (fun _=>none) hv hb) (wpx (e04 smSr (fun _=>none) hv hb) 1000) 35 [.str key,.str nonce,.str extra,.str plain] [] {} Q
abbrev zRM0 (t_6 t_7:List UInt8):Bool:=decide (t_6.length+t_7.length≤9223372036854775807)&&true
theorem vc_16f (key:List UInt8) (nonce:List UInt8) (extra:List UInt8) (plain:List UInt8) (Q:Out→List Blk→Gh→Prop):goal_16f (lookV [(143385,.int .i64),(143389,.int .i64),(143378,.str),(143383,.str),(143387,.str),
 (143391,.str),(143393,.str)]) (lookB []) key nonce extra plain Q=(Lf (key.length=32∧nonce.length=12∧((0:Int)≤(1:Int)∧(1:Int)≤(1000:Int))∧plain.length≤4480)∧∀t_0:List UInt8,Lf (t_0=appM (firstM key
 nonce) 1 70 plain)→exI .i64 (extra.length:Int) (fun n_1=>exI .i64 (t_0.length:Int) (fun n_2=>∃n_3:Nat,Lf (0=(n_3:Int)∧n_3<4294967296∧key.length=32∧nonce.length=12)∧∀t_4:List UInt8,Lf (t_4=List.map
 UInt8.ofNat (blkM (firstM key nonce) 0))→ckQ (Nat.ble 32 t_4.length) (exS (.str ((t_4.drop 0).take 32)) (fun s_5=>Lf (extra.length≤100000)∧∀t_6:List UInt8,Lf (t_6=extra++List.replicate ((16-extra.length%16)%16) 0) →
 Lf (t_0.length≤100000)∧∀t_7:List UInt8,Lf (t_7=t_0++List.replicate ((16-t_0.length%16)%16) 0)→ckQ (zRM0 t_6 t_7) (exS (.str (t_6++t_7)) (fun s_8=>∃n_9:Nat,Lf (n_1=(n_9:Int)∧n_9≤100000)∧∀t_10:List
 UInt8,Lf (t_10=leBM 8 n_9)→ckQ (zRM0 s_8 t_10) (exS (.str (s_8++t_10)) (fun s_11=>∃n_12:Nat,Lf (n_2=(n_12:Int)∧n_12≤100000)∧∀t_13:List UInt8,Lf (t_13=leBM 8 n_12)→ckQ (zRM0 s_11 t_13) (exS (.str (s_11 ++
 t_13)) (fun s_14=>Lf (s_5.length=32∧s_14.length≤100000)∧∀t_15:List UInt8,Lf (t_15=tagM s_5 s_14)→ckQ (zRM0 t_0 t_15) (exS (.str (t_0++t_15)) (fun s_16=>Q (.ret (.str s_16)) [] {}))))))))))))):=by kernel_rfl

def cSealRf:Con
 | [.str key,.str nonce,.str extra,.str plain],H,K=>Lf (key.length=32∧nonce.length=12∧extra.length≤4096∧plain.length≤4096)∧∀t,Lf (t=(sealM key nonce extra plain).1)→K (.ret (.str t)) H
 | _,_,_=>False
theorem size_le {n:Nat} (h:n<65536):leBM 8 n=sizeM n:=by
 have z:∀m,m/256/256=0→UInt8.ofNat (m/256/256%256)=0:=fun m hm=>by rw[hm];rfl
 have h0:n/256/256=0:=by omega
 simp only[leBM,sizeM,h0,Nat.zero_div,Nat.zero_mod]
 rfl
theorem rseal_ok:ValidF Tryz.prog gl0 35 cSealRf:=by
 refine valid_flat (enters_of (by kernel_rfl)) gl0_noY fun args H Q hc => ?_
 unfold cSealRf at hc
 split at hc
 ·rename_i key nonce extra plain
  obtain ⟨⟨h1,h2,h3,h4⟩,hq⟩:=hc
  obtain ⟨hv,hb',e⟩:∃hv hb,goal_16f hv hb key nonce extra plain (fun o H' _=>H'=[]∧(∃v,o=.ret v∧old 0 v=true∧noY v=true)∧Q o H)=_:=⟨_,_,vc_16f key nonce extra plain _⟩
  refine ⟨rfl,rfl,_,1000,envFor04 smSr_ok _ hv hb',rfl,e.mpr ?_⟩
  delta zRM0
  have hr:rightM key nonce 0=true:=by simp[rightM,h1,h2]
  have hsl:sealM key nonce extra plain=(appM (firstM key nonce) 1 70 plain++checkM key nonce extra (appM (firstM key nonce) 1 70 plain),0):=by rw[sealM,if_neg (by rw[hr];simp),if_neg (by omega)]
  have hbk:(blockM key nonce 0).1=(blkM (firstM key nonce) 0).map UInt8.ofNat:=by rw[blockM,hr];rfl
  refine ⟨⟨h1,h2,by decide,by omega⟩, ?_⟩
  rintro t0 ⟨e0⟩
  have l0:=app_len (firstM key nonce) 70 1 plain (by omega)
  rw[←e0] at l0 hsl
  refine ⟨_,rfl,_,rfl,0,⟨rfl,by decide,h1,h2⟩, ?_⟩
  rintro t4 ⟨e4⟩
  have l4:t4.length=64:=by rw[e4,List.length_map,len_blk]
  refine ckI (by rw[l4];rfl) ⟨t4.take 32,by rw[List.drop_zero],⟨by omega⟩, ?_⟩
  rintro t6 ⟨e6⟩
  have l6:t6.length≤4112:=by rw[e6];simp;omega
  refine ⟨⟨by omega⟩, ?_⟩
  rintro t7 ⟨e7⟩
  have l7:t7.length≤4112:=by rw[e7];simp;omega
  refine ckI (by simp;omega) ⟨_,rfl,extra.length,⟨rfl,by omega⟩, ?_⟩
  rintro t10 ⟨e10⟩
  have l10:t10.length=8:=by rw[e10,leB_len]
  refine ckI (by simp;omega) ⟨_,rfl,t0.length,⟨rfl,by omega⟩, ?_⟩
  rintro t13 ⟨e13⟩
  have l13:t13.length=8:=by rw[e13,leB_len]
  refine ckI (by simp;omega) ⟨_,rfl,⟨by rw[List.length_take];omega,by simp;omega⟩, ?_⟩
  rintro t15 ⟨e15⟩
  have l15:t15.length=16:=by rw[e15,tagM,leB_len]
  refine ckI (by simp;omega) ⟨_,rfl,rfl,⟨_,rfl,rfl,rfl⟩,hq _ ⟨?_⟩⟩
  rw[hsl]
  dsimp only
  rw[checkM,hbk,←e4,e15,e6,e7,e10,e13,size_le (by omega),size_le (by omega)]
  rfl
 ·exact hc.elim
theorem zipX_invf:∀ (s:List UInt8) (l:List Nat),s.length≤l.length→zipXM (zipXM s l) l=s
 | [],_,_=>by simp[zipXM]
 | _::_,[],h=>by simp at h
 | a::s,b::l,h=>by
  have ih:=zipX_invf s l (by simpa using h)
  simp only[zipXM,List.zipWith_cons_cons] at ih ⊢
  rw[ih,x8M,x8M,UInt8.xor_assoc,UInt8.xor_self,UInt8.xor_zero]
theorem zipX_lenEf (s:List UInt8) (l:List Nat) (h:s.length≤l.length):(zipXM s l).length=s.length:=by
 rw[zipXM,List.length_zipWith];omega
theorem app_invf (w:W16):∀ (f:Nat) (c:Int) (s:List UInt8),s.length≤64*f→appM w c f (appM w c f s)=s
 | 0,c,s,h=>by
  have:s=[]:=List.length_eq_zero_iff.1 (by omega)
  rw[this];rfl
 | f+1,c,s,h=>by
  have hb:=len_blk w c
  by_cases hs:s.length≤64
  ·have e1:appM w c (f+1) s=zipXM s (blkM w c):=by rw[appM,if_pos hs]
   have l1:=zipX_lenEf s (blkM w c) (by omega)
   rw[e1,appM,if_pos (by omega),zipX_invf _ _ (by omega)]
  ·have lt:(s.take 64).length=64:=by rw[List.length_take];omega
   have l1:=zipX_lenEf (s.take 64) (blkM w c) (by omega)
   have l2:(appM w (c+1) f (s.drop 64)).length=s.length-64:=by rw[app_len w f (c+1) _ (by rw[List.length_drop];omega),List.length_drop]
   have e1:appM w c (f+1) s=zipXM (s.take 64) (blkM w c)++appM w (c+1) f (s.drop 64):=by rw[appM,if_neg hs]
   have e2:(zipXM (s.take 64) (blkM w c)++appM w (c+1) f (s.drop 64)).take 64=zipXM (s.take 64) (blkM w c):=List.take_left' (by omega)
   have e3:(zipXM (s.take 64) (blkM w c)++appM w (c+1) f (s.drop 64)).drop 64=appM w (c+1) f (s.drop 64):=List.drop_left' (by omega)
   rw[e1,appM,if_neg (by rw[List.length_append];omega),e2,e3,zipX_invf _ _ (by omega),app_invf w f _ _ (by rw[List.length_drop];omega),List.take_append_drop]
def smOr:SM:=lookS [(35,cSealRf),(59,cApR)]
theorem smOr_ok:∀f g,smOr f=some g→ValidF Tryz.prog gl0 f g:=lookS_ok _ (by simp only[List.mem_cons,List.not_mem_nil,or_false,forall_eq_or_imp,forall_eq];exact ⟨rseal_ok,rap_ok⟩)
noncomputable def goal_19f (hv:Nat→Option Pa) (hb:Nat→Option Bool) (key nonce extra box:List UInt8) (Q:Out→List Blk→Gh→Prop):Prop:=
 callx (e04 smOr (fun _=>none) hv hb) (wpx (e04 smOr (fun _=>none) hv hb) 1000) 47 [.str key,.str nonce,.str extra,.str box] [] {} Q
theorem vc_19f (key:List UInt8) (nonce:List UInt8) (extra:List UInt8) (box:List UInt8) (Q:Out→List Blk→Gh→Prop):goal_19f (lookV [(192527,.int .i64),(192528,.int .i64),(192529,.str)]) (lookB []) key nonce extra box Q=(
(∃n_0:Int,(((AV.int .i64 (Nat.cast (List.length box):Int))=(AV.int .i64 n_0)) ∧
 (∃n_1:Int,(((AV.int .i64 (IntKind.wrap .i64 (n_0-(16:Int))))=(AV.int .i64 n_1)) ∧
 (bif (((decide ((0:Int)≤n_1))&&true)&&(Nat.ble (Int.toNat n_1) (List.length box))) then (∃s_2:(List UInt8),(((AV.str (List.take ((Int.toNat n_1)-(0:Nat)) (List.drop (0:Nat) box)))=(AV.str s_2)) ∧
 ((Lf (((List.length key)=(32:Nat)) ∧
 (((List.length nonce)=(12:Nat)) ∧
 ((((0:Int)≤(1:Int)) ∧
 ((1:Int)≤(1000:Int))) ∧
 ((List.length s_2)≤(4480:Nat)))))) ∧
 (∀t_3:(List UInt8),((Lf (t_3=(appM (firstM key nonce) (1:Int) (70:Nat) s_2))) →
((Lf (((List.length key)=(32:Nat)) ∧
 (((List.length nonce)=(12:Nat)) ∧
 (((List.length extra)≤(4096:Nat)) ∧
 ((List.length t_3)≤(4096:Nat)))))) ∧
 (∀t_4:(List UInt8),((Lf (t_4=(Prod.fst (sealM key nonce extra t_3)))) →
(bif (!(eqB t_4 box)) then (Q (Out.ret (AV.tup ((AV.str [])::((AV.bool false)::[])))) [] (Gh.mk (0:Nat) (0:Nat) []))
else (Q (Out.ret (AV.tup ((AV.str t_3)::((AV.bool true)::[])))) [] (Gh.mk (0:Nat) (0:Nat) [])))))))))))
else False)))))):=by kernel_rfl

def cOpenRf:Con
 | [.str key,.str nonce,.str extra,.str box],H,K=>Lf (key.length=32∧nonce.length=12∧extra.length≤4096∧16≤box.length∧box.length≤4112)∧∀t b,Lf ((t=(openM key nonce extra box).1∧(openM key nonce extra box).2=if b then 0 else 9)∧(b=false→t=[]))→K (.ret (.tup [.str t,.bool b])) H
 | _,_,_=>False
theorem ropen_ok:ValidF Tryz.prog gl0 47 cOpenRf:=by
 refine valid_flat (enters_of (by kernel_rfl)) gl0_noY fun args H Q hc => ?_
 unfold cOpenRf at hc
 split at hc
 ·rename_i key nonce extra box
  obtain ⟨⟨h1,h2,h3,h4,h5⟩,hq⟩:=hc
  obtain ⟨hv,hb',e⟩:∃hv hb,goal_19f hv hb key nonce extra box (fun o H' _=>H'=[]∧(∃v,o=.ret v∧old 0 v=true∧noY v=true)∧Q o H)=_:=⟨_,_,vc_19f key nonce extra box _⟩
  refine ⟨rfl,rfl,_,1000,envFor04 smOr_ok _ hv hb',rfl,e.mpr ?_⟩
  have hr:rightM key nonce 0=true:=by simp[rightM,h1,h2]
  have hop:openM key nonce extra box=if box.drop (box.length-16)=checkM key nonce extra (box.take (box.length-16)) then (appM (firstM key nonce) 1 70 (box.take (box.length-16)),0) else ([],9):=by
   rw[openM,if_neg (by rw[hr];simp),if_neg (by omega),if_neg (by omega)]
  obtain ⟨ct,hct⟩:∃ct,ct=box.take (box.length-16):=⟨_,rfl⟩
  have lc:ct.length=box.length-16:=by rw[hct,List.length_take];omega
  rw[←hct] at hop
  refine ⟨_,rfl,wrapI (by omega) (by omega) (ckI (by simp;omega) ⟨ct,by rw[hct,List.drop_zero];congr 2;omega,⟨h1,h2,by decide,by omega⟩, ?_⟩)⟩
  rintro t3 ⟨e3⟩
  have l3:=app_len (firstM key nonce) 70 1 ct (by omega)
  rw[←e3] at l3
  refine ⟨⟨h1,h2,h3,by omega⟩, ?_⟩
  rintro t4 ⟨e4⟩
  have hsl:(sealM key nonce extra t3).1=ct++checkM key nonce extra ct:=by
   rw[sealM,if_neg (by rw[hr];simp),if_neg (by omega),e3,app_invf _ _ _ _ (by omega)]
  rw[hsl] at e4
  rw[←e3] at hop
  by_cases hd:box.drop (box.length-16)=checkM key nonce extra ct
  ·have:t4=box:=by rw[e4,←hd,hct,List.take_append_drop]
   rw[this,eqBB]
   rw[if_pos hd] at hop
   exact ⟨rfl,⟨_,rfl,rfl,rfl⟩,hq t3 true ⟨⟨by rw[hop],by rw[hop];rfl⟩,fun h=>by cases h⟩⟩
  ·have hne:eqB t4 box=false:=by
    rw[←Bool.not_eq_true,eqB_iff,beq_iff_eq,e4]
    intro h
    apply hd
    have:=congrArg (List.drop ct.length) h
    rw[List.drop_left' rfl,lc] at this
    exact this.symm
   rw[hne]
   rw[if_neg hd] at hop
   exact ⟨rfl,⟨_,rfl,rfl,rfl⟩,hq [] false ⟨⟨by rw[hop],by rw[hop];rfl⟩,fun _=>rfl⟩⟩
 ·exact hc.elim
end Go.Proofs.YtiholnebhmjbjaaGreat
