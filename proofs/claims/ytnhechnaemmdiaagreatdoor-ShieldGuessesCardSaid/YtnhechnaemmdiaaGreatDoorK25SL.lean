/-
  Chapter 4: padded is proved.
-/
import Derived.Test.YtnhechnaemmdiaaGreatDoorK25SK
set_option linter.unusedSimpArgs false
set_option linter.unusedVariables false
namespace Go.Proofs.YtnhechnaemmdiaaGreatDoor
open Go.RowKit
set_option maxRecDepth 1000000

def upM (n:Nat):Nat:=(16-n%16)%16
def padM (a:List UInt8):List UInt8:=a++List.replicate (upM a.length) 0
theorem z8_of (j:Nat):z8M j=ofBytes (List.replicate j 0):=by simp[z8M,ofBytes]
theorem ofB_app (a b:List UInt8):ofBytes a++ofBytes b=ofBytes (a++b):=by simp[ofBytes]
theorem ofB_one:[AV.int .u8 0]=ofBytes [0]:=rfl
theorem oneL_ofB (l:List UInt8):oneL (ofBytes l)=true:=by
 induction l with
 | nil=>rfl
 | cons x l ih=>simpa [ofBytes,oneL,one] using ih
theorem toB_ofB (l:List UInt8):(ofBytes l).map toB=l:=by
 simp only[ofBytes,List.map_map]
 conv=>rhs;rw[←List.map_id l]
 congr 1
 funext x
 simp[toB]
theorem strB {L:List UInt8} {n m:Nat} (hn:n=L.length) (hm:m=0):List.map toB (List.take n (List.drop m (ofBytes L)))=L:=by
 subst hn hm
 rw[List.drop_zero,List.take_of_length_le (by rw[ofB_len];omega),toB_ofB]
theorem rep_succ (j:Nat):List.replicate j (0:UInt8)++[0]=List.replicate (j+1) 0:=by rw[List.replicate_succ']

theorem allU8_take (n m:Nat) (l:List UInt8):allU8 (List.take n (List.drop m (ofBytes l)))=true:=by
 have e:List.take n (List.drop m (ofBytes l))=ofBytes ((l.drop m).take n):=by simp[ofBytes]
 rw[e]
 exact allU8_ofB _
theorem pad_aa (t:Nat) (x y:UInt8) (a b:List UInt8) (Q:Out→List Blk→Gh→Prop) (ha:(x::a).length≤4611686018) (hb2:(y::b).length≤4611686018) (hq:Q (.ret (.str (padM (x::a)++padM (y::b)))) [] {}):∃hv hb,goal_65aa hv hb t x y a b Q:=by
 obtain ⟨hv,hb',e⟩:∃hv hb,goal_65aa hv hb t x y a b Q=_:=⟨_,_,vc_65aa t x y a b Q⟩
 refine ⟨hv,hb',e.mpr ?_⟩
 clear e
 refine ⟨_,rfl, ?_⟩
 have hA0:0<(x::a).length:=by simp
 have hB0:0<(y::b).length:=by simp
 generalize x::a=A at *
 generalize y::b=B at *
 simp only[z8_of,ofB_app,ofB_one,ofB_len,oneL_ofB,oldL_ofB]
 refine ckI (by first | (simp only[Bool.and_eq_true,Bool.and_true,Bool.true_and,decide_eq_true_eq,blt_iff,Nat.ble_eq,nbeq,cellsI_len,List.length_append,List.length_cons,List.length_nil,Int.toNat_natCast,and_true,true_and,Bool.or_eq_true,Bool.not_eq_true',bne_iff_ne,ne_eq];done) | (simp only[Bool.and_eq_true,Bool.and_true,Bool.true_and,decide_eq_true_eq,blt_iff,Nat.ble_eq,nbeq,cellsI_len,List.length_append,List.length_cons,List.length_nil,Int.toNat_natCast,and_true,true_and,Bool.or_eq_true,Bool.not_eq_true',bne_iff_ne,ne_eq];omega) | rfl | (simp;done) | (simp;omega)) (ckI (by first | (simp only[Bool.and_eq_true,Bool.and_true,Bool.true_and,decide_eq_true_eq,blt_iff,Nat.ble_eq,nbeq,cellsI_len,List.length_append,List.length_cons,List.length_nil,Int.toNat_natCast,and_true,true_and,Bool.or_eq_true,Bool.not_eq_true',bne_iff_ne,ne_eq];done) | (simp only[Bool.and_eq_true,Bool.and_true,Bool.true_and,decide_eq_true_eq,blt_iff,Nat.ble_eq,nbeq,cellsI_len,List.length_append,List.length_cons,List.length_nil,Int.toNat_natCast,and_true,true_and,Bool.or_eq_true,Bool.not_eq_true',bne_iff_ne,ne_eq];omega) | rfl | (simp;done) | (simp;omega)) (ckI (by first | (simp only[Bool.and_eq_true,Bool.and_true,Bool.true_and,decide_eq_true_eq,blt_iff,Nat.ble_eq,nbeq,cellsI_len,List.length_append,List.length_cons,List.length_nil,Int.toNat_natCast,and_true,true_and,Bool.or_eq_true,Bool.not_eq_true',bne_iff_ne,ne_eq];done) | (simp only[Bool.and_eq_true,Bool.and_true,Bool.true_and,decide_eq_true_eq,blt_iff,Nat.ble_eq,nbeq,cellsI_len,List.length_append,List.length_cons,List.length_nil,Int.toNat_natCast,and_true,true_and,Bool.or_eq_true,Bool.not_eq_true',bne_iff_ne,ne_eq];omega) | rfl | (simp;done) | (simp;omega)) ⟨⟨0,⟨by omega⟩,by simp⟩, ?_⟩))
 rintro j ⟨hj⟩
 refine ckI (by first | (simp only[Bool.and_eq_true,Bool.and_true,Bool.true_and,decide_eq_true_eq,blt_iff,Nat.ble_eq,nbeq,cellsI_len,List.length_append,List.length_replicate,List.length_append,List.length_cons,List.length_nil,Int.toNat_natCast,and_true,true_and,Bool.or_eq_true,Bool.not_eq_true',bne_iff_ne,ne_eq];done) | (simp only[Bool.and_eq_true,Bool.and_true,Bool.true_and,decide_eq_true_eq,blt_iff,Nat.ble_eq,nbeq,cellsI_len,List.length_append,List.length_replicate,List.length_append,List.length_cons,List.length_nil,Int.toNat_natCast,and_true,true_and,Bool.or_eq_true,Bool.not_eq_true',bne_iff_ne,ne_eq];omega) | rfl | (simp;done) | (simp;omega)) ⟨_,rfl,_,rfl, ?_⟩
 have htj:(((A.length+j:Nat):Int)).tmod 16=(((A.length+j)%16:Nat):Int):=by rw[Int.tmod_eq_emod_of_nonneg (by omega)];omega
 rw[htj]
 refine splitNE (fun hne => ?_) (fun heqj => ?_)
 ·refine ckI (by first | (simp only[Bool.and_eq_true,Bool.and_true,Bool.true_and,decide_eq_true_eq,blt_iff,Nat.ble_eq,nbeq,cellsI_len,List.length_append,List.length_replicate,List.length_append,List.length_cons,List.length_nil,Int.toNat_natCast,and_true,true_and,Bool.or_eq_true,Bool.not_eq_true',bne_iff_ne,ne_eq];done) | (simp only[Bool.and_eq_true,Bool.and_true,Bool.true_and,decide_eq_true_eq,blt_iff,Nat.ble_eq,nbeq,cellsI_len,List.length_append,List.length_replicate,List.length_append,List.length_cons,List.length_nil,Int.toNat_natCast,and_true,true_and,Bool.or_eq_true,Bool.not_eq_true',bne_iff_ne,ne_eq];omega) | rfl | (simp;done) | (simp;omega)) ⟨by simp,⟨trivial,trivial⟩,j+1,⟨by omega⟩,by omega, ?_⟩
  rw[List.append_assoc _ (List.replicate j 0) [0],rep_succ]
  simp[Nat.add_assoc]
 ·refine ⟨_,rfl,ckI (by first | (simp only[Bool.and_eq_true,Bool.and_true,Bool.true_and,decide_eq_true_eq,blt_iff,Nat.ble_eq,nbeq,cellsI_len,List.length_append,List.length_cons,List.length_nil,Int.toNat_natCast,and_true,true_and,Bool.or_eq_true,Bool.not_eq_true',bne_iff_ne,ne_eq];done) | (simp only[Bool.and_eq_true,Bool.and_true,Bool.true_and,decide_eq_true_eq,blt_iff,Nat.ble_eq,nbeq,cellsI_len,List.length_append,List.length_cons,List.length_nil,Int.toNat_natCast,and_true,true_and,Bool.or_eq_true,Bool.not_eq_true',bne_iff_ne,ne_eq];omega) | rfl | (simp;done) | (simp;omega)) (ckI (by first | (simp only[Bool.and_eq_true,Bool.and_true,Bool.true_and,decide_eq_true_eq,blt_iff,Nat.ble_eq,nbeq,cellsI_len,List.length_append,List.length_cons,List.length_nil,Int.toNat_natCast,and_true,true_and,Bool.or_eq_true,Bool.not_eq_true',bne_iff_ne,ne_eq];done) | (simp only[Bool.and_eq_true,Bool.and_true,Bool.true_and,decide_eq_true_eq,blt_iff,Nat.ble_eq,nbeq,cellsI_len,List.length_append,List.length_cons,List.length_nil,Int.toNat_natCast,and_true,true_and,Bool.or_eq_true,Bool.not_eq_true',bne_iff_ne,ne_eq];omega) | rfl | (simp;done) | (simp;omega)) (ckI (by first | (simp only[Bool.and_eq_true,Bool.and_true,Bool.true_and,decide_eq_true_eq,blt_iff,Nat.ble_eq,nbeq,cellsI_len,List.length_append,List.length_replicate,List.length_append,List.length_cons,List.length_nil,Int.toNat_natCast,and_true,true_and,Bool.or_eq_true,Bool.not_eq_true',bne_iff_ne,ne_eq];done) | (simp only[Bool.and_eq_true,Bool.and_true,Bool.true_and,decide_eq_true_eq,blt_iff,Nat.ble_eq,nbeq,cellsI_len,List.length_append,List.length_replicate,List.length_append,List.length_cons,List.length_nil,Int.toNat_natCast,and_true,true_and,Bool.or_eq_true,Bool.not_eq_true',bne_iff_ne,ne_eq];omega) | rfl | (simp;done) | (simp;omega)) ⟨⟨0,⟨by omega⟩,by simp⟩, ?_⟩))⟩
  rintro k ⟨hk⟩
  refine ckI (by first | (simp only[Bool.and_eq_true,Bool.and_true,Bool.true_and,decide_eq_true_eq,blt_iff,Nat.ble_eq,nbeq,cellsI_len,List.length_append,List.length_replicate,List.length_append,List.length_cons,List.length_nil,Int.toNat_natCast,and_true,true_and,Bool.or_eq_true,Bool.not_eq_true',bne_iff_ne,ne_eq];done) | (simp only[Bool.and_eq_true,Bool.and_true,Bool.true_and,decide_eq_true_eq,blt_iff,Nat.ble_eq,nbeq,cellsI_len,List.length_append,List.length_replicate,List.length_append,List.length_cons,List.length_nil,Int.toNat_natCast,and_true,true_and,Bool.or_eq_true,Bool.not_eq_true',bne_iff_ne,ne_eq];omega) | rfl | (simp;done) | (simp;omega)) ⟨_,rfl,_,rfl, ?_⟩
  have htk:(((A.length+j+B.length+k:Nat):Int)).tmod 16=(((A.length+j+B.length+k)%16:Nat):Int):=by rw[Int.tmod_eq_emod_of_nonneg (by omega)];omega
  rw[htk]
  refine splitNE (fun hne => ?_) (fun heqk => ?_)
  ·refine ckI (by first | (simp only[Bool.and_eq_true,Bool.and_true,Bool.true_and,decide_eq_true_eq,blt_iff,Nat.ble_eq,nbeq,cellsI_len,List.length_append,List.length_replicate,List.length_append,List.length_cons,List.length_nil,Int.toNat_natCast,and_true,true_and,Bool.or_eq_true,Bool.not_eq_true',bne_iff_ne,ne_eq];done) | (simp only[Bool.and_eq_true,Bool.and_true,Bool.true_and,decide_eq_true_eq,blt_iff,Nat.ble_eq,nbeq,cellsI_len,List.length_append,List.length_replicate,List.length_append,List.length_cons,List.length_nil,Int.toNat_natCast,and_true,true_and,Bool.or_eq_true,Bool.not_eq_true',bne_iff_ne,ne_eq];omega) | rfl | (simp;done) | (simp;omega)) ⟨by simp,⟨trivial,trivial⟩,k+1,⟨by omega⟩,by omega, ?_⟩
   rw[List.append_assoc _ (List.replicate k 0) [0],rep_succ]
   simp[Nat.add_assoc]
  ·refine ckI (by first | (simp only[Bool.and_eq_true,Bool.and_true,Bool.true_and,decide_eq_true_eq,blt_iff,Nat.ble_eq,nbeq,cellsI_len,List.length_append,List.length_replicate,allU8_take,List.length_append,List.length_cons,List.length_nil,Int.toNat_natCast,and_true,true_and,Bool.or_eq_true,Bool.not_eq_true',bne_iff_ne,ne_eq];done) | (simp only[Bool.and_eq_true,Bool.and_true,Bool.true_and,decide_eq_true_eq,blt_iff,Nat.ble_eq,nbeq,cellsI_len,List.length_append,List.length_replicate,allU8_take,List.length_append,List.length_cons,List.length_nil,Int.toNat_natCast,and_true,true_and,Bool.or_eq_true,Bool.not_eq_true',bne_iff_ne,ne_eq];omega) | rfl | (simp;done) | (simp;omega)) ⟨_,rfl, ?_⟩
   rw[strB (by simp only[List.length_append,List.length_replicate]) rfl]
   have hk2:k=upM B.length:=by unfold upM;omega
   have hj2:j=upM A.length:=by unfold upM;omega
   rw[hk2,hj2]
   simp only[padM,List.append_assoc] at hq ⊢
   exact hq
theorem pad_na (t:Nat) (y:UInt8) (b:List UInt8) (Q:Out→List Blk→Gh→Prop) (hb2:(y::b).length≤4611686018) (hq:Q (.ret (.str (padM (y::b)))) [] {}):∃hv hb,goal_65na hv hb t y b Q:=by
 obtain ⟨hv,hb',e⟩:∃hv hb,goal_65na hv hb t y b Q=_:=⟨_,_,vc_65na t y b Q⟩
 refine ⟨hv,hb',e.mpr ?_⟩
 clear e
 have hB0:0<(y::b).length:=by simp
 generalize y::b=B at *
 simp only[z8_of,ofB_app,ofB_one,ofB_len,oneL_ofB,oldL_ofB]
 refine ⟨⟨0,⟨trivial⟩,by simp⟩, ?_⟩
 intro _ _
 refine ⟨_,rfl,_,rfl,splitNE (fun h=>absurd rfl h) (fun _ => ?_)⟩
 refine ckI (by first | (simp only[Bool.and_eq_true,Bool.and_true,Bool.true_and,decide_eq_true_eq,blt_iff,Nat.ble_eq,nbeq,cellsI_len,List.length_append,List.length_cons,List.length_nil,Int.toNat_natCast,and_true,true_and,Bool.or_eq_true,Bool.not_eq_true',bne_iff_ne,ne_eq];done) | (simp only[Bool.and_eq_true,Bool.and_true,Bool.true_and,decide_eq_true_eq,blt_iff,Nat.ble_eq,nbeq,cellsI_len,List.length_append,List.length_cons,List.length_nil,Int.toNat_natCast,and_true,true_and,Bool.or_eq_true,Bool.not_eq_true',bne_iff_ne,ne_eq];omega) | rfl | (simp;done) | (simp;omega)) (ckI (by first | (simp only[Bool.and_eq_true,Bool.and_true,Bool.true_and,decide_eq_true_eq,blt_iff,Nat.ble_eq,nbeq,cellsI_len,List.length_append,List.length_cons,List.length_nil,Int.toNat_natCast,and_true,true_and,Bool.or_eq_true,Bool.not_eq_true',bne_iff_ne,ne_eq];done) | (simp only[Bool.and_eq_true,Bool.and_true,Bool.true_and,decide_eq_true_eq,blt_iff,Nat.ble_eq,nbeq,cellsI_len,List.length_append,List.length_cons,List.length_nil,Int.toNat_natCast,and_true,true_and,Bool.or_eq_true,Bool.not_eq_true',bne_iff_ne,ne_eq];omega) | rfl | (simp;done) | (simp;omega)) ⟨⟨0,⟨by omega⟩,by simp⟩, ?_⟩)
 rintro k ⟨hk⟩
 refine ckI (by first | (simp only[Bool.and_eq_true,Bool.and_true,Bool.true_and,decide_eq_true_eq,blt_iff,Nat.ble_eq,nbeq,cellsI_len,List.length_append,List.length_replicate,List.length_append,List.length_cons,List.length_nil,Int.toNat_natCast,and_true,true_and,Bool.or_eq_true,Bool.not_eq_true',bne_iff_ne,ne_eq];done) | (simp only[Bool.and_eq_true,Bool.and_true,Bool.true_and,decide_eq_true_eq,blt_iff,Nat.ble_eq,nbeq,cellsI_len,List.length_append,List.length_replicate,List.length_append,List.length_cons,List.length_nil,Int.toNat_natCast,and_true,true_and,Bool.or_eq_true,Bool.not_eq_true',bne_iff_ne,ne_eq];omega) | rfl | (simp;done) | (simp;omega)) ⟨_,rfl,_,rfl, ?_⟩
 have htk:(((B.length+k:Nat):Int)).tmod 16=(((B.length+k)%16:Nat):Int):=by rw[Int.tmod_eq_emod_of_nonneg (by omega)];omega
 rw[htk]
 refine splitNE (fun hne => ?_) (fun heqk => ?_)
 ·refine ckI (by first | (simp only[Bool.and_eq_true,Bool.and_true,Bool.true_and,decide_eq_true_eq,blt_iff,Nat.ble_eq,nbeq,cellsI_len,List.length_append,List.length_replicate,List.length_append,List.length_cons,List.length_nil,Int.toNat_natCast,and_true,true_and,Bool.or_eq_true,Bool.not_eq_true',bne_iff_ne,ne_eq];done) | (simp only[Bool.and_eq_true,Bool.and_true,Bool.true_and,decide_eq_true_eq,blt_iff,Nat.ble_eq,nbeq,cellsI_len,List.length_append,List.length_replicate,List.length_append,List.length_cons,List.length_nil,Int.toNat_natCast,and_true,true_and,Bool.or_eq_true,Bool.not_eq_true',bne_iff_ne,ne_eq];omega) | rfl | (simp;done) | (simp;omega)) ⟨by simp,⟨trivial,trivial⟩,k+1,⟨by omega⟩,by omega, ?_⟩
  rw[List.append_assoc _ (List.replicate k 0) [0],rep_succ]
  simp[Nat.add_assoc]
 ·refine ckI (by first | (simp only[Bool.and_eq_true,Bool.and_true,Bool.true_and,decide_eq_true_eq,blt_iff,Nat.ble_eq,nbeq,cellsI_len,List.length_append,List.length_replicate,allU8_take,List.length_append,List.length_cons,List.length_nil,Int.toNat_natCast,and_true,true_and,Bool.or_eq_true,Bool.not_eq_true',bne_iff_ne,ne_eq];done) | (simp only[Bool.and_eq_true,Bool.and_true,Bool.true_and,decide_eq_true_eq,blt_iff,Nat.ble_eq,nbeq,cellsI_len,List.length_append,List.length_replicate,allU8_take,List.length_append,List.length_cons,List.length_nil,Int.toNat_natCast,and_true,true_and,Bool.or_eq_true,Bool.not_eq_true',bne_iff_ne,ne_eq];omega) | rfl | (simp;done) | (simp;omega)) ⟨_,rfl, ?_⟩
  rw[strB (by simp only[List.length_append,List.length_replicate]) rfl]
  have hk2:k=upM B.length:=by unfold upM;omega
  rw[hk2]
  exact hq
theorem pad_an (t:Nat) (x:UInt8) (a:List UInt8) (Q:Out→List Blk→Gh→Prop) (ha:(x::a).length≤4611686018) (hq:Q (.ret (.str (padM (x::a)))) [] {}):∃hv hb,goal_65an hv hb t x a Q:=by
 obtain ⟨hv,hb',e⟩:∃hv hb,goal_65an hv hb t x a Q=_:=⟨_,_,vc_65an t x a Q⟩
 refine ⟨hv,hb',e.mpr ?_⟩
 clear e
 have hA0:0<(x::a).length:=by simp
 generalize x::a=A at *
 simp only[z8_of,ofB_app,ofB_one,ofB_len,oneL_ofB,oldL_ofB]
 refine ckI (by first | (simp only[Bool.and_eq_true,Bool.and_true,Bool.true_and,decide_eq_true_eq,blt_iff,Nat.ble_eq,nbeq,cellsI_len,List.length_append,List.length_cons,List.length_nil,Int.toNat_natCast,and_true,true_and,Bool.or_eq_true,Bool.not_eq_true',bne_iff_ne,ne_eq];done) | (simp only[Bool.and_eq_true,Bool.and_true,Bool.true_and,decide_eq_true_eq,blt_iff,Nat.ble_eq,nbeq,cellsI_len,List.length_append,List.length_cons,List.length_nil,Int.toNat_natCast,and_true,true_and,Bool.or_eq_true,Bool.not_eq_true',bne_iff_ne,ne_eq];omega) | rfl | (simp;done) | (simp;omega)) (ckI (by first | (simp only[Bool.and_eq_true,Bool.and_true,Bool.true_and,decide_eq_true_eq,blt_iff,Nat.ble_eq,nbeq,cellsI_len,List.length_append,List.length_cons,List.length_nil,Int.toNat_natCast,and_true,true_and,Bool.or_eq_true,Bool.not_eq_true',bne_iff_ne,ne_eq];done) | (simp only[Bool.and_eq_true,Bool.and_true,Bool.true_and,decide_eq_true_eq,blt_iff,Nat.ble_eq,nbeq,cellsI_len,List.length_append,List.length_cons,List.length_nil,Int.toNat_natCast,and_true,true_and,Bool.or_eq_true,Bool.not_eq_true',bne_iff_ne,ne_eq];omega) | rfl | (simp;done) | (simp;omega)) ⟨⟨0,⟨by omega⟩,by simp⟩, ?_⟩)
 rintro j ⟨hj⟩
 refine ckI (by first | (simp only[Bool.and_eq_true,Bool.and_true,Bool.true_and,decide_eq_true_eq,blt_iff,Nat.ble_eq,nbeq,cellsI_len,List.length_append,List.length_replicate,List.length_append,List.length_cons,List.length_nil,Int.toNat_natCast,and_true,true_and,Bool.or_eq_true,Bool.not_eq_true',bne_iff_ne,ne_eq];done) | (simp only[Bool.and_eq_true,Bool.and_true,Bool.true_and,decide_eq_true_eq,blt_iff,Nat.ble_eq,nbeq,cellsI_len,List.length_append,List.length_replicate,List.length_append,List.length_cons,List.length_nil,Int.toNat_natCast,and_true,true_and,Bool.or_eq_true,Bool.not_eq_true',bne_iff_ne,ne_eq];omega) | rfl | (simp;done) | (simp;omega)) ⟨_,rfl,_,rfl, ?_⟩
 have htj:(((A.length+j:Nat):Int)).tmod 16=(((A.length+j)%16:Nat):Int):=by rw[Int.tmod_eq_emod_of_nonneg (by omega)];omega
 rw[htj]
 refine splitNE (fun hne => ?_) (fun heqj => ?_)
 ·refine ckI (by first | (simp only[Bool.and_eq_true,Bool.and_true,Bool.true_and,decide_eq_true_eq,blt_iff,Nat.ble_eq,nbeq,cellsI_len,List.length_append,List.length_replicate,List.length_append,List.length_cons,List.length_nil,Int.toNat_natCast,and_true,true_and,Bool.or_eq_true,Bool.not_eq_true',bne_iff_ne,ne_eq];done) | (simp only[Bool.and_eq_true,Bool.and_true,Bool.true_and,decide_eq_true_eq,blt_iff,Nat.ble_eq,nbeq,cellsI_len,List.length_append,List.length_replicate,List.length_append,List.length_cons,List.length_nil,Int.toNat_natCast,and_true,true_and,Bool.or_eq_true,Bool.not_eq_true',bne_iff_ne,ne_eq];omega) | rfl | (simp;done) | (simp;omega)) ⟨by simp,⟨trivial,trivial⟩,j+1,⟨by omega⟩,by omega, ?_⟩
  rw[List.append_assoc _ (List.replicate j 0) [0],rep_succ]
  simp[Nat.add_assoc]
 ·refine ckI (by first | (simp only[Bool.and_eq_true,Bool.and_true,Bool.true_and,decide_eq_true_eq,blt_iff,Nat.ble_eq,nbeq,cellsI_len,List.length_append,List.length_replicate,List.length_append,List.length_cons,List.length_nil,Int.toNat_natCast,and_true,true_and,Bool.or_eq_true,Bool.not_eq_true',bne_iff_ne,ne_eq];done) | (simp only[Bool.and_eq_true,Bool.and_true,Bool.true_and,decide_eq_true_eq,blt_iff,Nat.ble_eq,nbeq,cellsI_len,List.length_append,List.length_replicate,List.length_append,List.length_cons,List.length_nil,Int.toNat_natCast,and_true,true_and,Bool.or_eq_true,Bool.not_eq_true',bne_iff_ne,ne_eq];omega) | rfl | (simp;done) | (simp;omega)) ⟨⟨0,⟨by omega⟩,by simp⟩, ?_⟩
  rintro k ⟨hk⟩
  refine ckI (by first | (simp only[Bool.and_eq_true,Bool.and_true,Bool.true_and,decide_eq_true_eq,blt_iff,Nat.ble_eq,nbeq,cellsI_len,List.length_append,List.length_replicate,List.length_append,List.length_cons,List.length_nil,Int.toNat_natCast,and_true,true_and,Bool.or_eq_true,Bool.not_eq_true',bne_iff_ne,ne_eq];done) | (simp only[Bool.and_eq_true,Bool.and_true,Bool.true_and,decide_eq_true_eq,blt_iff,Nat.ble_eq,nbeq,cellsI_len,List.length_append,List.length_replicate,List.length_append,List.length_cons,List.length_nil,Int.toNat_natCast,and_true,true_and,Bool.or_eq_true,Bool.not_eq_true',bne_iff_ne,ne_eq];omega) | rfl | (simp;done) | (simp;omega)) ⟨_,rfl,_,rfl, ?_⟩
  have htk:(((A.length+j+k:Nat):Int)).tmod 16=(((A.length+j+k)%16:Nat):Int):=by rw[Int.tmod_eq_emod_of_nonneg (by omega)];omega
  rw[htk]
  refine splitNE (fun hne => ?_) (fun heqk => ?_)
  ·refine ckI (by first | (simp only[Bool.and_eq_true,Bool.and_true,Bool.true_and,decide_eq_true_eq,blt_iff,Nat.ble_eq,nbeq,cellsI_len,List.length_append,List.length_replicate,List.length_append,List.length_cons,List.length_nil,Int.toNat_natCast,and_true,true_and,Bool.or_eq_true,Bool.not_eq_true',bne_iff_ne,ne_eq];done) | (simp only[Bool.and_eq_true,Bool.and_true,Bool.true_and,decide_eq_true_eq,blt_iff,Nat.ble_eq,nbeq,cellsI_len,List.length_append,List.length_replicate,List.length_append,List.length_cons,List.length_nil,Int.toNat_natCast,and_true,true_and,Bool.or_eq_true,Bool.not_eq_true',bne_iff_ne,ne_eq];omega) | rfl | (simp;done) | (simp;omega)) ⟨by simp,⟨trivial,trivial⟩,k+1,⟨by omega⟩,by omega, ?_⟩
   rw[List.append_assoc _ (List.replicate k 0) [0],rep_succ]
   simp[Nat.add_assoc]
  ·refine ckI (by first | (simp only[Bool.and_eq_true,Bool.and_true,Bool.true_and,decide_eq_true_eq,blt_iff,Nat.ble_eq,nbeq,cellsI_len,List.length_append,List.length_replicate,allU8_take,List.length_append,List.length_cons,List.length_nil,Int.toNat_natCast,and_true,true_and,Bool.or_eq_true,Bool.not_eq_true',bne_iff_ne,ne_eq];done) | (simp only[Bool.and_eq_true,Bool.and_true,Bool.true_and,decide_eq_true_eq,blt_iff,Nat.ble_eq,nbeq,cellsI_len,List.length_append,List.length_replicate,allU8_take,List.length_append,List.length_cons,List.length_nil,Int.toNat_natCast,and_true,true_and,Bool.or_eq_true,Bool.not_eq_true',bne_iff_ne,ne_eq];omega) | rfl | (simp;done) | (simp;omega)) ⟨_,rfl, ?_⟩
   rw[strB (by simp only[List.length_append,List.length_replicate]) rfl]
   have hk2:k=0:=by omega
   have hj2:j=upM A.length:=by unfold upM;omega
   rw[hk2,hj2]
   simp only[padM,List.replicate_zero,List.append_nil] at hq ⊢
   exact hq
theorem pad_nn (t:Nat) (Q:Out→List Blk→Gh→Prop) (hq:Q (.ret (.str [])) [] {}):∃hv hb,goal_65nn hv hb t Q:=by
 obtain ⟨hv,hb',e⟩:∃hv hb,goal_65nn hv hb t Q=_:=⟨_,_,vc_65nn t Q⟩
 refine ⟨hv,hb',e.mpr ?_⟩
 clear e
 exact ⟨⟨0,⟨trivial⟩,by simp⟩,fun _ _=>⟨⟨0,⟨trivial⟩,by simp⟩,fun _ _=>hq⟩⟩
theorem pad_nil:padM []=[]:=rfl
def cPadded:Con
 | [.lst _ [.str a,.str b] 2 1],H,K=>Lf (a.length≤4611686018∧b.length≤4611686018)∧∀t,Lf (t=padM a++padM b)→K (.ret (.str t)) H
 | _,_,_=>False
theorem padded_raw:ValidF Tryz.prog gl0 167 cPadded:=by
 refine valid_flat (enters_of (by kernel_rfl)) gl0_noY fun args H Q hc => ?_
 unfold cPadded at hc
 split at hc
 ·rename_i t a b
  obtain ⟨⟨h1,h2⟩,hq⟩:=hc
  have fin:∀z,z=padM a++padM b→([]:List Blk)=[]∧(∃v,Out.ret (.str z)=.ret v∧old 0 v=true∧noY v=true)∧Q (.ret (.str z)) H:=fun z hz=>⟨rfl,⟨_,rfl,rfl,rfl⟩,hq _ ⟨hz⟩⟩
  match a,b with
  | x::a,y::b=>
   obtain ⟨hv,hb',h⟩:=pad_aa t x y a b (Q:=fun o H' _=>H'=[]∧(∃v,o=.ret v∧old 0 v=true∧noY v=true)∧Q o H) h1 h2 (fin _ rfl)
   exact ⟨rfl,rfl,_,1000,envFor04 sm0_ok _ _ _,rfl,h⟩
  | [],y::b=>
   obtain ⟨hv,hb',h⟩:=pad_na t y b (Q:=fun o H' _=>H'=[]∧(∃v,o=.ret v∧old 0 v=true∧noY v=true)∧Q o H) h2 (fin _ (by rw[pad_nil,List.nil_append]))
   exact ⟨rfl,rfl,_,1000,envFor04 sm0_ok _ _ _,rfl,h⟩
  | x::a,[]=>
   obtain ⟨hv,hb',h⟩:=pad_an t x a (Q:=fun o H' _=>H'=[]∧(∃v,o=.ret v∧old 0 v=true∧noY v=true)∧Q o H) h1 (fin _ (by rw[pad_nil,List.append_nil]))
   exact ⟨rfl,rfl,_,1000,envFor04 sm0_ok _ _ _,rfl,h⟩
  | [],[]=>
   obtain ⟨hv,hb',h⟩:=pad_nn t (Q:=fun o H' _=>H'=[]∧(∃v,o=.ret v∧old 0 v=true∧noY v=true)∧Q o H) (fin _ (by rw[pad_nil,List.nil_append]))
   exact ⟨rfl,rfl,_,1000,envFor04 sm0_ok _ _ _,rfl,h⟩
 ·exact hc.elim
def cPaddedV:Con:=fun args H Q=>lendL [1] H args fun a=>cPadded a H Q
theorem padded_ok:ValidF Tryz.prog gl0 167 cPaddedV:=valid_view padded_raw gl0_noY [1] fun args H Q hc=>by
 unfold cPadded at hc
 split at hc
 ·obtain ⟨h,hq⟩:=hc
  exact ⟨h,fun t ht=>⟨rfl,⟨_,rfl,rfl⟩,hq t ht⟩⟩
 ·exact hc.elim
end Go.Proofs.YtnhechnaemmdiaaGreatDoor
