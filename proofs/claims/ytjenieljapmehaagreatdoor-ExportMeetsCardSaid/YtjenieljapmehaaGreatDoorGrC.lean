/-
  Chapter 4: padded is proved.
-/
import Derived.Test.YtjenieljapmehaaGreatDoorGrB
set_option linter.unusedSimpArgs false
set_option linter.unusedVariables false
namespace Go.Proofs.YtjenieljapmehaaGreatDoor.Rc
open Go.RowKit
set_option maxRecDepth 1000000

def upM (n:Nat):Nat:=(16-n%16)%16
def padM (a:List UInt8):List UInt8:=a++List.replicate (upM a.length) 0
theorem z8_of (j:Nat):z8M j=ofBytes (List.replicate j 0):=by simp[z8M,ofBytes]
theorem ofB_app (a b:List UInt8):ofBytes a++ofBytes b=ofBytes (a++b):=by simp[ofBytes]
theorem ofB_one:[AV.int .u8 0]=ofBytes [0]:=rfl
theorem oneL_ofB (l:List UInt8):oneL (ofBytes l)=true:=by
 induction l with
 | nil=>rfl
 | cons x l ih=>simpa [ofBytes,oneL,one] using ih
theorem toB_ofB (l:List UInt8):(ofBytes l).map toB=l:=by
 simp only[ofBytes,List.map_map]
 conv=>rhs;rw[←List.map_id l]
 congr 1
 funext x
 simp[toB]
theorem strB {L:List UInt8} {n m:Nat} (hn:n=L.length) (hm:m=0):List.map toB (List.take n (List.drop m (ofBytes L)))=L:=by
 subst hn hm
 rw[List.drop_zero,List.take_of_length_le (by rw[ofB_len];omega),toB_ofB]
theorem rep_succ (j:Nat):List.replicate j (0:UInt8)++[0]=List.replicate (j+1) 0:=by rw[List.replicate_succ']

theorem allU8_take (n m:Nat) (l:List UInt8):allU8 (List.take n (List.drop m (ofBytes l)))=true:=by
 have e:List.take n (List.drop m (ofBytes l))=ofBytes ((l.drop m).take n):=by simp[ofBytes]
 rw[e]
 exact allU8_ofB _
theorem pad_aa (t:Nat) (x y:UInt8) (a b:List UInt8) (Q:Out→List Blk→Gh→Prop) (ha:(x::a).length≤4611686018) (hb2:(y::b).length≤4611686018) (hq:Q (.ret (.str (padM (x::a)++padM (y::b)))) [] {}):∃hv hb,goal_65aa hv hb t x y a b Q:=by
 obtain ⟨hv,hb',e⟩:∃hv hb,goal_65aa hv hb t x y a b Q=_:=⟨_,_,vc_65aa t x y a b Q⟩
 refine ⟨hv,hb',e.mpr ?_⟩
 clear e
 refine ⟨_,rfl, ?_⟩
 have hA0:0<(x::a).length:=by simp
 have hB0:0<(y::b).length:=by simp
 generalize x::a=A at *
 generalize y::b=B at *
 simp only[z8_of,ofB_app,ofB_one,ofB_len,oneL_ofB,oldL_ofB]
 refine ckI (by first | (simp only[Bool.and_eq_true,Bool.and_true,Bool.true_and,decide_eq_true_eq,blt_iff,Nat.ble_eq,nbeq,cellsI_len,List.length_append,List.length_cons,List.length_nil,Int.toNat_natCast,and_true,true_and,Bool.or_eq_true,Bool.not_eq_true',bne_iff_ne,ne_eq];done) | (simp only[Bool.and_eq_true,Bool.and_true,Bool.true_and,decide_eq_true_eq,blt_iff,Nat.ble_eq,nbeq,cellsI_len,List.length_append,List.length_cons,List.length_nil,Int.toNat_natCast,and_true,true_and,Bool.or_eq_true,Bool.not_eq_true',bne_iff_ne,ne_eq];omega) | rfl | (simp;done) | (simp;omega)) (ckI (by first | (simp only[Bool.and_eq_true,Bool.and_true,Bool.true_and,decide_eq_true_eq,blt_iff,Nat.ble_eq,nbeq,cellsI_len,List.length_append,List.length_cons,List.length_nil,Int.toNat_natCast,and_true,true_and,Bool.or_eq_true,Bool.not_eq_true',bne_iff_ne,ne_eq];done) | (simp only[Bool.and_eq_true,Bool.and_true,Bool.true_and,decide_eq_true_eq,blt_iff,Nat.ble_eq,nbeq,cellsI_len,List.length_append,List.length_cons,List.length_nil,Int.toNat_natCast,and_true,true_and,Bool.or_eq_true,Bool.not_eq_true',bne_iff_ne,ne_eq];omega) | rfl | (simp;done) | (simp;omega)) (ckI (by first | (simp only[Bool.and_eq_true,Bool.and_true,Bool.true_and,decide_eq_true_eq,blt_iff,Nat.ble_eq,nbeq,cellsI_len,List.length_append,List.length_cons,List.length_nil,Int.toNat_natCast,and_true,true_and,Bool.or_eq_true,Bool.not_eq_true',bne_iff_ne,ne_eq];done) | (simp only[Bool.and_eq_true,Bool.and_true,Bool.true_and,decide_eq_true_eq,blt_iff,Nat.ble_eq,nbeq,cellsI_len,List.length_append,List.length_cons,List.length_nil,Int.toNat_natCast,and_true,true_and,Bool.or_eq_true,Bool.not_eq_true',bne_iff_ne,ne_eq];omega) | rfl | (simp;done) | (simp;omega)) ⟨⟨0,⟨by omega⟩,by simp⟩, ?_⟩))
 rintro j ⟨hj⟩
 refine ckI (by first | (simp only[Bool.and_eq_true,Bool.and_true,Bool.true_and,decide_eq_true_eq,blt_iff,Nat.ble_eq,nbeq,cellsI_len,List.length_append,List.length_replicate,List.length_append,List.length_cons,List.length_nil,Int.toNat_natCast,and_true,true_and,Bool.or_eq_true,Bool.not_eq_true',bne_iff_ne,ne_eq];done) | (simp only[Bool.and_eq_true,Bool.and_true,Bool.true_and,decide_eq_true_eq,blt_iff,Nat.ble_eq,nbeq,cellsI_len,List.length_append,List.length_replicate,List.length_append,List.length_cons,List.length_nil,Int.toNat_natCast,and_true,true_and,Bool.or_eq_true,Bool.not_eq_true',bne_iff_ne,ne_eq];omega) | rfl | (simp;done) | (simp;omega)) ⟨_,rfl,_,rfl, ?_⟩
 have htj:(((A.length+j:Nat):Int)).tmod 16=(((A.length+j)%16:Nat):Int):=by rw[Int.tmod_eq_emod_of_nonneg (by omega)];omega
 rw[htj]
 refine splitNE (fun hne => ?_) (fun heqj => ?_)
 ·refine ckI (by first | (simp only[Bool.and_eq_true,Bool.and_true,Bool.true_and,decide_eq_true_eq,blt_iff,Nat.ble_eq,nbeq,cellsI_len,List.length_append,List.length_replicate,List.length_append,List.length_cons,List.length_nil,Int.toNat_natCast,and_true,true_and,Bool.or_eq_true,Bool.not_eq_true',bne_iff_ne,ne_eq];done) | (simp only[Bool.and_eq_true,Bool.and_true,Bool.true_and,decide_eq_true_eq,blt_iff,Nat.ble_eq,nbeq,cellsI_len,List.length_append,List.length_replicate,List.length_append,List.length_cons,List.length_nil,Int.toNat_natCast,and_true,true_and,Bool.or_eq_true,Bool.not_eq_true',bne_iff_ne,ne_eq];omega) | rfl | (simp;done) | (simp;omega)) ⟨by simp,⟨trivial,trivial⟩,j+1,⟨by omega⟩,by omega, ?_⟩
  rw[List.append_assoc _ (List.replicate j 0) [0],rep_succ]
  simp[Nat.add_assoc]
 ·refine ⟨_,rfl,ckI (by first | (simp only[Bool.and_eq_true,Bool.and_true,Bool.true_and,decide_eq_true_eq,blt_iff,Nat.ble_eq,nbeq,cellsI_len,List.length_append,List.length_cons,List.length_nil,Int.toNat_natCast,and_true,true_and,Bool.or_eq_true,Bool.not_eq_true',bne_iff_ne,ne_eq];done) | (simp only[Bool.and_eq_true,Bool.and_true,Bool.true_and,decide_eq_true_eq,blt_iff,Nat.ble_eq,nbeq,cellsI_len,List.length_append,List.length_cons,List.length_nil,Int.toNat_natCast,and_true,true_and,Bool.or_eq_true,Bool.not_eq_true',bne_iff_ne,ne_eq];omega) | rfl | (simp;done) | (simp;omega)) (ckI (by first | (simp only[Bool.and_eq_true,Bool.and_true,Bool.true_and,decide_eq_true_eq,blt_iff,Nat.ble_eq,nbeq,cellsI_len,List.length_append,List.length_cons,List.length_nil,Int.toNat_natCast,and_true,true_and,Bool.or_eq_true,Bool.not_eq_true',bne_iff_ne,ne_eq];done) | (simp only[Bool.and_eq_true,Bool.and_true,Bool.true_and,decide_eq_true_eq,blt_iff,Nat.ble_eq,nbeq,cellsI_len,List.length_append,List.length_cons,List.length_nil,Int.toNat_natCast,and_true,true_and,Bool.or_eq_true,Bool.not_eq_true',bne_iff_ne,ne_eq];omega) | rfl | (simp;done) | (simp;omega)) (ckI (by first | (simp only[Bool.and_eq_true,Bool.and_true,Bool.true_and,decide_eq_true_eq,blt_iff,Nat.ble_eq,nbeq,cellsI_len,List.length_append,List.length_replicate,List.length_append,List.length_cons,List.length_nil,Int.toNat_natCast,and_true,true_and,Bool.or_eq_true,Bool.not_eq_true',bne_iff_ne,ne_eq];done) | (simp only[Bool.and_eq_true,Bool.and_true,Bool.true_and,decide_eq_true_eq,blt_iff,Nat.ble_eq,nbeq,cellsI_len,List.length_append,List.length_replicate,List.length_append,List.length_cons,List.length_nil,Int.toNat_natCast,and_true,true_and,Bool.or_eq_true,Bool.not_eq_true',bne_iff_ne,ne_eq];omega) | rfl | (simp;done) | (simp;omega)) ⟨⟨0,⟨by omega⟩,by simp⟩, ?_⟩))⟩
  rintro k ⟨hk⟩
  refine ckI (by first | (simp only[Bool.and_eq_true,Bool.and_true,Bool.true_and,decide_eq_true_eq,blt_iff,Nat.ble_eq,nbeq,cellsI_len,List.length_append,List.length_replicate,List.length_append,List.length_cons,List.length_nil,Int.toNat_natCast,and_true,true_and,Bool.or_eq_true,Bool.not_eq_true',bne_iff_ne,ne_eq];done) | (simp only[Bool.and_eq_true,Bool.and_true,Bool.true_and,decide_eq_true_eq,blt_iff,Nat.ble_eq,nbeq,cellsI_len,List.length_append,List.length_replicate,List.length_append,List.length_cons,List.length_nil,Int.toNat_natCast,and_true,true_and,Bool.or_eq_true,Bool.not_eq_true',bne_iff_ne,ne_eq];omega) | rfl | (simp;done) | (simp;omega)) ⟨_,rfl,_,rfl, ?_⟩
  have htk:(((A.length+j+B.length+k:Nat):Int)).tmod 16=(((A.length+j+B.length+k)%16:Nat):Int):=by rw[Int.tmod_eq_emod_of_nonneg (by omega)];omega
  rw[htk]
  refine splitNE (fun hne => ?_) (fun heqk => ?_)
  ·refine ckI (by first | (simp only[Bool.and_eq_true,Bool.and_true,Bool.true_and,decide_eq_true_eq,blt_iff,Nat.ble_eq,nbeq,cellsI_len,List.length_append,List.length_replicate,List.length_append,List.length_cons,List.length_nil,Int.toNat_natCast,and_true,true_and,Bool.or_eq_true,Bool.not_eq_true',bne_iff_ne,ne_eq];done) | (simp only[Bool.and_eq_true,Bool.and_true,Bool.true_and,decide_eq_true_eq,blt_iff,Nat.ble_eq,nbeq,cellsI_len,List.length_append,List.length_replicate,List.length_append,List.length_cons,List.length_nil,Int.toNat_natCast,and_true,true_and,Bool.or_eq_true,Bool.not_eq_true',bne_iff_ne,ne_eq];omega) | rfl | (simp;done) | (simp;omega)) ⟨by simp,⟨trivial,trivial⟩,k+1,⟨by omega⟩,by omega, ?_⟩
   rw[List.append_assoc _ (List.replicate k 0) [0],rep_succ]
   simp[Nat.add_assoc]
  ·refine ckI (by first | (simp only[Bool.and_eq_true,Bool.and_true,Bool.true_and,decide_eq_true_eq,blt_iff,Nat.ble_eq,nbeq,cellsI_len,List.length_append,List.length_replicate,allU8_take,List.length_append,List.length_cons,List.length_nil,Int.toNat_natCast,and_true,true_and,Bool.or_eq_true,Bool.not_eq_true',bne_iff_ne,ne_eq];done) | (simp only[Bool.and_eq_true,Bool.and_true,Bool.true_and,decide_eq_true_eq,blt_iff,Nat.ble_eq,nbeq,cellsI_len,List.length_append,List.length_replicate,allU8_take,List.length_append,List.length_cons,List.length_nil,Int.toNat_natCast,and_true,true_and,Bool.or_eq_true,Bool.not_eq_true',bne_iff_ne,ne_eq];omega) | rfl | (simp;done) | (simp;omega)) ⟨_,rfl, ?_⟩
   rw[strB (by simp only[List.length_append,List.length_replicate]) rfl]
   have hk2:k=upM B.length:=by unfold upM;omega
   have hj2:j=upM A.length:=by unfold upM;omega
   rw[hk2,hj2]
   simp only[padM,List.append_assoc] at hq ⊢
   exact hq
theorem pad_na (t:Nat) (y:UInt8) (b:List UInt8) (Q:Out→List Blk→Gh→Prop) (hb2:(y::b).length≤4611686018) (hq:Q (.ret (.str (padM (y::b)))) [] {}):∃hv hb,goal_65na hv hb t y b Q:=by
 obtain ⟨hv,hb',e⟩:∃hv hb,goal_65na hv hb t y b Q=_:=⟨_,_,vc_65na t y b Q⟩
 refine ⟨hv,hb',e.mpr ?_⟩
 clear e
 have hB0:0<(y::b).length:=by simp
 generalize y::b=B at *
 simp only[z8_of,ofB_app,ofB_one,ofB_len,oneL_ofB,oldL_ofB]
 refine ⟨⟨0,⟨trivial⟩,by simp⟩, ?_⟩
 intro _ _
 refine ⟨_,rfl,_,rfl,splitNE (fun h=>absurd rfl h) (fun _ => ?_)⟩
 refine ckI (by first | (simp only[Bool.and_eq_true,Bool.and_true,Bool.true_and,decide_eq_true_eq,blt_iff,Nat.ble_eq,nbeq,cellsI_len,List.length_append,List.length_cons,List.length_nil,Int.toNat_natCast,and_true,true_and,Bool.or_eq_true,Bool.not_eq_true',bne_iff_ne,ne_eq];done) | (simp only[Bool.and_eq_true,Bool.and_true,Bool.true_and,decide_eq_true_eq,blt_iff,Nat.ble_eq,nbeq,cellsI_len,List.length_append,List.length_cons,List.length_nil,Int.toNat_natCast,and_true,true_and,Bool.or_eq_true,Bool.not_eq_true',bne_iff_ne,ne_eq];omega) | rfl | (simp;done) | (simp;omega)) (ckI (by first | (simp only[Bool.and_eq_true,Bool.and_true,Bool.true_and,decide_eq_true_eq,blt_iff,Nat.ble_eq,nbeq,cellsI_len,List.length_append,List.length_cons,List.length_nil,Int.toNat_natCast,and_true,true_and,Bool.or_eq_true,Bool.not_eq_true',bne_iff_ne,ne_eq];done) | (simp only[Bool.and_eq_true,Bool.and_true,Bool.true_and,decide_eq_true_eq,blt_iff,Nat.ble_eq,nbeq,cellsI_len,List.length_append,List.length_cons,List.length_nil,Int.toNat_natCast,and_true,true_and,Bool.or_eq_true,Bool.not_eq_true',bne_iff_ne,ne_eq];omega) | rfl | (simp;done) | (simp;omega)) ⟨⟨0,⟨by omega⟩,by simp⟩, ?_⟩)
 rintro k ⟨hk⟩
 refine ckI (by first | (simp only[Bool.and_eq_true,Bool.and_true,Bool.true_and,decide_eq_true_eq,blt_iff,Nat.ble_eq,nbeq,cellsI_len,List.length_append,List.length_replicate,List.length_append,List.length_cons,List.length_nil,Int.toNat_natCast,and_true,true_and,Bool.or_eq_true,Bool.not_eq_true',bne_iff_ne,ne_eq];done) | (simp only[Bool.and_eq_true,Bool.and_true,Bool.true_and,decide_eq_true_eq,blt_iff,Nat.ble_eq,nbeq,cellsI_len,List.length_append,List.length_replicate,List.length_append,List.length_cons,List.length_nil,Int.toNat_natCast,and_true,true_and,Bool.or_eq_true,Bool.not_eq_true',bne_iff_ne,ne_eq];omega) | rfl | (simp;done) | (simp;omega)) ⟨_,rfl,_,rfl, ?_⟩
 have htk:(((B.length+k:Nat):Int)).tmod 16=(((B.length+k)%16:Nat):Int):=by rw[Int.tmod_eq_emod_of_nonneg (by omega)];omega
 rw[htk]
 refine splitNE (fun hne => ?_) (fun heqk => ?_)
 ·refine ckI (by first | (simp only[Bool.and_eq_true,Bool.and_true,Bool.true_and,decide_eq_true_eq,blt_iff,Nat.ble_eq,nbeq,cellsI_len,List.length_append,List.length_replicate,List.length_append,List.length_cons,List.length_nil,Int.toNat_natCast,and_true,true_and,Bool.or_eq_true,Bool.not_eq_true',bne_iff_ne,ne_eq];done) | (simp only[Bool.and_eq_true,Bool.and_true,Bool.true_and,decide_eq_true_eq,blt_iff,Nat.ble_eq,nbeq,cellsI_len,List.length_append,List.length_replicate,List.length_append,List.length_cons,List.length_nil,Int.toNat_natCast,and_true,true_and,Bool.or_eq_true,Bool.not_eq_true',bne_iff_ne,ne_eq];omega) | rfl | (simp;done) | (simp;omega)) ⟨by simp,⟨trivial,trivial⟩,k+1,⟨by omega⟩,by omega, ?_⟩
  rw[List.append_assoc _ (List.replicate k 0) [0],rep_succ]
  simp[Nat.add_assoc]
 ·refine ckI (by first | (simp only[Bool.and_eq_true,Bool.and_true,Bool.true_and,decide_eq_true_eq,blt_iff,Nat.ble_eq,nbeq,cellsI_len,List.length_append,List.length_replicate,allU8_take,List.length_append,List.length_cons,List.length_nil,Int.toNat_natCast,and_true,true_and,Bool.or_eq_true,Bool.not_eq_true',bne_iff_ne,ne_eq];done) | (simp only[Bool.and_eq_true,Bool.and_true,Bool.true_and,decide_eq_true_eq,blt_iff,Nat.ble_eq,nbeq,cellsI_len,List.length_append,List.length_replicate,allU8_take,List.length_append,List.length_cons,List.length_nil,Int.toNat_natCast,and_true,true_and,Bool.or_eq_true,Bool.not_eq_true',bne_iff_ne,ne_eq];omega) | rfl | (simp;done) | (simp;omega)) ⟨_,rfl, ?_⟩
  rw[strB (by simp only[List.length_append,List.length_replicate]) rfl]
  have hk2:k=upM B.length:=by unfold upM;omega
  rw[hk2]
  exact hq
theorem pad_an (t:Nat) (x:UInt8) (a:List UInt8) (Q:Out→List Blk→Gh→Prop) (ha:(x::a).length≤4611686018) (hq:Q (.ret (.str (padM (x::a)))) [] {}):∃hv hb,goal_65an hv hb t x a Q:=by
 obtain ⟨hv,hb',e⟩:∃hv hb,goal_65an hv hb t x a Q=_:=⟨_,_,vc_65an t x a Q⟩
 refine ⟨hv,hb',e.mpr ?_⟩
 clear e
 have hA0:0<(x::a).length:=by simp
 generalize x::a=A at *
 simp only[z8_of,ofB_app,ofB_one,ofB_len,oneL_ofB,oldL_ofB]
 refine ckI (by first | (simp only[Bool.and_eq_true,Bool.and_true,Bool.true_and,decide_eq_true_eq,blt_iff,Nat.ble_eq,nbeq,cellsI_len,List.length_append,List.length_cons,List.length_nil,Int.toNat_natCast,and_true,true_and,Bool.or_eq_true,Bool.not_eq_true',bne_iff_ne,ne_eq];done) | (simp only[Bool.and_eq_true,Bool.and_true,Bool.true_and,decide_eq_true_eq,blt_iff,Nat.ble_eq,nbeq,cellsI_len,List.length_append,List.length_cons,List.length_nil,Int.toNat_natCast,and_true,true_and,Bool.or_eq_true,Bool.not_eq_true',bne_iff_ne,ne_eq];omega) | rfl | (simp;done) | (simp;omega)) (ckI (by first | (simp only[Bool.and_eq_true,Bool.and_true,Bool.true_and,decide_eq_true_eq,blt_iff,Nat.ble_eq,nbeq,cellsI_len,List.length_append,List.length_cons,List.length_nil,Int.toNat_natCast,and_true,true_and,Bool.or_eq_true,Bool.not_eq_true',bne_iff_ne,ne_eq];done) | (simp only[Bool.and_eq_true,Bool.and_true,Bool.true_and,decide_eq_true_eq,blt_iff,Nat.ble_eq,nbeq,cellsI_len,List.length_append,List.length_cons,List.length_nil,Int.toNat_natCast,and_true,true_and,Bool.or_eq_true,Bool.not_eq_true',bne_iff_ne,ne_eq];omega) | rfl | (simp;done) | (simp;omega)) ⟨⟨0,⟨by omega⟩,by simp⟩, ?_⟩)
 rintro j ⟨hj⟩
 refine ckI (by first | (simp only[Bool.and_eq_true,Bool.and_true,Bool.true_and,decide_eq_true_eq,blt_iff,Nat.ble_eq,nbeq,cellsI_len,List.length_append,List.length_replicate,List.length_append,List.length_cons,List.length_nil,Int.toNat_natCast,and_true,true_and,Bool.or_eq_true,Bool.not_eq_true',bne_iff_ne,ne_eq];done) | (simp only[Bool.and_eq_true,Bool.and_true,Bool.true_and,decide_eq_true_eq,blt_iff,Nat.ble_eq,nbeq,cellsI_len,List.length_append,List.length_replicate,List.length_append,List.length_cons,List.length_nil,Int.toNat_natCast,and_true,true_and,Bool.or_eq_true,Bool.not_eq_true',bne_iff_ne,ne_eq];omega) | rfl | (simp;done) | (simp;omega)) ⟨_,rfl,_,rfl, ?_⟩
 have htj:(((A.length+j:Nat):Int)).tmod 16=(((A.length+j)%16:Nat):Int):=by rw[Int.tmod_eq_emod_of_nonneg (by omega)];omega
 rw[htj]
 refine splitNE (fun hne => ?_) (fun heqj => ?_)
 ·refine ckI (by first | (simp only[Bool.and_eq_true,Bool.and_true,Bool.true_and,decide_eq_true_eq,blt_iff,Nat.ble_eq,nbeq,cellsI_len,List.length_append,List.length_replicate,List.length_append,List.length_cons,List.length_nil,Int.toNat_natCast,and_true,true_and,Bool.or_eq_true,Bool.not_eq_true',bne_iff_ne,ne_eq];done) | (simp only[Bool.and_eq_true,Bool.and_true,Bool.true_and,decide_eq_true_eq,blt_iff,Nat.ble_eq,nbeq,cellsI_len,List.length_append,List.length_replicate,List.length_append,List.length_cons,List.length_nil,Int.toNat_natCast,and_true,true_and,Bool.or_eq_true,Bool.not_eq_true',bne_iff_ne,ne_eq];omega) | rfl | (simp;done) | (simp;omega)) ⟨by simp,⟨trivial,trivial⟩,j+1,⟨by omega⟩,by omega, ?_⟩
  rw[List.append_assoc _ (List.replicate j 0) [0],rep_succ]
  simp[Nat.add_assoc]
 ·refine ckI (by first | (simp only[Bool.and_eq_true,Bool.and_true,Bool.true_and,decide_eq_true_eq,blt_iff,Nat.ble_eq,nbeq,cellsI_len,List.length_append,List.length_replicate,List.length_append,List.length_cons,List.length_nil,Int.toNat_natCast,and_true,true_and,Bool.or_eq_true,Bool.not_eq_true',bne_iff_ne,ne_eq];done) | (simp only[Bool.and_eq_true,Bool.and_true,Bool.true_and,decide_eq_true_eq,blt_iff,Nat.ble_eq,nbeq,cellsI_len,List.length_append,List.length_replicate,List.length_append,List.length_cons,List.length_nil,Int.toNat_natCast,and_true,true_and,Bool.or_eq_true,Bool.not_eq_true',bne_iff_ne,ne_eq];omega) | rfl | (simp;done) | (simp;omega)) ⟨⟨0,⟨by omega⟩,by simp⟩, ?_⟩
  rintro k ⟨hk⟩
  refine ckI (by first | (simp only[Bool.and_eq_true,Bool.and_true,Bool.true_and,decide_eq_true_eq,blt_iff,Nat.ble_eq,nbeq,cellsI_len,List.length_append,List.length_replicate,List.length_append,List.length_cons,List.length_nil,Int.toNat_natCast,and_true,true_and,Bool.or_eq_true,Bool.not_eq_true',bne_iff_ne,ne_eq];done) | (simp only[Bool.and_eq_true,Bool.and_true,Bool.true_and,decide_eq_true_eq,blt_iff,Nat.ble_eq,nbeq,cellsI_len,List.length_append,List.length_replicate,List.length_append,List.length_cons,List.length_nil,Int.toNat_natCast,and_true,true_and,Bool.or_eq_true,Bool.not_eq_true',bne_iff_ne,ne_eq];omega) | rfl | (simp;done) | (simp;omega)) ⟨_,rfl,_,rfl, ?_⟩
  have htk:(((A.length+j+k:Nat):Int)).tmod 16=(((A.length+j+k)%16:Nat):Int):=by rw[Int.tmod_eq_emod_of_nonneg (by omega)];omega
  rw[htk]
  refine splitNE (fun hne => ?_) (fun heqk => ?_)
  ·refine ckI (by first | (simp only[Bool.and_eq_true,Bool.and_true,Bool.true_and,decide_eq_true_eq,blt_iff,Nat.ble_eq,nbeq,cellsI_len,List.length_append,List.length_replicate,List.length_append,List.length_cons,List.length_nil,Int.toNat_natCast,and_true,true_and,Bool.or_eq_true,Bool.not_eq_true',bne_iff_ne,ne_eq];done) | (simp only[Bool.and_eq_true,Bool.and_true,Bool.true_and,decide_eq_true_eq,blt_iff,Nat.ble_eq,nbeq,cellsI_len,List.length_append,List.length_replicate,List.length_append,List.length_cons,List.length_nil,Int.toNat_natCast,and_true,true_and,Bool.or_eq_true,Bool.not_eq_true',bne_iff_ne,ne_eq];omega) | rfl | (simp;done) | (simp;omega)) ⟨by simp,⟨trivial,trivial⟩,k+1,⟨by omega⟩,by omega, ?_⟩
   rw[List.append_assoc _ (List.replicate k 0) [0],rep_succ]
   simp[Nat.add_assoc]
  ·refine ckI (by first | (simp only[Bool.and_eq_true,Bool.and_true,Bool.true_and,decide_eq_true_eq,blt_iff,Nat.ble_eq,nbeq,cellsI_len,List.length_append,List.length_replicate,allU8_take,List.length_append,List.length_cons,List.length_nil,Int.toNat_natCast,and_true,true_and,Bool.or_eq_true,Bool.not_eq_true',bne_iff_ne,ne_eq];done) | (simp only[Bool.and_eq_true,Bool.and_true,Bool.true_and,decide_eq_true_eq,blt_iff,Nat.ble_eq,nbeq,cellsI_len,List.length_append,List.length_replicate,allU8_take,List.length_append,List.length_cons,List.length_nil,Int.toNat_natCast,and_true,true_and,Bool.or_eq_true,Bool.not_eq_true',bne_iff_ne,ne_eq];omega) | rfl | (simp;done) | (simp;omega)) ⟨_,rfl, ?_⟩
   rw[strB (by simp only[List.length_append,List.length_replicate]) rfl]
   have hk2:k=0:=by omega
   have hj2:j=upM A.length:=by unfold upM;omega
   rw[hk2,hj2]
   simp only[padM,List.replicate_zero,List.append_nil] at hq ⊢
   exact hq
theorem pad_nn (t:Nat) (Q:Out→List Blk→Gh→Prop) (hq:Q (.ret (.str [])) [] {}):∃hv hb,goal_65nn hv hb t Q:=by
 obtain ⟨hv,hb',e⟩:∃hv hb,goal_65nn hv hb t Q=_:=⟨_,_,vc_65nn t Q⟩
 refine ⟨hv,hb',e.mpr ?_⟩
 clear e
 exact ⟨⟨0,⟨trivial⟩,by simp⟩,fun _ _=>⟨⟨0,⟨trivial⟩,by simp⟩,fun _ _=>hq⟩⟩
theorem pad_nil:padM []=[]:=rfl
def cPadded:Con
 | [.lst _ [.str a,.str b] 2 1],H,K=>Lf (a.length≤4611686018∧b.length≤4611686018)∧∀t,Lf (t=padM a++padM b)→K (.ret (.str t)) H
 | _,_,_=>False
theorem padded_raw:ValidF Tryz.prog gl0 102 cPadded:=by
 refine valid_flat (enters_of (by kernel_rfl)) gl0_noY fun args H Q hc => ?_
 unfold cPadded at hc
 split at hc
 ·rename_i t a b
  obtain ⟨⟨h1,h2⟩,hq⟩:=hc
  have fin:∀z,z=padM a++padM b→([]:List Blk)=[]∧(∃v,Out.ret (.str z)=.ret v∧old 0 v=true∧noY v=true)∧Q (.ret (.str z)) H:=fun z hz=>⟨rfl,⟨_,rfl,rfl,rfl⟩,hq _ ⟨hz⟩⟩
  match a,b with
  | x::a,y::b=>
   obtain ⟨hv,hb',h⟩:=pad_aa t x y a b (Q:=fun o H' _=>H'=[]∧(∃v,o=.ret v∧old 0 v=true∧noY v=true)∧Q o H) h1 h2 (fin _ rfl)
   exact ⟨rfl,rfl,_,1000,envFor04 sm0_ok _ _ _,rfl,h⟩
  | [],y::b=>
   obtain ⟨hv,hb',h⟩:=pad_na t y b (Q:=fun o H' _=>H'=[]∧(∃v,o=.ret v∧old 0 v=true∧noY v=true)∧Q o H) h2 (fin _ (by rw[pad_nil,List.nil_append]))
   exact ⟨rfl,rfl,_,1000,envFor04 sm0_ok _ _ _,rfl,h⟩
  | x::a,[]=>
   obtain ⟨hv,hb',h⟩:=pad_an t x a (Q:=fun o H' _=>H'=[]∧(∃v,o=.ret v∧old 0 v=true∧noY v=true)∧Q o H) h1 (fin _ (by rw[pad_nil,List.append_nil]))
   exact ⟨rfl,rfl,_,1000,envFor04 sm0_ok _ _ _,rfl,h⟩
  | [],[]=>
   obtain ⟨hv,hb',h⟩:=pad_nn t (Q:=fun o H' _=>H'=[]∧(∃v,o=.ret v∧old 0 v=true∧noY v=true)∧Q o H) (fin _ (by rw[pad_nil,List.nil_append]))
   exact ⟨rfl,rfl,_,1000,envFor04 sm0_ok _ _ _,rfl,h⟩
 ·exact hc.elim
def cPaddedV:Con:=fun args H Q=>lendL [1] H args fun a=>cPadded a H Q
theorem padded_ok:ValidF Tryz.prog gl0 102 cPaddedV:=valid_view padded_raw gl0_noY [1] fun args H Q hc=>by
 unfold cPadded at hc
 split at hc
 ·obtain ⟨h,hq⟩:=hc
  exact ⟨h,fun t ht=>⟨rfl,⟨_,rfl,rfl⟩,hq t ht⟩⟩
 ·exact hc.elim
end Go.Proofs.YtjenieljapmehaaGreatDoor.Rc

set_option linter.unusedSimpArgs false
set_option linter.unusedVariables false
namespace Go.Proofs.YtjenieljapmehaaGreatDoor.Rc
open Go.RowKit
set_option maxRecDepth 1000000

def sizeM (n:Nat):List UInt8:=[UInt8.ofNat (n%256),UInt8.ofNat (n/256%256),0,0,0,0,0,0]
def sz8M (a b:Nat):List AV:=[.int .u8 (a:Int),.int .u8 (b:Int),.int .u8 0,.int .u8 0,.int .u8 0,.int .u8 0,.int .u8 0,.int .u8 0]
def inv_66 (n i a b r:Nat) (p:Prop):LInv where
 α:=Nat
 pre _:=Lf p
 st _:=⟨mkT [(3,.sl 0 8 0 8 1),(4,.int .i64 (i:Nat)),(5,.int .i64 (r:Nat))],[⟨.grow,true,sz8M a b⟩]⟩
 mu _:=2-i
noncomputable def env_66 (hv:Nat→Option Pa) (hb:Nat→Option Bool) (n:Nat):Env:=
 e04 sm0 (fun i=>bif Nat.beq i 103000 then some (fun _=>[[inv_66 n 0 0 0 n True,inv_66 n 1 (n%256) 0 (n/256) (0<n),inv_66 n 2 (n%256) (n/256%256) 0 (0<n/256)]]) else none) hv hb
noncomputable def goal_66 (hv:Nat→Option Pa) (hb:Nat→Option Bool) (s:List UInt8) (Q:Out→List Blk→Gh→Prop):Prop:=
 callx (env_66 hv hb s.length) (wpx (env_66 hv hb s.length) 1000) 103 [.str s] [] {} Q
theorem vc_66 (s:List UInt8) (Q:Out→List Blk→Gh→Prop):goal_66 (lookV [(421896,.int .i64),(421897,.int .i64),(421905,.int .i64),(421906,.int .u8),(421901,.int .i64),(421902,.int .i64),(421909,.str)]) (lookB []) s Q =
 (exI .i64 (s.length:Int) fun n_0=>((∃x_1:Nat,Lf True∧eqqQ [AV.int .u8 0,.int .u8 0,.int .u8 0,.int .u8 0,.int .u8 0,.int .u8 0,.int .u8 0,.int .u8 0]∧eqqQ (AV.sl 0 8 0 8 1)∧AV.int .i64 n_0=AV.int .i64 (s.length :
 Int)∧eqqQ (AV.int .i64 0)∧True)∨(∃x_1:Nat,Lf (0<s.length)∧[AV.int .u8 0,.int .u8 0,.int .u8 0,.int .u8 0,.int .u8 0,.int .u8 0,.int .u8 0,.int .u8 0]=[AV.int .u8 ((s.length%256:Nat):Int),.int .u8 0,.int .u8
 0,.int .u8 0,.int .u8 0,.int .u8 0,.int .u8 0,.int .u8 0]∧eqqQ (AV.sl 0 8 0 8 1)∧AV.int .i64 n_0=AV.int .i64 ((s.length/256:Nat):Int)∧AV.int .i64 0=AV.int .i64 1∧True)∨∃x_1:Nat,Lf (0<s.length/256)∧[AV.int
 .u8 0,.int .u8 0,.int .u8 0,.int .u8 0,.int .u8 0,.int .u8 0,.int .u8 0,.int .u8 0]=[AV.int .u8 ((s.length%256:Nat):Int),.int .u8 ((s.length/256%256:Nat):Int),.int .u8 0,.int .u8 0,.int .u8 0,.int .u8 0,.int
 .u8 0,.int .u8 0]∧eqqQ (AV.sl 0 8 0 8 1)∧AV.int .i64 n_0=AV.int .i64 0∧AV.int .i64 0=AV.int .i64 2∧True)∧(Nat→Lf True→exI .i64 (s.length:Int) fun n_1=>bif decide (n_1>0) then exI .i64 (s.length:Int) fun n_2=>
 exW .u8 n_2 fun n_3=>exI .i64 (s.length:Int) fun n_4=>exI .i64 (Int.fdiv n_4 256) fun n_5=>(True∧(0:Nat)=(0:Nat))∧((∃y_6:Nat,Lf True∧(2:Nat)<(2:Nat)∧[AV.int .u8 n_3,.int .u8 0,.int .u8 0,.int .u8 0,.int
 .u8 0,.int .u8 0,.int .u8 0,.int .u8 0]=[AV.int .u8 0,.int .u8 0,.int .u8 0,.int .u8 0,.int .u8 0,.int .u8 0,.int .u8 0,.int .u8 0]∧eqqQ (AV.sl 0 8 0 8 1)∧AV.int .i64 n_5=AV.int .i64 (s.length:Int)∧AV.int .i64 1 =
 AV.int .i64 0∧True)∨(∃y_6:Nat,Lf (0<s.length)∧(1:Nat)<(2:Nat)∧[AV.int .u8 n_3,.int .u8 0,.int .u8 0,.int .u8 0,.int .u8 0,.int .u8 0,.int .u8 0,.int .u8 0]=[AV.int .u8 ((s.length%256:Nat):Int),.int .u8
 0,.int .u8 0,.int .u8 0,.int .u8 0,.int .u8 0,.int .u8 0,.int .u8 0]∧eqqQ (AV.sl 0 8 0 8 1)∧AV.int .i64 n_5=AV.int .i64 ((s.length/256:Nat):Int)∧eqqQ (AV.int .i64 1)∧True)∨∃y_6:Nat,Lf (0<s.length/256)∧(0 :
 Nat)<(2:Nat)∧[AV.int .u8 n_3,.int .u8 0,.int .u8 0,.int .u8 0,.int .u8 0,.int .u8 0,.int .u8 0,.int .u8 0]=[AV.int .u8 ((s.length%256:Nat):Int),.int .u8 ((s.length/256%256:Nat):Int),.int .u8 0,.int .u8 0,
 .int .u8 0,.int .u8 0,.int .u8 0,.int .u8 0]∧eqqQ (AV.sl 0 8 0 8 1)∧AV.int .i64 n_5=AV.int .i64 0∧AV.int .i64 1=AV.int .i64 2∧True) else exS (.str [toB (.int .u8 0),toB (.int .u8 0),toB (.int .u8 0),toB (.int .u8 0),toB
 (.int .u8 0),toB (.int .u8 0),toB (.int .u8 0),toB (.int .u8 0)]) fun s_2=>Q (.ret (.str s_2)) [] {})∧(Nat→Lf (0<s.length)→exI .i64 ((s.length/256:Nat):Int) fun n_1=>bif decide (n_1>0) then exI .i64 ((s.length/256
 : Nat):Int) fun n_2=>exW .u8 n_2 fun n_3=>exI .i64 ((s.length/256:Nat):Int) fun n_4=>exI .i64 (Int.fdiv n_4 256) fun n_5=>(True∧(0:Nat)=(0:Nat))∧((∃y_6:Nat,Lf True∧(2:Nat)<(1:Nat)∧[AV.int .u8
 ((s.length%256:Nat):Int),.int .u8 n_3,.int .u8 0,.int .u8 0,.int .u8 0,.int .u8 0,.int .u8 0,.int .u8 0]=[AV.int .u8 0,.int .u8 0,.int .u8 0,.int .u8 0,.int .u8 0,.int .u8 0,.int .u8 0,.int .u8 0]∧eqqQ (AV.sl 0 8 0
 8 1)∧AV.int .i64 n_5=AV.int .i64 (s.length:Int)∧AV.int .i64 2=AV.int .i64 0∧True)∨(∃y_6:Nat,Lf (0<s.length)∧(1:Nat)<(1:Nat)∧[AV.int .u8 ((s.length%256:Nat):Int),.int .u8 n_3,.int .u8 0,.int .u8 0,
 .int .u8 0,.int .u8 0,.int .u8 0,.int .u8 0]=[AV.int .u8 ((s.length%256:Nat):Int),.int .u8 0,.int .u8 0,.int .u8 0,.int .u8 0,.int .u8 0,.int .u8 0,.int .u8 0]∧eqqQ (AV.sl 0 8 0 8 1)∧AV.int .i64 n_5=AV.int .i64
 ((s.length/256:Nat):Int)∧AV.int .i64 2=AV.int .i64 1∧True)∨∃y_6:Nat,Lf (0<s.length/256)∧(0:Nat)<(1:Nat)∧[AV.int .u8 ((s.length%256:Nat):Int),.int .u8 n_3,.int .u8 0,.int .u8 0,.int .u8 0,.int .u8
 0,.int .u8 0,.int .u8 0]=[AV.int .u8 ((s.length%256:Nat):Int),.int .u8 ((s.length/256%256:Nat):Int),.int .u8 0,.int .u8 0,.int .u8 0,.int .u8 0,.int .u8 0,.int .u8 0]∧eqqQ (AV.sl 0 8 0 8 1)∧AV.int .i64 n_5 =
 AV.int .i64 0∧eqqQ (AV.int .i64 2)∧True) else exS (.str [toB (.int .u8 ((s.length%256:Nat):Int)),toB (.int .u8 0),toB (.int .u8 0),toB (.int .u8 0),toB (.int .u8 0),toB (.int .u8 0),toB (.int .u8 0),toB (.int .u8 0)]) fun
 s_2=>Q (.ret (.str s_2)) [] {})∧(Nat→Lf (0<s.length/256)→exI .i64 0 fun n_1=>bif decide (n_1>0) then exI .i64 0 fun n_2=>exW .u8 n_2 fun n_3=>exI .i64 0 fun n_4=>exI .i64 (Int.fdiv n_4 256) fun n_5=>(True∧(0 :
 Nat)=(0:Nat))∧((∃y_6:Nat,Lf True∧(2:Nat)<(0:Nat)∧[AV.int .u8 ((s.length%256:Nat):Int),.int .u8 ((s.length/256%256:Nat):Int),.int .u8 n_3,.int .u8 0,.int .u8 0,.int .u8 0,.int .u8 0,.int .u8 0] =
 [AV.int .u8 0,.int .u8 0,.int .u8 0,.int .u8 0,.int .u8 0,.int .u8 0,.int .u8 0,.int .u8 0]∧eqqQ (AV.sl 0 8 0 8 1)∧AV.int .i64 n_5=AV.int .i64 (s.length:Int)∧AV.int .i64 3=AV.int .i64 0∧True)∨(∃y_6:Nat,Lf (0 <
 s.length)∧(1:Nat)<(0:Nat)∧[AV.int .u8 ((s.length%256:Nat):Int),.int .u8 ((s.length/256%256:Nat):Int),.int .u8 n_3,.int .u8 0,.int .u8 0,.int .u8 0,.int .u8 0,.int .u8 0]=[AV.int .u8 ((s.length%256:Nat)
 : Int),.int .u8 0,.int .u8 0,.int .u8 0,.int .u8 0,.int .u8 0,.int .u8 0,.int .u8 0]∧eqqQ (AV.sl 0 8 0 8 1)∧AV.int .i64 n_5=AV.int .i64 ((s.length/256:Nat):Int)∧AV.int .i64 3=AV.int .i64 1∧True)∨∃y_6:Nat,Lf
 (0<s.length/256)∧(0:Nat)<(0:Nat)∧[AV.int .u8 ((s.length%256:Nat):Int),.int .u8 ((s.length/256%256:Nat):Int),.int .u8 n_3,.int .u8 0,.int .u8 0,.int .u8 0,.int .u8 0,.int .u8 0]=[AV.int .u8 ((s.length %
 256:Nat):Int),.int .u8 ((s.length/256%256:Nat):Int),.int .u8 0,.int .u8 0,.int .u8 0,.int .u8 0,.int .u8 0,.int .u8 0]∧eqqQ (AV.sl 0 8 0 8 1)∧AV.int .i64 n_5=AV.int .i64 0∧AV.int .i64 3=AV.int .i64 2∧True)
 else exS (.str [toB (.int .u8 ((s.length%256:Nat):Int)),toB (.int .u8 ((s.length/256%256:Nat):Int)),toB (.int .u8 0),toB (.int .u8 0),toB (.int .u8 0),toB (.int .u8 0),toB (.int .u8 0),toB (.int .u8 0)]) fun s_2=>Q
 (.ret (.str s_2)) [] {})):=by kernel_rfl


theorem size_run (s:List UInt8) (Q:Out→List Blk→Gh→Prop) (hl:s.length<65536) (hq:Q (.ret (.str (sizeM s.length))) [] {}):∃hv hb,goal_66 hv hb s Q:=by
 obtain ⟨hv,hb',e⟩:∃hv hb,goal_66 hv hb s Q=_:=⟨_,_,vc_66 s Q⟩
 refine ⟨hv,hb',e.mpr ?_⟩
 clear e
 generalize s.length=n at *
 have f:∀m:Nat,Int.fdiv (m:Int) 256=((m/256:Nat):Int):=fun m=>fdivN m 256 256 rfl
 have t0:toB (.int .u8 0)=0:=rfl
 refine ⟨_,rfl,.inl ⟨0,⟨trivial⟩,by simp⟩, ?_, ?_, ?_⟩
 ·intro _ _
  refine ⟨_,rfl,splitD (fun h => ?_) (fun h => ?_)⟩
  ·refine ⟨_,rfl,_,by rw[u8_wrap],_,rfl,_,by rw[f],⟨trivial,rfl⟩,.inr (.inl ⟨0,⟨by omega⟩,by decide,by simp⟩)⟩
  ·obtain rfl:n=0:=by omega
   exact ⟨_,rfl,hq⟩
 ·rintro _ ⟨h0⟩
  refine ⟨_,rfl,splitD (fun h => ?_) (fun h => ?_)⟩
  ·refine ⟨_,rfl,_,by rw[u8_wrap],_,rfl,_,by rw[f],⟨trivial,rfl⟩,.inr (.inr ⟨0,⟨by omega⟩,by decide, ?_⟩)⟩
   have e0:n/256/256=0:=by omega
   simp[e0]
  ·have e1:n/256%256=0:=by omega
   refine ⟨_,rfl, ?_⟩
   rw[sizeM,e1] at hq
   simp only[toB_nat,t0]
   exact hq
 ·rintro _ ⟨h0⟩
  first
  | (refine ⟨_,rfl, ?_⟩
     simp only[toB_nat,t0]
     exact hq)
  | (refine ⟨_,rfl,splitD (fun h=>by omega) (fun h=>⟨_,rfl, ?_⟩)⟩
     simp only[toB_nat,t0]
     exact hq)
def cSize:Con
 | [.str s],H,K=>Lf (s.length<65536)∧∀t,Lf (t=sizeM s.length)→K (.ret (.str t)) H
 | _,_,_=>False
theorem size_ok:ValidF Tryz.prog gl0 103 cSize:=by
 refine valid_flat (enters_of (by kernel_rfl)) gl0_noY fun args H Q hc => ?_
 unfold cSize at hc
 split at hc
 ·rename_i s
  obtain ⟨⟨h1⟩,hq⟩:=hc
  obtain ⟨hv,hb',h⟩:=size_run s (Q:=fun o H' _=>H'=[]∧(∃v,o=.ret v∧old 0 v=true∧noY v=true)∧Q o H) h1 ⟨rfl,⟨_,rfl,rfl,rfl⟩,hq _ ⟨rfl⟩⟩
  exact ⟨rfl,rfl,_,1000,envFor04 sm0_ok _ _ _,rfl,h⟩
 ·exact hc.elim

def smM:SM:=lookS [(97,cBlock),(101,cTag),(102,cPaddedV),(103,cSize)]
theorem smM_ok:∀f g,smM f=some g→ValidF Tryz.prog gl0 f g:=lookS_ok _ (by simp only[List.mem_cons,List.not_mem_nil,or_false,forall_eq_or_imp,forall_eq];exact ⟨block_ok,tag_ok,padded_ok,size_ok⟩)
def checkM (key nonce extra hidden:List UInt8):List UInt8:=tagM ((blockM key nonce 0).1.take 32) (((padM extra++padM hidden)++sizeM extra.length)++sizeM hidden.length)
noncomputable def goal_40 (hv:Nat→Option Pa) (hb:Nat→Option Bool) (key nonce extra hidden:List UInt8) (Q:Out→List Blk→Gh→Prop):Prop:=
 callx (e04 smM (fun _=>none) hv hb) (wpx (e04 smM (fun _=>none) hv hb) 1000) 74 [.str key,.str nonce,.str extra,.str hidden] [] {} Q
theorem vc_40 (key:List UInt8) (nonce:List UInt8) (extra:List UInt8) (hidden:List UInt8) (Q:Out→List Blk→Gh→Prop):goal_40 (lookV [(303122,.str),(303129,.str),(303132,.str)]) (lookB []) key nonce extra hidden Q=(
(∀s_0:(List UInt8),(∀e_1:Int,((Lf ((blockM key nonce (0:Int))=(Prod.mk s_0 e_1))) →
(bif (Nat.ble (32:Nat) (List.length s_0)) then (∃s_2:(List UInt8),(((AV.str (List.take (32:Nat) (List.drop (0:Nat) s_0)))=(AV.str s_2)) ∧
 ((Lf (((List.length extra)≤(4611686018:Nat)) ∧
 ((List.length hidden)≤(4611686018:Nat)))) ∧
 (∀t_3:(List UInt8),((Lf (t_3=((padM extra)++(padM hidden)))) →
((Lf ((List.length extra)<(65536:Nat))) ∧
 (∀t_4:(List UInt8),((Lf (t_4=(sizeM (List.length extra)))) →
(bif ((decide (((List.length t_3)+(List.length t_4))≤(9223372036854775807:Nat)))&&true) then (∃s_5:(List UInt8),(((AV.str (t_3++t_4))=(AV.str s_5)) ∧
 ((Lf ((List.length hidden)<(65536:Nat))) ∧
 (∀t_6:(List UInt8),((Lf (t_6=(sizeM (List.length hidden)))) →
(bif ((decide (((List.length s_5)+(List.length t_6))≤(9223372036854775807:Nat)))&&true) then (∃s_7:(List UInt8),(((AV.str (s_5++t_6))=(AV.str s_7)) ∧
 ((Lf ((List.length s_2)=(32:Nat))) ∧
 (∀t_8:(List UInt8),((Lf (t_8=(tagM s_2 s_7))) →
(Q (Out.ret (AV.str t_8)) [] (Gh.mk (0:Nat) (0:Nat) [])))))))
else False))))))
else False)))))))))
else False))))):=by kernel_rfl

theorem pad_len (a:List UInt8):(padM a).length=a.length+upM a.length:=by simp[padM]
theorem checked_run (key nonce extra hidden:List UInt8) (Q:Out→List Blk→Gh→Prop) (hr:rightM key nonce 0=true) (h1:extra.length<65536) (h2:hidden.length<65536) (hq:Q (.ret (.str (checkM key nonce extra hidden))) [] {}):∃hv hb,goal_40 hv hb key nonce extra hidden Q:=by
 obtain ⟨hv,hb',e⟩:∃hv hb,goal_40 hv hb key nonce extra hidden Q=_:=⟨_,_,vc_40 key nonce extra hidden Q⟩
 refine ⟨hv,hb',e.mpr ?_⟩
 clear e
 have hbl:∀s e,blockM key nonce 0=(s,e)→s.length=64:=by
  intro s e h
  rw[blockM,if_pos hr] at h
  obtain ⟨rfl,_⟩:=Prod.mk.inj h
  rw[List.length_map,len_blk]
 intro s e ⟨hs⟩
 have h64:=hbl s e hs
 have hc:checkM key nonce extra hidden=tagM (s.take 32) (((padM extra++padM hidden)++sizeM extra.length)++sizeM hidden.length):=by rw[checkM,hs]
 rw[hc] at hq
 clear hc hbl hs
 have hp1:=pad_len extra
 have hp2:=pad_len hidden
 have hu1:upM extra.length≤16:=by unfold upM;omega
 have hu2:upM hidden.length≤16:=by unfold upM;omega
 have hz:∀n,(sizeM n).length=8:=fun _=>rfl
 refine ckI (by rw[h64];rfl) ⟨_,rfl,⟨by omega,by omega⟩,fun t3 h3=>⟨⟨h1⟩,fun t4 h4 => ?_⟩⟩
 have l3:t3.length=(padM extra).length+(padM hidden).length:=by rw[h3.h,List.length_append]
 have l4:t4.length=8:=by rw[h4.h,hz]
 refine ckI (by first | (simp only[Bool.and_eq_true,Bool.and_true,Bool.true_and,decide_eq_true_eq,blt_iff,Nat.ble_eq,nbeq,cellsI_len,List.length_append,List.length_cons,List.length_nil,Int.toNat_natCast,and_true,true_and,Bool.or_eq_true,Bool.not_eq_true',bne_iff_ne,ne_eq];done) | (simp only[Bool.and_eq_true,Bool.and_true,Bool.true_and,decide_eq_true_eq,blt_iff,Nat.ble_eq,nbeq,cellsI_len,List.length_append,List.length_cons,List.length_nil,Int.toNat_natCast,and_true,true_and,Bool.or_eq_true,Bool.not_eq_true',bne_iff_ne,ne_eq];omega) | rfl | (simp;done) | (simp;omega)) ⟨_,rfl,⟨h2⟩,fun t6 h6 => ?_⟩
 have l6:t6.length=8:=by rw[h6.h,hz]
 refine ckI (by first | (simp only[Bool.and_eq_true,Bool.and_true,Bool.true_and,decide_eq_true_eq,blt_iff,Nat.ble_eq,nbeq,cellsI_len,List.length_append,List.length_cons,List.length_nil,Int.toNat_natCast,and_true,true_and,Bool.or_eq_true,Bool.not_eq_true',bne_iff_ne,ne_eq];done) | (simp only[Bool.and_eq_true,Bool.and_true,Bool.true_and,decide_eq_true_eq,blt_iff,Nat.ble_eq,nbeq,cellsI_len,List.length_append,List.length_cons,List.length_nil,Int.toNat_natCast,and_true,true_and,Bool.or_eq_true,Bool.not_eq_true',bne_iff_ne,ne_eq];omega) | rfl | (simp;done) | (simp;omega)) ⟨_,rfl,⟨by rw[List.drop_zero,List.length_take,h64];rfl⟩,fun t8 h8 => ?_⟩
 rw[h8.h,h6.h,h4.h,h3.h,List.drop_zero]
 exact hq
def cChecked:Con
 | [.str key,.str nonce,.str extra,.str hidden],H,K=>Lf (rightM key nonce 0=true∧extra.length<65536∧hidden.length<65536)∧∀t,Lf (t=checkM key nonce extra hidden)→K (.ret (.str t)) H
 | _,_,_=>False
theorem checked_ok:ValidF Tryz.prog gl0 74 cChecked:=by
 refine valid_flat (enters_of (by kernel_rfl)) gl0_noY fun args H Q hc => ?_
 unfold cChecked at hc
 split at hc
 ·rename_i key nonce extra hidden
  obtain ⟨⟨h1,h2,h3⟩,hq⟩:=hc
  obtain ⟨hv,hb',h⟩:=checked_run key nonce extra hidden (Q:=fun o H' _=>H'=[]∧(∃v,o=.ret v∧old 0 v=true∧noY v=true)∧Q o H) h1 h2 h3 ⟨rfl,⟨_,rfl,rfl,rfl⟩,hq _ ⟨rfl⟩⟩
  exact ⟨rfl,rfl,_,1000,envFor04 smM_ok _ _ _,rfl,h⟩
 ·exact hc.elim
end Go.Proofs.YtjenieljapmehaaGreatDoor.Rc

set_option linter.unusedSimpArgs false
set_option linter.unusedVariables false
namespace Go.Proofs.YtjenieljapmehaaGreatDoor.Rc
open Go.RowKit
set_option maxRecDepth 1000000

def smN:SM:=lookS [(73,cApply),(97,cBlock),(101,cTag),(74,cChecked)]
theorem smN_ok:∀f g,smN f=some g→ValidF Tryz.prog gl0 f g:=lookS_ok _ (by simp only[List.mem_cons,List.not_mem_nil,or_false,forall_eq_or_imp,forall_eq];exact ⟨apply_ok,block_ok,tag_ok,checked_ok⟩)
noncomputable def eN (hv:Nat→Option Pa) (hb:Nat→Option Bool):Env:=e04 smN (fun _=>none) hv hb
noncomputable def goal_18 (hv:Nat→Option Pa) (hb:Nat→Option Bool) (key nonce extra plain:List UInt8) (Q:Out→List Blk→Gh→Prop):Prop:=
 callx (eN hv hb) (wpx (eN hv hb) 1000) 44 [.str key,.str nonce,.str extra,.str plain] [] {} Q
theorem vc_18 (key:List UInt8) (nonce:List UInt8) (extra:List UInt8) (plain:List UInt8) (Q:Out→List Blk→Gh→Prop):goal_18 (lookV [(180261,.str),(294935,.int .i64),(294939,.int .i64)]) (lookB []) key nonce extra plain Q
 = (∀s_0:List UInt8,∀e_1:Int,Lf (blockM key nonce 0=Prod.mk s_0 e_1)→bif e_1 !=0 then bif e_1 !=0 then Q (.ret (.tup [.str [],.int .i64 e_1])) [] {} else ∀t_2:List UInt8,∀e_3:Int,Lf (applyM key nonce 1 plain=Prod.mk
 t_2 e_3)→bif e_3 !=0 then Q (.ret (.tup [.str [],.int .i64 e_3])) [] {} else Lf (rightM key nonce 0=true∧extra.length<65536∧t_2.length<65536)∧∀t_4:List UInt8,Lf (t_4=checkM key nonce extra t_2)→ckQ (decide
 (t_2.length+t_4.length≤9223372036854775807)&&true) (exS (.str (t_2++t_4)) fun s_5=>Q (.ret (.tup [.str s_5,.int .i64 0])) [] {}) else exI .i64 (extra.length:Int) fun n_2=>bif decide (n_2>4096) then Q (.ret (.tup [.str [],
 .int .i64 3])) [] {} else exI .i64 (plain.length:Int) fun n_3=>bif decide (n_3>4096) then Q (.ret (.tup [.str [],.int .i64 3])) [] {} else ∀t_4:List UInt8,∀e_5:Int,Lf (applyM key nonce 1 plain=Prod.mk t_4 e_5)→bif e_5 !=
 0 then Q (.ret (.tup [.str [],.int .i64 e_5])) [] {} else Lf (rightM key nonce 0=true∧extra.length<65536∧t_4.length<65536)∧∀t_6:List UInt8,Lf (t_6=checkM key nonce extra t_4)→ckQ (decide (t_4.length+t_6.length ≤
 9223372036854775807)&&true) (exS (.str (t_4++t_6)) fun s_7=>Q (.ret (.tup [.str s_7,.int .i64 0])) [] {})):=by kernel_rfl


theorem app_len (w:W16):∀ (f:Nat) (c:Int) (s:List UInt8),s.length≤64*f→(appM w c f s).length=s.length
 | 0,c,s,h=>by
  have:s=[]:=List.length_eq_zero_iff.1 (by omega)
  rw[this];rfl
 | f+1,c,s,h=>by
  rw[appM]
  have hb:=len_blk w c
  split
  ·rw[zipX_len];omega
  ·rw[List.length_append,zipX_len,app_len w f (c+1) _ (by rw[List.length_drop];omega),List.length_take,List.length_drop];omega
theorem leB_len:∀n x,(leBM n x).length=n
 | 0,_=>rfl
 | n+1,x=>by rw[leBM,List.length_cons,leB_len]
theorem tag_len (key s:List UInt8):(tagM key s).length=16:=leB_len _ _
theorem check_len (k n e h:List UInt8):(checkM k n e h).length=16:=tag_len _ _
theorem right_one (key nonce:List UInt8) (b:Bool) (h:rightM key nonce 0=b):rightM key nonce 1=b:=by rw[←h];rfl
theorem apply_one {key nonce s:List UInt8} (hr:rightM key nonce 0=true) (hs:s.length≤4096):applyM key nonce 1 s=(appM (firstM key nonce) 1 70 s,0):=by
 rw[applyM,right_one key nonce true hr,if_neg (by simp),if_neg (by omega),if_neg (by omega)]

def sealM (key nonce extra plain:List UInt8):List UInt8×Int:=
 if rightM key nonce 0=false then ([],2) else if 4096<extra.length∨4096<plain.length then ([],3) else (appM (firstM key nonce) 1 70 plain++checkM key nonce extra (appM (firstM key nonce) 1 70 plain),0)
def cSeal:Con
 | [.str key,.str nonce,.str extra,.str plain],H,K=>∀t e,Lf (sealM key nonce extra plain=(t,e))→K (.ret (.tup [.str t,.int .i64 e])) H
 | _,_,_=>False
theorem block_err {key nonce:List UInt8} {s:List UInt8} {e:Int} (h:blockM key nonce 0=(s,e)):(rightM key nonce 0=false∧e=2)∨(rightM key nonce 0=true∧e=0):=by
 rw[blockM] at h
 split at h
 ·rename_i hr
  exact .inr ⟨hr,(Prod.mk.inj h).2.symm⟩
 ·rename_i hr
  refine .inl ⟨?_,(Prod.mk.inj h).2.symm⟩
  cases hb:rightM key nonce 0
  ·rfl
  ·exact absurd hb hr
theorem seal_ok:ValidF Tryz.prog gl0 44 cSeal:=by
 refine valid_flat (enters_of (by kernel_rfl)) gl0_noY fun args H Q hc => ?_
 unfold cSeal at hc
 split at hc
 ·rename_i key nonce extra plain
  refine ⟨rfl,rfl,_,1000,envFor04 smN_ok _ _ _,rfl,(vc_18 key nonce extra plain _).mpr ?_⟩
  intro s e ⟨hs⟩
  rcases block_err hs with ⟨hr,rfl⟩ | ⟨hr,rfl⟩
  ·refine splitNE (fun h=>splitNE (fun _ => ?_) (fun h2=>absurd h2 h)) (fun h=>by cases h)
   exact ⟨rfl,⟨_,rfl,rfl,rfl⟩,hc _ _ ⟨by rw[sealM,if_pos hr]⟩⟩
  ·refine splitNE (fun h=>absurd rfl h) (fun _=>⟨_,rfl,splitD (fun h2 => ?_) (fun h2=>⟨_,rfl,splitD (fun h3 => ?_) (fun h3 => ?_)⟩)⟩)
   ·exact ⟨rfl,⟨_,rfl,rfl,rfl⟩,hc _ _ ⟨by rw[sealM,if_neg (by simp[hr]),if_pos (by omega)]⟩⟩
   ·exact ⟨rfl,⟨_,rfl,rfl,rfl⟩,hc _ _ ⟨by rw[sealM,if_neg (by simp[hr]),if_pos (by omega)]⟩⟩
   ·intro t e ⟨ht⟩
    have hap:=apply_one hr (show plain.length≤4096 by omega)
    rw[hap] at ht
    obtain ⟨ht1,rfl⟩:=Prod.mk.inj ht
    have hl:=app_len (firstM key nonce) 70 1 plain (by omega)
    rw[ht1] at hl
    refine splitNE (fun h=>absurd rfl h) (fun _=>⟨⟨hr,by omega,by omega⟩,fun u hu => ?_⟩)
    have hul:u.length=16:=by rw[hu.h,check_len]
    refine ckI (by first | (simp only[Bool.and_eq_true,Bool.and_true,Bool.true_and,decide_eq_true_eq,blt_iff,Nat.ble_eq,nbeq,cellsI_len,List.length_append,List.length_cons,List.length_nil,Int.toNat_natCast,and_true,true_and,Bool.or_eq_true,Bool.not_eq_true',bne_iff_ne,ne_eq];done) | (simp only[Bool.and_eq_true,Bool.and_true,Bool.true_and,decide_eq_true_eq,blt_iff,Nat.ble_eq,nbeq,cellsI_len,List.length_append,List.length_cons,List.length_nil,Int.toNat_natCast,and_true,true_and,Bool.or_eq_true,Bool.not_eq_true',bne_iff_ne,ne_eq];omega) | rfl | (simp;done) | (simp;omega)) ⟨_,rfl, ?_⟩
    exact ⟨rfl,⟨_,rfl,rfl,rfl⟩,hc _ _ ⟨by rw[sealM,if_neg (by simp[hr]),if_neg (by omega),ht1,hu.h]⟩⟩
 ·exact hc.elim

theorem xor_zero_iff (a b:Nat):a ^^^ b=0↔a=b:=by
 constructor
 ·intro h
  have:a ^^^ b ^^^ b=0 ^^^ b:=by rw[h]
  rwa [Nat.xor_assoc,Nat.xor_self,Nat.xor_zero,Nat.zero_xor] at this
 ·rintro rfl
  exact Nat.xor_self _
theorem snoc_iff {a b:List UInt8} {x y:UInt8}:a++[x]=b++[y]↔a=b∧x=y:=
 ⟨fun h=>by have h2:=List.append_inj' h rfl;exact ⟨h2.1,by simpa using h2.2⟩,fun ⟨h,k⟩=>by rw[h,k]⟩
def inv_41 (a b:List UInt8):LInv where
 α:=Nat×Nat
 pre p:=Lf (p.1≤a.length∧p.2<256∧(p.2=0↔a.take p.1=b.take p.1))
 st p:=⟨mkT [(0,.str a),(1,.str b),(5,.int .u8 (p.2:Nat)),(8,.int .i64 a.length),(9,.int .i64 (p.1:Nat))],[]⟩
 mu p:=a.length-p.1
noncomputable def env_41 (hv:Nat→Option Pa) (hb:Nat→Option Bool) (a b:List UInt8):Env:=e04 sm0 (fun i=>bif Nat.beq i 108000 then some (fun _=>[[inv_41 a b]]) else none) hv hb
noncomputable def goal_41 (hv:Nat→Option Pa) (hb:Nat→Option Bool) (a b:List UInt8) (Q:Out→List Blk→Gh→Prop):Prop:=
 callx (env_41 hv hb a b) (wpx (env_41 hv hb a b) 1000) 108 [.str a,.str b] [] {} Q
theorem vc_41 (a:List UInt8) (b:List UInt8) (Q:Out→List Blk→Gh→Prop):goal_41 (lookV [(442376,.int .i64),(442383,.int .u8),(442386,.int .u8),(442387,.int .u8),(442388,.int .u8),(442389,.int .i64)]) (lookB []) a b Q =
 (exI .i64 (a.length:Int) fun n_0=>(∃x_1:Nat×Nat,Lf (x_1.1≤a.length∧x_1.2<256∧(x_1.2=0↔a.take x_1.1=b.take x_1.1))∧eqqQ (AV.str a)∧eqqQ (AV.str b)∧AV.int .u8 0=AV.int .u8 (x_1.2:Int)∧AV.int .i64 0 =
 AV.int .i64 (x_1.1:Int)∧AV.int .i64 n_0=AV.int .i64 (a.length:Int)∧True)∧∀x_1:Nat×Nat,Lf (x_1.1≤a.length∧x_1.2<256∧(x_1.2=0↔a.take x_1.1=b.take x_1.1))→bif decide ((x_1.1:Int)<(a.length:Int)) then
 ckQ (Nat.blt (x_1.1:Int).toNat a.length) (exI .u8 (UInt8.toNat (a.getD (x_1.1:Int).toNat (UInt8.ofNat 0)):Int) fun n_2=>ckQ (Nat.blt (x_1.1:Int).toNat b.length) (exI .u8 (UInt8.toNat (b.getD (x_1.1:Int).toNat (UInt8.ofNat 0)) :
 Int) fun n_3=>exW .u8 (((n_2%256).toNat ^^^ (n_3%256).toNat:Nat):Int) fun n_4=>exW .u8 ((((x_1.2:Int)%256).toNat ||| (n_4%256).toNat:Nat):Int) fun n_5=>exW .i64 ((x_1.1:Int)+1) fun n_6=>(True∧(0:Nat)=(0
 : Nat))∧∃y_7:Nat×Nat,Lf (y_7.1≤a.length∧y_7.2<256∧(y_7.2=0↔a.take y_7.1=b.take y_7.1))∧a.length-y_7.1<a.length-x_1.1∧eqqQ (AV.str a)∧eqqQ (AV.str b)∧AV.int .u8 n_5=AV.int .u8 (y_7.2:Int)∧AV.int
 .i64 n_6=AV.int .i64 (y_7.1:Int)∧eqqQ (AV.int .i64 (a.length:Int))∧True)) else bif (x_1.2:Int)==0 then Q (.ret (.bool true)) [] {} else Q (.ret (.bool false)) [] {}):=by kernel_rfl

theorem equal_run (a b:List UInt8) (Q:Out→List Blk→Gh→Prop) (h1:a.length=b.length) (h2:a.length≤4611686018) (hq:Q (.ret (.bool (decide (a=b)))) [] {}):∃hv hb,goal_41 hv hb a b Q:=by
 obtain ⟨hv,hb',e⟩:∃hv hb,goal_41 hv hb a b Q=_:=⟨_,_,vc_41 a b Q⟩
 refine ⟨hv,hb',e.mpr ?_⟩
 clear e
 refine ⟨_,rfl,⟨(0,0),⟨by simp,by simp,by simp⟩,by simp⟩, ?_⟩
 rintro ⟨i,d⟩ ⟨g1,g2,g3⟩
 dsimp only at *
 refine splitD (fun hlt => ?_) (fun hge => ?_)
 ·have hi:i<a.length:=by omega
  have hib:i<b.length:=by omega
  have ha:=(a.getD i 0).toNat_lt
  have hb:=(b.getD i 0).toNat_lt
  have hx:(a.getD i 0).toNat ^^^ (b.getD i 0).toNat<256:=Nat.xor_lt_two_pow (n:=8) ha hb
  have ho:d ||| ((a.getD i 0).toNat ^^^ (b.getD i 0).toNat)<256:=Nat.or_lt_two_pow (n:=8) g2 hx
  have m8:∀x:Nat,x<256→((x:Int)%256).toNat=x:=fun x h=>by omega
  have w8:∀x:Nat,x<256→IntKind.wrap .u8 (x:Int)=(x:Int):=fun x h=>by rw[u8_wrap,Nat.mod_eq_of_lt h]
  refine ckI (by first | (simp only[Bool.and_eq_true,Bool.and_true,Bool.true_and,decide_eq_true_eq,blt_iff,Nat.ble_eq,nbeq,cellsI_len,List.length_append,List.length_cons,List.length_nil,Int.toNat_natCast,and_true,true_and,Bool.or_eq_true,Bool.not_eq_true',bne_iff_ne,ne_eq];done) | (simp only[Bool.and_eq_true,Bool.and_true,Bool.true_and,decide_eq_true_eq,blt_iff,Nat.ble_eq,nbeq,cellsI_len,List.length_append,List.length_cons,List.length_nil,Int.toNat_natCast,and_true,true_and,Bool.or_eq_true,Bool.not_eq_true',bne_iff_ne,ne_eq];omega) | rfl | (simp;done) | (simp;omega)) ⟨_,rfl,ckI (by first | (simp only[Bool.and_eq_true,Bool.and_true,Bool.true_and,decide_eq_true_eq,blt_iff,Nat.ble_eq,nbeq,cellsI_len,List.length_append,List.length_cons,List.length_nil,Int.toNat_natCast,and_true,true_and,Bool.or_eq_true,Bool.not_eq_true',bne_iff_ne,ne_eq];done) | (simp only[Bool.and_eq_true,Bool.and_true,Bool.true_and,decide_eq_true_eq,blt_iff,Nat.ble_eq,nbeq,cellsI_len,List.length_append,List.length_cons,List.length_nil,Int.toNat_natCast,and_true,true_and,Bool.or_eq_true,Bool.not_eq_true',bne_iff_ne,ne_eq];omega) | rfl | (simp;done) | (simp;omega)) ⟨_,rfl, ?_⟩⟩
  rw[Int.toNat_natCast,show UInt8.ofNat 0=0 from rfl]
  refine ⟨_,by rw[m8 _ ha,m8 _ hb,w8 _ hx],_,by rw[m8 _ g2,m8 _ hx,w8 _ ho], ?_⟩
  refine wrapI (by omega) (by omega) ⟨⟨trivial,rfl⟩,(i+1,d ||| ((a.getD i 0).toNat ^^^ (b.getD i 0).toNat)),⟨hi,ho, ?_⟩, ?_,by simp⟩
  ·show d ||| ((a.getD i 0).toNat ^^^ (b.getD i 0).toNat)=0↔a.take (i+1)=b.take (i+1)
   rw[take_snocD a 0 hi,take_snocD b 0 hib,snoc_iff,←g3]
   rw[Nat.or_eq_zero_iff,xor_zero_iff,UInt8.toNat_inj]
  ·show a.length-(i+1)<a.length-i
   omega
 ·obtain rfl:i=a.length:=by omega
  have e1:a.take a.length=a:=List.take_length
  have e2:b.take a.length=b:=by rw[h1,List.take_length]
  rw[e1,e2] at g3
  refine splitE (fun h => ?_) (fun h => ?_)
  ·have:a=b:=g3.1 (by omega)
   rw[decide_eq_true this] at hq
   exact hq
  ·have:¬ a=b:=fun h2=>h (by have:=g3.2 h2;omega)
   rw[decide_eq_false this] at hq
   exact hq
def cEqual:Con
 | [.str a,.str b],H,K=>Lf (a.length=b.length∧a.length≤4611686018)∧∀t,Lf (t=decide (a=b))→K (.ret (.bool t)) H
 | _,_,_=>False
theorem equal_ok:ValidF Tryz.prog gl0 108 cEqual:=by
 refine valid_flat (enters_of (by kernel_rfl)) gl0_noY fun args H Q hc => ?_
 unfold cEqual at hc
 split at hc
 ·rename_i a b
  obtain ⟨⟨h1,h2⟩,hq⟩:=hc
  obtain ⟨hv,hb',h⟩:=equal_run a b (Q:=fun o H' _=>H'=[]∧(∃v,o=.ret v∧old 0 v=true∧noY v=true)∧Q o H) h1 h2 ⟨rfl,⟨_,rfl,rfl,rfl⟩,hq _ ⟨rfl⟩⟩
  exact ⟨rfl,rfl,_,1000,envFor04 sm0_ok _ _ _,rfl,h⟩
 ·exact hc.elim

def smO:SM:=lookS [(73,cApply),(97,cBlock),(74,cChecked),(108,cEqual)]
theorem smO_ok:∀f g,smO f=some g→ValidF Tryz.prog gl0 f g:=lookS_ok _ (by simp only[List.mem_cons,List.not_mem_nil,or_false,forall_eq_or_imp,forall_eq];exact ⟨apply_ok,block_ok,checked_ok,equal_ok⟩)
noncomputable def goal_20 (hv:Nat→Option Pa) (hb:Nat→Option Bool) (key nonce extra box:List UInt8) (Q:Out→List Blk→Gh→Prop):Prop:=
 callx (e04 smO (fun _=>none) hv hb) (wpx (e04 smO (fun _=>none) hv hb) 1000) 78 [.str key,.str nonce,.str extra,.str box] [] {} Q
theorem vc_20 (key:List UInt8) (nonce:List UInt8) (extra:List UInt8) (box:List UInt8) (Q:Out→List Blk→Gh→Prop):goal_20 (lookV [(319510,.int .i64),(319511,.int .i64),(319517,.str),(319523,.str),(319531,.str),
 (294935,.int .i64),(294939,.int .i64)]) (lookB []) key nonce extra box Q=(∀s_0:List UInt8,∀e_1:Int,Lf (blockM key nonce 0=Prod.mk s_0 e_1)→bif e_1 !=0 then bif e_1 !=0 then Q (.ret (.tup [.str [],.int .i64 e_1])) [] {}
 else exI .i64 (box.length:Int) fun n_2=>exW .i64 (n_2-16) fun n_3=>bif decide (n_3<0) then Q (.ret (.tup [.str [],.int .i64 7])) [] {} else ckQ (decide (0≤n_3)&&true&&Nat.ble n_3.toNat box.length&&Nat.ble box.length
 box.length) (exS (.str ((box.drop n_3.toNat).take (box.length-n_3.toNat))) fun s_4=>ckQ (decide (0≤n_3)&&true&&Nat.ble n_3.toNat box.length) (exS (.str ((box.drop 0).take (n_3.toNat-0))) fun s_5=>Lf (rightM key nonce 0=true
 ∧ extra.length<65536∧s_5.length<65536)∧∀t_6:List UInt8,Lf (t_6=checkM key nonce extra s_5)→Lf (s_4.length=t_6.length∧s_4.length≤4611686018)∧∀t_7:Bool,Lf (t_7=decide (s_4=t_6))→bif t_7 then ckQ (decide (0 ≤
 n_3)&&true&&Nat.ble n_3.toNat box.length) (exS (.str ((box.drop 0).take (n_3.toNat-0))) fun s_8=>∀t_9:List UInt8,∀e_10:Int,Lf (applyM key nonce 1 s_8=Prod.mk t_9 e_10)→Q (.ret (.tup [.str t_9,.int .i64 e_10])) [] {})
 else Q (.ret (.tup [.str [],.int .i64 9])) [] {})) else exI .i64 (extra.length:Int) fun n_2=>bif decide (n_2>4096) then Q (.ret (.tup [.str [],.int .i64 3])) [] {} else exI .i64 (box.length:Int) fun n_3=>bif decide (n_3>4112)
 then Q (.ret (.tup [.str [],.int .i64 3])) [] {} else exI .i64 (box.length:Int) fun n_4=>exW .i64 (n_4-16) fun n_5=>bif decide (n_5<0) then Q (.ret (.tup [.str [],.int .i64 7])) [] {} else ckQ (decide (0≤n_5)&&true &&
 Nat.ble n_5.toNat box.length&&Nat.ble box.length box.length) (exS (.str ((box.drop n_5.toNat).take (box.length-n_5.toNat))) fun s_6=>ckQ (decide (0≤n_5)&&true&&Nat.ble n_5.toNat box.length) (exS (.str ((box.drop 0).take
 (n_5.toNat-0))) fun s_7=>Lf (rightM key nonce 0=true∧extra.length<65536∧s_7.length<65536)∧∀t_8:List UInt8,Lf (t_8=checkM key nonce extra s_7)→Lf (s_6.length=t_8.length∧s_6.length≤4611686018)∧∀t_9:Bool,Lf
 (t_9=decide (s_6=t_8))→bif t_9 then ckQ (decide (0≤n_5)&&true&&Nat.ble n_5.toNat box.length) (exS (.str ((box.drop 0).take (n_5.toNat-0))) fun s_10=>∀t_11:List UInt8,∀e_12:Int,Lf (applyM key nonce 1 s_10=Prod.mk
 t_11 e_12)→Q (.ret (.tup [.str t_11,.int .i64 e_12])) [] {}) else Q (.ret (.tup [.str [],.int .i64 9])) [] {}))):=by kernel_rfl

def openM (key nonce extra box:List UInt8):List UInt8×Int:=
 if rightM key nonce 0=false then ([],2) else if 4096<extra.length∨4112<box.length then ([],3) else if box.length<16 then ([],7) else
  if box.drop (box.length-16)=checkM key nonce extra (box.take (box.length-16)) then (appM (firstM key nonce) 1 70 (box.take (box.length-16)),0) else ([],9)
def cOpen:Con
 | [.str key,.str nonce,.str extra,.str box],H,K=>∀t e,Lf (openM key nonce extra box=(t,e))→K (.ret (.tup [.str t,.int .i64 e])) H
 | _,_,_=>False
theorem open_ok:ValidF Tryz.prog gl0 78 cOpen:=by
 refine valid_flat (enters_of (by kernel_rfl)) gl0_noY fun args H Q hc => ?_
 unfold cOpen at hc
 split at hc
 ·rename_i key nonce extra box
  refine ⟨rfl,rfl,_,1000,⟨mixed04,names04,tabA_ok,smO_ok⟩,rfl,(vc_20 key nonce extra box _).mpr ?_⟩
  intro s e ⟨hs⟩
  rcases block_err hs with ⟨hr,rfl⟩ | ⟨hr,rfl⟩
  ·refine splitNE (fun h=>splitNE (fun _ => ?_) (fun h2=>absurd h2 h)) (fun h=>by cases h)
   exact ⟨rfl,⟨_,rfl,rfl,rfl⟩,hc _ _ ⟨by rw[openM,if_pos hr]⟩⟩
  ·refine splitNE (fun h=>absurd rfl h) (fun _=>⟨_,rfl,splitD (fun h2 => ?_) (fun h2=>⟨_,rfl,splitD (fun h3 => ?_) (fun h3 => ?_)⟩)⟩)
   ·exact ⟨rfl,⟨_,rfl,rfl,rfl⟩,hc _ _ ⟨by rw[openM,if_neg (by simp[hr]),if_pos (by omega)]⟩⟩
   ·exact ⟨rfl,⟨_,rfl,rfl,rfl⟩,hc _ _ ⟨by rw[openM,if_neg (by simp[hr]),if_pos (by omega)]⟩⟩
   ·refine ⟨_,rfl,wrapI (by omega) (by omega) (splitD (fun h4 => ?_) (fun h4 => ?_))⟩
    ·exact ⟨rfl,⟨_,rfl,rfl,rfl⟩,hc _ _ ⟨by rw[openM,if_neg (by simp[hr]),if_neg (by omega),if_pos (by omega)]⟩⟩
    ·have en:((box.length:Int)-16).toNat=box.length-16:=by omega
     rw[en]
     have e1:List.take (box.length-(box.length-16)) (List.drop (box.length-16) box)=box.drop (box.length-16):=List.take_of_length_le (by rw[List.length_drop];omega)
     have e2:List.take (box.length-16-0) (List.drop 0 box)=box.take (box.length-16):=by rw[Nat.sub_zero,List.drop_zero]
     rw[e1,e2]
     have hdl:(box.drop (box.length-16)).length=16:=by rw[List.length_drop];omega
     have htl:(box.take (box.length-16)).length=box.length-16:=by rw[List.length_take];omega
     refine ckI (by first | (simp only[Bool.and_eq_true,Bool.and_true,Bool.true_and,decide_eq_true_eq,blt_iff,Nat.ble_eq,nbeq,cellsI_len,List.length_append,List.length_cons,List.length_nil,Int.toNat_natCast,and_true,true_and,Bool.or_eq_true,Bool.not_eq_true',bne_iff_ne,ne_eq];done) | (simp only[Bool.and_eq_true,Bool.and_true,Bool.true_and,decide_eq_true_eq,blt_iff,Nat.ble_eq,nbeq,cellsI_len,List.length_append,List.length_cons,List.length_nil,Int.toNat_natCast,and_true,true_and,Bool.or_eq_true,Bool.not_eq_true',bne_iff_ne,ne_eq];omega) | rfl | (simp;done) | (simp;omega)) ⟨_,rfl,ckI (by first | (simp only[Bool.and_eq_true,Bool.and_true,Bool.true_and,decide_eq_true_eq,blt_iff,Nat.ble_eq,nbeq,cellsI_len,List.length_append,List.length_cons,List.length_nil,Int.toNat_natCast,and_true,true_and,Bool.or_eq_true,Bool.not_eq_true',bne_iff_ne,ne_eq];done) | (simp only[Bool.and_eq_true,Bool.and_true,Bool.true_and,decide_eq_true_eq,blt_iff,Nat.ble_eq,nbeq,cellsI_len,List.length_append,List.length_cons,List.length_nil,Int.toNat_natCast,and_true,true_and,Bool.or_eq_true,Bool.not_eq_true',bne_iff_ne,ne_eq];omega) | rfl | (simp;done) | (simp;omega)) ⟨_,rfl,⟨hr,by omega,by omega⟩,fun u hu=>⟨⟨by rw[hdl,hu.h,check_len],by omega⟩,fun b hb => ?_⟩⟩⟩
     by_cases heq:box.drop (box.length-16)=checkM key nonce extra (box.take (box.length-16))
     ·have hbt:b=true:=by rw[hb.h,hu.h];exact decide_eq_true heq
      rw[hbt]
      refine ckI (by first | (simp only[Bool.and_eq_true,Bool.and_true,Bool.true_and,decide_eq_true_eq,blt_iff,Nat.ble_eq,nbeq,cellsI_len,List.length_append,List.length_cons,List.length_nil,Int.toNat_natCast,and_true,true_and,Bool.or_eq_true,Bool.not_eq_true',bne_iff_ne,ne_eq];done) | (simp only[Bool.and_eq_true,Bool.and_true,Bool.true_and,decide_eq_true_eq,blt_iff,Nat.ble_eq,nbeq,cellsI_len,List.length_append,List.length_cons,List.length_nil,Int.toNat_natCast,and_true,true_and,Bool.or_eq_true,Bool.not_eq_true',bne_iff_ne,ne_eq];omega) | rfl | (simp;done) | (simp;omega)) ⟨_,rfl,fun t e ht => ?_⟩
      rw[apply_one hr (by omega)] at ht
      exact ⟨rfl,⟨_,rfl,rfl,rfl⟩,hc _ _ ⟨by rw[openM,if_neg (by simp[hr]),if_neg (by omega),if_neg (by omega),if_pos heq];exact ht.h⟩⟩
     ·have hbt:b=false:=by rw[hb.h,hu.h];exact decide_eq_false heq
      rw[hbt]
      exact ⟨rfl,⟨_,rfl,rfl,rfl⟩,hc _ _ ⟨by rw[openM,if_neg (by simp[hr]),if_neg (by omega),if_neg (by omega),if_neg heq]⟩⟩
 ·exact hc.elim
end Go.Proofs.YtjenieljapmehaaGreatDoor.Rc
