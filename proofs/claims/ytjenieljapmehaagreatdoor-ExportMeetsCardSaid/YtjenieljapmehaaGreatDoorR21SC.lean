/-
  Chapter 3: Block.
-/
import Derived.Test.YtjenieljapmehaaGreatDoorGrA
set_option linter.unusedSimpArgs false
set_option linter.unusedVariables false
namespace Go.Proofs.YtjenieljapmehaaGreatDoor.Rc
open Go.RowKit
set_option maxRecDepth 1000000

def cBlk:Con
 | [.agg cs,.int .i64 c],H,K=>∃w:W16,Lf (cs=w.cells)∧∀l:List Nat,Lf (l=blkM w c)→K (.ret (.agg (cells8NM l))) H
 | _,_,_=>False
theorem flat_8N (l:List Nat):oldL 0 (cells8NM l)=true∧noYL (cells8NM l)=true:=by
 induction l with
 | nil=>exact ⟨rfl,rfl⟩
 | cons x l ih=>exact ⟨by simpa [cells8NM,oldL,old] using ih.1,by simpa [cells8NM,noYL,noY] using ih.2⟩
theorem blk_ok:ValidF Tryz.prog gl0 122 cBlk:=by
 refine valid_flat (enters_of (by kernel_rfl)) gl0_noY fun args H Q hc => ?_
 unfold cBlk at hc
 split at hc
 ·rename_i cs c
  obtain ⟨w,⟨rfl⟩,hq⟩:=hc
  obtain ⟨hv,hb',h⟩:=blk_run w c (Q:=fun o H' _=>H'=[]∧(∃v,o=.ret v∧old 0 v=true∧noY v=true)∧Q o H) ⟨rfl,⟨_,rfl,by simpa [old] using (flat_8N _).1,by simpa [noY] using (flat_8N _).2⟩,hq _ ⟨rfl⟩⟩
  exact ⟨rfl,rfl,_,1000,envFor04 sm0_ok _ _ _,rfl,h⟩
 ·exact hc.elim
def smC:SM:=lookS [(122,cBlk)]
theorem smC_ok:∀f g,smC f=some g→ValidF Tryz.prog gl0 f g:=lookS_ok _ (by simp only[List.mem_cons,List.not_mem_nil,or_false,forall_eq];exact blk_ok)
def bytM (s:List UInt8) (i:Nat):Nat:=(s.getD i 0).toNat
def numM (s:List UInt8) (m:Nat):Nat:=((bytM s m ||| bytM s (m+1)*256) ||| bytM s (m+2)*65536) ||| bytM s (m+3)*16777216
theorem bytM_lt (s:List UInt8) (i:Nat):bytM s i<256:=(s.getD i 0).toNat_lt
theorem byt_take {s:List UInt8} {m i k:Nat} (h:k=s.length-m):(UInt8.toNat (List.getD (List.take k (List.drop m s)) i (UInt8.ofNat 0)))=bytM s (m+i):=by
 subst h
 have e:List.take (s.length-m) (List.drop m s)=List.drop m s:=List.take_of_length_le (by simp)
 rw[e,bytM,List.getD_eq_getElem?_getD,List.getElem?_drop,←List.getD_eq_getElem?_getD]
 rfl
theorem mod32u {x:Nat} (h:x<4294967296):IntKind.wrap .u32 (x:Int)=(x:Int):=by
 rw[u32_wrap,Nat.mod_eq_of_lt h]
theorem mulw (x:Nat) (M:Int) (n:Nat) (hM:M=(n:Int)) (h:x*n<4294967296):IntKind.wrap .u32 ((x:Int)*M)=((x*n:Nat):Int):=by
 subst hM
 rw[←Int.natCast_mul,mod32u h]
theorem orw (x y:Nat) (hx:x<4294967296) (hy:y<4294967296):IntKind.wrap .u32 (((((x:Int)%4294967296).toNat ||| ((y:Int)%4294967296).toNat:Nat)):Int)=((x ||| y:Nat):Int):=by
 rw[mod32,mod32,bits32 hx,bits32 hy,mod32u (Nat.or_lt_two_pow (n:=32) hx hy)]
theorem numI {cd:Bool} {s:List UInt8} {m:Nat} (hcd:cd=true) (hm:m+4≤s.length) {K:Int→Prop} (hk:K ((numM s m:Nat):Int)) :
 (bif cd then (∃s_5:(List UInt8),(((AV.str (List.take ((List.length s)-m) (List.drop m s)))=(AV.str s_5)) ∧
 (bif (Nat.blt (0:Nat) (List.length s_5)) then (∃n_6:Int,(((AV.int .u8 (Nat.cast (UInt8.toNat (List.getD s_5 (0:Nat) (UInt8.ofNat (0:Nat)))):Int))=(AV.int .u8 n_6)) ∧
 (∃n_7:Int,(((AV.int .u32 (IntKind.wrap .u32 n_6))=(AV.int .u32 n_7)) ∧
 (bif (Nat.blt (1:Nat) (List.length s_5)) then (∃n_8:Int,(((AV.int .u8 (Nat.cast (UInt8.toNat (List.getD s_5 (1:Nat) (UInt8.ofNat (0:Nat)))):Int))=(AV.int .u8 n_8)) ∧
 (∃n_9:Int,(((AV.int .u32 (IntKind.wrap .u32 n_8))=(AV.int .u32 n_9)) ∧
 (∃n_10:Int,(((AV.int .u32 (IntKind.wrap .u32 (n_9*(256:Int))))=(AV.int .u32 n_10)) ∧
 (∃n_11:Int,(((AV.int .u32 (IntKind.wrap .u32 (Nat.cast ((Int.toNat (n_7%(4294967296:Int))) ||| (Int.toNat (n_10%(4294967296:Int)))):Int)))=(AV.int .u32 n_11)) ∧
 (bif (Nat.blt (2:Nat) (List.length s_5)) then (∃n_12:Int,(((AV.int .u8 (Nat.cast (UInt8.toNat (List.getD s_5 (2:Nat) (UInt8.ofNat (0:Nat)))):Int))=(AV.int .u8 n_12)) ∧
 (∃n_13:Int,(((AV.int .u32 (IntKind.wrap .u32 n_12))=(AV.int .u32 n_13)) ∧
 (∃n_14:Int,(((AV.int .u32 (IntKind.wrap .u32 (n_13*(65536:Int))))=(AV.int .u32 n_14)) ∧
 (∃n_15:Int,(((AV.int .u32 (IntKind.wrap .u32 (Nat.cast ((Int.toNat (n_11%(4294967296:Int))) ||| (Int.toNat (n_14%(4294967296:Int)))):Int)))=(AV.int .u32 n_15)) ∧
 (bif (Nat.blt (3:Nat) (List.length s_5)) then (∃n_16:Int,(((AV.int .u8 (Nat.cast (UInt8.toNat (List.getD s_5 (3:Nat) (UInt8.ofNat (0:Nat)))):Int))=(AV.int .u8 n_16)) ∧
 (∃n_17:Int,(((AV.int .u32 (IntKind.wrap .u32 n_16))=(AV.int .u32 n_17)) ∧
 (∃n_18:Int,(((AV.int .u32 (IntKind.wrap .u32 (n_17*(16777216:Int))))=(AV.int .u32 n_18)) ∧
 (∃n_19:Int,(((AV.int .u32 (IntKind.wrap .u32 (Nat.cast ((Int.toNat (n_15%(4294967296:Int))) ||| (Int.toNat (n_18%(4294967296:Int)))):Int)))=(AV.int .u32 n_19))∧K n_19)))))))) else False))))))))) else False))))))))) else False))))) else False))) else False):=by
  subst hcd
  have b0:=bytM_lt s (m+0)
  have b1:=bytM_lt s (m+1)
  have b2:=bytM_lt s (m+2)
  have b3:=bytM_lt s (m+3)
  have o1:(bytM s (m+0) ||| bytM s (m+1)*256)<4294967296:=Nat.or_lt_two_pow (n:=32) (by omega) (by omega)
  have o2:((bytM s (m+0) ||| bytM s (m+1)*256) ||| bytM s (m+2)*65536)<4294967296:=Nat.or_lt_two_pow (n:=32) o1 (by omega)
  have hl:∀i,i<4→Nat.blt i (List.length (List.take (s.length-m) (List.drop m s)))=true:=fun i hi=>blt_t (by simp;omega)
  refine ⟨_,rfl,ckI (hl 0 (by omega)) ⟨_,rfl,_,by rw[byt_take rfl,mod32u (by omega)],ckI (hl 1 (by omega)) ⟨_,rfl,_,by rw[byt_take rfl,mod32u (by omega)],_,by rw[mulw _ 256 256 rfl (by omega)],_,by rw[orw _ _ (by omega) (by omega)],ckI (hl 2 (by omega)) ⟨_,rfl,_,by rw[byt_take rfl,mod32u (by omega)],_,by rw[mulw _ 65536 65536 rfl (by omega)],_,by rw[orw _ _ o1 (by omega)],ckI (hl 3 (by omega)) ⟨_,rfl,_,by rw[byt_take rfl,mod32u (by omega)],_,by rw[mulw _ 16777216 16777216 rfl (by omega)],_,by rw[orw _ _ o2 (by omega)];rfl,hk⟩⟩⟩⟩⟩
noncomputable def goal_24 (hv:Nat→Option Pa) (hb:Nat→Option Bool) (key nonce:List UInt8) (c:Int) (Q:Out→List Blk→Gh→Prop):Prop:=
 callx (e04 smC (fun _=>none) hv hb) (wpx (e04 smC (fun _=>none) hv hb) 1000) 97 [.str key,.str nonce,.int .i64 c] [] {} Q
theorem vc_24 (key:List UInt8) (nonce:List UInt8) (c:Int) (Q:Out→List Blk→Gh→Prop):goal_24 (lookV [(401416,.int .i64),(401420,.int .i64),(405513,.str),(405514,.str),(405516,.str),(405524,.str),(503812,.int .u8),
 (503813,.int .u32),(503815,.int .u8),(503816,.int .u32),(503817,.int .u32),(503818,.int .u32),(503820,.int .u8),(503821,.int .u32),(503822,.int .u32),(503823,.int .u32),(503825,.int .u8),(503826,.int .u32),(503827,
 .int .u32),(503828,.int .u32),(397332,.str)]) (lookB []) key nonce c Q=(exI .i64 (key.length:Int) fun n_0=>bif n_0==32 then exI .i64 (nonce.length:Int) fun n_1=>bif n_1==12 then bif decide (c≥0) then bif decide (c <
 4294967296) then ckQ (decide (16+key.length≤9223372036854775807)&&true) (exS (.str ([UInt8.ofNat 101,UInt8.ofNat 120,UInt8.ofNat 112,UInt8.ofNat 97,UInt8.ofNat 110,UInt8.ofNat 100,UInt8.ofNat 32,UInt8.ofNat 51,UInt8.ofNat 50,
 UInt8.ofNat 45,UInt8.ofNat 98,UInt8.ofNat 121,UInt8.ofNat 116,UInt8.ofNat 101,UInt8.ofNat 32,UInt8.ofNat 107]++key)) fun s_2=>ckQ (decide (s_2.length+4≤9223372036854775807)&&true) (exS (.str (s_2++[UInt8.ofNat 0,
 UInt8.ofNat 0,UInt8.ofNat 0,UInt8.ofNat 0])) fun s_3=>ckQ (decide (s_3.length+nonce.length≤9223372036854775807)&&true) (exS (.str (s_3++nonce)) fun s_4=>ckQ (Nat.ble s_4.length s_4.length) (exS (.str ((s_4.drop 0).take
 (s_4.length-0))) fun s_5=>ckQ (Nat.blt 0 s_5.length) (exI .u8 (UInt8.toNat (s_5.getD 0 (UInt8.ofNat 0)):Int) fun n_6=>exW .u32 n_6 fun n_7=>ckQ (Nat.blt 1 s_5.length) (exI .u8 (UInt8.toNat (s_5.getD 1 (UInt8.ofNat 0)):Int) fun
 n_8=>exW .u32 n_8 fun n_9=>exW .u32 (n_9*256) fun n_10=>exW .u32 (((n_7%4294967296).toNat ||| (n_10%4294967296).toNat:Nat):Int) fun n_11=>ckQ (Nat.blt 2 s_5.length) (exI .u8 (UInt8.toNat (s_5.getD 2 (UInt8.ofNat 0)) :
 Int) fun n_12=>exW .u32 n_12 fun n_13=>exW .u32 (n_13*65536) fun n_14=>exW .u32 (((n_11%4294967296).toNat ||| (n_14%4294967296).toNat:Nat):Int) fun n_15=>ckQ (Nat.blt 3 s_5.length) (exI .u8 (UInt8.toNat (s_5.getD 3
 (UInt8.ofNat 0)):Int) fun n_16=>exW .u32 n_16 fun n_17=>exW .u32 (n_17*16777216) fun n_18=>exW .u32 (((n_15%4294967296).toNat ||| (n_18%4294967296).toNat:Nat):Int) fun n_19=>ckQ (Nat.ble 4 s_4.length&&Nat.ble
 s_4.length s_4.length) (exS (.str ((s_4.drop 4).take (s_4.length-4))) fun s_20=>ckQ (Nat.blt 0 s_20.length) (exI .u8 (UInt8.toNat (s_20.getD 0 (UInt8.ofNat 0)):Int) fun n_21=>exW .u32 n_21 fun n_22=>ckQ (Nat.blt 1 s_20.length)
 (exI .u8 (UInt8.toNat (s_20.getD 1 (UInt8.ofNat 0)):Int) fun n_23=>exW .u32 n_23 fun n_24=>exW .u32 (n_24*256) fun n_25=>exW .u32 (((n_22%4294967296).toNat ||| (n_25%4294967296).toNat:Nat):Int) fun n_26=>ckQ (Nat.blt 2
 s_20.length) (exI .u8 (UInt8.toNat (s_20.getD 2 (UInt8.ofNat 0)):Int) fun n_27=>exW .u32 n_27 fun n_28=>exW .u32 (n_28*65536) fun n_29=>exW .u32 (((n_26%4294967296).toNat ||| (n_29%4294967296).toNat:Nat):Int) fun n_30=>
 ckQ (Nat.blt 3 s_20.length) (exI .u8 (UInt8.toNat (s_20.getD 3 (UInt8.ofNat 0)):Int) fun n_31=>exW .u32 n_31 fun n_32=>exW .u32 (n_32*16777216) fun n_33=>exW .u32 (((n_30%4294967296).toNat ||| (n_33%4294967296).toNat:Nat) :
 Int) fun n_34=>ckQ (Nat.ble 8 s_4.length&&Nat.ble s_4.length s_4.length) (exS (.str ((s_4.drop 8).take (s_4.length-8))) fun s_35=>ckQ (Nat.blt 0 s_35.length) (exI .u8 (UInt8.toNat (s_35.getD 0 (UInt8.ofNat 0)):Int) fun n_36=>
 exW .u32 n_36 fun n_37=>ckQ (Nat.blt 1 s_35.length) (exI .u8 (UInt8.toNat (s_35.getD 1 (UInt8.ofNat 0)):Int) fun n_38=>exW .u32 n_38 fun n_39=>exW .u32 (n_39*256) fun n_40=>exW .u32 (((n_37%4294967296).toNat ||| (n_40 %
 4294967296).toNat:Nat):Int) fun n_41=>ckQ (Nat.blt 2 s_35.length) (exI .u8 (UInt8.toNat (s_35.getD 2 (UInt8.ofNat 0)):Int) fun n_42=>exW .u32 n_42 fun n_43=>exW .u32 (n_43*65536) fun n_44=>exW .u32 (((n_41 %
 4294967296).toNat ||| (n_44%4294967296).toNat:Nat):Int) fun n_45=>ckQ (Nat.blt 3 s_35.length) (exI .u8 (UInt8.toNat (s_35.getD 3 (UInt8.ofNat 0)):Int) fun n_46=>exW .u32 n_46 fun n_47=>exW .u32 (n_47*16777216) fun n_48=>
 exW .u32 (((n_45%4294967296).toNat ||| (n_48%4294967296).toNat:Nat):Int) fun n_49=>ckQ (Nat.ble 12 s_4.length&&Nat.ble s_4.length s_4.length) (exS (.str ((s_4.drop 12).take (s_4.length-12))) fun s_50=>ckQ (Nat.blt 0
 s_50.length) (exI .u8 (UInt8.toNat (s_50.getD 0 (UInt8.ofNat 0)):Int) fun n_51=>exW .u32 n_51 fun n_52=>ckQ (Nat.blt 1 s_50.length) (exI .u8 (UInt8.toNat (s_50.getD 1 (UInt8.ofNat 0)):Int) fun n_53=>exW .u32 n_53 fun n_54=>exW
 .u32 (n_54*256) fun n_55=>exW .u32 (((n_52%4294967296).toNat ||| (n_55%4294967296).toNat:Nat):Int) fun n_56=>ckQ (Nat.blt 2 s_50.length) (exI .u8 (UInt8.toNat (s_50.getD 2 (UInt8.ofNat 0)):Int) fun n_57=>exW .u32 n_57 fun
 n_58=>exW .u32 (n_58*65536) fun n_59=>exW .u32 (((n_56%4294967296).toNat ||| (n_59%4294967296).toNat:Nat):Int) fun n_60=>ckQ (Nat.blt 3 s_50.length) (exI .u8 (UInt8.toNat (s_50.getD 3 (UInt8.ofNat 0)):Int) fun n_61=>exW
 .u32 n_61 fun n_62=>exW .u32 (n_62*16777216) fun n_63=>exW .u32 (((n_60%4294967296).toNat ||| (n_63%4294967296).toNat:Nat):Int) fun n_64=>ckQ (Nat.ble 16 s_4.length&&Nat.ble s_4.length s_4.length) (exS (.str ((s_4.drop
 16).take (s_4.length-16))) fun s_65=>ckQ (Nat.blt 0 s_65.length) (exI .u8 (UInt8.toNat (s_65.getD 0 (UInt8.ofNat 0)):Int) fun n_66=>exW .u32 n_66 fun n_67=>ckQ (Nat.blt 1 s_65.length) (exI .u8 (UInt8.toNat (s_65.getD 1
 (UInt8.ofNat 0)):Int) fun n_68=>exW .u32 n_68 fun n_69=>exW .u32 (n_69*256) fun n_70=>exW .u32 (((n_67%4294967296).toNat ||| (n_70%4294967296).toNat:Nat):Int) fun n_71=>ckQ (Nat.blt 2 s_65.length) (exI .u8 (UInt8.toNat
 (s_65.getD 2 (UInt8.ofNat 0)):Int) fun n_72=>exW .u32 n_72 fun n_73=>exW .u32 (n_73*65536) fun n_74=>exW .u32 (((n_71%4294967296).toNat ||| (n_74%4294967296).toNat:Nat):Int) fun n_75=>ckQ (Nat.blt 3 s_65.length) (exI
 .u8 (UInt8.toNat (s_65.getD 3 (UInt8.ofNat 0)):Int) fun n_76=>exW .u32 n_76 fun n_77=>exW .u32 (n_77*16777216) fun n_78=>exW .u32 (((n_75%4294967296).toNat ||| (n_78%4294967296).toNat:Nat):Int) fun n_79=>ckQ (Nat.ble 20
 s_4.length&&Nat.ble s_4.length s_4.length) (exS (.str ((s_4.drop 20).take (s_4.length-20))) fun s_80=>ckQ (Nat.blt 0 s_80.length) (exI .u8 (UInt8.toNat (s_80.getD 0 (UInt8.ofNat 0)):Int) fun n_81=>exW .u32 n_81 fun n_82=>ckQ
 (Nat.blt 1 s_80.length) (exI .u8 (UInt8.toNat (s_80.getD 1 (UInt8.ofNat 0)):Int) fun n_83=>exW .u32 n_83 fun n_84=>exW .u32 (n_84*256) fun n_85=>exW .u32 (((n_82%4294967296).toNat ||| (n_85%4294967296).toNat:Nat):Int) fun
 n_86=>ckQ (Nat.blt 2 s_80.length) (exI .u8 (UInt8.toNat (s_80.getD 2 (UInt8.ofNat 0)):Int) fun n_87=>exW .u32 n_87 fun n_88=>exW .u32 (n_88*65536) fun n_89=>exW .u32 (((n_86%4294967296).toNat ||| (n_89%4294967296).toNat :
 Nat):Int) fun n_90=>ckQ (Nat.blt 3 s_80.length) (exI .u8 (UInt8.toNat (s_80.getD 3 (UInt8.ofNat 0)):Int) fun n_91=>exW .u32 n_91 fun n_92=>exW .u32 (n_92*16777216) fun n_93=>exW .u32 (((n_90%4294967296).toNat ||| (n_93 %
 4294967296).toNat:Nat):Int) fun n_94=>ckQ (Nat.ble 24 s_4.length&&Nat.ble s_4.length s_4.length) (exS (.str ((s_4.drop 24).take (s_4.length-24))) fun s_95=>ckQ (Nat.blt 0 s_95.length) (exI .u8 (UInt8.toNat (s_95.getD 0
 (UInt8.ofNat 0)):Int) fun n_96=>exW .u32 n_96 fun n_97=>ckQ (Nat.blt 1 s_95.length) (exI .u8 (UInt8.toNat (s_95.getD 1 (UInt8.ofNat 0)):Int) fun n_98=>exW .u32 n_98 fun n_99=>exW .u32 (n_99*256) fun n_100=>exW .u32 (((n_97
 % 4294967296).toNat ||| (n_100%4294967296).toNat:Nat):Int) fun n_101=>ckQ (Nat.blt 2 s_95.length) (exI .u8 (UInt8.toNat (s_95.getD 2 (UInt8.ofNat 0)):Int) fun n_102=>exW .u32 n_102 fun n_103=>exW .u32 (n_103*65536) fun
 n_104=>exW .u32 (((n_101%4294967296).toNat ||| (n_104%4294967296).toNat:Nat):Int) fun n_105=>ckQ (Nat.blt 3 s_95.length) (exI .u8 (UInt8.toNat (s_95.getD 3 (UInt8.ofNat 0)):Int) fun n_106=>exW .u32 n_106 fun n_107=>exW
 .u32 (n_107*16777216) fun n_108=>exW .u32 (((n_105%4294967296).toNat ||| (n_108%4294967296).toNat:Nat):Int) fun n_109=>ckQ (Nat.ble 28 s_4.length&&Nat.ble s_4.length s_4.length) (exS (.str ((s_4.drop 28).take (s_4.length -
 28))) fun s_110=>ckQ (Nat.blt 0 s_110.length) (exI .u8 (UInt8.toNat (s_110.getD 0 (UInt8.ofNat 0)):Int) fun n_111=>exW .u32 n_111 fun n_112=>ckQ (Nat.blt 1 s_110.length) (exI .u8 (UInt8.toNat (s_110.getD 1 (UInt8.ofNat 0)):Int)
 fun n_113=>exW .u32 n_113 fun n_114=>exW .u32 (n_114*256) fun n_115=>exW .u32 (((n_112%4294967296).toNat ||| (n_115%4294967296).toNat:Nat):Int) fun n_116=>ckQ (Nat.blt 2 s_110.length) (exI .u8 (UInt8.toNat (s_110.getD 2
 (UInt8.ofNat 0)):Int) fun n_117=>exW .u32 n_117 fun n_118=>exW .u32 (n_118*65536) fun n_119=>exW .u32 (((n_116%4294967296).toNat ||| (n_119%4294967296).toNat:Nat):Int) fun n_120=>ckQ (Nat.blt 3 s_110.length) (exI .u8
 (UInt8.toNat (s_110.getD 3 (UInt8.ofNat 0)):Int) fun n_121=>exW .u32 n_121 fun n_122=>exW .u32 (n_122*16777216) fun n_123=>exW .u32 (((n_120%4294967296).toNat ||| (n_123%4294967296).toNat:Nat):Int) fun n_124=>ckQ
 (Nat.ble 32 s_4.length&&Nat.ble s_4.length s_4.length) (exS (.str ((s_4.drop 32).take (s_4.length-32))) fun s_125=>ckQ (Nat.blt 0 s_125.length) (exI .u8 (UInt8.toNat (s_125.getD 0 (UInt8.ofNat 0)):Int) fun n_126=>exW .u32 n_126
 fun n_127=>ckQ (Nat.blt 1 s_125.length) (exI .u8 (UInt8.toNat (s_125.getD 1 (UInt8.ofNat 0)):Int) fun n_128=>exW .u32 n_128 fun n_129=>exW .u32 (n_129*256) fun n_130=>exW .u32 (((n_127%4294967296).toNat ||| (n_130 %
 4294967296).toNat:Nat):Int) fun n_131=>ckQ (Nat.blt 2 s_125.length) (exI .u8 (UInt8.toNat (s_125.getD 2 (UInt8.ofNat 0)):Int) fun n_132=>exW .u32 n_132 fun n_133=>exW .u32 (n_133*65536) fun n_134=>exW .u32 (((n_131 %
 4294967296).toNat ||| (n_134%4294967296).toNat:Nat):Int) fun n_135=>ckQ (Nat.blt 3 s_125.length) (exI .u8 (UInt8.toNat (s_125.getD 3 (UInt8.ofNat 0)):Int) fun n_136=>exW .u32 n_136 fun n_137=>exW .u32 (n_137*16777216) fun
 n_138=>exW .u32 (((n_135%4294967296).toNat ||| (n_138%4294967296).toNat:Nat):Int) fun n_139=>ckQ (Nat.ble 36 s_4.length&&Nat.ble s_4.length s_4.length) (exS (.str ((s_4.drop 36).take (s_4.length-36))) fun s_140=>ckQ
 (Nat.blt 0 s_140.length) (exI .u8 (UInt8.toNat (s_140.getD 0 (UInt8.ofNat 0)):Int) fun n_141=>exW .u32 n_141 fun n_142=>ckQ (Nat.blt 1 s_140.length) (exI .u8 (UInt8.toNat (s_140.getD 1 (UInt8.ofNat 0)):Int) fun n_143=>exW .u32
 n_143 fun n_144=>exW .u32 (n_144*256) fun n_145=>exW .u32 (((n_142%4294967296).toNat ||| (n_145%4294967296).toNat:Nat):Int) fun n_146=>ckQ (Nat.blt 2 s_140.length) (exI .u8 (UInt8.toNat (s_140.getD 2 (UInt8.ofNat 0)):Int)
 fun n_147=>exW .u32 n_147 fun n_148=>exW .u32 (n_148*65536) fun n_149=>exW .u32 (((n_146%4294967296).toNat ||| (n_149%4294967296).toNat:Nat):Int) fun n_150=>ckQ (Nat.blt 3 s_140.length) (exI .u8 (UInt8.toNat (s_140.getD 3
 (UInt8.ofNat 0)):Int) fun n_151=>exW .u32 n_151 fun n_152=>exW .u32 (n_152*16777216) fun n_153=>exW .u32 (((n_150%4294967296).toNat ||| (n_153%4294967296).toNat:Nat):Int) fun n_154=>ckQ (Nat.ble 40 s_4.length&&Nat.ble
 s_4.length s_4.length) (exS (.str ((s_4.drop 40).take (s_4.length-40))) fun s_155=>ckQ (Nat.blt 0 s_155.length) (exI .u8 (UInt8.toNat (s_155.getD 0 (UInt8.ofNat 0)):Int) fun n_156=>exW .u32 n_156 fun n_157=>ckQ (Nat.blt 1
 s_155.length) (exI .u8 (UInt8.toNat (s_155.getD 1 (UInt8.ofNat 0)):Int) fun n_158=>exW .u32 n_158 fun n_159=>exW .u32 (n_159*256) fun n_160=>exW .u32 (((n_157%4294967296).toNat ||| (n_160%4294967296).toNat:Nat):Int) fun
 n_161=>ckQ (Nat.blt 2 s_155.length) (exI .u8 (UInt8.toNat (s_155.getD 2 (UInt8.ofNat 0)):Int) fun n_162=>exW .u32 n_162 fun n_163=>exW .u32 (n_163*65536) fun n_164=>exW .u32 (((n_161%4294967296).toNat ||| (n_164 %
 4294967296).toNat:Nat):Int) fun n_165=>ckQ (Nat.blt 3 s_155.length) (exI .u8 (UInt8.toNat (s_155.getD 3 (UInt8.ofNat 0)):Int) fun n_166=>exW .u32 n_166 fun n_167=>exW .u32 (n_167*16777216) fun n_168=>exW .u32 (((n_165 %
 4294967296).toNat ||| (n_168%4294967296).toNat:Nat):Int) fun n_169=>ckQ (Nat.ble 44 s_4.length&&Nat.ble s_4.length s_4.length) (exS (.str ((s_4.drop 44).take (s_4.length-44))) fun s_170=>ckQ (Nat.blt 0 s_170.length) (exI .u8
 (UInt8.toNat (s_170.getD 0 (UInt8.ofNat 0)):Int) fun n_171=>exW .u32 n_171 fun n_172=>ckQ (Nat.blt 1 s_170.length) (exI .u8 (UInt8.toNat (s_170.getD 1 (UInt8.ofNat 0)):Int) fun n_173=>exW .u32 n_173 fun n_174=>exW .u32 (n_174 *
 256) fun n_175=>exW .u32 (((n_172%4294967296).toNat ||| (n_175%4294967296).toNat:Nat):Int) fun n_176=>ckQ (Nat.blt 2 s_170.length) (exI .u8 (UInt8.toNat (s_170.getD 2 (UInt8.ofNat 0)):Int) fun n_177=>exW .u32 n_177 fun
 n_178=>exW .u32 (n_178*65536) fun n_179=>exW .u32 (((n_176%4294967296).toNat ||| (n_179%4294967296).toNat:Nat):Int) fun n_180=>ckQ (Nat.blt 3 s_170.length) (exI .u8 (UInt8.toNat (s_170.getD 3 (UInt8.ofNat 0)):Int) fun
 n_181=>exW .u32 n_181 fun n_182=>exW .u32 (n_182*16777216) fun n_183=>exW .u32 (((n_180%4294967296).toNat ||| (n_183%4294967296).toNat:Nat):Int) fun n_184=>ckQ (Nat.ble 48 s_4.length&&Nat.ble s_4.length s_4.length) (exS
 (.str ((s_4.drop 48).take (s_4.length-48))) fun s_185=>ckQ (Nat.blt 0 s_185.length) (exI .u8 (UInt8.toNat (s_185.getD 0 (UInt8.ofNat 0)):Int) fun n_186=>exW .u32 n_186 fun n_187=>ckQ (Nat.blt 1 s_185.length) (exI .u8 (UInt8.toNat
 (s_185.getD 1 (UInt8.ofNat 0)):Int) fun n_188=>exW .u32 n_188 fun n_189=>exW .u32 (n_189*256) fun n_190=>exW .u32 (((n_187%4294967296).toNat ||| (n_190%4294967296).toNat:Nat):Int) fun n_191=>ckQ (Nat.blt 2 s_185.length)
 (exI .u8 (UInt8.toNat (s_185.getD 2 (UInt8.ofNat 0)):Int) fun n_192=>exW .u32 n_192 fun n_193=>exW .u32 (n_193*65536) fun n_194=>exW .u32 (((n_191%4294967296).toNat ||| (n_194%4294967296).toNat:Nat):Int) fun n_195=>ckQ
 (Nat.blt 3 s_185.length) (exI .u8 (UInt8.toNat (s_185.getD 3 (UInt8.ofNat 0)):Int) fun n_196=>exW .u32 n_196 fun n_197=>exW .u32 (n_197*16777216) fun n_198=>exW .u32 (((n_195%4294967296).toNat ||| (n_198%4294967296).toNat :
 Nat):Int) fun n_199=>ckQ (Nat.ble 52 s_4.length&&Nat.ble s_4.length s_4.length) (exS (.str ((s_4.drop 52).take (s_4.length-52))) fun s_200=>ckQ (Nat.blt 0 s_200.length) (exI .u8 (UInt8.toNat (s_200.getD 0 (UInt8.ofNat 0)):Int)
 fun n_201=>exW .u32 n_201 fun n_202=>ckQ (Nat.blt 1 s_200.length) (exI .u8 (UInt8.toNat (s_200.getD 1 (UInt8.ofNat 0)):Int) fun n_203=>exW .u32 n_203 fun n_204=>exW .u32 (n_204*256) fun n_205=>exW .u32 (((n_202 %
 4294967296).toNat ||| (n_205%4294967296).toNat:Nat):Int) fun n_206=>ckQ (Nat.blt 2 s_200.length) (exI .u8 (UInt8.toNat (s_200.getD 2 (UInt8.ofNat 0)):Int) fun n_207=>exW .u32 n_207 fun n_208=>exW .u32 (n_208*65536) fun
 n_209=>exW .u32 (((n_206%4294967296).toNat ||| (n_209%4294967296).toNat:Nat):Int) fun n_210=>ckQ (Nat.blt 3 s_200.length) (exI .u8 (UInt8.toNat (s_200.getD 3 (UInt8.ofNat 0)):Int) fun n_211=>exW .u32 n_211 fun n_212=>exW
 .u32 (n_212*16777216) fun n_213=>exW .u32 (((n_210%4294967296).toNat ||| (n_213%4294967296).toNat:Nat):Int) fun n_214=>ckQ (Nat.ble 56 s_4.length&&Nat.ble s_4.length s_4.length) (exS (.str ((s_4.drop 56).take (s_4.length -
 56))) fun s_215=>ckQ (Nat.blt 0 s_215.length) (exI .u8 (UInt8.toNat (s_215.getD 0 (UInt8.ofNat 0)):Int) fun n_216=>exW .u32 n_216 fun n_217=>ckQ (Nat.blt 1 s_215.length) (exI .u8 (UInt8.toNat (s_215.getD 1 (UInt8.ofNat 0)):Int)
 fun n_218=>exW .u32 n_218 fun n_219=>exW .u32 (n_219*256) fun n_220=>exW .u32 (((n_217%4294967296).toNat ||| (n_220%4294967296).toNat:Nat):Int) fun n_221=>ckQ (Nat.blt 2 s_215.length) (exI .u8 (UInt8.toNat (s_215.getD 2
 (UInt8.ofNat 0)):Int) fun n_222=>exW .u32 n_222 fun n_223=>exW .u32 (n_223*65536) fun n_224=>exW .u32 (((n_221%4294967296).toNat ||| (n_224%4294967296).toNat:Nat):Int) fun n_225=>ckQ (Nat.blt 3 s_215.length) (exI .u8
 (UInt8.toNat (s_215.getD 3 (UInt8.ofNat 0)):Int) fun n_226=>exW .u32 n_226 fun n_227=>exW .u32 (n_227*16777216) fun n_228=>exW .u32 (((n_225%4294967296).toNat ||| (n_228%4294967296).toNat:Nat):Int) fun n_229=>ckQ
 (Nat.ble 60 s_4.length&&Nat.ble s_4.length s_4.length) (exS (.str ((s_4.drop 60).take (s_4.length-60))) fun s_230=>ckQ (Nat.blt 0 s_230.length) (exI .u8 (UInt8.toNat (s_230.getD 0 (UInt8.ofNat 0)):Int) fun n_231=>exW .u32 n_231
 fun n_232=>ckQ (Nat.blt 1 s_230.length) (exI .u8 (UInt8.toNat (s_230.getD 1 (UInt8.ofNat 0)):Int) fun n_233=>exW .u32 n_233 fun n_234=>exW .u32 (n_234*256) fun n_235=>exW .u32 (((n_232%4294967296).toNat ||| (n_235 %
 4294967296).toNat:Nat):Int) fun n_236=>ckQ (Nat.blt 2 s_230.length) (exI .u8 (UInt8.toNat (s_230.getD 2 (UInt8.ofNat 0)):Int) fun n_237=>exW .u32 n_237 fun n_238=>exW .u32 (n_238*65536) fun n_239=>exW .u32 (((n_236 %
 4294967296).toNat ||| (n_239%4294967296).toNat:Nat):Int) fun n_240=>ckQ (Nat.blt 3 s_230.length) (exI .u8 (UInt8.toNat (s_230.getD 3 (UInt8.ofNat 0)):Int) fun n_241=>exW .u32 n_241 fun n_242=>exW .u32 (n_242*16777216) fun
 n_243=>exW .u32 (((n_240%4294967296).toNat ||| (n_243%4294967296).toNat:Nat):Int) fun n_244=>∃w_245:W16,Lf ([AV.int .u32 n_19,.int .u32 n_34,.int .u32 n_49,.int .u32 n_64,.int .u32 n_79,.int .u32 n_94,.int .u32 n_109,
 .int .u32 n_124,.int .u32 n_139,.int .u32 n_154,.int .u32 n_169,.int .u32 n_184,.int .u32 n_199,.int .u32 n_214,.int .u32 n_229,.int .u32 n_244]=[AV.int .u32 (w_245.1:Int),.int .u32 (w_245.2:Int),.int .u32 (w_245.3:Int),
 .int .u32 (w_245.4:Int),.int .u32 (w_245.5:Int),.int .u32 (w_245.6:Int),.int .u32 (w_245.7:Int),.int .u32 (w_245.8:Int),.int .u32 (w_245.9:Int),.int .u32 (w_245.10:Int),.int .u32 (w_245.11:Int),.int .u32 (w_245.12 :
 Int),.int .u32 (w_245.13:Int),.int .u32 (w_245.14:Int),.int .u32 (w_245.15:Int),.int .u32 (w_245.16:Int)])∧∀l_246:List Nat,Lf (l_246=blkM w_245 c)→ckQ (Nat.beq (cells8NM l_246).length 64&&oneL (cells8NM l_246) &&
 true) (ckQ (Nat.beq (setRange [.int .u8 0,.int .u8 0,.int .u8 0,.int .u8 0,.int .u8 0,.int .u8 0,.int .u8 0,.int .u8 0,.int .u8 0,.int .u8 0,.int .u8 0,.int .u8 0,.int .u8 0,.int .u8 0,.int .u8 0,.int .u8 0,.int .u8 0,.int
 .u8 0,.int .u8 0,.int .u8 0,.int .u8 0,.int .u8 0,.int .u8 0,.int .u8 0,.int .u8 0,.int .u8 0,.int .u8 0,.int .u8 0,.int .u8 0,.int .u8 0,.int .u8 0,.int .u8 0,.int .u8 0,.int .u8 0,.int .u8 0,.int .u8 0,.int .u8 0,.int
 .u8 0,.int .u8 0,.int .u8 0,.int .u8 0,.int .u8 0,.int .u8 0,.int .u8 0,.int .u8 0,.int .u8 0,.int .u8 0,.int .u8 0,.int .u8 0,.int .u8 0,.int .u8 0,.int .u8 0,.int .u8 0,.int .u8 0,.int .u8 0,.int .u8 0,.int .u8 0,.int
 .u8 0,.int .u8 0,.int .u8 0,.int .u8 0,.int .u8 0,.int .u8 0,.int .u8 0] 0 (cells8NM l_246)).length 64&&true) (ckQ (Nat.beq (setRange [.int .u8 0,.int .u8 0,.int .u8 0,.int .u8 0,.int .u8 0,.int .u8 0,.int .u8 0,.int .u8 0,
 .int .u8 0,.int .u8 0,.int .u8 0,.int .u8 0,.int .u8 0,.int .u8 0,.int .u8 0,.int .u8 0,.int .u8 0,.int .u8 0,.int .u8 0,.int .u8 0,.int .u8 0,.int .u8 0,.int .u8 0,.int .u8 0,.int .u8 0,.int .u8 0,.int .u8 0,.int .u8 0,
 .int .u8 0,.int .u8 0,.int .u8 0,.int .u8 0,.int .u8 0,.int .u8 0,.int .u8 0,.int .u8 0,.int .u8 0,.int .u8 0,.int .u8 0,.int .u8 0,.int .u8 0,.int .u8 0,.int .u8 0,.int .u8 0,.int .u8 0,.int .u8 0,.int .u8 0,.int .u8 0,
 .int .u8 0,.int .u8 0,.int .u8 0,.int .u8 0,.int .u8 0,.int .u8 0,.int .u8 0,.int .u8 0,.int .u8 0,.int .u8 0,.int .u8 0,.int .u8 0,.int .u8 0,.int .u8 0,.int .u8 0,.int .u8 0] 0 (cells8NM l_246)).length 64&&true&&true
 && allU8 (((setRange [.int .u8 0,.int .u8 0,.int .u8 0,.int .u8 0,.int .u8 0,.int .u8 0,.int .u8 0,.int .u8 0,.int .u8 0,.int .u8 0,.int .u8 0,.int .u8 0,.int .u8 0,.int .u8 0,.int .u8 0,.int .u8 0,.int .u8 0,.int .u8 0,
 .int .u8 0,.int .u8 0,.int .u8 0,.int .u8 0,.int .u8 0,.int .u8 0,.int .u8 0,.int .u8 0,.int .u8 0,.int .u8 0,.int .u8 0,.int .u8 0,.int .u8 0,.int .u8 0,.int .u8 0,.int .u8 0,.int .u8 0,.int .u8 0,.int .u8 0,.int .u8 0,
 .int .u8 0,.int .u8 0,.int .u8 0,.int .u8 0,.int .u8 0,.int .u8 0,.int .u8 0,.int .u8 0,.int .u8 0,.int .u8 0,.int .u8 0,.int .u8 0,.int .u8 0,.int .u8 0,.int .u8 0,.int .u8 0,.int .u8 0,.int .u8 0,.int .u8 0,.int .u8 0,
 .int .u8 0,.int .u8 0,.int .u8 0,.int .u8 0,.int .u8 0,.int .u8 0] 0 (cells8NM l_246)).drop 0).take 64)) (exS (.str (List.map toB (((setRange [.int .u8 0,.int .u8 0,.int .u8 0,.int .u8 0,.int .u8 0,.int .u8 0,.int .u8 0,.int
 .u8 0,.int .u8 0,.int .u8 0,.int .u8 0,.int .u8 0,.int .u8 0,.int .u8 0,.int .u8 0,.int .u8 0,.int .u8 0,.int .u8 0,.int .u8 0,.int .u8 0,.int .u8 0,.int .u8 0,.int .u8 0,.int .u8 0,.int .u8 0,.int .u8 0,.int .u8 0,.int
 .u8 0,.int .u8 0,.int .u8 0,.int .u8 0,.int .u8 0,.int .u8 0,.int .u8 0,.int .u8 0,.int .u8 0,.int .u8 0,.int .u8 0,.int .u8 0,.int .u8 0,.int .u8 0,.int .u8 0,.int .u8 0,.int .u8 0,.int .u8 0,.int .u8 0,.int .u8 0,.int
 .u8 0,.int .u8 0,.int .u8 0,.int .u8 0,.int .u8 0,.int .u8 0,.int .u8 0,.int .u8 0,.int .u8 0,.int .u8 0,.int .u8 0,.int .u8 0,.int .u8 0,.int .u8 0,.int .u8 0,.int .u8 0,.int .u8 0] 0 (cells8NM l_246)).drop 0).take 64)))
 fun s_247=>Q (.ret (.tup [.str s_247,.int .i64 0])) [] {})))))))))))))))))))))))))))))))))))))))))))))))))))))))))))))))))))))))))))))))))))))) else Q (.ret (.tup [.str [],.int .i64 2])) [] {} else Q (.ret (.tup [.str [],.int .i64
 2])) [] {} else Q (.ret (.tup [.str [],.int .i64 2])) [] {} else Q (.ret (.tup [.str [],.int .i64 2])) [] {}):=by kernel_rfl


def expandM:List UInt8:=[101,120,112,97,110,100,32,51,50,45,98,121,116,101,32,107]
def allKM (key nonce:List UInt8):List UInt8:=((expandM++key)++[0,0,0,0])++nonce
def firstM (key nonce:List UInt8):W16:=
 let s:=allKM key nonce
 ⟨numM s 0,numM s 4,numM s 8,numM s 12,numM s 16,numM s 20,numM s 24,numM s 28,numM s 32,numM s 36,numM s 40,numM s 44,numM s 48,numM s 52,numM s 56,numM s 60⟩
def rightM (key nonce:List UInt8) (c:Int):Bool:=Nat.beq key.length 32&&Nat.beq nonce.length 12&&decide (0≤c)&&decide (c<4294967296)
def blockM (key nonce:List UInt8) (c:Int):List UInt8×Int:=if rightM key nonce c then ((blkM (firstM key nonce) c).map UInt8.ofNat,0) else ([],2)
theorem len_blk (w:W16) (c:Int):(blkM w c).length=64:=by simp[blkM,outM,leW]

theorem setRange_full (z cs:List AV) (h:z.length≤cs.length):setRange z 0 cs=cs:=by
 simp only[setRange,List.take_zero,List.nil_append,Nat.zero_add]
 rw[List.drop_of_length_le h,List.append_nil]
theorem oneL_8 (l:List Nat):oneL (cells8NM l)=true:=by
 induction l with
 | nil=>rfl
 | cons x l ih=>simpa [cells8NM,oneL,one] using ih
theorem allU8_8 (l:List Nat):allU8 (cells8NM l)=true:=by
 induction l with
 | nil=>rfl
 | cons x l ih=>simpa [cells8NM,allU8] using ih
theorem toB_8 (l:List Nat):(cells8NM l).map toB=l.map UInt8.ofNat:=by
 simp[cells8NM,toB]

theorem block_run (key nonce:List UInt8) (c:Int) (Q:Out→List Blk→Gh→Prop) (hq:∀s e,blockM key nonce c=(s,e)→Q (.ret (.tup [.str s,.int .i64 e])) [] {}):∃hv hb,goal_24 hv hb key nonce c Q:=by
 obtain ⟨hv,hb',e⟩:∃hv hb,goal_24 hv hb key nonce c Q=_:=⟨_,_,vc_24 key nonce c Q⟩
 refine ⟨hv,hb',e.mpr ?_⟩
 clear e
 by_cases hr:rightM key nonce c=true
 ·have hq':=hq _ _ (if_pos hr)
  simp only[rightM,Bool.and_eq_true,nbeq,decide_eq_true_eq] at hr
  obtain ⟨⟨⟨h1,h2⟩,h3⟩,h4⟩:=hr
  refine ⟨_,rfl, ?_⟩
  rw[h1,h2]
  refine splitE (fun _=>⟨_,rfl,splitE (fun _=>splitD (fun _=>splitD (fun _ => ?_) (fun h=>absurd h4 h)) (fun h=>absurd h3 h)) (fun h=>absurd rfl h)⟩) (fun h=>absurd rfl h)
  have hl:(allKM key nonce).length=64:=by simp[allKM,expandM,h1,h2]
  obtain ⟨s,hs⟩:∃s,allKM key nonce=s:=⟨_,rfl⟩
  have hf:firstM key nonce=⟨numM s 0,numM s 4,numM s 8,numM s 12,numM s 16,numM s 20,numM s 24,numM s 28,numM s 32,numM s 36,numM s 40,numM s 44,numM s 48,numM s 52,numM s 56,numM s 60⟩:=by rw[firstM,hs]
  refine ckI (by simp) ⟨_,rfl,ckI (by simp[h1]) ⟨_,rfl,ckI (by simp[h1]) ⟨s,by rw[←hs];rfl, ?_⟩⟩⟩
  rw[hs] at hl
  rw[hf] at hq'
  refine numI (m:=0) (by first | (simp only[Bool.and_eq_true,Bool.and_true,Bool.true_and,decide_eq_true_eq,blt_iff,Nat.ble_eq,nbeq,cellsI_len,List.length_append,List.length_cons,List.length_nil,Int.toNat_natCast,and_true,true_and,Bool.or_eq_true,Bool.not_eq_true',bne_iff_ne,ne_eq];done) | (simp only[Bool.and_eq_true,Bool.and_true,Bool.true_and,decide_eq_true_eq,blt_iff,Nat.ble_eq,nbeq,cellsI_len,List.length_append,List.length_cons,List.length_nil,Int.toNat_natCast,and_true,true_and,Bool.or_eq_true,Bool.not_eq_true',bne_iff_ne,ne_eq];omega) | rfl | (simp;done) | (simp;omega)) (by omega) ?_
  refine numI (m:=4) (by first | (simp only[Bool.and_eq_true,Bool.and_true,Bool.true_and,decide_eq_true_eq,blt_iff,Nat.ble_eq,nbeq,cellsI_len,List.length_append,List.length_cons,List.length_nil,Int.toNat_natCast,and_true,true_and,Bool.or_eq_true,Bool.not_eq_true',bne_iff_ne,ne_eq];done) | (simp only[Bool.and_eq_true,Bool.and_true,Bool.true_and,decide_eq_true_eq,blt_iff,Nat.ble_eq,nbeq,cellsI_len,List.length_append,List.length_cons,List.length_nil,Int.toNat_natCast,and_true,true_and,Bool.or_eq_true,Bool.not_eq_true',bne_iff_ne,ne_eq];omega) | rfl | (simp;done) | (simp;omega)) (by omega) ?_
  refine numI (m:=8) (by first | (simp only[Bool.and_eq_true,Bool.and_true,Bool.true_and,decide_eq_true_eq,blt_iff,Nat.ble_eq,nbeq,cellsI_len,List.length_append,List.length_cons,List.length_nil,Int.toNat_natCast,and_true,true_and,Bool.or_eq_true,Bool.not_eq_true',bne_iff_ne,ne_eq];done) | (simp only[Bool.and_eq_true,Bool.and_true,Bool.true_and,decide_eq_true_eq,blt_iff,Nat.ble_eq,nbeq,cellsI_len,List.length_append,List.length_cons,List.length_nil,Int.toNat_natCast,and_true,true_and,Bool.or_eq_true,Bool.not_eq_true',bne_iff_ne,ne_eq];omega) | rfl | (simp;done) | (simp;omega)) (by omega) ?_
  refine numI (m:=12) (by first | (simp only[Bool.and_eq_true,Bool.and_true,Bool.true_and,decide_eq_true_eq,blt_iff,Nat.ble_eq,nbeq,cellsI_len,List.length_append,List.length_cons,List.length_nil,Int.toNat_natCast,and_true,true_and,Bool.or_eq_true,Bool.not_eq_true',bne_iff_ne,ne_eq];done) | (simp only[Bool.and_eq_true,Bool.and_true,Bool.true_and,decide_eq_true_eq,blt_iff,Nat.ble_eq,nbeq,cellsI_len,List.length_append,List.length_cons,List.length_nil,Int.toNat_natCast,and_true,true_and,Bool.or_eq_true,Bool.not_eq_true',bne_iff_ne,ne_eq];omega) | rfl | (simp;done) | (simp;omega)) (by omega) ?_
  refine numI (m:=16) (by first | (simp only[Bool.and_eq_true,Bool.and_true,Bool.true_and,decide_eq_true_eq,blt_iff,Nat.ble_eq,nbeq,cellsI_len,List.length_append,List.length_cons,List.length_nil,Int.toNat_natCast,and_true,true_and,Bool.or_eq_true,Bool.not_eq_true',bne_iff_ne,ne_eq];done) | (simp only[Bool.and_eq_true,Bool.and_true,Bool.true_and,decide_eq_true_eq,blt_iff,Nat.ble_eq,nbeq,cellsI_len,List.length_append,List.length_cons,List.length_nil,Int.toNat_natCast,and_true,true_and,Bool.or_eq_true,Bool.not_eq_true',bne_iff_ne,ne_eq];omega) | rfl | (simp;done) | (simp;omega)) (by omega) ?_
  refine numI (m:=20) (by first | (simp only[Bool.and_eq_true,Bool.and_true,Bool.true_and,decide_eq_true_eq,blt_iff,Nat.ble_eq,nbeq,cellsI_len,List.length_append,List.length_cons,List.length_nil,Int.toNat_natCast,and_true,true_and,Bool.or_eq_true,Bool.not_eq_true',bne_iff_ne,ne_eq];done) | (simp only[Bool.and_eq_true,Bool.and_true,Bool.true_and,decide_eq_true_eq,blt_iff,Nat.ble_eq,nbeq,cellsI_len,List.length_append,List.length_cons,List.length_nil,Int.toNat_natCast,and_true,true_and,Bool.or_eq_true,Bool.not_eq_true',bne_iff_ne,ne_eq];omega) | rfl | (simp;done) | (simp;omega)) (by omega) ?_
  refine numI (m:=24) (by first | (simp only[Bool.and_eq_true,Bool.and_true,Bool.true_and,decide_eq_true_eq,blt_iff,Nat.ble_eq,nbeq,cellsI_len,List.length_append,List.length_cons,List.length_nil,Int.toNat_natCast,and_true,true_and,Bool.or_eq_true,Bool.not_eq_true',bne_iff_ne,ne_eq];done) | (simp only[Bool.and_eq_true,Bool.and_true,Bool.true_and,decide_eq_true_eq,blt_iff,Nat.ble_eq,nbeq,cellsI_len,List.length_append,List.length_cons,List.length_nil,Int.toNat_natCast,and_true,true_and,Bool.or_eq_true,Bool.not_eq_true',bne_iff_ne,ne_eq];omega) | rfl | (simp;done) | (simp;omega)) (by omega) ?_
  refine numI (m:=28) (by first | (simp only[Bool.and_eq_true,Bool.and_true,Bool.true_and,decide_eq_true_eq,blt_iff,Nat.ble_eq,nbeq,cellsI_len,List.length_append,List.length_cons,List.length_nil,Int.toNat_natCast,and_true,true_and,Bool.or_eq_true,Bool.not_eq_true',bne_iff_ne,ne_eq];done) | (simp only[Bool.and_eq_true,Bool.and_true,Bool.true_and,decide_eq_true_eq,blt_iff,Nat.ble_eq,nbeq,cellsI_len,List.length_append,List.length_cons,List.length_nil,Int.toNat_natCast,and_true,true_and,Bool.or_eq_true,Bool.not_eq_true',bne_iff_ne,ne_eq];omega) | rfl | (simp;done) | (simp;omega)) (by omega) ?_
  refine numI (m:=32) (by first | (simp only[Bool.and_eq_true,Bool.and_true,Bool.true_and,decide_eq_true_eq,blt_iff,Nat.ble_eq,nbeq,cellsI_len,List.length_append,List.length_cons,List.length_nil,Int.toNat_natCast,and_true,true_and,Bool.or_eq_true,Bool.not_eq_true',bne_iff_ne,ne_eq];done) | (simp only[Bool.and_eq_true,Bool.and_true,Bool.true_and,decide_eq_true_eq,blt_iff,Nat.ble_eq,nbeq,cellsI_len,List.length_append,List.length_cons,List.length_nil,Int.toNat_natCast,and_true,true_and,Bool.or_eq_true,Bool.not_eq_true',bne_iff_ne,ne_eq];omega) | rfl | (simp;done) | (simp;omega)) (by omega) ?_
  refine numI (m:=36) (by first | (simp only[Bool.and_eq_true,Bool.and_true,Bool.true_and,decide_eq_true_eq,blt_iff,Nat.ble_eq,nbeq,cellsI_len,List.length_append,List.length_cons,List.length_nil,Int.toNat_natCast,and_true,true_and,Bool.or_eq_true,Bool.not_eq_true',bne_iff_ne,ne_eq];done) | (simp only[Bool.and_eq_true,Bool.and_true,Bool.true_and,decide_eq_true_eq,blt_iff,Nat.ble_eq,nbeq,cellsI_len,List.length_append,List.length_cons,List.length_nil,Int.toNat_natCast,and_true,true_and,Bool.or_eq_true,Bool.not_eq_true',bne_iff_ne,ne_eq];omega) | rfl | (simp;done) | (simp;omega)) (by omega) ?_
  refine numI (m:=40) (by first | (simp only[Bool.and_eq_true,Bool.and_true,Bool.true_and,decide_eq_true_eq,blt_iff,Nat.ble_eq,nbeq,cellsI_len,List.length_append,List.length_cons,List.length_nil,Int.toNat_natCast,and_true,true_and,Bool.or_eq_true,Bool.not_eq_true',bne_iff_ne,ne_eq];done) | (simp only[Bool.and_eq_true,Bool.and_true,Bool.true_and,decide_eq_true_eq,blt_iff,Nat.ble_eq,nbeq,cellsI_len,List.length_append,List.length_cons,List.length_nil,Int.toNat_natCast,and_true,true_and,Bool.or_eq_true,Bool.not_eq_true',bne_iff_ne,ne_eq];omega) | rfl | (simp;done) | (simp;omega)) (by omega) ?_
  refine numI (m:=44) (by first | (simp only[Bool.and_eq_true,Bool.and_true,Bool.true_and,decide_eq_true_eq,blt_iff,Nat.ble_eq,nbeq,cellsI_len,List.length_append,List.length_cons,List.length_nil,Int.toNat_natCast,and_true,true_and,Bool.or_eq_true,Bool.not_eq_true',bne_iff_ne,ne_eq];done) | (simp only[Bool.and_eq_true,Bool.and_true,Bool.true_and,decide_eq_true_eq,blt_iff,Nat.ble_eq,nbeq,cellsI_len,List.length_append,List.length_cons,List.length_nil,Int.toNat_natCast,and_true,true_and,Bool.or_eq_true,Bool.not_eq_true',bne_iff_ne,ne_eq];omega) | rfl | (simp;done) | (simp;omega)) (by omega) ?_
  refine numI (m:=48) (by first | (simp only[Bool.and_eq_true,Bool.and_true,Bool.true_and,decide_eq_true_eq,blt_iff,Nat.ble_eq,nbeq,cellsI_len,List.length_append,List.length_cons,List.length_nil,Int.toNat_natCast,and_true,true_and,Bool.or_eq_true,Bool.not_eq_true',bne_iff_ne,ne_eq];done) | (simp only[Bool.and_eq_true,Bool.and_true,Bool.true_and,decide_eq_true_eq,blt_iff,Nat.ble_eq,nbeq,cellsI_len,List.length_append,List.length_cons,List.length_nil,Int.toNat_natCast,and_true,true_and,Bool.or_eq_true,Bool.not_eq_true',bne_iff_ne,ne_eq];omega) | rfl | (simp;done) | (simp;omega)) (by omega) ?_
  refine numI (m:=52) (by first | (simp only[Bool.and_eq_true,Bool.and_true,Bool.true_and,decide_eq_true_eq,blt_iff,Nat.ble_eq,nbeq,cellsI_len,List.length_append,List.length_cons,List.length_nil,Int.toNat_natCast,and_true,true_and,Bool.or_eq_true,Bool.not_eq_true',bne_iff_ne,ne_eq];done) | (simp only[Bool.and_eq_true,Bool.and_true,Bool.true_and,decide_eq_true_eq,blt_iff,Nat.ble_eq,nbeq,cellsI_len,List.length_append,List.length_cons,List.length_nil,Int.toNat_natCast,and_true,true_and,Bool.or_eq_true,Bool.not_eq_true',bne_iff_ne,ne_eq];omega) | rfl | (simp;done) | (simp;omega)) (by omega) ?_
  refine numI (m:=56) (by first | (simp only[Bool.and_eq_true,Bool.and_true,Bool.true_and,decide_eq_true_eq,blt_iff,Nat.ble_eq,nbeq,cellsI_len,List.length_append,List.length_cons,List.length_nil,Int.toNat_natCast,and_true,true_and,Bool.or_eq_true,Bool.not_eq_true',bne_iff_ne,ne_eq];done) | (simp only[Bool.and_eq_true,Bool.and_true,Bool.true_and,decide_eq_true_eq,blt_iff,Nat.ble_eq,nbeq,cellsI_len,List.length_append,List.length_cons,List.length_nil,Int.toNat_natCast,and_true,true_and,Bool.or_eq_true,Bool.not_eq_true',bne_iff_ne,ne_eq];omega) | rfl | (simp;done) | (simp;omega)) (by omega) ?_
  refine numI (m:=60) (by first | (simp only[Bool.and_eq_true,Bool.and_true,Bool.true_and,decide_eq_true_eq,blt_iff,Nat.ble_eq,nbeq,cellsI_len,List.length_append,List.length_cons,List.length_nil,Int.toNat_natCast,and_true,true_and,Bool.or_eq_true,Bool.not_eq_true',bne_iff_ne,ne_eq];done) | (simp only[Bool.and_eq_true,Bool.and_true,Bool.true_and,decide_eq_true_eq,blt_iff,Nat.ble_eq,nbeq,cellsI_len,List.length_append,List.length_cons,List.length_nil,Int.toNat_natCast,and_true,true_and,Bool.or_eq_true,Bool.not_eq_true',bne_iff_ne,ne_eq];omega) | rfl | (simp;done) | (simp;omega)) (by omega) ?_
  refine ⟨⟨numM s 0,numM s 4,numM s 8,numM s 12,numM s 16,numM s 20,numM s 24,numM s 28,numM s 32,numM s 36,numM s 40,numM s 44,numM s 48,numM s 52,numM s 56,numM s 60⟩,⟨rfl⟩,fun l hl2 => ?_⟩
  have hll:l.length=64:=by rw[hl2.h];exact len_blk _ _
  have hcl:(cells8NM l).length=64:=by simp[cells8NM,hll]
  rw[setRange_full _ _ (by rw[hcl];simp)]
  have ht:List.take 64 (List.drop 0 (cells8NM l))=cells8NM l:=by rw[List.drop_zero,List.take_of_length_le (by omega)]
  rw[←hl2.h] at hq'
  clear hl2
  rw[ht,toB_8]
  exact ckI (by rw[hcl,oneL_8];rfl) (ckI (by rw[hcl];rfl) (ckI (by rw[hcl,allU8_8];rfl) ⟨_,rfl,hq'⟩))
 ·have hq':=hq _ _ (if_neg hr)
  simp only[rightM,Bool.and_eq_true,nbeq,decide_eq_true_eq] at hr
  refine ⟨_,rfl,splitE (fun h1=>⟨_,rfl,splitE (fun h2=>splitD (fun h3=>splitD (fun h4 => ?_) (fun _=>hq')) (fun _=>hq')) (fun _=>hq')⟩) (fun _=>hq')⟩
  exact absurd ⟨⟨⟨by omega,by omega⟩,by omega⟩,by omega⟩ hr

def cBlock:Con
 | [.str key,.str nonce,.int .i64 c],H,K=>∀s e,Lf (blockM key nonce c=(s,e))→K (.ret (.tup [.str s,.int .i64 e])) H
 | _,_,_=>False
theorem block_ok:ValidF Tryz.prog gl0 97 cBlock:=by
 refine valid_flat (enters_of (by kernel_rfl)) gl0_noY fun args H Q hc => ?_
 unfold cBlock at hc
 split at hc
 ·rename_i key nonce c
  obtain ⟨hv,hb',h⟩:=block_run key nonce c (Q:=fun o H' _=>H'=[]∧(∃v,o=.ret v∧old 0 v=true∧noY v=true)∧Q o H) (fun s e he=>⟨rfl,⟨_,rfl,rfl,rfl⟩,hc s e ⟨he⟩⟩)
  exact ⟨rfl,rfl,_,1000,envFor04 smC_ok _ _ _,rfl,h⟩
 ·exact hc.elim
end Go.Proofs.YtjenieljapmehaaGreatDoor.Rc
