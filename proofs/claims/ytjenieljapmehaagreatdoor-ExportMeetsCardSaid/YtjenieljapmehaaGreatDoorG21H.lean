/-
  Chapter 18: the program's digest: mix, add, end, sum, Sum as contracts.
-/
import Derived.Test.YtjenieljapmehaaGreatDoorG21G
set_option linter.unusedSimpArgs false
set_option linter.unusedVariables false
set_option linter.unusedSectionVars false
namespace Go.Proofs.YtjenieljapmehaaGreatDoor
open Go.RowKit
set_option maxRecDepth 1000000

abbrev okK (kk:List Nat):Prop:=kk.length=64∧∀i,kk.getD i 0<4294967296
def gMix:List AV→List AV→(Out→List AV→Prop)→Prop
 | [.str s,.agg ks],cs,R=>∃ (v:W8) (kk:List Nat) (t:List UInt8) (n:Int),Lf (cs=celT v t n∧ks=cells32M kk∧okK kk∧okW8 v∧s.length≤9223372036854775807)∧∀v',Lf (v'=mixM kk (s.length/64) v s∧okW8 v')→R (.ret (.tup [])) (celT v' t n)
 | _,_,_=>False
theorem celT_old (m:Nat) (v:W8) (t:List UInt8) (n:Int):oldL m (celT v t n)=true:=rfl
theorem celT_noY (v:W8) (t:List UInt8) (n:Int):noYL (celT v t n)=true:=rfl
theorem mix_ok:ValidF Tryz.prog gl0 140 (ptrC 10 gMix):=by
 refine valid_ptr (enters_of (by kernel_rfl)) gl0_noY fun rest cs R h1 h2 h3 h4 hg => ?_
 unfold gMix at hg
 split at hg
 ·rename_i s ks
  obtain ⟨v,kk,t,n,⟨rfl,rfl,⟨k1,k2⟩,k3,k4⟩,hq⟩:=hg
  obtain ⟨hv,hb',h⟩:=mix_run v t n s kk k3 k1 k2 k4 (Q:=fun o H' _=>∃cs',H'=[⟨.exact,true,cs'⟩]∧oldL 0 cs'=true∧noYL cs'=true∧(∃v,o=.ret v∧old 0 v=true∧noY v=true)∧R o cs') (fun v' e1 e2 k=>⟨_,rfl,rfl,rfl,⟨_,rfl,rfl,rfl⟩,hq v' ⟨e1,e2⟩⟩)
  exact ⟨_,1000,envFor18 smX_ok _ _ _,rfl,h⟩
 ·exact hg.elim
def smH:SM:=lookS [(140,ptrC 10 gMix),(150,cClone)]
theorem smH_ok:∀f g,smH f=some g→ValidF Tryz.prog gl0 f g:=lookS_ok _ (by simp only[List.mem_cons,List.not_mem_nil,or_false,forall_eq_or_imp,forall_eq];exact ⟨mix_ok,clone_ok⟩)
noncomputable def goal_133 (hv:Nat→Option Pa) (hb:Nat→Option Bool) (v:W8) (t:List UInt8) (n:Int) (s:List UInt8) (ks:List Nat) (Q:Out→List Blk→Gh→Prop):Prop:=
 callx (e18 smH (fun _=>none) hv hb) (wpx (e18 smH (fun _=>none) hv hb) 1000) 119 [.ptr 0 10 0,.str s,.agg (cells32M ks)] [⟨.exact,true,celT v t n⟩] {} Q
theorem vc_133 (v:W8) (t:List UInt8) (n:Int) (s:List UInt8) (ks:List Nat) (Q:Out→List Blk→Gh→Prop):goal_133 (lookV [(487437,.str),(487445,.int .i64),(487446,.int .i64),(487447,.int .i64),(487448,.str),(487459,
 .int .i64),(487460,.int .i64)]) (lookB [(581630,true)]) v t n s ks Q=(ckQ (decide (t.length+s.length≤9223372036854775807)&&true) (exS (.str (t++s)) fun s_0=>ckQ (Nat.beq (cells32M ks).length (cells32M ks).length&&Nat.ble
 64 (cells32M ks).length) (Lf (Nat.blt 0 (List.length [Blk.mk BK.exact true [.int .u32 (v.1:Int),.int .u32 (v.2:Int),.int .u32 (v.3:Int),.int .u32 (v.4:Int),.int .u32 (v.5:Int),.int .u32 (v.6:Int),.int .u32 (v.7:Int),
 .int .u32 (v.8:Int),.str t,.int .i64 n],Blk.mk BK.exact (oldL 0 (cells32M ks)) (cells32M ks)])=true∧eqqQ (10:Nat)∧oldL 0 [.str s_0,.agg (((cells32M ks).drop 0).take 64)]=true∧noYL [.str s_0,.agg (((cells32M ks).drop
 0).take 64)]=true∧oldL 0 [.int .u32 (v.1:Int),.int .u32 (v.2:Int),.int .u32 (v.3:Int),.int .u32 (v.4:Int),.int .u32 (v.5:Int),.int .u32 (v.6:Int),.int .u32 (v.7:Int),.int .u32 (v.8:Int),.str t,.int .i64 n] =
 true∧noYL [.int .u32 (v.1:Int),.int .u32 (v.2:Int),.int .u32 (v.3:Int),.int .u32 (v.4:Int),.int .u32 (v.5:Int),.int .u32 (v.6:Int),.int .u32 (v.7:Int),.int .u32 (v.8:Int),.str t,.int .i64 n]=true)∧∃v_1:W8,
 ∃kk_2:List Nat,∃t_3:List UInt8,∃n_4:Int,Lf ([AV.int .u32 (v.1:Int),.int .u32 (v.2:Int),.int .u32 (v.3:Int),.int .u32 (v.4:Int),.int .u32 (v.5:Int),.int .u32 (v.6:Int),.int .u32 (v.7:Int),.int .u32 (v.8 :
 Int),.str t,.int .i64 n]=[AV.int .u32 (v_1.1:Int),.int .u32 (v_1.2:Int),.int .u32 (v_1.3:Int),.int .u32 (v_1.4:Int),.int .u32 (v_1.5:Int),.int .u32 (v_1.6:Int),.int .u32 (v_1.7:Int),.int .u32 (v_1.8:Int),.str
 t_3,.int .i64 n_4]∧((cells32M ks).drop 0).take 64=cells32M kk_2∧okK kk_2∧okW8 v_1∧s_0.length≤9223372036854775807)∧∀v'_5:W8,Lf (v'_5=mixM kk_2 (s_0.length/64) v_1 s_0∧okW8 v'_5)→exI .i64 (s_0.length:Int) fun n_6
 => exW .i64 (n_6.tdiv 64) fun n_7=>exW .i64 (n_7*64) fun n_8=>ckQ (decide (0≤n_8)&&true&&Nat.ble n_8.toNat s_0.length&&Nat.ble s_0.length s_0.length) (exS (.str ((s_0.drop n_8.toNat).take (s_0.length-n_8.toNat))) fun s_9=>
 ckQ (Nat.ble s_9.length 281474976710656) (((oldL 0 (cells32M ks)||oldL 2 (cells32M ks))&&true)=true∧exI .i64 (s.length:Int) fun n_10=>exW .i64 (n_4+n_10) fun n_11=>Q (.ret (.tup [])) [Blk.mk BK.exact true [.int .u32 (v'_5.1
 : Int),.int .u32 (v'_5.2:Int),.int .u32 (v'_5.3:Int),.int .u32 (v'_5.4:Int),.int .u32 (v'_5.5:Int),.int .u32 (v'_5.6:Int),.int .u32 (v'_5.7:Int),.int .u32 (v'_5.8:Int),.str s_9,.int .i64 n_11]] {}))))):=by
 kernel_rfl

noncomputable def goal_134 (hv:Nat→Option Pa) (hb:Nat→Option Bool) (v:W8) (t:List UInt8) (n:Int) (ks:List Nat) (Q:Out→List Blk→Gh→Prop):Prop:=
 callx (e18 smH (fun _=>none) hv hb) (wpx (e18 smH (fun _=>none) hv hb) 1000) 120 [.agg (celT v t n),.agg (cells32M ks)] [] {} Q
theorem vc_134 (v:W8) (t:List UInt8) (n:Int) (ks:List Nat) (Q:Out→List Blk→Gh→Prop):goal_134 (lookV [(491534,.str),(491538,.int .i64),(491539,.int .i64),(491540,.int .i64),(491542,.str),(491543,.str),(491547,
 .int .u64),(491548,.int .u64),(491556,.int .u64),(491557,.int .u8),(491559,.str),(491560,.str),(491566,.agg [(.int .u32),(.int .u32),(.int .u32),(.int .u32),(.int .u32),(.int .u32),(.int .u32),(.int .u32)]),(491572,
 .int .u32),(491573,.int .u8),(491575,.int .u32),(491576,.int .u8),(491578,.int .u32),(491579,.int .u8),(491581,.int .u8),(491586,.str)]) (lookB [(1491520000,false),(1491528192,false)]) v t n ks Q=(ckQ (decide (t.length +
 1≤9223372036854775807)&&true) (exS (.str (t++[UInt8.ofNat 128])) fun s_0=>exI .i64 (t.length:Int) fun n_1=>exW .i64 (119-n_1) fun n_2=>exI .i64 (n_2.tmod 64) fun n_3=>ckQ (decide (0≤n_3)&&decide (n_3≤n_3)&&decide
 (n_3≤1099511627776)&&decide (n_3*1≤1099511627776)) (ckQ (Nat.beq (List.replicate n_3.toNat [AV.int .u8 0]).flatten.length (n_3.toNat*1)&&Nat.ble (0+n_3.toNat) (n_3.toNat*1)&&true&&allU8 (((List.replicate n_3.toNat
 [AV.int .u8 0]).flatten.drop 0).take n_3.toNat)) (exS (.str (List.map toB (((List.replicate n_3.toNat [AV.int .u8 0]).flatten.drop 0).take n_3.toNat))) fun s_4=>ckQ (decide (s_0.length+s_4.length≤9223372036854775807)&&true) (exS
 (.str (s_0++s_4)) fun s_5=>exW .u64 n fun n_6=>exW .u64 (n_6*8) fun n_7=>exI .u64 (Int.fdiv n_7 72057594037927936) fun n_8=>exW .u8 n_8 fun n_9=>exS (.str [toB (.int .u8 n_9)]) fun s_10=>ckQ (decide (s_5.length +
 s_10.length≤9223372036854775807)&&true) (exS (.str (s_5++s_10)) fun s_11=>exI .u64 (Int.fdiv n_7 281474976710656) fun n_12=>exW .u8 n_12 fun n_13=>exS (.str [toB (.int .u8 n_13)]) fun s_14=>ckQ (decide (s_11.length +
 s_14.length≤9223372036854775807)&&true) (exS (.str (s_11++s_14)) fun s_15=>exI .u64 (Int.fdiv n_7 1099511627776) fun n_16=>exW .u8 n_16 fun n_17=>exS (.str [toB (.int .u8 n_17)]) fun s_18=>ckQ (decide (s_15.length +
 s_18.length≤9223372036854775807)&&true) (exS (.str (s_15++s_18)) fun s_19=>exI .u64 (Int.fdiv n_7 4294967296) fun n_20=>exW .u8 n_20 fun n_21=>exS (.str [toB (.int .u8 n_21)]) fun s_22=>ckQ (decide (s_19.length+s_22.length
 ≤ 9223372036854775807)&&true) (exS (.str (s_19++s_22)) fun s_23=>exI .u64 (Int.fdiv n_7 16777216) fun n_24=>exW .u8 n_24 fun n_25=>exS (.str [toB (.int .u8 n_25)]) fun s_26=>ckQ (decide (s_23.length+s_26.length ≤
 9223372036854775807)&&true) (exS (.str (s_23++s_26)) fun s_27=>exI .u64 (Int.fdiv n_7 65536) fun n_28=>exW .u8 n_28 fun n_29=>exS (.str [toB (.int .u8 n_29)]) fun s_30=>ckQ (decide (s_27.length+s_30.length ≤
 9223372036854775807)&&true) (exS (.str (s_27++s_30)) fun s_31=>exI .u64 (Int.fdiv n_7 256) fun n_32=>exW .u8 n_32 fun n_33=>exS (.str [toB (.int .u8 n_33)]) fun s_34=>ckQ (decide (s_31.length+s_34.length ≤
 9223372036854775807)&&true) (exS (.str (s_31++s_34)) fun s_35=>exI .u64 (Int.fdiv n_7 1) fun n_36=>exW .u8 n_36 fun n_37=>exS (.str [toB (.int .u8 n_37)]) fun s_38=>ckQ (decide (s_35.length+s_38.length≤9223372036854775807)
 && true) (exS (.str (s_35++s_38)) fun s_39=>ckQ (Nat.beq (cells32M ks).length (cells32M ks).length&&Nat.ble 64 (cells32M ks).length) (Lf (Nat.blt 0 (List.length [Blk.mk BK.exact true [.int .u32 (v.1:Int),.int .u32 (v.2:Int),
 .int .u32 (v.3:Int),.int .u32 (v.4:Int),.int .u32 (v.5:Int),.int .u32 (v.6:Int),.int .u32 (v.7:Int),.int .u32 (v.8:Int),.str t,.int .i64 n],Blk.mk BK.exact (oldL 0 (cells32M ks)) (cells32M ks),Blk.mk BK.exact (oldL 0
 (List.replicate n_3.toNat [AV.int .u8 0]).flatten) (List.replicate n_3.toNat [AV.int .u8 0]).flatten,Blk.mk BK.exact true [.int .u8 n_9],Blk.mk BK.exact true [.int .u8 n_13],Blk.mk BK.exact true [.int .u8 n_17],Blk.mk BK.exact true
 [.int .u8 n_21],Blk.mk BK.exact true [.int .u8 n_25],Blk.mk BK.exact true [.int .u8 n_29],Blk.mk BK.exact true [.int .u8 n_33],Blk.mk BK.exact true [.int .u8 n_37]])=true∧eqqQ (10:Nat)∧oldL 0 [.str s_39,.agg (((cells32M
 ks).drop 0).take 64)]=true∧noYL [.str s_39,.agg (((cells32M ks).drop 0).take 64)]=true∧oldL 0 [.int .u32 (v.1:Int),.int .u32 (v.2:Int),.int .u32 (v.3:Int),.int .u32 (v.4:Int),.int .u32 (v.5:Int),.int .u32 (v.6 :
 Int),.int .u32 (v.7:Int),.int .u32 (v.8:Int),.str t,.int .i64 n]=true∧noYL [.int .u32 (v.1:Int),.int .u32 (v.2:Int),.int .u32 (v.3:Int),.int .u32 (v.4:Int),.int .u32 (v.5:Int),.int .u32 (v.6:Int),.int .u32
 (v.7:Int),.int .u32 (v.8:Int),.str t,.int .i64 n]=true)∧∃v_40:W8,∃kk_41:List Nat,∃t_42:List UInt8,∃n_43:Int,Lf ([AV.int .u32 (v.1:Int),.int .u32 (v.2:Int),.int .u32 (v.3:Int),.int .u32 (v.4:Int),.int
 .u32 (v.5:Int),.int .u32 (v.6:Int),.int .u32 (v.7:Int),.int .u32 (v.8:Int),.str t,.int .i64 n]=[AV.int .u32 (v_40.1:Int),.int .u32 (v_40.2:Int),.int .u32 (v_40.3:Int),.int .u32 (v_40.4:Int),.int .u32 (v_40.5 :
 Int),.int .u32 (v_40.6:Int),.int .u32 (v_40.7:Int),.int .u32 (v_40.8:Int),.str t_42,.int .i64 n_43]∧((cells32M ks).drop 0).take 64=cells32M kk_41∧okK kk_41∧okW8 v_40∧s_39.length≤9223372036854775807)∧∀v'_44:W8,
 Lf (v'_44=mixM kk_41 (s_39.length/64) v_40 s_39∧okW8 v'_44)→∃n_45 n_46 n_47 n_48 n_49 n_50 n_51 n_52,AV.agg [.int .u32 (v'_44.1:Int),.int .u32 (v'_44.2:Int),.int .u32 (v'_44.3:Int),.int .u32 (v'_44.4:Int),.int .u32
 (v'_44.5:Int),.int .u32 (v'_44.6:Int),.int .u32 (v'_44.7:Int),.int .u32 (v'_44.8:Int)]=AV.agg [.int .u32 n_45,.int .u32 n_46,.int .u32 n_47,.int .u32 n_48,.int .u32 n_49,.int .u32 n_50,.int .u32 n_51,.int .u32 n_52] ∧
 exI .u32 (Int.fdiv n_45 16777216) fun n_53=>exW .u8 n_53 fun n_54=>exI .u32 (Int.fdiv n_45 65536) fun n_55=>exW .u8 n_55 fun n_56=>exI .u32 (Int.fdiv n_45 256) fun n_57=>exW .u8 n_57 fun n_58=>exW .u8 n_45 fun n_59=>exI .u32
 (Int.fdiv n_46 16777216) fun n_60=>exW .u8 n_60 fun n_61=>exI .u32 (Int.fdiv n_46 65536) fun n_62=>exW .u8 n_62 fun n_63=>exI .u32 (Int.fdiv n_46 256) fun n_64=>exW .u8 n_64 fun n_65=>exW .u8 n_46 fun n_66=>exI .u32 (Int.fdiv
 n_47 16777216) fun n_67=>exW .u8 n_67 fun n_68=>exI .u32 (Int.fdiv n_47 65536) fun n_69=>exW .u8 n_69 fun n_70=>exI .u32 (Int.fdiv n_47 256) fun n_71=>exW .u8 n_71 fun n_72=>exW .u8 n_47 fun n_73=>exI .u32 (Int.fdiv n_48
 16777216) fun n_74=>exW .u8 n_74 fun n_75=>exI .u32 (Int.fdiv n_48 65536) fun n_76=>exW .u8 n_76 fun n_77=>exI .u32 (Int.fdiv n_48 256) fun n_78=>exW .u8 n_78 fun n_79=>exW .u8 n_48 fun n_80=>exI .u32 (Int.fdiv n_49 16777216)
 fun n_81=>exW .u8 n_81 fun n_82=>exI .u32 (Int.fdiv n_49 65536) fun n_83=>exW .u8 n_83 fun n_84=>exI .u32 (Int.fdiv n_49 256) fun n_85=>exW .u8 n_85 fun n_86=>exW .u8 n_49 fun n_87=>exI .u32 (Int.fdiv n_50 16777216) fun n_88
 => exW .u8 n_88 fun n_89=>exI .u32 (Int.fdiv n_50 65536) fun n_90=>exW .u8 n_90 fun n_91=>exI .u32 (Int.fdiv n_50 256) fun n_92=>exW .u8 n_92 fun n_93=>exW .u8 n_50 fun n_94=>exI .u32 (Int.fdiv n_51 16777216) fun n_95=>exW
 .u8 n_95 fun n_96=>exI .u32 (Int.fdiv n_51 65536) fun n_97=>exW .u8 n_97 fun n_98=>exI .u32 (Int.fdiv n_51 256) fun n_99=>exW .u8 n_99 fun n_100=>exW .u8 n_51 fun n_101=>exI .u32 (Int.fdiv n_52 16777216) fun n_102=>exW .u8
 n_102 fun n_103=>exI .u32 (Int.fdiv n_52 65536) fun n_104=>exW .u8 n_104 fun n_105=>exI .u32 (Int.fdiv n_52 256) fun n_106=>exW .u8 n_106 fun n_107=>exW .u8 n_52 fun n_108=>exS (.str [toB (.int .u8 n_54),toB (.int .u8 n_56),
 toB (.int .u8 n_58),toB (.int .u8 n_59),toB (.int .u8 n_61),toB (.int .u8 n_63),toB (.int .u8 n_65),toB (.int .u8 n_66),toB (.int .u8 n_68),toB (.int .u8 n_70),toB (.int .u8 n_72),toB (.int .u8 n_73),toB (.int .u8 n_75),toB
 (.int .u8 n_77),toB (.int .u8 n_79),toB (.int .u8 n_80),toB (.int .u8 n_82),toB (.int .u8 n_84),toB (.int .u8 n_86),toB (.int .u8 n_87),toB (.int .u8 n_89),toB (.int .u8 n_91),toB (.int .u8 n_93),toB (.int .u8 n_94),toB (.int
 .u8 n_96),toB (.int .u8 n_98),toB (.int .u8 n_100),toB (.int .u8 n_101),toB (.int .u8 n_103),toB (.int .u8 n_105),toB (.int .u8 n_107),toB (.int .u8 n_108)]) fun s_109=>Q (.ret (.str s_109)) [] {})))))))))))))):=by kernel_rfl

end Go.Proofs.YtjenieljapmehaaGreatDoor
