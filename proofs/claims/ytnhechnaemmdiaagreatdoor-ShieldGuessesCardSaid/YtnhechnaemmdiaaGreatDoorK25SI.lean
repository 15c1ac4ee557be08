/-
  Chapter 4: a number less the prime; its octets.
-/
import Derived.Test.YtnhechnaemmdiaaGreatDoorK25SH
set_option linter.unusedSimpArgs false
set_option linter.unusedVariables false
namespace Go.Proofs.YtnhechnaemmdiaaGreatDoor
open Go.RowKit
set_option maxRecDepth 1000000

theorem addCB {x:Nat} {M:Int} (A m C:Nat) (hC:A+m≤C) (hM:M=(m:Int)) (h64:C<18446744073709551616) (hx:x≤A) {K:Int→Prop} (k:∀z:Nat,z=x+m→z≤C→K z):∃n:Int,AV.int .u64 (IntKind.wrap .u64 ((x:Int)+M))=AV.int .u64 n∧K n:=
 wrapU (x:=x+m) (by omega) (k _ rfl (by omega)) (by omega)
theorem mulCB {x:Nat} {M:Int} (A m C:Nat) (hC:A*m≤C) (hM:M=(m:Int)) (h64:C<18446744073709551616) (hx:x≤A) {K:Int→Prop} (k:∀z:Nat,z=x*m→z≤C→K z):∃n:Int,AV.int .u64 (IntKind.wrap .u64 ((x:Int)*M))=AV.int .u64 n∧K n:=by
 have h:=Nat.mul_le_mul hx (Nat.le_refl m)
 exact wrapU (x:=x*m) (by omega) (k _ rfl (by omega)) (by rw[hM];simp)
theorem w8B {x:Nat} {K:Int→Prop} (k:∀z:Nat,z=x%256→z≤255→K z):∃n:Int,AV.int .u8 (IntKind.wrap .u8 (x:Int))=AV.int .u8 n∧K n:=
 ⟨_,by rw[u8_wrap],k _ rfl (by omega)⟩
theorem div256 {x:Nat} (A C:Nat) (hC:A/256≤C) (hx:x≤A) {K:Int→Prop} (k:∀z:Nat,z=x/256→z≤C→K z):∃n:Int,AV.int .u64 (Int.fdiv (x:Int) 256)=AV.int .u64 n∧K n:=
 ⟨_,by rw[fdivN x 256 256 rfl],k _ rfl (Nat.le_trans (Nat.div_le_div_right hx) hC)⟩
theorem or0B {x:Nat} (A:Nat) (h64:A<18446744073709551616) (hx:x≤A) {K:Int→Prop} (k:∀z:Nat,z=x→z≤A→K z):∃n:Int,AV.int .u64 (IntKind.wrap .u64 (((0:Nat) ||| ((x:Int)%18446744073709551616).toNat:Nat):Int))=AV.int .u64 n∧K n:=
 wrapU (x:=x) (by omega) (k _ rfl (by omega)) (by rw[mod64 (by omega),Nat.zero_or])
theorem orB {x y:Nat} (A B C b:Nat) (hC:A+B≤C) (h64:C<18446744073709551616) (hx:x≤A) (hy:y≤B) (hm:y%2^b=0) (hA:A<2^b) {K:Int→Prop} (k:∀z:Nat,z=x+y→z≤C→K z) :
  ∃n:Int,AV.int .u64 (IntKind.wrap .u64 ((((x:Int)%18446744073709551616).toNat ||| ((y:Int)%18446744073709551616).toNat:Nat):Int))=AV.int .u64 n∧K n:=
 wrapU (x:=x+y) (by omega) (k _ rfl (by omega)) (by rw[mod64 (by omega),mod64 (by omega),or_lo b (Nat.lt_of_le_of_lt hx hA) hm])

theorem moreI {l0 l1 l2 l3 l4:Nat} (b_l0:l0≤67108864) (b_l1:l1≤67108864) (b_l2:l2≤67108864) (b_l3:l3≤67108864) (b_l4:l4≤67108864) {K:Int→Int→Int→Int→Int→Int→Prop}
  (h:∀m0 m1 m2 m3 m4 c:Nat,m0≤67108863→m1≤67108863→m2≤67108863→m3≤67108863→m4≤67108863→valM l0 l1 l2 l3 l4+5=valM m0 m1 m2 m3 m4+1361129467683753853853498429727072845824*c→K m0 m1 m2 m3 m4 c) :
 (∃n_60:Int,(((AV.int .u64 (IntKind.wrap .u64 ((Nat.cast l0:Int)+(5:Int))))=(AV.int .u64 n_60)) ∧
 (∃n_61:Int,(((AV.int .u64 (IntKind.wrap .u64 (n_60+(0:Int))))=(AV.int .u64 n_61)) ∧
 (∃n_62:Int,(((AV.int .u64 (Int.fdiv n_61 (67108864:Int)))=(AV.int .u64 n_62)) ∧
 (∃n_63:Int,(((AV.int .u64 (IntKind.wrap .u64 (Nat.cast ((Int.toNat (n_61%(18446744073709551616:Int))) &&& (67108863:Nat)):Int)))=(AV.int .u64 n_63)) ∧
 (∃n_64:Int,(((AV.int .u64 (IntKind.wrap .u64 ((Nat.cast l1:Int)+n_62)))=(AV.int .u64 n_64)) ∧
 (∃n_65:Int,(((AV.int .u64 (Int.fdiv n_64 (67108864:Int)))=(AV.int .u64 n_65)) ∧
 (∃n_66:Int,(((AV.int .u64 (IntKind.wrap .u64 (Nat.cast ((Int.toNat (n_64%(18446744073709551616:Int))) &&& (67108863:Nat)):Int)))=(AV.int .u64 n_66)) ∧
 (∃n_67:Int,(((AV.int .u64 (IntKind.wrap .u64 ((Nat.cast l2:Int)+n_65)))=(AV.int .u64 n_67)) ∧
 (∃n_68:Int,(((AV.int .u64 (Int.fdiv n_67 (67108864:Int)))=(AV.int .u64 n_68)) ∧
 (∃n_69:Int,(((AV.int .u64 (IntKind.wrap .u64 (Nat.cast ((Int.toNat (n_67%(18446744073709551616:Int))) &&& (67108863:Nat)):Int)))=(AV.int .u64 n_69)) ∧
 (∃n_70:Int,(((AV.int .u64 (IntKind.wrap .u64 ((Nat.cast l3:Int)+n_68)))=(AV.int .u64 n_70)) ∧
 (∃n_71:Int,(((AV.int .u64 (Int.fdiv n_70 (67108864:Int)))=(AV.int .u64 n_71)) ∧
 (∃n_72:Int,(((AV.int .u64 (IntKind.wrap .u64 (Nat.cast ((Int.toNat (n_70%(18446744073709551616:Int))) &&& (67108863:Nat)):Int)))=(AV.int .u64 n_72)) ∧
 (∃n_73:Int,(((AV.int .u64 (IntKind.wrap .u64 ((Nat.cast l4:Int)+n_71)))=(AV.int .u64 n_73)) ∧
 (∃n_74:Int,(((AV.int .u64 (Int.fdiv n_73 (67108864:Int)))=(AV.int .u64 n_74)) ∧
 (∃n_75:Int,(((AV.int .u64 (IntKind.wrap .u64 (Nat.cast ((Int.toNat (n_73%(18446744073709551616:Int))) &&& (67108863:Nat)):Int)))=(AV.int .u64 n_75))∧K n_63 n_66 n_69 n_72 n_75 n_74)))))))))))))))))))))))))))))))):=by
  refine addCB 67108864 5 67108869 (by decide) rfl (by decide) b_l0 (fun z60 e_z60 b_z60 => ?_)
  refine addB0 67108869 (by decide) b_z60 (fun z61 e_z61 b_z61 => ?_)
  refine divB 67108869 1 (by decide) b_z61 (fun z62 e_z62 b_z62 => ?_)
  refine mskB 67108869 (by decide) b_z61 (fun z63 e_z63 b_z63 => ?_)
  refine addB 67108864 1 67108865 (by decide) (by decide) b_l1 b_z62 (fun z64 e_z64 b_z64 => ?_)
  refine divB 67108865 1 (by decide) b_z64 (fun z65 e_z65 b_z65 => ?_)
  refine mskB 67108865 (by decide) b_z64 (fun z66 e_z66 b_z66 => ?_)
  refine addB 67108864 1 67108865 (by decide) (by decide) b_l2 b_z65 (fun z67 e_z67 b_z67 => ?_)
  refine divB 67108865 1 (by decide) b_z67 (fun z68 e_z68 b_z68 => ?_)
  refine mskB 67108865 (by decide) b_z67 (fun z69 e_z69 b_z69 => ?_)
  refine addB 67108864 1 67108865 (by decide) (by decide) b_l3 b_z68 (fun z70 e_z70 b_z70 => ?_)
  refine divB 67108865 1 (by decide) b_z70 (fun z71 e_z71 b_z71 => ?_)
  refine mskB 67108865 (by decide) b_z70 (fun z72 e_z72 b_z72 => ?_)
  refine addB 67108864 1 67108865 (by decide) (by decide) b_l4 b_z71 (fun z73 e_z73 b_z73 => ?_)
  refine divB 67108865 1 (by decide) b_z73 (fun z74 e_z74 b_z74 => ?_)
  refine mskB 67108865 (by decide) b_z73 (fun z75 e_z75 b_z75 => ?_)
  have d_z61:z61=67108864*z62+z63:=by rw[e_z62,e_z63];exact (Nat.div_add_mod _ _).symm
  have d_z64:z64=67108864*z65+z66:=by rw[e_z65,e_z66];exact (Nat.div_add_mod _ _).symm
  have d_z67:z67=67108864*z68+z69:=by rw[e_z68,e_z69];exact (Nat.div_add_mod _ _).symm
  have d_z70:z70=67108864*z71+z72:=by rw[e_z71,e_z72];exact (Nat.div_add_mod _ _).symm
  have d_z73:z73=67108864*z74+z75:=by rw[e_z74,e_z75];exact (Nat.div_add_mod _ _).symm
  clear e_z62 e_z63 e_z65 e_z66 e_z68 e_z69 e_z71 e_z72 e_z74 e_z75
  refine h z63 z66 z69 z72 z75 z74 b_z63 b_z66 b_z69 b_z72 b_z75 ?_
  clear b_z60 b_z61 b_z62 b_z63 b_z64 b_z65 b_z66 b_z67 b_z68 b_z69 b_z70 b_z71 b_z72 b_z73 b_z74 b_z75 b_l0 b_l1 b_l2 b_l3 b_l4
  simp only[valM]
  omega
theorem outI {t0 t1 t2 t3 t4:Nat} (b_t0:t0≤134217728) (b_t1:t1≤134217728) (b_t2:t2≤134217728) (b_t3:t3≤134217728) (b_t4:t4≤134217728) {K:Int→Int→Int→Int→Int→Int→Int→Int→Int→Int→Int→Int→Int→Int→Int→Int→Prop}
  (h:∀y0 y1 y2 y3 y4 y5 y6 y7 y8 y9 y10 y11 y12 y13 y14 y15:Nat,y0≤255→y1≤255→y2≤255→y3≤255→y4≤255→y5≤255→y6≤255→y7≤255→y8≤255→y9≤255→y10≤255→y11≤255→y12≤255→y13≤255→y14≤255→y15≤255→valM t0 t1 t2 t3 t4%340282366920938463463374607431768211456=y0+256*(y1+256*(y2+256*(y3+256*(y4+256*(y5+256*(y6+256*(y7+256*(y8+256*(y9+256*(y10+256*(y11+256*(y12+256*(y13+256*(y14+256*(y15)))))))))))))))→K y0 y1 y2 y3 y4 y5 y6 y7 y8 y9 y10 y11 y12 y13 y14 y15) :
 (∃n_88:Int,(((AV.int .u64 (IntKind.wrap .u64 ((Nat.cast t0:Int)+(0:Int))))=(AV.int .u64 n_88)) ∧
 (∃n_89:Int,(((AV.int .u64 (Int.fdiv n_88 (67108864:Int)))=(AV.int .u64 n_89)) ∧
 (∃n_90:Int,(((AV.int .u64 (IntKind.wrap .u64 (Nat.cast ((Int.toNat (n_88%(18446744073709551616:Int))) &&& (67108863:Nat)):Int)))=(AV.int .u64 n_90)) ∧
 (∃n_91:Int,(((AV.int .u64 (IntKind.wrap .u64 (n_90*(1:Int))))=(AV.int .u64 n_91)) ∧
 (∃n_92:Int,(((AV.int .u64 (IntKind.wrap .u64 (Nat.cast ((0:Nat) ||| (Int.toNat (n_91%(18446744073709551616:Int)))):Int)))=(AV.int .u64 n_92)) ∧
 (∃n_93:Int,(((AV.int .u8 (IntKind.wrap .u8 n_92))=(AV.int .u8 n_93)) ∧
 (∃n_94:Int,(((AV.int .u64 (Int.fdiv n_92 (256:Int)))=(AV.int .u64 n_94)) ∧
 (∃n_95:Int,(((AV.int .u8 (IntKind.wrap .u8 n_94))=(AV.int .u8 n_95)) ∧
 (∃n_96:Int,(((AV.int .u64 (Int.fdiv n_94 (256:Int)))=(AV.int .u64 n_96)) ∧
 (∃n_97:Int,(((AV.int .u8 (IntKind.wrap .u8 n_96))=(AV.int .u8 n_97)) ∧
 (∃n_98:Int,(((AV.int .u64 (Int.fdiv n_96 (256:Int)))=(AV.int .u64 n_98)) ∧
 (∃n_99:Int,(((AV.int .u64 (IntKind.wrap .u64 ((Nat.cast t1:Int)+n_89)))=(AV.int .u64 n_99)) ∧
 (∃n_100:Int,(((AV.int .u64 (Int.fdiv n_99 (67108864:Int)))=(AV.int .u64 n_100)) ∧
 (∃n_101:Int,(((AV.int .u64 (IntKind.wrap .u64 (Nat.cast ((Int.toNat (n_99%(18446744073709551616:Int))) &&& (67108863:Nat)):Int)))=(AV.int .u64 n_101)) ∧
 (∃n_102:Int,(((AV.int .u64 (IntKind.wrap .u64 (n_101*(4:Int))))=(AV.int .u64 n_102)) ∧
 (∃n_103:Int,(((AV.int .u64 (IntKind.wrap .u64 (Nat.cast ((Int.toNat (n_98%(18446744073709551616:Int))) ||| (Int.toNat (n_102%(18446744073709551616:Int)))):Int)))=(AV.int .u64 n_103)) ∧
 (∃n_104:Int,(((AV.int .u8 (IntKind.wrap .u8 n_103))=(AV.int .u8 n_104)) ∧
 (∃n_105:Int,(((AV.int .u64 (Int.fdiv n_103 (256:Int)))=(AV.int .u64 n_105)) ∧
 (∃n_106:Int,(((AV.int .u8 (IntKind.wrap .u8 n_105))=(AV.int .u8 n_106)) ∧
 (∃n_107:Int,(((AV.int .u64 (Int.fdiv n_105 (256:Int)))=(AV.int .u64 n_107)) ∧
 (∃n_108:Int,(((AV.int .u8 (IntKind.wrap .u8 n_107))=(AV.int .u8 n_108)) ∧
 (∃n_109:Int,(((AV.int .u64 (Int.fdiv n_107 (256:Int)))=(AV.int .u64 n_109)) ∧
 (∃n_110:Int,(((AV.int .u64 (IntKind.wrap .u64 ((Nat.cast t2:Int)+n_100)))=(AV.int .u64 n_110)) ∧
 (∃n_111:Int,(((AV.int .u64 (Int.fdiv n_110 (67108864:Int)))=(AV.int .u64 n_111)) ∧
 (∃n_112:Int,(((AV.int .u64 (IntKind.wrap .u64 (Nat.cast ((Int.toNat (n_110%(18446744073709551616:Int))) &&& (67108863:Nat)):Int)))=(AV.int .u64 n_112)) ∧
 (∃n_113:Int,(((AV.int .u64 (IntKind.wrap .u64 (n_112*(16:Int))))=(AV.int .u64 n_113)) ∧
 (∃n_114:Int,(((AV.int .u64 (IntKind.wrap .u64 (Nat.cast ((Int.toNat (n_109%(18446744073709551616:Int))) ||| (Int.toNat (n_113%(18446744073709551616:Int)))):Int)))=(AV.int .u64 n_114)) ∧
 (∃n_115:Int,(((AV.int .u8 (IntKind.wrap .u8 n_114))=(AV.int .u8 n_115)) ∧
 (∃n_116:Int,(((AV.int .u64 (Int.fdiv n_114 (256:Int)))=(AV.int .u64 n_116)) ∧
 (∃n_117:Int,(((AV.int .u8 (IntKind.wrap .u8 n_116))=(AV.int .u8 n_117)) ∧
 (∃n_118:Int,(((AV.int .u64 (Int.fdiv n_116 (256:Int)))=(AV.int .u64 n_118)) ∧
 (∃n_119:Int,(((AV.int .u8 (IntKind.wrap .u8 n_118))=(AV.int .u8 n_119)) ∧
 (∃n_120:Int,(((AV.int .u64 (Int.fdiv n_118 (256:Int)))=(AV.int .u64 n_120)) ∧
 (∃n_121:Int,(((AV.int .u64 (IntKind.wrap .u64 ((Nat.cast t3:Int)+n_111)))=(AV.int .u64 n_121)) ∧
 (∃n_122:Int,(((AV.int .u64 (Int.fdiv n_121 (67108864:Int)))=(AV.int .u64 n_122)) ∧
 (∃n_123:Int,(((AV.int .u64 (IntKind.wrap .u64 (Nat.cast ((Int.toNat (n_121%(18446744073709551616:Int))) &&& (67108863:Nat)):Int)))=(AV.int .u64 n_123)) ∧
 (∃n_124:Int,(((AV.int .u64 (IntKind.wrap .u64 (n_123*(64:Int))))=(AV.int .u64 n_124)) ∧
 (∃n_125:Int,(((AV.int .u64 (IntKind.wrap .u64 (Nat.cast ((Int.toNat (n_120%(18446744073709551616:Int))) ||| (Int.toNat (n_124%(18446744073709551616:Int)))):Int)))=(AV.int .u64 n_125)) ∧
 (∃n_126:Int,(((AV.int .u8 (IntKind.wrap .u8 n_125))=(AV.int .u8 n_126)) ∧
 (∃n_127:Int,(((AV.int .u64 (Int.fdiv n_125 (256:Int)))=(AV.int .u64 n_127)) ∧
 (∃n_128:Int,(((AV.int .u8 (IntKind.wrap .u8 n_127))=(AV.int .u8 n_128)) ∧
 (∃n_129:Int,(((AV.int .u64 (Int.fdiv n_127 (256:Int)))=(AV.int .u64 n_129)) ∧
 (∃n_130:Int,(((AV.int .u8 (IntKind.wrap .u8 n_129))=(AV.int .u8 n_130)) ∧
 (∃n_131:Int,(((AV.int .u64 (Int.fdiv n_129 (256:Int)))=(AV.int .u64 n_131)) ∧
 (∃n_132:Int,(((AV.int .u8 (IntKind.wrap .u8 n_131))=(AV.int .u8 n_132)) ∧
 (∃n_133:Int,(((AV.int .u64 (Int.fdiv n_131 (256:Int)))=(AV.int .u64 n_133)) ∧
 (∃n_134:Int,(((AV.int .u64 (IntKind.wrap .u64 ((Nat.cast t4:Int)+n_122)))=(AV.int .u64 n_134)) ∧
 (∃n_135:Int,(((AV.int .u64 (Int.fdiv n_134 (67108864:Int)))=(AV.int .u64 n_135)) ∧
 (∃n_136:Int,(((AV.int .u64 (IntKind.wrap .u64 (Nat.cast ((Int.toNat (n_134%(18446744073709551616:Int))) &&& (67108863:Nat)):Int)))=(AV.int .u64 n_136)) ∧
 (∃n_137:Int,(((AV.int .u64 (IntKind.wrap .u64 (n_136*(1:Int))))=(AV.int .u64 n_137)) ∧
 (∃n_138:Int,(((AV.int .u64 (IntKind.wrap .u64 (Nat.cast ((Int.toNat (n_133%(18446744073709551616:Int))) ||| (Int.toNat (n_137%(18446744073709551616:Int)))):Int)))=(AV.int .u64 n_138)) ∧
 (∃n_139:Int,(((AV.int .u8 (IntKind.wrap .u8 n_138))=(AV.int .u8 n_139)) ∧
 (∃n_140:Int,(((AV.int .u64 (Int.fdiv n_138 (256:Int)))=(AV.int .u64 n_140)) ∧
 (∃n_141:Int,(((AV.int .u8 (IntKind.wrap .u8 n_140))=(AV.int .u8 n_141)) ∧
 (∃n_142:Int,(((AV.int .u64 (Int.fdiv n_140 (256:Int)))=(AV.int .u64 n_142)) ∧
 (∃n_143:Int,(((AV.int .u8 (IntKind.wrap .u8 n_142))=(AV.int .u8 n_143)) ∧
 (∃n_144:Int,(((AV.int .u64 (Int.fdiv n_142 (256:Int)))=(AV.int .u64 n_144))∧K n_93 n_95 n_97 n_104 n_106 n_108 n_115 n_117 n_119 n_126 n_128 n_130 n_132 n_139 n_141 n_143)))))))))))))))))))))))))))))))))))))))))))))))))))))))))))))))))))))))))))))))))))))))))))))))))))))))))))))))))):=by
  refine addB0 134217728 (by decide) b_t0 (fun z88 e_z88 b_z88 => ?_)
  refine divB 134217728 2 (by decide) b_z88 (fun z89 e_z89 b_z89 => ?_)
  refine mskB 134217728 (by decide) b_z88 (fun z90 e_z90 b_z90 => ?_)
  refine mulCB 67108863 1 67108863 (by decide) rfl (by decide) b_z90 (fun z91 e_z91 b_z91 => ?_)
  refine or0B 67108863 (by decide) b_z91 (fun z92 e_z92 b_z92 => ?_)
  refine w8B (fun z93 e_z93 b_z93 => ?_)
  refine div256 67108863 262143 (by decide) b_z92 (fun z94 e_z94 b_z94 => ?_)
  refine w8B (fun z95 e_z95 b_z95 => ?_)
  refine div256 262143 1023 (by decide) b_z94 (fun z96 e_z96 b_z96 => ?_)
  refine w8B (fun z97 e_z97 b_z97 => ?_)
  refine div256 1023 3 (by decide) b_z96 (fun z98 e_z98 b_z98 => ?_)
  refine addB 134217728 2 134217730 (by decide) (by decide) b_t1 b_z89 (fun z99 e_z99 b_z99 => ?_)
  refine divB 134217730 2 (by decide) b_z99 (fun z100 e_z100 b_z100 => ?_)
  refine mskB 134217730 (by decide) b_z99 (fun z101 e_z101 b_z101 => ?_)
  refine mulCB 67108863 4 268435452 (by decide) rfl (by decide) b_z101 (fun z102 e_z102 b_z102 => ?_)
  refine orB 3 268435452 268435455 2 (by decide) (by decide) b_z98 b_z102 (by rw[e_z102];exact Nat.mul_mod_left _ _) (by decide) (fun z103 e_z103 b_z103 => ?_)
  refine w8B (fun z104 e_z104 b_z104 => ?_)
  refine div256 268435455 1048575 (by decide) b_z103 (fun z105 e_z105 b_z105 => ?_)
  refine w8B (fun z106 e_z106 b_z106 => ?_)
  refine div256 1048575 4095 (by decide) b_z105 (fun z107 e_z107 b_z107 => ?_)
  refine w8B (fun z108 e_z108 b_z108 => ?_)
  refine div256 4095 15 (by decide) b_z107 (fun z109 e_z109 b_z109 => ?_)
  refine addB 134217728 2 134217730 (by decide) (by decide) b_t2 b_z100 (fun z110 e_z110 b_z110 => ?_)
  refine divB 134217730 2 (by decide) b_z110 (fun z111 e_z111 b_z111 => ?_)
  refine mskB 134217730 (by decide) b_z110 (fun z112 e_z112 b_z112 => ?_)
  refine mulCB 67108863 16 1073741808 (by decide) rfl (by decide) b_z112 (fun z113 e_z113 b_z113 => ?_)
  refine orB 15 1073741808 1073741823 4 (by decide) (by decide) b_z109 b_z113 (by rw[e_z113];exact Nat.mul_mod_left _ _) (by decide) (fun z114 e_z114 b_z114 => ?_)
  refine w8B (fun z115 e_z115 b_z115 => ?_)
  refine div256 1073741823 4194303 (by decide) b_z114 (fun z116 e_z116 b_z116 => ?_)
  refine w8B (fun z117 e_z117 b_z117 => ?_)
  refine div256 4194303 16383 (by decide) b_z116 (fun z118 e_z118 b_z118 => ?_)
  refine w8B (fun z119 e_z119 b_z119 => ?_)
  refine div256 16383 63 (by decide) b_z118 (fun z120 e_z120 b_z120 => ?_)
  refine addB 134217728 2 134217730 (by decide) (by decide) b_t3 b_z111 (fun z121 e_z121 b_z121 => ?_)
  refine divB 134217730 2 (by decide) b_z121 (fun z122 e_z122 b_z122 => ?_)
  refine mskB 134217730 (by decide) b_z121 (fun z123 e_z123 b_z123 => ?_)
  refine mulCB 67108863 64 4294967232 (by decide) rfl (by decide) b_z123 (fun z124 e_z124 b_z124 => ?_)
  refine orB 63 4294967232 4294967295 6 (by decide) (by decide) b_z120 b_z124 (by rw[e_z124];exact Nat.mul_mod_left _ _) (by decide) (fun z125 e_z125 b_z125 => ?_)
  refine w8B (fun z126 e_z126 b_z126 => ?_)
  refine div256 4294967295 16777215 (by decide) b_z125 (fun z127 e_z127 b_z127 => ?_)
  refine w8B (fun z128 e_z128 b_z128 => ?_)
  refine div256 16777215 65535 (by decide) b_z127 (fun z129 e_z129 b_z129 => ?_)
  refine w8B (fun z130 e_z130 b_z130 => ?_)
  refine div256 65535 255 (by decide) b_z129 (fun z131 e_z131 b_z131 => ?_)
  refine w8B (fun z132 e_z132 b_z132 => ?_)
  refine div256 255 0 (by decide) b_z131 (fun z133 e_z133 b_z133 => ?_)
  refine addB 134217728 2 134217730 (by decide) (by decide) b_t4 b_z122 (fun z134 e_z134 b_z134 => ?_)
  refine divB 134217730 2 (by decide) b_z134 (fun z135 e_z135 b_z135 => ?_)
  refine mskB 134217730 (by decide) b_z134 (fun z136 e_z136 b_z136 => ?_)
  refine mulCB 67108863 1 67108863 (by decide) rfl (by decide) b_z136 (fun z137 e_z137 b_z137 => ?_)
  refine orB 0 67108863 67108863 0 (by decide) (by decide) b_z133 b_z137 (by rw[e_z137];exact Nat.mul_mod_left _ _) (by decide) (fun z138 e_z138 b_z138 => ?_)
  refine w8B (fun z139 e_z139 b_z139 => ?_)
  refine div256 67108863 262143 (by decide) b_z138 (fun z140 e_z140 b_z140 => ?_)
  refine w8B (fun z141 e_z141 b_z141 => ?_)
  refine div256 262143 1023 (by decide) b_z140 (fun z142 e_z142 b_z142 => ?_)
  refine w8B (fun z143 e_z143 b_z143 => ?_)
  refine div256 1023 3 (by decide) b_z142 (fun z144 e_z144 b_z144 => ?_)
  have d_z88:z88=67108864*z89+z90:=by rw[e_z89,e_z90];exact (Nat.div_add_mod _ _).symm
  have d_z99:z99=67108864*z100+z101:=by rw[e_z100,e_z101];exact (Nat.div_add_mod _ _).symm
  have d_z110:z110=67108864*z111+z112:=by rw[e_z111,e_z112];exact (Nat.div_add_mod _ _).symm
  have d_z121:z121=67108864*z122+z123:=by rw[e_z122,e_z123];exact (Nat.div_add_mod _ _).symm
  have d_z134:z134=67108864*z135+z136:=by rw[e_z135,e_z136];exact (Nat.div_add_mod _ _).symm
  have d_z92:z92=256*z94+z93:=by rw[e_z94,e_z93];exact (Nat.div_add_mod _ _).symm
  have d_z94:z94=256*z96+z95:=by rw[e_z96,e_z95];exact (Nat.div_add_mod _ _).symm
  have d_z96:z96=256*z98+z97:=by rw[e_z98,e_z97];exact (Nat.div_add_mod _ _).symm
  have d_z103:z103=256*z105+z104:=by rw[e_z105,e_z104];exact (Nat.div_add_mod _ _).symm
  have d_z105:z105=256*z107+z106:=by rw[e_z107,e_z106];exact (Nat.div_add_mod _ _).symm
  have d_z107:z107=256*z109+z108:=by rw[e_z109,e_z108];exact (Nat.div_add_mod _ _).symm
  have d_z114:z114=256*z116+z115:=by rw[e_z116,e_z115];exact (Nat.div_add_mod _ _).symm
  have d_z116:z116=256*z118+z117:=by rw[e_z118,e_z117];exact (Nat.div_add_mod _ _).symm
  have d_z118:z118=256*z120+z119:=by rw[e_z120,e_z119];exact (Nat.div_add_mod _ _).symm
  have d_z125:z125=256*z127+z126:=by rw[e_z127,e_z126];exact (Nat.div_add_mod _ _).symm
  have d_z127:z127=256*z129+z128:=by rw[e_z129,e_z128];exact (Nat.div_add_mod _ _).symm
  have d_z129:z129=256*z131+z130:=by rw[e_z131,e_z130];exact (Nat.div_add_mod _ _).symm
  have d_z131:z131=256*z133+z132:=by rw[e_z133,e_z132];exact (Nat.div_add_mod _ _).symm
  have d_z138:z138=256*z140+z139:=by rw[e_z140,e_z139];exact (Nat.div_add_mod _ _).symm
  have d_z140:z140=256*z142+z141:=by rw[e_z142,e_z141];exact (Nat.div_add_mod _ _).symm
  have d_z142:z142=256*z144+z143:=by rw[e_z144,e_z143];exact (Nat.div_add_mod _ _).symm
  clear e_z89 e_z90 e_z100 e_z101 e_z111 e_z112 e_z122 e_z123 e_z135 e_z136 e_z94 e_z93 e_z96 e_z95 e_z98 e_z97 e_z105 e_z104 e_z107 e_z106 e_z109 e_z108 e_z116 e_z115 e_z118 e_z117 e_z120 e_z119 e_z127 e_z126 e_z129 e_z128 e_z131 e_z130 e_z133 e_z132 e_z140 e_z139 e_z142 e_z141 e_z144 e_z143
  refine h z93 z95 z97 z104 z106 z108 z115 z117 z119 z126 z128 z130 z132 z139 z141 z143 b_z93 b_z95 b_z97 b_z104 b_z106 b_z108 b_z115 b_z117 b_z119 b_z126 b_z128 b_z130 b_z132 b_z139 b_z141 b_z143 ?_
  have hh:valM t0 t1 t2 t3 t4=(z93+256*(z95+256*(z97+256*(z104+256*(z106+256*(z108+256*(z115+256*(z117+256*(z119+256*(z126+256*(z128+256*(z130+256*(z132+256*(z139+256*(z141+256*(z143))))))))))))))))+340282366920938463463374607431768211456*(z144+4*z135):=by
   clear b_z88 b_z89 b_z90 b_z91 b_z92 b_z93 b_z94 b_z95 b_z96 b_z97 b_z98 b_z99 b_z100 b_z101 b_z102 b_z103 b_z104 b_z105 b_z106 b_z107 b_z108 b_z109 b_z110 b_z111 b_z112 b_z113 b_z114 b_z115 b_z116 b_z117 b_z118 b_z119 b_z120 b_z121 b_z122 b_z123 b_z124 b_z125 b_z126 b_z127 b_z128 b_z129 b_z130 b_z131 b_z132 b_z133 b_z134 b_z135 b_z136 b_z137 b_z138 b_z139 b_z140 b_z141 b_z142 b_z143 b_z144 b_t0 b_t1 b_t2 b_t3 b_t4
   simp only[valM]
   omega
  rw[hh,Nat.add_mul_mod_self_left]
  refine Nat.mod_eq_of_lt ?_
  clear hh e_z88 e_z91 e_z92 e_z99 e_z102 e_z103 e_z110 e_z113 e_z114 e_z121 e_z124 e_z125 e_z134 e_z137 e_z138 
  omega
end Go.Proofs.YtnhechnaemmdiaaGreatDoor
