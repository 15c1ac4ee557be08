/-
  Chapter 4: products and carries in limbs.
-/
import Derived.Test.YtnhechnaemmdiaaGreatDoorK25SG
set_option linter.unusedSimpArgs false
set_option linter.unusedVariables false
namespace Go.Proofs.YtnhechnaemmdiaaGreatDoor
open Go.RowKit
set_option maxRecDepth 1000000

theorem addB {x y:Nat} (A B C:Nat) (hC:A+B≤C) (h64:C<18446744073709551616) (hx:x≤A) (hy:y≤B) {K:Int→Prop} (k:∀z:Nat,z=x+y→z≤C→K z):∃n:Int,AV.int .u64 (IntKind.wrap .u64 ((x:Int)+(y:Int)))=AV.int .u64 n∧K n:=
 wrapU (x:=x+y) (by omega) (k _ rfl (by omega)) (by omega)
theorem addB0 {x:Nat} (A:Nat) (h64:A<18446744073709551616) (hx:x≤A) {K:Int→Prop} (k:∀z:Nat,z=x→z≤A→K z):∃n:Int,AV.int .u64 (IntKind.wrap .u64 ((x:Int)+0))=AV.int .u64 n∧K n:=
 wrapU (x:=x) (by omega) (k _ rfl (by omega)) (by omega)
theorem add0B {x:Nat} (A:Nat) (h64:A<18446744073709551616) (hx:x≤A) {K:Int→Prop} (k:∀z:Nat,z=x→z≤A→K z):∃n:Int,AV.int .u64 (IntKind.wrap .u64 (0+(x:Int)))=AV.int .u64 n∧K n:=
 wrapU (x:=x) (by omega) (k _ rfl (by omega)) (by omega)
theorem mulB {x y:Nat} (A B C:Nat) (hC:A*B≤C) (h64:C<18446744073709551616) (hx:x≤A) (hy:y≤B) {K:Int→Prop} (k:∀z:Nat,z=x*y→z≤C→K z):∃n:Int,AV.int .u64 (IntKind.wrap .u64 ((x:Int)*(y:Int)))=AV.int .u64 n∧K n:=by
 have h:=Nat.mul_le_mul hx hy
 exact wrapU (x:=x*y) (by omega) (k _ rfl (by omega)) (by simp)
theorem mul5B {x:Nat} (A C:Nat) (hC:5*A≤C) (h64:C<18446744073709551616) (hx:x≤A) {K:Int→Prop} (k:∀z:Nat,z=5*x→z≤C→K z):∃n:Int,AV.int .u64 (IntKind.wrap .u64 (5*(x:Int)))=AV.int .u64 n∧K n:=
 wrapU (x:=5*x) (by omega) (k _ rfl (by omega)) (by omega)
theorem divB {x:Nat} (A C:Nat) (hC:A/67108864≤C) (hx:x≤A) {K:Int→Prop} (k:∀z:Nat,z=x/67108864→z≤C→K z):∃n:Int,AV.int .u64 (Int.fdiv (x:Int) 67108864)=AV.int .u64 n∧K n:=
 ⟨_,by rw[fdivN x 67108864 67108864 rfl],k _ rfl (Nat.le_trans (Nat.div_le_div_right hx) hC)⟩
theorem mskB {x:Nat} (A:Nat) (h64:A<18446744073709551616) (hx:x≤A) {K:Int→Prop} (k:∀z:Nat,z=x%67108864→z≤67108863→K z):∃n:Int,AV.int .u64 (IntKind.wrap .u64 ((((x:Int)%18446744073709551616).toNat &&& 67108863:Nat):Int))=AV.int .u64 n∧K n:=by
 have hm:∀y:Nat,y &&& 67108863=y%67108864:=fun y=>Nat.and_two_pow_sub_one_eq_mod y 26
 exact wrapU (x:=x%67108864) (by omega) (k _ rfl (by omega)) (by rw[mod64 (by omega),hm])

theorem poly_id (x0 x1 x2 x3 x4 r0 r1 r2 r3 r4:Nat):valM x0 x1 x2 x3 x4*valM r0 r1 r2 r3 r4=valM (x0*r0+5*(x1*r4)+5*(x2*r3)+5*(x3*r2)+5*(x4*r1)) (x0*r1+x1*r0+5*(x2*r4)+5*(x3*r3)+5*(x4*r2)) (x0*r2+x1*r1+x2*r0+5*(x3*r4)+5*(x4*r3)) (x0*r3+x1*r2+x2*r1+x3*r0+5*(x4*r4)) (x0*r4+x1*r3+x2*r2+x3*r1+x4*r0)+pM*((x1*r4+x2*r3+x3*r2+x4*r1)*1+(x2*r4+x3*r3+x4*r2)*67108864+(x3*r4+x4*r3)*4503599627370496+(x4*r4)*302231454903657293676544):=by
 simp only[valM,pM,Nat.mul_add,Nat.add_mul]
 have e01:x0*(r1*67108864)=(x0*r1)*67108864:=(Nat.mul_assoc _ _ _).symm
 have e02:x0*(r2*4503599627370496)=(x0*r2)*4503599627370496:=(Nat.mul_assoc _ _ _).symm
 have e03:x0*(r3*302231454903657293676544)=(x0*r3)*302231454903657293676544:=(Nat.mul_assoc _ _ _).symm
 have e04:x0*(r4*20282409603651670423947251286016)=(x0*r4)*20282409603651670423947251286016:=(Nat.mul_assoc _ _ _).symm
 have e10:x1*67108864*r0=(x1*r0)*67108864:=Nat.mul_right_comm _ _ _
 have e11:x1*67108864*(r1*67108864)=(x1*r1)*4503599627370496:=Nat.mul_mul_mul_comm _ _ _ _
 have e12:x1*67108864*(r2*4503599627370496)=(x1*r2)*302231454903657293676544:=Nat.mul_mul_mul_comm _ _ _ _
 have e13:x1*67108864*(r3*302231454903657293676544)=(x1*r3)*20282409603651670423947251286016:=Nat.mul_mul_mul_comm _ _ _ _
 have e14:x1*67108864*(r4*20282409603651670423947251286016)=(x1*r4)*1361129467683753853853498429727072845824:=Nat.mul_mul_mul_comm _ _ _ _
 have e20:x2*4503599627370496*r0=(x2*r0)*4503599627370496:=Nat.mul_right_comm _ _ _
 have e21:x2*4503599627370496*(r1*67108864)=(x2*r1)*302231454903657293676544:=Nat.mul_mul_mul_comm _ _ _ _
 have e22:x2*4503599627370496*(r2*4503599627370496)=(x2*r2)*20282409603651670423947251286016:=Nat.mul_mul_mul_comm _ _ _ _
 have e23:x2*4503599627370496*(r3*302231454903657293676544)=(x2*r3)*1361129467683753853853498429727072845824:=Nat.mul_mul_mul_comm _ _ _ _
 have e24:x2*4503599627370496*(r4*20282409603651670423947251286016)=(x2*r4)*91343852333181432387730302044767688728495783936:=Nat.mul_mul_mul_comm _ _ _ _
 have e30:x3*302231454903657293676544*r0=(x3*r0)*302231454903657293676544:=Nat.mul_right_comm _ _ _
 have e31:x3*302231454903657293676544*(r1*67108864)=(x3*r1)*20282409603651670423947251286016:=Nat.mul_mul_mul_comm _ _ _ _
 have e32:x3*302231454903657293676544*(r2*4503599627370496)=(x3*r2)*1361129467683753853853498429727072845824:=Nat.mul_mul_mul_comm _ _ _ _
 have e33:x3*302231454903657293676544*(r3*302231454903657293676544)=(x3*r3)*91343852333181432387730302044767688728495783936:=Nat.mul_mul_mul_comm _ _ _ _
 have e34:x3*302231454903657293676544*(r4*20282409603651670423947251286016)=(x3*r4)*6129982163463555433433388108601236734474956488734408704:=Nat.mul_mul_mul_comm _ _ _ _
 have e40:x4*20282409603651670423947251286016*r0=(x4*r0)*20282409603651670423947251286016:=Nat.mul_right_comm _ _ _
 have e41:x4*20282409603651670423947251286016*(r1*67108864)=(x4*r1)*1361129467683753853853498429727072845824:=Nat.mul_mul_mul_comm _ _ _ _
 have e42:x4*20282409603651670423947251286016*(r2*4503599627370496)=(x4*r2)*91343852333181432387730302044767688728495783936:=Nat.mul_mul_mul_comm _ _ _ _
 have e43:x4*20282409603651670423947251286016*(r3*302231454903657293676544)=(x4*r3)*6129982163463555433433388108601236734474956488734408704:=Nat.mul_mul_mul_comm _ _ _ _
 have e44:x4*20282409603651670423947251286016*(r4*20282409603651670423947251286016)=(x4*r4)*411376139330301510538742295639337626245683966408394965837152256:=Nat.mul_mul_mul_comm _ _ _ _
 simp only[e01,e02,e03,e04,e10,e11,e12,e13,e14,e20,e21,e22,e23,e24,e30,e31,e32,e33,e34,e40,e41,e42,e43,e44]
 clear e01 e02 e03 e04 e10 e11 e12 e13 e14 e20 e21 e22 e23 e24 e30 e31 e32 e33 e34 e40 e41 e42 e43 e44
 generalize x0*r0=p00
 generalize x0*r1=p01
 generalize x0*r2=p02
 generalize x0*r3=p03
 generalize x0*r4=p04
 generalize x1*r0=p10
 generalize x1*r1=p11
 generalize x1*r2=p12
 generalize x1*r3=p13
 generalize x1*r4=p14
 generalize x2*r0=p20
 generalize x2*r1=p21
 generalize x2*r2=p22
 generalize x2*r3=p23
 generalize x2*r4=p24
 generalize x3*r0=p30
 generalize x3*r1=p31
 generalize x3*r2=p32
 generalize x3*r3=p33
 generalize x3*r4=p34
 generalize x4*r0=p40
 generalize x4*r1=p41
 generalize x4*r2=p42
 generalize x4*r3=p43
 generalize x4*r4=p44
 omega
theorem mulI {x0 x1 x2 x3 x4 r0 r1 r2 r3 r4:Nat} {S:Prop} (hS:S) (b_x0:x0≤134217728) (b_x1:x1≤134217728) (b_x2:x2≤134217728) (b_x3:x3≤134217728) (b_x4:x4≤134217728) (b_r0:r0≤67108863) (b_r1:r1≤67108863) (b_r2:r2≤67108863) (b_r3:r3≤67108863) (b_r4:r4≤67108863) {K:Int→Int→Int→Int→Int→Prop}
  (h:∀o0 o1 o2 o3 o4:Nat,o0≤189151181530988544→o1≤189151181530988544→o2≤189151181530988544→o3≤189151181530988544→o4≤189151181530988544→(∃c,valM x0 x1 x2 x3 x4*valM r0 r1 r2 r3 r4=valM o0 o1 o2 o3 o4+pM*c)→K o0 o1 o2 o3 o4) :
 (∃n_37:Int,(((AV.int .u64 (IntKind.wrap .u64 ((Nat.cast x0:Int)*(Nat.cast r0:Int))))=(AV.int .u64 n_37)) ∧
 (∃n_38:Int,(((AV.int .u64 (IntKind.wrap .u64 ((0:Int)+n_37)))=(AV.int .u64 n_38)) ∧
 (S ∧
 (∃n_39:Int,(((AV.int .u64 (IntKind.wrap .u64 ((Nat.cast x0:Int)*(Nat.cast r1:Int))))=(AV.int .u64 n_39)) ∧
 (∃n_40:Int,(((AV.int .u64 (IntKind.wrap .u64 ((0:Int)+n_39)))=(AV.int .u64 n_40)) ∧
 (S ∧
 (∃n_41:Int,(((AV.int .u64 (IntKind.wrap .u64 ((Nat.cast x0:Int)*(Nat.cast r2:Int))))=(AV.int .u64 n_41)) ∧
 (∃n_42:Int,(((AV.int .u64 (IntKind.wrap .u64 ((0:Int)+n_41)))=(AV.int .u64 n_42)) ∧
 (S ∧
 (∃n_43:Int,(((AV.int .u64 (IntKind.wrap .u64 ((Nat.cast x0:Int)*(Nat.cast r3:Int))))=(AV.int .u64 n_43)) ∧
 (∃n_44:Int,(((AV.int .u64 (IntKind.wrap .u64 ((0:Int)+n_43)))=(AV.int .u64 n_44)) ∧
 (S ∧
 (∃n_45:Int,(((AV.int .u64 (IntKind.wrap .u64 ((Nat.cast x0:Int)*(Nat.cast r4:Int))))=(AV.int .u64 n_45)) ∧
 (∃n_46:Int,(((AV.int .u64 (IntKind.wrap .u64 ((0:Int)+n_45)))=(AV.int .u64 n_46)) ∧
 (S ∧
 (S ∧
 (∃n_47:Int,(((AV.int .u64 (IntKind.wrap .u64 ((Nat.cast x1:Int)*(Nat.cast r0:Int))))=(AV.int .u64 n_47)) ∧
 (∃n_48:Int,(((AV.int .u64 (IntKind.wrap .u64 (n_40+n_47)))=(AV.int .u64 n_48)) ∧
 (S ∧
 (∃n_49:Int,(((AV.int .u64 (IntKind.wrap .u64 ((Nat.cast x1:Int)*(Nat.cast r1:Int))))=(AV.int .u64 n_49)) ∧
 (∃n_50:Int,(((AV.int .u64 (IntKind.wrap .u64 (n_42+n_49)))=(AV.int .u64 n_50)) ∧
 (S ∧
 (∃n_51:Int,(((AV.int .u64 (IntKind.wrap .u64 ((Nat.cast x1:Int)*(Nat.cast r2:Int))))=(AV.int .u64 n_51)) ∧
 (∃n_52:Int,(((AV.int .u64 (IntKind.wrap .u64 (n_44+n_51)))=(AV.int .u64 n_52)) ∧
 (S ∧
 (∃n_53:Int,(((AV.int .u64 (IntKind.wrap .u64 ((Nat.cast x1:Int)*(Nat.cast r3:Int))))=(AV.int .u64 n_53)) ∧
 (∃n_54:Int,(((AV.int .u64 (IntKind.wrap .u64 (n_46+n_53)))=(AV.int .u64 n_54)) ∧
 (S ∧
 (∃n_55:Int,(((AV.int .u64 (IntKind.wrap .u64 ((5:Int)*(Nat.cast x1:Int))))=(AV.int .u64 n_55)) ∧
 (∃n_56:Int,(((AV.int .u64 (IntKind.wrap .u64 (n_55*(Nat.cast r4:Int))))=(AV.int .u64 n_56)) ∧
 (∃n_57:Int,(((AV.int .u64 (IntKind.wrap .u64 (n_38+n_56)))=(AV.int .u64 n_57)) ∧
 (S ∧
 (S ∧
 (∃n_58:Int,(((AV.int .u64 (IntKind.wrap .u64 ((Nat.cast x2:Int)*(Nat.cast r0:Int))))=(AV.int .u64 n_58)) ∧
 (∃n_59:Int,(((AV.int .u64 (IntKind.wrap .u64 (n_50+n_58)))=(AV.int .u64 n_59)) ∧
 (S ∧
 (∃n_60:Int,(((AV.int .u64 (IntKind.wrap .u64 ((Nat.cast x2:Int)*(Nat.cast r1:Int))))=(AV.int .u64 n_60)) ∧
 (∃n_61:Int,(((AV.int .u64 (IntKind.wrap .u64 (n_52+n_60)))=(AV.int .u64 n_61)) ∧
 (S ∧
 (∃n_62:Int,(((AV.int .u64 (IntKind.wrap .u64 ((Nat.cast x2:Int)*(Nat.cast r2:Int))))=(AV.int .u64 n_62)) ∧
 (∃n_63:Int,(((AV.int .u64 (IntKind.wrap .u64 (n_54+n_62)))=(AV.int .u64 n_63)) ∧
 (S ∧
 (∃n_64:Int,(((AV.int .u64 (IntKind.wrap .u64 ((5:Int)*(Nat.cast x2:Int))))=(AV.int .u64 n_64)) ∧
 (∃n_65:Int,(((AV.int .u64 (IntKind.wrap .u64 (n_64*(Nat.cast r3:Int))))=(AV.int .u64 n_65)) ∧
 (∃n_66:Int,(((AV.int .u64 (IntKind.wrap .u64 (n_57+n_65)))=(AV.int .u64 n_66)) ∧
 (S ∧
 (∃n_67:Int,(((AV.int .u64 (IntKind.wrap .u64 ((5:Int)*(Nat.cast x2:Int))))=(AV.int .u64 n_67)) ∧
 (∃n_68:Int,(((AV.int .u64 (IntKind.wrap .u64 (n_67*(Nat.cast r4:Int))))=(AV.int .u64 n_68)) ∧
 (∃n_69:Int,(((AV.int .u64 (IntKind.wrap .u64 (n_48+n_68)))=(AV.int .u64 n_69)) ∧
 (S ∧
 (S ∧
 (∃n_70:Int,(((AV.int .u64 (IntKind.wrap .u64 ((Nat.cast x3:Int)*(Nat.cast r0:Int))))=(AV.int .u64 n_70)) ∧
 (∃n_71:Int,(((AV.int .u64 (IntKind.wrap .u64 (n_61+n_70)))=(AV.int .u64 n_71)) ∧
 (S ∧
 (∃n_72:Int,(((AV.int .u64 (IntKind.wrap .u64 ((Nat.cast x3:Int)*(Nat.cast r1:Int))))=(AV.int .u64 n_72)) ∧
 (∃n_73:Int,(((AV.int .u64 (IntKind.wrap .u64 (n_63+n_72)))=(AV.int .u64 n_73)) ∧
 (S ∧
 (∃n_74:Int,(((AV.int .u64 (IntKind.wrap .u64 ((5:Int)*(Nat.cast x3:Int))))=(AV.int .u64 n_74)) ∧
 (∃n_75:Int,(((AV.int .u64 (IntKind.wrap .u64 (n_74*(Nat.cast r2:Int))))=(AV.int .u64 n_75)) ∧
 (∃n_76:Int,(((AV.int .u64 (IntKind.wrap .u64 (n_66+n_75)))=(AV.int .u64 n_76)) ∧
 (S ∧
 (∃n_77:Int,(((AV.int .u64 (IntKind.wrap .u64 ((5:Int)*(Nat.cast x3:Int))))=(AV.int .u64 n_77)) ∧
 (∃n_78:Int,(((AV.int .u64 (IntKind.wrap .u64 (n_77*(Nat.cast r3:Int))))=(AV.int .u64 n_78)) ∧
 (∃n_79:Int,(((AV.int .u64 (IntKind.wrap .u64 (n_69+n_78)))=(AV.int .u64 n_79)) ∧
 (S ∧
 (∃n_80:Int,(((AV.int .u64 (IntKind.wrap .u64 ((5:Int)*(Nat.cast x3:Int))))=(AV.int .u64 n_80)) ∧
 (∃n_81:Int,(((AV.int .u64 (IntKind.wrap .u64 (n_80*(Nat.cast r4:Int))))=(AV.int .u64 n_81)) ∧
 (∃n_82:Int,(((AV.int .u64 (IntKind.wrap .u64 (n_59+n_81)))=(AV.int .u64 n_82)) ∧
 (S ∧
 (S ∧
 (∃n_83:Int,(((AV.int .u64 (IntKind.wrap .u64 ((Nat.cast x4:Int)*(Nat.cast r0:Int))))=(AV.int .u64 n_83)) ∧
 (∃n_84:Int,(((AV.int .u64 (IntKind.wrap .u64 (n_73+n_83)))=(AV.int .u64 n_84)) ∧
 (S ∧
 (∃n_85:Int,(((AV.int .u64 (IntKind.wrap .u64 ((5:Int)*(Nat.cast x4:Int))))=(AV.int .u64 n_85)) ∧
 (∃n_86:Int,(((AV.int .u64 (IntKind.wrap .u64 (n_85*(Nat.cast r1:Int))))=(AV.int .u64 n_86)) ∧
 (∃n_87:Int,(((AV.int .u64 (IntKind.wrap .u64 (n_76+n_86)))=(AV.int .u64 n_87)) ∧
 (S ∧
 (∃n_88:Int,(((AV.int .u64 (IntKind.wrap .u64 ((5:Int)*(Nat.cast x4:Int))))=(AV.int .u64 n_88)) ∧
 (∃n_89:Int,(((AV.int .u64 (IntKind.wrap .u64 (n_88*(Nat.cast r2:Int))))=(AV.int .u64 n_89)) ∧
 (∃n_90:Int,(((AV.int .u64 (IntKind.wrap .u64 (n_79+n_89)))=(AV.int .u64 n_90)) ∧
 (S ∧
 (∃n_91:Int,(((AV.int .u64 (IntKind.wrap .u64 ((5:Int)*(Nat.cast x4:Int))))=(AV.int .u64 n_91)) ∧
 (∃n_92:Int,(((AV.int .u64 (IntKind.wrap .u64 (n_91*(Nat.cast r3:Int))))=(AV.int .u64 n_92)) ∧
 (∃n_93:Int,(((AV.int .u64 (IntKind.wrap .u64 (n_82+n_92)))=(AV.int .u64 n_93)) ∧
 (S ∧
 (∃n_94:Int,(((AV.int .u64 (IntKind.wrap .u64 ((5:Int)*(Nat.cast x4:Int))))=(AV.int .u64 n_94)) ∧
 (∃n_95:Int,(((AV.int .u64 (IntKind.wrap .u64 (n_94*(Nat.cast r4:Int))))=(AV.int .u64 n_95)) ∧
 (∃n_96:Int,(((AV.int .u64 (IntKind.wrap .u64 (n_71+n_95)))=(AV.int .u64 n_96)) ∧
 (S ∧
 (S∧K n_87 n_90 n_93 n_96 n_84)))))))))))))))))))))))))))))))))))))))))))))))))))))))))))))))))))))))))))))))))))))))))))))))))))))))))))))))))))))))))))))))))))))))))))))))))))))):=by
  refine mulB 134217728 67108863 9007199120523264 (by decide) (by decide) b_x0 b_r0 (fun z37 e_z37 b_z37 => ?_)
  refine add0B 9007199120523264 (by decide) b_z37 (fun z38 e_z38 b_z38 => ?_)
  refine ⟨hS, ?_⟩
  refine mulB 134217728 67108863 9007199120523264 (by decide) (by decide) b_x0 b_r1 (fun z39 e_z39 b_z39 => ?_)
  refine add0B 9007199120523264 (by decide) b_z39 (fun z40 e_z40 b_z40 => ?_)
  refine ⟨hS, ?_⟩
  refine mulB 134217728 67108863 9007199120523264 (by decide) (by decide) b_x0 b_r2 (fun z41 e_z41 b_z41 => ?_)
  refine add0B 9007199120523264 (by decide) b_z41 (fun z42 e_z42 b_z42 => ?_)
  refine ⟨hS, ?_⟩
  refine mulB 134217728 67108863 9007199120523264 (by decide) (by decide) b_x0 b_r3 (fun z43 e_z43 b_z43 => ?_)
  refine add0B 9007199120523264 (by decide) b_z43 (fun z44 e_z44 b_z44 => ?_)
  refine ⟨hS, ?_⟩
  refine mulB 134217728 67108863 9007199120523264 (by decide) (by decide) b_x0 b_r4 (fun z45 e_z45 b_z45 => ?_)
  refine add0B 9007199120523264 (by decide) b_z45 (fun z46 e_z46 b_z46 => ?_)
  refine ⟨hS, ?_⟩
  refine ⟨hS, ?_⟩
  refine mulB 134217728 67108863 9007199120523264 (by decide) (by decide) b_x1 b_r0 (fun z47 e_z47 b_z47 => ?_)
  refine addB 9007199120523264 9007199120523264 18014398241046528 (by decide) (by decide) b_z40 b_z47 (fun z48 e_z48 b_z48 => ?_)
  refine ⟨hS, ?_⟩
  refine mulB 134217728 67108863 9007199120523264 (by decide) (by decide) b_x1 b_r1 (fun z49 e_z49 b_z49 => ?_)
  refine addB 9007199120523264 9007199120523264 18014398241046528 (by decide) (by decide) b_z42 b_z49 (fun z50 e_z50 b_z50 => ?_)
  refine ⟨hS, ?_⟩
  refine mulB 134217728 67108863 9007199120523264 (by decide) (by decide) b_x1 b_r2 (fun z51 e_z51 b_z51 => ?_)
  refine addB 9007199120523264 9007199120523264 18014398241046528 (by decide) (by decide) b_z44 b_z51 (fun z52 e_z52 b_z52 => ?_)
  refine ⟨hS, ?_⟩
  refine mulB 134217728 67108863 9007199120523264 (by decide) (by decide) b_x1 b_r3 (fun z53 e_z53 b_z53 => ?_)
  refine addB 9007199120523264 9007199120523264 18014398241046528 (by decide) (by decide) b_z46 b_z53 (fun z54 e_z54 b_z54 => ?_)
  refine ⟨hS, ?_⟩
  refine mul5B 134217728 671088640 (by decide) (by decide) b_x1 (fun z55 e_z55 b_z55 => ?_)
  refine mulB 671088640 67108863 45035995602616320 (by decide) (by decide) b_z55 b_r4 (fun z56 e_z56 b_z56 => ?_)
  refine addB 9007199120523264 45035995602616320 54043194723139584 (by decide) (by decide) b_z38 b_z56 (fun z57 e_z57 b_z57 => ?_)
  refine ⟨hS, ?_⟩
  refine ⟨hS, ?_⟩
  refine mulB 134217728 67108863 9007199120523264 (by decide) (by decide) b_x2 b_r0 (fun z58 e_z58 b_z58 => ?_)
  refine addB 18014398241046528 9007199120523264 27021597361569792 (by decide) (by decide) b_z50 b_z58 (fun z59 e_z59 b_z59 => ?_)
  refine ⟨hS, ?_⟩
  refine mulB 134217728 67108863 9007199120523264 (by decide) (by decide) b_x2 b_r1 (fun z60 e_z60 b_z60 => ?_)
  refine addB 18014398241046528 9007199120523264 27021597361569792 (by decide) (by decide) b_z52 b_z60 (fun z61 e_z61 b_z61 => ?_)
  refine ⟨hS, ?_⟩
  refine mulB 134217728 67108863 9007199120523264 (by decide) (by decide) b_x2 b_r2 (fun z62 e_z62 b_z62 => ?_)
  refine addB 18014398241046528 9007199120523264 27021597361569792 (by decide) (by decide) b_z54 b_z62 (fun z63 e_z63 b_z63 => ?_)
  refine ⟨hS, ?_⟩
  refine mul5B 134217728 671088640 (by decide) (by decide) b_x2 (fun z64 e_z64 b_z64 => ?_)
  refine mulB 671088640 67108863 45035995602616320 (by decide) (by decide) b_z64 b_r3 (fun z65 e_z65 b_z65 => ?_)
  refine addB 54043194723139584 45035995602616320 99079190325755904 (by decide) (by decide) b_z57 b_z65 (fun z66 e_z66 b_z66 => ?_)
  refine ⟨hS, ?_⟩
  refine mul5B 134217728 671088640 (by decide) (by decide) b_x2 (fun z67 e_z67 b_z67 => ?_)
  refine mulB 671088640 67108863 45035995602616320 (by decide) (by decide) b_z67 b_r4 (fun z68 e_z68 b_z68 => ?_)
  refine addB 18014398241046528 45035995602616320 63050393843662848 (by decide) (by decide) b_z48 b_z68 (fun z69 e_z69 b_z69 => ?_)
  refine ⟨hS, ?_⟩
  refine ⟨hS, ?_⟩
  refine mulB 134217728 67108863 9007199120523264 (by decide) (by decide) b_x3 b_r0 (fun z70 e_z70 b_z70 => ?_)
  refine addB 27021597361569792 9007199120523264 36028796482093056 (by decide) (by decide) b_z61 b_z70 (fun z71 e_z71 b_z71 => ?_)
  refine ⟨hS, ?_⟩
  refine mulB 134217728 67108863 9007199120523264 (by decide) (by decide) b_x3 b_r1 (fun z72 e_z72 b_z72 => ?_)
  refine addB 27021597361569792 9007199120523264 36028796482093056 (by decide) (by decide) b_z63 b_z72 (fun z73 e_z73 b_z73 => ?_)
  refine ⟨hS, ?_⟩
  refine mul5B 134217728 671088640 (by decide) (by decide) b_x3 (fun z74 e_z74 b_z74 => ?_)
  refine mulB 671088640 67108863 45035995602616320 (by decide) (by decide) b_z74 b_r2 (fun z75 e_z75 b_z75 => ?_)
  refine addB 99079190325755904 45035995602616320 144115185928372224 (by decide) (by decide) b_z66 b_z75 (fun z76 e_z76 b_z76 => ?_)
  refine ⟨hS, ?_⟩
  refine mul5B 134217728 671088640 (by decide) (by decide) b_x3 (fun z77 e_z77 b_z77 => ?_)
  refine mulB 671088640 67108863 45035995602616320 (by decide) (by decide) b_z77 b_r3 (fun z78 e_z78 b_z78 => ?_)
  refine addB 63050393843662848 45035995602616320 108086389446279168 (by decide) (by decide) b_z69 b_z78 (fun z79 e_z79 b_z79 => ?_)
  refine ⟨hS, ?_⟩
  refine mul5B 134217728 671088640 (by decide) (by decide) b_x3 (fun z80 e_z80 b_z80 => ?_)
  refine mulB 671088640 67108863 45035995602616320 (by decide) (by decide) b_z80 b_r4 (fun z81 e_z81 b_z81 => ?_)
  refine addB 27021597361569792 45035995602616320 72057592964186112 (by decide) (by decide) b_z59 b_z81 (fun z82 e_z82 b_z82 => ?_)
  refine ⟨hS, ?_⟩
  refine ⟨hS, ?_⟩
  refine mulB 134217728 67108863 9007199120523264 (by decide) (by decide) b_x4 b_r0 (fun z83 e_z83 b_z83 => ?_)
  refine addB 36028796482093056 9007199120523264 45035995602616320 (by decide) (by decide) b_z73 b_z83 (fun z84 e_z84 b_z84 => ?_)
  refine ⟨hS, ?_⟩
  refine mul5B 134217728 671088640 (by decide) (by decide) b_x4 (fun z85 e_z85 b_z85 => ?_)
  refine mulB 671088640 67108863 45035995602616320 (by decide) (by decide) b_z85 b_r1 (fun z86 e_z86 b_z86 => ?_)
  refine addB 144115185928372224 45035995602616320 189151181530988544 (by decide) (by decide) b_z76 b_z86 (fun z87 e_z87 b_z87 => ?_)
  refine ⟨hS, ?_⟩
  refine mul5B 134217728 671088640 (by decide) (by decide) b_x4 (fun z88 e_z88 b_z88 => ?_)
  refine mulB 671088640 67108863 45035995602616320 (by decide) (by decide) b_z88 b_r2 (fun z89 e_z89 b_z89 => ?_)
  refine addB 108086389446279168 45035995602616320 153122385048895488 (by decide) (by decide) b_z79 b_z89 (fun z90 e_z90 b_z90 => ?_)
  refine ⟨hS, ?_⟩
  refine mul5B 134217728 671088640 (by decide) (by decide) b_x4 (fun z91 e_z91 b_z91 => ?_)
  refine mulB 671088640 67108863 45035995602616320 (by decide) (by decide) b_z91 b_r3 (fun z92 e_z92 b_z92 => ?_)
  refine addB 72057592964186112 45035995602616320 117093588566802432 (by decide) (by decide) b_z82 b_z92 (fun z93 e_z93 b_z93 => ?_)
  refine ⟨hS, ?_⟩
  refine mul5B 134217728 671088640 (by decide) (by decide) b_x4 (fun z94 e_z94 b_z94 => ?_)
  refine mulB 671088640 67108863 45035995602616320 (by decide) (by decide) b_z94 b_r4 (fun z95 e_z95 b_z95 => ?_)
  refine addB 36028796482093056 45035995602616320 81064792084709376 (by decide) (by decide) b_z71 b_z95 (fun z96 e_z96 b_z96 => ?_)
  refine ⟨hS, ?_⟩
  refine ⟨hS, ?_⟩
  have m_z56:z56=5*(x1*r4):=by rw[e_z56,e_z55,Nat.mul_assoc]
  clear e_z56
  have m_z65:z65=5*(x2*r3):=by rw[e_z65,e_z64,Nat.mul_assoc]
  clear e_z65
  have m_z68:z68=5*(x2*r4):=by rw[e_z68,e_z67,Nat.mul_assoc]
  clear e_z68
  have m_z75:z75=5*(x3*r2):=by rw[e_z75,e_z74,Nat.mul_assoc]
  clear e_z75
  have m_z78:z78=5*(x3*r3):=by rw[e_z78,e_z77,Nat.mul_assoc]
  clear e_z78
  have m_z81:z81=5*(x3*r4):=by rw[e_z81,e_z80,Nat.mul_assoc]
  clear e_z81
  have m_z86:z86=5*(x4*r1):=by rw[e_z86,e_z85,Nat.mul_assoc]
  clear e_z86
  have m_z89:z89=5*(x4*r2):=by rw[e_z89,e_z88,Nat.mul_assoc]
  clear e_z89
  have m_z92:z92=5*(x4*r3):=by rw[e_z92,e_z91,Nat.mul_assoc]
  clear e_z92
  have m_z95:z95=5*(x4*r4):=by rw[e_z95,e_z94,Nat.mul_assoc]
  clear e_z95
  clear b_z37 b_z38 b_z39 b_z40 b_z41 b_z42 b_z43 b_z44 b_z45 b_z46 b_z47 b_z48 b_z49 b_z50 b_z51 b_z52 b_z53 b_z54 b_z55 b_z56 b_z57 b_z58 b_z59 b_z60 b_z61 b_z62 b_z63 b_z64 b_z65 b_z66 b_z67 b_z68 b_z69 b_z70 b_z71 b_z72 b_z73 b_z74 b_z75 b_z76 b_z77 b_z78 b_z79 b_z80 b_z81 b_z82 b_z83 b_z85 b_z86 b_z88 b_z89 b_z91 b_z92 b_z94 b_z95
  generalize hp00:x0*r0=p00 at *
  generalize hp01:x0*r1=p01 at *
  generalize hp02:x0*r2=p02 at *
  generalize hp03:x0*r3=p03 at *
  generalize hp04:x0*r4=p04 at *
  generalize hp10:x1*r0=p10 at *
  generalize hp11:x1*r1=p11 at *
  generalize hp12:x1*r2=p12 at *
  generalize hp13:x1*r3=p13 at *
  generalize hp14:x1*r4=p14 at *
  generalize hp20:x2*r0=p20 at *
  generalize hp21:x2*r1=p21 at *
  generalize hp22:x2*r2=p22 at *
  generalize hp23:x2*r3=p23 at *
  generalize hp24:x2*r4=p24 at *
  generalize hp30:x3*r0=p30 at *
  generalize hp31:x3*r1=p31 at *
  generalize hp32:x3*r2=p32 at *
  generalize hp33:x3*r3=p33 at *
  generalize hp34:x3*r4=p34 at *
  generalize hp40:x4*r0=p40 at *
  generalize hp41:x4*r1=p41 at *
  generalize hp42:x4*r2=p42 at *
  generalize hp43:x4*r3=p43 at *
  generalize hp44:x4*r4=p44 at *
  have s0:p00+5*p14+5*p23+5*p32+5*p41=z87:=by omega
  have s1:p01+p10+5*p24+5*p33+5*p42=z90:=by omega
  have s2:p02+p11+p20+5*p34+5*p43=z93:=by omega
  have s3:p03+p12+p21+p30+5*p44=z96:=by omega
  have s4:p04+p13+p22+p31+p40=z84:=by omega
  refine h z87 z90 z93 z96 z84 (Nat.le_trans b_z87 (by decide)) (Nat.le_trans b_z90 (by decide)) (Nat.le_trans b_z93 (by decide)) (Nat.le_trans b_z96 (by decide)) (Nat.le_trans b_z84 (by decide)) ⟨(x1*r4+x2*r3+x3*r2+x4*r1)*1+(x2*r4+x3*r3+x4*r2)*67108864+(x3*r4+x4*r3)*4503599627370496+(x4*r4)*302231454903657293676544, ?_⟩
  rw[poly_id x0 x1 x2 x3 x4 r0 r1 r2 r3 r4]
  rw[hp00,hp01,hp02,hp03,hp04,hp10,hp11,hp12,hp13,hp14,hp20,hp21,hp22,hp23,hp24,hp30,hp31,hp32,hp33,hp34,hp40,hp41,hp42,hp43,hp44]
  rw[s0,s1,s2,s3,s4]
theorem carryI {o0 o1 o2 o3 o4:Nat} {S:Prop} (hS:S) (b_o0:o0≤189151181530988544) (b_o1:o1≤189151181530988544) (b_o2:o2≤189151181530988544) (b_o3:o3≤189151181530988544) (b_o4:o4≤189151181530988544) {K:Int→Int→Int→Int→Int→Prop}
  (h:∀l0 l1 l2 l3 l4:Nat,l0≤67108864→l1≤67108864→l2≤67108864→l3≤67108864→l4≤67108864→(∃c,valM o0 o1 o2 o3 o4=valM l0 l1 l2 l3 l4+pM*c)→K l0 l1 l2 l3 l4) :
 (∃n_97:Int,(((AV.int .u64 (IntKind.wrap .u64 ((Nat.cast o0:Int)+(0:Int))))=(AV.int .u64 n_97)) ∧
 (∃n_98:Int,(((AV.int .u64 (Int.fdiv n_97 (67108864:Int)))=(AV.int .u64 n_98)) ∧
 (∃n_99:Int,(((AV.int .u64 (IntKind.wrap .u64 (Nat.cast ((Int.toNat (n_97%(18446744073709551616:Int))) &&& (67108863:Nat)):Int)))=(AV.int .u64 n_99)) ∧
 (S ∧
 (∃n_100:Int,(((AV.int .u64 (IntKind.wrap .u64 ((Nat.cast o1:Int)+n_98)))=(AV.int .u64 n_100)) ∧
 (∃n_101:Int,(((AV.int .u64 (Int.fdiv n_100 (67108864:Int)))=(AV.int .u64 n_101)) ∧
 (∃n_102:Int,(((AV.int .u64 (IntKind.wrap .u64 (Nat.cast ((Int.toNat (n_100%(18446744073709551616:Int))) &&& (67108863:Nat)):Int)))=(AV.int .u64 n_102)) ∧
 (S ∧
 (∃n_103:Int,(((AV.int .u64 (IntKind.wrap .u64 ((Nat.cast o2:Int)+n_101)))=(AV.int .u64 n_103)) ∧
 (∃n_104:Int,(((AV.int .u64 (Int.fdiv n_103 (67108864:Int)))=(AV.int .u64 n_104)) ∧
 (∃n_105:Int,(((AV.int .u64 (IntKind.wrap .u64 (Nat.cast ((Int.toNat (n_103%(18446744073709551616:Int))) &&& (67108863:Nat)):Int)))=(AV.int .u64 n_105)) ∧
 (S ∧
 (∃n_106:Int,(((AV.int .u64 (IntKind.wrap .u64 ((Nat.cast o3:Int)+n_104)))=(AV.int .u64 n_106)) ∧
 (∃n_107:Int,(((AV.int .u64 (Int.fdiv n_106 (67108864:Int)))=(AV.int .u64 n_107)) ∧
 (∃n_108:Int,(((AV.int .u64 (IntKind.wrap .u64 (Nat.cast ((Int.toNat (n_106%(18446744073709551616:Int))) &&& (67108863:Nat)):Int)))=(AV.int .u64 n_108)) ∧
 (S ∧
 (∃n_109:Int,(((AV.int .u64 (IntKind.wrap .u64 ((Nat.cast o4:Int)+n_107)))=(AV.int .u64 n_109)) ∧
 (∃n_110:Int,(((AV.int .u64 (Int.fdiv n_109 (67108864:Int)))=(AV.int .u64 n_110)) ∧
 (∃n_111:Int,(((AV.int .u64 (IntKind.wrap .u64 (Nat.cast ((Int.toNat (n_109%(18446744073709551616:Int))) &&& (67108863:Nat)):Int)))=(AV.int .u64 n_111)) ∧
 (S ∧
 (∃n_112:Int,(((AV.int .u64 (IntKind.wrap .u64 ((5:Int)*n_110)))=(AV.int .u64 n_112)) ∧
 (∃n_113:Int,(((AV.int .u64 (IntKind.wrap .u64 (n_99+n_112)))=(AV.int .u64 n_113)) ∧
 (S ∧
 (∃n_114:Int,(((AV.int .u64 (IntKind.wrap .u64 (n_113+(0:Int))))=(AV.int .u64 n_114)) ∧
 (∃n_115:Int,(((AV.int .u64 (Int.fdiv n_114 (67108864:Int)))=(AV.int .u64 n_115)) ∧
 (∃n_116:Int,(((AV.int .u64 (IntKind.wrap .u64 (Nat.cast ((Int.toNat (n_114%(18446744073709551616:Int))) &&& (67108863:Nat)):Int)))=(AV.int .u64 n_116)) ∧
 (S ∧
 (∃n_117:Int,(((AV.int .u64 (IntKind.wrap .u64 (n_102+n_115)))=(AV.int .u64 n_117)) ∧
 (∃n_118:Int,(((AV.int .u64 (Int.fdiv n_117 (67108864:Int)))=(AV.int .u64 n_118)) ∧
 (∃n_119:Int,(((AV.int .u64 (IntKind.wrap .u64 (Nat.cast ((Int.toNat (n_117%(18446744073709551616:Int))) &&& (67108863:Nat)):Int)))=(AV.int .u64 n_119)) ∧
 (S ∧
 (∃n_120:Int,(((AV.int .u64 (IntKind.wrap .u64 (n_105+n_118)))=(AV.int .u64 n_120)) ∧
 (∃n_121:Int,(((AV.int .u64 (Int.fdiv n_120 (67108864:Int)))=(AV.int .u64 n_121)) ∧
 (∃n_122:Int,(((AV.int .u64 (IntKind.wrap .u64 (Nat.cast ((Int.toNat (n_120%(18446744073709551616:Int))) &&& (67108863:Nat)):Int)))=(AV.int .u64 n_122)) ∧
 (S ∧
 (∃n_123:Int,(((AV.int .u64 (IntKind.wrap .u64 (n_108+n_121)))=(AV.int .u64 n_123)) ∧
 (∃n_124:Int,(((AV.int .u64 (Int.fdiv n_123 (67108864:Int)))=(AV.int .u64 n_124)) ∧
 (∃n_125:Int,(((AV.int .u64 (IntKind.wrap .u64 (Nat.cast ((Int.toNat (n_123%(18446744073709551616:Int))) &&& (67108863:Nat)):Int)))=(AV.int .u64 n_125)) ∧
 (S ∧
 (∃n_126:Int,(((AV.int .u64 (IntKind.wrap .u64 (n_111+n_124)))=(AV.int .u64 n_126)) ∧
 (∃n_127:Int,(((AV.int .u64 (Int.fdiv n_126 (67108864:Int)))=(AV.int .u64 n_127)) ∧
 (∃n_128:Int,(((AV.int .u64 (IntKind.wrap .u64 (Nat.cast ((Int.toNat (n_126%(18446744073709551616:Int))) &&& (67108863:Nat)):Int)))=(AV.int .u64 n_128)) ∧
 (S ∧
 (∃n_129:Int,(((AV.int .u64 (IntKind.wrap .u64 ((5:Int)*n_127)))=(AV.int .u64 n_129)) ∧
 (∃n_130:Int,(((AV.int .u64 (IntKind.wrap .u64 (n_116+n_129)))=(AV.int .u64 n_130)) ∧
 (S ∧
 (∃n_131:Int,(((AV.int .u64 (Int.fdiv n_130 (67108864:Int)))=(AV.int .u64 n_131)) ∧
 (∃n_132:Int,(((AV.int .u64 (IntKind.wrap .u64 (n_119+n_131)))=(AV.int .u64 n_132)) ∧
 (∃n_133:Int,(((AV.int .u64 (IntKind.wrap .u64 (Nat.cast ((Int.toNat (n_130%(18446744073709551616:Int))) &&& (67108863:Nat)):Int)))=(AV.int .u64 n_133)) ∧
 (S∧K n_133 n_132 n_122 n_125 n_128))))))))))))))))))))))))))))))))))))))))))))))))))))))))))))))))))))))))))))))))))))))):=by
  refine addB0 189151181530988544 (by decide) b_o0 (fun z97 e_z97 b_z97 => ?_)
  refine divB 189151181530988544 2818572246 (by decide) b_z97 (fun z98 e_z98 b_z98 => ?_)
  refine mskB 189151181530988544 (by decide) b_z97 (fun z99 e_z99 b_z99 => ?_)
  refine ⟨hS, ?_⟩
  refine addB 189151181530988544 2818572246 189151184349560790 (by decide) (by decide) b_o1 b_z98 (fun z100 e_z100 b_z100 => ?_)
  refine divB 189151184349560790 2818572287 (by decide) b_z100 (fun z101 e_z101 b_z101 => ?_)
  refine mskB 189151184349560790 (by decide) b_z100 (fun z102 e_z102 b_z102 => ?_)
  refine ⟨hS, ?_⟩
  refine addB 189151181530988544 2818572287 189151184349560831 (by decide) (by decide) b_o2 b_z101 (fun z103 e_z103 b_z103 => ?_)
  refine divB 189151184349560831 2818572287 (by decide) b_z103 (fun z104 e_z104 b_z104 => ?_)
  refine mskB 189151184349560831 (by decide) b_z103 (fun z105 e_z105 b_z105 => ?_)
  refine ⟨hS, ?_⟩
  refine addB 189151181530988544 2818572287 189151184349560831 (by decide) (by decide) b_o3 b_z104 (fun z106 e_z106 b_z106 => ?_)
  refine divB 189151184349560831 2818572287 (by decide) b_z106 (fun z107 e_z107 b_z107 => ?_)
  refine mskB 189151184349560831 (by decide) b_z106 (fun z108 e_z108 b_z108 => ?_)
  refine ⟨hS, ?_⟩
  refine addB 189151181530988544 2818572287 189151184349560831 (by decide) (by decide) b_o4 b_z107 (fun z109 e_z109 b_z109 => ?_)
  refine divB 189151184349560831 2818572287 (by decide) b_z109 (fun z110 e_z110 b_z110 => ?_)
  refine mskB 189151184349560831 (by decide) b_z109 (fun z111 e_z111 b_z111 => ?_)
  refine ⟨hS, ?_⟩
  refine mul5B 2818572287 14092861435 (by decide) (by decide) b_z110 (fun z112 e_z112 b_z112 => ?_)
  refine addB 67108863 14092861435 14159970298 (by decide) (by decide) b_z99 b_z112 (fun z113 e_z113 b_z113 => ?_)
  refine ⟨hS, ?_⟩
  refine addB0 14159970298 (by decide) b_z113 (fun z114 e_z114 b_z114 => ?_)
  refine divB 14159970298 210 (by decide) b_z114 (fun z115 e_z115 b_z115 => ?_)
  refine mskB 14159970298 (by decide) b_z114 (fun z116 e_z116 b_z116 => ?_)
  refine ⟨hS, ?_⟩
  refine addB 67108863 210 67109073 (by decide) (by decide) b_z102 b_z115 (fun z117 e_z117 b_z117 => ?_)
  refine divB 67109073 1 (by decide) b_z117 (fun z118 e_z118 b_z118 => ?_)
  refine mskB 67109073 (by decide) b_z117 (fun z119 e_z119 b_z119 => ?_)
  refine ⟨hS, ?_⟩
  refine addB 67108863 1 67108864 (by decide) (by decide) b_z105 b_z118 (fun z120 e_z120 b_z120 => ?_)
  refine divB 67108864 1 (by decide) b_z120 (fun z121 e_z121 b_z121 => ?_)
  refine mskB 67108864 (by decide) b_z120 (fun z122 e_z122 b_z122 => ?_)
  refine ⟨hS, ?_⟩
  refine addB 67108863 1 67108864 (by decide) (by decide) b_z108 b_z121 (fun z123 e_z123 b_z123 => ?_)
  refine divB 67108864 1 (by decide) b_z123 (fun z124 e_z124 b_z124 => ?_)
  refine mskB 67108864 (by decide) b_z123 (fun z125 e_z125 b_z125 => ?_)
  refine ⟨hS, ?_⟩
  refine addB 67108863 1 67108864 (by decide) (by decide) b_z111 b_z124 (fun z126 e_z126 b_z126 => ?_)
  refine divB 67108864 1 (by decide) b_z126 (fun z127 e_z127 b_z127 => ?_)
  refine mskB 67108864 (by decide) b_z126 (fun z128 e_z128 b_z128 => ?_)
  refine ⟨hS, ?_⟩
  refine mul5B 1 5 (by decide) (by decide) b_z127 (fun z129 e_z129 b_z129 => ?_)
  refine addB 67108863 5 67108868 (by decide) (by decide) b_z116 b_z129 (fun z130 e_z130 b_z130 => ?_)
  refine ⟨hS, ?_⟩
  refine divB 67108868 1 (by decide) b_z130 (fun z131 e_z131 b_z131 => ?_)
  refine addB 67108863 1 67108864 (by decide) (by decide) b_z119 b_z131 (fun z132 e_z132 b_z132 => ?_)
  refine mskB 67108868 (by decide) b_z130 (fun z133 e_z133 b_z133 => ?_)
  refine ⟨hS, ?_⟩
  have d_z97:z97=67108864*z98+z99:=by rw[e_z98,e_z99];exact (Nat.div_add_mod _ _).symm
  have d_z100:z100=67108864*z101+z102:=by rw[e_z101,e_z102];exact (Nat.div_add_mod _ _).symm
  have d_z103:z103=67108864*z104+z105:=by rw[e_z104,e_z105];exact (Nat.div_add_mod _ _).symm
  have d_z106:z106=67108864*z107+z108:=by rw[e_z107,e_z108];exact (Nat.div_add_mod _ _).symm
  have d_z109:z109=67108864*z110+z111:=by rw[e_z110,e_z111];exact (Nat.div_add_mod _ _).symm
  have d_z114:z114=67108864*z115+z116:=by rw[e_z115,e_z116];exact (Nat.div_add_mod _ _).symm
  have d_z117:z117=67108864*z118+z119:=by rw[e_z118,e_z119];exact (Nat.div_add_mod _ _).symm
  have d_z120:z120=67108864*z121+z122:=by rw[e_z121,e_z122];exact (Nat.div_add_mod _ _).symm
  have d_z123:z123=67108864*z124+z125:=by rw[e_z124,e_z125];exact (Nat.div_add_mod _ _).symm
  have d_z126:z126=67108864*z127+z128:=by rw[e_z127,e_z128];exact (Nat.div_add_mod _ _).symm
  have d_z130:z130=67108864*z131+z133:=by rw[e_z131,e_z133];exact (Nat.div_add_mod _ _).symm
  clear e_z98 e_z99 e_z101 e_z102 e_z104 e_z105 e_z107 e_z108 e_z110 e_z111 e_z115 e_z116 e_z118 e_z119 e_z121 e_z122 e_z124 e_z125 e_z127 e_z128 e_z131 e_z133
  refine h z133 z132 z122 z125 z128 (Nat.le_trans b_z133 (by decide)) (Nat.le_trans b_z132 (by decide)) (Nat.le_trans b_z122 (by decide)) (Nat.le_trans b_z125 (by decide)) (Nat.le_trans b_z128 (by decide)) ⟨z110+z127, ?_⟩
  clear b_z97 b_z98 b_z99 b_z100 b_z101 b_z102 b_z103 b_z104 b_z105 b_z106 b_z107 b_z108 b_z109 b_z110 b_z111 b_z112 b_z113 b_z114 b_z115 b_z116 b_z117 b_z118 b_z119 b_z120 b_z121 b_z122 b_z123 b_z124 b_z125 b_z126 b_z127 b_z128 b_z129 b_z130 b_z131 b_z132 b_z133 b_o0 b_o1 b_o2 b_o3 b_o4
  simp only[valM,pM]
  omega
end Go.Proofs.YtnhechnaemmdiaaGreatDoor
