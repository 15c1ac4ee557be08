/-
  Chapter 4: products and carries in limbs.
-/
import Derived.Test.YtnhechnaemmdiaaGreatDoorKnJ
set_option linter.unusedSimpArgs false
set_option linter.unusedVariables false
namespace Go.Proofs.YtnhechnaemmdiaaGreatDoor
open Go.RowKit
set_option maxRecDepth 1000000

theorem fA {x y:Nat} (A B C:Nat) (hC:A+B≤C) (h64:C<18446744073709551616) (hx:x≤A) (hy:y≤B) {K:Int→Prop} (k:∀z:Nat,z=x+y→z≤C→K z):∃n:Int,AV.int .u64 (IntKind.wrap .u64 ((x:Int)+(y:Int)))=AV.int .u64 n∧K n:=
 lI (x:=x+y) (by omega) (k _ rfl (by omega)) (by omega)
theorem aSs {x:Nat} (A:Nat) (h64:A<18446744073709551616) (hx:x≤A) {K:Int→Prop} (k:∀z:Nat,z=x→z≤A→K z):∃n:Int,AV.int .u64 (IntKind.wrap .u64 ((x:Int)+0))=AV.int .u64 n∧K n:=
 lI (x:=x) (by omega) (k _ rfl (by omega)) (by omega)
theorem aOx {x:Nat} (A:Nat) (h64:A<18446744073709551616) (hx:x≤A) {K:Int→Prop} (k:∀z:Nat,z=x→z≤A→K z):∃n:Int,AV.int .u64 (IntKind.wrap .u64 (0+(x:Int)))=AV.int .u64 n∧K n:=
 lI (x:=x) (by omega) (k _ rfl (by omega)) (by omega)
theorem pX {x y:Nat} (A B C:Nat) (hC:A*B≤C) (h64:C<18446744073709551616) (hx:x≤A) (hy:y≤B) {K:Int→Prop} (k:∀z:Nat,z=x*y→z≤C→K z):∃n:Int,AV.int .u64 (IntKind.wrap .u64 ((x:Int)*(y:Int)))=AV.int .u64 n∧K n:=by
 have h:=bSx hx hy
 exact lI (x:=x*y) (by omega) (k _ rfl (by omega)) (by simp)
theorem pW {x:Nat} (A C:Nat) (hC:5*A≤C) (h64:C<18446744073709551616) (hx:x≤A) {K:Int→Prop} (k:∀z:Nat,z=5*x→z≤C→K z):∃n:Int,AV.int .u64 (IntKind.wrap .u64 (5*(x:Int)))=AV.int .u64 n∧K n:=
 lI (x:=5*x) (by omega) (k _ rfl (by omega)) (by omega)
theorem uM {x:Nat} (A C:Nat) (hC:A/67108864≤C) (hx:x≤A) {K:Int→Prop} (k:∀z:Nat,z=x/67108864→z≤C→K z):∃n:Int,AV.int .u64 (Int.fdiv (x:Int) 67108864)=AV.int .u64 n∧K n:=
 ⟨_,by rw[aE6 x 67108864 67108864 rfl],k _ rfl (bO6 (Nat.div_le_div_right hx) hC)⟩
theorem uJ {x:Nat} (A:Nat) (h64:A<18446744073709551616) (hx:x≤A) {K:Int→Prop} (k:∀z:Nat,z=x%67108864→z≤67108863→K z):∃n:Int,AV.int .u64 (IntKind.wrap .u64 ((((x:Int)%18446744073709551616).toNat &&& 67108863:Nat):Int))=AV.int .u64 n∧K n:=by
 have hm:∀y:Nat,y &&& 67108863=y%67108864:=fun y=>bQp y 26
 exact lI (x:=x%67108864) (by omega) (k _ rfl (by omega)) (by rw[zP (by omega),hm])

theorem aW4 (x0 x1 x2 x3 x4 r0 r1 r2 r3 r4:Nat):iP x0 x1 x2 x3 x4*iP r0 r1 r2 r3 r4=iP (x0*r0+5*(x1*r4)+5*(x2*r3)+5*(x3*r2)+5*(x4*r1)) (x0*r1+x1*r0+5*(x2*r4)+5*(x3*r3)+5*(x4*r2)) (x0*r2+x1*r1+x2*r0+5*(x3*r4)+5*(x4*r3)) (x0*r3+x1*r2+x2*r1+x3*r0+5*(x4*r4)) (x0*r4+x1*r3+x2*r2+x3*r1+x4*r0)+pM*((x1*r4+x2*r3+x3*r2+x4*r1)*1+(x2*r4+x3*r3+x4*r2)*67108864+(x3*r4+x4*r3)*4503599627370496+(x4*r4)*302231454903657293676544):=by
 simp only[iP,pM,bTb,bQn]
 have e01:x0*(r1*67108864)=(x0*r1)*67108864:=(bQm _ _ _).symm
 have e02:x0*(r2*4503599627370496)=(x0*r2)*4503599627370496:=(bQm _ _ _).symm
 have e03:x0*(r3*302231454903657293676544)=(x0*r3)*302231454903657293676544:=(bQm _ _ _).symm
 have e04:x0*(r4*20282409603651670423947251286016)=(x0*r4)*20282409603651670423947251286016:=(bQm _ _ _).symm
 have e10:x1*67108864*r0=(x1*r0)*67108864:=bSs _ _ _
 have e11:x1*67108864*(r1*67108864)=(x1*r1)*4503599627370496:=bPk _ _ _ _
 have e12:x1*67108864*(r2*4503599627370496)=(x1*r2)*302231454903657293676544:=bPk _ _ _ _
 have e13:x1*67108864*(r3*302231454903657293676544)=(x1*r3)*20282409603651670423947251286016:=bPk _ _ _ _
 have e14:x1*67108864*(r4*20282409603651670423947251286016)=(x1*r4)*1361129467683753853853498429727072845824:=bPk _ _ _ _
 have e20:x2*4503599627370496*r0=(x2*r0)*4503599627370496:=bSs _ _ _
 have e21:x2*4503599627370496*(r1*67108864)=(x2*r1)*302231454903657293676544:=bPk _ _ _ _
 have e22:x2*4503599627370496*(r2*4503599627370496)=(x2*r2)*20282409603651670423947251286016:=bPk _ _ _ _
 have e23:x2*4503599627370496*(r3*302231454903657293676544)=(x2*r3)*1361129467683753853853498429727072845824:=bPk _ _ _ _
 have e24:x2*4503599627370496*(r4*20282409603651670423947251286016)=(x2*r4)*91343852333181432387730302044767688728495783936:=bPk _ _ _ _
 have e30:x3*302231454903657293676544*r0=(x3*r0)*302231454903657293676544:=bSs _ _ _
 have e31:x3*302231454903657293676544*(r1*67108864)=(x3*r1)*20282409603651670423947251286016:=bPk _ _ _ _
 have e32:x3*302231454903657293676544*(r2*4503599627370496)=(x3*r2)*1361129467683753853853498429727072845824:=bPk _ _ _ _
 have e33:x3*302231454903657293676544*(r3*302231454903657293676544)=(x3*r3)*91343852333181432387730302044767688728495783936:=bPk _ _ _ _
 have e34:x3*302231454903657293676544*(r4*20282409603651670423947251286016)=(x3*r4)*6129982163463555433433388108601236734474956488734408704:=bPk _ _ _ _
 have e40:x4*20282409603651670423947251286016*r0=(x4*r0)*20282409603651670423947251286016:=bSs _ _ _
 have e41:x4*20282409603651670423947251286016*(r1*67108864)=(x4*r1)*1361129467683753853853498429727072845824:=bPk _ _ _ _
 have e42:x4*20282409603651670423947251286016*(r2*4503599627370496)=(x4*r2)*91343852333181432387730302044767688728495783936:=bPk _ _ _ _
 have e43:x4*20282409603651670423947251286016*(r3*302231454903657293676544)=(x4*r3)*6129982163463555433433388108601236734474956488734408704:=bPk _ _ _ _
 have e44:x4*20282409603651670423947251286016*(r4*20282409603651670423947251286016)=(x4*r4)*411376139330301510538742295639337626245683966408394965837152256:=bPk _ _ _ _
 simp only[e01,e02,e03,e04,e10,e11,e12,e13,e14,e20,e21,e22,e23,e24,e30,e31,e32,e33,e34,e40,e41,e42,e43,e44]
 clear e01 e02 e03 e04 e10 e11 e12 e13 e14 e20 e21 e22 e23 e24 e30 e31 e32 e33 e34 e40 e41 e42 e43 e44
 generalize x0*r0=p00
 generalize x0*r1=p01
 generalize x0*r2=p02
 generalize x0*r3=p03
 generalize x0*r4=p04
 generalize x1*r0=p10
 generalize x1*r1=p11
 generalize x1*r2=p12
 generalize x1*r3=p13
 generalize x1*r4=p14
 generalize x2*r0=p20
 generalize x2*r1=p21
 generalize x2*r2=p22
 generalize x2*r3=p23
 generalize x2*r4=p24
 generalize x3*r0=p30
 generalize x3*r1=p31
 generalize x3*r2=p32
 generalize x3*r3=p33
 generalize x3*r4=p34
 generalize x4*r0=p40
 generalize x4*r1=p41
 generalize x4*r2=p42
 generalize x4*r3=p43
 generalize x4*r4=p44
 omega
theorem bNy {x0 x1 x2 x3 x4 r0 r1 r2 r3 r4:Nat} {S:Prop} (hS:S) (b_x0:x0≤134217728) (b_x1:x1≤134217728) (b_x2:x2≤134217728) (b_x3:x3≤134217728) (b_x4:x4≤134217728) (b_r0:r0≤67108863) (b_r1:r1≤67108863) (b_r2:r2≤67108863) (b_r3:r3≤67108863) (b_r4:r4≤67108863) {K:Int→Int→Int→Int→Int→Prop}
  (h:∀o0 o1 o2 o3 o4:Nat,o0≤189151181530988544→o1≤189151181530988544→o2≤189151181530988544→o3≤189151181530988544→o4≤189151181530988544→(∃c,iP x0 x1 x2 x3 x4*iP r0 r1 r2 r3 r4=iP o0 o1 o2 o3 o4+pM*c)→K o0 o1 o2 o3 o4) :
 (∃n_37:Int,(((AV.int .u64 (IntKind.wrap .u64 ((Nat.cast x0:Int)*(Nat.cast r0:Int))))=(AV.int .u64 n_37)) ∧
 (∃n_38:Int,(((AV.int .u64 (IntKind.wrap .u64 ((0:Int)+n_37)))=(AV.int .u64 n_38)) ∧
 (S ∧
 (∃n_39:Int,(((AV.int .u64 (IntKind.wrap .u64 ((Nat.cast x0:Int)*(Nat.cast r1:Int))))=(AV.int .u64 n_39)) ∧
 (∃n_40:Int,(((AV.int .u64 (IntKind.wrap .u64 ((0:Int)+n_39)))=(AV.int .u64 n_40)) ∧
 (S ∧
 (∃n_41:Int,(((AV.int .u64 (IntKind.wrap .u64 ((Nat.cast x0:Int)*(Nat.cast r2:Int))))=(AV.int .u64 n_41)) ∧
 (∃n_42:Int,(((AV.int .u64 (IntKind.wrap .u64 ((0:Int)+n_41)))=(AV.int .u64 n_42)) ∧
 (S ∧
 (∃n_43:Int,(((AV.int .u64 (IntKind.wrap .u64 ((Nat.cast x0:Int)*(Nat.cast r3:Int))))=(AV.int .u64 n_43)) ∧
 (∃n_44:Int,(((AV.int .u64 (IntKind.wrap .u64 ((0:Int)+n_43)))=(AV.int .u64 n_44)) ∧
 (S ∧
 (∃n_45:Int,(((AV.int .u64 (IntKind.wrap .u64 ((Nat.cast x0:Int)*(Nat.cast r4:Int))))=(AV.int .u64 n_45)) ∧
 (∃n_46:Int,(((AV.int .u64 (IntKind.wrap .u64 ((0:Int)+n_45)))=(AV.int .u64 n_46)) ∧
 (S ∧
 (S ∧
 (∃n_47:Int,(((AV.int .u64 (IntKind.wrap .u64 ((Nat.cast x1:Int)*(Nat.cast r0:Int))))=(AV.int .u64 n_47)) ∧
 (∃n_48:Int,(((AV.int .u64 (IntKind.wrap .u64 (n_40+n_47)))=(AV.int .u64 n_48)) ∧
 (S ∧
 (∃n_49:Int,(((AV.int .u64 (IntKind.wrap .u64 ((Nat.cast x1:Int)*(Nat.cast r1:Int))))=(AV.int .u64 n_49)) ∧
 (∃n_50:Int,(((AV.int .u64 (IntKind.wrap .u64 (n_42+n_49)))=(AV.int .u64 n_50)) ∧
 (S ∧
 (∃n_51:Int,(((AV.int .u64 (IntKind.wrap .u64 ((Nat.cast x1:Int)*(Nat.cast r2:Int))))=(AV.int .u64 n_51)) ∧
 (∃n_52:Int,(((AV.int .u64 (IntKind.wrap .u64 (n_44+n_51)))=(AV.int .u64 n_52)) ∧
 (S ∧
 (∃n_53:Int,(((AV.int .u64 (IntKind.wrap .u64 ((Nat.cast x1:Int)*(Nat.cast r3:Int))))=(AV.int .u64 n_53)) ∧
 (∃n_54:Int,(((AV.int .u64 (IntKind.wrap .u64 (n_46+n_53)))=(AV.int .u64 n_54)) ∧
 (S ∧
 (∃n_55:Int,(((AV.int .u64 (IntKind.wrap .u64 ((5:Int)*(Nat.cast x1:Int))))=(AV.int .u64 n_55)) ∧
 (∃n_56:Int,(((AV.int .u64 (IntKind.wrap .u64 (n_55*(Nat.cast r4:Int))))=(AV.int .u64 n_56)) ∧
 (∃n_57:Int,(((AV.int .u64 (IntKind.wrap .u64 (n_38+n_56)))=(AV.int .u64 n_57)) ∧
 (S ∧
 (S ∧
 (∃n_58:Int,(((AV.int .u64 (IntKind.wrap .u64 ((Nat.cast x2:Int)*(Nat.cast r0:Int))))=(AV.int .u64 n_58)) ∧
 (∃n_59:Int,(((AV.int .u64 (IntKind.wrap .u64 (n_50+n_58)))=(AV.int .u64 n_59)) ∧
 (S ∧
 (∃n_60:Int,(((AV.int .u64 (IntKind.wrap .u64 ((Nat.cast x2:Int)*(Nat.cast r1:Int))))=(AV.int .u64 n_60)) ∧
 (∃n_61:Int,(((AV.int .u64 (IntKind.wrap .u64 (n_52+n_60)))=(AV.int .u64 n_61)) ∧
 (S ∧
 (∃n_62:Int,(((AV.int .u64 (IntKind.wrap .u64 ((Nat.cast x2:Int)*(Nat.cast r2:Int))))=(AV.int .u64 n_62)) ∧
 (∃n_63:Int,(((AV.int .u64 (IntKind.wrap .u64 (n_54+n_62)))=(AV.int .u64 n_63)) ∧
 (S ∧
 (∃n_64:Int,(((AV.int .u64 (IntKind.wrap .u64 ((5:Int)*(Nat.cast x2:Int))))=(AV.int .u64 n_64)) ∧
 (∃n_65:Int,(((AV.int .u64 (IntKind.wrap .u64 (n_64*(Nat.cast r3:Int))))=(AV.int .u64 n_65)) ∧
 (∃n_66:Int,(((AV.int .u64 (IntKind.wrap .u64 (n_57+n_65)))=(AV.int .u64 n_66)) ∧
 (S ∧
 (∃n_67:Int,(((AV.int .u64 (IntKind.wrap .u64 ((5:Int)*(Nat.cast x2:Int))))=(AV.int .u64 n_67)) ∧
 (∃n_68:Int,(((AV.int .u64 (IntKind.wrap .u64 (n_67*(Nat.cast r4:Int))))=(AV.int .u64 n_68)) ∧
 (∃n_69:Int,(((AV.int .u64 (IntKind.wrap .u64 (n_48+n_68)))=(AV.int .u64 n_69)) ∧
 (S ∧
 (S ∧
 (∃n_70:Int,(((AV.int .u64 (IntKind.wrap .u64 ((Nat.cast x3:Int)*(Nat.cast r0:Int))))=(AV.int .u64 n_70)) ∧
 (∃n_71:Int,(((AV.int .u64 (IntKind.wrap .u64 (n_61+n_70)))=(AV.int .u64 n_71)) ∧
 (S ∧
 (∃n_72:Int,(((AV.int .u64 (IntKind.wrap .u64 ((Nat.cast x3:Int)*(Nat.cast r1:Int))))=(AV.int .u64 n_72)) ∧
 (∃n_73:Int,(((AV.int .u64 (IntKind.wrap .u64 (n_63+n_72)))=(AV.int .u64 n_73)) ∧
 (S ∧
 (∃n_74:Int,(((AV.int .u64 (IntKind.wrap .u64 ((5:Int)*(Nat.cast x3:Int))))=(AV.int .u64 n_74)) ∧
 (∃n_75:Int,(((AV.int .u64 (IntKind.wrap .u64 (n_74*(Nat.cast r2:Int))))=(AV.int .u64 n_75)) ∧
 (∃n_76:Int,(((AV.int .u64 (IntKind.wrap .u64 (n_66+n_75)))=(AV.int .u64 n_76)) ∧
 (S ∧
 (∃n_77:Int,(((AV.int .u64 (IntKind.wrap .u64 ((5:Int)*(Nat.cast x3:Int))))=(AV.int .u64 n_77)) ∧
 (∃n_78:Int,(((AV.int .u64 (IntKind.wrap .u64 (n_77*(Nat.cast r3:Int))))=(AV.int .u64 n_78)) ∧
 (∃n_79:Int,(((AV.int .u64 (IntKind.wrap .u64 (n_69+n_78)))=(AV.int .u64 n_79)) ∧
 (S ∧
 (∃n_80:Int,(((AV.int .u64 (IntKind.wrap .u64 ((5:Int)*(Nat.cast x3:Int))))=(AV.int .u64 n_80)) ∧
 (∃n_81:Int,(((AV.int .u64 (IntKind.wrap .u64 (n_80*(Nat.cast r4:Int))))=(AV.int .u64 n_81)) ∧
 (∃n_82:Int,(((AV.int .u64 (IntKind.wrap .u64 (n_59+n_81)))=(AV.int .u64 n_82)) ∧
 (S ∧
 (S ∧
 (∃n_83:Int,(((AV.int .u64 (IntKind.wrap .u64 ((Nat.cast x4:Int)*(Nat.cast r0:Int))))=(AV.int .u64 n_83)) ∧
 (∃n_84:Int,(((AV.int .u64 (IntKind.wrap .u64 (n_73+n_83)))=(AV.int .u64 n_84)) ∧
 (S ∧
 (∃n_85:Int,(((AV.int .u64 (IntKind.wrap .u64 ((5:Int)*(Nat.cast x4:Int))))=(AV.int .u64 n_85)) ∧
 (∃n_86:Int,(((AV.int .u64 (IntKind.wrap .u64 (n_85*(Nat.cast r1:Int))))=(AV.int .u64 n_86)) ∧
 (∃n_87:Int,(((AV.int .u64 (IntKind.wrap .u64 (n_76+n_86)))=(AV.int .u64 n_87)) ∧
 (S ∧
 (∃n_88:Int,(((AV.int .u64 (IntKind.wrap .u64 ((5:Int)*(Nat.cast x4:Int))))=(AV.int .u64 n_88)) ∧
 (∃n_89:Int,(((AV.int .u64 (IntKind.wrap .u64 (n_88*(Nat.cast r2:Int))))=(AV.int .u64 n_89)) ∧
 (∃n_90:Int,(((AV.int .u64 (IntKind.wrap .u64 (n_79+n_89)))=(AV.int .u64 n_90)) ∧
 (S ∧
 (∃n_91:Int,(((AV.int .u64 (IntKind.wrap .u64 ((5:Int)*(Nat.cast x4:Int))))=(AV.int .u64 n_91)) ∧
 (∃n_92:Int,(((AV.int .u64 (IntKind.wrap .u64 (n_91*(Nat.cast r3:Int))))=(AV.int .u64 n_92)) ∧
 (∃n_93:Int,(((AV.int .u64 (IntKind.wrap .u64 (n_82+n_92)))=(AV.int .u64 n_93)) ∧
 (S ∧
 (∃n_94:Int,(((AV.int .u64 (IntKind.wrap .u64 ((5:Int)*(Nat.cast x4:Int))))=(AV.int .u64 n_94)) ∧
 (∃n_95:Int,(((AV.int .u64 (IntKind.wrap .u64 (n_94*(Nat.cast r4:Int))))=(AV.int .u64 n_95)) ∧
 (∃n_96:Int,(((AV.int .u64 (IntKind.wrap .u64 (n_71+n_95)))=(AV.int .u64 n_96)) ∧
 (S ∧
 (S∧K n_87 n_90 n_93 n_96 n_84)))))))))))))))))))))))))))))))))))))))))))))))))))))))))))))))))))))))))))))))))))))))))))))))))))))))))))))))))))))))))))))))))))))))))))))))))))))):=by
  refine pX 134217728 67108863 9007199120523264 (by decide) (by decide) b_x0 b_r0 (fun z37 e_z37 b_z37 => ?_)
  refine aOx 9007199120523264 (by decide) b_z37 (fun z38 e_z38 b_z38 => ?_)
  refine ⟨hS, ?_⟩
  refine pX 134217728 67108863 9007199120523264 (by decide) (by decide) b_x0 b_r1 (fun z39 e_z39 b_z39 => ?_)
  refine aOx 9007199120523264 (by decide) b_z39 (fun z40 e_z40 b_z40 => ?_)
  refine ⟨hS, ?_⟩
  refine pX 134217728 67108863 9007199120523264 (by decide) (by decide) b_x0 b_r2 (fun z41 e_z41 b_z41 => ?_)
  refine aOx 9007199120523264 (by decide) b_z41 (fun z42 e_z42 b_z42 => ?_)
  refine ⟨hS, ?_⟩
  refine pX 134217728 67108863 9007199120523264 (by decide) (by decide) b_x0 b_r3 (fun z43 e_z43 b_z43 => ?_)
  refine aOx 9007199120523264 (by decide) b_z43 (fun z44 e_z44 b_z44 => ?_)
  refine ⟨hS, ?_⟩
  refine pX 134217728 67108863 9007199120523264 (by decide) (by decide) b_x0 b_r4 (fun z45 e_z45 b_z45 => ?_)
  refine aOx 9007199120523264 (by decide) b_z45 (fun z46 e_z46 b_z46 => ?_)
  refine ⟨hS, ?_⟩
  refine ⟨hS, ?_⟩
  refine pX 134217728 67108863 9007199120523264 (by decide) (by decide) b_x1 b_r0 (fun z47 e_z47 b_z47 => ?_)
  refine fA 9007199120523264 9007199120523264 18014398241046528 (by decide) (by decide) b_z40 b_z47 (fun z48 e_z48 b_z48 => ?_)
  refine ⟨hS, ?_⟩
  refine pX 134217728 67108863 9007199120523264 (by decide) (by decide) b_x1 b_r1 (fun z49 e_z49 b_z49 => ?_)
  refine fA 9007199120523264 9007199120523264 18014398241046528 (by decide) (by decide) b_z42 b_z49 (fun z50 e_z50 b_z50 => ?_)
  refine ⟨hS, ?_⟩
  refine pX 134217728 67108863 9007199120523264 (by decide) (by decide) b_x1 b_r2 (fun z51 e_z51 b_z51 => ?_)
  refine fA 9007199120523264 9007199120523264 18014398241046528 (by decide) (by decide) b_z44 b_z51 (fun z52 e_z52 b_z52 => ?_)
  refine ⟨hS, ?_⟩
  refine pX 134217728 67108863 9007199120523264 (by decide) (by decide) b_x1 b_r3 (fun z53 e_z53 b_z53 => ?_)
  refine fA 9007199120523264 9007199120523264 18014398241046528 (by decide) (by decide) b_z46 b_z53 (fun z54 e_z54 b_z54 => ?_)
  refine ⟨hS, ?_⟩
  refine pW 134217728 671088640 (by decide) (by decide) b_x1 (fun z55 e_z55 b_z55 => ?_)
  refine pX 671088640 67108863 45035995602616320 (by decide) (by decide) b_z55 b_r4 (fun z56 e_z56 b_z56 => ?_)
  refine fA 9007199120523264 45035995602616320 54043194723139584 (by decide) (by decide) b_z38 b_z56 (fun z57 e_z57 b_z57 => ?_)
  refine ⟨hS, ?_⟩
  refine ⟨hS, ?_⟩
  refine pX 134217728 67108863 9007199120523264 (by decide) (by decide) b_x2 b_r0 (fun z58 e_z58 b_z58 => ?_)
  refine fA 18014398241046528 9007199120523264 27021597361569792 (by decide) (by decide) b_z50 b_z58 (fun z59 e_z59 b_z59 => ?_)
  refine ⟨hS, ?_⟩
  refine pX 134217728 67108863 9007199120523264 (by decide) (by decide) b_x2 b_r1 (fun z60 e_z60 b_z60 => ?_)
  refine fA 18014398241046528 9007199120523264 27021597361569792 (by decide) (by decide) b_z52 b_z60 (fun z61 e_z61 b_z61 => ?_)
  refine ⟨hS, ?_⟩
  refine pX 134217728 67108863 9007199120523264 (by decide) (by decide) b_x2 b_r2 (fun z62 e_z62 b_z62 => ?_)
  refine fA 18014398241046528 9007199120523264 27021597361569792 (by decide) (by decide) b_z54 b_z62 (fun z63 e_z63 b_z63 => ?_)
  refine ⟨hS, ?_⟩
  refine pW 134217728 671088640 (by decide) (by decide) b_x2 (fun z64 e_z64 b_z64 => ?_)
  refine pX 671088640 67108863 45035995602616320 (by decide) (by decide) b_z64 b_r3 (fun z65 e_z65 b_z65 => ?_)
  refine fA 54043194723139584 45035995602616320 99079190325755904 (by decide) (by decide) b_z57 b_z65 (fun z66 e_z66 b_z66 => ?_)
  refine ⟨hS, ?_⟩
  refine pW 134217728 671088640 (by decide) (by decide) b_x2 (fun z67 e_z67 b_z67 => ?_)
  refine pX 671088640 67108863 45035995602616320 (by decide) (by decide) b_z67 b_r4 (fun z68 e_z68 b_z68 => ?_)
  refine fA 18014398241046528 45035995602616320 63050393843662848 (by decide) (by decide) b_z48 b_z68 (fun z69 e_z69 b_z69 => ?_)
  refine ⟨hS, ?_⟩
  refine ⟨hS, ?_⟩
  refine pX 134217728 67108863 9007199120523264 (by decide) (by decide) b_x3 b_r0 (fun z70 e_z70 b_z70 => ?_)
  refine fA 27021597361569792 9007199120523264 36028796482093056 (by decide) (by decide) b_z61 b_z70 (fun z71 e_z71 b_z71 => ?_)
  refine ⟨hS, ?_⟩
  refine pX 134217728 67108863 9007199120523264 (by decide) (by decide) b_x3 b_r1 (fun z72 e_z72 b_z72 => ?_)
  refine fA 27021597361569792 9007199120523264 36028796482093056 (by decide) (by decide) b_z63 b_z72 (fun z73 e_z73 b_z73 => ?_)
  refine ⟨hS, ?_⟩
  refine pW 134217728 671088640 (by decide) (by decide) b_x3 (fun z74 e_z74 b_z74 => ?_)
  refine pX 671088640 67108863 45035995602616320 (by decide) (by decide) b_z74 b_r2 (fun z75 e_z75 b_z75 => ?_)
  refine fA 99079190325755904 45035995602616320 144115185928372224 (by decide) (by decide) b_z66 b_z75 (fun z76 e_z76 b_z76 => ?_)
  refine ⟨hS, ?_⟩
  refine pW 134217728 671088640 (by decide) (by decide) b_x3 (fun z77 e_z77 b_z77 => ?_)
  refine pX 671088640 67108863 45035995602616320 (by decide) (by decide) b_z77 b_r3 (fun z78 e_z78 b_z78 => ?_)
  refine fA 63050393843662848 45035995602616320 108086389446279168 (by decide) (by decide) b_z69 b_z78 (fun z79 e_z79 b_z79 => ?_)
  refine ⟨hS, ?_⟩
  refine pW 134217728 671088640 (by decide) (by decide) b_x3 (fun z80 e_z80 b_z80 => ?_)
  refine pX 671088640 67108863 45035995602616320 (by decide) (by decide) b_z80 b_r4 (fun z81 e_z81 b_z81 => ?_)
  refine fA 27021597361569792 45035995602616320 72057592964186112 (by decide) (by decide) b_z59 b_z81 (fun z82 e_z82 b_z82 => ?_)
  refine ⟨hS, ?_⟩
  refine ⟨hS, ?_⟩
  refine pX 134217728 67108863 9007199120523264 (by decide) (by decide) b_x4 b_r0 (fun z83 e_z83 b_z83 => ?_)
  refine fA 36028796482093056 9007199120523264 45035995602616320 (by decide) (by decide) b_z73 b_z83 (fun z84 e_z84 b_z84 => ?_)
  refine ⟨hS, ?_⟩
  refine pW 134217728 671088640 (by decide) (by decide) b_x4 (fun z85 e_z85 b_z85 => ?_)
  refine pX 671088640 67108863 45035995602616320 (by decide) (by decide) b_z85 b_r1 (fun z86 e_z86 b_z86 => ?_)
  refine fA 144115185928372224 45035995602616320 189151181530988544 (by decide) (by decide) b_z76 b_z86 (fun z87 e_z87 b_z87 => ?_)
  refine ⟨hS, ?_⟩
  refine pW 134217728 671088640 (by decide) (by decide) b_x4 (fun z88 e_z88 b_z88 => ?_)
  refine pX 671088640 67108863 45035995602616320 (by decide) (by decide) b_z88 b_r2 (fun z89 e_z89 b_z89 => ?_)
  refine fA 108086389446279168 45035995602616320 153122385048895488 (by decide) (by decide) b_z79 b_z89 (fun z90 e_z90 b_z90 => ?_)
  refine ⟨hS, ?_⟩
  refine pW 134217728 671088640 (by decide) (by decide) b_x4 (fun z91 e_z91 b_z91 => ?_)
  refine pX 671088640 67108863 45035995602616320 (by decide) (by decide) b_z91 b_r3 (fun z92 e_z92 b_z92 => ?_)
  refine fA 72057592964186112 45035995602616320 117093588566802432 (by decide) (by decide) b_z82 b_z92 (fun z93 e_z93 b_z93 => ?_)
  refine ⟨hS, ?_⟩
  refine pW 134217728 671088640 (by decide) (by decide) b_x4 (fun z94 e_z94 b_z94 => ?_)
  refine pX 671088640 67108863 45035995602616320 (by decide) (by decide) b_z94 b_r4 (fun z95 e_z95 b_z95 => ?_)
  refine fA 36028796482093056 45035995602616320 81064792084709376 (by decide) (by decide) b_z71 b_z95 (fun z96 e_z96 b_z96 => ?_)
  refine ⟨hS, ?_⟩
  refine ⟨hS, ?_⟩
  have m_z56:z56=5*(x1*r4):=by rw[e_z56,e_z55,bQm]
  clear e_z56
  have m_z65:z65=5*(x2*r3):=by rw[e_z65,e_z64,bQm]
  clear e_z65
  have m_z68:z68=5*(x2*r4):=by rw[e_z68,e_z67,bQm]
  clear e_z68
  have m_z75:z75=5*(x3*r2):=by rw[e_z75,e_z74,bQm]
  clear e_z75
  have m_z78:z78=5*(x3*r3):=by rw[e_z78,e_z77,bQm]
  clear e_z78
  have m_z81:z81=5*(x3*r4):=by rw[e_z81,e_z80,bQm]
  clear e_z81
  have m_z86:z86=5*(x4*r1):=by rw[e_z86,e_z85,bQm]
  clear e_z86
  have m_z89:z89=5*(x4*r2):=by rw[e_z89,e_z88,bQm]
  clear e_z89
  have m_z92:z92=5*(x4*r3):=by rw[e_z92,e_z91,bQm]
  clear e_z92
  have m_z95:z95=5*(x4*r4):=by rw[e_z95,e_z94,bQm]
  clear e_z95
  clear b_z37 b_z38 b_z39 b_z40 b_z41 b_z42 b_z43 b_z44 b_z45 b_z46 b_z47 b_z48 b_z49 b_z50 b_z51 b_z52 b_z53 b_z54 b_z55 b_z56 b_z57 b_z58 b_z59 b_z60 b_z61 b_z62 b_z63 b_z64 b_z65 b_z66 b_z67 b_z68 b_z69 b_z70 b_z71 b_z72 b_z73 b_z74 b_z75 b_z76 b_z77 b_z78 b_z79 b_z80 b_z81 b_z82 b_z83 b_z85 b_z86 b_z88 b_z89 b_z91 b_z92 b_z94 b_z95
  generalize hp00:x0*r0=p00 at *
  generalize hp01:x0*r1=p01 at *
  generalize hp02:x0*r2=p02 at *
  generalize hp03:x0*r3=p03 at *
  generalize hp04:x0*r4=p04 at *
  generalize hp10:x1*r0=p10 at *
  generalize hp11:x1*r1=p11 at *
  generalize hp12:x1*r2=p12 at *
  generalize hp13:x1*r3=p13 at *
  generalize hp14:x1*r4=p14 at *
  generalize hp20:x2*r0=p20 at *
  generalize hp21:x2*r1=p21 at *
  generalize hp22:x2*r2=p22 at *
  generalize hp23:x2*r3=p23 at *
  generalize hp24:x2*r4=p24 at *
  generalize hp30:x3*r0=p30 at *
  generalize hp31:x3*r1=p31 at *
  generalize hp32:x3*r2=p32 at *
  generalize hp33:x3*r3=p33 at *
  generalize hp34:x3*r4=p34 at *
  generalize hp40:x4*r0=p40 at *
  generalize hp41:x4*r1=p41 at *
  generalize hp42:x4*r2=p42 at *
  generalize hp43:x4*r3=p43 at *
  generalize hp44:x4*r4=p44 at *
  have s0:p00+5*p14+5*p23+5*p32+5*p41=z87:=by omega
  have s1:p01+p10+5*p24+5*p33+5*p42=z90:=by omega
  have s2:p02+p11+p20+5*p34+5*p43=z93:=by omega
  have s3:p03+p12+p21+p30+5*p44=z96:=by omega
  have s4:p04+p13+p22+p31+p40=z84:=by omega
  refine h z87 z90 z93 z96 z84 (bO6 b_z87 (by decide)) (bO6 b_z90 (by decide)) (bO6 b_z93 (by decide)) (bO6 b_z96 (by decide)) (bO6 b_z84 (by decide)) ⟨(x1*r4+x2*r3+x3*r2+x4*r1)*1+(x2*r4+x3*r3+x4*r2)*67108864+(x3*r4+x4*r3)*4503599627370496+(x4*r4)*302231454903657293676544, ?_⟩
  rw[aW4 x0 x1 x2 x3 x4 r0 r1 r2 r3 r4]
  rw[hp00,hp01,hp02,hp03,hp04,hp10,hp11,hp12,hp13,hp14,hp20,hp21,hp22,hp23,hp24,hp30,hp31,hp32,hp33,hp34,hp40,hp41,hp42,hp43,hp44]
  rw[s0,s1,s2,s3,s4]
theorem aWu {o0 o1 o2 o3 o4:Nat} {S:Prop} (hS:S) (b_o0:o0≤189151181530988544) (b_o1:o1≤189151181530988544) (b_o2:o2≤189151181530988544) (b_o3:o3≤189151181530988544) (b_o4:o4≤189151181530988544) {K:Int→Int→Int→Int→Int→Prop}
  (h:∀l0 l1 l2 l3 l4:Nat,l0≤67108864→l1≤67108864→l2≤67108864→l3≤67108864→l4≤67108864→(∃c,iP o0 o1 o2 o3 o4=iP l0 l1 l2 l3 l4+pM*c)→K l0 l1 l2 l3 l4) :
 (∃n_97:Int,(((AV.int .u64 (IntKind.wrap .u64 ((Nat.cast o0:Int)+(0:Int))))=(AV.int .u64 n_97)) ∧
 (∃n_98:Int,(((AV.int .u64 (Int.fdiv n_97 (67108864:Int)))=(AV.int .u64 n_98)) ∧
 (∃n_99:Int,(((AV.int .u64 (IntKind.wrap .u64 (Nat.cast ((Int.toNat (n_97%(18446744073709551616:Int))) &&& (67108863:Nat)):Int)))=(AV.int .u64 n_99)) ∧
 (S ∧
 (∃n_100:Int,(((AV.int .u64 (IntKind.wrap .u64 ((Nat.cast o1:Int)+n_98)))=(AV.int .u64 n_100)) ∧
 (∃n_101:Int,(((AV.int .u64 (Int.fdiv n_100 (67108864:Int)))=(AV.int .u64 n_101)) ∧
 (∃n_102:Int,(((AV.int .u64 (IntKind.wrap .u64 (Nat.cast ((Int.toNat (n_100%(18446744073709551616:Int))) &&& (67108863:Nat)):Int)))=(AV.int .u64 n_102)) ∧
 (S ∧
 (∃n_103:Int,(((AV.int .u64 (IntKind.wrap .u64 ((Nat.cast o2:Int)+n_101)))=(AV.int .u64 n_103)) ∧
 (∃n_104:Int,(((AV.int .u64 (Int.fdiv n_103 (67108864:Int)))=(AV.int .u64 n_104)) ∧
 (∃n_105:Int,(((AV.int .u64 (IntKind.wrap .u64 (Nat.cast ((Int.toNat (n_103%(18446744073709551616:Int))) &&& (67108863:Nat)):Int)))=(AV.int .u64 n_105)) ∧
 (S ∧
 (∃n_106:Int,(((AV.int .u64 (IntKind.wrap .u64 ((Nat.cast o3:Int)+n_104)))=(AV.int .u64 n_106)) ∧
 (∃n_107:Int,(((AV.int .u64 (Int.fdiv n_106 (67108864:Int)))=(AV.int .u64 n_107)) ∧
 (∃n_108:Int,(((AV.int .u64 (IntKind.wrap .u64 (Nat.cast ((Int.toNat (n_106%(18446744073709551616:Int))) &&& (67108863:Nat)):Int)))=(AV.int .u64 n_108)) ∧
 (S ∧
 (∃n_109:Int,(((AV.int .u64 (IntKind.wrap .u64 ((Nat.cast o4:Int)+n_107)))=(AV.int .u64 n_109)) ∧
 (∃n_110:Int,(((AV.int .u64 (Int.fdiv n_109 (67108864:Int)))=(AV.int .u64 n_110)) ∧
 (∃n_111:Int,(((AV.int .u64 (IntKind.wrap .u64 (Nat.cast ((Int.toNat (n_109%(18446744073709551616:Int))) &&& (67108863:Nat)):Int)))=(AV.int .u64 n_111)) ∧
 (S ∧
 (∃n_112:Int,(((AV.int .u64 (IntKind.wrap .u64 ((5:Int)*n_110)))=(AV.int .u64 n_112)) ∧
 (∃n_113:Int,(((AV.int .u64 (IntKind.wrap .u64 (n_99+n_112)))=(AV.int .u64 n_113)) ∧
 (S ∧
 (∃n_114:Int,(((AV.int .u64 (IntKind.wrap .u64 (n_113+(0:Int))))=(AV.int .u64 n_114)) ∧
 (∃n_115:Int,(((AV.int .u64 (Int.fdiv n_114 (67108864:Int)))=(AV.int .u64 n_115)) ∧
 (∃n_116:Int,(((AV.int .u64 (IntKind.wrap .u64 (Nat.cast ((Int.toNat (n_114%(18446744073709551616:Int))) &&& (67108863:Nat)):Int)))=(AV.int .u64 n_116)) ∧
 (S ∧
 (∃n_117:Int,(((AV.int .u64 (IntKind.wrap .u64 (n_102+n_115)))=(AV.int .u64 n_117)) ∧
 (∃n_118:Int,(((AV.int .u64 (Int.fdiv n_117 (67108864:Int)))=(AV.int .u64 n_118)) ∧
 (∃n_119:Int,(((AV.int .u64 (IntKind.wrap .u64 (Nat.cast ((Int.toNat (n_117%(18446744073709551616:Int))) &&& (67108863:Nat)):Int)))=(AV.int .u64 n_119)) ∧
 (S ∧
 (∃n_120:Int,(((AV.int .u64 (IntKind.wrap .u64 (n_105+n_118)))=(AV.int .u64 n_120)) ∧
 (∃n_121:Int,(((AV.int .u64 (Int.fdiv n_120 (67108864:Int)))=(AV.int .u64 n_121)) ∧
 (∃n_122:Int,(((AV.int .u64 (IntKind.wrap .u64 (Nat.cast ((Int.toNat (n_120%(18446744073709551616:Int))) &&& (67108863:Nat)):Int)))=(AV.int .u64 n_122)) ∧
 (S ∧
 (∃n_123:Int,(((AV.int .u64 (IntKind.wrap .u64 (n_108+n_121)))=(AV.int .u64 n_123)) ∧
 (∃n_124:Int,(((AV.int .u64 (Int.fdiv n_123 (67108864:Int)))=(AV.int .u64 n_124)) ∧
 (∃n_125:Int,(((AV.int .u64 (IntKind.wrap .u64 (Nat.cast ((Int.toNat (n_123%(18446744073709551616:Int))) &&& (67108863:Nat)):Int)))=(AV.int .u64 n_125)) ∧
 (S ∧
 (∃n_126:Int,(((AV.int .u64 (IntKind.wrap .u64 (n_111+n_124)))=(AV.int .u64 n_126)) ∧
 (∃n_127:Int,(((AV.int .u64 (Int.fdiv n_126 (67108864:Int)))=(AV.int .u64 n_127)) ∧
 (∃n_128:Int,(((AV.int .u64 (IntKind.wrap .u64 (Nat.cast ((Int.toNat (n_126%(18446744073709551616:Int))) &&& (67108863:Nat)):Int)))=(AV.int .u64 n_128)) ∧
 (S ∧
 (∃n_129:Int,(((AV.int .u64 (IntKind.wrap .u64 ((5:Int)*n_127)))=(AV.int .u64 n_129)) ∧
 (∃n_130:Int,(((AV.int .u64 (IntKind.wrap .u64 (n_116+n_129)))=(AV.int .u64 n_130)) ∧
 (S ∧
 (∃n_131:Int,(((AV.int .u64 (Int.fdiv n_130 (67108864:Int)))=(AV.int .u64 n_131)) ∧
 (∃n_132:Int,(((AV.int .u64 (IntKind.wrap .u64 (n_119+n_131)))=(AV.int .u64 n_132)) ∧
 (∃n_133:Int,(((AV.int .u64 (IntKind.wrap .u64 (Nat.cast ((Int.toNat (n_130%(18446744073709551616:Int))) &&& (67108863:Nat)):Int)))=(AV.int .u64 n_133)) ∧
 (S∧K n_133 n_132 n_122 n_125 n_128))))))))))))))))))))))))))))))))))))))))))))))))))))))))))))))))))))))))))))))))))))))):=by
  refine aSs 189151181530988544 (by decide) b_o0 (fun z97 e_z97 b_z97 => ?_)
  refine uM 189151181530988544 2818572246 (by decide) b_z97 (fun z98 e_z98 b_z98 => ?_)
  refine uJ 189151181530988544 (by decide) b_z97 (fun z99 e_z99 b_z99 => ?_)
  refine ⟨hS, ?_⟩
  refine fA 189151181530988544 2818572246 189151184349560790 (by decide) (by decide) b_o1 b_z98 (fun z100 e_z100 b_z100 => ?_)
  refine uM 189151184349560790 2818572287 (by decide) b_z100 (fun z101 e_z101 b_z101 => ?_)
  refine uJ 189151184349560790 (by decide) b_z100 (fun z102 e_z102 b_z102 => ?_)
  refine ⟨hS, ?_⟩
  refine fA 189151181530988544 2818572287 189151184349560831 (by decide) (by decide) b_o2 b_z101 (fun z103 e_z103 b_z103 => ?_)
  refine uM 189151184349560831 2818572287 (by decide) b_z103 (fun z104 e_z104 b_z104 => ?_)
  refine uJ 189151184349560831 (by decide) b_z103 (fun z105 e_z105 b_z105 => ?_)
  refine ⟨hS, ?_⟩
  refine fA 189151181530988544 2818572287 189151184349560831 (by decide) (by decide) b_o3 b_z104 (fun z106 e_z106 b_z106 => ?_)
  refine uM 189151184349560831 2818572287 (by decide) b_z106 (fun z107 e_z107 b_z107 => ?_)
  refine uJ 189151184349560831 (by decide) b_z106 (fun z108 e_z108 b_z108 => ?_)
  refine ⟨hS, ?_⟩
  refine fA 189151181530988544 2818572287 189151184349560831 (by decide) (by decide) b_o4 b_z107 (fun z109 e_z109 b_z109 => ?_)
  refine uM 189151184349560831 2818572287 (by decide) b_z109 (fun z110 e_z110 b_z110 => ?_)
  refine uJ 189151184349560831 (by decide) b_z109 (fun z111 e_z111 b_z111 => ?_)
  refine ⟨hS, ?_⟩
  refine pW 2818572287 14092861435 (by decide) (by decide) b_z110 (fun z112 e_z112 b_z112 => ?_)
  refine fA 67108863 14092861435 14159970298 (by decide) (by decide) b_z99 b_z112 (fun z113 e_z113 b_z113 => ?_)
  refine ⟨hS, ?_⟩
  refine aSs 14159970298 (by decide) b_z113 (fun z114 e_z114 b_z114 => ?_)
  refine uM 14159970298 210 (by decide) b_z114 (fun z115 e_z115 b_z115 => ?_)
  refine uJ 14159970298 (by decide) b_z114 (fun z116 e_z116 b_z116 => ?_)
  refine ⟨hS, ?_⟩
  refine fA 67108863 210 67109073 (by decide) (by decide) b_z102 b_z115 (fun z117 e_z117 b_z117 => ?_)
  refine uM 67109073 1 (by decide) b_z117 (fun z118 e_z118 b_z118 => ?_)
  refine uJ 67109073 (by decide) b_z117 (fun z119 e_z119 b_z119 => ?_)
  refine ⟨hS, ?_⟩
  refine fA 67108863 1 67108864 (by decide) (by decide) b_z105 b_z118 (fun z120 e_z120 b_z120 => ?_)
  refine uM 67108864 1 (by decide) b_z120 (fun z121 e_z121 b_z121 => ?_)
  refine uJ 67108864 (by decide) b_z120 (fun z122 e_z122 b_z122 => ?_)
  refine ⟨hS, ?_⟩
  refine fA 67108863 1 67108864 (by decide) (by decide) b_z108 b_z121 (fun z123 e_z123 b_z123 => ?_)
  refine uM 67108864 1 (by decide) b_z123 (fun z124 e_z124 b_z124 => ?_)
  refine uJ 67108864 (by decide) b_z123 (fun z125 e_z125 b_z125 => ?_)
  refine ⟨hS, ?_⟩
  refine fA 67108863 1 67108864 (by decide) (by decide) b_z111 b_z124 (fun z126 e_z126 b_z126 => ?_)
  refine uM 67108864 1 (by decide) b_z126 (fun z127 e_z127 b_z127 => ?_)
  refine uJ 67108864 (by decide) b_z126 (fun z128 e_z128 b_z128 => ?_)
  refine ⟨hS, ?_⟩
  refine pW 1 5 (by decide) (by decide) b_z127 (fun z129 e_z129 b_z129 => ?_)
  refine fA 67108863 5 67108868 (by decide) (by decide) b_z116 b_z129 (fun z130 e_z130 b_z130 => ?_)
  refine ⟨hS, ?_⟩
  refine uM 67108868 1 (by decide) b_z130 (fun z131 e_z131 b_z131 => ?_)
  refine fA 67108863 1 67108864 (by decide) (by decide) b_z119 b_z131 (fun z132 e_z132 b_z132 => ?_)
  refine uJ 67108868 (by decide) b_z130 (fun z133 e_z133 b_z133 => ?_)
  refine ⟨hS, ?_⟩
  have d_z97:z97=67108864*z98+z99:=by rw[e_z98,e_z99];exact (bO1 _ _).symm
  have d_z100:z100=67108864*z101+z102:=by rw[e_z101,e_z102];exact (bO1 _ _).symm
  have d_z103:z103=67108864*z104+z105:=by rw[e_z104,e_z105];exact (bO1 _ _).symm
  have d_z106:z106=67108864*z107+z108:=by rw[e_z107,e_z108];exact (bO1 _ _).symm
  have d_z109:z109=67108864*z110+z111:=by rw[e_z110,e_z111];exact (bO1 _ _).symm
  have d_z114:z114=67108864*z115+z116:=by rw[e_z115,e_z116];exact (bO1 _ _).symm
  have d_z117:z117=67108864*z118+z119:=by rw[e_z118,e_z119];exact (bO1 _ _).symm
  have d_z120:z120=67108864*z121+z122:=by rw[e_z121,e_z122];exact (bO1 _ _).symm
  have d_z123:z123=67108864*z124+z125:=by rw[e_z124,e_z125];exact (bO1 _ _).symm
  have d_z126:z126=67108864*z127+z128:=by rw[e_z127,e_z128];exact (bO1 _ _).symm
  have d_z130:z130=67108864*z131+z133:=by rw[e_z131,e_z133];exact (bO1 _ _).symm
  clear e_z98 e_z99 e_z101 e_z102 e_z104 e_z105 e_z107 e_z108 e_z110 e_z111 e_z115 e_z116 e_z118 e_z119 e_z121 e_z122 e_z124 e_z125 e_z127 e_z128 e_z131 e_z133
  refine h z133 z132 z122 z125 z128 (bO6 b_z133 (by decide)) (bO6 b_z132 (by decide)) (bO6 b_z122 (by decide)) (bO6 b_z125 (by decide)) (bO6 b_z128 (by decide)) ⟨z110+z127, ?_⟩
  clear b_z97 b_z98 b_z99 b_z100 b_z101 b_z102 b_z103 b_z104 b_z105 b_z106 b_z107 b_z108 b_z109 b_z110 b_z111 b_z112 b_z113 b_z114 b_z115 b_z116 b_z117 b_z118 b_z119 b_z120 b_z121 b_z122 b_z123 b_z124 b_z125 b_z126 b_z127 b_z128 b_z129 b_z130 b_z131 b_z132 b_z133 b_o0 b_o1 b_o2 b_o3 b_o4
  simp only[iP,pM]
  omega
theorem bLc {x:Nat} {M:Int} (A m C:Nat) (hC:A+m≤C) (hM:M=(m:Int)) (h64:C<18446744073709551616) (hx:x≤A) {K:Int→Prop} (k:∀z:Nat,z=x+m→z≤C→K z):∃n:Int,AV.int .u64 (IntKind.wrap .u64 ((x:Int)+M))=AV.int .u64 n∧K n:=
 lI (x:=x+m) (by omega) (k _ rfl (by omega)) (by omega)
theorem aQe {x:Nat} {M:Int} (A m C:Nat) (hC:A*m≤C) (hM:M=(m:Int)) (h64:C<18446744073709551616) (hx:x≤A) {K:Int→Prop} (k:∀z:Nat,z=x*m→z≤C→K z):∃n:Int,AV.int .u64 (IntKind.wrap .u64 ((x:Int)*M))=AV.int .u64 n∧K n:=by
 have h:=bSx hx (bOt m)
 exact lI (x:=x*m) (by omega) (k _ rfl (by omega)) (by rw[hM];simp)
theorem w8B {x:Nat} {K:Int→Prop} (k:∀z:Nat,z=x%256→z≤255→K z):∃n:Int,AV.int .u8 (IntKind.wrap .u8 (x:Int))=AV.int .u8 n∧K n:=
 ⟨_,by rw[iF],k _ rfl (by omega)⟩
theorem fT {x:Nat} (A C:Nat) (hC:A/256≤C) (hx:x≤A) {K:Int→Prop} (k:∀z:Nat,z=x/256→z≤C→K z):∃n:Int,AV.int .u64 (Int.fdiv (x:Int) 256)=AV.int .u64 n∧K n:=
 ⟨_,by rw[aE6 x 256 256 rfl],k _ rfl (bO6 (Nat.div_le_div_right hx) hC)⟩
theorem bN1 {x:Nat} (A:Nat) (h64:A<18446744073709551616) (hx:x≤A) {K:Int→Prop} (k:∀z:Nat,z=x→z≤A→K z):∃n:Int,AV.int .u64 (IntKind.wrap .u64 (((0:Nat) ||| ((x:Int)%18446744073709551616).toNat:Nat):Int))=AV.int .u64 n∧K n:=
 lI (x:=x) (by omega) (k _ rfl (by omega)) (by rw[zP (by omega),Nat.zero_or])
theorem orB {x y:Nat} (A B C b:Nat) (hC:A+B≤C) (h64:C<18446744073709551616) (hx:x≤A) (hy:y≤B) (hm:y%2^b=0) (hA:A<2^b) {K:Int→Prop} (k:∀z:Nat,z=x+y→z≤C→K z) :
  ∃n:Int,AV.int .u64 (IntKind.wrap .u64 ((((x:Int)%18446744073709551616).toNat ||| ((y:Int)%18446744073709551616).toNat:Nat):Int))=AV.int .u64 n∧K n:=
 lI (x:=x+y) (by omega) (k _ rfl (by omega)) (by rw[zP (by omega),zP (by omega),aSw b (bTf hx hA) hm])

theorem bLh {l0 l1 l2 l3 l4:Nat} (b_l0:l0≤67108864) (b_l1:l1≤67108864) (b_l2:l2≤67108864) (b_l3:l3≤67108864) (b_l4:l4≤67108864) {K:Int→Int→Int→Int→Int→Int→Prop}
  (h:∀m0 m1 m2 m3 m4 c:Nat,m0≤67108863→m1≤67108863→m2≤67108863→m3≤67108863→m4≤67108863→iP l0 l1 l2 l3 l4+5=iP m0 m1 m2 m3 m4+1361129467683753853853498429727072845824*c→K m0 m1 m2 m3 m4 c) :
 (∃n_60:Int,(((AV.int .u64 (IntKind.wrap .u64 ((Nat.cast l0:Int)+(5:Int))))=(AV.int .u64 n_60)) ∧
 (∃n_61:Int,(((AV.int .u64 (IntKind.wrap .u64 (n_60+(0:Int))))=(AV.int .u64 n_61)) ∧
 (∃n_62:Int,(((AV.int .u64 (Int.fdiv n_61 (67108864:Int)))=(AV.int .u64 n_62)) ∧
 (∃n_63:Int,(((AV.int .u64 (IntKind.wrap .u64 (Nat.cast ((Int.toNat (n_61%(18446744073709551616:Int))) &&& (67108863:Nat)):Int)))=(AV.int .u64 n_63)) ∧
 (∃n_64:Int,(((AV.int .u64 (IntKind.wrap .u64 ((Nat.cast l1:Int)+n_62)))=(AV.int .u64 n_64)) ∧
 (∃n_65:Int,(((AV.int .u64 (Int.fdiv n_64 (67108864:Int)))=(AV.int .u64 n_65)) ∧
 (∃n_66:Int,(((AV.int .u64 (IntKind.wrap .u64 (Nat.cast ((Int.toNat (n_64%(18446744073709551616:Int))) &&& (67108863:Nat)):Int)))=(AV.int .u64 n_66)) ∧
 (∃n_67:Int,(((AV.int .u64 (IntKind.wrap .u64 ((Nat.cast l2:Int)+n_65)))=(AV.int .u64 n_67)) ∧
 (∃n_68:Int,(((AV.int .u64 (Int.fdiv n_67 (67108864:Int)))=(AV.int .u64 n_68)) ∧
 (∃n_69:Int,(((AV.int .u64 (IntKind.wrap .u64 (Nat.cast ((Int.toNat (n_67%(18446744073709551616:Int))) &&& (67108863:Nat)):Int)))=(AV.int .u64 n_69)) ∧
 (∃n_70:Int,(((AV.int .u64 (IntKind.wrap .u64 ((Nat.cast l3:Int)+n_68)))=(AV.int .u64 n_70)) ∧
 (∃n_71:Int,(((AV.int .u64 (Int.fdiv n_70 (67108864:Int)))=(AV.int .u64 n_71)) ∧
 (∃n_72:Int,(((AV.int .u64 (IntKind.wrap .u64 (Nat.cast ((Int.toNat (n_70%(18446744073709551616:Int))) &&& (67108863:Nat)):Int)))=(AV.int .u64 n_72)) ∧
 (∃n_73:Int,(((AV.int .u64 (IntKind.wrap .u64 ((Nat.cast l4:Int)+n_71)))=(AV.int .u64 n_73)) ∧
 (∃n_74:Int,(((AV.int .u64 (Int.fdiv n_73 (67108864:Int)))=(AV.int .u64 n_74)) ∧
 (∃n_75:Int,(((AV.int .u64 (IntKind.wrap .u64 (Nat.cast ((Int.toNat (n_73%(18446744073709551616:Int))) &&& (67108863:Nat)):Int)))=(AV.int .u64 n_75))∧K n_63 n_66 n_69 n_72 n_75 n_74)))))))))))))))))))))))))))))))):=by
  refine bLc 67108864 5 67108869 (by decide) rfl (by decide) b_l0 (fun z60 e_z60 b_z60 => ?_)
  refine aSs 67108869 (by decide) b_z60 (fun z61 e_z61 b_z61 => ?_)
  refine uM 67108869 1 (by decide) b_z61 (fun z62 e_z62 b_z62 => ?_)
  refine uJ 67108869 (by decide) b_z61 (fun z63 e_z63 b_z63 => ?_)
  refine fA 67108864 1 67108865 (by decide) (by decide) b_l1 b_z62 (fun z64 e_z64 b_z64 => ?_)
  refine uM 67108865 1 (by decide) b_z64 (fun z65 e_z65 b_z65 => ?_)
  refine uJ 67108865 (by decide) b_z64 (fun z66 e_z66 b_z66 => ?_)
  refine fA 67108864 1 67108865 (by decide) (by decide) b_l2 b_z65 (fun z67 e_z67 b_z67 => ?_)
  refine uM 67108865 1 (by decide) b_z67 (fun z68 e_z68 b_z68 => ?_)
  refine uJ 67108865 (by decide) b_z67 (fun z69 e_z69 b_z69 => ?_)
  refine fA 67108864 1 67108865 (by decide) (by decide) b_l3 b_z68 (fun z70 e_z70 b_z70 => ?_)
  refine uM 67108865 1 (by decide) b_z70 (fun z71 e_z71 b_z71 => ?_)
  refine uJ 67108865 (by decide) b_z70 (fun z72 e_z72 b_z72 => ?_)
  refine fA 67108864 1 67108865 (by decide) (by decide) b_l4 b_z71 (fun z73 e_z73 b_z73 => ?_)
  refine uM 67108865 1 (by decide) b_z73 (fun z74 e_z74 b_z74 => ?_)
  refine uJ 67108865 (by decide) b_z73 (fun z75 e_z75 b_z75 => ?_)
  have d_z61:z61=67108864*z62+z63:=by rw[e_z62,e_z63];exact (bO1 _ _).symm
  have d_z64:z64=67108864*z65+z66:=by rw[e_z65,e_z66];exact (bO1 _ _).symm
  have d_z67:z67=67108864*z68+z69:=by rw[e_z68,e_z69];exact (bO1 _ _).symm
  have d_z70:z70=67108864*z71+z72:=by rw[e_z71,e_z72];exact (bO1 _ _).symm
  have d_z73:z73=67108864*z74+z75:=by rw[e_z74,e_z75];exact (bO1 _ _).symm
  clear e_z62 e_z63 e_z65 e_z66 e_z68 e_z69 e_z71 e_z72 e_z74 e_z75
  refine h z63 z66 z69 z72 z75 z74 b_z63 b_z66 b_z69 b_z72 b_z75 ?_
  clear b_z60 b_z61 b_z62 b_z63 b_z64 b_z65 b_z66 b_z67 b_z68 b_z69 b_z70 b_z71 b_z72 b_z73 b_z74 b_z75 b_l0 b_l1 b_l2 b_l3 b_l4
  simp only[iP]
  omega
theorem bNb {t0 t1 t2 t3 t4:Nat} (b_t0:t0≤134217728) (b_t1:t1≤134217728) (b_t2:t2≤134217728) (b_t3:t3≤134217728) (b_t4:t4≤134217728) {K:Int→Int→Int→Int→Int→Int→Int→Int→Int→Int→Int→Int→Int→Int→Int→Int→Prop}
  (h:∀y0 y1 y2 y3 y4 y5 y6 y7 y8 y9 y10 y11 y12 y13 y14 y15:Nat,y0≤255→y1≤255→y2≤255→y3≤255→y4≤255→y5≤255→y6≤255→y7≤255→y8≤255→y9≤255→y10≤255→y11≤255→y12≤255→y13≤255→y14≤255→y15≤255→iP t0 t1 t2 t3 t4%340282366920938463463374607431768211456=y0+256*(y1+256*(y2+256*(y3+256*(y4+256*(y5+256*(y6+256*(y7+256*(y8+256*(y9+256*(y10+256*(y11+256*(y12+256*(y13+256*(y14+256*(y15)))))))))))))))→K y0 y1 y2 y3 y4 y5 y6 y7 y8 y9 y10 y11 y12 y13 y14 y15) :
 (∃n_88:Int,(((AV.int .u64 (IntKind.wrap .u64 ((Nat.cast t0:Int)+(0:Int))))=(AV.int .u64 n_88)) ∧
 (∃n_89:Int,(((AV.int .u64 (Int.fdiv n_88 (67108864:Int)))=(AV.int .u64 n_89)) ∧
 (∃n_90:Int,(((AV.int .u64 (IntKind.wrap .u64 (Nat.cast ((Int.toNat (n_88%(18446744073709551616:Int))) &&& (67108863:Nat)):Int)))=(AV.int .u64 n_90)) ∧
 (∃n_91:Int,(((AV.int .u64 (IntKind.wrap .u64 (n_90*(1:Int))))=(AV.int .u64 n_91)) ∧
 (∃n_92:Int,(((AV.int .u64 (IntKind.wrap .u64 (Nat.cast ((0:Nat) ||| (Int.toNat (n_91%(18446744073709551616:Int)))):Int)))=(AV.int .u64 n_92)) ∧
 (∃n_93:Int,(((AV.int .u8 (IntKind.wrap .u8 n_92))=(AV.int .u8 n_93)) ∧
 (∃n_94:Int,(((AV.int .u64 (Int.fdiv n_92 (256:Int)))=(AV.int .u64 n_94)) ∧
 (∃n_95:Int,(((AV.int .u8 (IntKind.wrap .u8 n_94))=(AV.int .u8 n_95)) ∧
 (∃n_96:Int,(((AV.int .u64 (Int.fdiv n_94 (256:Int)))=(AV.int .u64 n_96)) ∧
 (∃n_97:Int,(((AV.int .u8 (IntKind.wrap .u8 n_96))=(AV.int .u8 n_97)) ∧
 (∃n_98:Int,(((AV.int .u64 (Int.fdiv n_96 (256:Int)))=(AV.int .u64 n_98)) ∧
 (∃n_99:Int,(((AV.int .u64 (IntKind.wrap .u64 ((Nat.cast t1:Int)+n_89)))=(AV.int .u64 n_99)) ∧
 (∃n_100:Int,(((AV.int .u64 (Int.fdiv n_99 (67108864:Int)))=(AV.int .u64 n_100)) ∧
 (∃n_101:Int,(((AV.int .u64 (IntKind.wrap .u64 (Nat.cast ((Int.toNat (n_99%(18446744073709551616:Int))) &&& (67108863:Nat)):Int)))=(AV.int .u64 n_101)) ∧
 (∃n_102:Int,(((AV.int .u64 (IntKind.wrap .u64 (n_101*(4:Int))))=(AV.int .u64 n_102)) ∧
 (∃n_103:Int,(((AV.int .u64 (IntKind.wrap .u64 (Nat.cast ((Int.toNat (n_98%(18446744073709551616:Int))) ||| (Int.toNat (n_102%(18446744073709551616:Int)))):Int)))=(AV.int .u64 n_103)) ∧
 (∃n_104:Int,(((AV.int .u8 (IntKind.wrap .u8 n_103))=(AV.int .u8 n_104)) ∧
 (∃n_105:Int,(((AV.int .u64 (Int.fdiv n_103 (256:Int)))=(AV.int .u64 n_105)) ∧
 (∃n_106:Int,(((AV.int .u8 (IntKind.wrap .u8 n_105))=(AV.int .u8 n_106)) ∧
 (∃n_107:Int,(((AV.int .u64 (Int.fdiv n_105 (256:Int)))=(AV.int .u64 n_107)) ∧
 (∃n_108:Int,(((AV.int .u8 (IntKind.wrap .u8 n_107))=(AV.int .u8 n_108)) ∧
 (∃n_109:Int,(((AV.int .u64 (Int.fdiv n_107 (256:Int)))=(AV.int .u64 n_109)) ∧
 (∃n_110:Int,(((AV.int .u64 (IntKind.wrap .u64 ((Nat.cast t2:Int)+n_100)))=(AV.int .u64 n_110)) ∧
 (∃n_111:Int,(((AV.int .u64 (Int.fdiv n_110 (67108864:Int)))=(AV.int .u64 n_111)) ∧
 (∃n_112:Int,(((AV.int .u64 (IntKind.wrap .u64 (Nat.cast ((Int.toNat (n_110%(18446744073709551616:Int))) &&& (67108863:Nat)):Int)))=(AV.int .u64 n_112)) ∧
 (∃n_113:Int,(((AV.int .u64 (IntKind.wrap .u64 (n_112*(16:Int))))=(AV.int .u64 n_113)) ∧
 (∃n_114:Int,(((AV.int .u64 (IntKind.wrap .u64 (Nat.cast ((Int.toNat (n_109%(18446744073709551616:Int))) ||| (Int.toNat (n_113%(18446744073709551616:Int)))):Int)))=(AV.int .u64 n_114)) ∧
 (∃n_115:Int,(((AV.int .u8 (IntKind.wrap .u8 n_114))=(AV.int .u8 n_115)) ∧
 (∃n_116:Int,(((AV.int .u64 (Int.fdiv n_114 (256:Int)))=(AV.int .u64 n_116)) ∧
 (∃n_117:Int,(((AV.int .u8 (IntKind.wrap .u8 n_116))=(AV.int .u8 n_117)) ∧
 (∃n_118:Int,(((AV.int .u64 (Int.fdiv n_116 (256:Int)))=(AV.int .u64 n_118)) ∧
 (∃n_119:Int,(((AV.int .u8 (IntKind.wrap .u8 n_118))=(AV.int .u8 n_119)) ∧
 (∃n_120:Int,(((AV.int .u64 (Int.fdiv n_118 (256:Int)))=(AV.int .u64 n_120)) ∧
 (∃n_121:Int,(((AV.int .u64 (IntKind.wrap .u64 ((Nat.cast t3:Int)+n_111)))=(AV.int .u64 n_121)) ∧
 (∃n_122:Int,(((AV.int .u64 (Int.fdiv n_121 (67108864:Int)))=(AV.int .u64 n_122)) ∧
 (∃n_123:Int,(((AV.int .u64 (IntKind.wrap .u64 (Nat.cast ((Int.toNat (n_121%(18446744073709551616:Int))) &&& (67108863:Nat)):Int)))=(AV.int .u64 n_123)) ∧
 (∃n_124:Int,(((AV.int .u64 (IntKind.wrap .u64 (n_123*(64:Int))))=(AV.int .u64 n_124)) ∧
 (∃n_125:Int,(((AV.int .u64 (IntKind.wrap .u64 (Nat.cast ((Int.toNat (n_120%(18446744073709551616:Int))) ||| (Int.toNat (n_124%(18446744073709551616:Int)))):Int)))=(AV.int .u64 n_125)) ∧
 (∃n_126:Int,(((AV.int .u8 (IntKind.wrap .u8 n_125))=(AV.int .u8 n_126)) ∧
 (∃n_127:Int,(((AV.int .u64 (Int.fdiv n_125 (256:Int)))=(AV.int .u64 n_127)) ∧
 (∃n_128:Int,(((AV.int .u8 (IntKind.wrap .u8 n_127))=(AV.int .u8 n_128)) ∧
 (∃n_129:Int,(((AV.int .u64 (Int.fdiv n_127 (256:Int)))=(AV.int .u64 n_129)) ∧
 (∃n_130:Int,(((AV.int .u8 (IntKind.wrap .u8 n_129))=(AV.int .u8 n_130)) ∧
 (∃n_131:Int,(((AV.int .u64 (Int.fdiv n_129 (256:Int)))=(AV.int .u64 n_131)) ∧
 (∃n_132:Int,(((AV.int .u8 (IntKind.wrap .u8 n_131))=(AV.int .u8 n_132)) ∧
 (∃n_133:Int,(((AV.int .u64 (Int.fdiv n_131 (256:Int)))=(AV.int .u64 n_133)) ∧
 (∃n_134:Int,(((AV.int .u64 (IntKind.wrap .u64 ((Nat.cast t4:Int)+n_122)))=(AV.int .u64 n_134)) ∧
 (∃n_135:Int,(((AV.int .u64 (Int.fdiv n_134 (67108864:Int)))=(AV.int .u64 n_135)) ∧
 (∃n_136:Int,(((AV.int .u64 (IntKind.wrap .u64 (Nat.cast ((Int.toNat (n_134%(18446744073709551616:Int))) &&& (67108863:Nat)):Int)))=(AV.int .u64 n_136)) ∧
 (∃n_137:Int,(((AV.int .u64 (IntKind.wrap .u64 (n_136*(1:Int))))=(AV.int .u64 n_137)) ∧
 (∃n_138:Int,(((AV.int .u64 (IntKind.wrap .u64 (Nat.cast ((Int.toNat (n_133%(18446744073709551616:Int))) ||| (Int.toNat (n_137%(18446744073709551616:Int)))):Int)))=(AV.int .u64 n_138)) ∧
 (∃n_139:Int,(((AV.int .u8 (IntKind.wrap .u8 n_138))=(AV.int .u8 n_139)) ∧
 (∃n_140:Int,(((AV.int .u64 (Int.fdiv n_138 (256:Int)))=(AV.int .u64 n_140)) ∧
 (∃n_141:Int,(((AV.int .u8 (IntKind.wrap .u8 n_140))=(AV.int .u8 n_141)) ∧
 (∃n_142:Int,(((AV.int .u64 (Int.fdiv n_140 (256:Int)))=(AV.int .u64 n_142)) ∧
 (∃n_143:Int,(((AV.int .u8 (IntKind.wrap .u8 n_142))=(AV.int .u8 n_143)) ∧
 (∃n_144:Int,(((AV.int .u64 (Int.fdiv n_142 (256:Int)))=(AV.int .u64 n_144))∧K n_93 n_95 n_97 n_104 n_106 n_108 n_115 n_117 n_119 n_126 n_128 n_130 n_132 n_139 n_141 n_143)))))))))))))))))))))))))))))))))))))))))))))))))))))))))))))))))))))))))))))))))))))))))))))))))))))))))))))))))):=by
  refine aSs 134217728 (by decide) b_t0 (fun z88 e_z88 b_z88 => ?_)
  refine uM 134217728 2 (by decide) b_z88 (fun z89 e_z89 b_z89 => ?_)
  refine uJ 134217728 (by decide) b_z88 (fun z90 e_z90 b_z90 => ?_)
  refine aQe 67108863 1 67108863 (by decide) rfl (by decide) b_z90 (fun z91 e_z91 b_z91 => ?_)
  refine bN1 67108863 (by decide) b_z91 (fun z92 e_z92 b_z92 => ?_)
  refine w8B (fun z93 e_z93 b_z93 => ?_)
  refine fT 67108863 262143 (by decide) b_z92 (fun z94 e_z94 b_z94 => ?_)
  refine w8B (fun z95 e_z95 b_z95 => ?_)
  refine fT 262143 1023 (by decide) b_z94 (fun z96 e_z96 b_z96 => ?_)
  refine w8B (fun z97 e_z97 b_z97 => ?_)
  refine fT 1023 3 (by decide) b_z96 (fun z98 e_z98 b_z98 => ?_)
  refine fA 134217728 2 134217730 (by decide) (by decide) b_t1 b_z89 (fun z99 e_z99 b_z99 => ?_)
  refine uM 134217730 2 (by decide) b_z99 (fun z100 e_z100 b_z100 => ?_)
  refine uJ 134217730 (by decide) b_z99 (fun z101 e_z101 b_z101 => ?_)
  refine aQe 67108863 4 268435452 (by decide) rfl (by decide) b_z101 (fun z102 e_z102 b_z102 => ?_)
  refine orB 3 268435452 268435455 2 (by decide) (by decide) b_z98 b_z102 (by rw[e_z102];exact bRs _ _) (by decide) (fun z103 e_z103 b_z103 => ?_)
  refine w8B (fun z104 e_z104 b_z104 => ?_)
  refine fT 268435455 1048575 (by decide) b_z103 (fun z105 e_z105 b_z105 => ?_)
  refine w8B (fun z106 e_z106 b_z106 => ?_)
  refine fT 1048575 4095 (by decide) b_z105 (fun z107 e_z107 b_z107 => ?_)
  refine w8B (fun z108 e_z108 b_z108 => ?_)
  refine fT 4095 15 (by decide) b_z107 (fun z109 e_z109 b_z109 => ?_)
  refine fA 134217728 2 134217730 (by decide) (by decide) b_t2 b_z100 (fun z110 e_z110 b_z110 => ?_)
  refine uM 134217730 2 (by decide) b_z110 (fun z111 e_z111 b_z111 => ?_)
  refine uJ 134217730 (by decide) b_z110 (fun z112 e_z112 b_z112 => ?_)
  refine aQe 67108863 16 1073741808 (by decide) rfl (by decide) b_z112 (fun z113 e_z113 b_z113 => ?_)
  refine orB 15 1073741808 1073741823 4 (by decide) (by decide) b_z109 b_z113 (by rw[e_z113];exact bRs _ _) (by decide) (fun z114 e_z114 b_z114 => ?_)
  refine w8B (fun z115 e_z115 b_z115 => ?_)
  refine fT 1073741823 4194303 (by decide) b_z114 (fun z116 e_z116 b_z116 => ?_)
  refine w8B (fun z117 e_z117 b_z117 => ?_)
  refine fT 4194303 16383 (by decide) b_z116 (fun z118 e_z118 b_z118 => ?_)
  refine w8B (fun z119 e_z119 b_z119 => ?_)
  refine fT 16383 63 (by decide) b_z118 (fun z120 e_z120 b_z120 => ?_)
  refine fA 134217728 2 134217730 (by decide) (by decide) b_t3 b_z111 (fun z121 e_z121 b_z121 => ?_)
  refine uM 134217730 2 (by decide) b_z121 (fun z122 e_z122 b_z122 => ?_)
  refine uJ 134217730 (by decide) b_z121 (fun z123 e_z123 b_z123 => ?_)
  refine aQe 67108863 64 4294967232 (by decide) rfl (by decide) b_z123 (fun z124 e_z124 b_z124 => ?_)
  refine orB 63 4294967232 4294967295 6 (by decide) (by decide) b_z120 b_z124 (by rw[e_z124];exact bRs _ _) (by decide) (fun z125 e_z125 b_z125 => ?_)
  refine w8B (fun z126 e_z126 b_z126 => ?_)
  refine fT 4294967295 16777215 (by decide) b_z125 (fun z127 e_z127 b_z127 => ?_)
  refine w8B (fun z128 e_z128 b_z128 => ?_)
  refine fT 16777215 65535 (by decide) b_z127 (fun z129 e_z129 b_z129 => ?_)
  refine w8B (fun z130 e_z130 b_z130 => ?_)
  refine fT 65535 255 (by decide) b_z129 (fun z131 e_z131 b_z131 => ?_)
  refine w8B (fun z132 e_z132 b_z132 => ?_)
  refine fT 255 0 (by decide) b_z131 (fun z133 e_z133 b_z133 => ?_)
  refine fA 134217728 2 134217730 (by decide) (by decide) b_t4 b_z122 (fun z134 e_z134 b_z134 => ?_)
  refine uM 134217730 2 (by decide) b_z134 (fun z135 e_z135 b_z135 => ?_)
  refine uJ 134217730 (by decide) b_z134 (fun z136 e_z136 b_z136 => ?_)
  refine aQe 67108863 1 67108863 (by decide) rfl (by decide) b_z136 (fun z137 e_z137 b_z137 => ?_)
  refine orB 0 67108863 67108863 0 (by decide) (by decide) b_z133 b_z137 (by rw[e_z137];exact bRs _ _) (by decide) (fun z138 e_z138 b_z138 => ?_)
  refine w8B (fun z139 e_z139 b_z139 => ?_)
  refine fT 67108863 262143 (by decide) b_z138 (fun z140 e_z140 b_z140 => ?_)
  refine w8B (fun z141 e_z141 b_z141 => ?_)
  refine fT 262143 1023 (by decide) b_z140 (fun z142 e_z142 b_z142 => ?_)
  refine w8B (fun z143 e_z143 b_z143 => ?_)
  refine fT 1023 3 (by decide) b_z142 (fun z144 e_z144 b_z144 => ?_)
  have d_z88:z88=67108864*z89+z90:=by rw[e_z89,e_z90];exact (bO1 _ _).symm
  have d_z99:z99=67108864*z100+z101:=by rw[e_z100,e_z101];exact (bO1 _ _).symm
  have d_z110:z110=67108864*z111+z112:=by rw[e_z111,e_z112];exact (bO1 _ _).symm
  have d_z121:z121=67108864*z122+z123:=by rw[e_z122,e_z123];exact (bO1 _ _).symm
  have d_z134:z134=67108864*z135+z136:=by rw[e_z135,e_z136];exact (bO1 _ _).symm
  have d_z92:z92=256*z94+z93:=by rw[e_z94,e_z93];exact (bO1 _ _).symm
  have d_z94:z94=256*z96+z95:=by rw[e_z96,e_z95];exact (bO1 _ _).symm
  have d_z96:z96=256*z98+z97:=by rw[e_z98,e_z97];exact (bO1 _ _).symm
  have d_z103:z103=256*z105+z104:=by rw[e_z105,e_z104];exact (bO1 _ _).symm
  have d_z105:z105=256*z107+z106:=by rw[e_z107,e_z106];exact (bO1 _ _).symm
  have d_z107:z107=256*z109+z108:=by rw[e_z109,e_z108];exact (bO1 _ _).symm
  have d_z114:z114=256*z116+z115:=by rw[e_z116,e_z115];exact (bO1 _ _).symm
  have d_z116:z116=256*z118+z117:=by rw[e_z118,e_z117];exact (bO1 _ _).symm
  have d_z118:z118=256*z120+z119:=by rw[e_z120,e_z119];exact (bO1 _ _).symm
  have d_z125:z125=256*z127+z126:=by rw[e_z127,e_z126];exact (bO1 _ _).symm
  have d_z127:z127=256*z129+z128:=by rw[e_z129,e_z128];exact (bO1 _ _).symm
  have d_z129:z129=256*z131+z130:=by rw[e_z131,e_z130];exact (bO1 _ _).symm
  have d_z131:z131=256*z133+z132:=by rw[e_z133,e_z132];exact (bO1 _ _).symm
  have d_z138:z138=256*z140+z139:=by rw[e_z140,e_z139];exact (bO1 _ _).symm
  have d_z140:z140=256*z142+z141:=by rw[e_z142,e_z141];exact (bO1 _ _).symm
  have d_z142:z142=256*z144+z143:=by rw[e_z144,e_z143];exact (bO1 _ _).symm
  clear e_z89 e_z90 e_z100 e_z101 e_z111 e_z112 e_z122 e_z123 e_z135 e_z136 e_z94 e_z93 e_z96 e_z95 e_z98 e_z97 e_z105 e_z104 e_z107 e_z106 e_z109 e_z108 e_z116 e_z115 e_z118 e_z117 e_z120 e_z119 e_z127 e_z126 e_z129 e_z128 e_z131 e_z130 e_z133 e_z132 e_z140 e_z139 e_z142 e_z141 e_z144 e_z143
  refine h z93 z95 z97 z104 z106 z108 z115 z117 z119 z126 z128 z130 z132 z139 z141 z143 b_z93 b_z95 b_z97 b_z104 b_z106 b_z108 b_z115 b_z117 b_z119 b_z126 b_z128 b_z130 b_z132 b_z139 b_z141 b_z143 ?_
  have hh:iP t0 t1 t2 t3 t4=(z93+256*(z95+256*(z97+256*(z104+256*(z106+256*(z108+256*(z115+256*(z117+256*(z119+256*(z126+256*(z128+256*(z130+256*(z132+256*(z139+256*(z141+256*(z143))))))))))))))))+340282366920938463463374607431768211456*(z144+4*z135):=by
   clear b_z88 b_z89 b_z90 b_z91 b_z92 b_z93 b_z94 b_z95 b_z96 b_z97 b_z98 b_z99 b_z100 b_z101 b_z102 b_z103 b_z104 b_z105 b_z106 b_z107 b_z108 b_z109 b_z110 b_z111 b_z112 b_z113 b_z114 b_z115 b_z116 b_z117 b_z118 b_z119 b_z120 b_z121 b_z122 b_z123 b_z124 b_z125 b_z126 b_z127 b_z128 b_z129 b_z130 b_z131 b_z132 b_z133 b_z134 b_z135 b_z136 b_z137 b_z138 b_z139 b_z140 b_z141 b_z142 b_z143 b_z144 b_t0 b_t1 b_t2 b_t3 b_t4
   simp only[iP]
   omega
  rw[hh,bRg]
  refine bPw ?_
  clear hh e_z88 e_z91 e_z92 e_z99 e_z102 e_z103 e_z110 e_z113 e_z114 e_z121 e_z124 e_z125 e_z134 e_z137 e_z138 
  omega
def bN (l:List UInt8) (j:Nat) (m:UInt8):List UInt8:=l.set j (l.getD j 0 &&& m)
def aF0 (l:List UInt8):List UInt8:=bN (bN (bN (bN (bN (bN (bN l 3 15) 7 15) 11 15) 15 15) 4 252) 8 252) 12 252
def aQn:Nat→Nat→List UInt8
 | 0,_=>[]
 | n+1,x=>UInt8.ofNat (x%256)::aQn n (x/256)
def aV2 (key s:List UInt8):List UInt8:=aQn 16 ((qY (gH (aF0 (key.take 16))) s.length 0 s+gH (key.drop 16))%340282366920938463463374607431768211456)

theorem aZ2 (a:UInt8) (M:Nat) (m:UInt8) (hm:m.toNat=M):IntKind.wrap .u8 ((((a.toNat:Int)%256).toNat &&& M:Nat):Int)=((a &&& m).toNat:Int):=by
 subst hm
 have h1:((a.toNat:Int)%256).toNat=a.toNat:=by have:=a.toNat_lt;omega
 rw[h1,iF,UInt8.toNat_and]
 congr 1
 exact bPw (bTf Nat.and_le_left a.toNat_lt)
theorem eB (l:List UInt8) (j:Nat) (m:UInt8):(bN l j m).length=l.length:=by simp[bN]
theorem aQw (τ:Nat) (H:List Blk) (d:Nat) (xs:List UInt8) {n:Nat} (hn:n=xs.length):List.map (fun x=>bW τ H (d+1) x) (List.take (n*1) (List.drop 0 (ofBytes xs)))=ofBytes xs:=by
 subst hn
 rw[bOv,bQ1,bOk (by rw[aH];omega)]
 unfold ofBytes
 rw[bSk]
 rfl
theorem zR {n a b c d e:Nat} (hn:n<1361129467683753853853498429727072845824) (h:kI n=[a,b,c,d,e]):n=iP a b c d e∧a≤67108863∧b≤67108863∧c≤67108863∧d≤67108863∧e≤67108863:=by
 simp only[kI,bP6,bOo] at h
 obtain ⟨h0,h1,h2,h3,h4⟩:=h
 unfold iP
 refine ⟨?_, ?_, ?_, ?_, ?_, ?_⟩<;>omega

theorem aMl {V N X R o c l c':Nat} (hx:V+N=X) (h1:X*R=o+pM*c) (h2:o=l+pM*c'):((V%pM+N)*R)%pM=l%pM:=by
 have e:((V%pM+N)*R)%pM=((V+N)*R)%pM:=by
  rw[Nat.mul_mod,Nat.add_mod,Nat.mod_mod,←Nat.add_mod,←Nat.mul_mod]
 rw[e,hx,h1,h2,bRg,bRg]
theorem aTj (r h:Nat):∀f,qY r f h []=h
 | 0=>rfl
 | f+1=>by rw[qY,if_pos rfl]
theorem dA {b:Nat} (hb:b≤255) (n y:Nat):aQn (n+1) (b+256*y)=UInt8.ofNat b::aQn n y:=by
 rw[aQn,show (b+256*y)%256=b by omega,show (b+256*y)/256=y by omega]
theorem aWv {x y0 y1 y2 y3 y4 y5 y6 y7 y8 y9 y10 y11 y12 y13 y14 y15:Nat} (h:x=y0+256*(y1+256*(y2+256*(y3+256*(y4+256*(y5+256*(y6+256*(y7+256*(y8+256*(y9+256*(y10+256*(y11+256*(y12+256*(y13+256*(y14+256*(y15))))))))))))))))
  (c0:y0≤255) (c1:y1≤255) (c2:y2≤255) (c3:y3≤255) (c4:y4≤255) (c5:y5≤255) (c6:y6≤255) (c7:y7≤255) (c8:y8≤255) (c9:y9≤255) (c10:y10≤255) (c11:y11≤255) (c12:y12≤255) (c13:y13≤255) (c14:y14≤255) (c15:y15≤255):aQn 16 x=[UInt8.ofNat y0,UInt8.ofNat y1,UInt8.ofNat y2,UInt8.ofNat y3,UInt8.ofNat y4,UInt8.ofNat y5,UInt8.ofNat y6,UInt8.ofNat y7,UInt8.ofNat y8,UInt8.ofNat y9,UInt8.ofNat y10,UInt8.ofNat y11,UInt8.ofNat y12,UInt8.ofNat y13,UInt8.ofNat y14,UInt8.ofNat y15]:=by
 have e:y15=y15+256*0:=by omega
 rw[h,dA c0,dA c1,dA c2,dA c3,dA c4,dA c5,dA c6,dA c7,dA c8,dA c9,dA c10,dA c11,dA c12,dA c13,dA c14,e,dA c15]
 simp[aQn]
theorem rH (y:Nat):toB (.int .u8 (y:Int))=UInt8.ofNat y:=by simp[toB]
theorem aLz {V key s f R x} (g3:qY R f (V%pM) []=qY R s.length 0 s) (hR:R=gH (aF0 (List.take 16 key))) (hx:x=V%pM+gH (List.drop 16 key)):aQn 16 (x%340282366920938463463374607431768211456)=aV2 key s:=by
 rw[aTj] at g3
 rw[aV2,hx,g3,hR]

set_option maxHeartbeats 4000000 in
theorem aXx (key s rb:List UInt8) (r0 r1 r2 r3 r4:Nat) (hkey:key.length=32) (hrb:aF0 (key.take 16)=rb) (hr:kI (gH rb)=[r0,r1,r2,r3,r4]) (Q:Out→List Blk→Gh→Prop) (hq:Q (.ret (.str (aV2 key s))) [] ⟨0,1,[]⟩):∃hv hb,aD8 hv hb rb r0 r1 r2 r3 r4 key s Q:=by
 obtain ⟨hv,hb',e⟩:∃hv hb,aD8 hv hb rb r0 r1 r2 r3 r4 key s Q=_:=⟨_,_,bL7 rb r0 r1 r2 r3 r4 key s Q⟩
 refine ⟨hv,hb',e.mpr ?_⟩
 delta aBn aNt aAu vG aZg aX8 aSu aSk aIm aDl aKb aO7 bI5 iJ aYo bB8 aIw bAd fD gY aQf aFq nL aT1 aJp aKe bMe
 clear e
 have hk16:(key.take 16).length=16:=by simp[hkey]
 refine ckI (by rw[hkey];rfl) ⟨_,rfl, ?_⟩
 rw[bOv]
 have hkeep:=hrb
 unfold aF0 at hrb
 obtain ⟨l0,hl0⟩:∃l,key.take 16=l:=⟨_,rfl⟩
 rw[hl0] at hrb hk16 ⊢
 have hB0:=aH l0
 refine ckI (by rw[hB0,hk16];rfl) (ckI (by rw[hB0,hk16];rfl) (ldB (j:=3) (by omega) rfl ⟨_,by rw[aZ2 _ 15 15 rfl],ckI (by rw[hB0,hk16];rfl) (ckI (by rw[hB0,hk16];rfl) ⟨by simp[aK], ?_⟩)⟩))
 rw[stB (j:=3) (by omega) rfl]
 rw[show l0.set 3 (l0.getD 3 0 &&& 15)=bN l0 3 15 from rfl]
 have hk16':(bN l0 3 15).length=16:=by rw[eB];exact hk16
 rw[show l0.length=(bN l0 3 15).length from (eB _ _ _).symm]
 clear hk16 hB0
 generalize hl1:bN l0 3 15=l1 at *
 have hk16:=hk16'
 clear hk16'
 have hB1:=aH l1
 refine ckI (by rw[hB1,hk16];rfl) (ckI (by rw[hB1,hk16];rfl) (ldB (j:=7) (by omega) rfl ⟨_,by rw[aZ2 _ 15 15 rfl],ckI (by rw[hB1,hk16];rfl) (ckI (by rw[hB1,hk16];rfl) ⟨by simp[aK], ?_⟩)⟩))
 rw[stB (j:=7) (by omega) rfl]
 rw[show l1.set 7 (l1.getD 7 0 &&& 15)=bN l1 7 15 from rfl]
 have hk16':(bN l1 7 15).length=16:=by rw[eB];exact hk16
 rw[show l1.length=(bN l1 7 15).length from (eB _ _ _).symm]
 clear hk16 hB1
 generalize hl2:bN l1 7 15=l2 at *
 have hk16:=hk16'
 clear hk16'
 have hB2:=aH l2
 refine ckI (by rw[hB2,hk16];rfl) (ckI (by rw[hB2,hk16];rfl) (ldB (j:=11) (by omega) rfl ⟨_,by rw[aZ2 _ 15 15 rfl],ckI (by rw[hB2,hk16];rfl) (ckI (by rw[hB2,hk16];rfl) ⟨by simp[aK], ?_⟩)⟩))
 rw[stB (j:=11) (by omega) rfl]
 rw[show l2.set 11 (l2.getD 11 0 &&& 15)=bN l2 11 15 from rfl]
 have hk16':(bN l2 11 15).length=16:=by rw[eB];exact hk16
 rw[show l2.length=(bN l2 11 15).length from (eB _ _ _).symm]
 clear hk16 hB2
 generalize hl3:bN l2 11 15=l3 at *
 have hk16:=hk16'
 clear hk16'
 have hB3:=aH l3
 refine ckI (by rw[hB3,hk16];rfl) (ckI (by rw[hB3,hk16];rfl) (ldB (j:=15) (by omega) rfl ⟨_,by rw[aZ2 _ 15 15 rfl],ckI (by rw[hB3,hk16];rfl) (ckI (by rw[hB3,hk16];rfl) ⟨by simp[aK], ?_⟩)⟩))
 rw[stB (j:=15) (by omega) rfl]
 rw[show l3.set 15 (l3.getD 15 0 &&& 15)=bN l3 15 15 from rfl]
 have hk16':(bN l3 15 15).length=16:=by rw[eB];exact hk16
 rw[show l3.length=(bN l3 15 15).length from (eB _ _ _).symm]
 clear hk16 hB3
 generalize hl4:bN l3 15 15=l4 at *
 have hk16:=hk16'
 clear hk16'
 have hB4:=aH l4
 refine ckI (by rw[hB4,hk16];rfl) (ckI (by rw[hB4,hk16];rfl) (ldB (j:=4) (by omega) rfl ⟨_,by rw[aZ2 _ 252 252 rfl],ckI (by rw[hB4,hk16];rfl) (ckI (by rw[hB4,hk16];rfl) ⟨by simp[aK], ?_⟩)⟩))
 rw[stB (j:=4) (by omega) rfl]
 rw[show l4.set 4 (l4.getD 4 0 &&& 252)=bN l4 4 252 from rfl]
 have hk16':(bN l4 4 252).length=16:=by rw[eB];exact hk16
 rw[show l4.length=(bN l4 4 252).length from (eB _ _ _).symm]
 clear hk16 hB4
 generalize hl5:bN l4 4 252=l5 at *
 have hk16:=hk16'
 clear hk16'
 have hB5:=aH l5
 refine ckI (by rw[hB5,hk16];rfl) (ckI (by rw[hB5,hk16];rfl) (ldB (j:=8) (by omega) rfl ⟨_,by rw[aZ2 _ 252 252 rfl],ckI (by rw[hB5,hk16];rfl) (ckI (by rw[hB5,hk16];rfl) ⟨by simp[aK], ?_⟩)⟩))
 rw[stB (j:=8) (by omega) rfl]
 rw[show l5.set 8 (l5.getD 8 0 &&& 252)=bN l5 8 252 from rfl]
 have hk16':(bN l5 8 252).length=16:=by rw[eB];exact hk16
 rw[show l5.length=(bN l5 8 252).length from (eB _ _ _).symm]
 clear hk16 hB5
 generalize hl6:bN l5 8 252=l6 at *
 have hk16:=hk16'
 clear hk16'
 have hB6:=aH l6
 refine ckI (by rw[hB6,hk16];rfl) (ckI (by rw[hB6,hk16];rfl) (ldB (j:=12) (by omega) rfl ⟨_,by rw[aZ2 _ 252 252 rfl],ckI (by rw[hB6,hk16];rfl) (ckI (by rw[hB6,hk16];rfl) ⟨by simp[aK], ?_⟩)⟩))
 rw[stB (j:=12) (by omega) rfl]
 rw[show l6.set 12 (l6.getD 12 0 &&& 252)=bN l6 12 252 from rfl]
 have hk16':(bN l6 12 252).length=16:=by rw[eB];exact hk16
 rw[show l6.length=(bN l6 12 252).length from (eB _ _ _).symm]
 clear hk16 hB6
 generalize hl7:bN l6 12 252=l7 at *
 have hk16:=hk16'
 clear hk16'
 subst hrb
 have hR:=aBd l7
 rw[hk16,show (2:Nat)^(8*16)=340282366920938463463374607431768211456 from rfl] at hR
 obtain ⟨hvR,hr0,hr1,hr2,hr3,hr4⟩:=zR (by omega) hr
 refine ckI (by first | (simp only[bN9,bOh,bOg,bOc,aC,bOi,aN,aA,aH,bN8,bOb,bOe,bOa,bOo,bOp,bOf,bOd,bOj,ne_eq];done) | (simp only[bN9,bOh,bOg,bOc,aC,bOi,aN,aA,aH,bN8,bOb,bOe,bOa,bOo,bOp,bOf,bOd,bOj,ne_eq];omega) | rfl | (simp;done) | (simp;omega)) ⟨l7,⟨aQw _ _ _ _ rfl,rfl,by omega,by omega⟩, ?_⟩
 have hv0:iP 0 0 0 0 0%pM=0:=by decide
 intro a b c d e he
 have he2:=he.h.symm.trans hr
 simp only[bP6,bOo] at he2
 obtain ⟨rfl,rfl,rfl,rfl,rfl⟩:=he2
 refine ⟨⟨(s,s.length,0,0,0,0,0),⟨bOt _,bOt _,bPp _,bPp _,bPp _,bPp _,bPp _,by rw[hv0]⟩, ?_⟩, ?_⟩
 ·rw[aK]
  simp
 rintro ⟨q,f,a0,a1,a2,a3,a4⟩ ⟨g1,g2,ha0,ha1,ha2,ha3,ha4,g3⟩
 dsimp only at *
 refine ⟨_,rfl,aD (fun hgt => ?_) (fun hle => ?_)⟩
 ·have him:vH (q.length:Int) 16=((q.take 16).length:Int):=by
   rw[bOu]
   unfold vH
   split<;>omega
  refine ⟨_,rfl,_,rfl, ?_⟩
  rw[him]
  refine ckI (by first | (simp only[bN9,bOh,bOg,bOc,aC,bOi,aN,aA,bOu,bN8,bOb,bOe,bOa,bOo,bOp,bOf,bOd,bOj,ne_eq];done) | (simp only[bN9,bOh,bOg,bOc,aC,bOi,aN,aA,bOu,bN8,bOb,bOe,bOa,bOo,bOp,bOf,bOd,bOj,ne_eq];omega) | rfl | (simp;done) | (simp;omega)) ⟨q.take 16, ?_, ?_⟩
  ·rw[bOv,bOa,bQw,bOu]
   congr 1
   rw[List.take_eq_take_iff]
   omega
  ·have hPl:(q.take 16).length≤16:=by rw[bOu];omega
   have hPe:(q.take 16).length=min 16 q.length:=bOu
   have hap:ofBytes (q.take 16)++[AV.int .u8 1]=ofBytes (q.take 16++[1]):=by simp[ofBytes]
   try dsimp only
   rw[hap]
   have hlB:=aH (q.take 16)
   have hlB2:=aH (q.take 16++[1])
   have hl1:(q.take 16++[1]).length=(q.take 16).length+1:=by simp
   have hN:gH (q.take 16++[1])<1361129467683753853853498429727072845824:=by
    have h1:=aBd (q.take 16++[1])
    have h2:=aBd (q.take 16)
    rw[aGg]
    have h3:(2:Nat)^(8*(q.take 16).length)≤2^128:=bR9 (by omega) (by omega)
    rw[show (2:Nat)^128=340282366920938463463374607431768211456 from rfl] at h3
    rw[show (1:UInt8).toNat=1 from rfl]
    omega
   refine ckI (by rw[hlB];simp;omega) (ckI (by rw[hlB2,hl1];simp) ⟨q.take 16++[1],⟨aQw _ _ _ _ hl1.symm,hl1.symm,by omega,hN⟩, ?_⟩)
   intro p0 p1 p2 p3 p4 hp
   obtain ⟨hvN,hp0,hp1,hp2,hp3,hp4⟩:=zR hN hp.h
   refine fA 67108864 67108863 134217728 (by decide) (by decide) ha0 hp0 (fun x0 ex0 bx0=>⟨by simp[aK], ?_⟩)
   refine fA 67108864 67108863 134217728 (by decide) (by decide) ha1 hp1 (fun x1 ex1 bx1=>⟨by simp[aK], ?_⟩)
   refine fA 67108864 67108863 134217728 (by decide) (by decide) ha2 hp2 (fun x2 ex2 bx2=>⟨by simp[aK], ?_⟩)
   refine fA 67108864 67108863 134217728 (by decide) (by decide) ha3 hp3 (fun x3 ex3 bx3=>⟨by simp[aK], ?_⟩)
   refine fA 67108864 67108863 134217728 (by decide) (by decide) ha4 hp4 (fun x4 ex4 bx4=>⟨by simp[aK], ?_⟩)
   refine bNy (by simp[aK]) bx0 bx1 bx2 bx3 bx4 hr0 hr1 hr2 hr3 hr4 (fun o0 o1 o2 o3 o4 bo0 bo1 bo2 bo3 bo4 hmul => ?_)
   refine aWu (by simp[aK]) bo0 bo1 bo2 bo3 bo4 (fun l0 l1 l2 l3 l4 bl0 bl1 bl2 bl3 bl4 hcar => ?_)
   obtain ⟨c1,hmul⟩:=hmul
   obtain ⟨c2,hcar⟩:=hcar
   refine ⟨by simp[aK],ckI (by first | (simp only[bN9,bOh,bOg,bOc,aC,bOi,aN,aA,bOu,bN8,bOb,bOe,bOa,bOo,bOp,bOf,bOd,bOj,ne_eq];done) | (simp only[bN9,bOh,bOg,bOc,aC,bOi,aN,aA,bOu,bN8,bOb,bOe,bOa,bOo,bOp,bOf,bOd,bOj,ne_eq];omega) | rfl | (simp;done) | (simp;omega)) ⟨q.drop 16, ?_, ?_⟩⟩
   ·rw[bOa,bOu]
    congr 1
    by_cases h16:q.length≤16
    ·rw[bP4 (by omega),bP4 h16,List.take_nil]
    ·rw[bP1 (by omega),bOk (by rw[bO7];omega)]
   ·obtain ⟨f',rfl⟩:∃f',f=f'+1:=⟨f-1,by omega⟩
    have hne:q≠[]:=by intro h;rw[h] at hgt;simp at hgt
    rw[qY,if_neg hne] at g3
    have hxs:iP a0 a1 a2 a3 a4+gH (q.take 16++[1])=iP x0 x1 x2 x3 x4:=by
     rw[hvN,ex0,ex1,ex2,ex3,ex4]
     unfold iP
     omega
    rw[←hvR] at hmul
    rw[aMl hxs hmul hcar] at g3
    refine ⟨?_,(q.drop 16,f',l0,l1,l2,l3,l4),⟨?_, ?_,bl0,bl1,bl2,bl3,bl4,g3⟩, ?_, ?_⟩
    ·first | trivial | exact ⟨rfl,rfl⟩
    ·show (q.drop 16).length≤f'
     rw[bO7];omega
    ·show f'≤s.length
     omega
    ·show f'<f'+1
     omega
    ·simp
 ·have hq0:q=[]:=bO8.1 (by omega)
  subst hq0
  refine aWu rfl (bO6 ha0 (by decide)) (bO6 ha1 (by decide)) (bO6 ha2 (by decide)) (bO6 ha3 (by decide)) (bO6 ha4 (by decide)) (fun l0 l1 l2 l3 l4 bl0 bl1 bl2 bl3 bl4 hcar => ?_)
  obtain ⟨c2,hcar⟩:=hcar
  refine bLh bl0 bl1 bl2 bl3 bl4 (fun m0 m1 m2 m3 m4 cc bm0 bm1 bm2 bm3 bm4 hmore => ?_)
  have hVl:iP a0 a1 a2 a3 a4%pM=iP l0 l1 l2 l3 l4%pM:=by rw[hcar,bRg]
  have hbl:iP l0 l1 l2 l3 l4<2*1361129467683753853853498429727072845819:=by
   unfold iP
   omega
  have hbm:iP m0 m1 m2 m3 m4<1361129467683753853853498429727072845824:=by
   unfold iP
   omega
  have hkl:(key.drop 16).length=16:=by rw[bO7];omega
  have hN:=aBd (key.drop 16)
  rw[hkl,show (2:Nat)^(8*16)=340282366920938463463374607431768211456 from rfl] at hN
  have hlB:=aH (key.drop 16)
  have htk:List.take (key.length-16) (List.drop 16 key)=List.drop 16 key:=bOk (by rw[bO7];omega)
  refine aD (fun hcc => ?_) (fun hcc => ?_)
  ·refine ckI (by first | (simp only[bN9,bOh,bOg,bOc,aC,bOi,aN,aA,bN8,bOb,bOe,bOa,bOo,bOp,bOf,bOd,bOj,ne_eq];done) | (simp only[bN9,bOh,bOg,bOc,aC,bOi,aN,aA,bN8,bOb,bOe,bOa,bOo,bOp,bOf,bOd,bOj,ne_eq];omega) | rfl | (simp;done) | (simp;omega)) ⟨key.drop 16,by rw[htk], ?_⟩
   refine ckI (by rw[hlB];simp) ⟨key.drop 16,⟨aQw _ _ _ _ rfl,rfl,by omega,by omega⟩, ?_⟩
   intro k0 k1 k2 k3 k4 hk
   obtain ⟨hvK,hk0,hk1,hk2,hk3,hk4⟩:=zR (by omega) hk.h
   refine fA 67108863 67108863 134217728 (by decide) (by decide) bm0 hk0 (fun t0 et0 bt0=>⟨by simp[aK], ?_⟩)
   refine fA 67108863 67108863 134217728 (by decide) (by decide) bm1 hk1 (fun t1 et1 bt1=>⟨by simp[aK], ?_⟩)
   refine fA 67108863 67108863 134217728 (by decide) (by decide) bm2 hk2 (fun t2 et2 bt2=>⟨by simp[aK], ?_⟩)
   refine fA 67108863 67108863 134217728 (by decide) (by decide) bm3 hk3 (fun t3 et3 bt3=>⟨by simp[aK], ?_⟩)
   refine fA 67108863 67108863 134217728 (by decide) (by decide) bm4 hk4 (fun t4 et4 bt4=>⟨by simp[aK], ?_⟩)
   refine bNb bt0 bt1 bt2 bt3 bt4 (fun y0 y1 y2 y3 y4 y5 y6 y7 y8 y9 y10 y11 y12 y13 y14 y15 c0 c1 c2 c3 c4 c5 c6 c7 c8 c9 c10 c11 c12 c13 c14 c15 hout => ?_)
   have hV:iP a0 a1 a2 a3 a4%pM=iP m0 m1 m2 m3 m4:=by
    rw[hVl,Nat.mod_eq_sub_mod (by unfold pM;omega),bPw (by unfold pM;omega)]
    unfold pM
    omega
   have hT:iP t0 t1 t2 t3 t4=iP a0 a1 a2 a3 a4%pM+gH (key.drop 16):=by
    rw[hV,hvK,et0,et1,et2,et3,et4]
    unfold iP
    omega
   have hE:=aLz g3 (congrArg gH hkeep.symm) hT
   rw[aWv hout c0 c1 c2 c3 c4 c5 c6 c7 c8 c9 c10 c11 c12 c13 c14 c15] at hE
   refine ⟨_,rfl, ?_⟩
   simp only[rH]
   rw[hE]
   exact hq
  ·refine ckI (by first | (simp only[bN9,bOh,bOg,bOc,aC,bOi,aN,aA,bN8,bOb,bOe,bOa,bOo,bOp,bOf,bOd,bOj,ne_eq];done) | (simp only[bN9,bOh,bOg,bOc,aC,bOi,aN,aA,bN8,bOb,bOe,bOa,bOo,bOp,bOf,bOd,bOj,ne_eq];omega) | rfl | (simp;done) | (simp;omega)) ⟨key.drop 16,by rw[htk], ?_⟩
   refine ckI (by rw[hlB];simp) ⟨key.drop 16,⟨aQw _ _ _ _ rfl,rfl,by omega,by omega⟩, ?_⟩
   intro k0 k1 k2 k3 k4 hk
   obtain ⟨hvK,hk0,hk1,hk2,hk3,hk4⟩:=zR (by omega) hk.h
   refine fA 67108864 67108863 134217728 (by decide) (by decide) bl0 hk0 (fun t0 et0 bt0=>⟨by simp[aK], ?_⟩)
   refine fA 67108864 67108863 134217728 (by decide) (by decide) bl1 hk1 (fun t1 et1 bt1=>⟨by simp[aK], ?_⟩)
   refine fA 67108864 67108863 134217728 (by decide) (by decide) bl2 hk2 (fun t2 et2 bt2=>⟨by simp[aK], ?_⟩)
   refine fA 67108864 67108863 134217728 (by decide) (by decide) bl3 hk3 (fun t3 et3 bt3=>⟨by simp[aK], ?_⟩)
   refine fA 67108864 67108863 134217728 (by decide) (by decide) bl4 hk4 (fun t4 et4 bt4=>⟨by simp[aK], ?_⟩)
   refine bNb bt0 bt1 bt2 bt3 bt4 (fun y0 y1 y2 y3 y4 y5 y6 y7 y8 y9 y10 y11 y12 y13 y14 y15 c0 c1 c2 c3 c4 c5 c6 c7 c8 c9 c10 c11 c12 c13 c14 c15 hout => ?_)
   have hV:iP a0 a1 a2 a3 a4%pM=iP l0 l1 l2 l3 l4:=by
    rw[hVl]
    exact bPw (by unfold pM;omega)
   have hT:iP t0 t1 t2 t3 t4=iP a0 a1 a2 a3 a4%pM+gH (key.drop 16):=by
    rw[hV,hvK,et0,et1,et2,et3,et4]
    unfold iP
    omega
   have hE:=aLz g3 (congrArg gH hkeep.symm) hT
   rw[aWv hout c0 c1 c2 c3 c4 c5 c6 c7 c8 c9 c10 c11 c12 c13 c14 c15] at hE
   refine ⟨_,rfl, ?_⟩
   simp only[rH]
   rw[hE]
   exact hq
end Go.Proofs.YtnhechnaemmdiaaGreatDoor
