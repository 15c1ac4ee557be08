/-
  Chapter 3: first; the run of Apply.
-/
import Derived.Test.YtnhechnaemmdiaaGreatDoorKnH
set_option linter.unusedSimpArgs false
set_option linter.unusedVariables false
namespace Go.Proofs.YtnhechnaemmdiaaGreatDoor
open Go.RowKit
set_option maxRecDepth 1000000

noncomputable def aIt(hv:LI)(hb:LB)(key nonce:LA)(Q:BS):Prop:=
 aT (e04 sm0 (λ_=>none) hv hb) (wpx (e04 sm0 (λ_=>none) hv hb) 1000) 163 [.str key,.str nonce] [] {} Q
abbrev aFp(s_2:LA):Bool:=Nat.ble s_2.length s_2.length
abbrev aD5(s_3:LA):Bool:=Nat.blt 0 s_3.length
abbrev aGa(s_3:LA):Int:=(UInt8.toNat (s_3.getD 0 (UInt8.ofNat 0)):Int)
abbrev aDw(s_3:LA):Bool:=Nat.blt 1 s_3.length
abbrev aDf(s_3:LA):Int:=(UInt8.toNat (s_3.getD 1 (UInt8.ofNat 0)):Int)
abbrev iB(n_5 n_8:Int):Int:=(((n_5%4294967296).toNat ||| (n_8%4294967296).toNat:Nat):Int)
abbrev aDn(s_3:LA):Bool:=Nat.blt 2 s_3.length
abbrev aEe(s_3:LA):Int:=(UInt8.toNat (s_3.getD 2 (UInt8.ofNat 0)):Int)
abbrev aDx(s_3:LA):Bool:=Nat.blt 3 s_3.length
abbrev aF1(s_3:LA):Int:=(UInt8.toNat (s_3.getD 3 (UInt8.ofNat 0)):Int)
theorem bTo(key:LA)(nonce:LA)(Q:BS):aIt (aW [(667657,.str),(667658,.str),(667660,.str),(667668,.str),(851972,.int .u8),(851973,.int .u32),(851975,.int .u8),(851976,
 .int .u32),(851977,.int .u32),(851978,.int .u32),(851980,.int .u8),(851981,.int .u32),(851982,.int .u32),(851983,.int .u32),(851985,.int .u8),(851986,.int .u32),(851987,.int .u32),(851988,.int .u32)]) (aV []) key
 nonce Q=(ckQ (decide (16+key.length<=9223372036854775807)&&true) (exS (.str ([UInt8.ofNat 101,UInt8.ofNat 120,UInt8.ofNat 112,UInt8.ofNat 97,UInt8.ofNat 110,UInt8.ofNat 100,UInt8.ofNat 32,UInt8.ofNat 51,UInt8.ofNat 50,
 UInt8.ofNat 45,UInt8.ofNat 98,UInt8.ofNat 121,UInt8.ofNat 116,UInt8.ofNat 101,UInt8.ofNat 32,UInt8.ofNat 107]++key)) (λs_0=>ckQ (decide (s_0.length+4<=9223372036854775807)&&true) (exS (.str (s_0++[UInt8.ofNat 0,
 UInt8.ofNat 0,UInt8.ofNat 0,UInt8.ofNat 0])) (λs_1=>ckQ (decide (s_1.length+nonce.length<=9223372036854775807)&&true) (exS (.str (s_1++nonce)) (λs_2=>ckQ (aFp s_2) (exS (.str ((s_2.drop 0).take (s_2.length-0))) (fun
 s_3=>ckQ (aD5 s_3) (exI .u8 (aGa s_3) (λn_4=>exW .u32 n_4 (λn_5=>ckQ (aDw s_3) (exI .u8 (aDf s_3) (λn_6=>exW .u32 n_6 (λn_7=>exW .u32 (n_7*256) (λn_8=>exW .u32 (iB n_5 n_8) (λn_9=>ckQ (aDn s_3) (exI
 .u8 (aEe s_3) (λn_10=>exW .u32 n_10 (λn_11=>exW .u32 (n_11*65536) (λn_12=>exW .u32 (iB n_9 n_12) (λn_13=>ckQ (aDx s_3) (exI .u8 (aF1 s_3) (λn_14=>exW .u32 n_14 (λn_15=>exW .u32 (n_15*16777216) (fun
 n_16=>exW .u32 (iB n_13 n_16) (λn_17=>ckQ (Nat.ble 4 s_2.length&&aFp s_2) (exS (.str ((s_2.drop 4).take (s_2.length-4))) (λs_18=>ckQ (aD5 s_18) (exI .u8 (aGa s_18) (λn_19=>exW .u32 n_19 (λn_20=>ckQ (aDw
 s_18) (exI .u8 (aDf s_18) (λn_21=>exW .u32 n_21 (λn_22=>exW .u32 (n_22*256) (λn_23=>exW .u32 (iB n_20 n_23) (λn_24=>ckQ (aDn s_18) (exI .u8 (aEe s_18) (λn_25=>exW .u32 n_25 (λn_26=>exW .u32 (n_26 *
 65536) (λn_27=>exW .u32 (iB n_24 n_27) (λn_28=>ckQ (aDx s_18) (exI .u8 (aF1 s_18) (λn_29=>exW .u32 n_29 (λn_30=>exW .u32 (n_30*16777216) (λn_31=>exW .u32 (iB n_28 n_31) (λn_32=>ckQ (Nat.ble 8
 s_2.length&&aFp s_2) (exS (.str ((s_2.drop 8).take (s_2.length-8))) (λs_33=>ckQ (aD5 s_33) (exI .u8 (aGa s_33) (λn_34=>exW .u32 n_34 (λn_35=>ckQ (aDw s_33) (exI .u8 (aDf s_33) (λn_36=>exW .u32 n_36 (λn_37=>
 exW .u32 (n_37*256) (λn_38=>exW .u32 (iB n_35 n_38) (λn_39=>ckQ (aDn s_33) (exI .u8 (aEe s_33) (λn_40=>exW .u32 n_40 (λn_41=>exW .u32 (n_41*65536) (λn_42=>exW .u32 (iB n_39 n_42) (λn_43=>ckQ (aDx
 s_33) (exI .u8 (aF1 s_33) (λn_44=>exW .u32 n_44 (λn_45=>exW .u32 (n_45*16777216) (λn_46=>exW .u32 (iB n_43 n_46) (λn_47=>ckQ (Nat.ble 12 s_2.length&&aFp s_2) (exS (.str ((s_2.drop 12).take (s_2.length-12)))
 (λs_48=>ckQ (aD5 s_48) (exI .u8 (aGa s_48) (λn_49=>exW .u32 n_49 (λn_50=>ckQ (aDw s_48) (exI .u8 (aDf s_48) (λn_51=>exW .u32 n_51 (λn_52=>exW .u32 (n_52*256) (λn_53=>exW .u32 (iB n_50 n_53) (λn_54
 => ckQ (aDn s_48) (exI .u8 (aEe s_48) (λn_55=>exW .u32 n_55 (λn_56=>exW .u32 (n_56*65536) (λn_57=>exW .u32 (iB n_54 n_57) (λn_58=>ckQ (aDx s_48) (exI .u8 (aF1 s_48) (λn_59=>exW .u32 n_59 (λn_60=>exW
 .u32 (n_60*16777216) (λn_61=>exW .u32 (iB n_58 n_61) (λn_62=>ckQ (Nat.ble 16 s_2.length&&aFp s_2) (exS (.str ((s_2.drop 16).take (s_2.length-16))) (λs_63=>ckQ (aD5 s_63) (exI .u8 (aGa s_63) (λn_64=>exW .u32
 n_64 (λn_65=>ckQ (aDw s_63) (exI .u8 (aDf s_63) (λn_66=>exW .u32 n_66 (λn_67=>exW .u32 (n_67*256) (λn_68=>exW .u32 (iB n_65 n_68) (λn_69=>ckQ (aDn s_63) (exI .u8 (aEe s_63) (λn_70=>exW .u32 n_70 (fun
 n_71=>exW .u32 (n_71*65536) (λn_72=>exW .u32 (iB n_69 n_72) (λn_73=>ckQ (aDx s_63) (exI .u8 (aF1 s_63) (λn_74=>exW .u32 n_74 (λn_75=>exW .u32 (n_75*16777216) (λn_76=>exW .u32 (iB n_73 n_76) (λn_77=>
 ckQ (Nat.ble 20 s_2.length&&aFp s_2) (exS (.str ((s_2.drop 20).take (s_2.length-20))) (λs_78=>ckQ (aD5 s_78) (exI .u8 (aGa s_78) (λn_79=>exW .u32 n_79 (λn_80=>ckQ (aDw s_78) (exI .u8 (aDf s_78) (λn_81=>exW .u32
 n_81 (λn_82=>exW .u32 (n_82*256) (λn_83=>exW .u32 (iB n_80 n_83) (λn_84=>ckQ (aDn s_78) (exI .u8 (aEe s_78) (λn_85=>exW .u32 n_85 (λn_86=>exW .u32 (n_86*65536) (λn_87=>exW .u32 (iB n_84 n_87) (fun
 n_88=>ckQ (aDx s_78) (exI .u8 (aF1 s_78) (λn_89=>exW .u32 n_89 (λn_90=>exW .u32 (n_90*16777216) (λn_91=>exW .u32 (iB n_88 n_91) (λn_92=>ckQ (Nat.ble 24 s_2.length&&aFp s_2) (exS (.str ((s_2.drop 24).take
 (s_2.length-24))) (λs_93=>ckQ (aD5 s_93) (exI .u8 (aGa s_93) (λn_94=>exW .u32 n_94 (λn_95=>ckQ (aDw s_93) (exI .u8 (aDf s_93) (λn_96=>exW .u32 n_96 (λn_97=>exW .u32 (n_97*256) (λn_98=>exW .u32 (iB
 n_95 n_98) (λn_99=>ckQ (aDn s_93) (exI .u8 (aEe s_93) (λn_100=>exW .u32 n_100 (λn_101=>exW .u32 (n_101*65536) (λn_102=>exW .u32 (iB n_99 n_102) (λn_103=>ckQ (aDx s_93) (exI .u8 (aF1 s_93) (λn_104=>exW
 .u32 n_104 (λn_105=>exW .u32 (n_105*16777216) (λn_106=>exW .u32 (iB n_103 n_106) (λn_107=>ckQ (Nat.ble 28 s_2.length&&aFp s_2) (exS (.str ((s_2.drop 28).take (s_2.length-28))) (λs_108=>ckQ (aD5 s_108) (exI .u8
 (aGa s_108) (λn_109=>exW .u32 n_109 (λn_110=>ckQ (aDw s_108) (exI .u8 (aDf s_108) (λn_111=>exW .u32 n_111 (λn_112=>exW .u32 (n_112*256) (λn_113=>exW .u32 (iB n_110 n_113) (λn_114=>ckQ (aDn s_108) (exI
 .u8 (aEe s_108) (λn_115=>exW .u32 n_115 (λn_116=>exW .u32 (n_116*65536) (λn_117=>exW .u32 (iB n_114 n_117) (λn_118=>ckQ (aDx s_108) (exI .u8 (aF1 s_108) (λn_119=>exW .u32 n_119 (λn_120=>exW .u32 (n_120
 * 16777216) (λn_121=>exW .u32 (iB n_118 n_121) (λn_122=>ckQ (Nat.ble 32 s_2.length&&aFp s_2) (exS (.str ((s_2.drop 32).take (s_2.length-32))) (λs_123=>ckQ (aD5 s_123) (exI .u8 (aGa s_123) (λn_124=>exW .u32
 n_124 (λn_125=>ckQ (aDw s_123) (exI .u8 (aDf s_123) (λn_126=>exW .u32 n_126 (λn_127=>exW .u32 (n_127*256) (λn_128=>exW .u32 (iB n_125 n_128) (λn_129=>ckQ (aDn s_123) (exI .u8 (aEe s_123) (λn_130=>exW
 .u32 n_130 (λn_131=>exW .u32 (n_131*65536) (λn_132=>exW .u32 (iB n_129 n_132) (λn_133=>ckQ (aDx s_123) (exI .u8 (aF1 s_123) (λn_134=>exW .u32 n_134 (λn_135=>exW .u32 (n_135*16777216) (λn_136=>exW .u32
 (iB n_133 n_136) (λn_137=>ckQ (Nat.ble 36 s_2.length&&aFp s_2) (exS (.str ((s_2.drop 36).take (s_2.length-36))) (λs_138=>ckQ (aD5 s_138) (exI .u8 (aGa s_138) (λn_139=>exW .u32 n_139 (λn_140=>ckQ (aDw s_138)
 (exI .u8 (aDf s_138) (λn_141=>exW .u32 n_141 (λn_142=>exW .u32 (n_142*256) (λn_143=>exW .u32 (iB n_140 n_143) (λn_144=>ckQ (aDn s_138) (exI .u8 (aEe s_138) (λn_145=>exW .u32 n_145 (λn_146=>exW .u32
 (n_146*65536) (λn_147=>exW .u32 (iB n_144 n_147) (λn_148=>ckQ (aDx s_138) (exI .u8 (aF1 s_138) (λn_149=>exW .u32 n_149 (λn_150=>exW .u32 (n_150*16777216) (λn_151=>exW .u32 (iB n_148 n_151) (λn_152=>
 ckQ (Nat.ble 40 s_2.length&&aFp s_2) (exS (.str ((s_2.drop 40).take (s_2.length-40))) (λs_153=>ckQ (aD5 s_153) (exI .u8 (aGa s_153) (λn_154=>exW .u32 n_154 (λn_155=>ckQ (aDw s_153) (exI .u8 (aDf s_153) (λn_156=>
 exW .u32 n_156 (λn_157=>exW .u32 (n_157*256) (λn_158=>exW .u32 (iB n_155 n_158) (λn_159=>ckQ (aDn s_153) (exI .u8 (aEe s_153) (λn_160=>exW .u32 n_160 (λn_161=>exW .u32 (n_161*65536) (λn_162=>exW .u32
 (iB n_159 n_162) (λn_163=>ckQ (aDx s_153) (exI .u8 (aF1 s_153) (λn_164=>exW .u32 n_164 (λn_165=>exW .u32 (n_165*16777216) (λn_166=>exW .u32 (iB n_163 n_166) (λn_167=>ckQ (Nat.ble 44 s_2.length&&aFp s_2)
 (exS (.str ((s_2.drop 44).take (s_2.length-44))) (λs_168=>ckQ (aD5 s_168) (exI .u8 (aGa s_168) (λn_169=>exW .u32 n_169 (λn_170=>ckQ (aDw s_168) (exI .u8 (aDf s_168) (λn_171=>exW .u32 n_171 (λn_172=>exW .u32
 (n_172*256) (λn_173=>exW .u32 (iB n_170 n_173) (λn_174=>ckQ (aDn s_168) (exI .u8 (aEe s_168) (λn_175=>exW .u32 n_175 (λn_176=>exW .u32 (n_176*65536) (λn_177=>exW .u32 (iB n_174 n_177) (λn_178=>ckQ
 (aDx s_168) (exI .u8 (aF1 s_168) (λn_179=>exW .u32 n_179 (λn_180=>exW .u32 (n_180*16777216) (λn_181=>exW .u32 (iB n_178 n_181) (λn_182=>ckQ (Nat.ble 48 s_2.length&&aFp s_2) (exS (.str ((s_2.drop 48).take
 (s_2.length-48))) (λs_183=>ckQ (aD5 s_183) (exI .u8 (aGa s_183) (λn_184=>exW .u32 n_184 (λn_185=>ckQ (aDw s_183) (exI .u8 (aDf s_183) (λn_186=>exW .u32 n_186 (λn_187=>exW .u32 (n_187*256) (λn_188=>exW
 .u32 (iB n_185 n_188) (λn_189=>ckQ (aDn s_183) (exI .u8 (aEe s_183) (λn_190=>exW .u32 n_190 (λn_191=>exW .u32 (n_191*65536) (λn_192=>exW .u32 (iB n_189 n_192) (λn_193=>ckQ (aDx s_183) (exI .u8 (aF1 s_183)
 (λn_194=>exW .u32 n_194 (λn_195=>exW .u32 (n_195*16777216) (λn_196=>exW .u32 (iB n_193 n_196) (λn_197=>ckQ (Nat.ble 52 s_2.length&&aFp s_2) (exS (.str ((s_2.drop 52).take (s_2.length-52))) (λs_198=>ckQ
 (aD5 s_198) (exI .u8 (aGa s_198) (λn_199=>exW .u32 n_199 (λn_200=>ckQ (aDw s_198) (exI .u8 (aDf s_198) (λn_201=>exW .u32 n_201 (λn_202=>exW .u32 (n_202*256) (λn_203=>exW .u32 (iB n_200 n_203) (λn_204=>
 ckQ (aDn s_198) (exI .u8 (aEe s_198) (λn_205=>exW .u32 n_205 (λn_206=>exW .u32 (n_206*65536) (λn_207=>exW .u32 (iB n_204 n_207) (λn_208=>ckQ (aDx s_198) (exI .u8 (aF1 s_198) (λn_209=>exW .u32 n_209 (fun
 n_210=>exW .u32 (n_210*16777216) (λn_211=>exW .u32 (iB n_208 n_211) (λn_212=>ckQ (Nat.ble 56 s_2.length&&aFp s_2) (exS (.str ((s_2.drop 56).take (s_2.length-56))) (λs_213=>ckQ (aD5 s_213) (exI .u8 (aGa s_213)
 (λn_214=>exW .u32 n_214 (λn_215=>ckQ (aDw s_213) (exI .u8 (aDf s_213) (λn_216=>exW .u32 n_216 (λn_217=>exW .u32 (n_217*256) (λn_218=>exW .u32 (iB n_215 n_218) (λn_219=>ckQ (aDn s_213) (exI .u8 (aEe
 s_213) (λn_220=>exW .u32 n_220 (λn_221=>exW .u32 (n_221*65536) (λn_222=>exW .u32 (iB n_219 n_222) (λn_223=>ckQ (aDx s_213) (exI .u8 (aF1 s_213) (λn_224=>exW .u32 n_224 (λn_225=>exW .u32 (n_225 *
 16777216) (λn_226=>exW .u32 (iB n_223 n_226) (λn_227=>ckQ (Nat.ble 60 s_2.length&&aFp s_2) (exS (.str ((s_2.drop 60).take (s_2.length-60))) (λs_228=>ckQ (aD5 s_228) (exI .u8 (aGa s_228) (λn_229=>exW .u32 n_229
 (λn_230=>ckQ (aDw s_228) (exI .u8 (aDf s_228) (λn_231=>exW .u32 n_231 (λn_232=>exW .u32 (n_232*256) (λn_233=>exW .u32 (iB n_230 n_233) (λn_234=>ckQ (aDn s_228) (exI .u8 (aEe s_228) (λn_235=>exW .u32
 n_235 (λn_236=>exW .u32 (n_236*65536) (λn_237=>exW .u32 (iB n_234 n_237) (λn_238=>ckQ (aDx s_228) (exI .u8 (aF1 s_228) (λn_239=>exW .u32 n_239 (λn_240=>exW .u32 (n_240*16777216) (λn_241=>exW .u32 (iB
 n_238 n_241) (λn_242=>Q (.ret (.agg [.int .u32 n_17,.int .u32 n_32,.int .u32 n_47,.int .u32 n_62,.int .u32 n_77,.int .u32 n_92,.int .u32 n_107,.int .u32 n_122,.int .u32 n_137,.int .u32 n_152,.int .u32 n_167,.int .u32 n_182,
 .int .u32 n_197,.int .u32 n_212,.int .u32 n_227,.int .u32 n_242])) []
 {})))))))))))))))))))))))))))))))))))))))))))))))))))))))))))))))))))))))))))))))))))))))))))))))))))))))))))))))))))))))))))))))))))))))))))))))))))))))))))))))))))))))))))))))))))))))))))))))))))))))))))))))))))))))))))))))))))))))))))))))))))))))))))))))))))))))))))))))))))))))))))))))))))))))))))))))))))))))))))))))))))))))
 := by kernel_rfl

theorem aR5(key nonce:LA)(Q:BS)(h1:key.length=32)(h2:nonce.length=12)(hq:Q (.ret (.agg (fD key nonce).cells)) [] {}):∃hv hb,aIt hv hb key nonce Q:=by
 obtain⟨hv,hb',e⟩:∃hv hb,aIt hv hb key nonce Q=_:=⟨_,_,bTo key nonce Q⟩
 refine⟨hv,hb',e.mpr ?_⟩
 delta aFp aD5 aGa aDw aDf iB aDn aEe aDx aF1
 clear e
 have hl:(aIy key nonce).length=64:=by simp[aIy,aHm,h1,h2]
 obtain⟨s,hs⟩:∃s,aIy key nonce=s:=⟨_,rfl⟩
 have hf:fD key nonce=⟨eY s 0,eY s 4,eY s 8,eY s 12,eY s 16,eY s 20,eY s 24,eY s 28,eY s 32,eY s 36,eY s 40,eY s 44,eY s 48,eY s 52,eY s 56,eY s 60⟩:=by rw[fD,hs]
 refine ckI (by simp[h1]) ⟨_,rfl,ckI (by simp[h1]) ⟨_,rfl,ckI (by simp[h1,h2]) ⟨s,by rw[←hs];rfl, ?_⟩⟩⟩
 rw[hs]at hl
 rw[hf]at hq
 refine mU (m:=0) (by first | rfl | (simp[aD]<;>omega)) (by omega) ?_
 refine mU (m:=4) (by first | rfl | (simp[aD]<;>omega)) (by omega) ?_
 refine mU (m:=8) (by first | rfl | (simp[aD]<;>omega)) (by omega) ?_
 refine mU (m:=12) (by first | rfl | (simp[aD]<;>omega)) (by omega) ?_
 refine mU (m:=16) (by first | rfl | (simp[aD]<;>omega)) (by omega) ?_
 refine mU (m:=20) (by first | rfl | (simp[aD]<;>omega)) (by omega) ?_
 refine mU (m:=24) (by first | rfl | (simp[aD]<;>omega)) (by omega) ?_
 refine mU (m:=28) (by first | rfl | (simp[aD]<;>omega)) (by omega) ?_
 refine mU (m:=32) (by first | rfl | (simp[aD]<;>omega)) (by omega) ?_
 refine mU (m:=36) (by first | rfl | (simp[aD]<;>omega)) (by omega) ?_
 refine mU (m:=40) (by first | rfl | (simp[aD]<;>omega)) (by omega) ?_
 refine mU (m:=44) (by first | rfl | (simp[aD]<;>omega)) (by omega) ?_
 refine mU (m:=48) (by first | rfl | (simp[aD]<;>omega)) (by omega) ?_
 refine mU (m:=52) (by first | rfl | (simp[aD]<;>omega)) (by omega) ?_
 refine mU (m:=56) (by first | rfl | (simp[aD]<;>omega)) (by omega) ?_
 refine mU (m:=60) (by first | rfl | (simp[aD]<;>omega)) (by omega) ?_
 exact hq
def aQt:Con
 | [.str key,.str nonce],H,K=>Lf (key.length=32∧nonce.length=12)∧∀w,Lf (w=fD key nonce)->K (.ret (.agg w.cells)) H
 | _,_,_=>False
theorem aX0:aI Tryz.prog gl0 163 aQt:=by
 refine aQ (enters_of (by kernel_rfl)) aO λargs H Q hc => ?_
 unfold aQt at hc
 split at hc
 ·rename_i key nonce
  obtain⟨⟨h1,h2⟩,hq⟩:=hc
  obtain⟨hv,hb',h⟩:=aR5 key nonce (Q:=λo H' _=>H'=[]∧(∃v,o=.ret v∧old 0 v=true∧noY v=true)∧Q o H) h1 h2 ⟨rfl,⟨_,rfl,rfl,rfl⟩,hq _ ⟨rfl⟩⟩
  exact⟨rfl,rfl,_,1000,aS bY _ _ _,rfl,h⟩
 ·exact hc.elim
def smD:SM:=gG [(163,aQt),(210,bRy)]
theorem bNe:∀f g,smD f=some g->aI Tryz.prog gl0 f g:=bO _ (by simp only[bXd,bXn,bY0,bYd,bY4];exact⟨aX0,bBk⟩)
def x8M(a:UInt8)(n:Nat):UInt8:=a ^^^ UInt8.ofNat n
def fJ(s:LA)(l:List Nat):LA:=List.zipWith x8M s l
def tO(w:W16)(c:Int):Nat->LA->LA
 | 0,_=>[]
 | f+1,s=>if s.length<=64 then fJ s (aWf w c)else fJ (s.take 64) (aWf w c)++tO w (c+1) f (s.drop 64)
abbrev X68:=Nat×LA×LA
def bQe(w:W16)(c:Int)(s:LA):LInv where
 α:=X68
 pre a:=Lf (a.2.1.length=64*a.1∧a.2.1.length+a.2.2.length=s.length∧(a.1=0∨0<a.2.2.length)∧a.1<=70∧tO w c 70 s=a.2.1++tO w (c+a.1) (70-a.1) a.2.2)
 st a:=⟨mkT [(0,.yld 0),(1,.ptr 3 16 0),(2,.ptr 4 1 0)],[⟨.grow,true,ofBytes (a.2.1++a.2.2)⟩,⟨.exact,false,[.sl 0 s.length 0 s.length 1]⟩,⟨.exact,true,[.int .i64 ((64*a.1:Nat):Int)]⟩,⟨.exact,true,w.cells⟩,⟨.exact,true,[.int .i64 (c+(a.1:Nat))]⟩]⟩
 mu a:=71-a.1
abbrev X21:=Nat×LA×LA×List Nat×Nat
def bJk(w:W16)(s:LA)(ce:Int)(O bc:HB)(at0:Int):LInv where
 α:=X21
 pre a:=Lf (a.2.1.length=64*a.1∧O=ofBytes (a.2.1++a.2.2.1)∧at0=((64*a.1:Nat):Int)∧bc=aX a.2.2.2.1∧a.2.2.2.1.length=64∧a.2.2.2.2<=64∧a.2.2.2.2<=a.2.2.1.length∧a.2.1.length+a.2.2.1.length=s.length)
 st a:=⟨mkT [(10,.ptr 1 1 0),(11,.ptr 2 1 0),(12,.ptr 5 64 0),(13,.int .i64 (a.2.2.2.2:Nat))],[⟨.grow,true,ofBytes (a.2.1++(fJ (a.2.2.1.take a.2.2.2.2) a.2.2.2.1++a.2.2.1.drop a.2.2.2.2))⟩,⟨.exact,false,[.sl 0 s.length 0 s.length 1]⟩,⟨.exact,true,[.int .i64 ((64*a.1+a.2.2.2.2:Nat):Int)]⟩,⟨.exact,true,w.cells⟩,⟨.exact,true,[.int .i64 ce]⟩,⟨.exact,true,bc⟩]⟩
 mu a:=64-a.2.2.2.2
def bEl(w:W16)(s:LA)(S:S):List (List LInv):=match S.hp with
 | [b0,_,b2,_,b4,b5]=>(match b2.cs,b4.cs with
  | [.int _ at0],[.int _ ce]=>[[bJk w s ce b0.cs b5.cs at0]]
  | _,_=>[])
 | _=>[]
noncomputable def bCk(hv:LI)(hb:LB)(w:W16)(c:Int)(s:LA):Env:=
 e04 smD (λi=>bif Nat.beq i 209000 then some (λ_=>[[bQe w c s]])else bif Nat.beq i 117003 then some (bEl w s)else none) hv hb
noncomputable def aH0(hv:LI)(hb:LB)(w0:W16)(key nonce:LA)(c:Int)(s:LA)(Q:BS):Prop:=
 aT (bCk hv hb w0 c s) (wpx (bCk hv hb w0 c s) 1000) 117 [.str key,.str nonce,.int .i64 c,.str s] [] {} Q
abbrev bRx(x_8:Nat×LA×LA)(s:LA)(w0:W16)(c:Int):Prop:=Lf (x_8.2.1.length=64*x_8.1∧x_8.2.1.length+x_8.2.2.length=s.length∧(x_8.1=0∨0<x_8.2.2.length)∧x_8.1<=70∧tO w0 c 70 s=x_8.2.1++tO w0 (c+(x_8.1:Int)) (70-x_8.1) x_8.2.2)
abbrev aTz(s:LA):Prop:=aK [AV.sl 0 s.length 0 s.length 1]
abbrev bT3(w0:W16):HB:=[.int .u32 (w0.1:Int),.int .u32 (w0.2:Int),.int .u32 (w0.3:Int),.int .u32 (w0.4:Int),.int .u32 (w0.5:Int),.int .u32 (w0.6:Int),.int .u32 (w0.7:Int),.int .u32 (w0.8:Int),.int .u32 (w0.9:Int),.int .u32 (w0.10:Int),.int .u32 (w0.11:Int),.int .u32 (w0.12:Int),.int .u32 (w0.13:Int),.int .u32 (w0.14:Int),.int .u32 (w0.15:Int),.int .u32 (w0.16:Int)]
abbrev bFc(w_7:W16):HB:=bT3 w_7
abbrev bJu:Prop:=aK (AV.yld 0)∧aK (AV.ptr 3 16 0)∧aK (AV.ptr 4 1 0)∧True
abbrev bQz:HB:=[.int .u8 0,.int .u8 0,.int .u8 0,.int .u8 0,.int .u8 0,.int .u8 0,.int .u8 0,.int .u8 0,.int .u8 0,.int .u8 0,.int .u8 0,.int .u8 0,.int .u8 0,.int .u8 0,.int .u8 0,.int .u8 0,.int .u8 0,.int .u8 0,.int .u8 0,.int .u8 0,.int .u8 0,.int .u8 0,.int .u8 0,.int .u8 0,.int .u8 0,.int .u8 0,.int .u8 0,.int .u8 0,.int .u8 0,.int .u8 0,.int .u8 0,.int .u8 0,.int .u8 0,.int .u8 0,.int .u8 0,.int .u8 0,.int .u8 0,.int .u8 0,.int .u8 0,.int .u8 0,.int .u8 0,.int .u8 0,.int .u8 0,.int .u8 0,.int .u8 0,.int .u8 0,.int .u8 0,.int .u8 0,.int .u8 0,.int .u8 0,.int .u8 0,.int .u8 0,.int .u8 0,.int .u8 0,.int .u8 0,.int .u8 0,.int .u8 0,.int .u8 0,.int .u8 0,.int .u8 0,.int .u8 0,.int .u8 0,.int .u8 0,.int .u8 0]
abbrev aJs(l_11:List Nat):HB:=aN bQz 0 (aX l_11)
abbrev bRm(x_12:Nat×LA×LA×List Nat×Nat)(x_8:Nat×LA×LA)(l_11:List Nat)(s:LA):Prop:=Lf (x_12.2.1.length=64*x_12.1∧ofBytes (x_8.2.1++x_8.2.2)=ofBytes (x_12.2.1++x_12.2.2.1)∧((64*x_8.1:Nat):Int)=((64*x_12.1:Nat):Int)∧aJs l_11=aX x_12.2.2.2.1∧x_12.2.2.2.1.length=64∧x_12.2.2.2.2<=64∧x_12.2.2.2.2<=x_12.2.2.1.length∧x_12.2.1.length+x_12.2.2.1.length=s.length)
abbrev aWh(x_12:Nat×LA×LA×List Nat×Nat):HB:=ofBytes (x_12.2.1++(fJ (x_12.2.2.1.take x_12.2.2.2.2) x_12.2.2.2.1++x_12.2.2.1.drop x_12.2.2.2.2))
abbrev bDe(x_12:Nat×LA×LA×List Nat×Nat):Int:=((64*x_12.1+x_12.2.2.2.2:Nat):Int)
abbrev bI6:Prop:=aK (AV.ptr 5 64 0)∧aK (AV.ptr 1 1 0)∧True
abbrev aEq(x_12:Nat×LA×LA×List Nat×Nat)(s:LA):Bool:=Nat.beq (aWh x_12).length s.length
abbrev bTv(w_7:W16):AV:=.agg [.int .u32 (w_7.1:Int),.int .u32 (w_7.2:Int),.int .u32 (w_7.3:Int),.int .u32 (w_7.4:Int),.int .u32 (w_7.5:Int),.int .u32 (w_7.6:Int),.int .u32 (w_7.7:Int),.int .u32 (w_7.8:Int),.int .u32 (w_7.9:Int),.int .u32 (w_7.10:Int),.int .u32 (w_7.11:Int),.int .u32 (w_7.12:Int),.int .u32 (w_7.13:Int),.int .u32 (w_7.14:Int),.int .u32 (w_7.15:Int),.int .u32 (w_7.16:Int)]
abbrev bHc:AV:=.fn (Fn.func 209) [] [.ptr 3 16 0,.ptr 4 1 0]
abbrev bUj(x_12:Nat×LA×LA×List Nat×Nat)(s:LA)(Q:BS)(c:Int)(x_8:Nat×LA×LA)(key nonce:LA)(n_3 n_5:Int)(w_7:W16)(n_4 n_2 n_6:Int)(w0:W16):Prop:=exI .i64 (bDe x_12) (λn_15=>ckQ (aEq x_12 s) (exI .i64 (s.length:Int) (λn_16=>bif n_15==n_16 then ckQ (aEq x_12 s&&Nat.ble (0+s.length) s.length&&true&&fU (((aWh x_12).drop 0).take s.length)) (exS (.str (List.map toB (((aWh x_12).drop 0).take s.length))) (λs_17=>Q (.ret (.tup [.str s_17,.int .i64 0])) [] (Gh.mk 0 1 [])))else exI .i64 (c+(x_8.1:Int)) (λn_17=>exW .i64 (n_17+1) (λn_18=>(aK [Lp.mk 0 (T.n (T.n (T.n (T.n (T.n (T.n T.e (.bool false) T.e) (.str key) T.e) .undef (T.n T.e (.bool false) T.e)) (.str s) (T.n (T.n (T.n T.e (.str nonce) T.e) (.bool false) T.e) (.ptr 2 1 0) (T.n T.e (.int .i64 n_3) T.e))) (.str nonce) (T.n (T.n (T.n (T.n T.e (.sl 0 s.length 0 s.length 1) T.e) (.int .i64 c) T.e) (.int .i64 0) (T.n T.e (.int .i64 c) T.e)) .undef (T.n (T.n (T.n T.e (.int .i64 c) T.e) (.str s) T.e) .undef (T.n T.e (.int .i64 n_5) T.e)))) (.str key) (T.n (T.n (T.n (T.n (T.n T.e (.str s) T.e) (.str nonce) T.e) (.str []) (T.n T.e (.bool false) T.e)) .undef (T.n (T.n (T.n T.e (bTv w_7) T.e) (.bool false) T.e) .undef (T.n T.e (.int .i64 n_4) T.e))) (.int .i64 c) (T.n (T.n (T.n (T.n T.e (.str key) T.e) (.bool true) T.e) (.ptr 1 1 0) (T.n T.e (.str s) T.e)) .undef (T.n (T.n (T.n T.e bHc T.e) (.int .i64 n_2) T.e) (.bool false) (T.n T.e (.int .i64 n_6) T.e))))) [39] (AC.region [AOper.mk (Option.some (12:Nat)) (AOp.box (AO.c (.agg bQz))) Option.none 0 0,AOper.mk Option.none (AOp.st 64 (AO.t 12) (AO.t 39)) Option.none 0 0]) (AC.block 2 (AC.seq (AC.seq (AC.region [AOper.mk (Option.some (13:Nat)) (AOp.mv (AO.c (.int .i64 0))) Option.none 0 0]) (AC.block 3 (AC.loop 117003 15360 (AC.seq (AC.seq (AC.region [AOper.mk (Option.some (40:Nat)) (AOp.mv (AO.t 13)) Option.none 0 0,AOper.mk (Option.some (41:Nat)) (AOp.bin Go.BinOp.lss Sh.it (AO.t 40) (AO.c (.int .i64 64))) Option.none 0 0,AOper.mk (Option.some (42:Nat)) (AOp.mv (AO.t 41)) Option.none 0 0,AOper.mk (Option.some (43:Nat)) (AOp.ld false 1 (AO.t 11)) (Option.some (Prod.mk (42:Nat) true)) 0 0,AOper.mk (Option.some (44:Nat)) (AOp.ld false 1 (AO.t 10)) (Option.some (Prod.mk (42:Nat) true)) 0 0,AOper.mk (Option.some (45:Nat)) (AOp.lenL (AO.t 44)) (Option.some (Prod.mk (42:Nat) true)) 0 0,AOper.mk (Option.some (46:Nat)) (AOp.bin Go.BinOp.lss Sh.it (AO.t 43) (AO.t 45)) (Option.some (Prod.mk (42:Nat) true)) 0 0,AOper.mk (Option.some (47:Nat)) (AOp.pick (AO.t 42) (AO.t 46) (AO.c (.bool false))) Option.none 0 0]) (AC.cond (AO.t 47) AC.skip (AC.exit 3))) (AC.seq (AC.block 4 (AC.seq (AC.drawn [AOper.mk (Option.some (50:Nat)) (AOp.ld false 1 (AO.t 10)) Option.none 0 0,AOper.mk (Option.some (51:Nat)) (AOp.ld false 1 (AO.t 11)) Option.none 1 0,AOper.mk (Option.some (52:Nat)) (AOp.iaL 1 (AO.t 50) (AO.t 51)) Option.none 2 3,AOper.mk (Option.some (53:Nat)) (AOp.ld false 1 (AO.t 52)) Option.none 3 7,AOper.mk (Option.some (54:Nat)) (AOp.mv (AO.t 13)) Option.none 4 0,AOper.mk (Option.some (55:Nat)) (AOp.iaA 64 1 (AO.t 12) (AO.t 54)) Option.none 5 16,AOper.mk (Option.some (56:Nat)) (AOp.ld false 1 (AO.t 55)) Option.none 6 48,AOper.mk (Option.some (57:Nat)) (AOp.bin Go.BinOp.xor Sh.it (AO.t 53) (AO.t 56)) Option.none 7 127,AOper.mk (Option.some (58:Nat)) (AOp.iaL 1 (AO.t 50) (AO.t 51)) Option.none 8 255,AOper.mk Option.none (AOp.st 1 (AO.t 58) (AO.t 57)) Option.none 9 511]) (AC.region [AOper.mk (Option.some (59:Nat)) (AOp.ld false 1 (AO.t 11)) Option.none 0 0,AOper.mk (Option.some (60:Nat)) (AOp.bin Go.BinOp.add Sh.it (AO.t 59) (AO.c (.int .i64 1))) Option.none 0 0,AOper.mk Option.none (AOp.st 1 (AO.t 11) (AO.t 60)) Option.none 0 0]))) (AC.region [AOper.mk (Option.some (48:Nat)) (AOp.mv (AO.t 13)) Option.none 0 0,AOper.mk (Option.some (49:Nat)) (AOp.bin Go.BinOp.add Sh.it (AO.t 48) (AO.c (.int .i64 1))) Option.none 0 0,AOper.mk (Option.some (13:Nat)) (AOp.mv (AO.t 49)) Option.none 0 0])))))) (AC.seq (AC.region [AOper.mk (Option.some (61:Nat)) (AOp.ld false 1 (AO.t 11)) Option.none 0 0,AOper.mk (Option.some (62:Nat)) (AOp.ld false 1 (AO.t 10)) Option.none 0 0,AOper.mk (Option.some (63:Nat)) (AOp.lenL (AO.t 62)) Option.none 0 0,AOper.mk (Option.some (64:Nat)) (AOp.bin Go.BinOp.eql Sh.it (AO.t 61) (AO.t 63)) Option.none 0 0]) (AC.cond (AO.t 64) (AC.exit 1) AC.skip)))) Lst.ready 117]∧(1:Nat)=(1:Nat))∧∃y_19:Nat×LA×LA,bRx y_19 s w0 c∧71-y_19.1<71-x_8.1∧aWh x_12=ofBytes (y_19.2.1++y_19.2.2)∧aTz s∧[AV.int .i64 (bDe x_12)]=[AV.int .i64 ((64*y_19.1:Nat):Int)]∧aK (bT3 w0)∧[AV.int .i64 n_18]=[AV.int .i64 (c+(y_19.1:Int))]∧bJu)))))
abbrev bOi:Out:=.ret (.tup [.str [],.int .i64 2])
theorem bVj(w0:W16)(key:LA)(nonce:LA)(c:Int)(s:LA)(Q:BS):aH0 (aW [(663560,.int .i64),(663564,.int .i64),(479254,.int .i64),(479259,.int .i64),(479260,.int
 .i64),(479261,.int .i64),(479262,.int .i64),(856070,.int .i64),(479275,.int .i64),(479277,.int .i64),(479283,.int .i64),(479285,.int .u8),(479288,.int .u8),(479289,.int .u8),(479291,.int .i64),(479292,.int .i64),
 (479281,.int .i64),(479293,.int .i64),(479295,.int .i64),(479298,.str),(856073,.int .i64),(856074,.int .i64)]) (aV []) w0 key nonce c s Q=(exI .i64 (key.length:Int) (λn_0=>bif n_0==32 then exI .i64 (nonce.length :
 Int) (λn_1=>bif n_1==12 then bif decide (c≥0)then bif decide (c<4294967296)then exI .i64 (s.length:Int) (λn_2=>bif decide (n_2>4096)then Q (.ret (.tup [.str [],.int .i64 3])) [] {}else exI .i64 (s.length:Int)
 (λn_3=>exW .i64 (n_3+63) (λn_4=>exW .i64 (n_4.tdiv 64) (λn_5=>exW .i64 (c+n_5) (λn_6=>bif decide (n_6>4294967296)then Q (.ret (.tup [.str [],.int .i64 6])) [] {}else Lf (key.length=32∧nonce.length=12)∧∀
 w_7:W16,Lf (w_7=fD key nonce)->(∃x_8:Nat×LA×LA,bRx x_8 s w0 c∧ckQ (aP 0 (ofBytes s)==true) (ofBytes s=ofBytes (x_8.2.1++x_8.2.2)∧aTz s∧[AV.int .i64 0]=[AV.int .i64 ((64*x_8.1:Nat) :
 Int)]∧bFc w_7=bFc w0∧[AV.int .i64 c]=[AV.int .i64 (c+(x_8.1:Int))]∧bJu))∧∀x_8:Nat×LA×LA,bRx x_8 s w0 c->exI .i64 (c+(x_8.1:Int)) (λn_9=>∃w_10:W16,Lf (bFc w0=bFc w_10)∧∀l_11
 : List Nat,Lf (l_11=aWf w_10 n_9)->ckQ (Nat.beq (aX l_11).length 64&&eH (aX l_11)&&true) ((∃x_12:Nat×LA×LA×List Nat×Nat,bRm x_12 x_8 l_11 s∧ofBytes (x_8.2.1++x_8.2.2)=aWh x_12 ∧
 aTz s∧[AV.int .i64 ((64*x_8.1:Nat):Int)]=[AV.int .i64 (bDe x_12)]∧aK (bFc w0)∧aK [AV.int .i64 (c+(x_8.1:Int))]∧ckQ (aP 0 (aX l_11)==true) (aK (aJs l_11)∧aK (AV.ptr 2 1 0)∧AV.int .i64 0 =
 AV.int .i64 (x_12.2.2.2.2:Int)∧bI6))∧∀x_12:Nat×LA×LA×List Nat×Nat,bRm x_12 x_8 l_11 s->bif decide ((x_12.2.2.2.2:Int)<64)then exI .i64 (bDe x_12) (λn_13=>ckQ (aEq x_12 s) (exI .i64
 (s.length:Int) (λn_14=>bif decide (n_13<n_14)then exI .i64 (bDe x_12) (λn_15=>ckQ (decide (0<=n_15)&&Nat.blt n_15.toNat s.length&&aEq x_12 s&&true) (ckQ (aEq x_12 s&&Nat.blt (0+n_15.toNat*1) s.length) (exV
 .u8 ((((aWh x_12).drop (0+n_15.toNat*1)).take 1).getD 0 AV.undef) (λn_16=>ckQ (Nat.blt (x_12.2.2.2.2:Int).toNat 64&&Nat.beq (aJs l_11).length 64) (ckQ (Nat.beq (aJs l_11).length 64&&Nat.blt (0+(x_12.2.2.2.2 :
 Int).toNat*1) 64) (exV .u8 ((((aJs l_11).drop (0+(x_12.2.2.2.2:Int).toNat*1)).take 1).getD 0 AV.undef) (λn_17=>exW .u8 (((n_16%256).toNat ^^^ (n_17%256).toNat:Nat):Int) (λn_18=>ckQ (decide (0<=n_15)&&Nat.blt
 n_15.toNat s.length&&aEq x_12 s&&true) (ckQ (aEq x_12 s&&Nat.ble (0+n_15.toNat*1+1) s.length&&true&&true&&true) (exI .i64 (bDe x_12) (λn_19=>exW .i64 (n_19+1) (λn_20=>exW .i64 ((x_12.2.2.2.2:Int)+1)
 (λn_21=>(aK [Lp.mk 0 (T.n (T.n (T.n (T.n (T.n (T.n T.e (.bool false) T.e) (.str key) T.e) .undef (T.n T.e (.bool false) T.e)) (.str s) (T.n (T.n (T.n T.e (.str nonce) T.e) (.bool false) T.e) (.ptr 2 1 0) (T.n T.e (.int .i64 n_3)
 T.e))) (.str nonce) (T.n (T.n (T.n (T.n T.e (.sl 0 s.length 0 s.length 1) T.e) (.int .i64 c) T.e) (.int .i64 0) (T.n T.e (.int .i64 c) T.e)) .undef (T.n (T.n (T.n T.e (.int .i64 c) T.e) (.str s) T.e) .undef (T.n T.e (.int .i64 n_5) T.e))))
 (.str key) (T.n (T.n (T.n (T.n (T.n T.e (.str s) T.e) (.str nonce) T.e) (.str []) (T.n T.e (.bool false) T.e)) .undef (T.n (T.n (T.n T.e (bTv w_7) T.e) (.bool false) T.e) .undef (T.n T.e (.int .i64 n_4) T.e))) (.int .i64 c) (T.n (T.n (T.n
 (T.n T.e (.str key) T.e) (.bool true) T.e) (.ptr 1 1 0) (T.n T.e (.str s) T.e)) .undef (T.n (T.n (T.n T.e bHc T.e) (.int .i64 n_2) T.e) (.bool false) (T.n T.e (.int .i64 n_6) T.e))))) [39] (AC.region [AOper.mk (Option.some (12:Nat))
 (AOp.box (AO.c (.agg bQz))) Option.none 0 0,AOper.mk Option.none (AOp.st 64 (AO.t 12) (AO.t 39)) Option.none 0 0]) (AC.block 2 (AC.seq (AC.seq (AC.region [AOper.mk (Option.some (13:Nat)) (AOp.mv (AO.c (.int .i64 0))) Option.none 0 0])
 (AC.block 3 (AC.loop 117003 15360 (AC.seq (AC.seq (AC.region [AOper.mk (Option.some (40:Nat)) (AOp.mv (AO.t 13)) Option.none 0 0,AOper.mk (Option.some (41:Nat)) (AOp.bin Go.BinOp.lss Sh.it (AO.t 40) (AO.c (.int .i64 64))) Option.none
 0 0,AOper.mk (Option.some (42:Nat)) (AOp.mv (AO.t 41)) Option.none 0 0,AOper.mk (Option.some (43:Nat)) (AOp.ld false 1 (AO.t 11)) (Option.some (Prod.mk (42:Nat) true)) 0 0,AOper.mk (Option.some (44:Nat)) (AOp.ld false 1 (AO.t
 10)) (Option.some (Prod.mk (42:Nat) true)) 0 0,AOper.mk (Option.some (45:Nat)) (AOp.lenL (AO.t 44)) (Option.some (Prod.mk (42:Nat) true)) 0 0,AOper.mk (Option.some (46:Nat)) (AOp.bin Go.BinOp.lss Sh.it (AO.t 43) (AO.t 45))
 (Option.some (Prod.mk (42:Nat) true)) 0 0,AOper.mk (Option.some (47:Nat)) (AOp.pick (AO.t 42) (AO.t 46) (AO.c (.bool false))) Option.none 0 0]) (AC.cond (AO.t 47) AC.skip (AC.exit 3))) (AC.seq (AC.block 4 (AC.seq (AC.drawn [AOper.mk
 (Option.some (50:Nat)) (AOp.ld false 1 (AO.t 10)) Option.none 0 0,AOper.mk (Option.some (51:Nat)) (AOp.ld false 1 (AO.t 11)) Option.none 1 0,AOper.mk (Option.some (52:Nat)) (AOp.iaL 1 (AO.t 50) (AO.t 51)) Option.none 2 3,AOper.mk
 (Option.some (53:Nat)) (AOp.ld false 1 (AO.t 52)) Option.none 3 7,AOper.mk (Option.some (54:Nat)) (AOp.mv (AO.t 13)) Option.none 4 0,AOper.mk (Option.some (55:Nat)) (AOp.iaA 64 1 (AO.t 12) (AO.t 54)) Option.none 5 16,AOper.mk
 (Option.some (56:Nat)) (AOp.ld false 1 (AO.t 55)) Option.none 6 48,AOper.mk (Option.some (57:Nat)) (AOp.bin Go.BinOp.xor Sh.it (AO.t 53) (AO.t 56)) Option.none 7 127,AOper.mk (Option.some (58:Nat)) (AOp.iaL 1 (AO.t 50) (AO.t 51))
 Option.none 8 255,AOper.mk Option.none (AOp.st 1 (AO.t 58) (AO.t 57)) Option.none 9 511]) (AC.region [AOper.mk (Option.some (59:Nat)) (AOp.ld false 1 (AO.t 11)) Option.none 0 0,AOper.mk (Option.some (60:Nat)) (AOp.bin Go.BinOp.add
 Sh.it (AO.t 59) (AO.c (.int .i64 1))) Option.none 0 0,AOper.mk Option.none (AOp.st 1 (AO.t 11) (AO.t 60)) Option.none 0 0]))) (AC.region [AOper.mk (Option.some (48:Nat)) (AOp.mv (AO.t 13)) Option.none 0 0,AOper.mk (Option.some (49 :
 Nat)) (AOp.bin Go.BinOp.add Sh.it (AO.t 48) (AO.c (.int .i64 1))) Option.none 0 0,AOper.mk (Option.some (13:Nat)) (AOp.mv (AO.t 49)) Option.none 0 0])))))) (AC.seq (AC.region [AOper.mk (Option.some (61:Nat)) (AOp.ld false 1 (AO.t 11))
 Option.none 0 0,AOper.mk (Option.some (62:Nat)) (AOp.ld false 1 (AO.t 10)) Option.none 0 0,AOper.mk (Option.some (63:Nat)) (AOp.lenL (AO.t 62)) Option.none 0 0,AOper.mk (Option.some (64:Nat)) (AOp.bin Go.BinOp.eql Sh.it (AO.t 61)
 (AO.t 63)) Option.none 0 0]) (AC.cond (AO.t 64) (AC.exit 1) AC.skip)))) Lst.busy 117]∧(1:Nat)=(1:Nat))∧∃y_22:Nat×LA×LA×List Nat×Nat,bRm y_22 x_8 l_11 s∧64-y_22.2.2.2.2<64-x_12.2.2.2.2 ∧
 aN (aWh x_12) (0+n_15.toNat*1) [.int .u8 n_18]=aWh y_22∧aTz s∧[AV.int .i64 n_20]=[AV.int .i64 (bDe y_22)]∧aK (bFc w0)∧aK [AV.int .i64 (c+(x_8.1:Int))]∧aK (aJs l_11)∧aK (AV.ptr 2 1 0)∧AV.int
 .i64 n_21=AV.int .i64 (y_22.2.2.2.2:Int)∧bI6)))))))))))))else bUj x_12 s Q c x_8 key nonce n_3 n_5 w_7 n_4 n_2 n_6 w0)))else bUj x_12 s Q c x_8 key nonce n_3 n_5 w_7 n_4 n_2 n_6 w0)))))))else Q bOi [] {}else Q bOi [] {}
 else Q bOi [] {})else Q bOi [] {})):=by kernel_rfl


theorem dO(l:LA):(ofBytes l).length=l.length:=by simp[ofBytes]
theorem fG(l:LA):aP 0 (ofBytes l)=true:=by
 induction l with
 | nil=>rfl
 | cons x l ih=>simpa[ofBytes,aP,old]using ih
theorem bP1(l:List Nat):aP 0 (aX l)=true:=(aIz l).1
theorem uZ(l:LA):fU (ofBytes l)=true:=by
 induction l with
 | nil=>rfl
 | cons x l ih=>simpa[ofBytes,fU]using ih
theorem bH1{a b:LA}(h:ofBytes a=ofBytes b):a=b:=by
 induction a generalizing b with
 | nil=>cases b with | nil=>rfl | cons y ys=>simp[ofBytes]at h
 | cons x xs ih=>cases b with
  | nil=>simp[ofBytes]at h
  | cons y ys=>
   simp only[ofBytes,bXu,bZp,AV.int.injEq,cB5,Int.natCast_inj]at h
   rw[cB9.1 h.1,ih h.2]

theorem bL2{a b:List Nat}(h:aX a=aX b):a=b:=by
 induction a generalizing b with
 | nil=>cases b with | nil=>rfl | cons y ys=>simp[aX]at h
 | cons x xs ih=>cases b with
  | nil=>simp[aX]at h
  | cons y ys=>
   simp only[aX,bXu,bZp,AV.int.injEq,cB5,Int.natCast_inj]at h
   rw[h.1,ih h.2]
theorem ldB{L:LA}{j m:Nat}(hj:j<L.length)(hm:m=j){K:Int->Prop}(hk:K ((L.getD j 0).toNat:Int)):∃n:Int,(List.take 1 (List.drop m (ofBytes L))).getD 0 AV.undef=AV.int .u8 n∧K n:=by
 subst hm
 refine⟨_, ?_,hk⟩
 rw[bW7,bXz,if_pos (by omega),bYo,ofBytes,cAo,bYv,bW8 hj]
 simp[hj]
theorem ld8{l:List Nat}{j m:Nat}(hj:j<l.length)(hm:m=j){K:Int->Prop}(hk:K ((l.getD j 0:Nat):Int)):∃n:Int,(List.take 1 (List.drop m (aX l))).getD 0 AV.undef=AV.int .u8 n∧K n:=by
 subst hm
 refine⟨_, ?_,hk⟩
 rw[bW7,bXz,if_pos (by omega),bYo,aX,cAo,bYv,bW8 hj]
 simp[hj]
theorem stB{L:LA}{j m:Nat}{b:UInt8}(hj:j<L.length)(hm:m=j):aN (ofBytes L) m [AV.int .u8 (b.toNat:Int)]=ofBytes (L.set j b):=by
 subst hm
 rw[cBn,if_pos hj]
 simp[aN,ofBytes]
theorem bWd(a:UInt8)(n:Nat):IntKind.wrap .u8 (((((a.toNat:Int)%256).toNat ^^^ ((n:Int)%256).toNat:Nat)):Int)=((x8M a n).toNat:Int):=by
 have h1:((a.toNat:Int)%256).toNat=a.toNat:=by have:=a.toNat_lt;omega
 have h2:((n:Int)%256).toNat=n%256:=by omega
 rw[h1,h2,jK,x8M,UInt8.toNat_xor,cCi]
 congr 1
 exact bZh (cCj (n:=8) a.toNat_lt (cA7 _ (by omega)))
theorem aC4(s:LA)(l:List Nat):(fJ s l).length=min s.length l.length:=by simp[fJ]
theorem aVq{r:LA}{l:List Nat}{i:Nat}(h1:i<r.length)(h2:i<l.length):fJ (r.take (i+1)) l=fJ (r.take i) l++[x8M (r.getD i 0) (l.getD i 0)]:=by
 apply cCr
 ·simp[fJ];omega
 ·intro j hj1 hj2
  simp only[fJ,bZy,bXg]at hj1
  by_cases h:j<i
  ·rw[cBi (by simp[fJ];omega)]
   simp[fJ]
  ·obtain rfl:j=i:=by omega
   rw[cBc (by simp[fJ];omega)]
   simp[fJ,h1,h2]
theorem set_mid{dn Z D:LA}{j:Nat}{x b:UInt8}(hj:j=dn.length+Z.length):(dn++(Z++x::D)).set j b=dn++(Z++b::D):=by
 subst hj
 rw[bZ0 _ _ (by omega),bZ0 _ _ (by omega)]
 simp

theorem aUd(key nonce:LA)(c:Int)(s:LA)(w0:W16)(hw0:w0=fD key nonce)(Q:BS)(hq1:dR key nonce c=false->Q (.ret (.tup [.str [],.int .i64 2])) [] {})
  (hq2:dR key nonce c=true->4096<s.length->Q (.ret (.tup [.str [],.int .i64 3])) [] {})
  (hq3:dR key nonce c=true->s.length<=4096->4294967296<c+((s.length:Int)+63)/64->Q (.ret (.tup [.str [],.int .i64 6])) [] {})
  (hq4:dR key nonce c=true->s.length<=4096->c+((s.length:Int)+63)/64<=4294967296->Q (.ret (.tup [.str (tO w0 c 70 s),.int .i64 0])) [] ⟨0,1,[]⟩):∃hv hb,aH0 hv hb w0 key nonce c s Q:=by
 obtain⟨hv,hb',e⟩:∃hv hb,aH0 hv hb w0 key nonce c s Q=_:=⟨_,_,bVj w0 key nonce c s Q⟩
 refine⟨hv,hb',e.mpr ?_⟩
 delta bRx aTz bT3 bFc bJu bQz aJs bRm aWh bDe bI6 aEq bTv bHc bUj bOi
 clear e
 have hr:dR key nonce c=true↔key.length=32∧nonce.length=12∧0<=c∧c<4294967296:=by
  simp only[dR,bW3,bS,bW6,and_assoc]
 have no:¬ (key.length=32∧nonce.length=12∧0<=c∧c<4294967296)->Q (.ret (.tup [.str [],.int .i64 2])) [] {}:=λh=>hq1 (by
  cases hb:dR key nonce c
  ·rfl
  ·exact absurd (hr.1 hb) h)
 refine⟨_,rfl,bJ (λh1=>⟨_,rfl,bJ (λh2=>aH (λh3=>aH (λh4 => ?_) (λh=>no (by omega))) (λh=>no (by omega))) (λh=>no (by omega))⟩) (λh=>no (by omega))⟩
 have hR:=hr.2 ⟨by omega,by omega,by omega,by omega⟩
 refine⟨_,rfl,aH (λh5=>hq2 hR (by omega)) (λh5 => ?_)⟩
 have h5':s.length<=4096:=by omega
 have htd:((s.length:Int)+63).tdiv 64=((s.length:Int)+63)/64:=bZt (by omega)
 refine⟨_,rfl,aF ?_⟩
 rw[htd]
 refine aF (aF (aH (λh6=>hq3 hR h5' (by omega)) (λh6 => ?_)))
 have hQ:=hq4 hR h5' (by omega)
 refine⟨⟨by omega,by omega⟩,λw hw => ?_⟩
 obtain rfl:w=w0:=hw.h.trans hw0.symm
 refine⟨⟨(0,[],s),⟨by simp,by simp,by simp,by simp,by simp⟩, ?_⟩, ?_⟩
 ·rw[fG]
  simp
 rintro⟨k,dn,r⟩ ⟨g1,g2,g3,g4,g5⟩
 dsimp only at *
 refine⟨_,rfl,w,⟨rfl⟩,λl hl => ?_⟩
 have hll:l.length=64:=by rw[hl.h];exact aBb _ _
 have hcl:(aX l).length=64:=by simp[aX,hll]
 rw[kC _ _ (by rw[hcl];simp)]
 refine ckI (by rw[hcl,bDb];rfl) ⟨⟨(k,dn,r,l,0),⟨g1,rfl,rfl,rfl,hll,by simp,by simp,g2⟩, ?_⟩, ?_⟩
 ·rw[bP1]
  simp[fJ]
 rintro⟨k',dn',r',l',i⟩ ⟨f1,f2,f3,f4,f5,f6,f7,f8⟩
 dsimp only at *
 obtain rfl:k=k':=by omega
 have hin:=bH1 f2
 obtain⟨rfl,rfl⟩:=List.append_inj hin (by omega)
 obtain rfl:=bL2 f4
 have hk64:k<=64:=by omega
 have hz:(fJ (r.take i) l).length=i:=by rw[aC4,bXg];omega
 have hM:(dn++(fJ (r.take i) l++r.drop i)).length=s.length:=by simp only[bW2,bYt,hz];omega
 have hap:tO w (c+(k:Int)) (70-k) r=if r.length<=64 then fJ r l else fJ (r.take 64) l++tO w (c+(k:Int)+1) (69-k) (r.drop 64):=by
  rw[show 70-k=(69-k)+1 by omega,tO,←hl.h]
 have hap2:∀ (h64:i=64∨i=r.length) (hat:64*k+i=s.length),dn++(fJ (r.take i) l++r.drop i)=tO w c 70 s:=by
  intro h64 hat
  have e1:i=r.length:=by omega
  rw[g5,hap,if_pos (by omega),e1,bX8,List.drop_length,bXs]
 have hend:∀ (h64:i=64∨i=r.length) (hat:64*k+i=s.length),(List.map toB (List.take s.length (List.drop 0 (ofBytes (dn++(fJ (r.take i) l++r.drop i))))))=tO w c 70 s:=by
  intro h64 hat
  rw[bXl,bW4 (by rw[dO,hM];omega),hap2 h64 hat]
  simp only[ofBytes,cA0]
  conv=>rhs;rw[←cCb (tO w c 70 s)]
  congr 1
  funext x
  simp[toB]
 have hback:i=64->64*k+i≠s.length->(dn++fJ (r.take 64) l).length=64*(k+1)∧(dn++fJ (r.take 64) l).length+(r.drop 64).length=s.length∧0<(r.drop 64).length∧tO w c 70 s=(dn++fJ (r.take 64) l)++tO w (c+((k+1:Nat):Int)) (70-(k+1)) (r.drop 64):=by
  rintro rfl hne
  have e2:c+(k:Int)+1=c+((k+1:Nat):Int):=by omega
  have e3:69-k=70-(k+1):=by omega
  refine⟨?_, ?_, ?_, ?_⟩
  ·rw[bW2,hz];omega
  ·rw[bW2,hz,bYt];omega
  ·rw[bYt];omega
  ·rw[g5,hap,if_neg (by omega),e2,e3,bW9]
 have hlB:(ofBytes (dn++(fJ (r.take i) l++r.drop i))).length=s.length:=by rw[dO,hM]
 have hall:fU (List.take s.length (List.drop 0 (ofBytes (dn++(fJ (r.take i) l++r.drop i)))))=true:=by
  rw[bXl,bW4 (by omega)]
  exact uZ _
 refine aH (λhi => ?_) (λhi => ?_)
 ·refine⟨_,rfl,ckI (by rw[dO,hM];exact aOe rfl) ⟨_,rfl,aH (λhlt => ?_) (λhge => ?_)⟩⟩
  ·have hir:i<r.length:=by omega
   have hD:r.drop i=r.getD i 0::r.drop (i+1):=by rw[bZe hir];simp[hir]
   have hg:(dn++(fJ (r.take i) l++r.drop i)).getD (64*k+i) 0=r.getD i 0:=by
    rw[bW7,bYa (by omega),bYa (by omega),hz,bYo,bW7]
    congr 2
    omega
   refine⟨_,rfl,ckI (by first | rfl | (simp[aD,hlB]<;>omega)) (ckI (by first | rfl | (simp[aD,hlB]<;>omega)) (ldB (j:=64*k+i) (by omega) (by omega) ?_))⟩
   rw[hg]
   refine ckI (by first | rfl | (simp[aD,hcl]<;>omega)) (ckI (by first | rfl | (simp[aD,hcl]<;>omega)) (ld8 (j:=i) (by omega) (by omega) ?_))
   refine⟨_,by rw[bWd],ckI (by first | rfl | (simp[aD,hlB]<;>omega)) (ckI (by first | rfl | (simp[aD,hlB]<;>omega)) ⟨_,rfl,aF (aF ?_)⟩)⟩
   have hadd:((64*k+i:Nat):Int)+1=((64*k+(i+1):Nat):Int):=by omega
   refine⟨?_,(k,dn,r,l,i+1),⟨g1,rfl,rfl,rfl,hll, ?_, ?_,g2⟩, ?_, ?_⟩
   ·first | trivial | exact⟨rfl,rfl⟩
   ·show i+1<=64
    omega
   ·show i+1<=r.length
    omega
   ·show 64-(i+1)<64-i
    omega
   ·rw[stB (j:=64*k+i) (by omega) (by omega),hD,set_mid (by omega),hadd]
    dsimp only
    rw[aVq hir (by omega),bW9]
    simp
  ·have hat:64*k+i=s.length:=by omega
   refine⟨_,rfl,ckI (by first | rfl | (simp[aD,hlB]<;>omega)) ⟨_,rfl,bJ (λ_ => ?_) (λhne=>absurd (by omega) hne)⟩⟩
   refine ckI (by rw[hall,hlB];simp) ⟨_,rfl, ?_⟩
   rw[hend (.inr (by omega)) hat]
   exact hQ
 ·have hi64:i=64:=by omega
  refine⟨_,rfl,ckI (by first | rfl | (simp[aD,hlB]<;>omega)) ⟨_,rfl,bJ (λheq => ?_) (λhne => ?_)⟩⟩
  ·have hat:64*k+i=s.length:=by omega
   refine ckI (by rw[hall,hlB];simp) ⟨_,rfl, ?_⟩
   rw[hend (.inl hi64) hat]
   exact hQ
  ·obtain⟨b1,b2,b3,b4⟩:=hback hi64 (by omega)
   subst hi64
   have hadd:c+(k:Int)+1=c+((k+1:Nat):Int):=by omega
   have hadd2:64*k+64=64*(k+1):=by omega
   refine⟨_,rfl,aF ⟨?_,(k+1,dn++fJ (r.take 64) l,r.drop 64),⟨b1,b2,.inr b3, ?_,b4⟩, ?_, ?_⟩⟩
   ·first | trivial | exact⟨rfl,rfl⟩
   ·show k+1<=70
    omega
   ·show 71-(k+1)<71-k
    omega
   ·rw[hadd]
    dsimp only
    rw[bW9,hadd2]
    simp
end Go.Proofs.YtnhechnaemmdiaaGreatDoor
