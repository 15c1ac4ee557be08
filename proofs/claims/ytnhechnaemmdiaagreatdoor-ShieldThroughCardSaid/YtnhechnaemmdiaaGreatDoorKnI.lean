/-
  Chapter 3: first; the run of Apply.
-/
import Derived.Test.YtnhechnaemmdiaaGreatDoorKnH
set_option linter.unusedSimpArgs false
set_option linter.unusedVariables false
namespace Go.Proofs.YtnhechnaemmdiaaGreatDoor
open Go.RowKit
set_option maxRecDepth 1000000

noncomputable def aFg (hv:Nat→Option Pa) (hb:Nat→Option Bool) (key nonce:List UInt8) (Q:Out→List Blk→Gh→Prop):Prop:=
 aY (e04 sm0 (fun _=>none) hv hb) (wpx (e04 sm0 (fun _=>none) hv hb) 1000) 163 [.str key,.str nonce] [] {} Q
abbrev aA5 (s_2:List UInt8):Bool:=Nat.ble s_2.length s_2.length
abbrev aB3 (s_3:List UInt8):Bool:=Nat.blt 0 s_3.length
abbrev aB9 (s_3:List UInt8):Int:=(UInt8.toNat (s_3.getD 0 (UInt8.ofNat 0)):Int)
abbrev aA7 (s_3:List UInt8):Bool:=Nat.blt 1 s_3.length
abbrev aBv (s_3:List UInt8):Int:=(UInt8.toNat (s_3.getD 1 (UInt8.ofNat 0)):Int)
abbrev gD (n_5 n_8:Int):Int:=(((n_5%4294967296).toNat ||| (n_8%4294967296).toNat:Nat):Int)
abbrev aA0 (s_3:List UInt8):Bool:=Nat.blt 2 s_3.length
abbrev aCp (s_3:List UInt8):Int:=(UInt8.toNat (s_3.getD 2 (UInt8.ofNat 0)):Int)
abbrev aBb (s_3:List UInt8):Bool:=Nat.blt 3 s_3.length
abbrev aBo (s_3:List UInt8):Int:=(UInt8.toNat (s_3.getD 3 (UInt8.ofNat 0)):Int)
theorem bLp (key:List UInt8) (nonce:List UInt8) (Q:Out→List Blk→Gh→Prop):aFg (bD [(667657,.str),(667658,.str),(667660,.str),(667668,.str),(851972,.int .u8),(851973,.int .u32),(851975,.int .u8),(851976,
 .int .u32),(851977,.int .u32),(851978,.int .u32),(851980,.int .u8),(851981,.int .u32),(851982,.int .u32),(851983,.int .u32),(851985,.int .u8),(851986,.int .u32),(851987,.int .u32),(851988,.int .u32)]) (bE []) key
 nonce Q=(ckQ (decide (16+key.length≤9223372036854775807)&&true) (exS (.str ([UInt8.ofNat 101,UInt8.ofNat 120,UInt8.ofNat 112,UInt8.ofNat 97,UInt8.ofNat 110,UInt8.ofNat 100,UInt8.ofNat 32,UInt8.ofNat 51,UInt8.ofNat 50,
 UInt8.ofNat 45,UInt8.ofNat 98,UInt8.ofNat 121,UInt8.ofNat 116,UInt8.ofNat 101,UInt8.ofNat 32,UInt8.ofNat 107]++key)) (fun s_0=>ckQ (decide (s_0.length+4≤9223372036854775807)&&true) (exS (.str (s_0++[UInt8.ofNat 0,
 UInt8.ofNat 0,UInt8.ofNat 0,UInt8.ofNat 0])) (fun s_1=>ckQ (decide (s_1.length+nonce.length≤9223372036854775807)&&true) (exS (.str (s_1++nonce)) (fun s_2=>ckQ (aA5 s_2) (exS (.str ((s_2.drop 0).take (s_2.length-0))) (fun
 s_3=>ckQ (aB3 s_3) (exI .u8 (aB9 s_3) (fun n_4=>exW .u32 n_4 (fun n_5=>ckQ (aA7 s_3) (exI .u8 (aBv s_3) (fun n_6=>exW .u32 n_6 (fun n_7=>exW .u32 (n_7*256) (fun n_8=>exW .u32 (gD n_5 n_8) (fun n_9=>ckQ (aA0 s_3) (exI
 .u8 (aCp s_3) (fun n_10=>exW .u32 n_10 (fun n_11=>exW .u32 (n_11*65536) (fun n_12=>exW .u32 (gD n_9 n_12) (fun n_13=>ckQ (aBb s_3) (exI .u8 (aBo s_3) (fun n_14=>exW .u32 n_14 (fun n_15=>exW .u32 (n_15*16777216) (fun
 n_16=>exW .u32 (gD n_13 n_16) (fun n_17=>ckQ (Nat.ble 4 s_2.length&&aA5 s_2) (exS (.str ((s_2.drop 4).take (s_2.length-4))) (fun s_18=>ckQ (aB3 s_18) (exI .u8 (aB9 s_18) (fun n_19=>exW .u32 n_19 (fun n_20=>ckQ (aA7
 s_18) (exI .u8 (aBv s_18) (fun n_21=>exW .u32 n_21 (fun n_22=>exW .u32 (n_22*256) (fun n_23=>exW .u32 (gD n_20 n_23) (fun n_24=>ckQ (aA0 s_18) (exI .u8 (aCp s_18) (fun n_25=>exW .u32 n_25 (fun n_26=>exW .u32 (n_26 *
 65536) (fun n_27=>exW .u32 (gD n_24 n_27) (fun n_28=>ckQ (aBb s_18) (exI .u8 (aBo s_18) (fun n_29=>exW .u32 n_29 (fun n_30=>exW .u32 (n_30*16777216) (fun n_31=>exW .u32 (gD n_28 n_31) (fun n_32=>ckQ (Nat.ble 8
 s_2.length&&aA5 s_2) (exS (.str ((s_2.drop 8).take (s_2.length-8))) (fun s_33=>ckQ (aB3 s_33) (exI .u8 (aB9 s_33) (fun n_34=>exW .u32 n_34 (fun n_35=>ckQ (aA7 s_33) (exI .u8 (aBv s_33) (fun n_36=>exW .u32 n_36 (fun n_37=>
 exW .u32 (n_37*256) (fun n_38=>exW .u32 (gD n_35 n_38) (fun n_39=>ckQ (aA0 s_33) (exI .u8 (aCp s_33) (fun n_40=>exW .u32 n_40 (fun n_41=>exW .u32 (n_41*65536) (fun n_42=>exW .u32 (gD n_39 n_42) (fun n_43=>ckQ (aBb
 s_33) (exI .u8 (aBo s_33) (fun n_44=>exW .u32 n_44 (fun n_45=>exW .u32 (n_45*16777216) (fun n_46=>exW .u32 (gD n_43 n_46) (fun n_47=>ckQ (Nat.ble 12 s_2.length&&aA5 s_2) (exS (.str ((s_2.drop 12).take (s_2.length-12)))
 (fun s_48=>ckQ (aB3 s_48) (exI .u8 (aB9 s_48) (fun n_49=>exW .u32 n_49 (fun n_50=>ckQ (aA7 s_48) (exI .u8 (aBv s_48) (fun n_51=>exW .u32 n_51 (fun n_52=>exW .u32 (n_52*256) (fun n_53=>exW .u32 (gD n_50 n_53) (fun n_54
 => ckQ (aA0 s_48) (exI .u8 (aCp s_48) (fun n_55=>exW .u32 n_55 (fun n_56=>exW .u32 (n_56*65536) (fun n_57=>exW .u32 (gD n_54 n_57) (fun n_58=>ckQ (aBb s_48) (exI .u8 (aBo s_48) (fun n_59=>exW .u32 n_59 (fun n_60=>exW
 .u32 (n_60*16777216) (fun n_61=>exW .u32 (gD n_58 n_61) (fun n_62=>ckQ (Nat.ble 16 s_2.length&&aA5 s_2) (exS (.str ((s_2.drop 16).take (s_2.length-16))) (fun s_63=>ckQ (aB3 s_63) (exI .u8 (aB9 s_63) (fun n_64=>exW .u32
 n_64 (fun n_65=>ckQ (aA7 s_63) (exI .u8 (aBv s_63) (fun n_66=>exW .u32 n_66 (fun n_67=>exW .u32 (n_67*256) (fun n_68=>exW .u32 (gD n_65 n_68) (fun n_69=>ckQ (aA0 s_63) (exI .u8 (aCp s_63) (fun n_70=>exW .u32 n_70 (fun
 n_71=>exW .u32 (n_71*65536) (fun n_72=>exW .u32 (gD n_69 n_72) (fun n_73=>ckQ (aBb s_63) (exI .u8 (aBo s_63) (fun n_74=>exW .u32 n_74 (fun n_75=>exW .u32 (n_75*16777216) (fun n_76=>exW .u32 (gD n_73 n_76) (fun n_77=>
 ckQ (Nat.ble 20 s_2.length&&aA5 s_2) (exS (.str ((s_2.drop 20).take (s_2.length-20))) (fun s_78=>ckQ (aB3 s_78) (exI .u8 (aB9 s_78) (fun n_79=>exW .u32 n_79 (fun n_80=>ckQ (aA7 s_78) (exI .u8 (aBv s_78) (fun n_81=>exW .u32
 n_81 (fun n_82=>exW .u32 (n_82*256) (fun n_83=>exW .u32 (gD n_80 n_83) (fun n_84=>ckQ (aA0 s_78) (exI .u8 (aCp s_78) (fun n_85=>exW .u32 n_85 (fun n_86=>exW .u32 (n_86*65536) (fun n_87=>exW .u32 (gD n_84 n_87) (fun
 n_88=>ckQ (aBb s_78) (exI .u8 (aBo s_78) (fun n_89=>exW .u32 n_89 (fun n_90=>exW .u32 (n_90*16777216) (fun n_91=>exW .u32 (gD n_88 n_91) (fun n_92=>ckQ (Nat.ble 24 s_2.length&&aA5 s_2) (exS (.str ((s_2.drop 24).take
 (s_2.length-24))) (fun s_93=>ckQ (aB3 s_93) (exI .u8 (aB9 s_93) (fun n_94=>exW .u32 n_94 (fun n_95=>ckQ (aA7 s_93) (exI .u8 (aBv s_93) (fun n_96=>exW .u32 n_96 (fun n_97=>exW .u32 (n_97*256) (fun n_98=>exW .u32 (gD
 n_95 n_98) (fun n_99=>ckQ (aA0 s_93) (exI .u8 (aCp s_93) (fun n_100=>exW .u32 n_100 (fun n_101=>exW .u32 (n_101*65536) (fun n_102=>exW .u32 (gD n_99 n_102) (fun n_103=>ckQ (aBb s_93) (exI .u8 (aBo s_93) (fun n_104=>exW
 .u32 n_104 (fun n_105=>exW .u32 (n_105*16777216) (fun n_106=>exW .u32 (gD n_103 n_106) (fun n_107=>ckQ (Nat.ble 28 s_2.length&&aA5 s_2) (exS (.str ((s_2.drop 28).take (s_2.length-28))) (fun s_108=>ckQ (aB3 s_108) (exI .u8
 (aB9 s_108) (fun n_109=>exW .u32 n_109 (fun n_110=>ckQ (aA7 s_108) (exI .u8 (aBv s_108) (fun n_111=>exW .u32 n_111 (fun n_112=>exW .u32 (n_112*256) (fun n_113=>exW .u32 (gD n_110 n_113) (fun n_114=>ckQ (aA0 s_108) (exI
 .u8 (aCp s_108) (fun n_115=>exW .u32 n_115 (fun n_116=>exW .u32 (n_116*65536) (fun n_117=>exW .u32 (gD n_114 n_117) (fun n_118=>ckQ (aBb s_108) (exI .u8 (aBo s_108) (fun n_119=>exW .u32 n_119 (fun n_120=>exW .u32 (n_120
 * 16777216) (fun n_121=>exW .u32 (gD n_118 n_121) (fun n_122=>ckQ (Nat.ble 32 s_2.length&&aA5 s_2) (exS (.str ((s_2.drop 32).take (s_2.length-32))) (fun s_123=>ckQ (aB3 s_123) (exI .u8 (aB9 s_123) (fun n_124=>exW .u32
 n_124 (fun n_125=>ckQ (aA7 s_123) (exI .u8 (aBv s_123) (fun n_126=>exW .u32 n_126 (fun n_127=>exW .u32 (n_127*256) (fun n_128=>exW .u32 (gD n_125 n_128) (fun n_129=>ckQ (aA0 s_123) (exI .u8 (aCp s_123) (fun n_130=>exW
 .u32 n_130 (fun n_131=>exW .u32 (n_131*65536) (fun n_132=>exW .u32 (gD n_129 n_132) (fun n_133=>ckQ (aBb s_123) (exI .u8 (aBo s_123) (fun n_134=>exW .u32 n_134 (fun n_135=>exW .u32 (n_135*16777216) (fun n_136=>exW .u32
 (gD n_133 n_136) (fun n_137=>ckQ (Nat.ble 36 s_2.length&&aA5 s_2) (exS (.str ((s_2.drop 36).take (s_2.length-36))) (fun s_138=>ckQ (aB3 s_138) (exI .u8 (aB9 s_138) (fun n_139=>exW .u32 n_139 (fun n_140=>ckQ (aA7 s_138)
 (exI .u8 (aBv s_138) (fun n_141=>exW .u32 n_141 (fun n_142=>exW .u32 (n_142*256) (fun n_143=>exW .u32 (gD n_140 n_143) (fun n_144=>ckQ (aA0 s_138) (exI .u8 (aCp s_138) (fun n_145=>exW .u32 n_145 (fun n_146=>exW .u32
 (n_146*65536) (fun n_147=>exW .u32 (gD n_144 n_147) (fun n_148=>ckQ (aBb s_138) (exI .u8 (aBo s_138) (fun n_149=>exW .u32 n_149 (fun n_150=>exW .u32 (n_150*16777216) (fun n_151=>exW .u32 (gD n_148 n_151) (fun n_152=>
 ckQ (Nat.ble 40 s_2.length&&aA5 s_2) (exS (.str ((s_2.drop 40).take (s_2.length-40))) (fun s_153=>ckQ (aB3 s_153) (exI .u8 (aB9 s_153) (fun n_154=>exW .u32 n_154 (fun n_155=>ckQ (aA7 s_153) (exI .u8 (aBv s_153) (fun n_156=>
 exW .u32 n_156 (fun n_157=>exW .u32 (n_157*256) (fun n_158=>exW .u32 (gD n_155 n_158) (fun n_159=>ckQ (aA0 s_153) (exI .u8 (aCp s_153) (fun n_160=>exW .u32 n_160 (fun n_161=>exW .u32 (n_161*65536) (fun n_162=>exW .u32
 (gD n_159 n_162) (fun n_163=>ckQ (aBb s_153) (exI .u8 (aBo s_153) (fun n_164=>exW .u32 n_164 (fun n_165=>exW .u32 (n_165*16777216) (fun n_166=>exW .u32 (gD n_163 n_166) (fun n_167=>ckQ (Nat.ble 44 s_2.length&&aA5 s_2)
 (exS (.str ((s_2.drop 44).take (s_2.length-44))) (fun s_168=>ckQ (aB3 s_168) (exI .u8 (aB9 s_168) (fun n_169=>exW .u32 n_169 (fun n_170=>ckQ (aA7 s_168) (exI .u8 (aBv s_168) (fun n_171=>exW .u32 n_171 (fun n_172=>exW .u32
 (n_172*256) (fun n_173=>exW .u32 (gD n_170 n_173) (fun n_174=>ckQ (aA0 s_168) (exI .u8 (aCp s_168) (fun n_175=>exW .u32 n_175 (fun n_176=>exW .u32 (n_176*65536) (fun n_177=>exW .u32 (gD n_174 n_177) (fun n_178=>ckQ
 (aBb s_168) (exI .u8 (aBo s_168) (fun n_179=>exW .u32 n_179 (fun n_180=>exW .u32 (n_180*16777216) (fun n_181=>exW .u32 (gD n_178 n_181) (fun n_182=>ckQ (Nat.ble 48 s_2.length&&aA5 s_2) (exS (.str ((s_2.drop 48).take
 (s_2.length-48))) (fun s_183=>ckQ (aB3 s_183) (exI .u8 (aB9 s_183) (fun n_184=>exW .u32 n_184 (fun n_185=>ckQ (aA7 s_183) (exI .u8 (aBv s_183) (fun n_186=>exW .u32 n_186 (fun n_187=>exW .u32 (n_187*256) (fun n_188=>exW
 .u32 (gD n_185 n_188) (fun n_189=>ckQ (aA0 s_183) (exI .u8 (aCp s_183) (fun n_190=>exW .u32 n_190 (fun n_191=>exW .u32 (n_191*65536) (fun n_192=>exW .u32 (gD n_189 n_192) (fun n_193=>ckQ (aBb s_183) (exI .u8 (aBo s_183)
 (fun n_194=>exW .u32 n_194 (fun n_195=>exW .u32 (n_195*16777216) (fun n_196=>exW .u32 (gD n_193 n_196) (fun n_197=>ckQ (Nat.ble 52 s_2.length&&aA5 s_2) (exS (.str ((s_2.drop 52).take (s_2.length-52))) (fun s_198=>ckQ
 (aB3 s_198) (exI .u8 (aB9 s_198) (fun n_199=>exW .u32 n_199 (fun n_200=>ckQ (aA7 s_198) (exI .u8 (aBv s_198) (fun n_201=>exW .u32 n_201 (fun n_202=>exW .u32 (n_202*256) (fun n_203=>exW .u32 (gD n_200 n_203) (fun n_204=>
 ckQ (aA0 s_198) (exI .u8 (aCp s_198) (fun n_205=>exW .u32 n_205 (fun n_206=>exW .u32 (n_206*65536) (fun n_207=>exW .u32 (gD n_204 n_207) (fun n_208=>ckQ (aBb s_198) (exI .u8 (aBo s_198) (fun n_209=>exW .u32 n_209 (fun
 n_210=>exW .u32 (n_210*16777216) (fun n_211=>exW .u32 (gD n_208 n_211) (fun n_212=>ckQ (Nat.ble 56 s_2.length&&aA5 s_2) (exS (.str ((s_2.drop 56).take (s_2.length-56))) (fun s_213=>ckQ (aB3 s_213) (exI .u8 (aB9 s_213)
 (fun n_214=>exW .u32 n_214 (fun n_215=>ckQ (aA7 s_213) (exI .u8 (aBv s_213) (fun n_216=>exW .u32 n_216 (fun n_217=>exW .u32 (n_217*256) (fun n_218=>exW .u32 (gD n_215 n_218) (fun n_219=>ckQ (aA0 s_213) (exI .u8 (aCp
 s_213) (fun n_220=>exW .u32 n_220 (fun n_221=>exW .u32 (n_221*65536) (fun n_222=>exW .u32 (gD n_219 n_222) (fun n_223=>ckQ (aBb s_213) (exI .u8 (aBo s_213) (fun n_224=>exW .u32 n_224 (fun n_225=>exW .u32 (n_225 *
 16777216) (fun n_226=>exW .u32 (gD n_223 n_226) (fun n_227=>ckQ (Nat.ble 60 s_2.length&&aA5 s_2) (exS (.str ((s_2.drop 60).take (s_2.length-60))) (fun s_228=>ckQ (aB3 s_228) (exI .u8 (aB9 s_228) (fun n_229=>exW .u32 n_229
 (fun n_230=>ckQ (aA7 s_228) (exI .u8 (aBv s_228) (fun n_231=>exW .u32 n_231 (fun n_232=>exW .u32 (n_232*256) (fun n_233=>exW .u32 (gD n_230 n_233) (fun n_234=>ckQ (aA0 s_228) (exI .u8 (aCp s_228) (fun n_235=>exW .u32
 n_235 (fun n_236=>exW .u32 (n_236*65536) (fun n_237=>exW .u32 (gD n_234 n_237) (fun n_238=>ckQ (aBb s_228) (exI .u8 (aBo s_228) (fun n_239=>exW .u32 n_239 (fun n_240=>exW .u32 (n_240*16777216) (fun n_241=>exW .u32 (gD
 n_238 n_241) (fun n_242=>Q (.ret (.agg [.int .u32 n_17,.int .u32 n_32,.int .u32 n_47,.int .u32 n_62,.int .u32 n_77,.int .u32 n_92,.int .u32 n_107,.int .u32 n_122,.int .u32 n_137,.int .u32 n_152,.int .u32 n_167,.int .u32 n_182,
 .int .u32 n_197,.int .u32 n_212,.int .u32 n_227,.int .u32 n_242])) []
 {})))))))))))))))))))))))))))))))))))))))))))))))))))))))))))))))))))))))))))))))))))))))))))))))))))))))))))))))))))))))))))))))))))))))))))))))))))))))))))))))))))))))))))))))))))))))))))))))))))))))))))))))))))))))))))))))))))))))))))))))))))))))))))))))))))))))))))))))))))))))))))))))))))))))))))))))))))))))))))))))))))))))
 := by kernel_rfl

theorem aM3 (key nonce:List UInt8) (Q:Out→List Blk→Gh→Prop) (h1:key.length=32) (h2:nonce.length=12) (hq:Q (.ret (.agg (dK key nonce).cells)) [] {}):∃hv hb,aFg hv hb key nonce Q:=by
 obtain ⟨hv,hb',e⟩:∃hv hb,aFg hv hb key nonce Q=_:=⟨_,_,bLp key nonce Q⟩
 refine ⟨hv,hb',e.mpr ?_⟩
 delta aA5 aB3 aB9 aA7 aBv gD aA0 aCp aBb aBo
 clear e
 have hl:(aEz key nonce).length=64:=by simp[aEz,aDr,h1,h2]
 obtain ⟨s,hs⟩:∃s,aEz key nonce=s:=⟨_,rfl⟩
 have hf:dK key nonce=⟨bQ s 0,bQ s 4,bQ s 8,bQ s 12,bQ s 16,bQ s 20,bQ s 24,bQ s 28,bQ s 32,bQ s 36,bQ s 40,bQ s 44,bQ s 48,bQ s 52,bQ s 56,bQ s 60⟩:=by rw[dK,hs]
 refine ckI (by simp[h1]) ⟨_,rfl,ckI (by simp[h1]) ⟨_,rfl,ckI (by simp[h1,h2]) ⟨s,by rw[←hs];rfl, ?_⟩⟩⟩
 rw[hs] at hl
 rw[hf] at hq
 refine lC (m:=0) (by first | (simp only[bN9,bOh,bOg,bOc,aC,bOi,aN,aA,bN8,bOb,bOe,bOa,bOo,bOp,bOf,bOd,bOj,ne_eq];done) | (simp only[bN9,bOh,bOg,bOc,aC,bOi,aN,aA,bN8,bOb,bOe,bOa,bOo,bOp,bOf,bOd,bOj,ne_eq];omega) | rfl | (simp;done) | (simp;omega)) (by omega) ?_
 refine lC (m:=4) (by first | (simp only[bN9,bOh,bOg,bOc,aC,bOi,aN,aA,bN8,bOb,bOe,bOa,bOo,bOp,bOf,bOd,bOj,ne_eq];done) | (simp only[bN9,bOh,bOg,bOc,aC,bOi,aN,aA,bN8,bOb,bOe,bOa,bOo,bOp,bOf,bOd,bOj,ne_eq];omega) | rfl | (simp;done) | (simp;omega)) (by omega) ?_
 refine lC (m:=8) (by first | (simp only[bN9,bOh,bOg,bOc,aC,bOi,aN,aA,bN8,bOb,bOe,bOa,bOo,bOp,bOf,bOd,bOj,ne_eq];done) | (simp only[bN9,bOh,bOg,bOc,aC,bOi,aN,aA,bN8,bOb,bOe,bOa,bOo,bOp,bOf,bOd,bOj,ne_eq];omega) | rfl | (simp;done) | (simp;omega)) (by omega) ?_
 refine lC (m:=12) (by first | (simp only[bN9,bOh,bOg,bOc,aC,bOi,aN,aA,bN8,bOb,bOe,bOa,bOo,bOp,bOf,bOd,bOj,ne_eq];done) | (simp only[bN9,bOh,bOg,bOc,aC,bOi,aN,aA,bN8,bOb,bOe,bOa,bOo,bOp,bOf,bOd,bOj,ne_eq];omega) | rfl | (simp;done) | (simp;omega)) (by omega) ?_
 refine lC (m:=16) (by first | (simp only[bN9,bOh,bOg,bOc,aC,bOi,aN,aA,bN8,bOb,bOe,bOa,bOo,bOp,bOf,bOd,bOj,ne_eq];done) | (simp only[bN9,bOh,bOg,bOc,aC,bOi,aN,aA,bN8,bOb,bOe,bOa,bOo,bOp,bOf,bOd,bOj,ne_eq];omega) | rfl | (simp;done) | (simp;omega)) (by omega) ?_
 refine lC (m:=20) (by first | (simp only[bN9,bOh,bOg,bOc,aC,bOi,aN,aA,bN8,bOb,bOe,bOa,bOo,bOp,bOf,bOd,bOj,ne_eq];done) | (simp only[bN9,bOh,bOg,bOc,aC,bOi,aN,aA,bN8,bOb,bOe,bOa,bOo,bOp,bOf,bOd,bOj,ne_eq];omega) | rfl | (simp;done) | (simp;omega)) (by omega) ?_
 refine lC (m:=24) (by first | (simp only[bN9,bOh,bOg,bOc,aC,bOi,aN,aA,bN8,bOb,bOe,bOa,bOo,bOp,bOf,bOd,bOj,ne_eq];done) | (simp only[bN9,bOh,bOg,bOc,aC,bOi,aN,aA,bN8,bOb,bOe,bOa,bOo,bOp,bOf,bOd,bOj,ne_eq];omega) | rfl | (simp;done) | (simp;omega)) (by omega) ?_
 refine lC (m:=28) (by first | (simp only[bN9,bOh,bOg,bOc,aC,bOi,aN,aA,bN8,bOb,bOe,bOa,bOo,bOp,bOf,bOd,bOj,ne_eq];done) | (simp only[bN9,bOh,bOg,bOc,aC,bOi,aN,aA,bN8,bOb,bOe,bOa,bOo,bOp,bOf,bOd,bOj,ne_eq];omega) | rfl | (simp;done) | (simp;omega)) (by omega) ?_
 refine lC (m:=32) (by first | (simp only[bN9,bOh,bOg,bOc,aC,bOi,aN,aA,bN8,bOb,bOe,bOa,bOo,bOp,bOf,bOd,bOj,ne_eq];done) | (simp only[bN9,bOh,bOg,bOc,aC,bOi,aN,aA,bN8,bOb,bOe,bOa,bOo,bOp,bOf,bOd,bOj,ne_eq];omega) | rfl | (simp;done) | (simp;omega)) (by omega) ?_
 refine lC (m:=36) (by first | (simp only[bN9,bOh,bOg,bOc,aC,bOi,aN,aA,bN8,bOb,bOe,bOa,bOo,bOp,bOf,bOd,bOj,ne_eq];done) | (simp only[bN9,bOh,bOg,bOc,aC,bOi,aN,aA,bN8,bOb,bOe,bOa,bOo,bOp,bOf,bOd,bOj,ne_eq];omega) | rfl | (simp;done) | (simp;omega)) (by omega) ?_
 refine lC (m:=40) (by first | (simp only[bN9,bOh,bOg,bOc,aC,bOi,aN,aA,bN8,bOb,bOe,bOa,bOo,bOp,bOf,bOd,bOj,ne_eq];done) | (simp only[bN9,bOh,bOg,bOc,aC,bOi,aN,aA,bN8,bOb,bOe,bOa,bOo,bOp,bOf,bOd,bOj,ne_eq];omega) | rfl | (simp;done) | (simp;omega)) (by omega) ?_
 refine lC (m:=44) (by first | (simp only[bN9,bOh,bOg,bOc,aC,bOi,aN,aA,bN8,bOb,bOe,bOa,bOo,bOp,bOf,bOd,bOj,ne_eq];done) | (simp only[bN9,bOh,bOg,bOc,aC,bOi,aN,aA,bN8,bOb,bOe,bOa,bOo,bOp,bOf,bOd,bOj,ne_eq];omega) | rfl | (simp;done) | (simp;omega)) (by omega) ?_
 refine lC (m:=48) (by first | (simp only[bN9,bOh,bOg,bOc,aC,bOi,aN,aA,bN8,bOb,bOe,bOa,bOo,bOp,bOf,bOd,bOj,ne_eq];done) | (simp only[bN9,bOh,bOg,bOc,aC,bOi,aN,aA,bN8,bOb,bOe,bOa,bOo,bOp,bOf,bOd,bOj,ne_eq];omega) | rfl | (simp;done) | (simp;omega)) (by omega) ?_
 refine lC (m:=52) (by first | (simp only[bN9,bOh,bOg,bOc,aC,bOi,aN,aA,bN8,bOb,bOe,bOa,bOo,bOp,bOf,bOd,bOj,ne_eq];done) | (simp only[bN9,bOh,bOg,bOc,aC,bOi,aN,aA,bN8,bOb,bOe,bOa,bOo,bOp,bOf,bOd,bOj,ne_eq];omega) | rfl | (simp;done) | (simp;omega)) (by omega) ?_
 refine lC (m:=56) (by first | (simp only[bN9,bOh,bOg,bOc,aC,bOi,aN,aA,bN8,bOb,bOe,bOa,bOo,bOp,bOf,bOd,bOj,ne_eq];done) | (simp only[bN9,bOh,bOg,bOc,aC,bOi,aN,aA,bN8,bOb,bOe,bOa,bOo,bOp,bOf,bOd,bOj,ne_eq];omega) | rfl | (simp;done) | (simp;omega)) (by omega) ?_
 refine lC (m:=60) (by first | (simp only[bN9,bOh,bOg,bOc,aC,bOi,aN,aA,bN8,bOb,bOe,bOa,bOo,bOp,bOf,bOd,bOj,ne_eq];done) | (simp only[bN9,bOh,bOg,bOc,aC,bOi,aN,aA,bN8,bOb,bOe,bOa,bOo,bOp,bOf,bOd,bOj,ne_eq];omega) | rfl | (simp;done) | (simp;omega)) (by omega) ?_
 exact hq
def aMa:Con
 | [.str key,.str nonce],H,K=>Lf (key.length=32∧nonce.length=12)∧∀w,Lf (w=dK key nonce)→K (.ret (.agg w.cells)) H
 | _,_,_=>False
theorem aSv:aF Tryz.prog gl0 163 aMa:=by
 refine aP (enters_of (by kernel_rfl)) aM fun args H Q hc => ?_
 unfold aMa at hc
 split at hc
 ·rename_i key nonce
  obtain ⟨⟨h1,h2⟩,hq⟩:=hc
  obtain ⟨hv,hb',h⟩:=aM3 key nonce (Q:=fun o H' _=>H'=[]∧(∃v,o=.ret v∧old 0 v=true∧noY v=true)∧Q o H) h1 h2 ⟨rfl,⟨_,rfl,rfl,rfl⟩,hq _ ⟨rfl⟩⟩
  exact ⟨rfl,rfl,_,1000,aT bT _ _ _,rfl,h⟩
 ·exact hc.elim
def smD:SM:=dV [(163,aMa),(210,bI7)]
theorem bGv:∀f g,smD f=some g→aF Tryz.prog gl0 f g:=bF _ (by simp only[bOr,bOx,bP3,bPj,bQe];exact ⟨aSv,aWf⟩)
def x8M (a:UInt8) (n:Nat):UInt8:=a ^^^ UInt8.ofNat n
def dF (s:List UInt8) (l:List Nat):List UInt8:=List.zipWith x8M s l
def jF (w:W16) (c:Int):Nat→List UInt8→List UInt8
 | 0,_=>[]
 | f+1,s=>if s.length≤64 then dF s (aBf w c) else dF (s.take 64) (aBf w c)++jF w (c+1) f (s.drop 64)
abbrev X68:=Nat×List UInt8×List UInt8
def bDk (w:W16) (c:Int) (s:List UInt8):LInv where
 α:=X68
 pre a:=Lf (a.2.1.length=64*a.1∧a.2.1.length+a.2.2.length=s.length∧(a.1=0∨0<a.2.2.length)∧a.1≤70∧jF w c 70 s=a.2.1++jF w (c+a.1) (70-a.1) a.2.2)
 st a:=⟨mkT [(0,.yld 0),(1,.ptr 3 16 0),(2,.ptr 4 1 0)],[⟨.grow,true,ofBytes (a.2.1++a.2.2)⟩,⟨.exact,false,[.sl 0 s.length 0 s.length 1]⟩,⟨.exact,true,[.int .i64 ((64*a.1:Nat):Int)]⟩,⟨.exact,true,w.cells⟩,⟨.exact,true,[.int .i64 (c+(a.1:Nat))]⟩]⟩
 mu a:=71-a.1
abbrev X21:=Nat×List UInt8×List UInt8×List Nat×Nat
def aZt (w:W16) (s:List UInt8) (ce:Int) (O bc:List AV) (at0:Int):LInv where
 α:=X21
 pre a:=Lf (a.2.1.length=64*a.1∧O=ofBytes (a.2.1++a.2.2.1)∧at0=((64*a.1:Nat):Int)∧bc=aV a.2.2.2.1∧a.2.2.2.1.length=64∧a.2.2.2.2≤64∧a.2.2.2.2≤a.2.2.1.length∧a.2.1.length+a.2.2.1.length=s.length)
 st a:=⟨mkT [(10,.ptr 1 1 0),(11,.ptr 2 1 0),(12,.ptr 5 64 0),(13,.int .i64 (a.2.2.2.2:Nat))],[⟨.grow,true,ofBytes (a.2.1++(dF (a.2.2.1.take a.2.2.2.2) a.2.2.2.1++a.2.2.1.drop a.2.2.2.2))⟩,⟨.exact,false,[.sl 0 s.length 0 s.length 1]⟩,⟨.exact,true,[.int .i64 ((64*a.1+a.2.2.2.2:Nat):Int)]⟩,⟨.exact,true,w.cells⟩,⟨.exact,true,[.int .i64 ce]⟩,⟨.exact,true,bc⟩]⟩
 mu a:=64-a.2.2.2.2
def aYs (w:W16) (s:List UInt8) (S:S):List (List LInv):=match S.hp with
 | [b0,_,b2,_,b4,b5]=>(match b2.cs,b4.cs with
  | [.int _ at0],[.int _ ce]=>[[aZt w s ce b0.cs b5.cs at0]]
  | _,_=>[])
 | _=>[]
noncomputable def aB4 (hv:Nat→Option Pa) (hb:Nat→Option Bool) (w:W16) (c:Int) (s:List UInt8):Env:=
 e04 smD (fun i=>bif Nat.beq i 209000 then some (fun _=>[[bDk w c s]]) else bif Nat.beq i 117003 then some (aYs w s) else none) hv hb
noncomputable def lT (hv:Nat→Option Pa) (hb:Nat→Option Bool) (w0:W16) (key nonce:List UInt8) (c:Int) (s:List UInt8) (Q:Out→List Blk→Gh→Prop):Prop:=
 aY (aB4 hv hb w0 c s) (wpx (aB4 hv hb w0 c s) 1000) 117 [.str key,.str nonce,.int .i64 c,.str s] [] {} Q
abbrev bH2 (x_8:Nat×List UInt8×List UInt8) (s:List UInt8) (w0:W16) (c:Int):Prop:=Lf (x_8.2.1.length=64*x_8.1∧x_8.2.1.length+x_8.2.2.length=s.length∧(x_8.1=0∨0<x_8.2.2.length)∧x_8.1≤70∧jF w0 c 70 s=x_8.2.1++jF w0 (c+(x_8.1:Int)) (70-x_8.1) x_8.2.2)
abbrev aN1 (s:List UInt8):Prop:=aJ [AV.sl 0 s.length 0 s.length 1]
abbrev bKo (w0:W16):List AV:=[.int .u32 (w0.1:Int),.int .u32 (w0.2:Int),.int .u32 (w0.3:Int),.int .u32 (w0.4:Int),.int .u32 (w0.5:Int),.int .u32 (w0.6:Int),.int .u32 (w0.7:Int),.int .u32 (w0.8:Int),.int .u32 (w0.9:Int),.int .u32 (w0.10:Int),.int .u32 (w0.11:Int),.int .u32 (w0.12:Int),.int .u32 (w0.13:Int),.int .u32 (w0.14:Int),.int .u32 (w0.15:Int),.int .u32 (w0.16:Int)]
abbrev aZb (w_7:W16):List AV:=bKo w_7
abbrev aZ0:Prop:=aJ (AV.yld 0)∧aJ (AV.ptr 3 16 0)∧aJ (AV.ptr 4 1 0)∧True
abbrev bH7:List AV:=[.int .u8 0,.int .u8 0,.int .u8 0,.int .u8 0,.int .u8 0,.int .u8 0,.int .u8 0,.int .u8 0,.int .u8 0,.int .u8 0,.int .u8 0,.int .u8 0,.int .u8 0,.int .u8 0,.int .u8 0,.int .u8 0,.int .u8 0,.int .u8 0,.int .u8 0,.int .u8 0,.int .u8 0,.int .u8 0,.int .u8 0,.int .u8 0,.int .u8 0,.int .u8 0,.int .u8 0,.int .u8 0,.int .u8 0,.int .u8 0,.int .u8 0,.int .u8 0,.int .u8 0,.int .u8 0,.int .u8 0,.int .u8 0,.int .u8 0,.int .u8 0,.int .u8 0,.int .u8 0,.int .u8 0,.int .u8 0,.int .u8 0,.int .u8 0,.int .u8 0,.int .u8 0,.int .u8 0,.int .u8 0,.int .u8 0,.int .u8 0,.int .u8 0,.int .u8 0,.int .u8 0,.int .u8 0,.int .u8 0,.int .u8 0,.int .u8 0,.int .u8 0,.int .u8 0,.int .u8 0,.int .u8 0,.int .u8 0,.int .u8 0,.int .u8 0]
abbrev aD2 (l_11:List Nat):List AV:=aO bH7 0 (aV l_11)
abbrev bH5 (x_12:Nat×List UInt8×List UInt8×List Nat×Nat) (x_8:Nat×List UInt8×List UInt8) (l_11:List Nat) (s:List UInt8):Prop:=Lf (x_12.2.1.length=64*x_12.1∧ofBytes (x_8.2.1++x_8.2.2)=ofBytes (x_12.2.1++x_12.2.2.1)∧((64*x_8.1:Nat):Int)=((64*x_12.1:Nat):Int)∧aD2 l_11=aV x_12.2.2.2.1∧x_12.2.2.2.1.length=64∧x_12.2.2.2.2≤64∧x_12.2.2.2.2≤x_12.2.2.1.length∧x_12.2.1.length+x_12.2.2.1.length=s.length)
abbrev aTz (x_12:Nat×List UInt8×List UInt8×List Nat×Nat):List AV:=ofBytes (x_12.2.1++(dF (x_12.2.2.1.take x_12.2.2.2.2) x_12.2.2.2.1++x_12.2.2.1.drop x_12.2.2.2.2))
abbrev aVv (x_12:Nat×List UInt8×List UInt8×List Nat×Nat):Int:=((64*x_12.1+x_12.2.2.2.2:Nat):Int)
abbrev bAo:Prop:=aJ (AV.ptr 5 64 0)∧aJ (AV.ptr 1 1 0)∧True
abbrev aBu (x_12:Nat×List UInt8×List UInt8×List Nat×Nat) (s:List UInt8):Bool:=Nat.beq (aTz x_12).length s.length
abbrev bL8 (w_7:W16):AV:=.agg [.int .u32 (w_7.1:Int),.int .u32 (w_7.2:Int),.int .u32 (w_7.3:Int),.int .u32 (w_7.4:Int),.int .u32 (w_7.5:Int),.int .u32 (w_7.6:Int),.int .u32 (w_7.7:Int),.int .u32 (w_7.8:Int),.int .u32 (w_7.9:Int),.int .u32 (w_7.10:Int),.int .u32 (w_7.11:Int),.int .u32 (w_7.12:Int),.int .u32 (w_7.13:Int),.int .u32 (w_7.14:Int),.int .u32 (w_7.15:Int),.int .u32 (w_7.16:Int)]
abbrev aWx:AV:=.fn (Fn.func 209) [] [.ptr 3 16 0,.ptr 4 1 0]
abbrev bK5 (x_12:Nat×List UInt8×List UInt8×List Nat×Nat) (s:List UInt8) (Q:Out→List Blk→Gh→Prop) (c:Int) (x_8:Nat×List UInt8×List UInt8) (key nonce:List UInt8) (n_3 n_5:Int) (w_7:W16) (n_4 n_2 n_6:Int) (w0:W16):Prop:=exI .i64 (aVv x_12) (fun n_15=>ckQ (aBu x_12 s) (exI .i64 (s.length:Int) (fun n_16=>bif n_15==n_16 then ckQ (aBu x_12 s&&Nat.ble (0+s.length) s.length&&true&&fK (((aTz x_12).drop 0).take s.length)) (exS (.str (List.map toB (((aTz x_12).drop 0).take s.length))) (fun s_17=>Q (.ret (.tup [.str s_17,.int .i64 0])) [] (Gh.mk 0 1 []))) else exI .i64 (c+(x_8.1:Int)) (fun n_17=>exW .i64 (n_17+1) (fun n_18=>(aJ [Lp.mk 0 (T.n (T.n (T.n (T.n (T.n (T.n T.e (.bool false) T.e) (.str key) T.e) .undef (T.n T.e (.bool false) T.e)) (.str s) (T.n (T.n (T.n T.e (.str nonce) T.e) (.bool false) T.e) (.ptr 2 1 0) (T.n T.e (.int .i64 n_3) T.e))) (.str nonce) (T.n (T.n (T.n (T.n T.e (.sl 0 s.length 0 s.length 1) T.e) (.int .i64 c) T.e) (.int .i64 0) (T.n T.e (.int .i64 c) T.e)) .undef (T.n (T.n (T.n T.e (.int .i64 c) T.e) (.str s) T.e) .undef (T.n T.e (.int .i64 n_5) T.e)))) (.str key) (T.n (T.n (T.n (T.n (T.n T.e (.str s) T.e) (.str nonce) T.e) (.str []) (T.n T.e (.bool false) T.e)) .undef (T.n (T.n (T.n T.e (bL8 w_7) T.e) (.bool false) T.e) .undef (T.n T.e (.int .i64 n_4) T.e))) (.int .i64 c) (T.n (T.n (T.n (T.n T.e (.str key) T.e) (.bool true) T.e) (.ptr 1 1 0) (T.n T.e (.str s) T.e)) .undef (T.n (T.n (T.n T.e aWx T.e) (.int .i64 n_2) T.e) (.bool false) (T.n T.e (.int .i64 n_6) T.e))))) [39] (AC.region [AOper.mk (Option.some (12:Nat)) (AOp.box (AO.c (.agg bH7))) Option.none 0 0,AOper.mk Option.none (AOp.st 64 (AO.t 12) (AO.t 39)) Option.none 0 0]) (AC.block 2 (AC.seq (AC.seq (AC.region [AOper.mk (Option.some (13:Nat)) (AOp.mv (AO.c (.int .i64 0))) Option.none 0 0]) (AC.block 3 (AC.loop 117003 15360 (AC.seq (AC.seq (AC.region [AOper.mk (Option.some (40:Nat)) (AOp.mv (AO.t 13)) Option.none 0 0,AOper.mk (Option.some (41:Nat)) (AOp.bin Go.BinOp.lss Sh.it (AO.t 40) (AO.c (.int .i64 64))) Option.none 0 0,AOper.mk (Option.some (42:Nat)) (AOp.mv (AO.t 41)) Option.none 0 0,AOper.mk (Option.some (43:Nat)) (AOp.ld false 1 (AO.t 11)) (Option.some (Prod.mk (42:Nat) true)) 0 0,AOper.mk (Option.some (44:Nat)) (AOp.ld false 1 (AO.t 10)) (Option.some (Prod.mk (42:Nat) true)) 0 0,AOper.mk (Option.some (45:Nat)) (AOp.lenL (AO.t 44)) (Option.some (Prod.mk (42:Nat) true)) 0 0,AOper.mk (Option.some (46:Nat)) (AOp.bin Go.BinOp.lss Sh.it (AO.t 43) (AO.t 45)) (Option.some (Prod.mk (42:Nat) true)) 0 0,AOper.mk (Option.some (47:Nat)) (AOp.pick (AO.t 42) (AO.t 46) (AO.c (.bool false))) Option.none 0 0]) (AC.cond (AO.t 47) AC.skip (AC.exit 3))) (AC.seq (AC.block 4 (AC.seq (AC.drawn [AOper.mk (Option.some (50:Nat)) (AOp.ld false 1 (AO.t 10)) Option.none 0 0,AOper.mk (Option.some (51:Nat)) (AOp.ld false 1 (AO.t 11)) Option.none 1 0,AOper.mk (Option.some (52:Nat)) (AOp.iaL 1 (AO.t 50) (AO.t 51)) Option.none 2 3,AOper.mk (Option.some (53:Nat)) (AOp.ld false 1 (AO.t 52)) Option.none 3 7,AOper.mk (Option.some (54:Nat)) (AOp.mv (AO.t 13)) Option.none 4 0,AOper.mk (Option.some (55:Nat)) (AOp.iaA 64 1 (AO.t 12) (AO.t 54)) Option.none 5 16,AOper.mk (Option.some (56:Nat)) (AOp.ld false 1 (AO.t 55)) Option.none 6 48,AOper.mk (Option.some (57:Nat)) (AOp.bin Go.BinOp.xor Sh.it (AO.t 53) (AO.t 56)) Option.none 7 127,AOper.mk (Option.some (58:Nat)) (AOp.iaL 1 (AO.t 50) (AO.t 51)) Option.none 8 255,AOper.mk Option.none (AOp.st 1 (AO.t 58) (AO.t 57)) Option.none 9 511]) (AC.region [AOper.mk (Option.some (59:Nat)) (AOp.ld false 1 (AO.t 11)) Option.none 0 0,AOper.mk (Option.some (60:Nat)) (AOp.bin Go.BinOp.add Sh.it (AO.t 59) (AO.c (.int .i64 1))) Option.none 0 0,AOper.mk Option.none (AOp.st 1 (AO.t 11) (AO.t 60)) Option.none 0 0]))) (AC.region [AOper.mk (Option.some (48:Nat)) (AOp.mv (AO.t 13)) Option.none 0 0,AOper.mk (Option.some (49:Nat)) (AOp.bin Go.BinOp.add Sh.it (AO.t 48) (AO.c (.int .i64 1))) Option.none 0 0,AOper.mk (Option.some (13:Nat)) (AOp.mv (AO.t 49)) Option.none 0 0])))))) (AC.seq (AC.region [AOper.mk (Option.some (61:Nat)) (AOp.ld false 1 (AO.t 11)) Option.none 0 0,AOper.mk (Option.some (62:Nat)) (AOp.ld false 1 (AO.t 10)) Option.none 0 0,AOper.mk (Option.some (63:Nat)) (AOp.lenL (AO.t 62)) Option.none 0 0,AOper.mk (Option.some (64:Nat)) (AOp.bin Go.BinOp.eql Sh.it (AO.t 61) (AO.t 63)) Option.none 0 0]) (AC.cond (AO.t 64) (AC.exit 1) AC.skip)))) Lst.ready 117]∧(1:Nat)=(1:Nat))∧∃y_19:Nat×List UInt8×List UInt8,bH2 y_19 s w0 c∧71-y_19.1<71-x_8.1∧aTz x_12=ofBytes (y_19.2.1++y_19.2.2)∧aN1 s∧[AV.int .i64 (aVv x_12)]=[AV.int .i64 ((64*y_19.1:Nat):Int)]∧aJ (bKo w0)∧[AV.int .i64 n_18]=[AV.int .i64 (c+(y_19.1:Int))]∧aZ0)))))
abbrev bHd:Out:=.ret (.tup [.str [],.int .i64 2])
theorem bBw (w0:W16) (key:List UInt8) (nonce:List UInt8) (c:Int) (s:List UInt8) (Q:Out→List Blk→Gh→Prop):lT (bD [(663560,.int .i64),(663564,.int .i64),(479254,.int .i64),(479259,.int .i64),(479260,.int
 .i64),(479261,.int .i64),(479262,.int .i64),(856070,.int .i64),(479275,.int .i64),(479277,.int .i64),(479283,.int .i64),(479285,.int .u8),(479288,.int .u8),(479289,.int .u8),(479291,.int .i64),(479292,.int .i64),
 (479281,.int .i64),(479293,.int .i64),(479295,.int .i64),(479298,.str),(856073,.int .i64),(856074,.int .i64)]) (bE []) w0 key nonce c s Q=(exI .i64 (key.length:Int) (fun n_0=>bif n_0==32 then exI .i64 (nonce.length :
 Int) (fun n_1=>bif n_1==12 then bif decide (c≥0) then bif decide (c<4294967296) then exI .i64 (s.length:Int) (fun n_2=>bif decide (n_2>4096) then Q (.ret (.tup [.str [],.int .i64 3])) [] {} else exI .i64 (s.length:Int)
 (fun n_3=>exW .i64 (n_3+63) (fun n_4=>exW .i64 (n_4.tdiv 64) (fun n_5=>exW .i64 (c+n_5) (fun n_6=>bif decide (n_6>4294967296) then Q (.ret (.tup [.str [],.int .i64 6])) [] {} else Lf (key.length=32∧nonce.length=12)∧∀
 w_7:W16,Lf (w_7=dK key nonce)→(∃x_8:Nat×List UInt8×List UInt8,bH2 x_8 s w0 c∧ckQ (aL 0 (ofBytes s)==true) (ofBytes s=ofBytes (x_8.2.1++x_8.2.2)∧aN1 s∧[AV.int .i64 0]=[AV.int .i64 ((64*x_8.1:Nat) :
 Int)]∧aZb w_7=aZb w0∧[AV.int .i64 c]=[AV.int .i64 (c+(x_8.1:Int))]∧aZ0))∧∀x_8:Nat×List UInt8×List UInt8,bH2 x_8 s w0 c→exI .i64 (c+(x_8.1:Int)) (fun n_9=>∃w_10:W16,Lf (aZb w0=aZb w_10)∧∀l_11
 : List Nat,Lf (l_11=aBf w_10 n_9)→ckQ (Nat.beq (aV l_11).length 64&&fJ (aV l_11)&&true) ((∃x_12:Nat×List UInt8×List UInt8×List Nat×Nat,bH5 x_12 x_8 l_11 s∧ofBytes (x_8.2.1++x_8.2.2)=aTz x_12 ∧
 aN1 s∧[AV.int .i64 ((64*x_8.1:Nat):Int)]=[AV.int .i64 (aVv x_12)]∧aJ (aZb w0)∧aJ [AV.int .i64 (c+(x_8.1:Int))]∧ckQ (aL 0 (aV l_11)==true) (aJ (aD2 l_11)∧aJ (AV.ptr 2 1 0)∧AV.int .i64 0 =
 AV.int .i64 (x_12.2.2.2.2:Int)∧bAo))∧∀x_12:Nat×List UInt8×List UInt8×List Nat×Nat,bH5 x_12 x_8 l_11 s→bif decide ((x_12.2.2.2.2:Int)<64) then exI .i64 (aVv x_12) (fun n_13=>ckQ (aBu x_12 s) (exI .i64
 (s.length:Int) (fun n_14=>bif decide (n_13<n_14) then exI .i64 (aVv x_12) (fun n_15=>ckQ (decide (0≤n_15)&&Nat.blt n_15.toNat s.length&&aBu x_12 s&&true) (ckQ (aBu x_12 s&&Nat.blt (0+n_15.toNat*1) s.length) (exV
 .u8 ((((aTz x_12).drop (0+n_15.toNat*1)).take 1).getD 0 AV.undef) (fun n_16=>ckQ (Nat.blt (x_12.2.2.2.2:Int).toNat 64&&Nat.beq (aD2 l_11).length 64) (ckQ (Nat.beq (aD2 l_11).length 64&&Nat.blt (0+(x_12.2.2.2.2 :
 Int).toNat*1) 64) (exV .u8 ((((aD2 l_11).drop (0+(x_12.2.2.2.2:Int).toNat*1)).take 1).getD 0 AV.undef) (fun n_17=>exW .u8 (((n_16%256).toNat ^^^ (n_17%256).toNat:Nat):Int) (fun n_18=>ckQ (decide (0≤n_15)&&Nat.blt
 n_15.toNat s.length&&aBu x_12 s&&true) (ckQ (aBu x_12 s&&Nat.ble (0+n_15.toNat*1+1) s.length&&true&&true&&true) (exI .i64 (aVv x_12) (fun n_19=>exW .i64 (n_19+1) (fun n_20=>exW .i64 ((x_12.2.2.2.2:Int)+1)
 (fun n_21=>(aJ [Lp.mk 0 (T.n (T.n (T.n (T.n (T.n (T.n T.e (.bool false) T.e) (.str key) T.e) .undef (T.n T.e (.bool false) T.e)) (.str s) (T.n (T.n (T.n T.e (.str nonce) T.e) (.bool false) T.e) (.ptr 2 1 0) (T.n T.e (.int .i64 n_3)
 T.e))) (.str nonce) (T.n (T.n (T.n (T.n T.e (.sl 0 s.length 0 s.length 1) T.e) (.int .i64 c) T.e) (.int .i64 0) (T.n T.e (.int .i64 c) T.e)) .undef (T.n (T.n (T.n T.e (.int .i64 c) T.e) (.str s) T.e) .undef (T.n T.e (.int .i64 n_5) T.e))))
 (.str key) (T.n (T.n (T.n (T.n (T.n T.e (.str s) T.e) (.str nonce) T.e) (.str []) (T.n T.e (.bool false) T.e)) .undef (T.n (T.n (T.n T.e (bL8 w_7) T.e) (.bool false) T.e) .undef (T.n T.e (.int .i64 n_4) T.e))) (.int .i64 c) (T.n (T.n (T.n
 (T.n T.e (.str key) T.e) (.bool true) T.e) (.ptr 1 1 0) (T.n T.e (.str s) T.e)) .undef (T.n (T.n (T.n T.e aWx T.e) (.int .i64 n_2) T.e) (.bool false) (T.n T.e (.int .i64 n_6) T.e))))) [39] (AC.region [AOper.mk (Option.some (12:Nat))
 (AOp.box (AO.c (.agg bH7))) Option.none 0 0,AOper.mk Option.none (AOp.st 64 (AO.t 12) (AO.t 39)) Option.none 0 0]) (AC.block 2 (AC.seq (AC.seq (AC.region [AOper.mk (Option.some (13:Nat)) (AOp.mv (AO.c (.int .i64 0))) Option.none 0 0])
 (AC.block 3 (AC.loop 117003 15360 (AC.seq (AC.seq (AC.region [AOper.mk (Option.some (40:Nat)) (AOp.mv (AO.t 13)) Option.none 0 0,AOper.mk (Option.some (41:Nat)) (AOp.bin Go.BinOp.lss Sh.it (AO.t 40) (AO.c (.int .i64 64))) Option.none
 0 0,AOper.mk (Option.some (42:Nat)) (AOp.mv (AO.t 41)) Option.none 0 0,AOper.mk (Option.some (43:Nat)) (AOp.ld false 1 (AO.t 11)) (Option.some (Prod.mk (42:Nat) true)) 0 0,AOper.mk (Option.some (44:Nat)) (AOp.ld false 1 (AO.t
 10)) (Option.some (Prod.mk (42:Nat) true)) 0 0,AOper.mk (Option.some (45:Nat)) (AOp.lenL (AO.t 44)) (Option.some (Prod.mk (42:Nat) true)) 0 0,AOper.mk (Option.some (46:Nat)) (AOp.bin Go.BinOp.lss Sh.it (AO.t 43) (AO.t 45))
 (Option.some (Prod.mk (42:Nat) true)) 0 0,AOper.mk (Option.some (47:Nat)) (AOp.pick (AO.t 42) (AO.t 46) (AO.c (.bool false))) Option.none 0 0]) (AC.cond (AO.t 47) AC.skip (AC.exit 3))) (AC.seq (AC.block 4 (AC.seq (AC.drawn [AOper.mk
 (Option.some (50:Nat)) (AOp.ld false 1 (AO.t 10)) Option.none 0 0,AOper.mk (Option.some (51:Nat)) (AOp.ld false 1 (AO.t 11)) Option.none 1 0,AOper.mk (Option.some (52:Nat)) (AOp.iaL 1 (AO.t 50) (AO.t 51)) Option.none 2 3,AOper.mk
 (Option.some (53:Nat)) (AOp.ld false 1 (AO.t 52)) Option.none 3 7,AOper.mk (Option.some (54:Nat)) (AOp.mv (AO.t 13)) Option.none 4 0,AOper.mk (Option.some (55:Nat)) (AOp.iaA 64 1 (AO.t 12) (AO.t 54)) Option.none 5 16,AOper.mk
 (Option.some (56:Nat)) (AOp.ld false 1 (AO.t 55)) Option.none 6 48,AOper.mk (Option.some (57:Nat)) (AOp.bin Go.BinOp.xor Sh.it (AO.t 53) (AO.t 56)) Option.none 7 127,AOper.mk (Option.some (58:Nat)) (AOp.iaL 1 (AO.t 50) (AO.t 51))
 Option.none 8 255,AOper.mk Option.none (AOp.st 1 (AO.t 58) (AO.t 57)) Option.none 9 511]) (AC.region [AOper.mk (Option.some (59:Nat)) (AOp.ld false 1 (AO.t 11)) Option.none 0 0,AOper.mk (Option.some (60:Nat)) (AOp.bin Go.BinOp.add
 Sh.it (AO.t 59) (AO.c (.int .i64 1))) Option.none 0 0,AOper.mk Option.none (AOp.st 1 (AO.t 11) (AO.t 60)) Option.none 0 0]))) (AC.region [AOper.mk (Option.some (48:Nat)) (AOp.mv (AO.t 13)) Option.none 0 0,AOper.mk (Option.some (49 :
 Nat)) (AOp.bin Go.BinOp.add Sh.it (AO.t 48) (AO.c (.int .i64 1))) Option.none 0 0,AOper.mk (Option.some (13:Nat)) (AOp.mv (AO.t 49)) Option.none 0 0])))))) (AC.seq (AC.region [AOper.mk (Option.some (61:Nat)) (AOp.ld false 1 (AO.t 11))
 Option.none 0 0,AOper.mk (Option.some (62:Nat)) (AOp.ld false 1 (AO.t 10)) Option.none 0 0,AOper.mk (Option.some (63:Nat)) (AOp.lenL (AO.t 62)) Option.none 0 0,AOper.mk (Option.some (64:Nat)) (AOp.bin Go.BinOp.eql Sh.it (AO.t 61)
 (AO.t 63)) Option.none 0 0]) (AC.cond (AO.t 64) (AC.exit 1) AC.skip)))) Lst.busy 117]∧(1:Nat)=(1:Nat))∧∃y_22:Nat×List UInt8×List UInt8×List Nat×Nat,bH5 y_22 x_8 l_11 s∧64-y_22.2.2.2.2<64-x_12.2.2.2.2 ∧
 aO (aTz x_12) (0+n_15.toNat*1) [.int .u8 n_18]=aTz y_22∧aN1 s∧[AV.int .i64 n_20]=[AV.int .i64 (aVv y_22)]∧aJ (aZb w0)∧aJ [AV.int .i64 (c+(x_8.1:Int))]∧aJ (aD2 l_11)∧aJ (AV.ptr 2 1 0)∧AV.int
 .i64 n_21=AV.int .i64 (y_22.2.2.2.2:Int)∧bAo))))))))))))) else bK5 x_12 s Q c x_8 key nonce n_3 n_5 w_7 n_4 n_2 n_6 w0))) else bK5 x_12 s Q c x_8 key nonce n_3 n_5 w_7 n_4 n_2 n_6 w0))))))) else Q bHd [] {} else Q bHd [] {}
 else Q bHd [] {}) else Q bHd [] {})):=by kernel_rfl


theorem aH (l:List UInt8):(ofBytes l).length=l.length:=by simp[ofBytes]
theorem aK (l:List UInt8):aL 0 (ofBytes l)=true:=by
 induction l with
 | nil=>rfl
 | cons x l ih=>simpa [ofBytes,aL,old] using ih
theorem bEq (l:List Nat):aL 0 (aV l)=true:=(aFm l).1
theorem jP (l:List UInt8):fK (ofBytes l)=true:=by
 induction l with
 | nil=>rfl
 | cons x l ih=>simpa [ofBytes,fK] using ih
theorem bBh {a b:List UInt8} (h:ofBytes a=ofBytes b):a=b:=by
 induction a generalizing b with
 | nil=>cases b with | nil=>rfl | cons y ys=>simp[ofBytes] at h
 | cons x xs ih=>cases b with
  | nil=>simp[ofBytes] at h
  | cons y ys=>
   simp only[ofBytes,bO2,bP6,AV.int.injEq,bOp,Int.natCast_inj] at h
   rw[bQ9.1 h.1,ih h.2]

theorem bEl {a b:List Nat} (h:aV a=aV b):a=b:=by
 induction a generalizing b with
 | nil=>cases b with | nil=>rfl | cons y ys=>simp[aV] at h
 | cons x xs ih=>cases b with
  | nil=>simp[aV] at h
  | cons y ys=>
   simp only[aV,bO2,bP6,AV.int.injEq,bOp,Int.natCast_inj] at h
   rw[h.1,ih h.2]
theorem ldB {L:List UInt8} {j m:Nat} (hj:j<L.length) (hm:m=j) {K:Int→Prop} (hk:K ((L.getD j 0).toNat:Int)):∃n:Int,(List.take 1 (List.drop m (ofBytes L))).getD 0 AV.undef=AV.int .u8 n∧K n:=by
 subst hm
 refine ⟨_, ?_,hk⟩
 rw[bOs,bO9,if_pos (by omega),bPr,ofBytes,bRm,bQb,bOq hj]
 simp[hj]
theorem ld8 {l:List Nat} {j m:Nat} (hj:j<l.length) (hm:m=j) {K:Int→Prop} (hk:K ((l.getD j 0:Nat):Int)):∃n:Int,(List.take 1 (List.drop m (aV l))).getD 0 AV.undef=AV.int .u8 n∧K n:=by
 subst hm
 refine ⟨_, ?_,hk⟩
 rw[bOs,bO9,if_pos (by omega),bPr,aV,bRm,bQb,bOq hj]
 simp[hj]
theorem stB {L:List UInt8} {j m:Nat} {b:UInt8} (hj:j<L.length) (hm:m=j):aO (ofBytes L) m [AV.int .u8 (b.toNat:Int)]=ofBytes (L.set j b):=by
 subst hm
 rw[bSr,if_pos hj]
 simp[aO,ofBytes]
theorem bNo (a:UInt8) (n:Nat):IntKind.wrap .u8 (((((a.toNat:Int)%256).toNat ^^^ ((n:Int)%256).toNat:Nat)):Int)=((x8M a n).toNat:Int):=by
 have h1:((a.toNat:Int)%256).toNat=a.toNat:=by have:=a.toNat_lt;omega
 have h2:((n:Int)%256).toNat=n%256:=by omega
 rw[h1,h2,iF,x8M,UInt8.toNat_xor,bSq]
 congr 1
 exact bPw (bTi (n:=8) a.toNat_lt (bRc _ (by omega)))
theorem yT (s:List UInt8) (l:List Nat):(dF s l).length=min s.length l.length:=by simp[dF]
theorem aNo {r:List UInt8} {l:List Nat} {i:Nat} (h1:i<r.length) (h2:i<l.length):dF (r.take (i+1)) l=dF (r.take i) l++[x8M (r.getD i 0) (l.getD i 0)]:=by
 apply List.ext_getElem
 ·simp[dF];omega
 ·intro j hj1 hj2
  simp only[dF,bQv,bOu] at hj1
  by_cases h:j<i
  ·rw[List.getElem_append_left (by simp[dF];omega)]
   simp[dF]
  ·obtain rfl:j=i:=by omega
   rw[List.getElem_append_right (by simp[dF];omega)]
   simp[dF,h1,h2]
theorem set_mid {dn Z D:List UInt8} {j:Nat} {x b:UInt8} (hj:j=dn.length+Z.length):(dn++(Z++x::D)).set j b=dn++(Z++b::D):=by
 subst hj
 rw[bRe _ _ (by omega),bRe _ _ (by omega)]
 simp

theorem aLm (key nonce:List UInt8) (c:Int) (s:List UInt8) (w0:W16) (hw0:w0=dK key nonce) (Q:Out→List Blk→Gh→Prop) (hq1:rightM key nonce c=false→Q (.ret (.tup [.str [],.int .i64 2])) [] {})
  (hq2:rightM key nonce c=true→4096<s.length→Q (.ret (.tup [.str [],.int .i64 3])) [] {})
  (hq3:rightM key nonce c=true→s.length≤4096→4294967296<c+((s.length:Int)+63)/64→Q (.ret (.tup [.str [],.int .i64 6])) [] {})
  (hq4:rightM key nonce c=true→s.length≤4096→c+((s.length:Int)+63)/64≤4294967296→Q (.ret (.tup [.str (jF w0 c 70 s),.int .i64 0])) [] ⟨0,1,[]⟩):∃hv hb,lT hv hb w0 key nonce c s Q:=by
 obtain ⟨hv,hb',e⟩:∃hv hb,lT hv hb w0 key nonce c s Q=_:=⟨_,_,bBw w0 key nonce c s Q⟩
 refine ⟨hv,hb',e.mpr ?_⟩
 delta bH2 aN1 bKo aZb aZ0 bH7 aD2 bH5 aTz aVv bAo aBu bL8 aWx bK5 bHd
 clear e
 have hr:rightM key nonce c=true↔key.length=32∧nonce.length=12∧0≤c∧c<4294967296:=by
  simp only[rightM,bN9,aN,bOc,and_assoc]
 have no:¬ (key.length=32∧nonce.length=12∧0≤c∧c<4294967296)→Q (.ret (.tup [.str [],.int .i64 2])) [] {}:=fun h=>hq1 (by
  cases hb:rightM key nonce c
  ·rfl
  ·exact absurd (hr.1 hb) h)
 refine ⟨_,rfl,aS (fun h1=>⟨_,rfl,aS (fun h2=>aD (fun h3=>aD (fun h4 => ?_) (fun h=>no (by omega))) (fun h=>no (by omega))) (fun h=>no (by omega))⟩) (fun h=>no (by omega))⟩
 have hR:=hr.2 ⟨by omega,by omega,by omega,by omega⟩
 refine ⟨_,rfl,aD (fun h5=>hq2 hR (by omega)) (fun h5 => ?_)⟩
 have h5':s.length≤4096:=by omega
 have htd:((s.length:Int)+63).tdiv 64=((s.length:Int)+63)/64:=Int.tdiv_eq_ediv_of_nonneg (by omega)
 refine ⟨_,rfl,aI (by omega) (by omega) ?_⟩
 rw[htd]
 refine aI (by omega) (by omega) (aI (by omega) (by omega) (aD (fun h6=>hq3 hR h5' (by omega)) (fun h6 => ?_)))
 have hQ:=hq4 hR h5' (by omega)
 refine ⟨⟨by omega,by omega⟩,fun w hw => ?_⟩
 obtain rfl:w=w0:=hw.h.trans hw0.symm
 refine ⟨⟨(0,[],s),⟨by simp,by simp,by simp,by simp,by simp⟩, ?_⟩, ?_⟩
 ·rw[aK]
  simp
 rintro ⟨k,dn,r⟩ ⟨g1,g2,g3,g4,g5⟩
 dsimp only at *
 refine ⟨_,rfl,w,⟨rfl⟩,fun l hl => ?_⟩
 have hll:l.length=64:=by rw[hl.h];exact rF _ _
 have hcl:(aV l).length=64:=by simp[aV,hll]
 rw[jA _ _ (by rw[hcl];simp)]
 refine ckI (by rw[hcl,aU6];rfl) ⟨⟨(k,dn,r,l,0),⟨g1,rfl,rfl,rfl,hll,by simp,by simp,g2⟩, ?_⟩, ?_⟩
 ·rw[bEq]
  simp[dF]
 rintro ⟨k',dn',r',l',i⟩ ⟨f1,f2,f3,f4,f5,f6,f7,f8⟩
 dsimp only at *
 obtain rfl:k=k':=by omega
 have hin:=bBh f2
 obtain ⟨rfl,rfl⟩:=List.append_inj hin (by omega)
 obtain rfl:=bEl f4
 have hk64:k≤64:=by omega
 have hz:(dF (r.take i) l).length=i:=by rw[yT,bOu];omega
 have hM:(dn++(dF (r.take i) l++r.drop i)).length=s.length:=by simp only[bN8,bO7,hz];omega
 have hap:jF w (c+(k:Int)) (70-k) r=if r.length≤64 then dF r l else dF (r.take 64) l++jF w (c+(k:Int)+1) (69-k) (r.drop 64):=by
  rw[show 70-k=(69-k)+1 by omega,jF,←hl.h]
 have hap2:∀ (h64:i=64∨i=r.length) (hat:64*k+i=s.length),dn++(dF (r.take i) l++r.drop i)=jF w c 70 s:=by
  intro h64 hat
  have e1:i=r.length:=by omega
  rw[g5,hap,if_pos (by omega),e1,bPy,bTx,bPd]
 have hend:∀ (h64:i=64∨i=r.length) (hat:64*k+i=s.length),(List.map toB (List.take s.length (List.drop 0 (ofBytes (dn++(dF (r.take i) l++r.drop i))))))=jF w c 70 s:=by
  intro h64 hat
  rw[bOv,bOk (by rw[aH,hM];omega),hap2 h64 hat]
  simp only[ofBytes,bSk]
  conv=>rhs;rw[←bTr (jF w c 70 s)]
  congr 1
  funext x
  simp[toB]
 have hback:i=64→64*k+i≠s.length→(dn++dF (r.take 64) l).length=64*(k+1)∧(dn++dF (r.take 64) l).length+(r.drop 64).length=s.length∧0<(r.drop 64).length∧jF w c 70 s=(dn++dF (r.take 64) l)++jF w (c+((k+1:Nat):Int)) (70-(k+1)) (r.drop 64):=by
  rintro rfl hne
  have e2:c+(k:Int)+1=c+((k+1:Nat):Int):=by omega
  have e3:69-k=70-(k+1):=by omega
  refine ⟨?_, ?_, ?_, ?_⟩
  ·rw[bN8,hz];omega
  ·rw[bN8,hz,bO7];omega
  ·rw[bO7];omega
  ·rw[g5,hap,if_neg (by omega),e2,e3,bOz]
 have hlB:(ofBytes (dn++(dF (r.take i) l++r.drop i))).length=s.length:=by rw[aH,hM]
 have hall:fK (List.take s.length (List.drop 0 (ofBytes (dn++(dF (r.take i) l++r.drop i)))))=true:=by
  rw[bOv,bOk (by omega)]
  exact jP _
 refine aD (fun hi => ?_) (fun hi => ?_)
 ·refine ⟨_,rfl,ckI (by rw[aH,hM];exact bAi rfl) ⟨_,rfl,aD (fun hlt => ?_) (fun hge => ?_)⟩⟩
  ·have hir:i<r.length:=by omega
   have hD:r.drop i=r.getD i 0::r.drop (i+1):=by rw[bP7 hir];simp[hir]
   have hg:(dn++(dF (r.take i) l++r.drop i)).getD (64*k+i) 0=r.getD i 0:=by
    rw[bOs,bPm (by omega),bPm (by omega),hz,bPr,bOs]
    congr 2
    omega
   refine ⟨_,rfl,ckI (by first | (simp only[bN9,bOh,bOg,bOc,aC,bOi,aN,aA,hlB,bN8,bOb,bOe,bOa,bOo,bOp,bOf,bOd,bOj,ne_eq];done) | (simp only[bN9,bOh,bOg,bOc,aC,bOi,aN,aA,hlB,bN8,bOb,bOe,bOa,bOo,bOp,bOf,bOd,bOj,ne_eq];omega) | rfl | (simp;done) | (simp;omega)) (ckI (by first | (simp only[bN9,bOh,bOg,bOc,aC,bOi,aN,aA,hlB,bN8,bOb,bOe,bOa,bOo,bOp,bOf,bOd,bOj,ne_eq];done) | (simp only[bN9,bOh,bOg,bOc,aC,bOi,aN,aA,hlB,bN8,bOb,bOe,bOa,bOo,bOp,bOf,bOd,bOj,ne_eq];omega) | rfl | (simp;done) | (simp;omega)) (ldB (j:=64*k+i) (by omega) (by omega) ?_))⟩
   rw[hg]
   refine ckI (by first | (simp only[bN9,bOh,bOg,bOc,aC,bOi,aN,aA,hcl,bN8,bOb,bOe,bOa,bOo,bOp,bOf,bOd,bOj,ne_eq];done) | (simp only[bN9,bOh,bOg,bOc,aC,bOi,aN,aA,hcl,bN8,bOb,bOe,bOa,bOo,bOp,bOf,bOd,bOj,ne_eq];omega) | rfl | (simp;done) | (simp;omega)) (ckI (by first | (simp only[bN9,bOh,bOg,bOc,aC,bOi,aN,aA,hcl,bN8,bOb,bOe,bOa,bOo,bOp,bOf,bOd,bOj,ne_eq];done) | (simp only[bN9,bOh,bOg,bOc,aC,bOi,aN,aA,hcl,bN8,bOb,bOe,bOa,bOo,bOp,bOf,bOd,bOj,ne_eq];omega) | rfl | (simp;done) | (simp;omega)) (ld8 (j:=i) (by omega) (by omega) ?_))
   refine ⟨_,by rw[bNo],ckI (by first | (simp only[bN9,bOh,bOg,bOc,aC,bOi,aN,aA,hlB,bN8,bOb,bOe,bOa,bOo,bOp,bOf,bOd,bOj,ne_eq];done) | (simp only[bN9,bOh,bOg,bOc,aC,bOi,aN,aA,hlB,bN8,bOb,bOe,bOa,bOo,bOp,bOf,bOd,bOj,ne_eq];omega) | rfl | (simp;done) | (simp;omega)) (ckI (by first | (simp only[bN9,bOh,bOg,bOc,aC,bOi,aN,aA,hlB,bN8,bOb,bOe,bOa,bOo,bOp,bOf,bOd,bOj,ne_eq];done) | (simp only[bN9,bOh,bOg,bOc,aC,bOi,aN,aA,hlB,bN8,bOb,bOe,bOa,bOo,bOp,bOf,bOd,bOj,ne_eq];omega) | rfl | (simp;done) | (simp;omega)) ⟨_,rfl,aI (by omega) (by omega) (aI (by omega) (by omega) ?_)⟩)⟩
   have hadd:((64*k+i:Nat):Int)+1=((64*k+(i+1):Nat):Int):=by omega
   refine ⟨?_,(k,dn,r,l,i+1),⟨g1,rfl,rfl,rfl,hll, ?_, ?_,g2⟩, ?_, ?_⟩
   ·first | trivial | exact ⟨rfl,rfl⟩
   ·show i+1≤64
    omega
   ·show i+1≤r.length
    omega
   ·show 64-(i+1)<64-i
    omega
   ·rw[stB (j:=64*k+i) (by omega) (by omega),hD,set_mid (by omega),hadd]
    dsimp only
    rw[aNo hir (by omega),bOz]
    simp
  ·have hat:64*k+i=s.length:=by omega
   refine ⟨_,rfl,ckI (by first | (simp only[bN9,bOh,bOg,bOc,aC,bOi,aN,aA,hlB,bN8,bOb,bOe,bOa,bOo,bOp,bOf,bOd,bOj,ne_eq];done) | (simp only[bN9,bOh,bOg,bOc,aC,bOi,aN,aA,hlB,bN8,bOb,bOe,bOa,bOo,bOp,bOf,bOd,bOj,ne_eq];omega) | rfl | (simp;done) | (simp;omega)) ⟨_,rfl,aS (fun _ => ?_) (fun hne=>absurd (by omega) hne)⟩⟩
   refine ckI (by rw[hall,hlB];simp) ⟨_,rfl, ?_⟩
   rw[hend (.inr (by omega)) hat]
   exact hQ
 ·have hi64:i=64:=by omega
  refine ⟨_,rfl,ckI (by first | (simp only[bN9,bOh,bOg,bOc,aC,bOi,aN,aA,hlB,bN8,bOb,bOe,bOa,bOo,bOp,bOf,bOd,bOj,ne_eq];done) | (simp only[bN9,bOh,bOg,bOc,aC,bOi,aN,aA,hlB,bN8,bOb,bOe,bOa,bOo,bOp,bOf,bOd,bOj,ne_eq];omega) | rfl | (simp;done) | (simp;omega)) ⟨_,rfl,aS (fun heq => ?_) (fun hne => ?_)⟩⟩
  ·have hat:64*k+i=s.length:=by omega
   refine ckI (by rw[hall,hlB];simp) ⟨_,rfl, ?_⟩
   rw[hend (.inl hi64) hat]
   exact hQ
  ·obtain ⟨b1,b2,b3,b4⟩:=hback hi64 (by omega)
   subst hi64
   have hadd:c+(k:Int)+1=c+((k+1:Nat):Int):=by omega
   have hadd2:64*k+64=64*(k+1):=by omega
   refine ⟨_,rfl,aI (by omega) (by omega) ⟨?_,(k+1,dn++dF (r.take 64) l,r.drop 64),⟨b1,b2,.inr b3, ?_,b4⟩, ?_, ?_⟩⟩
   ·first | trivial | exact ⟨rfl,rfl⟩
   ·show k+1≤70
    omega
   ·show 71-(k+1)<71-k
    omega
   ·rw[hadd]
    dsimp only
    rw[bOz,hadd2]
    simp
end Go.Proofs.YtnhechnaemmdiaaGreatDoor
