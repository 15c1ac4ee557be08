/-
  Chapter 24: Demux, Edit.Of (turned from chapter 23).
-/
import Derived.Test.YtafchcmemeinlaaDoorC24XS
set_option linter.unusedSimpArgs false
set_option linter.unusedVariables false
set_option linter.unusedSectionVars false
namespace Go.Proofs.YtafchcmemeinlaaDoor
open Go.RowKit
set_option maxRecDepth 1000000

noncomputable def aHy (hv:Nat→Option Pa) (hb:Nat→Option Bool) (at' less:Int) (text s:List UInt8) (Q:Out→List Blk→Gh→Prop):Prop:=
 bH (e24 sm0 (fun _=>none) hv hb) (wpx (e24 sm0 (fun _=>none) hv hb) 1000) 13 [.agg [.int .u16 at',.int .u8 less,.str text],.str s] [] {} Q
abbrev bLl (n_2:Int) (s:List UInt8):Bool:=decide (0≤n_2)&&true&&Nat.ble n_2.toNat s.length
theorem bOy (at':Int) (less:Int) (text:List UInt8) (s:List UInt8) (Q:Out→List Blk→Gh→Prop):aHy (bG [(53256,.int .i64),(53258,.int .i64),(53259,.int .i64),(53262,.str),(53267,.int .i64),(53268,.int .i64),(53269,.str),(53270,.str),(53275,.int .i64),(53276,.int .i64),(53278,.int .i64),(53279,.int .i64),(53280,.str),(53281,.str)]) (bF []) at' less text s Q=(exW .i64 at' (fun n_0=>exI .i64 (s.length:Int) (fun n_1=>exI .i64 (aYm n_0 n_1) (fun n_2=>ckQ (bLl n_2 s) (exS (.str ((s.drop 0).take (n_2.toNat-0))) (fun s_3=>exI .i64 (text.length:Int) (fun n_4=>exI .i64 (aYm n_4 20) (fun n_5=>ckQ (bLl n_5 text) (exS (.str ((text.drop 0).take (n_5.toNat-0))) (fun s_6=>ckQ (decide (s_3.length+s_6.length≤9223372036854775807)&&true) (exS (.str (s_3++s_6)) (fun s_7=>exW .i64 less (fun n_8=>exW .i64 (n_2+n_8) (fun n_9=>exI .i64 (s.length:Int) (fun n_10=>exI .i64 (aYm n_9 n_10) (fun n_11=>ckQ (bLl n_11 s&&Nat.ble s.length s.length) (exS (.str ((s.drop n_11.toNat).take (s.length-n_11.toNat))) (fun s_12=>ckQ (decide (s_7.length+s_12.length≤9223372036854775807)&&true) (exS (.str (s_7++s_12)) (fun s_13=>Q (.ret (.str s_13)) [] {})))))))))))))))))))):=by kernel_rfl

theorem aWt {x:Int} {a b:Nat} (hx:x=(a:Int)) {K:Int→Prop} (h:K ((min a b:Nat):Int)):∃n:Int,AV.int .i64 (aYm x (b:Int))=AV.int .i64 n∧K n:=by
 subst hx
 refine ⟨_, ?_,h⟩
 congr 1
 unfold aYm
 split<;>omega

theorem aWk (a b:Nat) (text s:List UInt8) (ha:a≤65535) (hb:b≤255) (hs:s.length≤1000000) (Q:Out→List Blk→Gh→Prop) (hq:∀t:List UInt8,t.length≤s.length+20→Q (.ret (.str t)) [] {}):∃hv hb,aHy hv hb a b text s Q:=by
 obtain ⟨hv,hb',e⟩:∃hv hb,aHy hv hb a b text s Q=_:=⟨_,_,bOy a b text s Q⟩
 refine ⟨hv,hb',e.mpr ?_⟩
 delta bLl
 clear e
 refine aC (by omega) (by omega) ⟨_,rfl,aWt rfl (ckI (by simp;omega) ⟨_,rfl,_,rfl,aWt (b:=20) rfl (ckI (by simp;omega) ⟨_,rfl,ckI (by simp;omega) ⟨_,rfl,aC (by omega) (by omega) (aC (by omega) (by omega) ⟨_,rfl,aWt (a:=min a s.length+b) (by omega) (ckI (by simp;omega) ⟨_,rfl,ckI (by simp;omega) ⟨_,rfl,hq _ (by simp;omega)⟩⟩)⟩)⟩⟩)⟩)⟩
def aZx:Con
 | [.agg [.int .u16 a,.int .u8 b,.str text],.str s],H,K=>Lf ((0≤a∧a≤65535)∧(0≤b∧b≤255)∧s.length≤1000000)∧∀t:List UInt8,Lf (t.length≤s.length+20)→K (.ret (.str t)) H
 | _,_,_=>False
theorem bD7:aO Tryd.prog glC 13 aZx:=by
 refine bE (enters_of (by kernel_rfl)) aV fun args H Q hc => ?_
 unfold aZx at hc
 split at hc
 ·rename_i a b text s
  obtain ⟨⟨⟨a0,a1⟩,⟨b0,b1⟩,hs⟩,hq⟩:=hc
  obtain ⟨a,rfl⟩:=Int.eq_ofNat_of_zero_le a0
  obtain ⟨b,rfl⟩:=Int.eq_ofNat_of_zero_le b0
  obtain ⟨hv,hb',h⟩:=aWk a b text s (by omega) (by omega) hs (fun o H' _=>H'=[]∧(∃v,o=.ret v∧old 0 v=true∧noY v=true)∧Q o H) (fun t ht=>⟨rfl,⟨_,rfl,rfl,rfl⟩,hq t ⟨ht⟩⟩)
  exact ⟨rfl,rfl,_,1000,aS fB _ _ _,rfl,h⟩
 ·exact hc.elim
end Go.Proofs.YtafchcmemeinlaaDoor
