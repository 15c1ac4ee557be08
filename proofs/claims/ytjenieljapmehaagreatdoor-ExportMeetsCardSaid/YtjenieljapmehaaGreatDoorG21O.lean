/-
  Chapter 21: the package variables; what the cells of the arguments look like.
-/
import Derived.Test.YtjenieljapmehaaGreatDoorG21A
import Derived.Test.YtjenieljapmehaaGreatDoorRows
import Derived.ProofKit
import Derived.LaidMore
import Derived.Lay
import Derived.OpenShut
import Derived.Stop.Joined
set_option linter.unusedSimpArgs false
set_option linter.unusedVariables false
namespace Go.Proofs.YtjenieljapmehaaGreatDoor
open Go.RowKit
set_option maxRecDepth 1000000

abbrev L21 : List (String × DataW Unit) := [("unicode/utf8.acceptRanges", Go.Proofs.YtjenieljapmehaaGreatDoor.Rows.laid_unicode_utf8_acceptRanges), ("io.EOF", Go.Proofs.YtjenieljapmehaaGreatDoor.Rows.laid_io_EOF), ("unicode/utf8.first", Go.Proofs.YtjenieljapmehaaGreatDoor.Rows.laid_unicode_utf8_first)]
theorem own21:ownKnob Tryz.prog.godebug=none:=by kernel_rfl
theorem laidOut21:laidOutB Tryz.prog=true:=by kernel_rfl
theorem glob21 (w:World):Glob gl0 w:=fun g cs h=>by cases h
theorem wf8 {n:Int} (h:(Lit.int .u8 n).wf=true):0≤n∧n≤255:=by
 simp[Lit.wf,IntKind.min,IntKind.max,IntKind.signed,IntKind.bits] at h
 omega
theorem und_5:Tryz.prog.underlying 5=some (.int .u8):=by kernel_rfl
theorem und_22:Tryz.prog.underlying 22=some (.array 4 5):=by kernel_rfl
theorem sh_u8 {k:Nat} {l:List AV} (h:shP Tryz.prog (k+1) 5 l):∃n,l=[.int .u8 n]∧0≤n∧n≤255:=by
 rw[shP] at h
 simp only[und_5] at h
 obtain ⟨n,h1,h2⟩:=h
 exact ⟨n,h1,wf8 h2⟩
theorem okWide_array {P:Program} {w:World} {r:Reach} {base:Nat} {t:TypeId} {v:Value} {n:Nat} {e:TypeId} (ht:P.underlying t=some (.array n e)) (h:Value.okWide P w r base t v):∃cs,v=.agg cs:=by
 simp only[Value.okWide,ht] at h
 obtain ⟨cs,h1,h2,_⟩:=h
 exact ⟨cs,h1⟩
theorem open_agg {H:Type} {enc:TypeId×Value→H} {w:World} {v:Value} {d:DataW H} {p:List MemPlace} {k:Nat} {t:TypeId} {cs:Array Value} (hv:v=.agg cs) (hg:goodT Tryz.prog k t=true)
  (h:DataW.Trod enc Tryz.prog w 0 (fun _=>true) true t v d p):∃l,VR (mAll w) (.agg l) v∧shP Tryz.prog k t l:=by
 subst hv
 obtain ⟨m,hm⟩:=h
 obtain ⟨_,l,hl,hs⟩:=deep_ok k t m cs.toList (d,p) hg (by simpa [Value.cells] using hm)
 exact ⟨l,by rw[VR];exact ⟨cs,rfl,hl⟩,hs⟩
theorem four_open {H:Type} {enc:TypeId×Value→H} {w:World} {v:Value} {d:DataW H} {p:List MemPlace} {base:Nat} (hval:Value.okWide Tryz.prog w .any base 22 v) (h:DataW.Trod enc Tryz.prog w 0 (fun _=>true) true 22 v d p) :
  ∃a b c d:Int,VR (mAll w) (.agg [.int .u8 a,.int .u8 b,.int .u8 c,.int .u8 d]) v:=by
 obtain ⟨cs,hv⟩:=okWide_array und_22 hval
 obtain ⟨l,h1,h2⟩:=open_agg (k:=2) hv (by kernel_rfl) h
 rw[shP] at h2
 simp only[und_22] at h2
 obtain ⟨ls,g1,g2,rfl⟩:=h2
 match ls,g1 with
 | [x,y,z,u],_=>
  obtain ⟨a,rfl,ha⟩:=sh_u8 (g2 x (by simp))
  obtain ⟨b,rfl,hb⟩:=sh_u8 (g2 y (by simp))
  obtain ⟨c,rfl,hc⟩:=sh_u8 (g2 z (by simp))
  obtain ⟨e,rfl,he⟩:=sh_u8 (g2 u (by simp))
  exact ⟨a,b,c,e,h1⟩
end Go.Proofs.YtjenieljapmehaaGreatDoor
