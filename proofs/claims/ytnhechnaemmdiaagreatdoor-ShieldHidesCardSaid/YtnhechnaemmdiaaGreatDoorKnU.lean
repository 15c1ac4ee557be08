/-
  Chapter 25: what the cells of the arguments look like.
-/
import Derived.Test.YtnhechnaemmdiaaGreatDoorKnQ
import Derived.Test.YtnhechnaemmdiaaGreatDoorEngX7
import Derived.ProofKit
set_option linter.unusedSimpArgs false
set_option linter.unusedVariables false
set_option linter.unusedSectionVars false
namespace Go.Proofs.YtnhechnaemmdiaaGreatDoor
open Go.RowKit
set_option maxRecDepth 1000000

theorem bIg:Tryz.prog.underlying 9=some .string:=by kernel_rfl
theorem bPd {k:IntKind} {n:Int} (h:(Lit.int k n).wf=true):k.min≤n∧n≤k.max:=by
 simpa [Lit.wf] using h
theorem aW2 {k:Nat} {l:List AV} (h:shP Tryz.prog (k+1) 9 l):∃s:List UInt8,l=[.str s]∧s.length≤9223372036854775807:=by
 rw[shP] at h
 simp only[bIg] at h
 obtain ⟨s,h1,h2⟩:=h
 unfold maxLen at h2
 exact ⟨s,h1,by omega⟩
theorem aCe {P:Program} {w:World} {r:Reach} {base:Nat} {t:TypeId} {v:Value} {n:Nat} {e:TypeId} (ht:P.underlying t=some (.array n e)) (h:Value.okWide P w r base t v):∃cs,v=.agg cs:=by
 simp only[Value.okWide,ht] at h
 obtain ⟨cs,h1,_⟩:=h
 exact ⟨cs,h1⟩
theorem aQh {H:Type} {enc:TypeId×Value→H} {w:World} {v:Value} {d:DataW H} {p:List MemPlace} {k:Nat} {t:TypeId} {cs:Array Value} (hv:v=.agg cs) (hg:uY Tryz.prog k t=true)
  (h:DataW.Trod enc Tryz.prog w 0 (fun _=>true) true t v d p):∃l,VR (aDf w) (.agg l) v∧shP Tryz.prog k t l∧VRL (aDf w) l cs.toList∧∀s,Value.string s∈cs.toList→s.size∈d.weights Tryz.prog t:=by
 subst hv
 obtain ⟨m,hm⟩:=h
 have hm':=(show DataW.trod enc Tryz.prog w 0 (fun _=>true) true m t cs.toList=some (d,p) by simpa [Value.cells] using hm)
 obtain ⟨_,l,hl,hs⟩:=sG k t m cs.toList (d,p) hg hm'
 exact ⟨l,by rw[VR];exact ⟨cs,rfl,hl⟩,hs,hl,(yE k t m cs.toList (d,p) hg hm').2⟩
theorem aV9:Tryz.prog.underlying 87=some (.array 2 9):=by kernel_rfl
theorem aMc {w:World} (s:ByteArray):VR (aDf w) (.str s.data.toList) (.string s):=by
 simp only[VR]
theorem aEc (s:ByteArray):s.data.toList.length=s.size:=by
 show _=s.data.size
 simp
theorem aTt {H:Type} {enc:TypeId×Value→H} {w:World} {v:Value} {d:DataW H} {p:List MemPlace} {base:Nat} (hval:Value.okWide Tryz.prog w .any base 9 v) (h:DataW.Trod enc Tryz.prog w 0 (fun _=>true) true 9 v d p) (hw:∀n∈d.weights Tryz.prog 9,n≤reachBytes) :
  ∃key:List UInt8,VR (aDf w) (.str key) v∧key.length≤140737488351232:=by
 obtain ⟨s,rfl,_,_,_⟩:=Go.ChangeMaps.open_string bIg hval h
 obtain ⟨m,hm⟩:=h
 have hm':=(show DataW.trod enc Tryz.prog w 0 (fun _=>true) true m 9 [.string s]=some (d,p) by simpa [Value.cells] using hm)
 have:=hw _ ((yE 1 9 m [.string s] (d,p) (by kernel_rfl) hm').2 s (by simp))
 refine ⟨s.data.toList,aMc s, ?_⟩
 rw[aEc]
 unfold reachBytes at this
 omega
theorem aLl {H:Type} {enc:TypeId×Value→H} {w:World} {v:Value} {d:DataW H} {p:List MemPlace} {base:Nat} (hval:Value.okWide Tryz.prog w .any base 87 v) (h:DataW.Trod enc Tryz.prog w 0 (fun _=>true) true 87 v d p) :
  ∃a b:List UInt8,VR (aDf w) (.agg [.str a,.str b]) v∧a.length≤9223372036854775807∧b.length≤9223372036854775807:=by
 obtain ⟨cs,hv⟩:=aCe aV9 hval
 obtain ⟨l,g1,s1,_,_⟩:=aQh (k:=3) hv (by kernel_rfl) h
 rw[shP] at s1
 simp only[aV9] at s1
 obtain ⟨ls,q1,q2,rfl⟩:=s1
 match ls,q1 with
 | [x,y],_=>
  obtain ⟨a,rfl,ha⟩:=aW2 (k:=1) (q2 x (by simp))
  obtain ⟨b,rfl,hb⟩:=aW2 (k:=1) (q2 y (by simp))
  exact ⟨a,b,g1,ha,hb⟩
end Go.Proofs.YtnhechnaemmdiaaGreatDoor
