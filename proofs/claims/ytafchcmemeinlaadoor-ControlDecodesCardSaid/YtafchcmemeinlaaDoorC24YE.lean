/-
  Chapter 24: ControlBack.
-/
import Derived.Test.YtafchcmemeinlaaDoorC24YD
import Derived.Test.YtafchcmemeinlaaDoorC24XW
import Derived.Test.YtafchcmemeinlaaDoorC24XY
set_option linter.unusedSimpArgs false
set_option linter.unusedVariables false
set_option linter.unusedSectionVars false
namespace Go.Proofs.YtafchcmemeinlaaDoor
open Go.RowKit
set_option maxRecDepth 1000000

theorem aPm {c:Ctl} (h:aQ c=true):okC c:=by
 have h8:=yL ((dN c).1 h).2.2.2.2.2.2.2.2.2.2.2.2.2.2.2.2.1
 rcases eO h with ⟨f,s1,s2,s3,s4,s5,rs,rfl,hrs⟩ | ⟨f,rs,rfl,hrs⟩ | ⟨f,rfl⟩ | ⟨f,a,lo,rfl,hlo⟩ | ⟨f,a,rfl⟩ | ⟨f,a,ba,ro,ti,rfl,hti⟩
 ·exact ⟨by dsimp only;omega,Nat.zero_le _,Nat.zero_le _⟩
 ·exact ⟨by dsimp only;omega,Nat.zero_le _,Nat.zero_le _⟩
 ·exact ⟨Nat.zero_le _,Nat.zero_le _,Nat.zero_le _⟩
 ·have:=(eQ hlo).2.1
  exact ⟨Nat.zero_le _,by dsimp only;omega,Nat.zero_le _⟩
 ·exact ⟨Nat.zero_le _,Nat.zero_le _,Nat.zero_le _⟩
 ·obtain ⟨ref,l,h1,h2,h3⟩:=fI hti
  exact ⟨Nat.zero_le _,Nat.zero_le _,by dsimp only;omega⟩
theorem aPj {l:List Ctl} (h:bP l=true):(1≤l.length∧l.length≤8)∧∀c∈l,okC c:=by
 have hc:=(gT l).1 h
 exact ⟨hc.1,fun c hm=>aPm (hc.2.2 c hm)⟩
end Go.Proofs.YtafchcmemeinlaaDoor
