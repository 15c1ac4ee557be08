/-
  Chapter 25: what the cells of a draft of a compound look like.
-/
import Derived.Test.YtnhechnaemmdiaaGreatDoorKnU
import Derived.Test.YtnhechnaemmdiaaGreatDoorZnF
set_option linter.unusedSimpArgs false
set_option linter.unusedVariables false
set_option linter.unusedSectionVars false
namespace Go.Proofs.YtnhechnaemmdiaaGreatDoor
open Go.RowKit
set_option maxRecDepth 1000000

theorem bS3:Tryz.prog.underlying 4=some .bool:=by kernel_rfl
theorem bNd:Tryz.prog.underlying 55=some (.slice 24):=by kernel_rfl
theorem bOa:Tryz.prog.underlying 94=some (.slice 173):=by kernel_rfl
theorem bEo:Tryz.prog.underlying 169=some (.array 6 24):=by kernel_rfl
theorem bEm:Tryz.prog.underlying 170=some (.slice 22):=by kernel_rfl
theorem bEb:Tryz.prog.underlying 171=some (.int .u64):=by kernel_rfl
theorem aZc{k:Nat}{l:HB}(h:shP Tryz.prog (k+1) 4 l):∃b,l=[.bool b]:=by
 rw[shP]at h
 simpa only[bS3]using h
theorem bPe{k:Nat}{l:HB}(h:shP Tryz.prog (k+1) 171 l):∃n,l=[.int .u64 n]∧0<=n∧n<18446744073709551616:=by
 rw[shP]at h
 simp only[bEb]at h
 obtain⟨n,h1,h2⟩:=h
 have:=bOg h2
 simp[IntKind.min,IntKind.max,IntKind.signed,IntKind.bits]at this
 exact⟨n,h1,by omega⟩
theorem bDd{k:Nat}{l:HB}(h:shP Tryz.prog (k+1) 24 l):∃n:Int,l=[.int .u32 n]∧Cd.in32 n:=by
 obtain⟨n,rfl,h⟩:=bB3 h
 exact⟨n,rfl,by omega,by omega⟩
theorem bK8{k:Nat}{l:HB}(h:shP Tryz.prog (k+1) 22 l):∃n:Int,l=[.int .u16 n]∧0<=n∧n<65536:=by
 obtain⟨n,rfl,h⟩:=aPy h
 exact⟨n,rfl,by omega,by omega⟩
theorem bOo{k:Nat}{l:HB}(h:shP Tryz.prog (k+2) 169 l):∃a b c d e f:Int,l=[.int .u32 a,.int .u32 b,.int .u32 c,.int .u32 d,.int .u32 e,.int .u32 f]∧Cd.in32 a∧Cd.in32 b∧Cd.in32 c∧Cd.in32 d∧Cd.in32 e∧Cd.in32 f:=by
 rw[shP]at h
 simp only[bEo]at h
 obtain⟨ls,h1,h2,h3⟩:=h
 obtain⟨ks,k1,k2,k3⟩:=aI3 (f:=λn=>[AV.int .u32 n]) (g:=Cd.in32) (λl h=>bDd h) ls h2
 rw[h3,k1]
 rw[h1]at k2
 match ks,k2,k3 with
 | [a,b,c,d,e,f],_,k3=>exact⟨a,b,c,d,e,f,rfl,k3 a (by simp),k3 b (by simp),k3 c (by simp),k3 d (by simp),k3 e (by simp),k3 f (by simp)⟩
theorem aXj{k:Nat}{l:HB}(h:shP Tryz.prog (k+3) 173 l):∃p:Cd.Pc,l=Cd.pcC p∧Cd.okP p:=by
 have h:=vV (by kernel_rfl) h
 rw[show aDl 173=[5,169,55,170,171]by kernel_rfl]at h
 obtain⟨_,_,h0,⟨_,_,h1,⟨_,_,h2,⟨_,_,h3,⟨_,_,h4,rfl,rfl⟩,rfl⟩,rfl⟩,rfl⟩,rfl⟩:=h
 obtain⟨n,rfl,hn⟩:=bS9 h0
 obtain⟨a,b,c,d,e,f,rfl,q1,q2,q3,q4,q5,q6⟩:=bOo h1
 obtain⟨rs,rfl,_,hrs⟩:=aB6 (f:=λn=>[AV.int .u32 n]) (g:=Cd.in32) bNd (show Tryz.prog.cellsOf 24=1 by kernel_rfl) (λl h=>bDd h) h2
 obtain⟨ls,rfl,_,hls⟩:=aB6 (f:=λn=>[AV.int .u16 n]) (g:=λn=>0<=n∧n<65536) bEm (show Tryz.prog.cellsOf 22=1 by kernel_rfl) (λl h=>bK8 h) h3
 obtain⟨m,rfl,hm⟩:=bPe h4
 rw[aJz,aJz]
 exact⟨⟨n,a,b,c,d,e,f,0,rs,0,ls,m⟩,rfl,⟨by dsimp only;omega,by dsimp only;omega⟩,q1,q2,q3,q4,q5,q6,hrs,hls,hm⟩
theorem aEu{H:Type}{enc:TypeId×Value->H}{w:World}{v:Value}{d:DataW H}{p:List MemPlace}{base:Nat}(hval:Value.okWide Tryz.prog w .any base 96 v)(h:DataW.Trod enc Tryz.prog w 0 (λ_=>true) true 96 v d p) :
  ∃ (b:Bool) (ps:List Cd.Pc),VR (aIo w) (.agg [.bool b,.lst 0 (Cd.cellsPcM ps) ps.length 10]) v∧∀p∈ps,Cd.okP p:=by
 obtain⟨cs,hv⟩:=aEr (by kernel_rfl) hval
 obtain⟨l,h1,h2,h3,h4⟩:=aK2 (k:=5) hv (by kernel_rfl) h
 have h2:=vV (by kernel_rfl) h2
 rw[show aDl 96=[4,94]by kernel_rfl]at h2
 obtain⟨_,_,g0,⟨_,_,g1,rfl,rfl⟩,rfl⟩:=h2
 obtain⟨b,rfl⟩:=aZc g0
 obtain⟨ps,rfl,_,a1⟩:=aB6 (f:=Cd.pcC) (g:=Cd.okP) bOa (show Tryz.prog.cellsOf 173=10 by kernel_rfl) (λl h=>aXj h) g1
 exact⟨b,ps,h1,a1⟩
end Go.Proofs.YtnhechnaemmdiaaGreatDoor
