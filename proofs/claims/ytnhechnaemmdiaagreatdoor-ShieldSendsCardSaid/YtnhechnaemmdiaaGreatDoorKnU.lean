/-
  Chapter 25: what the cells of the arguments look like.
-/
import Derived.Test.YtnhechnaemmdiaaGreatDoorKnT
import Derived.Test.YtnhechnaemmdiaaGreatDoorEngX7
import Derived.ProofKit
set_option linter.unusedSimpArgs false
set_option linter.unusedVariables false
set_option linter.unusedSectionVars false
namespace Go.Proofs.YtnhechnaemmdiaaGreatDoor
open Go.RowKit
set_option maxRecDepth 1000000

noncomputable def aDl(t:TypeId):List TypeId:=match Tryz.prog.underlying t with
 | some (.struct fs)=>fs.toList.map (·.type)
 | _=>[]
def aS9(p:TypeId->HB->Prop):List TypeId->HB->Prop
 | [],l=>l=[]
 | t::ts,l=>∃x y,p t x∧aS9 p ts y∧l=x++y
theorem aLa{p:TypeId->HB->Prop}:∀ (fs:List Field) (l:HB),aBm p fs l->aS9 p (fs.map (·.type)) l
 | [],_,h=>h
 | f::fs,l,h=>by
  obtain⟨x,y,h1,h2,h3⟩:=h
  exact⟨x,y,h1,aLa fs y h2,h3⟩
noncomputable def bRj(t:TypeId):Bool:=match Tryz.prog.underlying t with
 | some (.struct _)=>true
 | _=>false
theorem vV{k t:Nat}{l:HB}(ht:bRj t=true)(h:shP Tryz.prog (k+1) t l):aS9 (shP Tryz.prog k) (aDl t) l:=by
 unfold bRj at ht
 unfold aDl
 rw[shP]at h
 split at ht
 ·rename_i fs hfs
  rw[hfs]at h
  try rw[hfs]
  exact aLa _ _ h
 ·cases ht
theorem bSn:Tryz.prog.underlying 5=some (.int .u8):=by kernel_rfl
theorem bUu:Tryz.prog.underlying 9=some .string:=by kernel_rfl
theorem bMp:Tryz.prog.underlying 22=some (.int .u16):=by kernel_rfl
theorem bQg:Tryz.prog.underlying 23=some (.slice 60):=by kernel_rfl
theorem bLq:Tryz.prog.underlying 24=some (.int .u32):=by kernel_rfl
theorem bMj:Tryz.prog.underlying 60=some (.int .i16):=by kernel_rfl
theorem bOg{k:IntKind}{n:Int}(h:(Lit.int k n).wf=true):k.min<=n∧n<=k.max:=by
 simpa[Lit.wf]using h
theorem bLa{k:Nat}{l:HB}(h:shP Tryz.prog (k+1) 60 l):∃n,l=[.int .i16 n] ∧ -32768<=n∧n<=32767:=by
 rw[shP]at h
 simp only[bMj]at h
 obtain⟨n,h1,h2⟩:=h
 exact⟨n,h1,bOg h2⟩
theorem aRk{n:Int}{m:Int}(h:0<=n∧n<=m):∃k:Nat,n=(k:Int)∧(k:Int)<=m:=⟨n.toNat,by omega,by omega⟩
theorem bB3{k:Nat}{l:HB}(h:shP Tryz.prog (k+1) 24 l):∃n:Nat,l=[.int .u32 (n:Int)]∧n<=4294967295:=by
 rw[shP]at h
 simp only[bLq]at h
 obtain⟨n,h1,h2⟩:=h
 obtain⟨k,rfl,h3⟩:=aRk (m:=4294967295) (bOg h2)
 exact⟨k,h1,by omega⟩
theorem aPy{k:Nat}{l:HB}(h:shP Tryz.prog (k+1) 22 l):∃n:Nat,l=[.int .u16 (n:Int)]∧n<=65535:=by
 rw[shP]at h
 simp only[bMp]at h
 obtain⟨n,h1,h2⟩:=h
 obtain⟨k,rfl,h3⟩:=aRk (m:=65535) (bOg h2)
 exact⟨k,h1,by omega⟩
theorem bS9{k:Nat}{l:HB}(h:shP Tryz.prog (k+1) 5 l):∃n:Nat,l=[.int .u8 (n:Int)]∧n<=255:=by
 rw[shP]at h
 simp only[bSn]at h
 obtain⟨n,h1,h2⟩:=h
 obtain⟨k,rfl,h3⟩:=aRk (m:=255) (bOg h2)
 exact⟨k,h1,by omega⟩
theorem bPf{k:Nat}{l:HB}(h:shP Tryz.prog (k+1) 9 l):∃s:LA,l=[.str s]∧s.length<=9223372036854775807:=by
 rw[shP]at h
 simp only[bUu]at h
 obtain⟨s,h1,h2⟩:=h
 unfold maxLen at h2
 exact⟨s,h1,by omega⟩
theorem aI3{α:Type}{f:α->HB}{g:α->Prop}{k:Nat}{t:TypeId}(hf:∀l,shP Tryz.prog k t l->∃a,l=f a∧g a):∀ (ls:List HB),(∀x∈ls,shP Tryz.prog k t x)->∃ks:List α,ls.flatten=ks.flatMap f∧ls.length=ks.length∧∀a∈ks,g a
 | [],_=>⟨[],rfl,rfl,λ_ h=>by cases h⟩
 | x::ls,h=>by
  obtain⟨a,rfl,ha⟩:=hf x (h x (by simp))
  obtain⟨ks,h1,h2,h3⟩:=aI3 hf ls λy hy=>h y (by simp[hy])
  refine⟨a::ks,by rw[bZv,h1];rfl,by simp[h2],λb hb => ?_⟩
  rcases bXd.1 hb with rfl | hb
  ·exact ha
  ·exact h3 b hb
theorem aB6{α:Type}{f:α->HB}{g:α->Prop}{k t e z:Nat}{l:HB}(hu:Tryz.prog.underlying t=some (.slice e))(hz:Tryz.prog.cellsOf e=z)(hf:∀l,shP Tryz.prog k e l->∃a,l=f a∧g a)(h:shP Tryz.prog (k+1) t l) :
  ∃ks:List α,l=[.lst 0 (ks.flatMap f) ks.length z]∧ks.length<=9223372036854775807∧∀a∈ks,g a:=by
 rw[shP]at h
 simp only[hu,hz]at h
 obtain⟨ls,h1,h2,h3⟩:=h
 obtain⟨ks,k1,k2,k3⟩:=aI3 hf ls λx hx=>(h1 x hx).1
 unfold maxLen at h2
 exact⟨ks,by rw[h3,k1,k2],by omega,k3⟩
theorem aJz(c:Int->AV):∀ks:QT,ks.flatMap (λn=>[c n])=ks.map c
 | []=>rfl
 | k::ks=>by rw[bZ5,aJz c ks];rfl
theorem okWide_struct{P:Program}{w:World}{r:Reach}{base:Nat}{t:TypeId}{v:Value}{fs:Array Field}(ht:P.underlying t=some (.struct fs))(h:Value.okWide P w r base t v):∃cs,v=.agg cs:=by
 simp only[Value.okWide,ht]at h
 obtain⟨cs,h1,_⟩:=h
 exact⟨cs,h1⟩
theorem aEr{w:World}{r:Reach}{base:Nat}{t:TypeId}{v:Value}(ht:bRj t=true)(h:Value.okWide Tryz.prog w r base t v):∃cs,v=.agg cs:=by
 unfold bRj at ht
 split at ht
 ·rename_i fs hfs
  exact okWide_struct hfs h
 ·cases ht
theorem aK2{H:Type}{enc:TypeId×Value->H}{w:World}{v:Value}{d:DataW H}{p:List MemPlace}{k:Nat}{t:TypeId}{cs:Array Value}(hv:v=.agg cs)(hg:zN Tryz.prog k t=true)
  (h:DataW.Trod enc Tryz.prog w 0 (λ_=>true) true t v d p):∃l,VR (aIo w) (.agg l) v∧shP Tryz.prog k t l∧VRL (aIo w) l cs.toList∧∀s,Value.string s∈cs.toList->s.size∈d.weights Tryz.prog t:=by
 subst hv
 obtain⟨m,hm⟩:=h
 have hm':=(show DataW.trod enc Tryz.prog w 0 (λ_=>true) true m t cs.toList=some (d,p)by simpa[Value.cells]using hm)
 obtain⟨_,l,hl,hs⟩:=yA k t m cs.toList (d,p) hg hm'
 exact⟨l,by rw[VR];exact⟨cs,rfl,hl⟩,hs,hl,(aIj k t m cs.toList (d,p) hg hm').2⟩
theorem aFn{H:Type}{enc:TypeId×Value->H}{w:World}{v:Value}{d:DataW H}{p:List MemPlace}{base:Nat}(hval:Value.okWide Tryz.prog w .any base 26 v)(h:DataW.Trod enc Tryz.prog w 0 (λ_=>true) true 26 v d p)(hw:∀n∈d.weights Tryz.prog 26,n<=reachBytes) :
  ∃ (key:LA) (hd fi:Nat) (ks:QT) (ss:Nat),VR (aIo w) (.agg [.str key,.int .u16 (hd:Nat),.int .u16 (fi:Nat),.lst 0 (tX ks) ks.length 1,.int .u32 (ss:Nat)]) v ∧
   key.length<=140737488351232∧hd<65536∧fi<=65535∧ks.length<=9223372036854775807∧(∀k∈ks, -32768<=k∧k<=32767)∧ss<=4294967295:=by
 obtain⟨cs,hv⟩:=aEr (by kernel_rfl) hval
 obtain⟨l,h1,h2,h3,h4⟩:=aK2 (k:=4) hv (by kernel_rfl) h
 have h2:=vV (by kernel_rfl) h2
 rw[show aDl 26=[9,22,22,23,24]by kernel_rfl]at h2
 obtain⟨_,_,g0,⟨_,_,g1,⟨_,_,g2,⟨_,_,g3,⟨_,_,g4,rfl,rfl⟩,rfl⟩,rfl⟩,rfl⟩,rfl⟩:=h2
 obtain⟨key,rfl,a0⟩:=bPf g0
 obtain⟨hd,rfl,a1⟩:=aPy g1
 obtain⟨fi,rfl,a2⟩:=aPy g2
 obtain⟨ks,rfl,a3,a4⟩:=aB6 (f:=λn=>[AV.int .i16 n]) (g:=λn => -32768<=n∧n<=32767) bQg (show Tryz.prog.cellsOf 60=1 by kernel_rfl) (λl h=>bLa h) g3
 obtain⟨ss,rfl,a5⟩:=bB3 g4
 rw[aJz]at h1 h3
 refine⟨key,hd,fi,ks,ss,h1, ?_,by omega,a2,a3,a4,a5⟩
 simp only[bX0,bX2]at h3
 obtain⟨v0,l0,e0,e1,_⟩:=bB h3
 simp only[VR]at e1
 have:=hw _ (h4 ⟨key.toArray⟩ (by rw[e0,e1];simp))
 have e2:(⟨key.toArray⟩:ByteArray).size=key.length:=by show key.toArray.size=_;simp
 rw[e2]at this
 unfold reachBytes at this
 omega
end Go.Proofs.YtnhechnaemmdiaaGreatDoor
