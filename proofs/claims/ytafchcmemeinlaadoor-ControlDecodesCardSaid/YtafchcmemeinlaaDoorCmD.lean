/-
  Chapter 24: what the cells of a Draft and of an Edit look like.
-/
import Derived.Test.YtafchcmemeinlaaDoorC24YD
import Derived.WideShapes
set_option linter.unusedSimpArgs false
set_option linter.unusedVariables false
namespace Go.Proofs.YtafchcmemeinlaaDoor
open Go.RowKit
set_option maxRecDepth 1000000

noncomputable def aE5 (t:TypeId):List TypeId:=match Tryd.prog.underlying t with
 | some (.struct fs)=>fs.toList.map (·.type)
 | _=>[]
def aRf (p:TypeId→List AV→Prop):List TypeId→List AV→Prop
 | [],l=>l=[]
 | t::ts,l=>∃x y,p t x∧aRf p ts y∧l=x++y
theorem aJ4 {p:TypeId→List AV→Prop}:∀ (fs:List Field) (l:List AV),aDn p fs l→aRf p (fs.map (·.type)) l
 | [],_,h=>h
 | f::fs,l,h=>by
  obtain ⟨x,y,h1,h2,h3⟩:=h
  exact ⟨x,y,h1,aJ4 fs y h2,h3⟩
noncomputable def bMz (t:TypeId):Bool:=match Tryd.prog.underlying t with
 | some (.struct _)=>true
 | _=>false
theorem yV {k t:Nat} {l:List AV} (ht:bMz t=true) (h:shP Tryd.prog (k+1) t l):aRf (shP Tryd.prog k) (aE5 t) l:=by
 unfold bMz at ht
 unfold aE5
 rw[shP] at h
 split at ht
 ·rename_i fs hfs
  rw[hfs] at h
  try rw[hfs]
  exact aJ4 _ _ h
 ·cases ht
theorem bNe:Tryd.prog.underlying 4=some .bool:=by kernel_rfl
theorem bPa:Tryd.prog.underlying 5=some (.int .u8):=by kernel_rfl
theorem bPs:Tryd.prog.underlying 9=some .string:=by kernel_rfl
theorem bKk:Tryd.prog.underlying 25=some (.int .u16):=by kernel_rfl
theorem bIy:Tryd.prog.underlying 60=some (.int .u32):=by kernel_rfl
theorem bJn:Tryd.prog.underlying 85=some (.int .u64):=by kernel_rfl
theorem bIb:Tryd.prog.underlying 22=some (.slice 87):=by kernel_rfl
theorem bKx:Tryd.prog.underlying 82=some (.array 6 60):=by kernel_rfl
theorem bHl:Tryd.prog.underlying 83=some (.slice 60):=by kernel_rfl
theorem bHj:Tryd.prog.underlying 84=some (.slice 25):=by kernel_rfl
theorem wf8 {n:Int} (h:(Lit.int .u8 n).wf=true):0≤n∧n≤255:=by
 simp[Lit.wf,IntKind.min,IntKind.max,IntKind.signed,IntKind.bits] at h
 omega
theorem bRf {n:Int} (h:(Lit.int .u16 n).wf=true):0≤n∧n≤65535:=by
 simp[Lit.wf,IntKind.min,IntKind.max,IntKind.signed,IntKind.bits] at h
 omega
theorem bQ9 {n:Int} (h:(Lit.int .u32 n).wf=true):0≤n∧n≤4294967295:=by
 simp[Lit.wf,IntKind.min,IntKind.max,IntKind.signed,IntKind.bits] at h
 omega
theorem bNh {n:Int} (h:(Lit.int .u64 n).wf=true):0≤n∧n<18446744073709551616:=by
 simp[Lit.wf,IntKind.min,IntKind.max,IntKind.signed,IntKind.bits] at h
 omega
theorem bCk {k:Nat} {l:List AV} (h:shP Tryd.prog (k+1) 4 l):∃b,l=[.bool b]:=by
 rw[shP] at h
 simpa only [bNe] using h
theorem bIw {k:Nat} {l:List AV} (h:shP Tryd.prog (k+1) 5 l):∃n,l=[.int .u8 n]∧0≤n∧n≤255:=by
 rw[shP] at h
 simp only[bPa] at h
 obtain ⟨n,h1,h2⟩:=h
 exact ⟨n,h1,wf8 h2⟩
theorem aX7 {k:Nat} {l:List AV} (h:shP Tryd.prog (k+1) 25 l):∃n,l=[.int .u16 n]∧0≤n∧n≤65535:=by
 rw[shP] at h
 simp only[bKk] at h
 obtain ⟨n,h1,h2⟩:=h
 exact ⟨n,h1,bRf h2⟩
theorem bIo {k:Nat} {l:List AV} (h:shP Tryd.prog (k+1) 60 l):∃n,l=[.int .u32 n]∧0≤n∧n≤4294967295:=by
 rw[shP] at h
 simp only[bIy] at h
 obtain ⟨n,h1,h2⟩:=h
 exact ⟨n,h1,bQ9 h2⟩
theorem bK5 {k:Nat} {l:List AV} (h:shP Tryd.prog (k+1) 85 l):∃n,l=[.int .u64 n]∧0≤n∧n<18446744073709551616:=by
 rw[shP] at h
 simp only[bJn] at h
 obtain ⟨n,h1,h2⟩:=h
 exact ⟨n,h1,bNh h2⟩
theorem bHp {k:Nat} {l:List AV} (h:shP Tryd.prog (k+1) 9 l):∃s:List UInt8,l=[.str s]:=by
 rw[shP] at h
 simp only[bPs] at h
 obtain ⟨s,h1,h2⟩:=h
 exact ⟨s,h1⟩
theorem aGu {k:Nat}:∀ (ls:List (List AV)),(∀x∈ls,shP Tryd.prog (k+1) 60 x)→∃ks:List Int,ls.flatten=bM ks∧ls.length=ks.length∧∀x∈ks,gU x
 | [],_=>⟨[],rfl,rfl,by simp⟩
 | x::ls,h=>by
  obtain ⟨n,rfl,hn⟩:=bIo (h x (by simp))
  obtain ⟨ks,h1,h2,h3⟩:=aGu ls fun y hy=>h y (by simp[hy])
  refine ⟨n::ks,by rw[List.flatten_cons,h1];rfl,by simp[h2],fun y hy => ?_⟩
  rcases List.mem_cons.1 hy with rfl | hy
  ·exact ⟨hn.1,by omega⟩
  ·exact h3 y hy
theorem aPz {k:Nat}:∀ (ls:List (List AV)),(∀x∈ls,shP Tryd.prog (k+1) 25 x)→∃ks:List Int,ls.flatten=bN ks∧ls.length=ks.length∧∀x∈ks,0≤x∧x<65536
 | [],_=>⟨[],rfl,rfl,by simp⟩
 | x::ls,h=>by
  obtain ⟨n,rfl,hn⟩:=aX7 (h x (by simp))
  obtain ⟨ks,h1,h2,h3⟩:=aPz ls fun y hy=>h y (by simp[hy])
  refine ⟨n::ks,by rw[List.flatten_cons,h1];rfl,by simp[h2],fun y hy => ?_⟩
  rcases List.mem_cons.1 hy with rfl | hy
  ·exact ⟨hn.1,by omega⟩
  ·exact h3 y hy
theorem bD5 {k:Nat} {l:List AV} (h:shP Tryd.prog (k+2) 83 l):∃ks:List Int,l=[.lst 0 (bM ks) ks.length 1]∧∀x∈ks,gU x:=by
 rw[shP] at h
 simp only[bHl,show Tryd.prog.cellsOf 60=1 by kernel_rfl] at h
 obtain ⟨ls,h1,h2,h3⟩:=h
 obtain ⟨ks,k1,k2,k3⟩:=aGu ls fun x hx=>(h1 x hx).1
 exact ⟨ks,by rw[h3,k1,k2],k3⟩
theorem bCv {k:Nat} {l:List AV} (h:shP Tryd.prog (k+2) 84 l):∃ks:List Int,l=[.lst 0 (bN ks) ks.length 1]∧∀x∈ks,0≤x∧x<65536:=by
 rw[shP] at h
 simp only[bHj,show Tryd.prog.cellsOf 25=1 by kernel_rfl] at h
 obtain ⟨ls,h1,h2,h3⟩:=h
 obtain ⟨ks,k1,k2,k3⟩:=aPz ls fun x hx=>(h1 x hx).1
 exact ⟨ks,by rw[h3,k1,k2],k3⟩
theorem bGn {k:Nat} {l:List AV} (h:shP Tryd.prog (k+2) 82 l):∃a b c d e f:Int,l=[.int .u32 a,.int .u32 b,.int .u32 c,.int .u32 d,.int .u32 e,.int .u32 f]∧gU a∧gU b∧gU c∧gU d∧gU e∧gU f:=by
 rw[shP] at h
 simp only[bKx] at h
 obtain ⟨ls,h1,h2,h3⟩:=h
 obtain ⟨ks,k1,k2,k3⟩:=aGu ls h2
 rw[h3,k1]
 rw[h1] at k2
 match ks,k2,k3 with
 | [a,b,c,d,e,f],_,k3=>exact ⟨a,b,c,d,e,f,rfl,k3 a (by simp),k3 b (by simp),k3 c (by simp),k3 d (by simp),k3 e (by simp),k3 f (by simp)⟩
theorem aW0 {k:Nat} {l:List AV} (h:shP Tryd.prog (k+3) 87 l):∃p:Pc,l=pcC p∧okP p:=by
 have h:=yV (by kernel_rfl) h
 rw[show aE5 87=[5,82,83,84,85] by kernel_rfl] at h
 obtain ⟨_,_,h0,⟨_,_,h1,⟨_,_,h2,⟨_,_,h3,⟨_,_,h4,rfl,rfl⟩,rfl⟩,rfl⟩,rfl⟩,rfl⟩:=h
 obtain ⟨n,rfl,hn⟩:=bIw h0
 obtain ⟨a,b,c,d,e,f,rfl,q1,q2,q3,q4,q5,q6⟩:=bGn h1
 obtain ⟨rs,rfl,hrs⟩:=bD5 h2
 obtain ⟨ls,rfl,hls⟩:=bCv h3
 obtain ⟨m,rfl,hm⟩:=bK5 h4
 exact ⟨⟨n,a,b,c,d,e,f,0,rs,0,ls,m⟩,rfl,⟨hn.1,by dsimp only;omega⟩,q1,q2,q3,q4,q5,q6,hrs,hls,hm⟩
theorem aEy {k:Nat}:∀ (ls:List (List AV)),(∀x∈ls,shP Tryd.prog (k+3) 87 x)→∃ps:List Pc,ls.flatten=aY ps∧ls.length=ps.length∧∀p∈ps,okP p
 | [],_=>⟨[],rfl,rfl,by simp⟩
 | x::ls,h=>by
  obtain ⟨p,rfl,hp⟩:=aW0 (h x (by simp))
  obtain ⟨ps,h1,h2,h3⟩:=aEy ls fun y hy=>h y (by simp[hy])
  refine ⟨p::ps,by rw[List.flatten_cons,h1];rfl,by simp[h2],fun y hy => ?_⟩
  rcases List.mem_cons.1 hy with rfl | hy
  ·exact hp
  ·exact h3 y hy
theorem aWj {k:Nat} {l:List AV} (h:shP Tryd.prog (k+5) 24 l):∃ (b:Bool) (ps:List Pc),l=[.bool b,.lst 0 (aY ps) ps.length 10]∧∀p∈ps,okP p:=by
 have h:=yV (by kernel_rfl) h
 rw[show aE5 24=[4,22] by kernel_rfl] at h
 obtain ⟨_,_,h0,⟨_,_,h1,rfl,rfl⟩,rfl⟩:=h
 obtain ⟨b,rfl⟩:=bCk h0
 rw[shP] at h1
 simp only[bIb,show Tryd.prog.cellsOf 87=10 by kernel_rfl] at h1
 obtain ⟨ls,g1,g2,rfl⟩:=h1
 obtain ⟨ps,k1,k2,k3⟩:=aEy ls fun x hx=>(g1 x hx).1
 exact ⟨b,ps,by rw[k1,k2];rfl,k3⟩
theorem bD9 {k:Nat} {l:List AV} (h:shP Tryd.prog (k+2) 27 l):∃ (a b:Int) (text:List UInt8),l=[.int .u16 a,.int .u8 b,.str text]∧(0≤a∧a≤65535)∧(0≤b∧b≤255):=by
 have h:=yV (by kernel_rfl) h
 rw[show aE5 27=[25,5,9] by kernel_rfl] at h
 obtain ⟨_,_,h0,⟨_,_,h1,⟨_,_,h2,rfl,rfl⟩,rfl⟩,rfl⟩:=h
 obtain ⟨a,rfl,a1⟩:=aX7 h0
 obtain ⟨b,rfl,b1⟩:=bIw h1
 obtain ⟨s,rfl⟩:=bHp h2
 exact ⟨a,b,s,rfl,a1,b1⟩
theorem okWide_struct {P:Program} {w:World} {r:Reach} {base:Nat} {t:TypeId} {v:Value} {fs:Array Field} (ht:P.underlying t=some (.struct fs)) (h:Value.okWide P w r base t v):∃cs,v=.agg cs:=by
 simp only[Value.okWide,ht] at h
 obtain ⟨cs,h1,_⟩:=h
 exact ⟨cs,h1⟩
theorem aDz {w:World} {r:Reach} {base:Nat} {t:TypeId} {v:Value} (ht:bMz t=true) (h:Value.okWide Tryd.prog w r base t v):∃cs,v=.agg cs:=by
 unfold bMz at ht
 split at ht
 ·rename_i fs hfs
  exact okWide_struct hfs h
 ·cases ht
theorem aKx {H:Type} {enc:TypeId×Value→H} {w:World} {v:Value} {d:DataW H} {p:List MemPlace} {k:Nat} {t:TypeId} {cs:Array Value} (hv:v=.agg cs) (hg:aD0 Tryd.prog k t=true)
  (h:DataW.Trod enc Tryd.prog w 0 (fun _=>true) true t v d p):∃l,VR (aHf w) (.agg l) v∧shP Tryd.prog k t l:=by
 subst hv
 obtain ⟨m,hm⟩:=h
 obtain ⟨_,l,hl,hs⟩:=vM k t m cs.toList (d,p) hg (by simpa [Value.cells] using hm)
 exact ⟨l,by rw[VR];exact ⟨cs,rfl,hl⟩,hs⟩
theorem aMs {H:Type} {enc:TypeId×Value→H} {w:World} {v:Value} {d:DataW H} {p:List MemPlace} {base:Nat} (hval:Value.okWide Tryd.prog w .any base 24 v) (h:DataW.Trod enc Tryd.prog w 0 (fun _=>true) true 24 v d p) :
  ∃ (b:Bool) (ps:List Pc),VR (aHf w) (.agg [.bool b,.lst 0 (aY ps) ps.length 10]) v∧∀p∈ps,okP p:=by
 obtain ⟨cs,hv⟩:=aDz (by kernel_rfl) hval
 obtain ⟨l,h1,h2⟩:=aKx (k:=5) hv (by kernel_rfl) h
 obtain ⟨b,ps,rfl,hr⟩:=aWj (k:=0) h2
 exact ⟨b,ps,h1,hr⟩
theorem aD7 {H:Type} {enc:TypeId×Value→H} {w:World} {v:Value} {d:DataW H} {p:List MemPlace} {base:Nat} (hval:Value.okWide Tryd.prog w .any base 27 v) (h:DataW.Trod enc Tryd.prog w 0 (fun _=>true) true 27 v d p) :
  ∃ (a b:Int) (text:List UInt8),VR (aHf w) (.agg [.int .u16 a,.int .u8 b,.str text]) v∧(0≤a∧a≤65535)∧(0≤b∧b≤255):=by
 obtain ⟨cs,hv⟩:=aDz (by kernel_rfl) hval
 obtain ⟨l,h1,h2⟩:=aKx (k:=2) hv (by kernel_rfl) h
 obtain ⟨a,b,n,rfl,hr⟩:=bD9 (k:=0) h2
 exact ⟨a,b,n,h1,hr⟩
end Go.Proofs.YtafchcmemeinlaaDoor

set_option linter.unusedSimpArgs false
set_option linter.unusedVariables false
namespace Go.Proofs.YtafchcmemeinlaaDoor
open Go.RowKit
set_option maxRecDepth 1000000

theorem open_slice {H:Type} {enc:TypeId×Value→H} {w:World} {v:Value} {d:DataW H} {p:List MemPlace} {base k:Nat} {t e:TypeId} (hu:Tryd.prog.underlying t=some (.slice e)) (hg:aD0 Tryd.prog (k+1) t=true)
  (hval:Value.okWide Tryd.prog w .any base t v) (h:DataW.Trod enc Tryd.prog w 0 (fun _=>true) true t v d p) :
  ∃ls:List (List AV),(∀x∈ls,shP Tryd.prog k e x∧x.length=Tryd.prog.cellsOf e)∧VRL (aHf w) [.lst 0 ls.flatten ls.length (Tryd.prog.cellsOf e)] [v]:=by
 obtain ⟨a,len,cap,rfl⟩:=Go.WideShapes.okWide_slice hu hval
 obtain ⟨m,hm⟩:=h
 obtain ⟨_,l,hl,hs⟩:=vM (k+1) t m [.slice a len cap] (d,p) hg (by simpa [Value.cells] using hm)
 rw[shP] at hs
 simp only[hu] at hs
 obtain ⟨ls,h1,h2,rfl⟩:=hs
 exact ⟨ls,h1,hl⟩
end Go.Proofs.YtafchcmemeinlaaDoor
