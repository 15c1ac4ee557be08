/-
  Chapter 17: what the cells of the arguments look like.
-/
import Derived.Test.YtiholnebhmjbjaaGreatZ17F
import Derived.ProofKit
set_option linter.unusedSimpArgs false
set_option linter.unusedVariables false
namespace Go.Proofs.YtiholnebhmjbjaaGreat
open Go.RowKit
set_option maxRecDepth 1000000

noncomputable def fldsOf (t:TypeId):List TypeId:=match Tryz.prog.underlying t with
 | some (.struct fs)=>fs.toList.map (·.type)
 | _=>[]
def typesP (p:TypeId→List AV→Prop):List TypeId→List AV→Prop
 | [],l=>l=[]
 | t::ts,l=>∃x y,p t x∧typesP p ts y∧l=x++y
theorem types_of {p:TypeId→List AV→Prop}:∀ (fs:List Field) (l:List AV),fieldsP p fs l→typesP p (fs.map (·.type)) l
 | [],_,h=>h
 | f::fs,l,h=>by
  obtain ⟨x,y,h1,h2,h3⟩:=h
  exact ⟨x,y,h1,types_of fs y h2,h3⟩
noncomputable def isSt (t:TypeId):Bool:=match Tryz.prog.underlying t with
 | some (.struct _)=>true
 | _=>false
theorem struct_of {k t:Nat} {l:List AV} (ht:isSt t=true) (h:shP Tryz.prog (k+1) t l):typesP (shP Tryz.prog k) (fldsOf t) l:=by
 unfold isSt at ht
 unfold fldsOf
 rw[shP] at h
 split at ht
 ·rename_i fs hfs
  rw[hfs] at h
  try rw[hfs]
  exact types_of _ _ h
 ·cases ht
theorem und_5:Tryz.prog.underlying 5=some (.int .u8):=by kernel_rfl
theorem und_9:Tryz.prog.underlying 9=some .string:=by kernel_rfl
theorem und_24:Tryz.prog.underlying 22=some (.int .u16):=by kernel_rfl
theorem und_42:Tryz.prog.underlying 26=some (.int .u64):=by kernel_rfl
theorem und_41:Tryz.prog.underlying 23=some (.slice 5):=by kernel_rfl
theorem wf8 {n:Int} (h:(Lit.int .u8 n).wf=true):0≤n∧n≤255:=by
 simp[Lit.wf,IntKind.min,IntKind.max,IntKind.signed,IntKind.bits] at h
 omega
theorem wf16 {n:Int} (h:(Lit.int .u16 n).wf=true):0≤n∧n≤65535:=by
 simp[Lit.wf,IntKind.min,IntKind.max,IntKind.signed,IntKind.bits] at h
 omega
theorem wfU64 {n:Int} (h:(Lit.int .u64 n).wf=true):0≤n∧n≤18446744073709551615:=by
 simp[Lit.wf,IntKind.min,IntKind.max,IntKind.signed,IntKind.bits] at h
 omega
theorem wf64 {n:Int} (h:(Lit.int .i64 n).wf=true) : -9223372036854775808≤n∧n≤9223372036854775807:=by
 simp[Lit.wf,IntKind.min,IntKind.max,IntKind.signed,IntKind.bits] at h
 omega
theorem sh_u8 {k:Nat} {l:List AV} (h:shP Tryz.prog (k+1) 5 l):∃n,l=[.int .u8 n]∧0≤n∧n≤255:=by
 rw[shP] at h
 simp only[und_5] at h
 obtain ⟨n,h1,h2⟩:=h
 exact ⟨n,h1,wf8 h2⟩
theorem sh_u16 {k:Nat} {l:List AV} (h:shP Tryz.prog (k+1) 22 l):∃n,l=[.int .u16 n]∧0≤n∧n≤65535:=by
 rw[shP] at h
 simp only[und_24] at h
 obtain ⟨n,h1,h2⟩:=h
 exact ⟨n,h1,wf16 h2⟩
theorem sh_u64 {k:Nat} {l:List AV} (h:shP Tryz.prog (k+1) 26 l):∃n:Nat,l=[.int .u64 (n:Nat)]∧n<18446744073709551616:=by
 rw[shP] at h
 simp only[und_42] at h
 obtain ⟨n,h1,h2⟩:=h
 have:=wfU64 h2
 exact ⟨n.toNat,by rw[h1,show ((n.toNat:Nat):Int)=n by omega],by omega⟩
theorem sh_i64 {k:Nat} {l:List AV} (h:shP Tryz.prog (k+1) 3 l):∃n,l=[.int .i64 n] ∧ -9223372036854775808≤n∧n≤9223372036854775807:=by
 rw[shP] at h
 simp only[show Tryz.prog.underlying 3=some (.int .i64) by kernel_rfl] at h
 obtain ⟨n,h1,h2⟩:=h
 exact ⟨n,h1,wf64 h2⟩
theorem sh_str {k:Nat} {l:List AV} (h:shP Tryz.prog (k+1) 9 l):∃s:List UInt8,l=[.str s]∧s.length≤9223372036854775807:=by
 rw[shP] at h
 simp only[und_9] at h
 obtain ⟨s,h1,h2⟩:=h
 unfold maxLen at h2
 exact ⟨s,h1,by omega⟩
theorem u8s_of {k:Nat}:∀ (ls:List (List AV)),(∀x∈ls,shP Tryz.prog (k+1) 5 x)→∃s:List UInt8,ls.flatten=ofBytes s∧ls.length=s.length
 | [],_=>⟨[],rfl,rfl⟩
 | x::ls,h=>by
  obtain ⟨n,rfl,hn⟩:=sh_u8 (h x (by simp))
  obtain ⟨s,h1,h2⟩:=u8s_of ls fun y hy=>h y (by simp[hy])
  refine ⟨UInt8.ofNat n.toNat::s, ?_,by simp[h2]⟩
  rw[List.flatten_cons,h1]
  simp only[ofBytes,List.map_cons,List.singleton_append]
  congr 2
  rw[UInt8.toNat_ofNat']
  omega
theorem sh_u8s {k:Nat} {l:List AV} (h:shP Tryz.prog (k+2) 23 l):∃s:List UInt8,l=[.lst 0 (ofBytes s) s.length 1]∧s.length≤9223372036854775807:=by
 rw[shP] at h
 simp only[und_41,show Tryz.prog.cellsOf 5=1 by kernel_rfl] at h
 obtain ⟨ls,h1,h2,h3⟩:=h
 obtain ⟨s,k1,k2⟩:=u8s_of ls fun x hx=>(h1 x hx).1
 unfold maxLen at h2
 exact ⟨s,by rw[h3,k1,k2],by omega⟩
theorem sh_win {k:Nat} {l:List AV} (h:shP Tryz.prog (k+2) 28 l):∃ (t:Int) (n:Nat),l=[.int .i64 t,.int .u64 (n:Nat)]∧(-9223372036854775808≤t∧t≤9223372036854775807)∧n<18446744073709551616:=by
 have h:=struct_of (by kernel_rfl) h
 rw[show fldsOf 28=[3,26] by kernel_rfl] at h
 obtain ⟨_,_,h1,⟨_,_,h2,rfl,rfl⟩,rfl⟩:=h
 obtain ⟨t,rfl,ht⟩:=sh_i64 h1
 obtain ⟨n,rfl,hn⟩:=sh_u64 h2
 exact ⟨t,n,rfl,ht,hn⟩
theorem okWide_struct {P:Program} {w:World} {r:Reach} {base:Nat} {t:TypeId} {v:Value} {fs:Array Field} (ht:P.underlying t=some (.struct fs)) (h:Value.okWide P w r base t v):∃cs,v=.agg cs:=by
 simp only[Value.okWide,ht] at h
 obtain ⟨cs,h1,_⟩:=h
 exact ⟨cs,h1⟩
theorem okWide_st {w:World} {r:Reach} {base:Nat} {t:TypeId} {v:Value} (ht:isSt t=true) (h:Value.okWide Tryz.prog w r base t v):∃cs,v=.agg cs:=by
 unfold isSt at ht
 split at ht
 ·rename_i fs hfs
  exact okWide_struct hfs h
 ·cases ht
theorem open_agg {H:Type} {enc:TypeId×Value→H} {w:World} {v:Value} {d:DataW H} {p:List MemPlace} {k:Nat} {t:TypeId} {cs:Array Value} (hv:v=.agg cs) (hg:goodT Tryz.prog k t=true)
  (h:DataW.Trod enc Tryz.prog w 0 (fun _=>true) true t v d p):∃l,VR (mAll w) (.agg l) v∧shP Tryz.prog k t l:=by
 subst hv
 obtain ⟨m,hm⟩:=h
 obtain ⟨_,l,hl,hs⟩:=deep_ok k t m cs.toList (d,p) hg (by simpa [Value.cells] using hm)
 exact ⟨l,by rw[VR];exact ⟨cs,rfl,hl⟩,hs⟩
theorem open_sl {H:Type} {enc:TypeId×Value→H} {w:World} {v:Value} {d:DataW H} {p:List MemPlace} {base k:Nat} {t e:TypeId} (ht:Tryz.prog.underlying t=some (.slice e)) (hg:goodT Tryz.prog k t=true) (hval:Value.okWide Tryz.prog w .any base t v)
  (h:DataW.Trod enc Tryz.prog w 0 (fun _=>true) true t v d p):∃l,VRL (mAll w) l [v]∧shP Tryz.prog k t l:=by
 obtain ⟨a,len,cap,rfl⟩:=Go.WideShapes.okWide_slice ht hval
 obtain ⟨m,hm⟩:=h
 obtain ⟨_,l,hl,hs⟩:=deep_ok k t m [.slice a len cap] (d,p) hg (by simpa [Value.cells] using hm)
 exact ⟨l,hl,hs⟩
theorem glob0 (w:World):Glob gl0 w:=fun g cs h=>by cases h
end Go.Proofs.YtiholnebhmjbjaaGreat
