/-
  Chapter 25: what the cells of the arguments look like.
-/
import Derived.Test.YtnhechnaemmdiaaGreatDoorK25QE
import Derived.Test.YtnhechnaemmdiaaGreatDoorEngX7
import Derived.ProofKit
set_option linter.unusedSimpArgs false
set_option linter.unusedVariables false
set_option linter.unusedSectionVars false
namespace Go.Proofs.YtnhechnaemmdiaaGreatDoor
open Go.RowKit
set_option maxRecDepth 1000000

noncomputable def fldsOf (t:TypeId):List TypeId:=match Tryz.prog.underlying t with
 | some (.struct fs)=>fs.toList.map (·.type)
 | _=>[]
def typesP (p:TypeId→List AV→Prop):List TypeId→List AV→Prop
 | [],l=>l=[]
 | t::ts,l=>∃x y,p t x∧typesP p ts y∧l=x++y
theorem types_of {p:TypeId→List AV→Prop}:∀ (fs:List Field) (l:List AV),fieldsP p fs l→typesP p (fs.map (·.type)) l
 | [],_,h=>h
 | f::fs,l,h=>by
  obtain ⟨x,y,h1,h2,h3⟩:=h
  exact ⟨x,y,h1,types_of fs y h2,h3⟩
noncomputable def isSt (t:TypeId):Bool:=match Tryz.prog.underlying t with
 | some (.struct _)=>true
 | _=>false
theorem struct_of {k t:Nat} {l:List AV} (ht:isSt t=true) (h:shP Tryz.prog (k+1) t l):typesP (shP Tryz.prog k) (fldsOf t) l:=by
 unfold isSt at ht
 unfold fldsOf
 rw[shP] at h
 split at ht
 ·rename_i fs hfs
  rw[hfs] at h
  try rw[hfs]
  exact types_of _ _ h
 ·cases ht
theorem und_3:Tryz.prog.underlying 3=some (.int .i64):=by kernel_rfl
theorem und_5:Tryz.prog.underlying 5=some (.int .u8):=by kernel_rfl
theorem und_9:Tryz.prog.underlying 9=some .string:=by kernel_rfl
theorem und_22:Tryz.prog.underlying 22=some (.int .u16):=by kernel_rfl
theorem und_23:Tryz.prog.underlying 23=some (.slice 60):=by kernel_rfl
theorem und_24:Tryz.prog.underlying 24=some (.int .u32):=by kernel_rfl
theorem und_29:Tryz.prog.underlying 29=some (.array 2 28):=by kernel_rfl
theorem und_32:Tryz.prog.underlying 32=some (.slice 3):=by kernel_rfl
theorem und_33:Tryz.prog.underlying 33=some (.slice 36):=by kernel_rfl
theorem und_34:Tryz.prog.underlying 34=some (.int .u64):=by kernel_rfl
theorem und_39:Tryz.prog.underlying 39=some (.array 2 24):=by kernel_rfl
theorem und_60:Tryz.prog.underlying 60=some (.int .i16):=by kernel_rfl
theorem wf_i {k:IntKind} {n:Int} (h:(Lit.int k n).wf=true):k.min≤n∧n≤k.max:=by
 simpa [Lit.wf] using h
theorem sh_i64 {k:Nat} {l:List AV} (h:shP Tryz.prog (k+1) 3 l):∃n,l=[.int .i64 n] ∧ -9223372036854775808≤n∧n≤9223372036854775807:=by
 rw[shP] at h
 simp only[und_3] at h
 obtain ⟨n,h1,h2⟩:=h
 exact ⟨n,h1,wf_i h2⟩
theorem sh_i16 {k:Nat} {l:List AV} (h:shP Tryz.prog (k+1) 60 l):∃n,l=[.int .i16 n] ∧ -32768≤n∧n≤32767:=by
 rw[shP] at h
 simp only[und_60] at h
 obtain ⟨n,h1,h2⟩:=h
 exact ⟨n,h1,wf_i h2⟩
theorem nat_of {n:Int} {m:Int} (h:0≤n∧n≤m):∃k:Nat,n=(k:Int)∧(k:Int)≤m:=⟨n.toNat,by omega,by omega⟩
theorem sh_u64 {k:Nat} {l:List AV} (h:shP Tryz.prog (k+1) 34 l):∃n:Nat,l=[.int .u64 (n:Int)]∧n<18446744073709551616:=by
 rw[shP] at h
 simp only[und_34] at h
 obtain ⟨n,h1,h2⟩:=h
 obtain ⟨k,rfl,h3⟩:=nat_of (m:=18446744073709551615) (wf_i h2)
 exact ⟨k,h1,by omega⟩
theorem sh_u32 {k:Nat} {l:List AV} (h:shP Tryz.prog (k+1) 24 l):∃n:Nat,l=[.int .u32 (n:Int)]∧n≤4294967295:=by
 rw[shP] at h
 simp only[und_24] at h
 obtain ⟨n,h1,h2⟩:=h
 obtain ⟨k,rfl,h3⟩:=nat_of (m:=4294967295) (wf_i h2)
 exact ⟨k,h1,by omega⟩
theorem sh_u16 {k:Nat} {l:List AV} (h:shP Tryz.prog (k+1) 22 l):∃n:Nat,l=[.int .u16 (n:Int)]∧n≤65535:=by
 rw[shP] at h
 simp only[und_22] at h
 obtain ⟨n,h1,h2⟩:=h
 obtain ⟨k,rfl,h3⟩:=nat_of (m:=65535) (wf_i h2)
 exact ⟨k,h1,by omega⟩
theorem sh_u8 {k:Nat} {l:List AV} (h:shP Tryz.prog (k+1) 5 l):∃n:Nat,l=[.int .u8 (n:Int)]∧n≤255:=by
 rw[shP] at h
 simp only[und_5] at h
 obtain ⟨n,h1,h2⟩:=h
 obtain ⟨k,rfl,h3⟩:=nat_of (m:=255) (wf_i h2)
 exact ⟨k,h1,by omega⟩
theorem sh_str {k:Nat} {l:List AV} (h:shP Tryz.prog (k+1) 9 l):∃s:List UInt8,l=[.str s]∧s.length≤9223372036854775807:=by
 rw[shP] at h
 simp only[und_9] at h
 obtain ⟨s,h1,h2⟩:=h
 unfold maxLen at h2
 exact ⟨s,h1,by omega⟩
theorem many_of {α:Type} {f:α→List AV} {g:α→Prop} {k:Nat} {t:TypeId} (hf:∀l,shP Tryz.prog k t l→∃a,l=f a∧g a):∀ (ls:List (List AV)),(∀x∈ls,shP Tryz.prog k t x)→∃ks:List α,ls.flatten=ks.flatMap f∧ls.length=ks.length∧∀a∈ks,g a
 | [],_=>⟨[],rfl,rfl,fun _ h=>by cases h⟩
 | x::ls,h=>by
  obtain ⟨a,rfl,ha⟩:=hf x (h x (by simp))
  obtain ⟨ks,h1,h2,h3⟩:=many_of hf ls fun y hy=>h y (by simp[hy])
  refine ⟨a::ks,by rw[List.flatten_cons,h1];rfl,by simp[h2],fun b hb => ?_⟩
  rcases List.mem_cons.1 hb with rfl | hb
  ·exact ha
  ·exact h3 b hb
theorem sh_list {α:Type} {f:α→List AV} {g:α→Prop} {k t e z:Nat} {l:List AV} (hu:Tryz.prog.underlying t=some (.slice e)) (hz:Tryz.prog.cellsOf e=z) (hf:∀l,shP Tryz.prog k e l→∃a,l=f a∧g a) (h:shP Tryz.prog (k+1) t l) :
  ∃ks:List α,l=[.lst 0 (ks.flatMap f) ks.length z]∧ks.length≤9223372036854775807∧∀a∈ks,g a:=by
 rw[shP] at h
 simp only[hu,hz] at h
 obtain ⟨ls,h1,h2,h3⟩:=h
 obtain ⟨ks,k1,k2,k3⟩:=many_of hf ls fun x hx=>(h1 x hx).1
 unfold maxLen at h2
 exact ⟨ks,by rw[h3,k1,k2],by omega,k3⟩
theorem fm_int (c:Int→AV):∀ks:List Int,ks.flatMap (fun n=>[c n])=ks.map c
 | []=>rfl
 | k::ks=>by rw[List.flatMap_cons,fm_int c ks];rfl
theorem fm_tr:∀l:List Tr,l.flatMap (fun t=>[AV.int .i64 t.1,.int .i64 t.2.1,.int .u64 (t.2.2:Nat)])=trM l
 | []=>rfl
 | t::l=>by rw[List.flatMap_cons,fm_tr l];rfl
theorem okWide_struct {P:Program} {w:World} {r:Reach} {base:Nat} {t:TypeId} {v:Value} {fs:Array Field} (ht:P.underlying t=some (.struct fs)) (h:Value.okWide P w r base t v):∃cs,v=.agg cs:=by
 simp only[Value.okWide,ht] at h
 obtain ⟨cs,h1,_⟩:=h
 exact ⟨cs,h1⟩
theorem okWide_st {w:World} {r:Reach} {base:Nat} {t:TypeId} {v:Value} (ht:isSt t=true) (h:Value.okWide Tryz.prog w r base t v):∃cs,v=.agg cs:=by
 unfold isSt at ht
 split at ht
 ·rename_i fs hfs
  exact okWide_struct hfs h
 ·cases ht
theorem okWide_array {P:Program} {w:World} {r:Reach} {base:Nat} {t:TypeId} {v:Value} {n:Nat} {e:TypeId} (ht:P.underlying t=some (.array n e)) (h:Value.okWide P w r base t v):∃cs,v=.agg cs:=by
 simp only[Value.okWide,ht] at h
 obtain ⟨cs,h1,_⟩:=h
 exact ⟨cs,h1⟩
theorem open_agg {H:Type} {enc:TypeId×Value→H} {w:World} {v:Value} {d:DataW H} {p:List MemPlace} {k:Nat} {t:TypeId} {cs:Array Value} (hv:v=.agg cs) (hg:goodT Tryz.prog k t=true)
  (h:DataW.Trod enc Tryz.prog w 0 (fun _=>true) true t v d p):∃l,VR (mAll w) (.agg l) v∧shP Tryz.prog k t l∧VRL (mAll w) l cs.toList∧∀s,Value.string s∈cs.toList→s.size∈d.weights Tryz.prog t:=by
 subst hv
 obtain ⟨m,hm⟩:=h
 have hm':=(show DataW.trod enc Tryz.prog w 0 (fun _=>true) true m t cs.toList=some (d,p) by simpa [Value.cells] using hm)
 obtain ⟨_,l,hl,hs⟩:=deep_ok k t m cs.toList (d,p) hg hm'
 exact ⟨l,by rw[VR];exact ⟨cs,rfl,hl⟩,hs,hl,(deep_wt k t m cs.toList (d,p) hg hm').2⟩
theorem draft25_open {H:Type} {enc:TypeId×Value→H} {w:World} {v:Value} {d:DataW H} {p:List MemPlace} {base:Nat} (hval:Value.okWide Tryz.prog w .any base 26 v) (h:DataW.Trod enc Tryz.prog w 0 (fun _=>true) true 26 v d p) (hw:∀n∈d.weights Tryz.prog 26,n≤reachBytes) :
  ∃ (key:List UInt8) (hd fi:Nat) (ks:List Int) (ss:Nat),VR (mAll w) (.agg [.str key,.int .u16 (hd:Nat),.int .u16 (fi:Nat),.lst 0 (c16M ks) ks.length 1,.int .u32 (ss:Nat)]) v ∧
   key.length≤140737488351232∧hd<65536∧fi≤65535∧ks.length≤9223372036854775807∧(∀k∈ks, -32768≤k∧k≤32767)∧ss≤4294967295:=by
 obtain ⟨cs,hv⟩:=okWide_st (by kernel_rfl) hval
 obtain ⟨l,h1,h2,h3,h4⟩:=open_agg (k:=4) hv (by kernel_rfl) h
 have h2:=struct_of (by kernel_rfl) h2
 rw[show fldsOf 26=[9,22,22,23,24] by kernel_rfl] at h2
 obtain ⟨_,_,g0,⟨_,_,g1,⟨_,_,g2,⟨_,_,g3,⟨_,_,g4,rfl,rfl⟩,rfl⟩,rfl⟩,rfl⟩,rfl⟩:=h2
 obtain ⟨key,rfl,a0⟩:=sh_str g0
 obtain ⟨hd,rfl,a1⟩:=sh_u16 g1
 obtain ⟨fi,rfl,a2⟩:=sh_u16 g2
 obtain ⟨ks,rfl,a3,a4⟩:=sh_list (f:=fun n=>[AV.int .i16 n]) (g:=fun n => -32768≤n∧n≤32767) und_23 (show Tryz.prog.cellsOf 60=1 by kernel_rfl) (fun l h=>sh_i16 h) g3
 obtain ⟨ss,rfl,a5⟩:=sh_u32 g4
 rw[fm_int] at h1 h3
 refine ⟨key,hd,fi,ks,ss,h1, ?_,by omega,a2,a3,a4,a5⟩
 simp only[List.cons_append,List.nil_append] at h3
 obtain ⟨v0,l0,e0,e1,_⟩:=VRL_consL h3
 simp only[VR] at e1
 have:=hw _ (h4 ⟨key.toArray⟩ (by rw[e0,e1];simp))
 have e2:(⟨key.toArray⟩:ByteArray).size=key.length:=by show key.toArray.size=_;simp
 rw[e2] at this
 unfold reachBytes at this
 omega
theorem sh_bend25 {k:Nat} {l:List AV} (h:shP Tryz.prog (k+2) 28 l):∃ (what at':Nat) (n:Int),l=[.int .u8 (what:Int),.int .u8 (at':Int),.int .i64 n]∧what≤255∧at'≤255∧(-9223372036854775808≤n∧n≤9223372036854775807):=by
 have h:=struct_of (by kernel_rfl) h
 rw[show fldsOf 28=[5,5,3] by kernel_rfl] at h
 obtain ⟨_,_,h0,⟨_,_,h1,⟨_,_,h2,rfl,rfl⟩,rfl⟩,rfl⟩:=h
 obtain ⟨a,rfl,a1⟩:=sh_u8 h0
 obtain ⟨b,rfl,b1⟩:=sh_u8 h1
 obtain ⟨n,rfl,c1⟩:=sh_i64 h2
 exact ⟨a,b,n,rfl,a1,b1,c1⟩
theorem bends25_open {H:Type} {enc:TypeId×Value→H} {w:World} {v:Value} {d:DataW H} {p:List MemPlace} {base:Nat} (hval:Value.okWide Tryz.prog w .any base 29 v) (h:DataW.Trod enc Tryz.prog w 0 (fun _=>true) true 29 v d p) :
  ∃ (w1 a1:Nat) (n1:Int) (w2 a2:Nat) (n2:Int),VR (mAll w) (.agg [.int .u8 (w1:Int),.int .u8 (a1:Int),.int .i64 n1,.int .u8 (w2:Int),.int .u8 (a2:Int),.int .i64 n2]) v∧w1≤255∧a1≤255∧(-9223372036854775808≤n1∧n1≤9223372036854775807)∧w2≤255∧a2≤255∧(-9223372036854775808≤n2∧n2≤9223372036854775807):=by
 obtain ⟨cs,hv⟩:=okWide_array und_29 hval
 obtain ⟨l,g1,s1,_,_⟩:=open_agg (k:=3) hv (by kernel_rfl) h
 rw[shP] at s1
 simp only[und_29] at s1
 obtain ⟨ls,q1,q2,rfl⟩:=s1
 match ls,q1 with
 | [x,y],_=>
  obtain ⟨a,b,n,rfl,ha,hb,hn⟩:=sh_bend25 (k:=0) (q2 x (by simp))
  obtain ⟨c,e,u,rfl,hc,he,hu⟩:=sh_bend25 (k:=0) (q2 y (by simp))
  exact ⟨a,b,n,c,e,u,g1,ha,hb,hn,hc,he,hu⟩
theorem sh_tr {k:Nat} {l:List AV} (h:shP Tryz.prog (k+2) 36 l):∃t:Tr,l=[.int .i64 t.1,.int .i64 t.2.1,.int .u64 (t.2.2:Nat)]∧(-9223372036854775808≤t.2.1∧t.2.1≤9223372036854775807)∧t.2.2<18446744073709551616:=by
 have h:=struct_of (by kernel_rfl) h
 rw[show fldsOf 36=[3,3,34] by kernel_rfl] at h
 obtain ⟨_,_,h0,⟨_,_,h1,⟨_,_,h2,rfl,rfl⟩,rfl⟩,rfl⟩:=h
 obtain ⟨a,rfl,_⟩:=sh_i64 h0
 obtain ⟨b,rfl,hb⟩:=sh_i64 h1
 obtain ⟨c,rfl,hc⟩:=sh_u64 h2
 exact ⟨(a,b,c),rfl,hb,hc⟩
theorem shield_open {H:Type} {enc:TypeId×Value→H} {w:World} {v:Value} {d:DataW H} {p:List MemPlace} {base:Nat} (hval:Value.okWide Tryz.prog w .any base 38 v) (h:DataW.Trod enc Tryz.prog w 0 (fun _=>true) true 38 v d p) :
  ∃ (a b c:List UInt8) (xs:List Int) (l:List Tr) (nx rs rt:Int) (rk:Nat),VR (mAll w) (shV 0 0 a b c xs l nx rs rt rk) v∧trOk l∧(-9223372036854775808≤rt∧rt≤9223372036854775807)∧rk<18446744073709551616:=by
 obtain ⟨cs,hv⟩:=okWide_st (by kernel_rfl) hval
 obtain ⟨l,g1,h,_,_⟩:=open_agg (k:=5) hv (by kernel_rfl) h
 have h:=struct_of (by kernel_rfl) h
 rw[show fldsOf 38=[31,32,33,3,36] by kernel_rfl] at h
 obtain ⟨_,_,h0,⟨_,_,h1,⟨_,_,h2,⟨_,_,h3,⟨_,_,h4,rfl,rfl⟩,rfl⟩,rfl⟩,rfl⟩,rfl⟩:=h
 have h0:=struct_of (by kernel_rfl) h0
 rw[show fldsOf 31=[9,9,9] by kernel_rfl] at h0
 obtain ⟨_,_,k0,⟨_,_,k1,⟨_,_,k2,rfl,rfl⟩,rfl⟩,rfl⟩:=h0
 obtain ⟨a,rfl,_⟩:=sh_str k0
 obtain ⟨b,rfl,_⟩:=sh_str k1
 obtain ⟨c,rfl,_⟩:=sh_str k2
 obtain ⟨xs,rfl,_,_⟩:=sh_list (f:=fun n=>[AV.int .i64 n]) (g:=fun n => -9223372036854775808≤n∧n≤9223372036854775807) und_32 (show Tryz.prog.cellsOf 3=1 by kernel_rfl) (fun l h=>sh_i64 h) h1
 obtain ⟨ts,rfl,_,hts⟩:=sh_list (f:=fun t:Tr=>[AV.int .i64 t.1,.int .i64 t.2.1,.int .u64 (t.2.2:Nat)]) (g:=fun t=>(-9223372036854775808≤t.2.1∧t.2.1≤9223372036854775807)∧t.2.2<18446744073709551616) und_33 (show Tryz.prog.cellsOf 36=3 by kernel_rfl) (fun l h=>sh_tr (k:=1) h) h2
 obtain ⟨nx,rfl,_⟩:=sh_i64 h3
 obtain ⟨t,rfl,ht,hk⟩:=sh_tr (k:=2) h4
 rw[fm_int,fm_tr] at g1
 exact ⟨a,b,c,xs,ts,nx,t.1,t.2.1,t.2.2,g1,hts,ht,hk⟩
theorem pair_open {H:Type} {enc:TypeId×Value→H} {w:World} {v:Value} {d:DataW H} {p:List MemPlace} {base:Nat} (hval:Value.okWide Tryz.prog w .any base 39 v) (h:DataW.Trod enc Tryz.prog w 0 (fun _=>true) true 39 v d p) :
  ∃a b:Nat,VR (mAll w) (.agg [.int .u32 (a:Int),.int .u32 (b:Int)]) v∧a≤4294967295∧b≤4294967295:=by
 obtain ⟨cs,hv⟩:=okWide_array und_39 hval
 obtain ⟨l,g1,s1,_,_⟩:=open_agg (k:=3) hv (by kernel_rfl) h
 rw[shP] at s1
 simp only[und_39] at s1
 obtain ⟨ls,q1,q2,rfl⟩:=s1
 match ls,q1 with
 | [x,y],_=>
  obtain ⟨a,rfl,ha⟩:=sh_u32 (k:=1) (q2 x (by simp))
  obtain ⟨b,rfl,hb⟩:=sh_u32 (k:=1) (q2 y (by simp))
  exact ⟨a,b,g1,ha,hb⟩
end Go.Proofs.YtnhechnaemmdiaaGreatDoor
