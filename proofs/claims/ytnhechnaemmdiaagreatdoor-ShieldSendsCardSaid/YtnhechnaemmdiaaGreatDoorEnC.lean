/-
  The engine, part H: structs and arrays that are built, slices that are made, conversions.
-/
import Derived.Test.YtnhechnaemmdiaaGreatDoorEnB
import Derived.Laws.StructEq
set_option linter.unusedSimpArgs false
set_option linter.unusedVariables false
namespace Go.Proofs.YtnhechnaemmdiaaGreatDoor
open Go.RowKit

theorem fV(z:Array Value):∀n:Nat,(madeCells z (n*z.size)).toList=(List.replicate n z.toList).flatten
 | 0=>by simp[madeCells]
 | n+1=>by
  have ih:=fV z n
  simp only[madeCells,cCq,Array.toList_range]at ih ⊢
  rw[bZ6,cCp,List.range_add,cBk,ih,List.replicate_succ',cB7]
  congr 1
  simp only[bZv,List.flatten_nil,bXs,cA0]
  apply cCr
  ·simp
  ·intro i h1 h2
   simp at h1 h2
   simp[bZh h1,Nat.add_mod,h1]

section
variable {P:Program} {gl:Nat->Option HB} {m:M} {H:HV} {w:World} {ρ:Operand->Value} {ev:AO->AV}

theorem rE(ρ:Operand->Value)(ps:Array (Nat×Operand)):(ps.map λ(i,x)=>(i,ρ x)).toList=ps.toList.map λp=>(p.1,ρ p.2):=by simp

theorem aZj{cs:HB}{ps:List (Nat×Nat×AO)}{b:Bool}{r:HB}(h:yT ev cs ps=some (b,r))(hb:b=true):r.length=cs.length:=by
 induction ps generalizing cs b r with
 | nil=>simp[yT]at h;simp[h.2]
 | cons p ps ih=>
  obtain⟨o,n,x⟩:=p
  simp only[yT]at h
  split at h
  ·cases h
  ·rename_i v hv
   split at h
   ·rename_i b' r' hf
    simp only[bW5,bX1]at h
    obtain⟨rfl,rfl⟩:=h
    simp only[bW3,bS,bX5]at hb
    rw[ih hf hb.1.1]
    simp[aN]
    omega
   ·cases h

theorem aUx(hρ:∀x,VR m (ev (cO x)) (ρ x)){o:Oper}{t:TypeId}{ps:Array (Nat×Operand)}(ho:o.op=.build t ps)(nid:Nat){r:LR}{cu ca}
  (h:lop gl ev cu ca nid (cOp P o.op)=some r) (hp:r.pre=true):fH P m w ρ o nid r:=by
 rw[ho]at h
 simp only[cOp]at h
 by_cases hz0:(gT (lJ P t)).isNone=true
 ·rw[if_pos hz0]at h
  simp[lop]at h
 rw[if_neg hz0]at h
 have hz:gT (lJ P t)≠none:=by
  intro e
  rw[e]at hz0
  exact hz0 rfl
 obtain⟨i,z,hi,hzz,hR,hzr⟩:=yJ (P:=P) (m:=m) (w:=w) hz
 have hzc:VRL m (jI P t) z.cells.toList:=by
  unfold jI
  cases hc:gT (lJ P t)with
  | none=>exact absurd hc hz
  | some l=>exact iE hc hR
 split at h
 ·rename_i fs hu
  have hu':=eB (w:=w) hu (by simp)
  split at h
  ·rename_i hk
   simp only[bW3,bYy]at hk
   simp only[lop]at h
   split at h
   ·rename_i b cs hf
    cases h
    obtain⟨cells',h1,h2⟩:=aC2 hρ (λj=>(fs.map λ(f:Field)=>(f.offset,szT P f.type))[j]?) _ ps.toList _ z.cells _ _ (by
     intro p hpm
     have hlt:=hk.2 p hpm
     rw[aD]at hlt
     have hg:fs[p.1]? = some fs[p.1]:=by simp[hlt]
     simp[hg]) hzc hf hp
    refine .inl ⟨rfl,.agg cells', ?_,by simp only[VR];exact⟨_,rfl,h2⟩⟩
    simp only[execOp,ho]
    refine dL ?_
    have hpl:=run_places (P:=P) (w:=w) fs hk.1
    simp only[Instr.build,bY1,hzr,bYl,hu',hpl,rE,h1]
    rfl
   ·cases h
  ·simp[lop]at h
 ·rename_i k e hu
  have hu':=eB (w:=w) hu (by simp)
  split at h
  ·rename_i hk
   simp only[lop]at h
   split at h
   ·rename_i b cs hf
    cases h
    obtain⟨cells',h1,h2⟩:=aC2 hρ (λj=>some (j*szT P e,szT P e)) _ ps.toList _ z.cells _ _ (by intro p hpm;exact⟨rfl,rfl⟩) hzc hf hp
    refine .inl ⟨rfl,.agg cells', ?_,by simp only[VR];exact⟨_,rfl,h2⟩⟩
    simp only[execOp,ho]
    refine dL ?_
    simp only[Instr.build,bY1,hzr,bYl,hu',bN hk,rE,h1]
    rfl
   ·cases h
  ·simp[lop]at h
 ·simp[lop]at h

theorem bHr(hρ:∀x,VR m (ev (cO x)) (ρ x)){o:Oper}{t:TypeId}{n:Nat}{ps:Array (Nat×Operand)}(ho:o.op=.buildSlice t n ps)(nid:Nat){r:LR}{cu ca}
  (h:lop gl ev cu ca nid (cOp P o.op)=some r) (hp:r.pre=true):fH P m w ρ o nid r:=by
 rw[ho]at h
 simp only[cOp]at h
 split at h
 ·rename_i e hu
  have hu':=eB (w:=w) hu (by simp)
  split at h
  ·rename_i hk
   simp only[bW3,bYr,aD,bX5]at hk
   obtain⟨⟨⟨hk1,hk2⟩,hk3⟩,hk4⟩:=hk
   obtain⟨i,z,hi,hzz,hR,hzr⟩:=aA0 (P:=P) (m:=m) (w:=w) (t:=e) (by omega)
   have hzs:z.cells.size=szT P e:=by rw[←hk2];simpa using hR.len.symm
   simp only[lop]at h
   split at h
   ·rename_i b cs hf
    cases h
    have hrep:VRL m ((List.replicate n (jI P e)).flatten) (madeCells z.cells (n*szT P e)).toList:=by
     rw[←hzs,fV]
     clear hf hp hk4 ho
     induction n with
     | zero=>simp
     | succ n ih=>simp only[bZl,bZv];exact hR.append ih
    obtain⟨cells',h1,h2⟩:=aC2 hρ (λj=>some (j*szT P e,szT P e)) _ ps.toList _ (madeCells z.cells (n*szT P e)) _ _ (by intro p hpm;exact⟨rfl,rfl⟩) hrep hf hp
    have hlen:=aZj hf hp
    refine .inr ⟨_,.slice (some ⟨w.heap.size,0,none⟩) n n,_,⟨w.heap.size,0,cs.length,cs.length⟩,rfl, ?_,rM h2 w e .exact (by simp),λm' hm' => ?_⟩
    ·simp only[execOp,ho]
     refine dL ?_
     have hn:¬ n*szT P e>2^24:=by omega
     by_cases h0:n*szT P e=0
     ·have hm0:madeCells z.cells (n*szT P e) = #[]:=by rw[h0];simp[madeCells]
      rw[hm0]at h1
      have hn0:n=0:=by
       rcases Nat.mul_eq_zero.1 h0 with h | h
       ·exact h
       ·omega
      subst hn0
      simp[Instr.buildSlice,hu',bN hk1,newRow,Array.range_zero']
      simp[h1]
     ·have hm1:(Array.range (n*szT P e)).map (λx=>z.cells[x%z.cells.size]!)=madeCells z.cells (n*szT P e):=rfl
      simp only[Instr.buildSlice,bY1,hu',bYl,bN hk1,hn,h0,cBj,hzr,cBh,rE,hm1,h1]
      simp[newRow]
    ·simp only[VR]
     refine⟨rfl,_,hm',bXe _,λ_=>⟨0,n,rfl,bXe _,.inl ⟨rfl, ?_⟩,λh1 _=>by have:=Nat.le_mul_of_pos_right n (Nat.pos_of_ne_zero h1);omega⟩⟩
     have:(List.replicate n (jI P e)).flatten.length=n*szT P e:=by simp[hk2]
     show 0+n*szT P e<=cs.length
     omega
   ·cases h
  ·simp[lop]at h
 ·simp[lop]at h

theorem kD{zs:HB}{z:List Value}(h:VRL m zs z):∀n:Nat,VRL m ((List.replicate n zs).flatten) ((List.replicate n z).flatten)
 | 0=>by simp
 | n+1=>by simp only[bZl,bZv];exact h.append (kD h n)

theorem aY8(hρ:∀x,VR m (ev (cO x)) (ρ x)){o:Oper}{t:TypeId}{l c:Operand}(ho:o.op=.makeSlice t l c)(nid:Nat){r:LR}{cu ca}
  (h:lop gl ev cu ca nid (cOp P o.op)=some r) (hp:r.pre=true):fH P m w ρ o nid r:=by
 rw[ho]at h
 simp only[cOp]at h
 split at h
 ·rename_i e hu
  split at h
  ·rename_i hk
   simp only[bW3,bYr,aD]at hk
   obtain⟨⟨hk1,hk2⟩,hk3⟩:=hk
   obtain⟨i,z,hi,hzz,hR,hzr⟩:=aA0 (P:=P) (m:=m) (w:=w) (t:=e) (by omega)
   have hzs:z.cells.size=szT P e:=by rw[←hk2];simpa using hR.len.symm
   have his:i.size=szT P e:=by simp[szT,Program.cellsOf,hi]
   have hib:i.bytes=P.bytesOf e:=by simp[Program.bytesOf,hi]
   simp only[lop]at h
   split at h
   ·rename_i k1 lv k2 cv hl hc
    have hl2:=hρ l
    have hc2:=hρ c
    rw[hl]at hl2
    rw[hc]at hc2
    simp only[VR]at hl2 hc2
    cases h
    simp only[bW3,bW6]at hp
    obtain⟨⟨⟨hp1,hp2⟩,hp3⟩,hp4⟩:=hp
    have hrun:=run_make (P:=P) w t e i z (cZ hu (by simp)) hi hzz k1 k2 lv cv hp1 hp2 (by rw[hib,Int.mul_comm];omega) (by omega)
    rw[his,←hzs]at hrun
    have hlc:lv.toNat<=cv.toNat:=by omega
    have hlim:lv.toNat*szT P e<=cv.toNat*szT P e:=bZf _ hlc
    generalize hsame:(match l,c with | Operand.tmp a,Operand.tmp b=>Nat.beq a b | _,_=>false)=same
    have hs2:same=true->lv=cv:=by
     intro hs
     rw[hs]at hsame
     cases l<;>cases c<;>simp only at hsame<;>try cases hsame
     rw[bS]at hsame
     subst hsame
     rw[hl2]at hc2
     cases hc2
     rfl
    refine .inr ⟨iJ (bif same then .exact else .grow) ((List.replicate lv.toNat (jI P e)).flatten),.slice (some ⟨w.heap.size,0,none⟩) lv.toNat cv.toNat,w.alloc (.cells (madeCells z.cells (cv.toNat*z.cells.size)) e),⟨w.heap.size,0,lv.toNat*szT P e,bif same then lv.toNat*szT P e else cv.toNat*szT P e⟩,by subst hsame;rfl, ?_, ?_,λm' hm' => ?_⟩
    ·simp only[execOp,ho,hl2,hc2]
     exact dL hrun
    ·have hflen:((List.replicate lv.toNat (jI P e)).flatten).length=lv.toNat*szT P e:=by simp[hk2]
     refine⟨rfl,rfl,rfl,id,by simp only[iJ,hflen],rfl,rfl,_,e,0,0,rfl, ?_, ?_, ?_, ?_,.inl rfl, ?_⟩
     ·cases same<;>simp[hlim]
     ·rw[size_madeCells,hzs]
      cases same<;>simp[hlim]
     ·cases same<;>simp[iJ]
     ·cases same<;>simp[iJ]
     ·simp only[iJ]
      rw[fV]
      have e1:(List.replicate cv.toNat z.cells.toList).flatten.take (lv.toNat*szT P e)=(List.replicate lv.toNat z.cells.toList).flatten:=by
       have:cv.toNat=lv.toNat+(cv.toNat-lv.toNat):=by omega
       rw[this,←List.replicate_append_replicate,cB7]
       exact List.take_left' (by simp[hzs])
      rw[e1]
      exact kD hR _
    ·simp only[VR]
     refine⟨rfl,_,hm',bXe _,λ_=>⟨0,cv.toNat,rfl,hlc,.inl ⟨rfl, ?_⟩,λ_ _=>by omega⟩⟩
     cases hsm:same
     ·simp
     ·have:=hs2 hsm
      simp[this]
   ·cases h
  ·simp[lop]at h
 ·simp[lop]at h

theorem wT:∀ {l:HB} {vs:List Value} (_:VRL m l vs) (_:fU l=true),∃ns:QT,vs=ns.map (Value.int .u8)∧l.map toB=ns.map λn=>UInt8.ofNat n.toNat
 | [],vs,h,_=>by
  rw[gL]at h
  exact⟨[],by simp[h],rfl⟩
 | a::l,vs,h,hu=>by
  obtain⟨v,vs',rfl,h1,h2⟩:=bB h
  match a,hu,h1 with
  | .int .u8 n,hu,h1=>
   simp only[fU]at hu
   simp only[VR]at h1
   obtain⟨ns,e1,e2⟩:=wT h2 hu
   exact⟨n::ns,by simp[h1,e1],by simp[toB,e2]⟩

theorem aBl:∀ (ns:QT) (r:ByteArray),ns.foldl (λr n=>r.push (UInt8.ofNat n.toNat)) r=⟨r.data++(ns.map λn=>UInt8.ofNat n.toNat).toArray⟩
 | [],r=>by simp
 | n::ns,r=>by
  simp only[cAz]
  rw[aBl ns]
  simp[ByteArray.push]

theorem bDj(hρ:∀x,VR m (ev (cO x)) (ρ x)){o:Oper}{s t:TypeId}{x:Operand}{ok:Bool}(ho:o.op=.typeAssert x s t ok)(nid:Nat){r:LR}{cu ca}
  (h:lop gl ev cu ca nid (cOp P o.op)=some r) (hp:r.pre=true):fH P m w ρ o nid r:=by
 rw[ho]at h
 simp only[cOp]at h
 have hx:=hρ x
 split at h
 ·rename_i hk
  simp only[bW3]at hk
  obtain⟨_,hu⟩:=fC hk.1
  have hz:gT (lJ P t)≠none:=λe=>by have:=hk.2;rw[e]at this;cases this
  obtain⟨_,z,_,_,z3,z4⟩:=yJ (P:=P) (m:=m) (w:=w) hz
  split at h
  ·simp[lop]at h
  ·simp[lop]at h
  ·rename_i d h1 h2
   cases ok
   ·simp only[bYi,lop]at h
    cases he:ev (cO x)<;>simp only[he]at h hx<;>try cases h
    rename_i t' v
    simp only[VR]at hx
    obtain⟨y,e1,e2⟩:=hx
    obtain rfl:=bYg hp
    refine .inl ⟨rfl,y, ?_,e2⟩
    simp only[execOp,ho]
    refine dL ?_
    simp only[Instr.typeAssert,bY1,bXj hu,bYl,e1]
    revert h1
    cases und P t'<;>intro h1<;>first | simp | exact absurd rfl (h1 _)
   ·simp only[bXw,lop]at h
    cases he:ev (cO x)<;>simp only[he]at h hx<;>try cases h
    ·simp only[VR]at hx
     refine .inl ⟨rfl,.tuple #[z,.bool false], ?_,by simp only[VR];exact⟨_,rfl,by rw[bH,bH];exact⟨z3,by simp[VR],by simp⟩⟩⟩
     simp only[execOp,ho]
     refine dL ?_
     simp only[Instr.typeAssert,bY1,bXj hu,bYl,hx]
     revert h1
     cases und P t<;>intro h1<;>first | simp[z4] | exact absurd rfl (h1 _)
    ·rename_i t' v
     simp only[VR]at hx
     obtain⟨y,e1,e2⟩:=hx
     by_cases ht:t'=t
     ·subst ht
      refine .inl ⟨rfl,.tuple #[y,.bool true], ?_,by simp only[cCd,bXw,VR];exact⟨_,rfl,by rw[bH,bH];exact⟨e2,by simp[VR],by simp⟩⟩⟩
      simp only[execOp,ho]
      refine dL ?_
      simp only[Instr.typeAssert,bY1,bXj hu,bYl,e1]
      revert h1
      cases und P t'<;>intro h1<;>first | simp | exact absurd rfl (h1 _)
     ·have hb:Nat.beq t' t=false:=by cases hb:Nat.beq t' t with | false=>rfl | true=>exact absurd (bYg hb) ht
      refine .inl ⟨rfl,.tuple #[z,.bool false], ?_,by simp only[hb,bYi,VR];exact⟨_,rfl,by rw[bH,bH];exact⟨z3,by simp[VR],by simp⟩⟩⟩
      simp only[execOp,ho]
      refine dL ?_
      simp only[Instr.typeAssert,bY1,bXj hu,bYl,e1]
      revert h1
      cases und P t<;>intro h1<;>first | simp[ht,z4] | exact absurd rfl (h1 _)
 ·simp[lop]at h

theorem aX1(hH:HR gl m H w)(hρ:∀x,VR m (ev (cO x)) (ρ x)){o:Oper}{s d:TypeId}{x:Operand}(ho:o.op=.convert s d x)(nid:Nat){r:LR}
  (h:lop gl ev (cur H) (aR H) nid (cOp P o.op)=some r) (hp:r.pre=true):fH P m w ρ o nid r:=by
 rw[ho]at h
 simp only[cOp]at h
 have hx:=hρ x
 split at h
 ·rename_i hk
  simp only[bW3]at hk
  obtain⟨_,hs⟩:=fC hk.1
  obtain⟨_,hd⟩:=fC hk.2
  split at h
  ·rename_i k' k e1 e2
   rw[e1]at hs
   rw[e2]at hd
   simp only[lop]at h
   cases he:ev (cO x)<;>simp only[he]at h hx<;>try cases h
   rename_i k2 n
   simp only[VR]at hx
   refine .inl ⟨rfl,.int k (k.wrap n), ?_,by simp only[VR]⟩
   simp only[execOp,ho]
   exact dL (by simp[convert,bXj hs,bXj hd,hx,Conv.intToInt])
  ·rename_i e e1 e2
   rw[e1]at hs
   rw[e2]at hd
   split at h
   ·rename_i e3
    have he3:=cZ e3 (by simp)
    simp only[lop]at h
    cases he:ev (cO x)<;>simp only[he]at h hx<;>try cases h
    rename_i b
    simp only[VR]at hx
    have hrun:=run_bytes_of_string (P:=P) w s d e ⟨b.toArray⟩ hs hd he3
    have hge:=grownCap_ge w b.length 0 e
    simp only[size_mk]at hrun
    have hsz:(bytesRow ⟨b.toArray⟩ (grownCap w b.length 0 e)).size=grownCap w b.length 0 e:=by
     simp[bytesRow,size_mk];omega
    refine .inr ⟨iJ .grow (ofBytes b),.slice (some ⟨w.heap.size,0,none⟩) b.length (grownCap w b.length 0 e),w.drew.alloc (.cells (bytesRow ⟨b.toArray⟩ (grownCap w b.length 0 e)) e ((bytesRow ⟨b.toArray⟩ (grownCap w b.length 0 e)).size,(bytesRow ⟨b.toArray⟩ (grownCap w b.length 0 e)).size+1)),⟨w.heap.size,0,b.length,grownCap w b.length 0 e⟩,rfl, ?_, ?_,λm' hm' => ?_⟩
    ·simp only[execOp,ho,hx]
     exact dL hrun
    ·refine⟨rfl,rfl,rfl,id,by simp[iJ,ofBytes],rfl,rfl,_,e,_,_,rfl,hge,by rw[hsz];exact bXe _,by simp[iJ],by simp[iJ],.inr ⟨bXe _,by simp[iJ]⟩, ?_⟩
     simp only[iJ,bytesRow,cB8]
     rw[bZd (by simp),bW4 (by simp)]
     simp only[ofBytes,cCq]
     clear hrun hge hsz he hx hp
     induction b with
     | nil=>simp
     | cons c b ih=>simp only[bXu,bH];exact⟨by simp[VR],ih⟩
    ·simp only[VR]
     exact⟨rfl,_,hm',bXe _,λ_=>⟨0,_,rfl,hge,.inl ⟨rfl,by simp⟩,λ_ h=>cCf w b.length 0 e (show _<=maxLen from h)⟩⟩
   ·simp[lop]at h
  ·rename_i e e1 e2
   rw[e1]at hs
   rw[e2]at hd
   split at h
   ·rename_i e3
    have he3:=cZ e3 (by simp)
    simp only[lop]at h
    cases he:ev (cO x)<;>simp only[he]at h hx<;>try cases h
    ·simp only[VR]at hx
     refine .inl ⟨rfl,.string ByteArray.empty, ?_,by simp only[VR];rfl⟩
     simp only[execOp,ho,hx]
     refine dL ?_
     rw[cAl w s d e none 0 0 hs he3 hd]
     simp[Conv.bytesToString]
    ·rename_i id tot off n sz
     simp only[bW3,bX5,bS]at hp
     obtain⟨⟨⟨hc,hle⟩,rfl⟩,hu8⟩:=hp
     obtain⟨I,o2,cap,hI,hIt,hv,hcap,hpos⟩:=hH.sl hx hc
     obtain⟨vs,v1,v2,v3⟩:=hH.cells (n:=n) hc hI hle
     obtain⟨ns,n1,n2⟩:=wT v3 hu8
     refine .inl ⟨rfl,.string ⟨((aR H id off n).map toB).toArray⟩, ?_,by simp only[VR]⟩
     simp only[execOp,ho,hv]
     refine dL ?_
     rw[cAl w s d e _ _ _ hs he3 hd]
     have hload:(loadCells ⟨I.b,o2,none⟩ n).run P w=.ok (ns.map (Value.int .u8)).toArray w:=by
      rcases hpos with ⟨rfl,_⟩ | ⟨rfl,_⟩
      ·rw[←v1,jT vs v2,n1]
      ·have:vs=[]:=bXo v1
       rw[this]at n1
       rw[←n1]
       simp[loadCells,loadCellsFrom]
     rw[run_bytesToString w _ n cap ns hload,aBl,n2]
     have he0:ByteArray.empty.data = #[]:=rfl
     simp[he0]
    ·rename_i t' l n sz
     simp only[bW3,bS]at hp
     obtain⟨⟨rfl,hu8⟩,hln⟩:=hp
     obtain⟨_,a2,cap,hv,hcap,vs,v1,v3,v2⟩:=hH.lst hx
     cases a2 with
     | none=>
      obtain⟨rfl,rfl,h3⟩:n=0∧vs=[]∧(none=none->cap=0):=by
       rcases v2 with ⟨b2,o2,h,_⟩ | h
       ·cases h
       ·exact h
      obtain rfl:=h3 rfl
      obtain rfl:l=[]:=bXo (by simpa using v1.symm)
      refine .inl ⟨rfl,.string ByteArray.empty, ?_,by simp only[VR];rfl⟩
      simp only[execOp,ho,hv]
      refine dL ?_
      rw[cAl w s d e none 0 0 hs he3 hd]
      simp[Conv.bytesToString]
     | some a2=>
     obtain⟨ns,n1,n2⟩:=wT v3 hu8
     refine .inl ⟨rfl,.string ⟨(l.map toB).toArray⟩, ?_,by simp only[VR]⟩
     simp only[execOp,ho,hv]
     refine dL ?_
     rw[cAl w s d e _ _ _ hs he3 hd]
     have hload:(loadCells a2 n).run P w=.ok (ns.map (Value.int .u8)).toArray w:=by
      rcases v2 with ⟨b2,o2,ha2,v2⟩ | ⟨h0,v2,_⟩
      ·cases ha2
       rw[←hln,←v1,jT vs v2,n1]
      ·rw[v2]at n1
       rw[←n1,h0]
       simp[loadCells,loadCellsFrom]
     rw[run_bytesToString w _ n cap ns hload,aBl,n2]
     have he0:ByteArray.empty.data = #[]:=rfl
     simp[he0]
   ·simp[lop]at h
  ·rename_i e1 e2
   rw[e1]at hs
   rw[e2]at hd
   simp only[lop]at h
   cases he:ev (cO x)<;>simp only[he]at h hx<;>try cases h
   rename_i b
   refine .inl ⟨rfl,ρ x, ?_,hx⟩
   simp only[VR]at hx
   simp only[execOp,ho]
   exact dL (by simp[convert,bXj hs,bXj hd,hx])
  ·rename_i e1 e2 _ _
   split at h
   ·split at h<;>simp[lop]at h
   ·simp[lop]at h
  ·simp[lop]at h
 ·simp[lop]at h
end
end Go.Proofs.YtnhechnaemmdiaaGreatDoor

namespace Go.Proofs.YtnhechnaemmdiaaGreatDoor
open Go.RowKit

theorem jG:∀ {a b:LA},eqB a b=(a==b)
 | [],[]=>rfl
 | [],_::_=>rfl
 | _::_,[]=>rfl
 | x::a,y::b=>by
  simp only[eqB,jG (a:=a) (b:=b),List.cons_beq_cons]
  congr 1
  rw[bZ7,bS,bYr]
  exact⟨λh=>cB9.1 h,λh=>by rw[h]⟩

theorem bCr:∀ {a b:LA},ltB a b=Op.bytesLess a b
 | _,[]=>by simp[ltB,Op.bytesLess]
 | [],_::_=>rfl
 | x::a,y::b=>by
  simp only[ltB,Op.bytesLess,bCr (a:=a) (b:=b)]
  congr 1
  congr 1
  rw[bZ7,bYr,bYr]
  exact⟨λh=>cB9.1 h,λh=>by rw[h]⟩

section
variable {P:Program} {gl:Nat->Option HB} {m:M} {H:HV} {w:World} {ρ:Operand->Value} {ev:AO->AV}

theorem yC(op:BinOp)(k:IntKind)(a b:Int)(v:AV)(h:intBits op k a b=some v)(w:World):∃v',(Op.intBits op k a b).run P w=.ok v' w∧VR m v v':=by
 have e:∀x:Int,(BitVec.ofInt k.bits x).toNat=(x%(2^k.bits:Int)).toNat:=by
  intro x
  rw[BitVec.toNat_ofInt]
  cases k<;>rfl
 cases op<;>simp only[intBits]at h<;>try cases h
 ·exact⟨.int k (k.wrap ((((a%(2^k.bits:Int)).toNat &&& (b%(2^k.bits:Int)).toNat:Nat)):Int)),by simp[Op.intBits,e],by simp[VR]⟩
 ·exact⟨.int k (k.wrap ((((a%(2^k.bits:Int)).toNat ||| (b%(2^k.bits:Int)).toNat:Nat)):Int)),by simp[Op.intBits,e],by simp[VR]⟩
 ·exact⟨.int k (k.wrap ((((a%(2^k.bits:Int)).toNat ^^^ (b%(2^k.bits:Int)).toNat:Nat)):Int)),by simp[Op.intBits,e],by simp[VR]⟩
 ·exact⟨.int k (k.wrap ((((a%(2^k.bits:Int)).toNat &&& (2^k.bits-1-(b%(2^k.bits:Int)).toNat):Nat)):Int)),by simp[Op.intBits,e,BitVec.toNat_not],by simp[VR]⟩

theorem zT{cu:Nat->Nat->Bool}:∀ {l:List (Nat×Nat)},fB cu l=true->∀p∈l,cu p.1 p.2=true
 | [],_,p,hp=>by simp at hp
 | (a,b)::l,h,p,hp=>by
  simp only[fB,bW3]at h
  rcases bXd.1 hp with rfl | hp
  ·exact h.1
  ·exact zT h.2 p hp

theorem kX{cu:Nat->Nat->Bool}{a b:Nat}(h:fB cu [(a,b)]=true):cu a b=true:=by
 simp only[fB,bW3]at h
 exact h.1

def aK1(P:Program)(t:TypeId):Sh->Prop
 | .bl=>P.underlying t=some .bool
 | .it=>∃k,P.underlying t=some (.int k)
 | .st=>P.underlying t=some .string
 | .ptr=>∃e,P.underlying t=some (.pointer e)
 | .slc=>∃e,P.underlying t=some (.slice e)
 | .fnc=>∃a b c,P.underlying t=some (.func a b c)
 | .ifc=>∃ms,P.underlying t=some (.interface ms)
 | _=>True

theorem aRh(P:Program)(d:Nat)(t:TypeId):aK1 P t (shT P d t):=by
 cases d with
 | zero=>simp[shT,aK1]
 | succ d=>
  simp only[shT]
  split<;>rename_i h<;>try(have h':=cZ h (by simp))
  all_goals try(simp only[aK1];first | exact h' | exact⟨_,h'⟩ | exact⟨_,_,_,h'⟩)
  ·split<;>simp[aK1]
  ·split<;>simp[aK1]
  ·simp[aK1]

theorem bDc(hH:HR gl m H w){sh:Sh}{t:TypeId}(hs:aK1 P t sh)(hna:∀fs,sh≠.agg fs){x y:AV}{x' y':Value}(hx:VR m x x')(hy:VR m y y'){c:List (Nat×Nat)}{r:Bool}(h:eqV sh x y=some (c,r))
  (hc:fB (cur H) c=true) (d:Nat):(Op.equalIn (d+1) t x' y').run P w=.ok r w:=by
 unfold eqV at h
 split at h
 ·simp only[aK1]at hs
  simp only[VR]at hx hy
  simp only[bW5,bX1]at h
  obtain⟨_,rfl⟩:=h
  subst hx;subst hy
  simp[Op.equalIn,bXj hs]
 ·simp only[aK1]at hs
  obtain⟨k,hs⟩:=hs
  simp only[VR]at hx hy
  split at h
  ·rename_i hk
   simp only[bW5,bX1]at h
   obtain⟨_,rfl⟩:=h
   subst hk;subst hx;subst hy
   simp[Op.equalIn,bXj hs]
  ·cases h
 ·simp only[aK1]at hs
  simp only[VR]at hx hy
  simp only[bW5,bX1]at h
  obtain⟨_,rfl⟩:=h
  subst hx;subst hy
  rw[run_equalIn_string w d t _ _ hs,jG]
  simp
 ·obtain⟨e,hs⟩:=hs
  simp only[VR]at hx hy
  simp only[bW5,bX1]at h
  obtain⟨_,rfl⟩:=h
  subst hx;subst hy
  simp[Op.equalIn,bXj hs]
 ·obtain⟨e,hs⟩:=hs
  simp only[bW5,bX1]at h
  obtain⟨rfl,rfl⟩:=h
  obtain⟨I,hI,_,hv⟩:=hH.ptr hy (kX hc)
  simp only[VR]at hx
  subst hx;subst hv
  simp[Op.equalIn,bXj hs]
 ·obtain⟨e,hs⟩:=hs
  simp only[bW5,bX1]at h
  obtain⟨rfl,rfl⟩:=h
  obtain⟨I,hI,_,hv⟩:=hH.ptr hx (kX hc)
  simp only[VR]at hy
  subst hy;subst hv
  simp[Op.equalIn,bXj hs]
 ·obtain⟨e,hs⟩:=hs
  simp only[VR]at hx hy
  simp only[bW5,bX1]at h
  obtain⟨_,rfl⟩:=h
  subst hx;subst hy
  simp[Op.equalIn,bXj hs]
 ·obtain⟨e,hs⟩:=hs
  simp only[bW5,bX1]at h
  obtain⟨rfl,rfl⟩:=h
  obtain⟨I,o,cap,hI,_,hv,_⟩:=hH.sl hy (kX hc)
  simp only[VR]at hx
  subst hx;subst hv
  simp[Op.equalIn,bXj hs]
 ·obtain⟨e,hs⟩:=hs
  simp only[bW5,bX1]at h
  obtain⟨rfl,rfl⟩:=h
  obtain⟨I,o,cap,hI,_,hv,_⟩:=hH.sl hx (kX hc)
  simp only[VR]at hy
  subst hy;subst hv
  simp[Op.equalIn,bXj hs]
 all_goals try(
  first
   | obtain⟨_,_,_,hs⟩:=hs
   | obtain⟨_,hs⟩:=hs
  simp only[VR]at hx hy
  simp only[bW5,bX1]at h
  obtain⟨_,rfl⟩:=h
  first
   | (subst hx;subst hy;simp[Op.equalIn,bXj hs];done)
   | (subst hx;obtain⟨_,_,rfl,_⟩:=hy;simp[Op.equalIn,bXj hs];done)
   | (subst hy;obtain⟨_,_,rfl,_⟩:=hx;simp[Op.equalIn,bXj hs];done)
   | (subst hx;obtain⟨_,rfl,_⟩:=hy;simp[Op.equalIn,bXj hs];done)
   | (subst hy;obtain⟨_,rfl,_⟩:=hx;simp[Op.equalIn,bXj hs];done))
 ·exact absurd rfl (hna _)
 cases h

theorem qM{cu:Nat->Nat->Bool}:∀ {a b:List (Nat×Nat)},fB cu (a++b)=true->fB cu a=true∧fB cu b=true
 | [],b,h=>⟨rfl,h⟩
 | (p1,p2)::a,b,h=>by
  simp only[bX0,fB,bW3]at h ⊢
  have:=qM h.2
  exact⟨⟨h.1,this.1⟩,this.2⟩

def bR6(P:Program)(m:M)(H:HV)(w:World)(d:Nat)(t:TypeId):Prop:=
 ∀ (x y:AV) (x' y':Value) (c:List (Nat×Nat)) (r:Bool) (D:Nat),d<=D->VR m x x'->VR m y y'->eqV (shT P d t) x y=some (c,r)->fB (cur H) c=true->(Op.equalIn (D+1) t x' y').run P w=.ok r w

theorem aTk{d D:Nat}(hD:d<=D){xs ys:Array Value}{x y:HB}(hx:VRL m x xs.toList)(hy:VRL m y ys.toList):∀ (fs:List Field) (_:∀f∈fs,bR6 P m H w d f.type) (b:Bool) (c:List (Nat×Nat)) (r:Bool),
  (∀ f ∈ fs, bV P f.type = true) → eqF (Fs.of ((fs.filter fun f => f.name != "_").map fun f => (ptT P f.type f.offset, shT P d f.type))) x y = some (b, c, r) → b = true → fB (cur H) c = true →
  (Op.eqFields (D+1) xs ys fs).run P w=.ok r w
 | [],_,b,c,r,_,h,_,_=>by
  simp only[List.filter_nil,cBt,Fs.of,eqF,bW5,bX1]at h
  obtain⟨_,_,rfl⟩:=h
  simp[Op.eqFields]
 | f::fs,he,b,c,r,hk,h,hb,hc=>by
  by_cases hn : f.name = "_"
  ·have e : (List.filter (fun f : Field => f.name != "_") (f :: fs)) = List.filter (fun f : Field => f.name != "_") fs := by simp [hn]
   rw[e]at h
   have:=aTk hD hx hy fs (λg hg=>he g (by simp[hg])) b c r (λg hg=>hk g (by simp[hg])) h hb hc
   simp only[Op.eqFields,hn,ne_eq,not_true_eq_false,cBj]
   exact this
  ·have e : (List.filter (fun f : Field => f.name != "_") (f :: fs)) = f :: List.filter (fun f : Field => f.name != "_") fs := by simp [hn]
   rw[e]at h
   simp only[bXu,Fs.of,eqF]at h
   split at h
   ·rename_i c1 r1 b2 c2 r2 h1 h2
    simp only[bW5,bX1]at h
    obtain⟨rfl,rfl,rfl⟩:=h
    simp only[bW3,bXh,aD]at hb
    obtain⟨hb1,hb2⟩:=hb
    obtain⟨hc1,hc2⟩:=qM hc
    obtain⟨vx,q1,q2⟩:=qA (P:=P) (w:=w) (off:=f.offset) (hk f (by simp)) hx (hb2.imp id (λh=>h.1))
    obtain⟨vy,q3,q4⟩:=qA (P:=P) (w:=w) (off:=f.offset) (hk f (by simp)) hy (hb2.imp id (λh=>h.2))
    have q5:=he f (by simp) _ _ _ _ _ _ D hD q2 q4 h1 hc1
    have ih:=aTk hD hx hy fs (λg hg=>he g (by simp[hg])) b2 c2 r2 (λg hg=>hk g (by simp[hg])) h2 hb1 hc2
    simp only[Op.eqFields,ne_eq,hn,not_false_eq_true,cBu,bY1,q1,bYl,q3,q5]
    cases r1
    ·simp
    ·simpa using ih
   ·cases h

theorem bC1{d D:Nat}(hD:d<=D){e:TypeId}(hk:bV P e=true)(he:bR6 P m H w d e){xs ys:Array Value}{x y:HB}(hx:VRL m x xs.toList)(hy:VRL m y ys.toList):∀ (is:List Nat) (b:Bool) (c:List (Nat×Nat)) (r:Bool),
  eqF (Fs.of (is.map λi=>(ptT P e (i*szT P e),shT P d e))) x y=some (b,c,r)->b=true->fB (cur H) c=true →
  (Op.eqItems (D+1) e (P.cellsOf e) xs ys is).run P w=.ok r w
 | [],b,c,r,h,_,_=>by
  simp only[cBt,Fs.of,eqF,bW5,bX1]at h
  obtain⟨_,_,rfl⟩:=h
  simp[Op.eqItems]
 | i::is,b,c,r,h,hb,hc=>by
  simp only[bXu,Fs.of,eqF]at h
  split at h
  ·rename_i c1 r1 b2 c2 r2 h1 h2
   simp only[bW5,bX1]at h
   obtain⟨rfl,rfl,rfl⟩:=h
   simp only[bW3,bXh,aD]at hb
   obtain⟨hb1,hb2⟩:=hb
   obtain⟨hc1,hc2⟩:=qM hc
   obtain⟨vx,q1,q2⟩:=qA (P:=P) (w:=w) (off:=i*szT P e) hk hx (hb2.imp id (λh=>h.1))
   obtain⟨vy,q3,q4⟩:=qA (P:=P) (w:=w) (off:=i*szT P e) hk hy (hb2.imp id (λh=>h.2))
   have q5:=he _ _ _ _ _ _ D hD q2 q4 h1 hc1
   have ih:=bC1 hD hk he hx hy is b2 c2 r2 h2 hb1 hc2
   have e1:P.cellsOf e=szT P e:=rfl
   rw[e1]at ih ⊢
   simp only[Op.eqItems,bY1,q1,bYl,q3,q5]
   cases r1
   ·simp
   ·simpa using ih
  ·cases h

theorem aC0{d:Nat}(ih:∀t,bR6 P m H w d t){t:TypeId}{fs:Fs}(h:shT P (d+1) t=.agg fs){xs ys:Array Value}{x y:HB}(hx:VRL m x xs.toList)(hy:VRL m y ys.toList){c:List (Nat×Nat)}{r:Bool}
  (he:eqF fs x y=some (true,c,r)) (hc:fB (cur H) c=true):P.eqGuardType P.depth t=false∧∀D,d<=D->(Op.equalIn (D+2) t (.agg xs) (.agg ys)).run P w=.ok r w:=by
 simp only[shT]at h
 split at h<;>try cases h
 ·rename_i fl hu
  have hu':=cZ hu (by simp)
  split at h
  ·cases h
  ·rename_i hn
   cases h
   simp only[bXh,bYc,not_or,cCs,Bool.not_eq_false]at hn
   have h4:=hn.2
   rw[bYy]at h4
   have h2:P.fieldsOf t=fl:=by simp[Program.fieldsOf,hu']
   refine⟨hn.1.2,λD hD => ?_⟩
   have hrun:=aTk (P:=P) hD hx hy fl.toList (λf _=>ih f.type) true c r h4 he rfl hc
   have heq:=run_equalIn_struct (P:=P) w (D+1) t xs ys (by rw[h2];exact hu') hn.1.1
   rw[h2]at heq
   rw[heq,hrun]
 ·rename_i n e hu
  have hu':=cZ hu (by simp)
  split at h
  ·cases h
  ·rename_i hn
   cases h
   simp only[bXh,bYc,not_or,cCs,Bool.not_eq_false]at hn
   refine⟨hn.1,λD hD => ?_⟩
   have hrun:=bC1 (P:=P) hD hn.2 (ih e) hx hy (List.range n) true c r he rfl hc
   obtain⟨i,hi⟩:∃i,P.info? e=some i:=by
    have:=hn.2
    unfold bV at this
    simp only[bW3,cAk]at this
    exact this.1
   rw[run_equalIn_array (P:=P) w (D+1) xs ys hu' hi,hrun]

theorem bUb(hH:HR gl m H w):∀ (d:Nat) (t:TypeId),bR6 P m H w d t
 | 0,t=>by
  intro x y x' y' c r D _ _ _ h _
  simp[shT,eqV]at h
 | d+1,t=>by
  intro x y x' y' c r D hD hx hy h hc
  cases hsh:shT P (d+1) t with
  | agg fs=>
   rw[hsh]at h
   unfold eqV at h
   split at h<;>try cases h
   all_goals try(rename_i he;cases he;done)
   rename_i fs' a b he
   cases he
   split at h<;>try cases h
   rename_i c' r' hq
   simp only[VR]at hx hy
   obtain⟨xs,rfl,hxs⟩:=hx
   obtain⟨ys,rfl,hys⟩:=hy
   obtain⟨D',rfl⟩:∃D',D=D'+1:=⟨D-1,by omega⟩
   exact(aC0 (bUb hH d) hsh hxs hys hq hc).2 D' (by omega)
  | _=>exact bDc hH (by have:=aRh P (d+1) t;exact this) (by rw[hsh];intro fs;simp) hx hy h hc D

theorem pI{op:BinOp}{t:TypeId}{x y:Operand}{a b:Value}(hn:¬ (a=.nilIface∧b=.nilIface))(hag:∀c e,a=.agg c->b=.agg e->P.eqGuardType P.depth t=false∨(op≠.eql∧op≠.neq)) :
  (eqGuard op t x y a b).run P w=.ok () w:=by
 by_cases hop:op=.eql∨op=.neq
 ·have hm:(match op with | .eql=>true | .neq=>true | _=>false)=true:=by rcases hop with rfl | rfl<;>rfl
  rcases hop with rfl | rfl
  all_goals
   cases a<;>cases b<;>first
    | (exfalso;exact hn ⟨rfl,rfl⟩)
    | (have:=(hag _ _ rfl rfl).resolve_right (by simp);simp[eqGuard,this];done)
    | (simp[eqGuard];done)
 ·cases op<;>simp[eqGuard]<;>simp at hop

theorem aPg(hH:HR gl m H w){sh:Sh}{t:TypeId}(hs:aK1 P t sh)(hna:∀fs,sh≠.agg fs){x y:AV}{x' y':Value}(hx:VR m x x')(hy:VR m y y'){c:List (Nat×Nat)}{r:Bool}(h:eqV sh x y=some (c,r))
  (hc:fB (cur H) c=true):(binOp .eql t x' y').run P w=.ok (.bool r) w∧(binOp .neq t x' y').run P w=.ok (.bool !r) w∧(∀c e,x'=.agg c->y'=.agg e->False)∧(x'=.nilIface∧y'=.nilIface->sh=.ifc):=by
 have he:=bDc (P:=P) hH hs hna hx hy h hc 9999
 unfold eqV at h
 split at h
 ·simp only[VR]at hx hy
  subst hx;subst hy
  exact⟨by simp[binOp,Op.equal,Op.maxDepth,he],by simp[binOp,Op.equal,Op.maxDepth,he],by simp,by simp⟩
 ·simp only[VR]at hx hy
  split at h
  ·rename_i hk
   simp only[bW5,bX1]at h
   obtain⟨_,rfl⟩:=h
   subst hk;subst hx;subst hy
   exact⟨by simp[binOp,Op.intCmp],by simp[binOp,Op.intCmp,bne],by simp,by simp⟩
  ·cases h
 ·simp only[VR]at hx hy
  simp only[bW5,bX1]at h
  obtain⟨_,rfl⟩:=h
  subst hx;subst hy
  exact⟨by simp[binOp,Op.stringOp,jG],by simp[binOp,Op.stringOp,jG],by simp,by simp⟩
 ·simp only[VR]at hx hy
  subst hx;subst hy
  exact⟨by simp[binOp,Op.equal,Op.maxDepth,he],by simp[binOp,Op.equal,Op.maxDepth,he],by simp,by simp⟩
 ·simp only[bW5,bX1]at h
  obtain⟨rfl,_⟩:=h
  obtain⟨I,hI,_,hv⟩:=hH.ptr hy (kX hc)
  simp only[VR]at hx
  subst hx;subst hv
  exact⟨by simp[binOp,Op.equal,Op.maxDepth,he],by simp[binOp,Op.equal,Op.maxDepth,he],by simp,by simp⟩
 ·simp only[bW5,bX1]at h
  obtain⟨rfl,_⟩:=h
  obtain⟨I,hI,_,hv⟩:=hH.ptr hx (kX hc)
  simp only[VR]at hy
  subst hy;subst hv
  exact⟨by simp[binOp,Op.equal,Op.maxDepth,he],by simp[binOp,Op.equal,Op.maxDepth,he],by simp,by simp⟩
 ·simp only[VR]at hx hy
  subst hx;subst hy
  exact⟨by simp[binOp,Op.equal,Op.maxDepth,he],by simp[binOp,Op.equal,Op.maxDepth,he],by simp,by simp⟩
 ·simp only[bW5,bX1]at h
  obtain⟨rfl,_⟩:=h
  obtain⟨I,o,cap,hI,_,hv,_⟩:=hH.sl hy (kX hc)
  simp only[VR]at hx
  subst hx;subst hv
  exact⟨by simp[binOp,Op.equal,Op.maxDepth,he],by simp[binOp,Op.equal,Op.maxDepth,he],by simp,by simp⟩
 ·simp only[bW5,bX1]at h
  obtain⟨rfl,_⟩:=h
  obtain⟨I,o,cap,hI,_,hv,_⟩:=hH.sl hx (kX hc)
  simp only[VR]at hy
  subst hy;subst hv
  exact⟨by simp[binOp,Op.equal,Op.maxDepth,he],by simp[binOp,Op.equal,Op.maxDepth,he],by simp,by simp⟩
 all_goals try(
  simp only[VR]at hx hy
  first
   | (subst hx;subst hy;exact⟨by simp[binOp,Op.equal,Op.maxDepth,he],by simp[binOp,Op.equal,Op.maxDepth,he],by simp,by simp⟩)
   | (subst hx;obtain⟨_,_,rfl,_⟩:=hy;exact⟨by simp[binOp,Op.equal,Op.maxDepth,he],by simp[binOp,Op.equal,Op.maxDepth,he],by simp,by simp⟩)
   | (subst hy;obtain⟨_,_,rfl,_⟩:=hx;exact⟨by simp[binOp,Op.equal,Op.maxDepth,he],by simp[binOp,Op.equal,Op.maxDepth,he],by simp,by simp⟩)
   | (subst hx;obtain⟨_,rfl,_⟩:=hy;exact⟨by simp[binOp,Op.equal,Op.maxDepth,he],by simp[binOp,Op.equal,Op.maxDepth,he],by simp,by simp⟩)
   | (subst hy;obtain⟨_,rfl,_⟩:=hx;exact⟨by simp[binOp,Op.equal,Op.maxDepth,he],by simp[binOp,Op.equal,Op.maxDepth,he],by simp,by simp⟩))
 ·exact absurd rfl (hna _)
 cases h

theorem aKb{sh:Sh}{x y:AV}{q:List (Nat×Nat)×Bool}(h:eqV sh x y=some q)(hn:∀a b,x=.agg a->y=.agg b->False):∀fs,sh≠.agg fs:=by
 rintro fs rfl
 unfold eqV at h
 split at h<;>try cases h
 all_goals first
  | (rename_i he;cases he;done)
  | exact hn _ _ rfl rfl

theorem aWg(hH:HR gl m H w){op:BinOp}{sh:Sh}{t:TypeId}(hsh:aK1 P t sh)(hagg:∀fs,sh=.agg fs->shT P 8 t=.agg fs){x y:Operand}(hifc:sh=.ifc->gB x=true∨gB y=true)
  {X Y:AV} {x' y':Value} (hx:VR m X x') (hy:VR m Y y') {b:Bool} {c:List (Nat×Nat)} {v:AV} (h:binop op sh X Y=some (b,c,v)) (hb:b=true) (hc:fB (cur H) c=true) :
  ∃v',(eqGuard op t x y x' y').run P w=.ok () w∧(binOp op t x' y').run P w=.ok v' w∧VR m v v':=by
 unfold binop at h
 split at h
 ·simp only[bW5,bX1]at h
  obtain⟨rfl,_,rfl⟩:=h
  simp only[VR]at hx hy
  subst hx;subst hy
  have:¬ (_:Int)<0:=Int.not_lt.2 (bY8 hb)
  exact⟨_,by simp[eqGuard],by simp[binOp,Op.shift,this];rfl,by simp[VR]⟩
 ·simp only[bW5,bX1]at h
  obtain⟨rfl,_,rfl⟩:=h
  simp only[VR]at hx hy
  subst hx;subst hy
  have:¬ (_:Int)<0:=Int.not_lt.2 (bY8 hb)
  exact⟨_,by simp[eqGuard],by simp[binOp,Op.shift,this];rfl,by simp[VR]⟩
 ·rename_i k a k' b2 n1 n2
  simp only[VR]at hx hy
  subst hx;subst hy
  split at h
  ·rename_i hk
   subst hk
   have hg:(eqGuard op t x y (.int k a) (.int k b2)).run P w=.ok () w:=by cases op<;>simp[eqGuard]
   cases op<;>simp only at h<;>try cases h
   all_goals first
    | exact⟨_,hg,by simp[binOp,Op.intArith];rfl,by simp[VR]⟩
    | exact⟨_,hg,by simp[binOp,Op.intCmp];rfl,by simp[VR]⟩
    | (refine⟨_,hg,by simp[binOp,Op.intCmp];rfl, ?_⟩;simp[VR,bne];done)
    | (have hb':b2≠0:=by simpa using hb
       exact⟨_,hg,by simp[binOp,Op.intDiv,hb'];rfl,by simp[VR]⟩)
    | (obtain⟨v',h2,h3⟩:=yC (P:=P) (m:=m) .and k a b2 _ rfl w;exact⟨v',hg,by simpa[binOp]using h2,h3⟩)
    | (obtain⟨v',h2,h3⟩:=yC (P:=P) (m:=m) .or k a b2 _ rfl w;exact⟨v',hg,by simpa[binOp]using h2,h3⟩)
    | (obtain⟨v',h2,h3⟩:=yC (P:=P) (m:=m) .xor k a b2 _ rfl w;exact⟨v',hg,by simpa[binOp]using h2,h3⟩)
    | (obtain⟨v',h2,h3⟩:=yC (P:=P) (m:=m) .andNot k a b2 _ rfl w;exact⟨v',hg,by simpa[binOp]using h2,h3⟩)
  ·cases h
 ·rename_i a b2
  simp only[VR]at hx hy
  subst hx;subst hy
  have hg:(eqGuard op t x y (.string ⟨a.toArray⟩) (.string ⟨b2.toArray⟩)).run P w=.ok () w:=by cases op<;>simp[eqGuard]
  cases op<;>simp only at h<;>try cases h
  case' h_4.add.refl=>
   have hle:=bY8 hb
   refine⟨.string ⟨(a++b2).toArray⟩,hg, ?_,by simp[VR]⟩
   have:=run_string_add_sum (P:=P) w ⟨a.toArray⟩ ⟨b2.toArray⟩ (by rw[size_mk,size_mk];exact hle)
   simp only[binOp]
   rw[this]
   congr 2
  all_goals exact⟨_,hg,by simp[binOp,Op.stringOp];rfl,by simp[VR,jG,bCr]⟩
 ·rename_i a b2
  split at h
  ·rename_i fs
   simp only[VR]at hx hy
   obtain⟨xs,rfl,hxs⟩:=hx
   obtain⟨ys,rfl,hys⟩:=hy
   split at h
   ·rename_i p c' r hq
    simp only[bW5,bX1]at h
    obtain⟨rfl,rfl,rfl⟩:=h
    subst hb
    obtain⟨h4,heq⟩:=aC0 (P:=P) (d:=7) (λt=>bUb hH 7 t) (hagg _ rfl) hxs hys hq hc
    exact⟨_,pI (by simp) (λ_ _ _ _=>.inl h4),by rw[run_eql_struct];rw[heq 9998 (by omega)];rfl,by simp[VR]⟩
   ·cases h
  ·cases h
 ·rename_i a b2
  split at h
  ·rename_i fs
   simp only[VR]at hx hy
   obtain⟨xs,rfl,hxs⟩:=hx
   obtain⟨ys,rfl,hys⟩:=hy
   split at h
   ·rename_i p c' r hq
    simp only[bW5,bX1]at h
    obtain⟨rfl,rfl,rfl⟩:=h
    subst hb
    obtain⟨h4,heq⟩:=aC0 (P:=P) (d:=7) (λt=>bUb hH 7 t) (hagg _ rfl) hxs hys hq hc
    exact⟨_,pI (by simp) (λ_ _ _ _=>.inl h4),by rw[run_neq_struct];rw[heq 9998 (by omega)];rfl,by simp[VR]⟩
   ·cases h
  ·cases h
 ·split at h
  ·rename_i c' r hq
   simp only[bW5,bX1]at h
   obtain⟨_,rfl,rfl⟩:=h
   obtain⟨q1,q2,q3,q4⟩:=aPg (P:=P) hH hsh (aKb hq (by assumption)) hx hy hq hc
   refine⟨.bool r, ?_,q1,by simp[VR]⟩
   by_cases hn:x'=.nilIface∧y'=.nilIface
   ·obtain⟨rfl,rfl⟩:=hn
    rcases hifc (q4 ⟨rfl,rfl⟩)with h | h
    ·cases x<;>simp[gB]at h;simp[eqGuard]
    ·cases y<;>simp[gB]at h;simp[eqGuard]
   ·exact pI hn λ_ _ e1 e2=>(q3 _ _ e1 e2).elim
  ·cases h
 ·split at h
  ·rename_i c' r hq
   simp only[bW5,bX1]at h
   obtain⟨_,rfl,rfl⟩:=h
   obtain⟨q1,q2,q3,q4⟩:=aPg (P:=P) hH hsh (aKb hq (by assumption)) hx hy hq hc
   refine⟨.bool !r, ?_,q2,by simp[VR]⟩
   by_cases hn:x'=.nilIface∧y'=.nilIface
   ·obtain⟨rfl,rfl⟩:=hn
    rcases hifc (q4 ⟨rfl,rfl⟩)with h | h
    ·cases x<;>simp[gB]at h;simp[eqGuard]
    ·cases y<;>simp[gB]at h;simp[eqGuard]
   ·exact pI hn λ_ _ e1 e2=>(q3 _ _ e1 e2).elim
  ·cases h
 ·cases h

theorem bJi(hH:HR gl m H w)(hρ:∀x,VR m (ev (cO x)) (ρ x)){o:Oper}{op:BinOp}{t ty:TypeId}{x y:Operand}(ho:o.op=.binOp op t x y ty)(nid:Nat){r:LR}
  (h:lop gl ev (cur H) (aR H) nid (cOp P o.op)=some r) (hp:r.pre=true):fH P m w ρ o nid r:=by
 have key:∀sh,aK1 P t sh->(∀fs,sh=.agg fs->shT P 8 t=.agg fs)->(sh=.ifc->gB x=true∨gB y=true)->lop gl ev (cur H) (aR H) nid (.bin op sh (cO x) (cO y))=some r->fH P m w ρ o nid r:=by
  intro sh hsh hagg hifc h
  simp only[lop]at h
  split at h
  ·rename_i b c v hb
   cases h
   simp only[bW3]at hp
   obtain⟨v',h1,h2,h3⟩:=aWg (P:=P) hH hsh hagg hifc (hρ x) (hρ y) hb hp.1 hp.2
   refine .inl ⟨rfl,v', ?_,h3⟩
   simp only[execOp,ho]
   exact dL (by simp[h1,h2])
  ·cases h
 rw[ho]at h
 simp only[cOp]at h
 have hok:=aRh P 8 t
 split at h
 ·rename_i hs
  split at h
  ·rename_i hcst
   rw[hs]at hok
   exact key .ifc hok (by simp) (λ_=>by simpa using hcst) h
  ·simp[lop]at h
 ·rename_i sh hs
  exact key _ hok (λfs hfs=>hfs) (λhi=>absurd hi hs) h
theorem bCc{α:Type}{a:Array α}{x:α}(h:a.toList=[x]):a = #[x]:=by
 apply cA5
 simpa using h

theorem aSl(a b:LA):((⟨a.toArray⟩:ByteArray)==⟨b.toArray⟩)=eqB a b:=by
 rw[jG,bZ7]
 show((⟨a.toArray⟩:ByteArray).data==(⟨b.toArray⟩:ByteArray).data)=true↔_
 simp

theorem jZ{m:M}{d:TypeDesc}{st:Option IntKind}(hd:(∃q,st=some q∧d=.int q)∨(st=none∧d=.string)){q k:AV}{x y:Value}(hq:VR m q x)(hk:VR m k y){b:Bool}(h:aPd st q k=some b):Instr.sameNow d x y=some b:=by
 rcases hd with ⟨q',rfl,rfl⟩ | ⟨rfl,rfl⟩
 ·cases q<;>cases k<;>simp[aPd]at h
  simp only[VR]at hq hk
  subst hq hk
  obtain⟨rfl,rfl⟩:=h
  simp[Instr.sameNow];rfl
 ·cases q<;>cases k<;>simp[aPd]at h
  simp only[VR]at hq hk
  subst hq hk h
  simp only[Instr.sameNow,aSl]

theorem aCd{m:M}{d:TypeDesc}{st:Option IntKind}(hd:(∃q,st=some q∧d=.int q)∨(st=none∧d=.string)){q:AV}{x:Value}(hq:VR m q x)(h:isK st q=true):MapKept.IsKey d x:=by
 rcases hd with ⟨q',rfl,rfl⟩ | ⟨rfl,rfl⟩
 ·cases q<;>simp[isK]at h
  simp only[VR]at hq
  subst hq h
  simp[MapKept.IsKey]
 ·cases q<;>simp[isK]at h
  simp only[VR]at hq
  subst hq
  simp[MapKept.IsKey]

theorem aEa{m:M}{d:TypeDesc}{st:Option IntKind}(hd:(∃q,st=some q∧d=.int q)∨(st=none∧d=.string)){q z:AV}{key:Value}(hq:VR m q key) :
  ∀ {c:HB} {es:List MapEntry} (_:MpR m c es) (i:Nat) {r:AV} (_:rV st q z c=some r),
   (Instr.findNow d key es i=some none∧r=z)∨∃j x,Instr.findNow d key es i=some (some (i+j,x.val))∧es[j]? = some x∧VR m r x.val
 | [],es,h,i,r,hf=>by
  simp only[MpR]at h
  subst h
  simp only[rV,bW5]at hf
  exact .inl ⟨rfl,hf.symm⟩
 | [_],_,h,_,_,_=>by simp only[MpR]at h
 | k::v::l,es,h,i,r,hf=>by
  simp only[MpR]at h
  obtain⟨x,es',rfl,h1,h2,h3⟩:=h
  simp only[rV]at hf
  split at hf
  ·rename_i hs
   cases hf
   exact .inr ⟨0,x,by simp[Instr.findNow,jZ hd hq h1 hs],rfl,h2⟩
  ·rename_i hs
   rcases aEa hd hq h3 (i+1) hf with ⟨e1,e2⟩ | ⟨j,y,e1,e2,e3⟩
   ·exact .inl ⟨by simp[Instr.findNow,jZ hd hq h1 hs,e1],e2⟩
   ·exact .inr ⟨j+1,y,by simp[Instr.findNow,jZ hd hq h1 hs,e1];omega,by simpa using e2,e3⟩
  ·cases hf

theorem aQu(hH:HR gl m H w)(hρ:∀x,VR m (ev (cO x)) (ρ x)){o:Oper}{t:TypeId}{x i:Operand}(ho:o.op=.lookup t x i false)(nid:Nat){r:LR}
  (h:lop gl ev (cur H) (aR H) nid (cOp P o.op)=some r) (hp:r.pre=true):fH P m w ρ o nid r:=by
 rw[ho]at h
 simp only[cOp]at h
 split at h
 ·rename_i k e hu
  split at h
  ·rename_i hz0
   have ht:=cZ hu (by simp)
   obtain⟨_,z,_,_,hz,hzr⟩:=yJ (P:=P) (m:=m) (w:=w) (t:=e) (by intro h0;rw[h0]at hz0;cases hz0)
   have key:∀st d,und P k=d->((∃q,st=some q∧d=.int q)∨(st=none∧d=.string))->lop gl ev (cur H) (aR H) nid (.mpget st (cO x) (cO i) (lJ P e))=some r->fH P m w ρ o nid r:=by
    intro st d hkd hd h
    have hkt:P.underlying k=some d:=cZ hkd (by rcases hd with ⟨q,_,rfl⟩ | ⟨_,rfl⟩<;>simp)
    have hx:=hρ x
    have hi:=hρ i
    simp only[lop]at h
    split at h
    ·rename_i id he
     rw[he]at hx
     split at h
     ·rename_i c hc
      cases h
      simp only[bW3,bYc]at hp
      obtain⟨hp1,hp2,hp3⟩:=hp
      obtain⟨r,hr⟩:=cAk.1 hp3
      simp only[VR]at hx
      obtain⟨_,I,hI,h1,h2⟩:=hx
      have hid:=hH.dom id I hI
      obtain⟨b,hb⟩:∃b,H[id]? = some b:=⟨H[id],bW8 hid⟩
      have hB:=hH.blk id I b hI hb
      have hcs:b.cs.take 2=[.tup c]:=by simpa[aR,hb]using hc
      have hcs1:b.cs=[.tup c]:=by
       cases hcs0:b.cs with
       | nil=>rw[hcs0]at hcs;simp at hcs
       | cons a l=>cases l with
        | nil=>rw[hcs0]at hcs;simpa using hcs
        | cons a' l'=>rw[hcs0]at hcs;simp at hcs
      have hm:isMap b=true:=by
       simp only[cur,hb,hcs1,bZa,cCd,bX4,Bool.not_eq_false']at hp1
       exact hp1
      obtain⟨c',hc'⟩:=lZ hm
      obtain rfl:c'=c:=by
       have:=(jP hc').2
       rw[hcs1]at this
       simpa using this.symm
      obtain⟨es,cl,hrow,hM⟩:=hB.mrow c' hc'
      have hv:=h2 (by rw[hB.tot,hcs1];rfl)
      rw[hr,cBd]
      have hik:=aCd hd hi hp2
      rcases aEa hd hi hM 0 hr with ⟨e1,e2⟩ | ⟨j,y,e1,e2,e3⟩
      ·refine .inl ⟨rfl,z, ?_,by rw[e2];exact hz⟩
       simp only[execOp,ho]
       exact dL (by simp[Instr.lookup,bXj ht,hv,cAx hrow,cAg hkt hik,cAr hkt e1,hzr,Result.andThen])
      ·refine .inl ⟨rfl,y.val, ?_,e3⟩
       simp only[execOp,ho]
       exact dL (by simp[Instr.lookup,bXj ht,hv,cAx hrow,cAg hkt hik,cAr hkt e1,Result.andThen])
     ·cases h
    ·rename_i he
     rw[he]at hx
     cases h
     simp only[VR]at hx
     refine .inl ⟨rfl,z, ?_,hz⟩
     have hik:=aCd hd hi hp
     have e1:Instr.findNow d (ρ i) [] 0=some none:=rfl
     simp only[execOp,ho]
     exact dL (by simp[Instr.lookup,bXj ht,hx,cAg hkt hik,cAr hkt e1,hzr,Result.andThen])
    ·cases h
   split at h
   ·rename_i q hk
    exact key (some q) _ hk (.inl ⟨q,rfl,rfl⟩) h
   ·rename_i hk
    exact key none _ hk (.inr ⟨rfl,rfl⟩) h
   ·simp[lop]at h
  ·simp[lop]at h
 ·simp[lop]at h

theorem aSr(hH:HR gl m H w)(hρ:∀x,VR m (ev (cO x)) (ρ x))(hev:∀v,ev (.c v)=v)(o:Oper)(nid:Nat){r:LR}
  (h:lop gl ev (cur H) (aR H) nid (cOp P o.op)=some r) (hp:r.pre=true):fH P m w ρ o nid r:=by
 cases ho:o.op with
 | move x=>rw[ho]at h;simp only[cOp,lop,bW5]at h;subst h;exact aKl hρ (.inl ho) nid
 | assign x=>rw[ho]at h;simp only[cOp,lop,bW5]at h;subst h;exact aKl hρ (.inr ho) nid
 | pick c a b=>exact aZ1 hρ ho nid h
 | alloc t=>exact aQl ho nid hev h
 | box t x=>exact bG7 hρ ho nid h
 | build t ps=>exact aUx hρ ho nid h hp
 | buildSlice t n ps=>exact bHr hρ ho nid h hp
 | load t x=>exact bAk hH hρ ho nid h hp
 | nilCheck x=>exact aQa hH hρ ho nid h hp
 | binOp op t x y ty=>exact bJi hH hρ ho nid h hp
 | unOp op t x=>exact bLr hρ ho nid (λop k a b v hv w=>yC op k a b v hv w) h
 | convert s d x=>exact aX1 hH hρ ho nid h hp
 | sliceToArrayPointer t x=>exact bId hH hρ ho nid h hp
 | makeInterface t x=>exact aW7 hρ ho nid h
 | typeAssert x s t ok=>exact bDj hρ ho nid h hp
 | makeFunc f a b=>exact bAc hρ ho nid h
 | makeSlice t l c=>exact aY8 hρ ho nid h hp
 | slice t x lo hi mx=>
  cases mx with
  | none=>exact aRu hH hρ ho nid h hp
  | some y=>rw[ho]at h;simp[cOp,lop]at h
 | fieldAddr t x i=>exact bOy hH hρ ho nid h hp
 | field t x i=>exact aSg hρ ho nid h hp
 | indexAddr t x i=>exact bK7 hH hρ ho nid h hp
 | index t x i=>exact bNi hρ ho nid h hp
 | extract x i=>exact bGb hρ ho nid h hp
 | lookup t x i c=>
  cases c with
  | false=>exact aQu hH hρ ho nid h hp
  | true=>rw[ho]at h;simp[cOp,lop]at h
 | makeMap t y=>cases y<;>(rw[ho]at h;simp[cOp,lop]at h)
 | mapUpdate t x i v=>
  rw[ho]at h
  simp only[cOp]at h
  split at h<;>first | (split at h<;>simp[lop]at h;done) | (simp[lop]at h;done)
 | insert t x i v=>
  rw[ho]at h
  simp only[cOp]at h
  split at h<;>first | (split at h<;>simp[lop]at h;done) | (simp[lop]at h;done)
 | store t a x=>
  rw[ho]at h
  simp only[cOp]at h
  split at h<;>simp[lop]at h
 | call c=>
  obtain⟨callee,args,ts⟩:=c
  cases callee with
  | value f=>rw[ho]at h;simp[cOp,lop]at h
  | invoke f n=>rw[ho]at h;simp[cOp,lop]at h
  | builtin b=>
   rw[ho]at h
   simp only[cOp]at h
   split at h
   ·rename_i x t e1 e2
    obtain rfl:=bCc e1
    obtain rfl:=bCc e2
    exact bFx hH hρ ho nid (by rw[ho];simpa only[cOp]using h) hp
   ·split at h<;>first | (split at h<;>simp[lop]at h;done) | (simp[lop]at h;done)
   ·split at h<;>first | (split at h<;>simp[lop]at h;done) | (simp[lop]at h;done)
   ·exact bJ4 hρ ho nid (cu:=cur H) (ca:=aR H) (by rw[ho];simpa only[cOp]using h)
   ·exact bF9 hρ ho nid (cu:=cur H) (ca:=aR H) (by rw[ho];simpa only[cOp]using h)
   ·simp[lop]at h
 | _=>rw[ho]at h;simp[cOp,lop]at h
end
end Go.Proofs.YtnhechnaemmdiaaGreatDoor

namespace Go.Proofs.YtnhechnaemmdiaaGreatDoor
open Go.RowKit

def M.set(m:M)(id:Nat)(I:Inf):M:=⟨λj=>if j=id then some I else m.blk j,m.opq,m.lp,m.frz⟩
theorem M.set_same(m:M)(id:Nat)(I:Inf):(m.set id I).blk id=some I:=by simp[M.set]
theorem M.set_other(m:M){id j:Nat}(I:Inf)(h:j≠id):(m.set id I).blk j=m.blk j:=by simp[M.set,h]

section
variable {P:Program} {gl:Nat->Option HB} {m:M} {H:HV} {w w':World}

theorem HR.lt(hH:HR gl m H w){id:Nat}{I:Inf}(hI:m.blk id=some I):I.b<w.heap.size:=by
 have hd:=hH.dom id I hI
 obtain⟨o,h,_⟩:=(hH.blk id I H[id] hI (by simp[hd])).obj
 exact(bXa.1 h).1

theorem Ext.set_old{id:Nat}{I I':Inf}(hI:m.blk id=some I)(ht:I.tot<=I'.tot)(he:I.tot=I'.tot->I'=I):Ext m (m.set id I'):=by
 refine⟨λj J hJ => ?_,rfl,λ_ _ h=>h,λ_ _ _ h=>h⟩
 by_cases hj:j=id
 ·subst hj
  rw[hI]at hJ
  cases hJ
  exact⟨I',M.set_same _ _ _,ht,he⟩
 ·exact⟨J,by rw[M.set_other _ _ hj];exact hJ,bXe _,λ_=>rfl⟩

theorem Ext.set_new{id:Nat}{I:Inf}(h:m.blk id=none):Ext m (m.set id I):=by
 refine⟨λj J hJ=>⟨J, ?_,bXe _,λ_=>rfl⟩,rfl,λ_ _ h=>h,λ_ _ _ h=>h⟩
 rw[M.set_other]
 ·exact hJ
 ·intro e
  subst e
  rw[h]at hJ
  cases hJ

theorem HR.upd(hH:HR gl m H w){id:Nat}{I I':Inf}{b b':Blk}(hI:m.blk id=some I)(hb:H[id]? = some b)(hk:ownB b)(ht:I.tot<=I'.tot)(he:I.tot=I'.tot->I'=I)
  (hfr:I'.b=I.b∨w.heap.size<=I'.b) (hsz:w.heap.size<=w'.heap.size) (ho:∀k,k≠I.b->k<w.heap.size->w'.heap[k]? = w.heap[k]?) (hos:w'.os=w.os) (htp:w'.tape=w.tape) (hout:w'.output=w.output)
  (hB:BR (m.set id I') I' b' w'):HR gl (m.set id I') (H.set id b') w'∧Mv m H w (m.set id I') (H.set id b') w':=by
 have hid:id<H.length:=hH.dom id I hI
 have hext:=Ext.set_old (m:=m) hI ht he
 have hne:∀j J,j≠id->m.blk j=some J->J.b≠I.b∧J.b≠I'.b:=by
  intro j J hj hJ
  have h1:J.b≠I.b:=λe=>hj ((hH.inj id j I J b hI hJ hb hk e.symm).symm)
  refine⟨h1,λe => ?_⟩
  rcases hfr with h2 | h2
  ·exact h1 (e.trans h2)
  ·have:=hH.lt hJ
   omega
 have hnw:∀j,j<H.length->m.blk j=none->(m.set id I').blk j=none:=by
  intro j _ hn
  rw[M.set_other]
  ·exact hn
  ·intro e
   subst e
   rw[hI]at hn
   cases hn
 refine⟨⟨?_, ?_, ?_, ?_,hH.gld, ?_, ?_, ?_⟩,⟨hext,hos,htp,hout,hsz, ?_, ?_,λ_ _ h=>h,λ_ _ _ h=>.inl h⟩,by simp,hnw⟩
 ·intro j J hJ
  by_cases hj:j=id
  ·subst hj;simpa using hid
  ·rw[M.set_other _ _ hj]at hJ;simpa using hH.dom j J hJ
 ·intro j J c hJ hc
  by_cases hj:j=id
  ·subst hj
   rw[M.set_same]at hJ
   cases hJ
   rw[bZu hid]at hc
   cases hc
   exact hB
  ·rw[M.set_other _ _ hj]at hJ
   rw[bYu (by omega)]at hc
   have hn:=hne j J hj hJ
   exact(hH.blk j J c hJ hc).mono hext (ho J.b hn.1 (hH.lt hJ))
 ·intro i j J K c hJ hK hc hck hJK
  by_cases hi:i=id<;>by_cases hj:j=id
  ·rw[hi,hj]
  ·subst hi
   rw[M.set_same]at hJ
   rw[M.set_other _ _ hj]at hK
   cases hJ
   exact absurd hJK.symm (hne j K hj hK).2
  ·subst hj
   rw[M.set_same]at hK
   rw[M.set_other _ _ hi]at hJ
   cases hK
   exact absurd hJK (hne i J hi hJ).2
  ·rw[M.set_other _ _ hi]at hJ
   rw[M.set_other _ _ hj]at hK
   rw[bYu (by omega)]at hc
   exact hH.inj i j J K c hJ hK hc hck hJK
 ·intro g cs hg
  obtain⟨cu,e,fr,h1,h2⟩:=hH.glb g cs hg
  have hgs:g<w.heap.size:=(bXa.1 h1).1
  have hgn:g≠I.b:=λe=>hH.gow g cs id I b hg hI hb hk e.symm
  exact⟨cu,e,fr,(ho g hgn hgs).trans h1,VRL.mono hext _ _ h2⟩
 ·intro t g cs hg
  obtain⟨cu,e,fr,h1,h2⟩:=hH.frz t g cs hg
  have hgs:g<w.heap.size:=(bXa.1 h1).1
  have hgn:g≠I.b:=λe=>hH.fow t g cs id I b hg hI hb hk e.symm
  exact⟨cu,e,fr,(ho g hgn hgs).trans h1,h2⟩
 ·intro t g cs j J c hg hJ hc hck
  by_cases hj:j=id
  ·subst hj
   rw[M.set_same]at hJ
   cases hJ
   rcases hfr with h2 | h2
   ·rw[h2];exact hH.fow t g cs j I b hg hI hb hk
   ·obtain⟨cu,e,fr,h1,_⟩:=hH.frz t g cs hg
    have hgs:g<w.heap.size:=(bXa.1 h1).1
    omega
  ·rw[M.set_other _ _ hj]at hJ
   rw[bYu (by omega)]at hc
   exact hH.fow t g cs j J c hg hJ hc hck
 ·intro g cs j J c hg hJ hc hck
  by_cases hj:j=id
  ·subst hj
   rw[M.set_same]at hJ
   cases hJ
   rcases hfr with h2 | h2
   ·rw[h2];exact hH.gow g cs j I b hg hI hb hk
   ·obtain⟨cu,e,fr,h1,_⟩:=hH.glb g cs hg
    have hgs:g<w.heap.size:=(bXa.1 h1).1
    omega
  ·rw[M.set_other _ _ hj]at hJ
   rw[bYu (by omega)]at hc
   exact hH.gow g cs j J c hg hJ hc hck
 ·intro k hk1 hk2
  exact ho k (λe=>hk2 ⟨id,I,b,hI,hb,hk,e.symm⟩) hk1
 ·rintro k ⟨j,J,c,hJ,hc,hck,rfl⟩
  by_cases hj:j=id
  ·subst hj
   rw[M.set_same]at hJ
   cases hJ
   rcases hfr with h2 | h2
   ·exact .inr ⟨j,I,b,hI,hb,hk,h2.symm⟩
   ·exact .inl h2
  ·rw[M.set_other _ _ hj]at hJ
   rw[bYu (by omega)]at hc
   exact .inr ⟨j,J,c,hJ,hc,hck,rfl⟩

structure NewO (m:M) (nb:Blk) (I:Inf) (w w':World):Prop where
 os:w'.os=w.os
 tape:w'.tape=w.tape
 output:w'.output=w.output
 b:I.b=w.heap.size
 push:∃o,w'.heap=w.heap.push o
 br:∀m',Ext m m'->BR m' I nb w'

theorem NewB.new{nb:Blk}{I:Inf}(hN:NewB m nb I w w'):NewO m nb I w w':=by
 obtain⟨cu,e,lo,hi,q1,q2,q3,q4,q5,q6,q7⟩:=hN.row
 refine⟨hN.os,hN.tape,hN.output,hN.b,⟨_,q1⟩,λm' hm' => ?_⟩
 have hnew:w'.heap[I.b]? = some (.cells cu e (lo,hi)):=by
  rw[q1,hN.b]
  simp
 refine⟨hN.tot,hN.lf,λ_=>⟨cu,e,lo,hi,hnew,by rw[hN.d];omega,q3,λh=>by rw[hN.d,q4 h];omega,λ_=>⟨hN.d,q6⟩, ?_⟩,λc hc=>absurd (jP hc).1 q5⟩
 rw[hN.d,bXl]
 exact VRL.mono hm' _ _ q7

theorem HR.mapO(hH:HR gl m H w){id:Nat}{I:Inf}{nb:Blk}{H':HV}(hid:m.blk id=none)(hnb:H'[id]? = some nb)(hHH:∀j,j≠id->j<H.length->H'[j]? = H[j]?)(hlen:H.length<=H'.length)(hN:NewO m nb I w w') :
  HR gl (m.set id I) H' w'∧Mw m H w (m.set id I) H' w':=by
 have hext:Ext m (m.set id I):=Ext.set_new hid
 obtain⟨o,q1⟩:=hN.push
 have ho:∀k,k<w.heap.size->w'.heap[k]? = w.heap[k]? := by
  intro k hk
  rw[q1,Array.getElem?_push,if_neg (by omega)]
 have hsz:w'.heap.size=w.heap.size+1:=by rw[q1];simp
 refine⟨⟨?_, ?_, ?_, ?_,hH.gld, ?_, ?_, ?_⟩,hext,hN.os,hN.tape,hN.output,by omega, ?_, ?_,λ_ _ h=>h,λ_ _ _ h=>.inl h⟩
 ·intro j J hJ
  by_cases hj:j=id
  ·subst hj
   exact(bXq.1 hnb).1
  ·rw[M.set_other _ _ hj]at hJ
   have:=hH.dom j J hJ
   omega
 ·intro j J c hJ hc
  by_cases hj:j=id
  ·subst hj
   rw[M.set_same]at hJ
   cases hJ
   rw[hnb]at hc
   cases hc
   exact hN.br _ hext
  ·rw[M.set_other _ _ hj]at hJ
   rw[hHH j hj (hH.dom j J hJ)]at hc
   exact(hH.blk j J c hJ hc).mono hext (ho J.b (hH.lt hJ))
 ·intro i j J K c hJ hK hc hck hJK
  by_cases hi:i=id<;>by_cases hj:j=id
  ·rw[hi,hj]
  ·subst hi
   rw[M.set_same]at hJ
   rw[M.set_other _ _ hj]at hK
   cases hJ
   have:=hH.lt hK
   have:=hN.b
   omega
  ·subst hj
   rw[M.set_same]at hK
   rw[M.set_other _ _ hi]at hJ
   cases hK
   have:=hH.lt hJ
   have:=hN.b
   omega
  ·rw[M.set_other _ _ hi]at hJ
   rw[M.set_other _ _ hj]at hK
   rw[hHH i hi (hH.dom i J hJ)]at hc
   exact hH.inj i j J K c hJ hK hc hck hJK
 ·intro g cs hg
  obtain⟨cu,e,fr,h1,h2⟩:=hH.glb g cs hg
  have hgs:g<w.heap.size:=(bXa.1 h1).1
  exact⟨cu,e,fr,(ho g hgs).trans h1,VRL.mono hext _ _ h2⟩
 ·intro t g cs hg
  obtain⟨cu,e,fr,h1,h2⟩:=hH.frz t g cs hg
  have hgs:g<w.heap.size:=(bXa.1 h1).1
  exact⟨cu,e,fr,(ho g hgs).trans h1,h2⟩
 ·intro t g cs j J c hg hJ hc hck
  by_cases hj:j=id
  ·subst hj
   rw[M.set_same]at hJ
   cases hJ
   obtain⟨cu,e,fr,h1,_⟩:=hH.frz t g cs hg
   have hgs:g<w.heap.size:=(bXa.1 h1).1
   have:=hN.b
   omega
  ·rw[M.set_other _ _ hj]at hJ
   rw[hHH j hj (hH.dom j J hJ)]at hc
   exact hH.fow t g cs j J c hg hJ hc hck
 ·intro g cs j J c hg hJ hc hck
  by_cases hj:j=id
  ·subst hj
   rw[M.set_same]at hJ
   cases hJ
   obtain⟨cu,e,fr,h1,_⟩:=hH.glb g cs hg
   have hgs:g<w.heap.size:=(bXa.1 h1).1
   have:=hN.b
   omega
  ·rw[M.set_other _ _ hj]at hJ
   rw[hHH j hj (hH.dom j J hJ)]at hc
   exact hH.gow g cs j J c hg hJ hc hck
 ·intro k hk1 _
  exact ho k hk1
 ·rintro k ⟨j,J,c,hJ,hc,hck,rfl⟩
  by_cases hj:j=id
  ·subst hj
   rw[M.set_same]at hJ
   cases hJ
   exact .inl (by rw[hN.b];exact bXe _)
  ·rw[M.set_other _ _ hj]at hJ
   rw[hHH j hj (hH.dom j J hJ)]at hc
   exact .inr ⟨j,J,c,hJ,hc,hck,rfl⟩

theorem HR.map(hH:HR gl m H w){id:Nat}{I:Inf}{nb:Blk}{H':HV}(hid:m.blk id=none)(hnb:H'[id]? = some nb)(hHH:∀j,j≠id->j<H.length->H'[j]? = H[j]?)(hlen:H.length<=H'.length)(hN:NewB m nb I w w') :
  HR gl (m.set id I) H' w'∧Mw m H w (m.set id I) H' w':=hH.mapO hid hnb hHH hlen hN.new

theorem HR.newO(hH:HR gl m H w){I:Inf}{nb:Blk}(hN:NewO m nb I w w'):HR gl (m.set H.length I) (H++[nb]) w'∧Mv m H w (m.set H.length I) (H++[nb]) w':=by
 have hn:m.blk H.length=none:=by
  cases h:m.blk H.length with
  | none=>rfl
  | some J=>have:=hH.dom _ _ h;omega
 obtain⟨h1,h2⟩:=hH.mapO (H':=H++[nb]) hn (by simp) (λj hj hl=>by rw[bXx hl]) (by simp) hN
 exact⟨h1,h2,by simp,λj hj hnj=>by rw[M.set_other _ _ (by omega)];exact hnj⟩
theorem HR.new(hH:HR gl m H w){I:Inf}{nb:Blk}(hN:NewB m nb I w w'):HR gl (m.set H.length I) (H++[nb]) w'∧Mv m H w (m.set H.length I) (H++[nb]) w':=hH.newO hN.new
end

theorem jJ(P:Program)(g o:Nat)(t:TypeId)(lo hi:Nat){bk:BK}:∀ (vs:List Value) (i:Nat) (cur:Array Value) (w:World),w.heap[g]? = some (.cells cur t (lo,hi))->Mk bk lo hi cur.size->o+i+vs.length<=cur.size->(∀v∈vs,v.oneCell'=true) →
  (storeCells ⟨g,o,none⟩ vs i).run P w=.ok () (w.setRow g (cur.toList.take (o+i)++vs++cur.toList.drop (o+i+vs.length)).toArray)
 | [],i,cur,w,hg,_,_,_=>by
  simp only[storeCells,bXs,bXm,bYv,bYw,Array.toArray_toList]
  rw[setRow_self w g cur t _ hg]
  rfl
 | v::rest,i,cur,w,hg,hm,hl,h1=>by
  have hi':o+i<cur.size:=by simp at hl;omega
  have hadd:(⟨g,o,none⟩:Addr).add i=⟨g,o+i,none⟩:=by unfold Addr.add;split<;>simp_all
  have hcell:w.cell? ⟨g,o+i,none⟩=some cur[o+i]:=by simp[World.cell?,hg,hi']
  have hfro:w.frozen? ⟨g,o+i,none⟩=false:=by
   simp only[World.frozen?,hg,Bool.and_eq_false_iff,bXi]
   rcases hm with h | h<;>omega
  have hst:(store ((⟨g,o,none⟩:Addr).add i) v).run P w=.ok () (w.setRow g (cur.setIfInBounds (o+i) v)):=by
   rw[hadd,run_store P w _ v _ (h1 v (by simp)),hcell]
   simp[hfro,setCell_eq_setRow w g (o+i) cur t (lo,hi) v hg]
  have ih:=jJ P g o t lo hi rest (i+1) (cur.setIfInBounds (o+i) v) (w.setRow g (cur.setIfInBounds (o+i) v)) (setRow_heap w g cur _ t _ hg) (by simpa using hm) (by simp at hl ⊢;omega) (λx hx=>h1 x (by simp[hx]))
  simp only[storeCells,bY1,hst,bYl,ih,setRow_setRow]
  congr 3
  have e:=list_seg_step cur.toList (o+i) v rest (by simp at hl ⊢;omega)
  simpa[cA8,bYp]using e

section
variable {P:Program} {gl:Nat->Option HB} {m:M} {H:HV} {w:World}

theorem aF6{a:Nat}{l vs:HB}{off:Nat}(h1:aP a l=true)(h2:aP a vs=true):aP a (aN l off vs)=true:=by
 have app:∀x y:HB,aP a x=true->aP a y=true->aP a (x++y)=true:=by
  intro x
  induction x with
  | nil=>intro y _ h;exact h
  | cons v x ih=>intro y hx hy;simp only[bX0,aP,bW3]at hx ⊢;exact⟨hx.1,ih y hx.2 hy⟩
 have tk:∀ (x:HB) (n:Nat),aP a x=true->aP a (x.take n)=true:=by
  intro x
  induction x with
  | nil=>intro n h;simpa using h
  | cons v x ih=>intro n h;simp only[aP,bW3]at h;cases n with
   | zero=>rfl
   | succ n=>simp only[bY7,aP,bW3];exact⟨h.1,ih n h.2⟩
 have dr:∀ (x:HB) (n:Nat),aP a x=true->aP a (x.drop n)=true:=by
  intro x
  induction x with
  | nil=>intro n h;simpa using h
  | cons v x ih=>intro n h;cases n with
   | zero=>exact h
   | succ n=>simp only[aP,bW3]at h;simp only[bZm];exact ih n h.2
 exact app _ _ (app _ _ (tk _ _ h1) h2) (dr _ _ h1)

theorem aAl{a:Nat}:∀ {x y:HB},aP a x=true->aP a y=true->aP a (x++y)=true
 | [],_,_,h=>h
 | v::x,y,hx,hy=>by
  simp only[bX0,aP,bW3]at hx ⊢
  exact⟨hx.1,aAl hx.2 hy⟩

theorem aZa{α:Type}(l us:List α)(off n:Nat)(h:off+us.length<=n)(hn:n<=l.length):(l.take off++us++l.drop (off+us.length)).take n=(l.take n).take off++us++(l.take n).drop (off+us.length):=by
 have len:(l.take off++us).length=off+us.length:=by simp;omega
 rw[List.take_append,bW4 (l:=l.take off++us) (by rw[len];exact h),len,cCl,cBr,show min off n=off by omega]

theorem bC3(hH:HR gl m H w){id tot off:Nat}(hc:cur H id tot=true){I:Inf}(hI:m.blk id=some I)(hk:oJ H id≠.ro){vs:HB}{us:List Value}(hv:VRL m vs us)(h1:eH vs=true)(hle:off+vs.length<=tot) :
  ∃w' m',(storeCells ⟨I.b,I.d+off,none⟩ us).run P w=.ok () w'∧HR gl m' (bJ9 H id off vs) w'∧Mv m H w m' (bJ9 H id off vs) w':=by
 obtain⟨b,hb,hbl⟩:=qZ hc
 have hk2:b.k≠.ro:=by simpa[oJ,hb]using hk
 have hB:=hH.blk id I b hI hb
 obtain⟨cu,e,lo,hi,q1,q2,q3,q4,q5,q6⟩:=hB.row (aC3 hc hb)
 obtain⟨hd,hm⟩:=q5 hk2
 have hlen:vs.length=us.length:=hv.len
 have ht:I.tot=tot:=by rw[hB.tot,hbl]
 have hst:=jJ P I.b (I.d+off) e lo hi us 0 cu w q1 hm (by omega) (aI5 h1 hv)
 simp only[bYv,hd,bY6]at hst
 rw[hd,bY6]
 refine⟨_,m.set id I,hst, ?_⟩
 have hsetB:bJ9 H id off vs=H.set id ⟨b.k,b.lf&&aP 0 vs,aN b.cs off vs⟩:=by simp[bJ9,hb]
 rw[hsetB]
 refine hH.upd hI hb (.inl hk2) (bXe _) (λ_=>rfl) (.inl rfl) (by simp[World.setRow]) (λk hk _=>setRow_other w I.b k _ hk) rfl rfl rfl ?_
 have hext:=Ext.set_old (m:=m) hI (bXe _) (λ_=>rfl)
 have hsz:((cu.toList.take off++us++cu.toList.drop (off+us.length)).toArray).size=cu.size:=by simp;omega
 refine⟨by simp[aN];omega,λh => ?_,λ_=>⟨(cu.toList.take off++us++cu.toList.drop (off+us.length)).toArray,e,lo,hi,setRow_heap w I.b cu _ e _ q1,q2,by rw[hsz];exact q3,q4,λ_=>⟨hd,by rw[hsz];exact hm⟩, ?_⟩,λc hc=>absurd (jP hc).1 hk2⟩
 ·simp only[bW3]at h
  exact aF6 (hB.lf h.1) h.2
 ·rw[hd,bXl]at q6 ⊢
  have e1:(cu.toList.take off++us++cu.toList.drop (off+us.length)).toArray.toList.take I.tot=(cu.toList.take I.tot).take off++us++(cu.toList.take I.tot).drop (off+us.length):=
   aZa _ _ _ _ (by omega) (by simp;omega)
  rw[e1]
  simp only[aN,hlen]
  exact VRL.mono hext _ _ (VRL.append (VRL.append (q6.take off) hv) (q6.drop _))
end
end Go.Proofs.YtnhechnaemmdiaaGreatDoor

namespace Go.Proofs.YtnhechnaemmdiaaGreatDoor
open Go.RowKit

section
variable {P:Program} {gl:Nat->Option HB} {m:M} {H:HV} {w:World} {ρ:Operand->Value} {ev:AO->AV}

theorem aH7(b:LA):VRL m (ofBytes b) (b.map λc=>Value.int .u8 (c.toNat:Int)):=by
 induction b with
 | nil=>simp[ofBytes]
 | cons c b ih=>simp only[ofBytes,bXu,bH];exact⟨by simp[VR],ih⟩

theorem src_ok(hH:HR gl m H w){y:AV}{y':Value}(hv:VR m y y'){size k:Nat}{b:Bool}{vs:HB}(h:src H size y=some (b,k,vs))(hb:b=true) :
  ∃news:List Value,VRL m vs news∧news.length=k*size∧(∀w1:World,(Builtin.lenOf y').run P w1=.ok k w1) ∧
   ∀n,n<=k->∀w1:World,w1.heap=w.heap->(Builtin.firstCells size n y').run P w1=.ok (news.take (n*size)).toArray w1:=by
 cases y<;>simp only[src]at h<;>try cases h
 ·rename_i s
  simp only[VR]at hv
  subst hv
  rw[bS]at hb
  subst hb
  refine⟨_,aH7 s,by simp,λw1=>by simp[Builtin.lenOf,size_mk],λn hn w1 _ => ?_⟩
  simp only[Builtin.firstCells,cAc]
  rw[extract_mk]
  simp[List.map_take]
 ·simp only[VR]at hv
  subst hv
  exact⟨[],by simp,by simp,λw1=>by simp[Builtin.lenOf],λn hn w1 _=>by simp[Builtin.firstCells]⟩
 ·rename_i id tot off sz
  simp only[bW3,bS,bX5]at hb
  obtain⟨⟨hc,rfl⟩,hle⟩:=hb
  obtain⟨I,o2,cap,hI,hIt,rfl,hcap,hpos⟩:=hH.sl hv hc
  obtain⟨us,v1,v2,v3⟩:=hH.cells (n:=k*sz) hc hI hle
  refine⟨us,v3,v1,λw1=>by simp[Builtin.lenOf],λn hn w1 hw1 => ?_⟩
  simp only[Builtin.firstCells]
  rcases hpos with ⟨rfl,_⟩ | ⟨rfl,_⟩
  ·have hl:(us.take (n*sz)).length=n*sz:=by
    have:=bZf sz hn
    simp;omega
   rw[←hl]
   have:=jT (P:=P) (w:=w1) (b:=I.b) (o:=I.d+off) (us.take (n*sz)) (by
    intro j v hj
    have e:w1.cell? ⟨I.b,I.d+off+j,none⟩=w.cell? ⟨I.b,I.d+off+j,none⟩:=by simp[World.cell?,hw1]
    rw[e]
    simp only[bXz]at hj
    split at hj
    ·exact v2 j v hj
    ·cases hj)
   rw[this,hl]
  ·have hn0:n=0:=by omega
   subst hn0
   simp[loadCells,loadCellsFrom]
 ·rename_i t' sz
  simp only[bW3,bS]at hb
  obtain⟨rfl,hle⟩:=hb
  obtain⟨_,a2,cap,rfl,hcap,us,v1,v3,v2⟩:=hH.lst hv
  refine⟨us,v3,by rw[v1,hle],λw1=>by simp[Builtin.lenOf],λn hn w1 hw1 => ?_⟩
  simp only[Builtin.firstCells]
  rcases v2 with ⟨b2,o2,rfl,v2⟩ | ⟨h0,v2,_⟩
  case inr=>
   have hn0:n=0:=by omega
   subst hn0
   cases a2<;>simp[loadCells,loadCellsFrom]
  have hl:(us.take (n*sz)).length=n*sz:=by
   have:=bZf sz hn
   simp;omega
  rw[←hl]
  have:=jT (P:=P) (w:=w1) (b:=b2) (o:=o2) (us.take (n*sz)) (by
   intro j v hj
   have e:w1.cell? ⟨b2,o2+j,none⟩=w.cell? ⟨b2,o2+j,none⟩:=by simp[World.cell?,hw1]
   rw[e]
   simp only[bXz]at hj
   split at hj
   ·exact v2 j v hj
   ·cases hj)
  rw[this,hl]

theorem aZy(t u ty e:TypeId)(i:TypeInfo)(z:Value)(ht:P.underlying t=some (.slice e))(hu:(∃e',P.underlying u=some (.slice e'))∨P.underlying u=some .string)(hi:P.info? e=some i)(hz:i.zero=some z)
  (base:Option Addr) (sLen sCap n:Nat) (y':Value) (olds news:List Value)
  (ho:(Builtin.firstCells i.size sLen (.slice base sLen sCap)).run P w.drew=.ok olds.toArray w.drew) (hl:(Builtin.lenOf y').run P w=.ok n w) (hn:(Builtin.firstCells i.size n y').run P w.drew=.ok news.toArray w.drew)
  (hg:sCap<sLen+n) (h63:sLen+n<=1099511627776) (hb:(sLen+n)*i.bytes<=1099511627776) :
  (Builtin.append_ #[t,u] ty #[.slice base sLen sCap,y']).run P w =
   .ok (.slice (some ⟨w.heap.size,0,none⟩) (sLen+n) (grownCap w (sLen+n) sCap e))
    (w.drew.alloc (.cells (olds.toArray++news.toArray++Builtin.zeroCells z.cells (grownCap w (sLen+n) sCap e-(sLen+n))) e)):=by
 have hn':¬ (sLen+n<=sCap):=by omega
 have h63':¬ (9223372036854775807<((sLen:Int)+(n:Int))):=by omega
 have hfit:=growslice_fits (need:=sLen+n) (old:=sCap) (bytes:=i.bytes) hg (by omega)
 have h48':¬ (281474976710656<Builtin.nextslicecap (sLen+n) sCap*i.bytes):=by omega
 rcases hu with ⟨e',hu⟩ | hu
 all_goals
  simp[Builtin.append_,bXj ht,bXj hu,sizeOf,typeInfo,zeroValue,hi,hz,hl,hn',h63',h48',Question.forced,ho,hn,newRow,grownCap]
  congr 2
  apply cA5
  simp[bW9]

theorem aZr(t u ty e:TypeId)(i:TypeInfo)(ht:P.underlying t=some (.slice e))(hu:(∃e',P.underlying u=some (.slice e'))∨P.underlying u=some .string)(hi:P.info? e=some i)
  (b:Addr) (sLen sCap n:Nat) (y':Value) (news:List Value) (w':World)
  (hl:(Builtin.lenOf y').run P w=.ok n w) (hn:(Builtin.firstCells i.size n y').run P w=.ok news.toArray w) (hst:(storeCells (b.add (sLen*i.size)) news).run P w=.ok () w')
  (hg:sLen+n<=sCap) :
  (Builtin.append_ #[t,u] ty #[.slice (some b) sLen sCap,y']).run P w=.ok (.slice (some b) (sLen+n) sCap) w':=by
 rcases hu with ⟨e',hu⟩ | hu
 all_goals simp[Builtin.append_,bXj ht,bXj hu,sizeOf,typeInfo,hi,hl,hg,hn,hst]

theorem bG4(t u ty e:TypeId)(i:TypeInfo)(ht:P.underlying t=some (.slice e))(hu:(∃e',P.underlying u=some (.slice e'))∨P.underlying u=some .string)(hi:P.info? e=some i)
  (y':Value) (hl:(Builtin.lenOf y').run P w=.ok 0 w) (hn:(Builtin.firstCells i.size 0 y').run P w=.ok #[] w) :
  (Builtin.append_ #[t,u] ty #[.slice none 0 0,y']).run P w=.ok (.slice none 0 0) w:=by
 rcases hu with ⟨e',hu⟩ | hu
 all_goals simp[Builtin.append_,bXj ht,bXj hu,sizeOf,typeInfo,hi,hl,hn]

structure Apps (P:Program) (w:World) (t u ty e:TypeId) (i:TypeInfo) (z:Value) (y':Value) (n:Nat) (news:List Value):Prop where
 grow:∀ (base:Option Addr) (sLen sCap:Nat) (olds:List Value),(Builtin.firstCells i.size sLen (.slice base sLen sCap)).run P w.drew=.ok olds.toArray w.drew->sCap<sLen+n->sLen+n<=1099511627776->(sLen+n)*i.bytes<=1099511627776 →
  (Builtin.append_ #[t,u] ty #[.slice base sLen sCap,y']).run P w =
   .ok (.slice (some ⟨w.heap.size,0,none⟩) (sLen+n) (grownCap w (sLen+n) sCap e))
    (w.drew.alloc (.cells (olds.toArray++news.toArray++Builtin.zeroCells z.cells (grownCap w (sLen+n) sCap e-(sLen+n))) e))
 room:∀ (b:Addr) (sLen sCap:Nat) (w':World),(storeCells (b.add (sLen*i.size)) news).run P w=.ok () w'->sLen+n<=sCap →
  (Builtin.append_ #[t,u] ty #[.slice (some b) sLen sCap,y']).run P w=.ok (.slice (some b) (sLen+n) sCap) w'
 nil:n=0->(Builtin.append_ #[t,u] ty #[.slice none 0 0,y']).run P w=.ok (.slice none 0 0) w

theorem bI2{t u ty e:TypeId}{i:TypeInfo}{z:Value}(ht:P.underlying t=some (.slice e))(hu:(∃e',P.underlying u=some (.slice e'))∨P.underlying u=some .string)(hi:P.info? e=some i)(hz:i.zero=some z)
  {y':Value} {n:Nat} {news:List Value} (hl:∀w1,(Builtin.lenOf y').run P w1=.ok n w1) (hf:∀w1:World,w1.heap=w.heap->(Builtin.firstCells i.size n y').run P w1=.ok news.toArray w1) (h0:n=0->news=[]):Apps P w t u ty e i z y' n news:=by
 refine⟨λbase sLen sCap olds h1 h2 h3 h4=>aZy t u ty e i z ht hu hi hz base sLen sCap n y' olds news h1 (hl w) (hf w.drew rfl) h2 h3 h4,λb sLen sCap w' h1 h2=>aZr t u ty e i ht hu hi b sLen sCap n y' news w' (hl w) (hf w rfl) h1 h2,λh => ?_⟩
 subst h
 have:=hf w rfl
 rw[h0 rfl]at this
 exact bG4 t u ty e i ht hu hi y' (hl w) this

theorem aP1{t u ty e:TypeId}{k:IntKind}{i:TypeInfo}{z:Value}(ht:P.underlying t=some (.slice e))(hu:P.underlying u=some (.int k))(hi:P.info? e=some i)(hz:i.zero=some z)(hzs:z.cells.size=i.size)
  {kx:IntKind} {l:Int} (h0:0<=l) (h1:l<=1099511627776) (hb:l.toNat*i.bytes<=1099511627776):Apps P w t u ty e i z (.int kx l) l.toNat ((List.replicate l.toNat z.cells.toList).flatten):=by
 obtain⟨n,rfl⟩:∃n:Nat,l=(n:Int):=⟨l.toNat,by omega⟩
 simp only[bXf]at hb ⊢
 have hw:IntKind.i64.wrap (n:Int)=n:=by
  rw[cBe]
  omega
 have hneg:¬ ((n:Int)<0):=by omega
 have hbi:¬ ((281474976710656:Int)<(n:Int)*(i.bytes:Int)):=by
  have:((n*i.bytes:Nat):Int)<=((1099511627776:Nat):Int):=Int.ofNat_le.2 hb
  rw[cCx]at this
  omega
 have e1:=fV z.cells n
 have hzn:Builtin.zeroCells z.cells n=((List.replicate n z.cells.toList).flatten).toArray:=by rw[←e1];rfl
 have hnl:((List.replicate n z.cells.toList).flatten).length=n*i.size:=by simp[hzs]
 generalize (List.replicate n z.cells.toList).flatten=news at hzn hnl
 refine⟨λbase sLen sCap olds ho hg h63 hb2 => ?_,λb sLen sCap w' hst hg => ?_,λh => ?_⟩
 ·have hn':¬ (sLen+n<=sCap):=by omega
  have h63':¬ (9223372036854775807<((sLen:Int)+(n:Int))):=by omega
  have hfit:=growslice_fits (need:=sLen+n) (old:=sCap) (bytes:=i.bytes) hg (by omega)
  have h48':¬ (281474976710656<Builtin.nextslicecap (sLen+n) sCap*i.bytes):=by omega
  by_cases hn:n*i.size=0
  ·have hz0:news=[]:=bXo (by rw[hnl];exact hn)
   subst hz0
   simp[Builtin.append_,bXj ht,bXj hu,sizeOf,typeInfo,zeroValue,hi,hz,asInt,asIntOf,hw,hneg,hbi,hn',h63',h48',Question.forced,ho,newRow,grownCap,hn]
  ·simp[Builtin.append_,bXj ht,bXj hu,sizeOf,typeInfo,zeroValue,hi,hz,asInt,asIntOf,hw,hneg,hbi,hn',h63',h48',Question.forced,ho,newRow,grownCap,hn,hzn]
   congr 2
   apply cA5
   simp[bW9]
 ·by_cases hn:n*i.size=0
  ·have hz0:news=[]:=bXo (by rw[hnl];exact hn)
   subst hz0
   simp[Builtin.append_,bXj ht,bXj hu,sizeOf,typeInfo,hi,asInt,asIntOf,hw,hneg,hbi,hg,hn,hst]
  ·simp[Builtin.append_,bXj ht,bXj hu,sizeOf,typeInfo,zeroValue,hi,hz,asInt,asIntOf,hw,hneg,hbi,hg,hn,hzn,hst]
 ·subst h
  have hw0:IntKind.i64.wrap 0=0:=by rw[cBe];omega
  simp[Builtin.append_,bXj ht,bXj hu,sizeOf,typeInfo,hi,asInt,asIntOf,hw0]

theorem aFu{olds news:List Value}{xs vs:HB}(ho:VRL m xs olds)(hn:VRL m vs news)(w:World)(e:TypeId)(z:List Value)(k:Nat) :
  NewB m (iJ .grow (xs++vs)) ⟨w.heap.size,0,(xs++vs).length,olds.length+news.length+z.length⟩ w (w.drew.alloc (.cells (olds.toArray++news.toArray++z.toArray) e))∧k=k:=by
 have h:=(ho.append hn).len
 refine⟨⟨rfl,rfl,rfl,id,rfl,rfl,rfl,_,e,0,0,rfl, ?_, ?_,by simp[iJ],by simp[iJ],.inl rfl, ?_⟩,rfl⟩
 ·simp at h ⊢;omega
 ·simp;omega
 ·simp only[iJ]
  rw[show(olds.toArray++news.toArray++z.toArray).toList=(olds++news)++z by simp]
  rw[h,List.take_left]
  exact ho.append hn
def zF(P:Program)(gl:Nat->Option HB)(m:M)(H:HV)(w:World)(ρ:Operand->Value)(o:Oper)(K:AV->HV->Prop):Prop:=
 ∃av H' v w' m',K av H'∧((execOp ρ o).run P w=.ok (.value v) w'∨((execOp ρ o).run P w=.ok .skip w'∧v=undef))∧VR m' av v∧HR gl m' H' w'∧Mv m H w m' H' w'

theorem nN{E:Env}{b:Bool}{c:Prop}(h:ck E b c):b=true∧c:=by
 unfold ck at h
 cases b<;>simp_all

theorem aRw(hH:HR gl m H w)(hρ:∀x,VR m (ev (cO x)) (ρ x)){E:Env}{k:Nat}{K:AV->HV->Prop}{o:Oper}{t:TypeId}{a x:Operand}(ho:o.op=.store t a x)
  (h:hop E ev H k (cOp P o.op) K):zF P gl m H w ρ o K:=by
 rw[ho]at h
 simp only[cOp]at h
 split at h
 ·rename_i hk
  simp only[hop]at h
  have ha:=hρ a
  split at h
  ·rename_i id tot off vs he hcv
   rw[he]at ha
   obtain⟨h1,h2⟩:=nN h
   simp only[bW3,bX5,bS,bZw,ne_eq]at h1
   obtain⟨⟨⟨⟨hc,hle⟩,hl⟩,hone⟩,hro⟩:=h1
   obtain⟨I,hI,hIt,hv⟩:=hH.ptr ha hc
   have hvs:=iE hcv (hρ x)
   obtain⟨w',m',q1,q2,q3⟩:=bC3 (P:=P) (off:=off) hH hc hI hro hvs hone (by omega)
   refine⟨_,_,undef,w',m',h2,.inr ⟨?_,rfl⟩,by simp[VR],q2,q3⟩
   have hlen:(ρ x).cells.size=szT P t:=by rw[←hl];simpa using hvs.len.symm
   have hrun:(storeVar t ⟨I.b,I.d+off,none⟩ (ρ x)).run P w=.ok () w':=by
    simp[storeVar,bN hk,hlen,q1]
   simp[execOp,ho,Instr.storeAt,Instr.sureAddr,hv,hrun]
  ·cases h
 ·simp[hop]at h

theorem aS0(hH:HR gl m H w){id:Nat}{I:Inf}{b:Blk}(hI:m.blk id=some I)(hb:H[id]? = some b)(hk:b.k≠.ro)(hk2:b.k≠.exact) :
  ∃w' m',(∀o2,(markStringish ⟨I.b,o2,none⟩).run P w=.ok () w')∧HR gl m' H w'∧Mv m H w m' H w':=by
 have hB:=hH.blk id I b hI hb
 obtain⟨cu,e,lo,hi,q1,q2,q3,q4,q5,q6⟩:=hB.row (nK hk)
 obtain⟨hd,hm⟩:=q5 hk
 have hsh:w.shape? I.b=some (e,cu.size):=by simp[World.shape?,q1]
 have hHs:H.set id b=H:=by
  apply List.ext_getElem?
  intro j
  by_cases hj:j=id
  ·subst hj
   rw[bZu (hH.dom j I hI),hb]
  ·rw[bYu (by omega)]
 have hup:=hH.upd (w':=w.freeze ⟨I.b,cu.size,none⟩ 1) (b':=b) hI hb (.inl hk) (bXe _) (λ_=>rfl) (.inl rfl) (by simp[World.freeze])
  (λk hk1 _=>by simp[World.freeze,Array.getElem?_modify,cCn hk1]) (by simp[World.freeze]) (by simp[World.freeze]) (by simp[World.freeze]) (by
   refine⟨hB.tot,hB.lf,λ_=>⟨cu,e,if lo==hi then cu.size else min lo cu.size,if lo==hi then cu.size+1 else max hi (cu.size+1), ?_,q2,q3,q4,λ_=>⟨hd, ?_⟩,VRL.mono (Ext.set_old hI (bXe _) (λ_=>rfl)) _ _ q6⟩,λc hc=>absurd (jP hc).1 hk⟩
   ·have e1:(w.freeze ⟨I.b,cu.size,none⟩ 1).heap[I.b]? = some (Obj.cells cu e (if lo==hi then(cu.size,cu.size+1)else(min lo cu.size,max hi (cu.size+1)))):=by
     simp[World.freeze,Array.getElem?_modify,q1]
    rw[e1]
    by_cases h:lo==hi<;>simp[h]
   ·by_cases h:lo==hi
    ·simp only[h,cBu];exact .inr ⟨bXe _,hk2⟩
    ·simp only[h,cBj,bY5]
     have h':lo≠hi:=by simpa using h
     rcases hm with h1 | h1
     ·exact absurd h1 h'
     ·exact .inr ⟨by omega,hk2⟩)
 rw[hHs]at hup
 exact⟨_,_,λo2=>by simp[markStringish,hsh],hup.1,hup.2⟩
end
end Go.Proofs.YtnhechnaemmdiaaGreatDoor
