/-
  The engine, part L: the operations that write, put together.
-/
import Derived.Test.YtnhechnaemmdiaaGreatDoorEnC
import Derived.Scope
import Derived.RangeFuncLeaves
import Derived.OrdersIn
import Derived.LoopNIn
import Derived.TacticsIn
import Derived.RangeFuncRecord
set_option linter.unusedSimpArgs false
set_option linter.unusedVariables false
namespace Go.Proofs.YtnhechnaemmdiaaGreatDoor
open Go.RowKit

section
variable {P:Program} {gl:Nat->Option HB} {m:M} {H:HV} {w:World} {ρ:Operand->Value} {ev:AO->AV}

theorem bAh(hH:HR gl m H w)(hρ:∀x,VR m (ev (cO x)) (ρ x)){E:Env}{k:Nat}{K:AV->HV->Prop}{o:Oper}{s d:TypeId}{x:Operand}(ho:o.op=.convert s d x)
  (h:hop E ev H k (cOp P o.op) K):zF P gl m H w ρ o K:=by
 rw[ho]at h
 simp only[cOp]at h
 have hx:=hρ x
 split at h
 ·rename_i hk
  simp only[bW3]at hk
  obtain⟨_,hs⟩:=fC hk.1
  obtain⟨_,hd⟩:=fC hk.2
  split at h
  ·simp[hop]at h
  ·split at h<;>simp[hop]at h
  ·split at h<;>simp[hop]at h
  ·simp[hop]at h
  ·rename_i e0 e e1 e2
   rw[e1]at hs
   rw[e2]at hd
   split at h
   ·rename_i hsd
    subst hsd
    split at h
    ·rename_i e3
     have he3:=cZ e3 (by simp)
     have hee:e0=e:=by
      rw[e1]at e2
      cases e2
      rfl
     subst hee
     simp only[hop]at h
     split at h
     ·rename_i id tot off len sz he
      rw[he]at hx
      obtain⟨h1,h2⟩:=nN h
      simp only[bW3,bYr]at h1
      obtain⟨I,o2,cap,hI,hIt,hv,hcap,hpos⟩:=hH.sl hx h1.1
      obtain⟨b,hb,hbl⟩:=qZ h1.1
      have hbk:b.k=.grow:=by simpa[oJ,hb]using h1.2
      obtain⟨w',m',q1,q2,q3⟩:=aS0 (P:=P) hH hI hb (by rw[hbk];simp) (by rw[hbk];simp)
      refine⟨_,_,ρ x,w',m',h2,.inl ?_,VR.mono q3.ext _ _ hx,q2,q3⟩
      simp only[execOp,ho]
      exact dL (by simp[convert,bXj hs,bXj he3,hv,q1])
     ·cases h
    ·simp[hop]at h
   ·simp[hop]at h
  ·simp[hop]at h
 ·simp[hop]at h

theorem aZo(hH:HR gl m H w)(hρ:∀x,VR m (ev (cO x)) (ρ x)){E:Env}{k:Nat}{K:AV->HV->Prop}{o:Oper}{t u:TypeId}{x y:Operand}(ho:o.op=.call { callee:=.builtin .copy,args := #[x,y],argTypes := #[t,u] })
  (h:hop E ev H k (cOp P o.op) K):zF P gl m H w ρ o K:=by
 rw[ho]at h
 simp only[cOp]at h
 have hx:=hρ x
 have hy:=hρ y
 have key:∀v w',(Builtin.copy_ #[t,u] o.type #[ρ x,ρ y]).run P w=.ok v w'->(execOp ρ o).run P w=.ok (.value v) w':=by
  intro v w' hv
  simp[execOp,ho,resolve,invoke,builtin,hv]
 split at h
 ·rename_i e hu
  have hu':=eB (w:=w) hu (by simp)
  split at h
  ·rename_i hk
   simp only[hop]at h
   split at h
   ·cases h
   ·rename_i b m' vs hs
    obtain⟨h1,h2⟩:=nN h
    simp only[bW3]at h1
    obtain⟨news,n1,n2,n3,n4⟩:=src_ok (P:=P) hH hy hs h1.1
    split at h2
    ·rename_i he
     rw[he]at hx
     simp only[VR]at hx
     refine⟨_,_,.int .i64 0,w,m,h2,.inl (key _ _ ?_),by simp[VR],hH,Mv.refl _ _ _⟩
     have hf:=n4 0 (bYb _) w rfl
     simp only[cCe,bZ3]at hf
     simp[Builtin.copy_,hu',hx,n3 w,bN hk,hf,goInt]
    ·rename_i id tot off len sz he
     rw[he]at hx
     obtain⟨h3,h4⟩:=nN h2
     simp only[bW3,bZw,ne_eq,bS,bX5]at h3
     obtain⟨⟨⟨hc,rfl⟩,hle⟩,hro⟩:=h3
     obtain⟨I,o2,cap,hI,hIt,hv,hcap,hpos⟩:=hH.sl hx hc
     have hmin:min m' len*szT P e<=len*szT P e:=bZf _ (Nat.min_le_right _ _)
     have hmin2:min m' len*szT P e<=m'*szT P e:=bZf _ (Nat.min_le_left _ _)
     have honeT:eH (vs.take (min m' len*szT P e))=true:=by
      have:∀ (l:HB) (n:Nat),eH l=true->eH (l.take n)=true:=by
       intro l
       induction l with
       | nil=>intro n h;simpa using h
       | cons v l ih=>intro n h;simp only[eH,bW3]at h;cases n with
        | zero=>rfl
        | succ n=>simp only[bY7,eH,bW3];exact⟨h.1,ih n h.2⟩
      exact this _ _ h1.2
     obtain⟨w',m2,q1,q2,q3⟩:=bC3 (P:=P) (off:=off) hH hc hI hro (n1.take (min m' len*szT P e)) honeT (by simp;omega)
     have hf:=n4 (min m' len) (Nat.min_le_left _ _) w rfl
     refine⟨_,_,.int .i64 ((min m' len:Nat):Int),w',m2,h4,.inl (key _ _ ?_),by simp[VR],q2,q3⟩
     rcases hpos with ⟨rfl,hpos⟩ | ⟨rfl,rfl⟩
     ·simp[Builtin.copy_,hu',hv,n3 w,bN hk,hf,goInt,q1]
     ·simp only[Nat.min_zero,cCe,bZ3]at q1 hf ⊢
      simp only[storeCells,cBh,Result.ok.injEq]at q1
      obtain⟨_,rfl⟩:=q1
      simp[Builtin.copy_,hu',hv,n3 w,bN hk,hf,goInt,storeCells]
    ·cases h2
  ·simp[hop]at h
 ·simp[hop]at h

theorem aG9(hH:HR gl m H w)(hρ:∀x,VR m (ev (cO x)) (ρ x)){E:Env}{k:Nat}{K:AV->HV->Prop}{o:Oper}{t u e:TypeId}{x y:Operand}(ho:o.op=.call { callee:=.builtin .append,args := #[x,y],argTypes := #[t,u] })
  (ht:P.underlying t=some (.slice e)) (hk:bV P e=true) (hz:(jI P e).length=szT P e) (zs:Option HB)
  (hu:(zs=none∧((∃e',P.underlying u=some (.slice e'))∨P.underlying u=some .string))∨(zs=some (jI P e)∧∃k,P.underlying u=some (.int k)))
  (h:hop E ev H k (.app (szT P e) (P.bytesOf e) zs (cO x) (cO y)) K):zF P gl m H w ρ o K:=by
 have hx:=hρ x
 have hy:=hρ y
 have key:∀v w',(Builtin.append_ #[t,u] o.type #[ρ x,ρ y]).run P w=.ok v w'->(execOp ρ o).run P w=.ok (.value v) w':=by
  intro v w' hv
  simp[execOp,ho,resolve,invoke,builtin,hv]
 obtain⟨⟨i,hi⟩,_⟩:=fC hk
 have his:i.size=szT P e:=by simp[szT,Program.cellsOf,hi]
 have hib:i.bytes=P.bytesOf e:=by simp[Program.bytesOf,hi]
 simp only[hop]at h
 split at h
 ·cases h
 rename_i b n vs hs
 obtain⟨h1,h2⟩:=nN h
 simp only[bW3,aD,bX5]at h1
 obtain⟨⟨⟨hb,hone⟩,hsz⟩,hby⟩:=h1
 obtain⟨i',z,hi',hzz,hzR,hzr⟩:=aA0 (P:=P) (m:=m) (w:=w) (t:=e) (by omega)
 rw[hi]at hi'
 cases hi'
 have hzs:z.cells.size=szT P e:=by rw[←hz];simpa using hzR.len.symm
 obtain⟨news,n1,n2,A⟩:∃news:List Value,VRL m vs news∧news.length=n*szT P e∧Apps P w t u o.type e i z (ρ y) n news:=by
  rcases hu with ⟨rfl,hu⟩ | ⟨rfl,ku,hu⟩
  ·obtain⟨news,n1,n2,n3,n4⟩:=src_ok (P:=P) hH hy hs hb
   have hall:news.take (n*szT P e)=news:=bW4 (by omega)
   refine⟨news,n1,n2,bI2 ht hu hi hzz n3 (λw1 hw1 => ?_) (λh=>bXo (by rw[n2,h,cCe]))⟩
   have:=n4 n (bXe _) w1 hw1
   rw[hall]at this
   rw[his]
   exact this
  ·simp only[bWe]at hs
   split at hs
   ·rename_i kx l he
    simp only[bW5,bX1]at hs
    obtain⟨rfl,rfl,rfl⟩:=hs
    simp only[bW3,bW6]at hb
    rw[he]at hy
    simp only[VR]at hy
    rw[hy]
    refine⟨_,kD hzR _, ?_,aP1 ht hu hi hzz (by rw[hzs,his]) hb.1 hb.2 (by rw[hib];exact hby)⟩
    simp[hzs]
   ·cases hs
 have hnl:=n1.len
 split at h2
 ·cases h2
 ·-- nothing is appended
  obtain⟨h3,h4⟩:=nN h2
  rw[bS]at h3
  subst h3
  have hne:news=[]:=bXo (by rw[n2,cCe])
  split at h4
  ·rename_i he
   rw[he]at hx
   have hv:=hx
   simp only[VR]at hv
   refine⟨_,_,ρ x,w,m,h4,.inl (key _ _ ?_),hx,hH,Mv.refl _ _ _⟩
   rw[hv]
   exact A.nil rfl
  ·rename_i id tot off len sz he
   rw[he]at hx
   obtain⟨h5,h6⟩:=nN h4
   simp only[bW3]at h5
   obtain⟨I,o2,cap,hI,hIt,hv,hcap,hpos⟩:=hH.sl hx h5.1
   refine⟨_,_,ρ x,w,m,h6,.inl (key _ _ ?_),hx,hH,Mv.refl _ _ _⟩
   rw[hv]
   have:=A.room ⟨I.b,o2,none⟩ len cap w (by rw[hne];simp[storeCells]) (by omega)
   simpa using this
  ·cases h4
 ·obtain⟨hn0,h4⟩:=nN h2
  rw[aD]at hn0
  split at h4
  ·-- onto nil
   rename_i he
   rw[he]at hx
   simp only[VR]at hx
   obtain⟨h5,h6⟩:=nN h4
   simp only[bW3,bX5]at h5
   have hrun:=A.grow none 0 0 [] (by simp[Builtin.firstCells]) (by omega) (by omega) (by rw[hib];simpa using h5.2)
   simp only[bY6]at hrun
   have hN:=(aFu (m:=m) (olds:=[]) (xs:=[]) (by simp) n1 w e (Builtin.zeroCells z.cells (grownCap w n 0 e-n)).toList 0).1
   have hge:=grownCap_ge w n 0 e
   simp only[bX2]at hN
   obtain⟨q2,q3⟩:=hH.new hN
   refine⟨_,_,_,_,_,h6,.inl (key _ _ (by rw[hx];exact hrun)), ?_,by simpa using q2,by simpa using q3⟩
   simp only[VR]
   refine⟨rfl,_,M.set_same _ _ _,bXe _,λ_=>⟨0,_,rfl,hge,.inl ⟨rfl, ?_⟩,λ_ _=>cCf w n 0 e (by simp only[maxLen];omega)⟩⟩
   have hzc:(Builtin.zeroCells z.cells (grownCap w n 0 e-n)).toList.length=(grownCap w n 0 e-n)*szT P e:=by rw[bZx,size_zeroCells,hzs]
   rw[bZx]at hzc
   show 0+grownCap w n 0 e*szT P e<=_
   simp only[bXm,bY6,bZx,hzc,n2]
   have e1:n*szT P e+(grownCap w n 0 e-n)*szT P e=grownCap w n 0 e*szT P e:=by rw[←bZ6];congr 1;omega
   omega
  ·rename_i id tot off len sz he
   rw[he]at hx
   obtain⟨h5,h6⟩:=nN h4
   simp only[bW3,bX5,bS]at h5
   obtain⟨⟨⟨⟨hc,rfl⟩,htot⟩,hle1⟩,hle2⟩:=h5
   obtain⟨I,o2,cap,hI,hIt,hv,hcap,hpos,hcb⟩:=hH.slc hx hc
   obtain⟨b2,hb2,hbl⟩:=qZ hc
   have hB:=hH.blk id I b2 hI hb2
   obtain⟨cu,ety,lo,hi2,q1,q2,q3,q4,q5,q6⟩:=hB.row (aC3 hc hb2)
   obtain⟨us,v1,v2,v3⟩:=hH.cells (off:=off) (n:=len*szT P e) hc hI (by omega)
   have hold:∀w1:World,w1.heap=w.heap->(Builtin.firstCells i.size len (.slice (some ⟨I.b,o2,none⟩) len cap)).run P w1=.ok us.toArray w1:=by
    intro w1 hw1
    simp only[Builtin.firstCells,his]
    rcases hpos with ⟨rfl,_⟩ | ⟨rfl,_⟩
    ·rw[←v1]
     exact jT us (by
      intro j v hj
      have e:w1.cell? ⟨I.b,I.d+off+j,none⟩=w.cell? ⟨I.b,I.d+off+j,none⟩:=by simp[World.cell?,hw1]
      rw[e];exact v2 j v hj)
    ·have hu0:us=[]:=bXo (by simpa using v1)
     subst hu0
     simp[loadCells,loadCellsFrom]
   have hge:=grownCap_ge w (len+n) cap e
   have hgm:grownCap w (len+n) cap e<=9223372036854775807:=cCf w (len+n) cap e (by simp only[maxLen];omega)
   -- a new row
   have newrow:cap<len+n->(Builtin.append_ #[t,u] o.type #[ρ x,ρ y]).run P w=.ok (.slice (some ⟨w.heap.size,0,none⟩) (len+n) (grownCap w (len+n) cap e)) (w.drew.alloc (.cells (us.toArray++news.toArray++Builtin.zeroCells z.cells (grownCap w (len+n) cap e-(len+n))) e)):=by
    intro hg
    rw[hv]
    exact A.grow _ len cap us (hold w.drew rfl) hg hle1 (by rw[hib];exact hle2)
   have hN:=(aFu (m:=m) v3 n1 w e (Builtin.zeroCells z.cells (grownCap w (len+n) cap e-(len+n))).toList 0).1
   have hzc:(Builtin.zeroCells z.cells (grownCap w (len+n) cap e-(len+n))).toList.length=(grownCap w (len+n) cap e-(len+n))*szT P e:=by rw[bZx,size_zeroCells,hzs]
   have hlim:us.length+news.length+(Builtin.zeroCells z.cells (grownCap w (len+n) cap e-(len+n))).toList.length=grownCap w (len+n) cap e*szT P e:=by
    rw[hzc,v1,n2,←bZ6,←bZ6];congr 1;omega
   have hcl:(aR H id off (len*szT P e)).length=len*szT P e:=by rw[v3.len,v1]
   split at h6
   ·-- a block that may grow
    rename_i hkind
    obtain⟨h7,h8⟩:=nN h6
    rw[bS]at h7
    subst h7
    have hkb:b2.k=.grow:=by simpa[oJ,hb2]using hkind
    have hkn:b2.k≠.ro:=by rw[hkb];simp
    obtain⟨hd,hm⟩:=q5 hkn
    have hgrow:bFj H id vs=H.set id ⟨b2.k,b2.lf&&aP 0 vs,b2.cs++vs⟩:=by simp[bFj,hb2]
    have hlf:(b2.lf&&aP 0 vs)=true->aP 0 (b2.cs++vs)=true:=by
     intro h
     simp only[bW3]at h
     exact aAl (hB.lf h.1) h.2
    have hca:aR H id 0 (len*szT P e)=b2.cs:=by
     simp only[aR,hb2,bXl]
     exact bW4 (by omega)
    rw[hca]at v3
    have htl:tot=b2.cs.length:=hbl.symm
    have htn:tot<tot+vs.length:=by
     have:0<n*szT P e:=Nat.mul_pos hn0 hsz
     omega
    by_cases hroom:len+n<=cap
    ·rcases hpos with ⟨rfl,hpos⟩ | ⟨_,rfl⟩
     ·have hadd:((⟨I.b,I.d+0,none⟩:Addr).add (len*szT P e))=⟨I.b,tot,none⟩:=by rw[cAq,hd];first | (congr 1;done) | (congr 1;omega)
      have hcapm:(len+n)*szT P e<=cap*szT P e:=bZf _ hroom
      rw[bZ6]at hcapm
      have hst:=jJ P I.b tot ety lo hi2 news 0 cu w q1 hm (by omega) (aI5 hone n1)
      simp only[bYv]at hst
      have hrun:=A.room ⟨I.b,I.d+0,none⟩ len cap _ (by rw[his,hadd];exact hst) hroom
      have hrsz:((cu.toList.take tot++news++cu.toList.drop (tot+news.length)).toArray).size=cu.size:=by simp;omega
      have hup:=hH.upd (w':=w.setRow I.b (cu.toList.take tot++news++cu.toList.drop (tot+news.length)).toArray) (I':=⟨I.b,0,tot+vs.length,I.lim⟩) (b':=⟨b2.k,b2.lf&&aP 0 vs,b2.cs++vs⟩) hI hb2 (.inl hkn) (by simp only;omega) (λh=>by simp only at h;omega) (.inl rfl)
       (by simp[World.setRow]) (λk hk _=>setRow_other w I.b k _ hk) rfl rfl rfl (by
        have hext:=Ext.set_old (m:=m) (I':=⟨I.b,0,tot+vs.length,I.lim⟩) hI (by simp only;omega) (λh=>by simp only at h;omega)
        refine⟨by simp;omega,hlf,λ_=>⟨_,ety,lo,hi2,setRow_heap w I.b cu _ ety _ q1,by simp only;omega,by rw[hrsz];exact q3,λh=>(by rw[hkb]at h;cases h),λ_=>⟨rfl,by rw[hrsz];exact hm⟩, ?_⟩,λc hc=>absurd (jP hc).1 hkn⟩
        simp only[bXl]
        rw[bZd (by simp;omega),bW4 (by simp;omega)]
        rw[hd,bXl,hIt]at q6
        exact VRL.mono hext _ _ (q6.append n1))
      rw[hgrow]at h8
      refine⟨_,_,_,_,_,h8,.inl (key _ _ (by rw[hv];exact hrun)), ?_,hup.1,hup.2⟩
      simp only[VR]
      refine⟨rfl,_,M.set_same _ _ _,by simp,λ_=>⟨I.d+0,cap,rfl,hroom,.inl ⟨by rw[hd], ?_⟩,λh1 h2=>hcb h1 (by omega)⟩⟩
      simpa using hpos
     ·omega
    ·have hrun:=newrow (by omega)
     rw[hca]at hN
     obtain⟨cu',e',lo',hi',r1,r2,r3,r4,r5,r6,r7⟩:=hN.row
     have hup:=hH.upd (w':=w.drew.alloc (.cells (us.toArray++news.toArray++Builtin.zeroCells z.cells (grownCap w (len+n) cap e-(len+n))) e)) (I':=⟨w.heap.size,0,tot+vs.length,grownCap w (len+n) cap e*szT P e⟩) (b':=⟨b2.k,b2.lf&&aP 0 vs,b2.cs++vs⟩) hI hb2 (.inl hkn) (by simp only;omega) (λh=>by simp only at h;omega) (.inr (bXe _))
       (by simp) (λk _ hk=>bZ2 w.drew _ _ hk) rfl rfl rfl (by
        have hext:=Ext.set_old (m:=m) (I':=⟨w.heap.size,0,tot+vs.length,grownCap w (len+n) cap e*szT P e⟩) hI (by simp only;omega) (λh=>by simp only at h;omega)
        refine⟨by simp;omega,hlf,λ_=>⟨_,e,0,0,heap_alloc_new w.drew _, ?_, ?_,λh=>(by rw[hkb]at h;cases h),λ_=>⟨rfl,.inl rfl⟩, ?_⟩,λc hc=>absurd (jP hc).1 hkn⟩
        ·simp only[bY6];omega
        ·have e5:∀Z:Array Value,(us.toArray++news.toArray++Z).size=us.length+news.length+Z.size:=by intro Z;simp
         rw[e5]
         exact Nat.le_of_eq hlim.symm
        ·simp only[bXl]
         rw[show(us.toArray++news.toArray++Builtin.zeroCells z.cells (grownCap w (len+n) cap e-(len+n))).toList=(us++news)++(Builtin.zeroCells z.cells (grownCap w (len+n) cap e-(len+n))).toList by simp]
         rw[bZd (by simp;omega),bW4 (by simp;omega)]
         exact VRL.mono hext _ _ (v3.append n1))
     rw[hgrow]at h8
     refine⟨_,_,_,_,_,h8,.inl (key _ _ hrun), ?_,hup.1,hup.2⟩
     simp only[VR]
     exact⟨rfl,_,M.set_same _ _ _,by simp,λ_=>⟨0,_,rfl,hge,.inl ⟨rfl,by simp⟩,λ_ _=>hgm⟩⟩
   ·-- a block of known end
    rename_i hkind
    have hkb:b2.k=.exact:=by simpa[oJ,hb2]using hkind
    have hend:=q4 hkb
    have hg:cap<len+n:=by
     rcases hpos with ⟨rfl,hpos⟩ | ⟨_,rfl⟩
     ·have h1:cap*szT P e<=len*szT P e:=by omega
      have:=Nat.le_of_mul_le_mul_right h1 hsz
      omega
     ·omega
    have hrun:=newrow hg
    rw[hlim]at hN
    rw[bW2,hcl]at hN
    obtain⟨q7,q8⟩:=hH.new hN
    refine⟨_,_,_,_,_,h6,.inl (key _ _ hrun), ?_,by simpa using q7,by simpa using q8⟩
    simp only[VR]
    exact⟨rfl,_,M.set_same _ _ _,bXe _,λ_=>⟨0,_,rfl,hge,.inl ⟨rfl,by simp⟩,λ_ _=>hgm⟩⟩
   ·cases h6
  ·cases h4

theorem bAr{d:TypeDesc}{x y:Value}(hk:MapKept.IsKey d x)(h:Instr.sameNow d x y=some true):y=x:=by
 cases d<;>cases x<;>cases y<;>simp_all [MapKept.IsKey,Instr.sameNow,MapKept.bytes_beq]

theorem aKi{m:M}{d:TypeDesc}{st:Option IntKind}(hd:(∃q,st=some q∧d=.int q)∨(st=none∧d=.string)){q v:AV}{key val:Value}(hq:VR m q key)(hik:MapKept.IsKey d key)(hv:VR m v val) :
  ∀ {c:HB} {es:List MapEntry} (_:MpR m c es) (i:Nat) {c':HB} (_:aN5 st q v c=some c'),
   (Instr.findNow d key es i=some none∧∀b:Nat,MpR m c' (es++[{ key:=key,val:=val,born:=b }])) ∨
   ∃j x,Instr.findNow d key es i=some (some (i+j,x.val))∧es[j]? = some x∧x.key=key∧MpR m c' (es.modify j λe => { e with key:=key,val:=val })
 | [],es,h,i,c',hf=>by
  simp only[MpR]at h
  subst h
  simp only[aN5,bW5]at hf
  subst hf
  exact .inl ⟨rfl,λb=>by simp only[MpR,bX2];exact⟨_,_,rfl,hq,hv,rfl⟩⟩
 | [_],_,h,_,_,_=>by simp only[MpR]at h
 | k::u::l,es,h,i,c',hf=>by
  simp only[MpR]at h
  obtain⟨x,es',rfl,h1,h2,h3⟩:=h
  simp only[aN5]at hf
  split at hf
  ·rename_i hs
   cases hf
   have hxk:=bAr hik (jZ hd hq h1 hs)
   refine .inr ⟨0,x,by simp[Instr.findNow,jZ hd hq h1 hs],rfl,hxk, ?_⟩
   simp only[List.modify_zero_cons,MpR]
   exact⟨_,_,rfl,by rw[←hxk];exact h1,hv,h3⟩
  ·rename_i hs
   split at hf
   ·rename_i l' hl
    cases hf
    rcases aKi hd hq hik hv h3 (i+1) hl with ⟨e1,e2⟩ | ⟨j,y,e1,e2,e3,e4⟩
    ·refine .inl ⟨by simp[Instr.findNow,jZ hd hq h1 hs,e1],λb => ?_⟩
     simp only[bX0,MpR]
     exact⟨_,_,rfl,h1,h2,e2 b⟩
    ·refine .inr ⟨j+1,y,by simp[Instr.findNow,jZ hd hq h1 hs,e1];omega,by simpa using e2,e3, ?_⟩
     simp only[List.modify_succ_cons,MpR]
     exact⟨_,_,rfl,h1,h2,e4⟩
   ·cases hf
  ·cases hf

theorem aYp(hH:HR gl m H w){E:Env}{k:Nat}{ev:AO->AV}{K:AV->HV->Prop}{o:Oper}{t:TypeId}(ho:o.op=.makeMap t none)
  (h:hop E ev H k (cOp P o.op) K):zF P gl m H w ρ o K:=by
 rw[ho]at h
 simp only[cOp,hop]at h
 have hN:NewO m ⟨.ro,false,[.tup []]⟩ ⟨w.heap.size,0,1,1⟩ w (w.alloc (.map #[] 0)):=by
  refine⟨rfl,rfl,rfl,rfl,⟨_,rfl⟩,λm' _=>⟨rfl,λh=>(by cases h),λh=>by simp[isMap,aOw]at h,λc hc => ?_⟩⟩
  simp only[aOw,bW5]at hc
  subst hc
  exact⟨#[],0,heap_alloc_new w _,rfl⟩
 obtain⟨h1,h2⟩:=hH.newO hN
 refine⟨_,_,.map (some w.heap.size),_,_,h,.inl ?_, ?_,h1,h2⟩
 ·simp only[execOp,ho]
  exact dL (run_makeMap t w)
 ·simp only[VR]
  exact⟨rfl,_,M.set_same _ _ _,bXe _,λ_=>rfl⟩

theorem aEf(hH:HR gl m H w)(hρ:∀x,VR m (ev (cO x)) (ρ x)){E:Env}{k:Nat}{K:AV->HV->Prop}{o:Oper}{t:TypeId}{x i v:Operand}(ho:o.op=.mapUpdate t x i v∨o.op=.insert t x i v)
  (h:hop E ev H k (cOp P o.op) K):zF P gl m H w ρ o K:=by
 replace h:hop E ev H k (cOp P (.mapUpdate t x i v)) K:=by rcases ho with ho | ho<;>(rw[ho]at h;exact h)
 simp only[cOp]at h
 split at h
 ·rename_i kt et hu
  have ht:=cZ hu (by simp)
  have key:∀st d,und P kt=d->((∃q,st=some q∧d=.int q)∨(st=none∧d=.string))->hop E ev H k (.mpput st (cO x) (cO i) (cO v)) K->zF P gl m H w ρ o K:=by
   intro st d hkd hd h
   have hkt:P.underlying kt=some d:=cZ hkd (by rcases hd with ⟨q,_,rfl⟩ | ⟨_,rfl⟩<;>simp)
   have hx:=hρ x
   simp only[hop]at h
   split at h
   ·rename_i id he
    rw[he]at hx
    split at h
    ·rename_i b hb
     split at h
     ·rename_i c hc
      obtain⟨h1,h2⟩:=nN h
      simp only[bW3]at h1
      obtain⟨p1,p2,p3,p4⟩:=h1
      obtain⟨c',hc'⟩:=cAk.1 p4
      rw[hc',cBd]at h2
      simp only[VR]at hx
      obtain⟨_,I,hI,_,hval⟩:=hx
      have hB:=hH.blk id I b hI hb
      have hcs:=(jP hc).2
      have hI1:I.tot=1:=by rw[hB.tot,hcs];rfl
      have hval:=hval hI1.symm
      obtain⟨es,cl,hrow,hM⟩:=hB.mrow c hc
      have hm:isMap b=true:=by simp[isMap,hc]
      have hlf:=bEc hc
      rw[hlf]at h2
      have hik:=aCd hd (hρ i) p1
      have fin:∀es' cl',MpR m c' es'.toList->(Instr.mapUpdate t (ρ x) (ρ i) (ρ v)).run P w=.ok () { w with heap:=w.heap.setIfInBounds I.b (.map es' cl') }->zF P gl m H w ρ o K:=by
       intro es' cl' hM' hrun
       have hlt:=hH.lt hI
       have hup:=hH.upd (w' := { w with heap:=w.heap.setIfInBounds I.b (.map es' cl') }) (I':=I) (b':=⟨.ro,false,[.tup c']⟩) hI hb (.inr hm) (bXe _) (λ_=>rfl) (.inl rfl) (by simp)
        (λj hj _=>by simp[cBz,cCn hj]) rfl rfl rfl (by
         refine⟨hI1,λhl=>(by cases hl),λhn=>(by simp[isMap,aOw]at hn),λc2 hc2 => ?_⟩
         ·simp only[aOw,bW5]at hc2
          subst hc2
          exact⟨es',cl',by simp[cBz,hlt],hM'.mono (Ext.set_old hI (bXe _) (λ_=>rfl))⟩)
       refine⟨_,_,undef,_,_,h2,.inr ⟨?_,rfl⟩,by simp[VR],hup.1,hup.2⟩
       rcases ho with ho | ho <;>
       ·simp only[execOp,ho,bY1,hrun,bYl]
        rfl
      rcases aKi hd (hρ i) hik (hρ v) hM 0 hc' with ⟨e1,e2⟩ | ⟨j,y,e1,e2,e3,e4⟩
      ·refine fin (es.push { key:=ρ i,val:=ρ v,born:=cl }) (cl+1) (by simpa using e2 cl) ?_
       simp[Instr.mapUpdate,bXj ht,hval,cAx hrow,cAg hkt hik,cAr hkt e1,MapKept.run_setObj_map _ hrow,Result.andThen]
      ·refine fin (es.modify j λe => { e with key:=ρ i,val:=ρ v }) cl (by simpa using e4) ?_
       have e5:es[j]? = some y:=by simpa using e2
       have e6:(Instr.keyThatStays (ρ i) (ρ i)).run P w=.ok (ρ i) w:=MapKept.run_keyThatStays hik
       simp[Instr.mapUpdate,bXj ht,hval,cAx hrow,cAg hkt hik,cAr hkt e1,e5,e3,e6,MapKept.run_setObj_map _ hrow,Result.andThen]
     ·cases h
    ·cases h
   ·cases h
  split at h
  ·rename_i q hk
   exact key (some q) _ hk (.inl ⟨q,rfl,rfl⟩) h
  ·rename_i hk
   exact key none _ hk (.inr ⟨rfl,rfl⟩) h
  ·simp[hop]at h
 ·simp[hop]at h

theorem bNx(hH:HR gl m H w)(hρ:∀x,VR m (ev (cO x)) (ρ x)){E:Env}{k:Nat}{K:AV->HV->Prop}(o:Oper)(h:hop E ev H k (cOp P o.op) K):zF P gl m H w ρ o K:=by
 cases ho:o.op with
 | store t a x=>exact aRw hH hρ ho h
 | makeMap t y=>
  cases y with
  | none=>exact aYp hH ho h
  | some y=>rw[ho]at h;simp[cOp,hop]at h
 | lookup t x i c=>
  rw[ho]at h
  cases c<;>simp only[cOp]at h
  ·repeat' (first | (simp[hop]at h;done) | split at h)
  ·simp[hop]at h
 | mapUpdate t x i v=>exact aEf hH hρ (.inl ho) h
 | insert t x i v=>exact aEf hH hρ (.inr ho) h
 | convert s d x=>exact bAh hH hρ ho h
 | slice t x lo hi mx=>
  rw[ho]at h
  cases mx<;>simp only[cOp]at h
  ·repeat' (first | (simp[hop]at h;done) | split at h)
  ·simp[hop]at h
 | call c=>
  obtain⟨callee,args,ts⟩:=c
  cases callee with
  | value f=>rw[ho]at h;simp[cOp,hop]at h
  | invoke f n=>rw[ho]at h;simp[cOp,hop]at h
  | builtin b=>
   have h0:=h
   rw[ho]at h
   simp only[cOp]at h
   split at h
   ·split at h<;>simp[hop]at h
   ·rename_i x y t u e1 e2
    obtain rfl:args = #[x,y]:=cA5 (by simpa using e1)
    obtain rfl:ts = #[t,u]:=cA5 (by simpa using e2)
    split at h
    ·rename_i e e' hu1 hu2
     split at h
     ·rename_i hk
      simp only[bW3,bYr]at hk
      exact aG9 hH hρ ho (cZ hu1 (by simp)) hk.1 hk.2 none (.inl ⟨rfl,.inl ⟨e',cZ hu2 (by simp)⟩⟩) h
     ·simp[hop]at h
    ·rename_i e hu1 hu2
     split at h
     ·rename_i hk
      simp only[bW3,bYr]at hk
      exact aG9 hH hρ ho (cZ hu1 (by simp)) hk.1.1 hk.1.2 none (.inl ⟨rfl,.inr (cZ hu2 (by simp))⟩) h
     ·simp[hop]at h
    ·rename_i e ku hu1 hu2
     split at h
     ·rename_i hk
      simp only[bW3,bYr]at hk
      exact aG9 hH hρ ho (cZ hu1 (by simp)) hk.1 hk.2 _ (.inr ⟨rfl,ku,cZ hu2 (by simp)⟩) h
     ·simp[hop]at h
    ·simp[hop]at h
   ·rename_i x y t u e1 e2
    obtain rfl:args = #[x,y]:=cA5 (by simpa using e1)
    obtain rfl:ts = #[t,u]:=cA5 (by simpa using e2)
    exact aZo hH hρ ho h0
   ·simp[hop]at h
   ·simp[hop]at h
   ·simp[hop]at h
 | _=>
  rw[ho]at h
  simp only[cOp]at h
  repeat' (first | (simp[hop]at h;done) | split at h)

theorem bJz{op:Op}{b:BinOp}{x y:AO}(h:cOp P op=.bin b .slc x y):∃t x' y' ty,op=.binOp b t x' y' ty∧shT P 8 t=.slc∧x=cO x'∧y=cO y':=by
 cases op with
 | binOp b' t x' y' ty=>
  simp only[cOp]at h
  split at h
  ·split at h<;>cases h
  ·simp only[AOp.bin.injEq]at h
   obtain⟨rfl,h1,rfl,rfl⟩:=h
   exact⟨t,x',y',ty,rfl,h1,rfl,rfl⟩
 | slice t x lo hi mx=>exfalso;cases mx<;>simp only[cOp]at h<;>(repeat' split at h)<;>simp at h
 | makeMap t y=>exfalso;cases y<;>simp[cOp]at h
 | lookup t x i c=>exfalso;cases c<;>simp only[cOp]at h<;>(repeat' split at h)<;>simp at h
 | call c=>
  exfalso
  obtain⟨callee,args,ts⟩:=c
  cases callee with
  | value f=>simp[cOp]at h
  | invoke f n=>simp[cOp]at h
  | builtin b=>simp only[cOp]at h;(repeat' split at h)<;>simp at h
 | _=>exfalso;simp only[cOp]at h;(repeat' split at h)<;>simp at h

theorem bU9{E:Env}{ev:AO->AV}{H:HV}{k:Nat}{op:AOp}{K:AV->HV->Prop}(h:hop E ev H k op K):bIs E ev H k op K:=by
 unfold bIs
 split
 ·exact h.elim
 ·exact h

theorem bHt(hH:HR gl m H w)(hρ:∀x,VR m (ev (cO x)) (ρ x)){E:Env}{k:Nat}{K:AV->HV->Prop}(o:Oper)(h:bIs E ev H k (cOp P o.op) K):zF P gl m H w ρ o K:=by
 unfold bIs at h
 split at h
 ·rename_i x y hop
  obtain⟨t,x',y',ty,ho,hs,rfl,rfl⟩:=bJz hop
  have hx:=hρ x'
  have hy:=hρ y'
  have hsl:=aRh P 8 t
  rw[hs]at hsl
  simp only[aK1]at hsl
  obtain⟨e,hsl⟩:=hsl
  split at h
  ·rename_i t2 l n sz ex ey
   rw[ex]at hx
   rw[ey]at hy
   simp only[VR]at hx hy
   obtain⟨_,_,oa,cap,hv,_,hcase⟩:=hx
   have key:∀b:Bool,(binOp .eql t (ρ x') (ρ y')).run P w=.ok (.bool b) w->(eqGuard .eql t x' y' (ρ x') (ρ y')).run P w=.ok () w->(execOp ρ o).run P w=.ok (.value (.bool b)) w:=by
    intro b h1 h2
    simp only[execOp,ho]
    exact dL (by simp[h1,h2])
   have hgd:(eqGuard .eql t x' y' (ρ x') (ρ y')).run P w=.ok () w:=pI (by rw[hv];simp) (by rw[hv];intro c e hc;cases hc)
   cases oa with
   | none=>
    have hn:n=0∧cap=0:=by
     rcases hcase with ⟨a,cs,h1,_⟩ | ⟨h1,_,h2⟩
     ·cases h1
     ·exact⟨h1,h2 rfl⟩
    obtain⟨rfl,rfl⟩:=hn
    refine⟨.bool true,H,.bool true,w,m,h.2,.inl (key _ ?_ hgd),by simp[VR],hH,Mv.refl _ _ _⟩
    have he:∀d,(Op.equalIn (d+1) t (ρ x') (ρ y')).run P w=.ok true w:=by
     intro d
     rw[hv,hy]
     simp[Op.equalIn,bXj hsl]
    have he:=he 9999
    rw[hv,hy]at he ⊢
    simp[binOp,Op.equal,Op.maxDepth,he]
   | some a=>
    refine⟨.bool false,H,.bool false,w,m,h.1,.inl (key _ ?_ hgd),by simp[VR],hH,Mv.refl _ _ _⟩
    have he:∀d,(Op.equalIn (d+1) t (ρ x') (ρ y')).run P w=.ok false w:=by
     intro d
     rw[hv,hy]
     simp[Op.equalIn,bXj hsl]
    have he:=he 9999
    rw[hv,hy]at he ⊢
    simp[binOp,Op.equal,Op.maxDepth,he]
  ·exact h.elim
 ·exact bNx hH hρ o h
end
end Go.Proofs.YtnhechnaemmdiaaGreatDoor

namespace Go.Proofs.YtnhechnaemmdiaaGreatDoor
open Go.RowKit

theorem T.get_e(k:Nat):T.get .e k=.undef:=by cases k<;>rfl

theorem T.get_put:∀ (d:Nat) (t:T) (k:Nat) (v:AV) (j:Nat),k+1<2^d->(T.put d t k v).get j=if j=k then v else t.get j
 | 0,t,k,v,j,h=>by simp at h
 | d+1,.e,0,v,j,_=>by
  simp only[T.put]
  cases j with
  | zero=>simp[T.get]
  | succ j=>simp[T.get,T.get_e]
 | d+1,.e,k+1,v,j,h=>by
  have hk:k/2+1<2^d:=by rw[Nat.pow_succ]at h;omega
  have ih:=λj=>T.get_put d .e (k/2) v j hk
  simp only[T.put]
  by_cases hp:k%2=0
  ·rw[if_pos hp]
   cases j with
   | zero=>simp[T.get]
   | succ j=>
    simp only[T.get]
    by_cases hj:j%2=0
    ·rw[if_pos hj,ih]
     by_cases e:j=k
     ·simp[e]
     ·rw[if_neg (by omega),if_neg (by omega),T.get_e]
    ·rw[if_neg hj,if_neg (by omega)];try simp only[T.get_e]
  ·rw[if_neg hp]
   cases j with
   | zero=>simp[T.get]
   | succ j=>
    simp only[T.get]
    by_cases hj:j%2=0
    ·rw[if_pos hj,if_neg (by omega)];try simp only[T.get_e]
    ·rw[if_neg hj,ih]
     by_cases e:j=k
     ·simp[e]
     ·rw[if_neg (by omega),if_neg (by omega),T.get_e]
 | d+1,.n l x r,0,v,j,_=>by
  simp only[T.put]
  cases j with
  | zero=>simp[T.get]
  | succ j=>simp[T.get]
 | d+1,.n l x r,k+1,v,j,h=>by
  have hk:k/2+1<2^d:=by rw[Nat.pow_succ]at h;omega
  have ihl:=λj=>T.get_put d l (k/2) v j hk
  have ihr:=λj=>T.get_put d r (k/2) v j hk
  simp only[T.put]
  by_cases hp:k%2=0
  ·rw[if_pos hp]
   cases j with
   | zero=>simp[T.get]
   | succ j=>
    simp only[T.get]
    by_cases hj:j%2=0
    ·rw[if_pos hj,ihl,if_pos hj]
     by_cases e:j=k
     ·simp[e]
     ·rw[if_neg (by omega),if_neg (by omega)]
    ·rw[if_neg hj,if_neg hj,if_neg (by omega)]
  ·rw[if_neg hp]
   cases j with
   | zero=>simp[T.get]
   | succ j=>
    simp only[T.get]
    by_cases hj:j%2=0
    ·rw[if_pos hj,if_pos hj,if_neg (by omega)]
    ·rw[if_neg hj,ihr,if_neg hj]
     by_cases e:j=k
     ·simp[e]
     ·rw[if_neg (by omega),if_neg (by omega)]

theorem T.get_mk'(l:T)(v:AV)(r:T)(j:Nat):(T.mk' l v r).get j=(T.n l v r).get j:=by
 unfold T.mk'
 split
 ·rw[T.get_e]
  cases j with
  | zero=>rfl
  | succ j=>simp[T.get,T.get_e]
 ·rfl

theorem T.get_keep(mask:Nat):∀ (t:T) (a b j:Nat),(t.keep mask a b).get j=t.get j∨(t.keep mask a b).get j=.undef
 | .e,a,b,j=>.inl rfl
 | .n l v r,a,b,j=>by
  simp only[T.keep,T.get_mk']
  cases j with
  | zero=>
   simp only[T.get]
   cases mask.testBit b<;>simp
  | succ j=>
   simp only[T.get]
   split
   ·exact T.get_keep mask l _ _ _
   ·exact T.get_keep mask r _ _ _

theorem T.old_get{b:Nat}:∀ (t:T) (j:Nat),t.old b=true→YtnhechnaemmdiaaGreatDoor.old b (t.get j)=true
 | .e,j,_=>by rw[T.get_e];rfl
 | .n l v r,j,h=>by
  simp only[T.old,bW3]at h
  cases j with
  | zero=>exact h.1.1
  | succ j=>
   simp only[T.get]
   split
   ·exact T.old_get l _ h.1.2
   ·exact T.old_get r _ h.2

theorem aAq:∀ (l:HB) (i:Nat) (t:T) (j:Nat),i+l.length<=4000->(aAf i l t).get j=if i<=j∧j<i+l.length then l.getD (j-i) .undef else t.get j
 | [],i,t,j,_=>by
  simp only[aAf,bXm,bYv]
  rw[if_neg (by omega)]
 | v::l,i,t,j,h=>by
  simp only[aAf]
  rw[aAq l (i+1) _ j (by simp at h;omega),T.get_put 12 t i v j (by simp at h;omega)]
  simp only[bXc]
  by_cases h1:i+1<=j∧j<i+1+l.length
  ·rw[if_pos h1,if_pos (by omega)]
   have:j-i=(j-(i+1))+1:=by omega
   rw[this,bZc]
  ·rw[if_neg h1]
   by_cases h2:j=i
   ·rw[if_pos h2,if_pos (by omega)]
    simp[h2]
   ·rw[if_neg h2,if_neg (by omega)]

abbrev Wd(r:Option Nat):Fence := { Fence.wide with round:=r }

def aP6(D:Nat):Deferred := { target:=.collected D,args := #[] }

structure Fb where
 b:Nat
 ds:List Deferred

structure SR (gl:Nat->Option HB) (nt:Nat) (B:Fb) (m:M) (s:S) (a:Act) (w:World):Prop where
 tm:∀k,VR m (s.tm.get k) (a.tmps.getD k undef)
 nt:nt<=a.tmps.size
 df:∃Ds:List Nat,a.defers=Ds.map aP6++B.ds∧Ds.Nodup∧∀D∈Ds,B.b<=D∧w.heap[D]? = some (.deferred (some []))
 hp:HR gl m s.hp w

def ExR(m:M):Ex->Exit->Prop
 | .nrm,.normal=>True
 | .exit i,.exit j=>i=j
 | .ret,.ret=>True
 | .pan v,.panic ch=>∃cv,ch=[{ v:=cv,recovered:=false }]∧VR m v cv
 | _,_=>False

def aIk(m:M):Out->Ending->Prop
 | .ret v,.returned cv=>VR m v cv
 | .pan v,.panicked ch=>∃cv,ch=[{ v:=cv,recovered:=false }]∧VR m v cv
 | _,_=>False

def Enters (P : Program) (f : FuncId) : Prop := ∃ fn, P.funcs[f]? = some fn ∧ fn.body.isNone = false ∧ (fn.name == "runtime.NumGoroutine") = false

def bNf(P:Program)(gl:Nat->Option HB)(nt:Nat)(code:Code)(g:S->(Ex->S->Prop)->Prop):Prop:=
 ∀B r s Q m a w,SR gl nt B m s a w->B.b<=w.heap.size->g s Q->code.wpIn (Wd r) 0 P (λe a' w'=>∃ae s' m',Q ae s'∧ExR m' ae e∧SR gl nt B m' s' a' w'∧Mv m s.hp w m' s'.hp w') a w

def aI(P:Program)(gl:Nat->Option HB)(f:FuncId)(g:HB->HV->(Out->HV->Prop)->Prop):Prop:=
 Enters P f∧∀args H Q,g args H Q->∀m w (vs:Array Value),VRL m args vs.toList->HR gl m H w->Calls P f vs w λe w'=>∃o H' m',Q o H'∧aIk m' o e∧HR gl m' H' w'∧Mv m H w m' H' w'

inductive Comp (P:Program) (gl:Nat->Option HB) (nt:Nat):Code->AC->Prop
 | skip:Comp P gl nt .skip .skip
 | label (l:Nat):Comp P gl nt (.label l) .skip
 | region (id:Nat) (ops:Array Oper):Comp P gl nt (.region id ops false) (.region (ops.toList.map (mO P nt ops)))
 | drawn (id:Nat) (ops:Array Oper) (l:List AOper) (h:drawnOf P nt ops=.drawn l):Comp P gl nt (.region id ops true) (.drawn l)
 | seq {a b:Code} {a' b':AC} (h1:Comp P gl nt a a') (h2:Comp P gl nt b b'):Comp P gl nt (.seq a b) (.seq a' b')
 | cond (c:Operand) {a b:Code} {a' b':AC} (h1:Comp P gl nt a a') (h2:Comp P gl nt b b'):Comp P gl nt (.cond c a b) (.cond (cO c) a' b')
 | block (id:Nat) {b:Code} {b':AC} (h:Comp P gl nt b b'):Comp P gl nt (.block id b) (.block id b')
 | loop (id lv:Nat) {b:Code} {b':AC} (h:Comp P gl nt b b'):Comp P gl nt (.loop b) (.loop id lv b')
 | rfn (f:Operand) (ps:Array Tmp) {a b:Code} {a' b':AC} (h1:Comp P gl nt a a') (h2:Comp P gl nt b b') (hps:∀p∈ps.toList,p<nt):Comp P gl nt (.rangeFunc f ps a b) (.rfn (cO f) ps.toList a' b')
 | exit (id:Nat):Comp P gl nt (.exit id) (.exit id)
 | scope {b:Code} {b':AC} (h:Comp P gl nt b b'):Comp P gl nt (.scope b) b'
 | ret:Comp P gl nt .ret .ret
 | bad (code:Code) (why:String):Comp P gl nt code (.bad why)
 | sum (code:Code) (g:S->(Ex->S->Prop)->Prop) (h:bNf P gl nt code g):Comp P gl nt code (.sum g)

structure EnvOk (P:Program) (E:Env):Prop where
 mixed:P.follows .mixedOrders=true
 fn:∀f g,E.fn f=some g->Enters P f∧∃fn body,P.funcs[f]? = some fn∧fn.body=some body∧Comp P E.gl fn.ntmps body g.body∧g.res=fn.results.toList.map (aXa P)∧(∀r∈fn.results.toList,aNr P r=true)∧fn.ntmps<=4000
 sm:∀f g,E.sm f=some g->aI P E.gl f g


def bTy:Lst->LoopState
 | .ready=>.ready
 | .busy=>.busy
 | .done _=>.done

def bSl:Lst->Option Code
 | .done .ret=>some .ret
 | .done (.exit i)=>some (.exit i)
 | _=>none

structure Ls where
 l:Nat
 u:Nat
 me:M
 ne:Nat
 tmps:Array Value
 fn:FuncId
 ps:Array Tmp
 asg:Code
 body:Code
 dD:Nat
 nt:Nat

def Ls.row(x:Ls)(st:Lst):Loop := { state:=bTy st,pending:=bSl st,fn:=x.fn,tmps:=x.tmps,params:=x.ps,assign:=x.asg,body:=x.body,defers:=x.dD }

structure Lp1 (P:Program) (gl:Nat->Option HB) (m:M) (hp:HV) (w:World) (x:Ls) (p:Lp):Prop where
 u:p.u=x.u
 lp:m.lp x.u=some x.l
 row:w.heap[x.l]? = some (.loop (x.row p.st))
 ext:Ext x.me m
 dom:∀id I,x.me.blk id=some I->id<x.ne
 le:x.ne<=hp.length
 tm:∀k,VR x.me (p.tm.get k) (x.tmps.getD k undef)
 nt:x.nt<=x.tmps.size∧x.nt<=4000
 ps:p.ps=x.ps.toList∧∀t∈p.ps,t<x.nt
 ca:Comp P gl x.nt x.asg p.asg
 cb:Comp P gl x.nt x.body p.body
 ok:∀e,p.st=.done e->e=.ret∨∃i,e=.exit i

def Lps(P:Program)(gl:Nat->Option HB)(m:M)(hp:HV)(w:World):List Ls->List Lp->Prop
 | [],[]=>True
 | x::X,p::l=>Lp1 P gl m hp w x p∧Lps P gl m hp w X l
 | _,_=>False

structure LpR (P:Program) (gl:Nat->Option HB) (X:List Ls) (g:Gh) (m:M) (hp:HV) (w:World):Prop where
 all:Lps P gl m hp w X g.lps
 key:∀u l,m.lp u=some l->u<g.n
 us:(X.map (·.u)).Nodup
 ls:(X.map (·.l)).Nodup

structure Mx (X:List Nat) (m:M) (H:HV) (w:World) (m':M) (H':HV) (w':World):Prop where
 ext:Ext m m'
 os:w'.os=w.os
 tape:w'.tape=w.tape
 output:w'.output=w.output
 size:w.heap.size<=w'.heap.size
 keep:∀k,k<w.heap.size->¬ jH m H k->k∉X->w'.heap[k]? = w.heap[k]?
 own:∀k,jH m' H' k->w.heap.size<=k∨jH m H k
 len:H.length<=H'.length
 nw:∀id,id<H.length->m.blk id=none->m'.blk id=none
 fz:∀t k cs,m'.frz t k=some cs->m.frz t k=some cs∨w.heap.size<=k∨jH m H k

theorem Mv.mx{m m':M}{H H':HV}{w w':World}(h:Mv m H w m' H' w')(X:List Nat):Mx X m H w m' H' w':=
 ⟨h.ext,h.os,h.tape,h.output,h.size,λk hk ho _=>h.keep k hk ho,h.own,h.len,h.nw,h.fz⟩

theorem Mx.trans{X:List Nat}{m1 m2 m3:M}{H1 H2 H3:HV}{w1 w2 w3:World}(h:Mx X m1 H1 w1 m2 H2 w2)(k:Mx X m2 H2 w2 m3 H3 w3):Mx X m1 H1 w1 m3 H3 w3:=by
 refine⟨h.ext.trans k.ext,k.os.trans h.os,k.tape.trans h.tape,k.output.trans h.output,bYh h.size k.size,λb hb ho hx => ?_,λb hb => ?_,bYh h.len k.len,λid hi hn=>k.nw id (bYe hi h.len) (h.nw id hi hn),λt b cs hc => ?_⟩
 ·refine(k.keep b (bYe hb h.size) (λho' => ?_) hx).trans (h.keep b hb ho hx)
  rcases h.own b ho' with h1 | h1
  ·omega
  ·exact ho h1
 ·rcases k.own b hb with h1 | h1
  ·exact .inl (bYh h.size h1)
  ·exact h.own b h1
 ·rcases k.fz t b cs hc with h1 | h1 | h1
  ·exact h.fz t b cs h1
  ·exact .inr (.inl (bYh h.size h1))
  ·rcases h.own b h1 with h2 | h2
   ·exact .inr (.inl h2)
   ·exact .inr (.inr h2)

def Post(P:Program)(gl:Nat->Option HB)(nt:Nat)(B:Fb)(X:List Ls)(m:M)(H:HV)(w:World)(Q:Ex->S->Gh->Prop)(e:Exit)(a':Act)(w':World):Prop:=
 ∃ae s' g' m',Q ae s' g'∧ExR m' ae e∧SR gl nt B m' s' a' w'∧LpR P gl X g' m' s'.hp w'∧Mx (X.map (·.l)) m H w m' s'.hp w'

def kK(P:Program)(gl:Nat->Option HB)(X:List Ls)(m:M)(H:HV)(w:World)(Q:BS)(e:Ending)(w':World):Prop:=
 ∃o H' g' m',Q o H' g'∧aIk m' o e∧HR gl m' H' w'∧LpR P gl X g' m' H' w'∧Mx (X.map (·.l)) m H w m' H' w'

theorem HR.not_owned{gl:Nat->Option HB}{m:M}{H:HV}{w:World}(hH:HR gl m H w){k:Nat}{o:Obj}(hk:w.heap[k]? = some o)(ho:∀cu e fr,o≠.cells cu e fr)(ho2:∀es c,o≠.map es c:=by intros;simp):¬ jH m H k:=by
 rintro⟨id,I,b,h1,h2,_,rfl⟩
 obtain⟨o',h3,h4⟩:=(hH.blk id I b h1 h2).obj
 rw[h3]at hk
 cases hk
 rcases h4 with ⟨cu,e,fr,rfl⟩ | ⟨es,c,rfl⟩
 ·exact ho _ _ _ rfl
 ·exact ho2 _ _ rfl

theorem Lps.step{P:Program}{gl:Nat->Option HB}{m m':M}{hp hp':HV}{w w':World}(hH:HR gl m hp w)(hm:Mw m hp w m' hp' w')(hlen:hp.length<=hp'.length):∀ {X:List Ls} {l:List Lp},Lps P gl m hp w X l->Lps P gl m' hp' w' X l
 | [],[],_=>trivial
 | [],_::_,h=>h.elim
 | _::_,[],h=>h.elim
 | x::X,p::l,h=>by
  obtain⟨h1,h2⟩:=h
  refine⟨⟨h1.u,hm.ext.lp _ _ h1.lp, ?_,h1.ext.trans hm.ext,h1.dom,bYh h1.le hlen,h1.tm,h1.nt,h1.ps,h1.ca,h1.cb,h1.ok⟩,Lps.step hH hm hlen h2⟩
  rw[hm.keep _ (bXa.1 h1.row).1 (hH.not_owned h1.row (by intros;simp))]
  exact h1.row

theorem Lps.no_row{P:Program}{gl:Nat->Option HB}{m:M}{hp:HV}{w:World}{k:Nat}{o:Obj}(hk:w.heap[k]? = some o)(ho:∀r,o≠.loop r):∀ {X:List Ls} {l:List Lp},Lps P gl m hp w X l->k∉X.map (·.l)
 | [],_,_=>by simp
 | _::_,[],h=>h.elim
 | x::X,p::l,h=>by
  obtain⟨h1,h2⟩:=h
  have ih:=Lps.no_row hk ho h2
  simp only[bXu,bXd,not_or]
  refine⟨λe => ?_,ih⟩
  subst e
  rw[h1.row]at hk
  cases hk
  exact ho _ rfl

theorem LpR.no_row{P:Program}{gl:Nat->Option HB}{X:List Ls}{g:Gh}{m:M}{hp:HV}{w:World}(h:LpR P gl X g m hp w){k:Nat}{ds:Option (List Deferred)}(hk:w.heap[k]? = some (.deferred ds)):k∉X.map (·.l):=
 Lps.no_row hk (by intros;simp) h.all

theorem LpR.step{P:Program}{gl:Nat->Option HB}{X:List Ls}{g g':Gh}{m m':M}{hp hp':HV}{w w':World}(h:LpR P gl X g m hp w)(hH:HR gl m hp w)(hm:Mv m hp w m' hp' w')(hl:g'.lps=g.lps)(hn:g.n<=g'.n):LpR P gl X g' m' hp' w':=
 ⟨by rw[hl];exact Lps.step hH hm.toMw hm.len h.all,λu l hu=>bYe (h.key u l (hm.nl u l hu)) hn,h.us,h.ls⟩

theorem LpR.stepw{P:Program}{gl:Nat->Option HB}{X:List Ls}{g g':Gh}{m m':M}{hp hp':HV}{w w':World}(h:LpR P gl X g m hp w)(hH:HR gl m hp w)(hm:Mw m hp w m' hp' w')(hlen:hp.length<=hp'.length)(hl:g'.lps=g.lps)(hn:g.n<=g'.n):LpR P gl X g' m' hp' w':=
 ⟨by rw[hl];exact Lps.step hH hm hlen h.all,λu l hu=>bYe (h.key u l (hm.nl u l hu)) hn,h.us,h.ls⟩

def DF(B:Fb)(ds:List Deferred)(w:World):Prop:=∃Ds:List Nat,ds=Ds.map aP6++B.ds∧Ds.Nodup∧∀D∈Ds,B.b<=D∧w.heap[D]? = some (.deferred (some []))

theorem DF.step{gl:Nat->Option HB}{B:Fb}{ds:List Deferred}{m m':M}{H H':HV}{w w':World}(h:DF B ds w)(hH:HR gl m H w)(hm:Mw m H w m' H' w'):DF B ds w':=by
 obtain⟨Ds,h1,h2,h3⟩:=h
 refine⟨Ds,h1,h2,λD hD=>⟨(h3 D hD).1, ?_⟩⟩
 have hr:=(h3 D hD).2
 rw[hm.keep D (bXa.1 hr).1 (hH.not_owned hr (by intros;simp))]
 exact hr

theorem DF.stepx{P:Program}{gl:Nat->Option HB}{X:List Ls}{g:Gh}{B:Fb}{ds:List Deferred}{m m':M}{H H':HV}{w w':World}(h:DF B ds w)(hH:HR gl m H w)(hX:LpR P gl X g m H w)(hm:Mx (X.map (·.l)) m H w m' H' w'):DF B ds w':=by
 obtain⟨Ds,h1,h2,h3⟩:=h
 refine⟨Ds,h1,h2,λD hD=>⟨(h3 D hD).1, ?_⟩⟩
 have hr:=(h3 D hD).2
 rw[hm.keep D (bXa.1 hr).1 (hH.not_owned hr (by intros;simp)) (hX.no_row hr)]
 exact hr

section
variable {P:Program} {gl:Nat->Option HB} {nt:Nat} {B:Fb} {m:M} {s:S} {a:Act} {w:World}

theorem SR.ops(h:SR gl nt B m s a w)(x:Operand):VR m (s.ev (cO x)) (a.eval x):=by
 cases x with
 | tmp t=>exact h.tm t
 | const v=>exact aJ7 m 4 v
 | global g=>simp[cO,S.ev,Act.eval,VR]
 | func f=>simp[cO,S.ev,Act.eval,VR]

theorem SR.put(h:SR gl nt B m s a w){av:AV}{v:Value}(hv:VR m av v){dst:Option Nat}(hd:∀d,dst=some d->d<nt)(hnt:nt<=4000):SR gl nt B m (s.put dst av) (a.put dst v) w:=by
 cases dst with
 | none=>exact h
 | some d=>
  have hlt:=hd d rfl
  have hn:=h.nt
  refine⟨λk => ?_,by simpa[Act.put]using h.nt,h.df,h.hp⟩
  simp only[S.put,Act.put]
  rw[T.get_put 12 s.tm d av k (by omega)]
  by_cases e:k=d
  ·subst e
   rw[if_pos rfl]
   have:(a.tmps.setIfInBounds k v).getD k undef=v:=by
    have hk:k<a.tmps.size:=by omega
    simp[hk]
   rw[this]
   exact hv
  ·rw[if_neg e]
   have:(a.tmps.setIfInBounds d v).getD k undef=a.tmps.getD k undef:=by
    simp[bZj (cCn e)]
   rw[this]
   exact h.tm k

theorem SR.step(h:SR gl nt B m s a w){m':M}{H':HV}{w':World}(hm:Mv m s.hp w m' H' w')(hH:HR gl m' H' w'):SR gl nt B m' ⟨s.tm,H'⟩ a w':=by
 refine⟨λk=>VR.mono hm.ext _ _ (h.tm k),h.nt, ?_,hH⟩
 obtain⟨Ds,h1,h2,h3⟩:=h.df
 refine⟨Ds,h1,h2,λD hD=>⟨(h3 D hD).1, ?_⟩⟩
 have hr:=(h3 D hD).2
 rw[hm.keep D (bXa.1 hr).1 (h.hp.not_owned hr (by intros;simp))]
 exact hr

theorem SR.stepx(h:SR gl nt B m s a w){X:List Ls}{g:Gh}(hX:LpR P gl X g m s.hp w){m':M}{H':HV}{w':World}(hm:Mx (X.map (·.l)) m s.hp w m' H' w')(hH:HR gl m' H' w'):SR gl nt B m' ⟨s.tm,H'⟩ a w':=by
 refine⟨λk=>VR.mono hm.ext _ _ (h.tm k),h.nt, ?_,hH⟩
 obtain⟨Ds,h1,h2,h3⟩:=h.df
 refine⟨Ds,h1,h2,λD hD=>⟨(h3 D hD).1, ?_⟩⟩
 have hr:=(h3 D hD).2
 rw[hm.keep D (bXa.1 hr).1 (h.hp.not_owned hr (by intros;simp)) (hX.no_row hr)]
 exact hr

mutual
theorem aLs:∀ (p:Pa) (K:AV->Prop),exP p K->∃v,K v
 | .int _,_,h=>by simp only[exP]at h;obtain⟨n,h⟩:=h;exact⟨_,h⟩
 | .bool,_,h=>by simp only[exP]at h;obtain⟨n,h⟩:=h;exact⟨_,h⟩
 | .str,_,h=>by simp only[exP]at h;obtain⟨n,h⟩:=h;exact⟨_,h⟩
 | .agg l,_,h=>by simp only[exP]at h;obtain⟨n,h⟩:=aSn l _ h;exact⟨_,h⟩
 | .sl _,_,h=>by simp only[exP]at h;obtain⟨_,_,_,_,h⟩:=h;exact⟨_,h⟩
 | .lst _,_,h=>by simp only[exP]at h;obtain⟨_,_,_,h⟩:=h;exact⟨_,h⟩
 | .any,_,h=>by simp only[exP]at h;exact h
 | .lit _,_,h=>by simp only[exP]at h;exact⟨_,h⟩
 | .ex _,_,h=>by simp only[exP]at h;obtain⟨n,h⟩:=h;exact⟨_,h⟩
 | .or p q,K,h=>by
  simp only[exP]at h
  rcases h with h | h
  ·exact aLs p K h
  ·exact aLs q K h
 | .split,_,h=>by simp only[exP]at h
theorem aSn:∀ (l:List Pa) (K:HB->Prop),bMk l K->∃v,K v
 | [],_,h=>by simp only[bMk]at h;exact⟨_,h⟩
 | p::l,_,h=>by
  simp only[bMk]at h
  obtain⟨_,h⟩:=aLs p _ h
  obtain⟨_,h⟩:=aSn l _ h
  exact⟨_,h⟩
end

theorem qD{E:Env}{k:Nat}{v:AV}{c:AV->Prop}(h:hint E k v c):c v:=by
 unfold hint at h
 split at h
 ·split at h
  ·rename_i b
   cases b
   ·exact h
   ·exact h
  ·exact h
 ·exact h
 ·obtain⟨u,h1,h2⟩:=aLs _ _ h
  rw[h1];exact h2

theorem nV(P:Program)(nt:Nat)(ops:Array Oper)(o:Oper) :
  (∃why,(mO P nt ops o) = { dst:=none,op:=.bad why,guard:=none }) ∨
  ((∀d,o.dst=some d->d<nt)∧(mO P nt ops o).dst=o.dst∧(mO P nt ops o).op=cOp P o.op ∧
    ((o.guard=none∧(mO P nt ops o).guard=none)∨∃j b g,o.guard=some (j,b)∧(ops[j]?).bind (·.dst)=some g∧g<nt∧(mO P nt ops o).guard=some (g,b))):=by
 unfold mO
 cases hg:o.guard with
 | none=>
  cases hd:o.dst with
  | none=>right;simp
  | some d=>
   simp only
   split
   ·rename_i h
    rw[aD]at h
    right
    exact⟨λd' hd'=>(by cases hd';exact h),by simp,by simp,.inl (by simp)⟩
   ·left;exact⟨_,rfl⟩
 | some jb=>
  obtain⟨j,b⟩:=jb
  simp only
  cases hj:(ops[j]?).bind (·.dst)with
  | none=>left;exact⟨_,rfl⟩
  | some g=>
   simp only
   split
   ·rename_i h
    rw[aD]at h
    cases hd:o.dst with
    | none=>right;exact⟨by simp,by simp,by simp,.inr ⟨j,b,g,by simp,hj,h,by simp⟩⟩
    | some d=>
     simp only
     split
     ·rename_i h2
      rw[aD]at h2
      right
      exact⟨λd' hd'=>(by cases hd';exact h2),by simp,by simp,.inr ⟨j,b,g,by simp,hj,h,by simp⟩⟩
     ·left;exact⟨_,rfl⟩
   ·left;exact⟨_,rfl⟩

theorem aLw(h:SR gl nt B m s a w){ops:Array Oper}{o:Oper}{ag:Option (Nat×Bool)}(hg:(o.guard=none∧ag=none)∨∃j b g,o.guard=some (j,b)∧(ops[j]?).bind (·.dst)=some g∧g<nt∧ag=some (g,b))
  {r:Bool} (hr:gd s ag=some r):Region.wanted o (yielded ops a.tmps)=r:=by
 rcases hg with ⟨h1,rfl⟩ | ⟨j,b,g,h1,h2,h3,rfl⟩
 ·simp only[gd,bW5]at hr
  subst hr
  simp[Region.wanted,h1]
 ·have hn:=h.nt
  have ht:=h.tm g
  have hget:a.tmps[g]? = some (a.tmps.getD g undef):=by
   have:g<a.tmps.size:=bYe h3 h.nt
   simp[this]
  simp only[gd]at hr
  simp only[Region.wanted,h1,yielded,h2,cCt,hget]
  split at hr
  ·rename_i x hx
   rw[hx]at ht
   simp only[VR]at ht
   rw[ht]
   simp only[bW5]at hr
   subst hr
   cases b<;>cases x<;>rfl
  ·rename_i hx
   rw[hx]at ht
   simp only[VR]at ht
   obtain⟨cs,e1,e2⟩:=ht
   rw[e1]
   simp only[bW5]at hr
   subst hr
   rfl
  ·cases hr
end
end Go.Proofs.YtnhechnaemmdiaaGreatDoor

namespace Go.Proofs.YtnhechnaemmdiaaGreatDoor
open Go.RowKit

section
variable {P:Program} {gl:Nat->Option HB} {nt:Nat} {B:Fb} {m:M} {s:S} {a:Act} {w:World}

def pV(tmps:Array Value):ResultVar->Sem Value
 | .tmp t=>pure (tmps.getD t undef)
 | .cell a t=>do loadVar t (← asAddr (tmps.getD a undef))

theorem aU7(h:SR gl nt B m s a w){E:Env}:∀ (l:List ResultVar) (K:HB->Prop),(∀r∈l,aNr P r=true)->lI E s (l.map (aXa P)) K →
  ∃vs,K vs∧∃cvs:List Value,VRL m vs cvs∧(l.mapM (pV a.tmps)).run P w=.ok cvs w
 | [],K,_,hK=>⟨[],hK,[],by simp,by simp⟩
 | .tmp t::l,K,hr,hK=>by
  simp only[bXu,aXa,lI]at hK
  obtain⟨vs,h1,cvs,h2,h3⟩:=aU7 h l _ (λr hr'=>hr r (by simp[hr'])) hK
  refine⟨_,h1,a.tmps.getD t undef::cvs,by rw[bH];exact⟨h.tm t,h2⟩, ?_⟩
  rw[cCm]
  simp only[pV,bY1,cBh,bYl,h3]
 | .cell b t::l,K,hr,hK=>by
  simp only[bXu,aXa,lI]at hK
  have ht:bV P t=true:=hr (.cell b t) (by simp)
  have hb:=h.tm b
  split at hK
  ·rename_i id tot off he
   rw[he]at hb
   obtain⟨hc,hK⟩:=nN hK
   simp only[bW3,bX5]at hc
   obtain⟨vs,h1,cvs,h2,h3⟩:=aU7 h l _ (λr hr'=>hr r (by simp[hr'])) hK
   obtain⟨I,hI,hIt,hv⟩:=h.hp.ptr hb hc.1
   obtain⟨us,u1,u2,u3⟩:=h.hp.cells (off:=off) (n:=bif aAh P t then szT P t else 1) hc.1 hI hc.2
   obtain⟨v,hrun,hv2⟩:=xP (w:=w) ht I.b (I.d+off) us u2 (by rw[u1];cases aAh P t<;>rfl)
   refine⟨_,h1,v::cvs, ?_, ?_⟩
   ·rw[bH]
    refine⟨?_,h2⟩
    cases ha:aAh P t
    ·simp only[ha,bY5,cBj,bYi]at hv2 u3 ⊢
     subst hv2
     cases hcl:aR s.hp id off 1 with
     | nil=>rw[hcl]at u3;simp at u3
     | cons x l'=>rw[hcl]at u3;simp only[bH]at u3;exact u3.1
    ·simp only[ha,cBu,bXw]at hv2 u3 ⊢
     subst hv2
     simp only[VR]
     exact⟨_,rfl,by simpa using u3⟩
   ·rw[cCm]
    simp only[pV,bY1,hv,asAddr,cBh,bYl,hrun,h3]
  ·cases hK

theorem aAe(h:SR gl nt B m s a w){E:Env}{fn:Func}{K:HB->Prop}(hr:∀r∈fn.results.toList,aNr P r=true)(hK:lI E s (fn.results.toList.map (aXa P)) K) :
  ∃vs,K vs∧∃v,(results fn a.tmps).run P w=.ok v w∧VR m (zC vs) v:=by
 obtain⟨vs,h1,cvs,h2,h3⟩:=aU7 h _ _ hr hK
 have e:(fn.results.mapM (pV a.tmps)).run P w=.ok cvs.toArray w:=by
  rw[Array.mapM_eq_mapM_toList]
  show((fn.results.toList.mapM (pV a.tmps)) >>= λa=>pure (List.toArray a)).run P w=_
  rw[bY1,h3]
  rfl
 refine⟨vs,h1,if h:cvs.toArray.size=1 then cvs.toArray[0]else .tuple cvs.toArray, ?_, ?_⟩
 ·show((fn.results.mapM (pV a.tmps)) >>= λvs=>pure (if h:vs.size=1 then vs[0]else .tuple vs)).run P w=_
  rw[bY1,e]
  rfl
 ·match vs,cvs,h2 with
  | [],cvs,h2=>
   rw[gL]at h2
   subst h2
   simp[zC,VR]
  | [x],cvs,h2=>
   obtain⟨v,vs',rfl,h4,h5⟩:=bB h2
   rw[gL]at h5
   subst h5
   simpa[zC]using h4
  | x::y::l,cvs,h2=>
   obtain⟨v,vs',rfl,h4,h5⟩:=bB h2
   obtain⟨v2,vs2,rfl,h6,h7⟩:=bB h5
   have hn:¬ (v::v2::vs2).toArray.size=1:=by simp
   rw[dif_neg hn]
   simp only[zC,VR]
   exact⟨_,rfl,by simpa using⟨h4,h6,h7⟩⟩

theorem aXo{E:Env}{base k:Nat}{v:AV}{H:HV}{K:HV->Prop}(h:leave E base k v H K):K H∨((old base v=true∧aNh base (H.take base)=true)∧K (H.take base)):=by
 unfold leave at h
 split at h
 ·simp only[bW3]at h;exact .inr h
 ·exact .inl h
 ·cases hc:(old base v&&aNh base (H.take base))
  ·simp only[hc,bYi]at h;exact .inl h
  ·simp only[hc,bXw]at h
   simp only[bW3]at hc
   exact .inr ⟨hc,h⟩

theorem aKo{b:Nat}:∀ {H:HV} {id:Nat} {x:Blk},aNh b H=true->H[id]? = some x->x.lf=true∨aP b x.cs=true
 | [],id,x,_,h=>by simp at h
 | y::H,0,x,ho,h=>by
  simp at h
  subst h
  simp only[aNh,bW3,bXh]at ho
  exact ho.1
 | y::H,id+1,x,ho,h=>by
  simp only[aNh,bW3]at ho
  exact aKo ho.2 (by simpa using h)

theorem HR.take{m0:M}{H0 H:HV}{w0:World}{base:Nat}(hH:HR gl m H w)(ho:aNh base (H.take base)=true):HR gl (m.below base) (H.take base) w:=by
 have hb:∀id I,(m.below base).blk id=some I->id<base∧m.blk id=some I:=by
  intro id I h
  simp only[M.below]at h
  split at h
  ·rename_i h1;exact⟨h1,h⟩
  ·cases h
 refine⟨λid I h => ?_,λid I b h hbk => ?_,λi j I J b h1 h2 h3 h4 h5 => ?_,λg cs hg => ?_,hH.gld,hH.frz,λt k cs id I b hg h1 h2 h3 => ?_,λg cs id I b hg h1 h2 h3 => ?_⟩
 ·obtain⟨h1,h2⟩:=hb id I h
  have:=hH.dom id I h2
  simp;omega
 ·obtain⟨h1,h2⟩:=hb id I h
  rw[bXz,if_pos h1]at hbk
  obtain⟨q1,q2,qr,qm⟩:=hH.blk id I b h2 hbk
  have hol:aP base b.cs=true:=by
   rcases aKo (id:=id) (x:=b) ho (by rw[bXz,if_pos h1];exact hbk)with h | h
   ·exact cB (bYb _) _ (q2 h)
   ·exact h
  refine⟨q1,q2,λhm => ?_,λc hc => ?_⟩
  ·obtain⟨cu,e,lo,hi,q3,q4,q5,q6,q7,q8⟩:=qr hm
   exact⟨cu,e,lo,hi,q3,q4,q5,q6,q7,VRL.below _ _ hol q8⟩
  ·obtain⟨es,cl,q3,q4⟩:=qm c hc
   rw[(jP hc).2]at hol
   simp only[aP,old,bX4]at hol
   exact⟨es,cl,q3,q4.below hol⟩
 ·obtain⟨a1,a2⟩:=hb i I h1
  obtain⟨b1,b2⟩:=hb j J h2
  rw[bXz,if_pos a1]at h3
  exact hH.inj i j I J b a2 b2 h3 h4 h5
 ·obtain⟨cu,e,fr,h1,h2⟩:=hH.glb g cs hg
  exact⟨cu,e,fr,h1,VRL.below _ _ (cB (bYb _) _ (hH.gld g cs hg)) h2⟩
 ·obtain⟨a1,a2⟩:=hb id I h1
  rw[bXz,if_pos a1]at h2
  exact hH.fow t k cs id I b hg a2 h2 h3
 ·obtain⟨a1,a2⟩:=hb id I h1
  rw[bXz,if_pos a1]at h2
  exact hH.gow g cs id I b hg a2 h2 h3

theorem Mx.take{X:List Nat}{m0:M}{H0 H:HV}{w0:World}{base:Nat}(h:Mx X m0 H0 w0 m H w)(hd:∀id I,m0.blk id=some I->id<base)(hb:H0.length<=base):Mx X m0 H0 w0 (m.below base) (H.take base) w:=by
 refine⟨⟨λid I hI => ?_,h.ext.opq,h.ext.lp,h.ext.frz⟩,h.os,h.tape,h.output,h.size,h.keep,λk hk => ?_, ?_,λid hi hn => ?_,h.fz⟩
 ·obtain⟨I',h1,h2,h3⟩:=h.ext.blk id I hI
  exact⟨I',by simp only[M.below,if_pos (hd id I hI)];exact h1,h2,h3⟩
 ·obtain⟨id,I,b,h1,h2,h3,h4⟩:=hk
  simp only[M.below]at h1
  split at h1
  ·rename_i hlt
   rw[bXz,if_pos hlt]at h2
   exact h.own k ⟨id,I,b,h1,h2,h3,h4⟩
  ·cases h1
 ·have:=h.len
  simp;omega
 ·simp only[M.below,h.nw id hi hn,ite_self]

def Low(X:List Ls)(base:Nat):Prop:=∀x∈X,x.ne<=base

theorem Lps.take{H:HV}{base:Nat}(hb:base<=H.length):∀ {X:List Ls} {l:List Lp},Low X base->Lps P gl m H w X l->Lps P gl (m.below base) (H.take base) w X l
 | [],[],_,_=>trivial
 | [],_::_,_,h=>h.elim
 | _::_,[],_,h=>h.elim
 | x::X,p::l,hl,h=>by
  obtain⟨h1,h2⟩:=h
  have hx:=hl x (by simp)
  refine⟨⟨h1.u,h1.lp,h1.row,⟨λid I hI => ?_,h1.ext.opq,h1.ext.lp,h1.ext.frz⟩,h1.dom,by simp;omega,h1.tm,h1.nt,h1.ps,h1.ca,h1.cb,h1.ok⟩,Lps.take hb (λy hy=>hl y (by simp[hy])) h2⟩
  obtain⟨I',q1,q2,q3⟩:=h1.ext.blk id I hI
  exact⟨I',by simp only[M.below,if_pos (bYe (h1.dom id I hI) hx)];exact q1,q2,q3⟩

theorem LpR.take{X:List Ls}{g:Gh}{H:HV}{base:Nat}(h:LpR P gl X g m H w)(hb:base<=H.length)(hl:Low X base):LpR P gl X g (m.below base) (H.take base) w:=
 ⟨Lps.take hb hl h.all,h.key,h.us,h.ls⟩

theorem Lps.low{H:HV}:∀ {X:List Ls} {l:List Lp},Lps P gl m H w X l->Low X H.length
 | [],_,_=>λx hx=>by cases hx
 | _::_,[],h=>h.elim
 | x::X,p::l,h=>λy hy=>by
  rcases bXd.1 hy with rfl | hy
  ·exact h.1.le
  ·exact Lps.low h.2 y hy

theorem LpR.low{X:List Ls}{g:Gh}{H:HV}(h:LpR P gl X g m H w):Low X H.length:=Lps.low h.all


theorem HR.putObj{H:HV}(hH:HR gl m H w){k:Nat}{o0:Obj}(hk:w.heap[k]? = some o0)(ho:∀cu e fr,o0≠.cells cu e fr)(o:Obj)(ho2:∀es c,o0≠.map es c:=by intros;simp):HR gl m H (w.putObj k o):=by
 refine⟨hH.dom,λid I b h1 h2 => ?_,hH.inj,λg cs hg => ?_,hH.gld,λt b cs hg => ?_,hH.fow,hH.gow⟩
 ·have hB:=hH.blk id I b h1 h2
  refine hB.mono (Ext.refl m) (World.putObj_heap_other λe1 => ?_)
  obtain⟨o',h3,h4⟩:=hB.obj
  rw[e1,hk]at h3
  cases h3
  rcases h4 with ⟨cu,e,fr,rfl⟩ | ⟨es,c,rfl⟩
  ·exact ho _ _ _ rfl
  ·exact ho2 _ _ rfl
 ·obtain⟨cu,e,fr,h3,h4⟩:=hH.glb g cs hg
  refine⟨cu,e,fr, ?_,h4⟩
  rw[World.putObj_heap_other]
  ·exact h3
  ·intro e1
   rw[e1,hk]at h3
   cases h3
   exact ho _ _ _ rfl
 ·obtain⟨cu,e,fr,h3,h4⟩:=hH.frz t b cs hg
  refine⟨cu,e,fr, ?_,h4⟩
  rw[World.putObj_heap_other]
  ·exact h3
  ·intro e1
   rw[e1,hk]at h3
   cases h3
   exact ho _ _ _ rfl

theorem Lps.putObj{H:HV}{k:Nat}(o:Obj):∀ {X:List Ls} {l:List Lp},k∉X.map (·.l)->Lps P gl m H w X l->Lps P gl m H (w.putObj k o) X l
 | [],[],_,_=>trivial
 | [],_::_,_,h=>h.elim
 | _::_,[],_,h=>h.elim
 | x::X,p::l,hk,h=>by
  obtain⟨h1,h2⟩:=h
  simp only[bXu,bXd,not_or]at hk
  refine⟨⟨h1.u,h1.lp, ?_,h1.ext,h1.dom,h1.le,h1.tm,h1.nt,h1.ps,h1.ca,h1.cb,h1.ok⟩,Lps.putObj o hk.2 h2⟩
  rw[World.putObj_heap_other (cCn hk.1)]
  exact h1.row

theorem Mx.putObj{X:List Nat}{m0:M}{H0 H:HV}{w0:World}(h:Mx X m0 H0 w0 m H w){k:Nat}(hk:k∈X∨w0.heap.size<=k)(o:Obj):Mx X m0 H0 w0 m H (w.putObj k o):=by
 refine⟨h.ext,h.os,h.tape,h.output,by rw[World.putObj_size];exact h.size,λj hj ho hx => ?_,h.own,h.len,h.nw,h.fz⟩
 rw[World.putObj_heap_other]
 ·exact h.keep j hj ho hx
 ·intro e
  subst e
  rcases hk with hk | hk
  ·exact hx hk
  ·omega

theorem aDo{fn:Func}{tmps:Array Value}{R:Ending->World->Prop}{u:FrameMode}(hu:u≠.run){X:List Ls}{g:Gh}{m0:M}{H0 H:HV}{w0:World}{B:Nat}(hB:w0.heap.size<=B){ds:List Deferred} :
  ∀ (Ds:List Nat) (w:World),Ds.Nodup->(∀D∈Ds,B<=D∧w.heap[D]? = some (.deferred (some [])))->HR gl m H w->LpR P gl X g m H w->Mx (X.map (·.l)) m0 H0 w0 m H w →
   (∀w',HR gl m H w'->LpR P gl X g m H w'->Mx (X.map (·.l)) m0 H0 w0 m H w'->LeavesInM (Wd none) 0 P fn tmps R ds u w')->LeavesInM (Wd none) 0 P fn tmps R (Ds.map aP6++ds) u w
 | [],w,_,_,h1,h2,h3,hk=>hk w h1 h2 h3
 | D::Ds,w,hn,hD,h1,h2,h3,hk=>by
  have hd:=hD D (by simp)
  rw[cAm]at hn
  refine⟨hu,.inl ⟨D,w.putObj D (.deferred none),rfl,run_takeDeferred hd.2, ?_⟩⟩
  refine aDo hu hB Ds _ hn.2 (λD' hD'=>⟨(hD D' (by simp[hD'])).1, ?_⟩) (h1.putObj hd.2 (by intros;simp) _) ⟨Lps.putObj _ (h2.no_row hd.2) h2.all,h2.key,h2.us,h2.ls⟩ (h3.putObj (.inr (by omega)) _) hk
  rw[World.putObj_heap_other]
  ·exact(hD D' (by simp[hD'])).2
  ·intro e
   subst e
   exact hn.1 hD'

def zD(P:Program)(E:Env)(rec:Rec):Prop:=
 ∀ (nt:Nat) (B:Fb) (r:Option Nat) (X:List Ls) (code:Code) (c:AC) (s:S) (g:Gh) (Q:Ex->S->Gh->Prop) (m:M) (a:Act) (w:World),nt<=4000->B.b<=w.heap.size->(∀l,r=some l->l∈X.map (·.l))->Comp P E.gl nt code c->SR E.gl nt B m s a w->LpR P E.gl X g m s.hp w →
  rec c s g Q->code.wpIn (Wd r) 0 P (Post P E.gl nt B X m s.hp w Q) a w

theorem aCk{E:Env}(hE:EnvOk P E){rec:Rec}(hrec:zD P E rec){X:List Ls}{f:FuncId}{args:HB}{H:HV}{g:Gh}{Q:BS}
  (h:aT E rec f args H g Q) {vs:Array Value} (hv:VRL m args vs.toList) (hH:HR E.gl m H w) (hX:LpR P E.gl X g m H w):Enters P f∧Calls P f vs w (kK P E.gl X m H w Q):=by
 unfold aT at h
 split at h
 ·rename_i c hg
  obtain⟨h1,h2⟩:=hE.sm f c hg
  refine⟨h1,(h2 _ _ _ h m w vs hv hH).mono λe w' hp => ?_⟩
  obtain⟨o,H',m',q1,q2,q3,q4⟩:=hp
  exact⟨o,H',g,m',q1,q2,q3,hX.step hH q4 rfl (bXe _),q4.mx _⟩
 ·split at h
  ·rename_i c hg
   obtain⟨h1,fn,body,f1,f2,f3,f4,f5,f6⟩:=hE.fn f c hg
   refine⟨h1, ?_⟩
   cases hle:Nat.ble args.length 4000
   ·simp[hle]at h
   rw[hle]at h
   simp only[bXw]at h
   rw[bX5]at hle
   have hlen:args.length=vs.size:=by simpa using hv.len
   have hsr:SR E.gl fn.ntmps ⟨w.heap.size,[]⟩ m ⟨aAf 0 args .e,H⟩ { tmps:=vs++Array.replicate (fn.ntmps-vs.size) undef,defers:=[] } w:=by
    refine⟨λj => ?_,by simp;omega,⟨[],rfl,cBa,λD hD=>by cases hD⟩,hH⟩
    rw[aAq args 0 .e j (by omega)]
    by_cases hj:j<args.length
    ·rw[if_pos (by omega)]
     obtain⟨v,hv1,hv2⟩:=hv.get (i:=j) (a:=args.getD j .undef) (by simp[hj])
     rw[bZg]at hv1
     have:(vs++Array.replicate (fn.ntmps-vs.size) undef).getD j undef=v:=by
      simp[Array.getElem?_append,show j<vs.size by omega]
      exact(bXa.1 hv1).2
     rw[this]
     simpa using hv2
    ·rw[if_neg (by omega),T.get_e]
     simp[VR]
   have hwp:=hrec fn.ntmps ⟨w.heap.size,[]⟩ none X body c.body _ (g.at f) _ m _ w f6 (bXe _) (λl hl=>by cases hl) f3 hsr (hX.step hH (Mv.refl _ _ _) rfl (bXe _)) h
   refine callsIn_wide.1 (callsIn_of_wp_marks (F:=Wd none) (n:=0) f1 f2 trivial (cAw hwp λe a' w' hp => ?_) rfl)
   obtain⟨ae,s',g',m',hq,hx,hs',hX',hmv⟩:=hp
   obtain⟨Ds,d1,d2,d3⟩:=hs'.df
   rw[f4]at hq
   -- behind the results
   have fin:∀ (o:Out) (e':Ending) (v:AV) (cv:Value) (w'':World),(∀m'',VR m'' v cv->aIk m'' o e')->VR m' v cv->HR E.gl m' s'.hp w''->LpR P E.gl X g' m' s'.hp w''->Mx (X.map (·.l)) m H w m' s'.hp w''->leave E H.length (g'.f*4096+4094) v s'.hp (λH'=>Q o H' (g'.at g.f))->kK P E.gl X m H w Q e' w'':=by
    intro o e' v cv w'' hout hv' hH'' hX'' hmv'' hl
    rcases aXo hl with h | ⟨⟨o1,o2⟩,h⟩
    ·exact⟨o,s'.hp,g'.at g.f,m',h,hout m' hv',hH'',⟨hX''.all,hX''.key,hX''.us,hX''.ls⟩,hmv''⟩
    ·have hX3:=hX''.take hmv''.len hX.low
     exact⟨o,_,g'.at g.f,m'.below H.length,h,hout _ (VR.below _ _ o1 hv'),HR.take (m0:=m) (H0:=H) (w0:=w) hH'' o2,⟨hX3.all,hX3.key,hX3.us,hX3.ls⟩,hmv''.take hH.dom (bXe _)⟩
   have hl:=λ(u:FrameMode) (hu:u≠.run) (R:Ending->World->Prop)=>aDo (P:=P) (gl:=E.gl) (fn:=fn) (tmps:=a'.tmps) (R:=R) (u:=u) hu (X:=X) (g:=g') (m:=m') (m0:=m) (H0:=H) (H:=s'.hp) (w0:=w) (B:=w.heap.size) (bXe _) (ds:=[]) Ds w' d2 d3 hs'.hp hX' hmv
   cases ae with
   | nrm=>
    cases e<;>simp only[ExR]at hx
    simp only[bodyPostM]
    rw[d1]
    refine hl .returning (by simp) _ λw'' k1 k2 k3 => ?_
    obtain⟨vs',r1,v,r2,r3⟩:=aAe (P:=P) (B:=⟨0,[]⟩) (a := { tmps:=a'.tmps,defers:=[] }) (s:=s') (w:=w'') ⟨hs'.tm,hs'.nt,⟨[],rfl,cBa,λD hD=>by cases hD⟩,k1⟩ f5 hq
    exact⟨v,r2,fin (.ret (zC vs')) (.returned v) _ v w'' (λm'' h=>h) r3 k1 k2 k3 r1⟩
   | ret=>
    cases e<;>simp only[ExR]at hx
    simp only[bodyPostM]
    rw[d1]
    refine hl .returning (by simp) _ λw'' k1 k2 k3 => ?_
    obtain⟨vs',r1,v,r2,r3⟩:=aAe (P:=P) (B:=⟨0,[]⟩) (a := { tmps:=a'.tmps,defers:=[] }) (s:=s') (w:=w'') ⟨hs'.tm,hs'.nt,⟨[],rfl,cBa,λD hD=>by cases hD⟩,k1⟩ f5 hq
    exact⟨v,r2,fin (.ret (zC vs')) (.returned v) _ v w'' (λm'' h=>h) r3 k1 k2 k3 r1⟩
   | exit i=>cases hq
   | pan v=>
    cases e<;>simp only[ExR]at hx
    obtain⟨cv,rfl,hcv⟩:=hx
    simp only[bodyPostM]
    rw[d1]
    refine hl (.panicking _) (by simp) _ λw'' k1 k2 k3 => ?_
    exact fin (.pan v) (.panicked [{ v:=cv,recovered:=false }]) v cv w'' (λm'' h=>⟨cv,rfl,h⟩) hcv k1 k2 k3 hq
  ·cases h

theorem aNe{o:Oper}{f:Operand}{args:Array Operand}{ts:Array TypeId}(ho:o.op=.call { callee:=.value f,args:=args,argTypes:=ts }){ρ:Operand->Value}{fid:FuncId}{x y:Array Value}(hf:ρ f=.func (.func fid) x y)(he:Enters P fid) :
  (execOp ρ o).run P w=.ok (.enter fid (x++args.map ρ++y)) w:=by
 obtain⟨fn,h1,h2,h3⟩:=he
 have h3' : ¬ fn.name = "runtime.NumGoroutine" := by simpa using h3
 have h2':¬ fn.body=none:=by
  intro e
  rw[e]at h2
  cases h2
 simp[execOp,ho,resolve,hf,Deferred.ofValue,invoke,callFunc,h1,h2',h3']

theorem aZz{op:Op}{f:AO}{args:List AO}(h:cOp P op=.call f args):(∃cf cargs ts,op=.call { callee:=.value cf,args:=cargs,argTypes:=ts }∧f=cO cf∧args=cargs.toList.map cO)∨∃x,op=.panic x∧f=.c (.lst 0 [] 1 1)∧args=[cO x]:=by
 cases op with
 | call c=>
  obtain⟨callee,cargs,ts⟩:=c
  cases callee with
  | value cf=>
   simp only[cOp,AOp.call.injEq]at h
   exact .inl ⟨cf,cargs,ts,rfl,h.1.symm,h.2.symm⟩
  | invoke f n=>simp[cOp]at h
  | builtin b=>simp only[cOp]at h;(repeat' split at h)<;>simp at h
 | slice t x lo hi mx=>cases mx<;>simp only[cOp]at h<;>(repeat' split at h)<;>simp at h
 | makeMap t y=>cases y<;>simp[cOp]at h
 | lookup t x i c=>cases c<;>simp only[cOp]at h<;>(repeat' split at h)<;>simp at h
 | panic x=>
  simp only[cOp,AOp.call.injEq]at h
  exact .inr ⟨x,rfl,h.1.symm,h.2.symm⟩
 | _=>simp only[cOp]at h;(repeat' split at h)<;>simp at h

end
end Go.Proofs.YtnhechnaemmdiaaGreatDoor

namespace Go.Proofs.YtnhechnaemmdiaaGreatDoor
open Go.RowKit

mutual
theorem VR.nor{m m':M}{i:Nat}(hb:∀j,j≠i->m'.blk j=m.blk j)(ho:m'.opq=m.opq)(hl:m'.lp=m.lp)(hs:Ext m.strip m'.strip):∀ (a:AV) (v:Value),nor i a=true->VR m a v->VR m' a v
 | .undef,_,_,_=>by simp[VR]
 | .opq i,v,_,h=>by simpa only[VR,ho]using h
 | .bool _,_,_,h=>by simpa only[VR]using h
 | .int _ _,_,_,h=>by simpa only[VR]using h
 | .str _,_,_,h=>by simpa only[VR]using h
 | .nilp,_,_,h=>by simpa only[VR]using h
 | .ptr id tot off,v,o,h=>by
  have e:id≠i:=λe=>by subst e;simp[nor]at o
  simp only[VR,hb id e]at h ⊢
  exact h
 | .gptr _ _,_,_,h=>by simpa only[VR]using h
 | .nils,_,_,h=>by simpa only[VR]using h
 | .sl id tot off len sz,v,o,h=>by
  have e:id≠i:=λe=>by subst e;simp[nor]at o
  simp only[VR,hb id e]at h ⊢
  exact h
 | .mpn,_,_,h=>by simpa only[VR]using h
 | .mp id,v,o,h=>by
  have e:id≠i:=λe=>by subst e;simp[nor]at o
  simp only[VR,hb id e]at h ⊢
  exact h
 | .nilf,_,_,h=>by simpa only[VR]using h
 | .fn f x y,v,o,h=>by
  simp only[nor,bW3]at o
  simp only[VR]at h ⊢
  obtain⟨x',y',h1,h2,h3⟩:=h
  exact⟨x',y',h1,VRL.nor hb ho hl hs x _ o.1 h2,VRL.nor hb ho hl hs y _ o.2 h3⟩
 | .yld u,_,_,h=>by simpa only[VR,hl]using h
 | .nili,_,_,h=>by simpa only[VR]using h
 | .iface t v,_,o,h=>by
  simp only[nor]at o
  simp only[VR]at h ⊢
  obtain⟨x,h1,h2⟩:=h
  exact⟨x,h1,VR.nor hb ho hl hs v x o h2⟩
 | .agg l,_,o,h=>by
  simp only[nor]at o
  simp only[VR]at h ⊢
  obtain⟨x,h1,h2⟩:=h
  exact⟨x,h1,VRL.nor hb ho hl hs l _ o h2⟩
 | .tup l,_,o,h=>by
  simp only[nor]at o
  simp only[VR]at h ⊢
  obtain⟨x,h1,h2⟩:=h
  exact⟨x,h1,VRL.nor hb ho hl hs l _ o h2⟩
 | .lst t l len sz,v,_,h=>by
  simp only[VR]at h ⊢
  obtain⟨h1,h2,a,cap,h3,h4,h5⟩:=h
  exact⟨h1,h2,a,cap,h3,h4,h5.imp (λ⟨a,cs,ka,k0,k1,k2,k3⟩=>⟨a,cs,ka,k0,hs.frz _ _ _ k1,k2,VRL.mono hs _ _ k3⟩) id⟩
 | .lptr t l off,v,_,h=>by
  simp only[VR]at h ⊢
  obtain⟨h1,b,o,cs,h3,h4,h5,h6⟩:=h
  exact⟨h1,b,o,cs,h3,hs.frz _ _ _ h4,h5,VRL.mono hs _ _ h6⟩
theorem VRL.nor{m m':M}{i:Nat}(hb:∀j,j≠i->m'.blk j=m.blk j)(ho:m'.opq=m.opq)(hl:m'.lp=m.lp)(hs:Ext m.strip m'.strip):∀ (l:HB) (vs:List Value),aI2 i l=true->VRL m l vs->VRL m' l vs
 | [],vs,_,h=>by simpa only[VRL]using h
 | a::l,vs,o,h=>by
  simp only[aI2,bW3]at o
  obtain⟨v,vs',rfl,h1,h2⟩:=bB h
  rw[bH]
  exact⟨VR.nor hb ho hl hs a v o.1 h1,VRL.nor hb ho hl hs l vs' o.2 h2⟩
end

mutual
theorem aT0{i:Nat}:∀a,old 0 a=true->nor i a=true
 | .undef,_ | .opq _,_ | .bool _,_ | .int _ _,_ | .str _,_ | .nilp,_ | .gptr _ _,_ | .nils,_ | .nilf,_ | .yld _,_ | .nili,_ | .lst _ _ _ _,_ | .lptr _ _ _,_ | .mpn,_=>rfl
 | .ptr _ _ _,h=>by simp[old]at h
 | .mp _,h=>by simp[old]at h
 | .sl _ _ _ _ _,h=>by simp[old]at h
 | .fn _ x y,h=>by
  simp only[old,bW3]at h
  simp only[nor,kM x h.1,kM y h.2,Bool.and_self]
 | .iface _ v,h=>by simp only[old]at h;simp only[nor,aT0 v h]
 | .agg l,h=>by simp only[old]at h;simp only[nor,kM l h]
 | .tup l,h=>by simp only[old]at h;simp only[nor,kM l h]
theorem kM{i:Nat}:∀l,aP 0 l=true->aI2 i l=true
 | [],_=>rfl
 | v::l,h=>by
  simp only[aP,bW3]at h
  simp only[aI2,aT0 v h.1,kM l h.2,Bool.and_self]
end

theorem MpR.nor{m m':M}{i:Nat}(hb:∀j,j≠i->m'.blk j=m.blk j)(ho:m'.opq=m.opq)(hl:m'.lp=m.lp)(hs:Ext m.strip m'.strip):∀ {c:HB} {es:List MapEntry},aI2 i c=true->MpR m c es->MpR m' c es
 | [],es,_,h=>by simpa only[MpR]using h
 | [a],es,_,h=>by simp only[MpR]at h
 | a::b::l,es,o,h=>by
  simp only[aI2,bW3]at o
  simp only[MpR]at h ⊢
  obtain⟨x,es',h1,h2,h3,h4⟩:=h
  exact⟨x,es',h1,VR.nor hb ho hl hs _ _ o.1 h2,VR.nor hb ho hl hs _ _ o.2.1 h3,MpR.nor hb ho hl hs o.2.2 h4⟩

theorem T.nor_get{i:Nat}:∀ (t:T) (j:Nat),t.nor i=true→YtnhechnaemmdiaaGreatDoor.nor i (t.get j)=true
 | .e,j,_=>by rw[T.get_e];rfl
 | .n l v r,j,h=>by
  simp only[T.nor,bW3]at h
  cases j with
  | zero=>exact h.1.1
  | succ j=>
   simp only[T.get]
   split
   ·exact T.nor_get l _ h.1.2
   ·exact T.nor_get r _ h.2
theorem aJ3{i:Nat}:∀ {H:HV} {id:Nat} {x:Blk},bJ8 i H=true->H[id]? = some x->x.lf=true∨aI2 i x.cs=true
 | [],id,x,_,h=>by simp at h
 | y::H,0,x,ho,h=>by
  simp at h
  subst h
  simp only[bJ8,bW3,bXh]at ho
  exact ho.1
 | y::H,id+1,x,ho,h=>by
  simp only[bJ8,bW3]at ho
  exact aJ3 ho.2 (by simpa using h)

section
variable {P:Program} {gl:Nat->Option HB} {nt:Nat} {B:Fb} {X:List Ls} {m:M} {s:S} {g:Gh} {a:Act} {w:World}

theorem aVj{m0:M}{H0:HV}{w0:World}(h:SR gl nt B m s a w)(hX:LpR P gl X g m s.hp w)(hm:Mx (X.map (·.l)) m0 H0 w0 m s.hp w){b0 f z:Nat}(hd:∀id I,m0.blk id=some I->id<b0)(hb:H0.length<=b0)(hlow:Low X b0){K:S->Prop}(hK:bQr b0 f z s K) :
  ∃s' m',K s'∧SR gl nt B m' s' a w∧LpR P gl X g m' s'.hp w∧Mx (X.map (·.l)) m0 H0 w0 m' s'.hp w∧s'.hp.length=s.hp.length:=by
 unfold bQr at hK
 cases hf:(!Nat.blt f 4000)
 case true=>
  rw[hf]at hK
  exact⟨s,m,hK,h,hX,hm,rfl⟩
 rw[hf,bYi]at hK
 have hf':f<4000:=by
  have:Nat.blt f 4000=true:=by simpa using hf
  rwa[aD]at this
 split at hK
 ·rename_i id tot off len sz hv
  split at hK
  ·rename_i b hbk
   cases hc:(Nat.ble b0 id&&Nat.beq b.cs.length tot&&Nat.ble (off+len*sz) tot&&b.k !=.ro&&b.lf&&bX b.cs&&(T.put 12 s.tm f .undef).nor id&&bJ8 id (s.hp.set id aBg))
   ·rw[hc]at hK;exact hK.elim
   rw[hc,bXw]at hK
   simp only[bW3,bX5,bS,bZw,ne_eq]at hc
   obtain⟨⟨⟨⟨⟨⟨⟨c1,c2⟩,c3⟩,c4⟩,c5⟩,c6⟩,c7⟩,c8⟩:=hc
   have hvr:=h.tm f
   rw[hv]at hvr
   have hcur:cur s.hp id tot=true:=by simp[cur,hbk,c2,nK c4]
   obtain⟨I,o2,cap,hI,hIt,hvv,hcap,hpos⟩:=h.hp.sl hvr hcur
   have hB:=h.hp.blk id I b hI hbk
   obtain⟨cu,e,lo,hi,q1,q2,q3,q4,q5,q6⟩:=hB.row (nK c4)
   obtain⟨hd0,hmk⟩:=q5 c4
   have hown:jH m s.hp I.b:=⟨id,I,b,hI,hbk,.inl c4,rfl⟩
   obtain⟨m',hm'⟩:∃m':M,m'=⟨λj=>if j=id then none else m.blk j,m.opq,m.lp,λt k=>if t=0∧k=I.b then some cu.toList else m.frz t k⟩:=⟨_,rfl⟩
   have hnf:∀t cs,m.frz t I.b=some cs->False:=λt cs hc=>h.hp.fow t _ cs id I b hc hI hbk (.inl c4) rfl
   have hblk:∀j,j≠id->m'.blk j=m.blk j:=λj hj=>by subst hm';simp[hj]
   have hbn:∀j J,m'.blk j=some J->j≠id∧m.blk j=some J:=λj J hJ=>by
    subst hm'
    simp only at hJ
    split at hJ
    ·cases hJ
    ·rename_i hne;exact⟨hne,hJ⟩
   have hfr:∀t k cs,m.frz t k=some cs->m'.frz t k=some cs:=λt k cs hc=>by
    subst hm'
    simp only
    rw[if_neg]
    ·exact hc
    ·rintro⟨_,rfl⟩;exact hnf _ _ hc
   have hop:m'.opq=m.opq:=by subst hm';rfl
   have hlp:m'.lp=m.lp:=by subst hm';rfl
   have hs:Ext m.strip m'.strip:=⟨λ_ _ h=>(by cases h),hop,λ_ _ h=>(by cases h),λt k cs hc=>hfr t k cs hc⟩
   have hget:∀j,j≠id->(s.hp.set id aBg)[j]? = s.hp[j]? := λj hj=>by rw[bYu (cCn hj)]
   have hext:∀ {m1:M} {n:Nat},Ext m1 m->(∀j J,m1.blk j=some J->j<n)->n<=id->Ext m1 m':=λ{m1 n} he hdm hn=>by
    refine⟨λj J hJ => ?_,hop.trans he.opq,λu l hu=>by rw[hlp];exact he.lp u l hu,λt k cs hc=>hfr t k cs (he.frz t k cs hc)⟩
    have:=hdm j J hJ
    obtain⟨J',r1,r2,r3⟩:=he.blk j J hJ
    exact⟨J',by rw[hblk j (by omega)];exact r1,r2,r3⟩
   refine⟨_,m',hK,⟨λk => ?_,h.nt,h.df,⟨λj J hJ => ?_,λj J b' hJ hb' => ?_,λi j J J' b' h1 h2 h3 => ?_,λgg cs hg => ?_,h.hp.gld,λt k cs hg => ?_,λt k cs j J b' hg hJ hb' hk => ?_,λgg cs j J b' hg hJ hb' hk => ?_⟩⟩,⟨?_,λu l hu=>hX.key u l (by rw[←hlp];exact hu),hX.us,hX.ls⟩,
    ⟨hext hm.ext hd c1,hm.os,hm.tape,hm.output,hm.size,hm.keep,λk hk => ?_,by simp only[cA1];exact hm.len,λj hj hn => ?_,λt k cs hg => ?_⟩,by simp⟩
   ·show VR m' ((T.put 12 s.tm f _).get k) _
    rw[T.get_put 12 _ _ _ _ (by omega)]
    split
    ·rename_i hk
     subst hk
     rw[hvv]
     simp only[VR]
     have hln:((b.cs.drop off).take (len*sz)).length=len*sz:=by simp;omega
     refine⟨rfl,hln,some ⟨I.b,o2,none⟩,cap,rfl,hcap, ?_⟩
     rcases hpos with ⟨rfl,hpos⟩ | ⟨rfl,_⟩
     ·left
      have ht:=hB.tot
      refine⟨_,cu.toList,rfl,rfl,by subst hm';simp[M.strip], ?_, ?_⟩
      ·rw[hln,hd0];simp;omega
      ·rw[hln]
       rw[hd0,bXl]at q6
       have e1:(cu.toList.drop (I.d+off)).take (len*sz)=((cu.toList.take I.tot).drop off).take (len*sz):=by
        rw[hd0,bY6,cCl,cBr,bYf (by omega)]
       show VRL m'.strip _ ((cu.toList.drop (I.d+off)).take (len*sz))
       rw[e1]
       have q7:VRL m'.strip b.cs (cu.toList.take I.tot):=VRL.flat (m:=m) (m':=m'.strip) hop hs _ _ (hB.lf c5) c6 q6
       exact(q7.drop off).take (len*sz)
     ·right
      exact⟨rfl,bXo (by rw[hln];simp),λh=>by cases h⟩
    ·rename_i hk
     have:=T.nor_get (T.put 12 s.tm f .undef) k c7
     rw[T.get_put 12 _ _ _ _ (by omega),if_neg hk]at this
     exact VR.nor hblk hop hlp hs _ _ this (h.tm k)
   ·simp only[cA1];exact h.hp.dom j J (hbn j J hJ).2
   ·obtain⟨hj,hJ'⟩:=hbn j J hJ
    rw[hget j hj]at hb'
    have hBj:=h.hp.blk j J b' hJ' hb'
    have hnl:aI2 id b'.cs=true:=by
     rcases aJ3 (id:=j) (x:=b') c8 (by rw[hget j hj];exact hb')with h1 | h1
     ·exact kM _ (hBj.lf h1)
     ·exact h1
    refine⟨hBj.tot,hBj.lf,λhm => ?_,λc hc => ?_⟩
    ·obtain⟨cu',e',lo',hi',r1,r2,r3,r4,r5,r6⟩:=hBj.row hm
     exact⟨cu',e',lo',hi',r1,r2,r3,r4,r5,VRL.nor hblk hop hlp hs _ _ hnl r6⟩
    ·obtain⟨es,cl,r1,r2⟩:=hBj.mrow c hc
     rw[(jP hc).2]at hnl
     simp only[aI2,nor,bX4]at hnl
     exact⟨es,cl,r1,r2.nor hblk hop hlp hs hnl⟩
   ·obtain⟨e1,h1'⟩:=hbn i J h1
    obtain⟨e2,h2'⟩:=hbn j J' h2
    rw[hget i e1]at h3
    exact h.hp.inj i j J J' b' h1' h2' h3
   ·obtain⟨cu',e',fr',r1,r2⟩:=h.hp.glb gg cs hg
    exact⟨cu',e',fr',r1,VRL.nor hblk hop hlp hs _ _ (kM _ (h.hp.gld gg cs hg)) r2⟩
   ·subst hm'
    simp only at hg
    split at hg
    ·rename_i hc
     cases hg
     rw[hc.2]
     exact⟨cu,e,_,q1,by rw[bW4 (by simp)]⟩
    ·exact h.hp.frz t k cs hg
   ·obtain⟨hj,hJ'⟩:=hbn j J hJ
    rw[hget j hj]at hb'
    subst hm'
    simp only at hg
    split at hg
    ·rename_i hc
     rw[hc.2]
     intro e1
     exact hj (h.hp.inj j id J I b' hJ' hI hb' hk e1)
    ·exact h.hp.fow t k cs j J b' hg hJ' hb' hk
   ·obtain⟨hj,hJ'⟩:=hbn j J hJ
    rw[hget j hj]at hb'
    exact h.hp.gow gg cs j J b' hg hJ' hb' hk
   ·have aux:∀ {Y:List Ls} {l:List Lp},Low Y b0->Lps P gl m s.hp w Y l->Lps P gl m' (s.hp.set id aBg) w Y l:=by
     intro Y
     induction Y with
     | nil=>intro l _ hl;cases l<;>exact hl
     | cons x Y ih=>
      intro l hlo hl
      cases l with
      | nil=>exact hl.elim
      | cons p l=>
       obtain⟨h1,h2⟩:=hl
       have hx:=hlo x (by simp)
       exact⟨⟨h1.u,by rw[hlp];exact h1.lp,h1.row,hext h1.ext (λj J hJ=>bYe (h1.dom j J hJ) hx) c1,h1.dom,by simp only[cA1];exact h1.le,h1.tm,h1.nt,h1.ps,h1.ca,h1.cb,h1.ok⟩,ih (λy hy=>hlo y (by simp[hy])) h2⟩
    exact aux hlow hX.all
   ·refine hm.own k ?_
    obtain⟨j,J,b',r1,r2,r3,r4⟩:=hk
    obtain⟨hj,hJ'⟩:=hbn j J r1
    exact⟨j,J,b',hJ',by rw[←hget j hj];exact r2,r3,r4⟩
   ·have:=hm.nw j hj hn
    rw[hblk j (by omega)]
    exact this
   ·subst hm'
    simp only at hg
    split at hg
    ·rename_i hc
     rw[hc.2]
     exact .inr (hm.own _ hown)
    ·exact hm.fz t k cs hg
  ·exact hK.elim
 ·rename_i hv
  cases hz:Nat.blt 0 z
  ·rw[hz]at hK
   exact⟨s,m,hK,h,hX,hm,rfl⟩
  ·rw[hz,bXw]at hK
   refine⟨_,m,hK,⟨λk => ?_,h.nt,h.df,h.hp⟩,hX,hm,rfl⟩
   show VR m ((T.put 12 s.tm f _).get k) _
   rw[T.get_put 12 _ _ _ _ (by omega)]
   split
   ·rename_i hk
    subst hk
    have:=h.tm k
    rw[hv]at this
    simp only[VR]at this ⊢
    rw[this]
    exact⟨rfl,by simp,none,0,rfl,bXe _,.inr ⟨by simp,by simp⟩⟩
   ·exact h.tm k
 ·exact⟨s,m,hK,h,hX,hm,rfl⟩

theorem aE9{m0:M}{H0:HV}{w0:World}{b0:Nat}(hd:∀id I,m0.blk id=some I->id<b0)(hb:H0.length<=b0)(hlow:Low X b0):∀ (l:List (Nat×Nat)) (s:S) (m:M) {K:S->Prop},SR gl nt B m s a w->LpR P gl X g m s.hp w->Mx (X.map (·.l)) m0 H0 w0 m s.hp w->aUj b0 l s K →
  ∃s' m',K s'∧SR gl nt B m' s' a w∧LpR P gl X g m' s'.hp w∧Mx (X.map (·.l)) m0 H0 w0 m' s'.hp w∧s'.hp.length=s.hp.length
 | [],s,m,K,h,hX,hm,hK=>⟨s,m,hK,h,hX,hm,rfl⟩
 | (f,z)::l,s,m,K,h,hX,hm,hK=>by
  obtain⟨s1,m1,k1,k2,k3,k4,k5⟩:=aVj h hX hm hd hb hlow hK
  obtain⟨s2,m2,r1,r2,r3,r4,r5⟩:=aE9 hd hb hlow l s1 m1 k2 k3 k4 k1
  exact⟨s2,m2,r1,r2,r3,r4,r5.trans k5⟩
theorem uM{H:HV}{id:Nat}{b:Blk}(hl:id<H.length)(h:(H++[aBg])[id]? = some b):H[id]? = some b:=by
 rwa[bXx hl]at h
theorem HR.pad{H:HV}(h:HR gl m H w):HR gl m (H++[aBg]) w:=
 ⟨λid I hi=>by have:=h.dom id I hi;rw[bW2];omega,λid I b hi hb=>h.blk id I b hi (uM (h.dom id I hi) hb),
  λid id' I I' b h1 h2 h3 h4 h5=>h.inj id id' I I' b h1 h2 (uM (h.dom id I h1) h3) h4 h5,h.glb,h.gld,h.frz,
  λt k cs id I b hf hi hb hk=>h.fow t k cs id I b hf hi (uM (h.dom id I hi) hb) hk,λg cs id I b hg hi hb hk=>h.gow g cs id I b hg hi (uM (h.dom id I hi) hb) hk⟩
theorem Mv.pad{H:HV}(h:HR gl m H w):Mv m H w m (H++[aBg]) w:=by
 refine⟨⟨Ext.refl m,rfl,rfl,rfl,bXe _,λ_ _ _=>rfl,λk hk=>.inr ?_,λ_ _ h=>h,λ_ _ _ h=>.inl h⟩,by rw[bW2];omega,λ_ _ h=>h⟩
 obtain⟨id,I,b,h1,h2,h3,h4⟩:=hk
 exact⟨id,I,b,h1,uM (h.dom id I h1) h2,h3,h4⟩
theorem bHe{n:Nat}{dst:Option Nat}{v:AV}{H':HV}{m':M}{w':World}{cv:Value}(h:SR gl nt B m s a w)(hX:LpR P gl X g m s.hp w)(hd:∀d,dst=some d->d<nt)(hnt:nt<=4000)(hmv:Mv m s.hp w m' H' w')(hH':HR gl m' H' w')(hv:VR m' v cv)(hn:n=s.hp.length){K:S->Prop}(hK:bU7 n dst v ⟨s.tm,H'⟩ K) :
  ∃s' m'',K s'∧SR gl nt B m'' s' (a.put dst cv) w'∧LpR P gl X g m'' s'.hp w'∧Mx (X.map (·.l)) m s.hp w m'' s'.hp w':=by
 subst hn
 have hs':=h.step hmv hH'
 have hX':=hX.step (g':=g) h.hp hmv rfl (bXe _)
 unfold bU7 at hK
 cases dst with
 | none=>exact hK.elim
 | some d=>
  have hd':=hd d rfl
  dsimp only at hK
  split at hK
  ·rename_i id tot off len sz
   cases hc:Nat.beq id s.hp.length
   ·rw[hc,bYi]at hK
    cases hc2:(Nat.beq len 0&&cur H' id tot)
    ·rw[hc2]at hK;exact hK.elim
    ·rw[hc2,bXw]at hK
     simp only[bW3,bS]at hc2
     obtain⟨rfl,hcur⟩:=hc2
     obtain⟨I,o2,cap,hI,hIt,hvv,hcap,hpos⟩:=hH'.sl hv hcur
     have hp:=hH'.pad
     have hvl:VR m' (.lst 0 [] 0 sz) cv:=by
      rw[hvv]
      simp only[VR]
      refine⟨by first | rfl | trivial,by first | trivial | simp,some ⟨I.b,o2,none⟩,cap,rfl,bYb _,.inr ?_⟩
      simp
     have hs2:=(hs'.step (Mv.pad hH') hp).put hvl (dst:=some d) (λx hx=>hd x hx) hnt
     exact⟨_,m',hK,hs2,hX'.step (g':=g) hH' (Mv.pad hH') rfl (bXe _),(hmv.trans (Mv.pad hH')).mx _⟩
   ·rw[hc,bXw]at hK
    have hs2:=hs'.put hv (dst:=some d) (λx hx=>hd x hx) hnt
    obtain⟨s2,m2,k1,k2,k3,k4,_⟩:=aVj (m0:=m) (H0:=s.hp) (w0:=w) hs2 hX' (hmv.mx _) (b0:=s.hp.length) h.hp.dom (bXe _) hX.low hK
    exact⟨s2,m2,k1,k2,k3,k4⟩
  ·exact hK.elim
end
end Go.Proofs.YtnhechnaemmdiaaGreatDoor
