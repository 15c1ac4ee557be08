/-
  The engine, part D: an operation that writes nothing does what the engine says of it.
-/
import Derived.Test.YtnhechnaemmdiaaGreatDoorEnA
set_option linter.unusedSimpArgs false
set_option linter.unusedVariables false
namespace Go.Proofs.YtnhechnaemmdiaaGreatDoor
open Go.RowKit

theorem cZ{P:Program}{t:TypeId}{d:TypeDesc}(h:und P t=d)(hd:d≠.invalid):P.underlying t=some d:=by
 unfold und at h
 cases hu:P.underlying t with
 | none=>rw[hu]at h;exact absurd h.symm hd
 | some x=>rw[hu]at h;simpa using h

theorem fC{P:Program}{t:TypeId}(h:bV P t=true):(∃i,P.info? t=some i)∧P.underlying t=some (und P t):=by
 unfold bV at h
 simp only[bW3,cAk]at h
 refine⟨h.1, ?_⟩
 obtain⟨d,hd⟩:=h.2
 simp[und,hd]

section
variable {P:Program} {w:World}

theorem eB{t:TypeId}{d:TypeDesc}(h:und P t=d)(hd:d≠.invalid):(underlying t).run P w=.ok d w:=bXj (cZ h hd) w

theorem bN{t:TypeId}(h:bV P t=true):(sizeOf t).run P w=.ok (szT P t) w:=by
 obtain⟨⟨i,hi⟩,_⟩:=fC h
 simp[sizeOf,typeInfo,hi,szT,Program.cellsOf]

theorem oW{t:TypeId}(h:bV P t=true):(isAgg t).run P w=.ok (aAh P t) w:=by
 obtain⟨_,hd⟩:=fC h
 simp only[isAgg,bY1,bXj hd,bYl,aAh]
 cases und P t<;>rfl

theorem dL{s:Sem Value}{v:Value}{w':World}(h:s.run P w=.ok v w'):(do pure (Next.value (← s)):Sem Next).run P w=.ok (.value v) w':=by
 simp[h]
end

theorem qZ{H:HV}{id tot:Nat}(h:cur H id tot=true):∃b,H[id]? = some b∧b.cs.length=tot:=by
 unfold cur at h
 split at h
 ·rename_i b hb
  simp only[bW3]at h
  exact⟨b,hb,bYg h.2⟩
 ·cases h
theorem aC3{H:HV}{id tot:Nat}{b:Blk}(h:cur H id tot=true)(hb:H[id]? = some b):isMap b=false:=by
 unfold cur at h
 rw[hb]at h
 simp only[bW3,bYc]at h
 exact h.1

section
variable {gl:Nat->Option HB} {m:M} {H:HV} {w:World}

theorem HR.cur(hH:HR gl m H w){id tot:Nat}(h:cur H id tot=true){I:Inf}(hI:m.blk id=some I):I.tot=tot:=by
 obtain⟨b,hb,e⟩:=qZ h
 rw[(hH.blk id I b hI hb).tot,e]

theorem HR.ptr(hH:HR gl m H w){id tot off:Nat}{v:Value}(hv:VR m (.ptr id tot off) v)(h:Go.Proofs.YtnhechnaemmdiaaGreatDoor.cur H id tot=true):∃I,m.blk id=some I∧I.tot=tot∧v=.pointer (some ⟨I.b,I.d+off,none⟩):=by
 simp only[VR]at hv
 obtain⟨_,I,hI,h1,h2⟩:=hv
 have e:=hH.cur h hI
 exact⟨I,hI,e,h2 e.symm⟩

theorem HR.sl(hH:HR gl m H w){id tot off len sz:Nat}{v:Value}(hv:VR m (.sl id tot off len sz) v)(h:Go.Proofs.YtnhechnaemmdiaaGreatDoor.cur H id tot=true):∃I o cap,m.blk id=some I∧I.tot=tot∧v=.slice (some ⟨I.b,o,none⟩) len cap∧len<=cap∧((o=I.d+off∧o+cap*sz<=I.lim)∨(len=0∧cap=0)):=by
 simp only[VR]at hv
 obtain⟨_,I,hI,h1,h2⟩:=hv
 have e:=hH.cur h hI
 obtain⟨o,cap,h3,h4,h5,_⟩:=h2 e.symm
 exact⟨I,o,cap,hI,e,h3,h4,h5⟩

theorem HR.slc(hH:HR gl m H w){id tot off len sz:Nat}{v:Value}(hv:VR m (.sl id tot off len sz) v)(h:Go.Proofs.YtnhechnaemmdiaaGreatDoor.cur H id tot=true):∃I o cap,m.blk id=some I∧I.tot=tot∧v=.slice (some ⟨I.b,o,none⟩) len cap∧len<=cap∧((o=I.d+off∧o+cap*sz<=I.lim)∨(len=0∧cap=0))∧(sz≠0->tot<=9223372036854775807->cap<=9223372036854775807):=by
 simp only[VR]at hv
 obtain⟨_,I,hI,h1,h2⟩:=hv
 have e:=hH.cur h hI
 obtain⟨o,cap,h3,h4,h5,h6⟩:=h2 e.symm
 exact⟨I,o,cap,hI,e,h3,h4,h5,h6⟩

theorem HR.cells(hH:HR gl m H w){id tot off n:Nat}(h:Go.Proofs.YtnhechnaemmdiaaGreatDoor.cur H id tot=true){I:Inf}(hI:m.blk id=some I)(hn:off+n<=tot) :
  ∃vs:List Value,vs.length=n∧(∀j v,vs[j]? = some v->w.cell? ⟨I.b,I.d+off+j,none⟩=some v)∧VRL m (aR H id off n) vs:=by
 obtain⟨b,hb,e⟩:=qZ h
 have hB:=hH.blk id I b hI hb
 obtain⟨cu,el,lo,hi,h1,h2,h3,_,_,h6⟩:=hB.row (aC3 h hb)
 have ht:I.tot=tot:=by rw[hB.tot,e]
 refine⟨(((cu.toList.drop I.d).take I.tot).drop off).take n, ?_, ?_, ?_⟩
 ·simp;omega
 ·intro j v hj
  rw[cCo w I.b (I.d+off+j) cu el (lo,hi) h1]
  simp only[bXz,bYo]at hj
  split at hj
  ·split at hj
   ·rw[←bZg,←hj]
    congr 1
    omega
   ·cases hj
  ·cases hj
 ·simp only[aR,hb]
  exact(h6.drop off).take n

theorem jT{P:Program}{w:World}{b o:Nat}(vs:List Value)(h:∀j v,vs[j]? = some v->w.cell? ⟨b,o+j,none⟩=some v) :
  (loadCells ⟨b,o,none⟩ vs.length).run P w=.ok vs.toArray w:=
 run_loadCells_list w _ vs (λj v hj=>by rw[cAq];exact h j v hj)

theorem xP{P:Program}{t:TypeId}(ht:bV P t=true)(b o:Nat)(vs:List Value)(h:∀j v,vs[j]? = some v->w.cell? ⟨b,o+j,none⟩=some v)
  (hn:vs.length=if aAh P t then szT P t else 1):∃v,(loadVar t ⟨b,o,none⟩).run P w=.ok v w∧(if aAh P t then v=.agg vs.toArray else vs=[v]):=by
 by_cases ha:aAh P t=true
 ·simp only[ha,cBu]at hn ⊢
  refine⟨.agg vs.toArray, ?_,rfl⟩
  simp only[loadVar,bY1,oW ht,bYl,ha,cBu,bN ht]
  rw[←hn,jT vs h]
  rfl
 ·have ha':aAh P t=false:=by simpa using ha
  simp only[ha',cBj,bY5]at hn ⊢
  match vs,hn with
  | [v],_=>
   refine⟨v, ?_,rfl⟩
   have hc:=h 0 v rfl
   simp only[bYv]at hc
   simp[loadVar,oW ht,ha',hc]
end

theorem iE{a:AV}{l:HB}(h:gT a=some l){m:M}{v:Value}(hv:VR m a v):VRL m l v.cells.toList:=by
 cases a<;>simp only[gT]at h
 case undef=>cases h
 case tup=>cases h
 case agg cs=>
  cases h
  simp only[VR]at hv
  obtain⟨x,rfl,hx⟩:=hv
  exact hx
 all_goals
  cases h
  have hv':=hv
  simp only[VR]at hv
  have e:v.cells = #[v]:=by
   first
    | (subst hv;rfl)
    | (obtain⟨h1,_⟩:=hv;cases v<;>first | rfl | (simp[Value.oneCell']at h1;done))
    | (obtain⟨_,h1⟩:=hv;cases v<;>first | rfl | (simp[Value.oneCell']at h1;done))
    | (obtain⟨_,_,rfl,_⟩:=hv;rfl)
    | (obtain⟨_,rfl,_⟩:=hv;rfl)
  rw[e]
  exact VRL.one hv'

theorem bMw{a:AV}(h:one a=true){m:M}{v:Value}(hv:VR m a v):v.oneCell'=true:=by
 cases a<;>simp only[one]at h<;>(try cases h)<;>simp only[VR]at hv
 all_goals first
  | (subst hv;rfl)
  | (exact hv.1)
  | (exact hv.2)
  | (obtain⟨_,_,rfl,_⟩:=hv;rfl)
  | (obtain⟨_,rfl,_⟩:=hv;rfl)

theorem aI5:∀ {l:HB} (_:eH l=true) {m:M} {vs:List Value} (_:VRL m l vs),∀v∈vs,v.oneCell'=true
 | [],_,m,vs,h=>by
  rw[gL]at h
  subst h
  simp
 | a::l,h,m,vs,hv=>by
  simp only[eH,bW3]at h
  obtain⟨v,vs',rfl,h1,h2⟩:=bB hv
  intro x hx
  rcases bXd.1 hx with rfl | hx
  ·exact bMw h.1 h1
  ·exact aI5 h.2 h2 x hx

theorem aJ7(m:M):∀ (d:Nat) (v:Value),VR m (ofV d v) v
 | 0,v=>by
  cases v<;>try(simp[ofV,VR];done)
  case pointer a=>cases a<;>simp[ofV,VR]
  case map a=>cases a<;>simp[ofV,VR]
  case slice a l c=>rcases a with _ | a<;>rcases l with _ | l<;>rcases c with _ | c<;>simp[ofV,VR]
 | d+1,v=>by
  have hl:∀l:List Value,VRL m (l.map (ofV d)) l:=by
   intro l
   induction l with
   | nil=>simp
   | cons x xs ih=>simp only[bXu,bH];exact⟨aJ7 m d x,ih⟩
  cases v<;>try(simp[ofV,VR];done)
  case pointer a=>cases a<;>simp[ofV,VR]
  case map a=>cases a<;>simp[ofV,VR]
  case slice a l c=>rcases a with _ | a<;>rcases l with _ | l<;>rcases c with _ | c<;>simp[ofV,VR]
  case agg cs=>simp only[ofV,VR];exact⟨cs,rfl,hl _⟩
  case tuple cs=>simp only[ofV,VR];exact⟨cs,rfl,hl _⟩

structure NewB (m:M) (nb:Blk) (I:Inf) (w w':World):Prop where
 os:w'.os=w.os
 tape:w'.tape=w.tape
 output:w'.output=w.output
 lf:nb.lf=true->aP 0 nb.cs=true
 tot:I.tot=nb.cs.length
 b:I.b=w.heap.size
 d:I.d=0
 row:∃cu e lo hi,w'.heap=w.heap.push (.cells cu e (lo,hi))∧I.tot<=I.lim∧I.lim<=cu.size∧(nb.k=.exact->I.lim=I.tot)∧nb.k≠.ro∧Mk nb.k lo hi cu.size∧VRL m nb.cs (cu.toList.take I.tot)

def fH(P:Program)(m:M)(w:World)(ρ:Operand->Value)(o:Oper)(nid:Nat)(r:LR):Prop:=
 (r.nb=none∧∃v,(execOp ρ o).run P w=.ok (.value v) w∧VR m r.v v) ∨
 (∃nb v w' I,r.nb=some nb∧(execOp ρ o).run P w=.ok (.value v) w'∧NewB m nb I w w'∧∀m',m'.blk nid=some I->VR m' r.v v)

theorem rM{m:M}{cs:HB}{vs:Array Value}(h:VRL m cs vs.toList)(w:World)(e:TypeId)(k:BK)(hk:k≠.ro) :
  NewB m (iJ k cs) ⟨w.heap.size,0,cs.length,cs.length⟩ w (w.alloc (.cells vs e)):=by
 have hl:cs.length=vs.size:=by simpa using h.len
 refine⟨rfl,rfl,rfl,id,rfl,rfl,rfl,vs,e,0,0,rfl,bXe _,by simp[hl],λ_=>rfl,hk,.inl rfl, ?_⟩
 simp only[iJ,hl]
 rw[bW4 (by simp)]
 exact h
end Go.Proofs.YtnhechnaemmdiaaGreatDoor

namespace Go.Proofs.YtnhechnaemmdiaaGreatDoor
open Go.RowKit

theorem iW{m:M}{a:AV}{b:Bool}{i:Nat}{v:Value}(h:vE a=some (b,i))(hb:b=true)(hv:VR m a v):∃k n,v=.int k n∧0<=n∧i=n.toNat:=by
 match a,h,hv with
 | .int k n,h,hv=>
  simp only[vE,bW5,bX1]at h
  obtain⟨rfl,rfl⟩:=h
  simp only[VR]at hv
  exact⟨k,n,hv,by simpa using hb,rfl⟩

section
variable {P:Program} {gl:Nat->Option HB} {m:M} {H:HV} {w:World} {ρ:Operand->Value} {ev:AO->AV}

theorem bA9(hρ:∀x,VR m (ev (cO x)) (ρ x)){lo:Option Operand}{d l:Nat}{p:Bool}(h:bnd ev (lo.map cO) d=some (p,l))(hp:p=true) :
  (lo=none∧l=d)∨(∃x k n,lo=some x∧ρ x=.int k n∧0<=n∧l=n.toNat):=by
 cases lo with
 | none=>simp only[Option.map_none,bnd]at h;cases h;exact .inl ⟨rfl,rfl⟩
 | some x=>
  simp only[cB6,bnd]at h
  obtain⟨k,n,h1,h2,h3⟩:=iW h hp (hρ x)
  exact .inr ⟨x,k,n,rfl,h1,h2,h3⟩

theorem lK(hρ:∀x,VR m (ev (cO x)) (ρ x)){lo hi:Option Operand}{d l h:Nat}{p:Bool}(hb:lS (bnd ev (lo.map cO) 0) (bnd ev (hi.map cO) d)=some (p,l,h))(hp:p=true)
  (isSlice:Bool) (cap:Nat) (hl:l<=h) (hh:h<=cap):(Instr.sliceBounds isSlice d cap (lo.map ρ) (hi.map ρ) none).run P w=.ok (l,h,cap) w:=by
 unfold lS at hb
 split at hb
 ·rename_i p1 l1 p2 h1 e1 e2
  cases hb
  simp only[bW3]at hp
  have b1:=bA9 hρ e1 hp.1
  have b2:=bA9 hρ e2 hp.2
  rcases b1 with ⟨rfl,rfl⟩ | ⟨x,k,n,rfl,hx,hn,rfl⟩<;>rcases b2 with ⟨rfl,rfl⟩ | ⟨y,k',n',rfl,hy,hn',rfl⟩
  ·simp[Instr.sliceBounds]
  ·have:0<=n'∧n'<=(cap:Int):=⟨hn',by omega⟩
   cases isSlice<;>simp[Instr.sliceBounds,Instr.sliceBound,asIntOf,hy,this]
  ·have:0<=n∧n<=(h:Int):=⟨hn,by omega⟩
   simp[Instr.sliceBounds,Instr.sliceBound,asIntOf,hx,this]
  ·have h1:0<=n'∧n'<=(cap:Int):=⟨hn',by omega⟩
   have h2:0<=n∧n<=n':=⟨hn,by omega⟩
   have h3:(n'.toNat:Int)=n':=by omega
   cases isSlice<;>simp[Instr.sliceBounds,Instr.sliceBound,asIntOf,hx,hy,h1,h2,h3]
 ·cases hb

theorem aKl(hρ:∀x,VR m (ev (cO x)) (ρ x)){o:Oper}{x:Operand}(ho:o.op=.move x∨o.op=.assign x)(nid:Nat):fH P m w ρ o nid { v:=ev (cO x) }:=by
 refine .inl ⟨rfl,ρ x, ?_,hρ x⟩
 rcases ho with h | h<;>simp[execOp,h]

theorem Ext.of_strip(m:M):Ext m.strip m:=⟨λ_ _ h=>(by cases h),rfl,λ_ _ h=>(by cases h),λ_ _ _ h=>h⟩

theorem HR.lptr(hH:HR gl m H w){t:Nat}{l:HB}{off:Nat}{v:Value}(h:VR m (.lptr t l off) v){n:Nat}(hn:off+n<=l.length) :
  ∃b o,v=.pointer (some ⟨b,o+off,none⟩)∧∃us:List Value,us.length=n∧(∀ (j:Nat) u,us[j]? = some u->w.cell? ⟨b,o+off+j,none⟩=some u)∧VRL m ((l.drop off).take n) us:=by
 simp only[VR]at h
 obtain⟨_,b,o,cs,h1,h2,h3,h4⟩:=h
 obtain⟨cu,e,fr,h5,h6⟩:=hH.frz _ _ _ h2
 refine⟨b,o,h1,(((cs.drop o).take l.length).drop off).take n,by simp;omega,λj u hj => ?_,VRL.mono (Ext.of_strip m) _ _ ((h4.drop off).take n)⟩
 rw[cCo w b (o+off+j) cu e fr h5]
 simp only[bXz,bYo]at hj
 split at hj
 ·split at hj
  ·rw[←h6,bXz]at hj
   split at hj
   ·rw[←bZg,bYp];exact hj
   ·cases hj
  ·cases hj
 ·cases hj

theorem HR.lst(hH:HR gl m H w){t:Nat}{l:HB}{len sz:Nat}{v:Value}(h:VR m (.lst t l len sz) v) :
  l.length=len*sz∧∃oa cap,v=.slice oa len cap∧len<=cap∧∃us:List Value,us.length=l.length∧VRL m l us ∧
   ((∃b o,oa=some ⟨b,o,none⟩∧∀ (j:Nat) u,us[j]? = some u->w.cell? ⟨b,o+j,none⟩=some u)∨(len=0∧us=[]∧(oa=none->cap=0))):=by
 simp only[VR]at h
 obtain⟨_,hl,a,cap,h1,h2,h3⟩:=h
 refine⟨hl,a,cap,h1,h2, ?_⟩
 rcases h3 with ⟨a,cs,rfl,f0,f1,f2,f3⟩ | ⟨h0,rfl,h4⟩
 ·obtain⟨cu,e,fr,h5,h6⟩:=hH.frz _ _ _ f1
  obtain⟨b,o,sp⟩:=a
  simp only at f0 f1 f2 f3 h5
  subst f0
  refine⟨(cs.drop o).take l.length,by simp;omega,VRL.mono (Ext.of_strip m) _ _ f3,.inl ⟨b,o,rfl,λj u hj => ?_⟩⟩
  rw[cCo w b (o+j) cu e fr h5]
  simp only[bXz,bYo]at hj
  split at hj
  ·rw[←h6,bXz]at hj
   split at hj
   ·rw[←bZg];exact hj
   ·cases hj
  ·cases hj
 ·exact⟨[],rfl,by simp,.inr ⟨h0,rfl,h4⟩⟩

theorem bAk(hH:HR gl m H w)(hρ:∀x,VR m (ev (cO x)) (ρ x)){o:Oper}{t:TypeId}{x:Operand}(ho:o.op=.load t x)(nid:Nat){r:LR}
  (h:lop gl ev (cur H) (aR H) nid (cOp P o.op)=some r) (hp:r.pre=true):fH P m w ρ o nid r:=by
 rw[ho]at h
 simp only[cOp]at h
 split at h
 ·rename_i hk
  simp only[lop]at h
  have hx:=hρ x
  have key:∀ (b o2:Nat) (vs:List Value),ρ x=.pointer (some ⟨b,o2,none⟩)->(∀j v,vs[j]? = some v->w.cell? ⟨b,o2+j,none⟩=some v)->vs.length=(if aAh P t then szT P t else 1) →
    ∃v,(execOp ρ o).run P w=.ok (.value v) w∧(if aAh P t then v=.agg vs.toArray else vs=[v]):=by
   intro b o2 vs he hc hn
   obtain⟨v,hv,hv2⟩:=xP (w:=w) hk b o2 vs hc hn
   refine⟨v, ?_,hv2⟩
   simp only[execOp,ho]
   exact dL (by simp[Instr.loadAt,Instr.sureAddr,he,hv])
  split at h
  ·rename_i id tot off he
   rw[he]at hx
   cases ha:aAh P t
   ·rw[ha]at h
    simp only[bYi,bW5]at h
    subst h
    simp only[bW3,aD]at hp
    obtain⟨I,hI,hIt,hv⟩:=hH.ptr hx hp.1
    obtain⟨vs,h1,h2,h3⟩:=hH.cells (n:=1) hp.1 hI (by omega:off+1<=tot)
    obtain⟨v,hr,hv2⟩:=key _ _ vs hv h2 (by simp[ha,h1])
    simp only[ha,bY5,cBj]at hv2
    refine .inl ⟨rfl,v,hr, ?_⟩
    subst hv2
    cases hc:aR H id off 1 with
    | nil=>rw[hc]at h3;simp at h3
    | cons a l=>
     rw[hc]at h3
     simp only[bH]at h3
     exact h3.1
   ·rw[ha]at h
    simp only[bXw,bW5]at h
    subst h
    simp only[bW3,bX5]at hp
    obtain⟨I,hI,hIt,hv⟩:=hH.ptr hx hp.1
    obtain⟨vs,h1,h2,h3⟩:=hH.cells (n:=szT P t) hp.1 hI hp.2
    obtain⟨v,hr,hv2⟩:=key _ _ vs hv h2 (by simp[ha,h1])
    simp only[ha,cBu]at hv2
    refine .inl ⟨rfl,v,hr, ?_⟩
    subst hv2
    simp only[VR]
    exact⟨_,rfl,by simpa using h3⟩
  ·rename_i g off he
   rw[he]at hx
   simp only[VR]at hx
   split at h
   ·rename_i cs hg
    obtain⟨cu,e,fr,hrow,hcs⟩:=hH.glb g cs hg
    have hlen:cs.length=cu.size:=by simpa using hcs.len
    cases ha:aAh P t
    ·rw[ha]at h
     simp only[bYi,bW5]at h
     subst h
     simp only[aD]at hp
     obtain⟨v,hr,hv2⟩:=key g off [cu.toList.getD off default] hx (by
      intro j v hj
      cases j with
      | zero=>
       simp at hj
       have ho:off<cu.size:=by omega
       rw[cCo w g (off+0) cu e fr hrow,←hj]
       simp[ho]
      | succ j=>simp at hj) (by simp[ha])
     simp only[ha,bY5,cBj]at hv2
     refine .inl ⟨rfl,v,hr, ?_⟩
     have ha2:cs[off]? = some (cs.getD off .undef):=by simp[hp]
     obtain⟨v',hv',hR⟩:=hcs.get ha2
     have:v'=v:=by
      have e1:cu.toList.getD off default=v:=by simpa using hv2
      rw[←e1]
      simp only[bW7,hv',cBd]
     subst this
     exact hR
    ·rw[ha]at h
     simp only[bXw,bW5]at h
     subst h
     simp only[bX5]at hp
     obtain⟨v,hr,hv2⟩:=key g off ((cu.toList.drop off).take (szT P t)) hx (by
      intro j v hj
      rw[cCo w g (off+j) cu e fr hrow]
      simp only[bXz,bYo]at hj
      split at hj
      ·rw[←bZg];exact hj
      ·cases hj) (by simp[ha];omega)
     simp only[ha,cBu]at hv2
     refine .inl ⟨rfl,v,hr, ?_⟩
     subst hv2
     simp only[VR]
     exact⟨_,rfl,by simpa using(hcs.drop off).take (szT P t)⟩
   ·cases h
  ·rename_i t' l off he
   rw[he]at hx
   cases ha:aAh P t
   ·rw[ha]at h
    simp only[bYi,bW5]at h
    subst h
    simp only[aD]at hp
    obtain⟨b,o2,hv,us,h1,h2,h3⟩:=hH.lptr hx (n:=1) (by omega)
    obtain⟨v,hr,hv2⟩:=key _ _ us hv h2 (by simp[ha,h1])
    simp only[ha,bY5,cBj]at hv2
    refine .inl ⟨rfl,v,hr, ?_⟩
    subst hv2
    have e1:(l.drop off).take 1=[l.getD off .undef]:=by
     rw[List.take_one,List.head?_drop]
     simp[hp]
    rw[e1]at h3
    simp only[bH]at h3
    exact h3.1
   ·rw[ha]at h
    simp only[bXw,bW5]at h
    subst h
    simp only[bX5]at hp
    obtain⟨b,o2,hv,us,h1,h2,h3⟩:=hH.lptr hx (n:=szT P t) hp
    obtain⟨v,hr,hv2⟩:=key _ _ us hv h2 (by simp[ha,h1])
    simp only[ha,cBu]at hv2
    refine .inl ⟨rfl,v,hr, ?_⟩
    subst hv2
    simp only[VR]
    exact⟨_,rfl,by simpa using h3⟩
  ·cases h
 ·simp[lop]at h

theorem aQa(hH:HR gl m H w)(hρ:∀x,VR m (ev (cO x)) (ρ x)){o:Oper}{x:Operand}(ho:o.op=.nilCheck x)(nid:Nat){r:LR}
  (h:lop gl ev (cur H) (aR H) nid (cOp P o.op)=some r) (hp:r.pre=true):fH P m w ρ o nid r:=by
 rw[ho]at h
 simp only[cOp,lop]at h
 have hx:=hρ x
 split at h
 ·rename_i id tot off he
  rw[he]at hx
  cases h
  obtain⟨I,hI,hIt,hv⟩:=hH.ptr hx hp
  exact .inl ⟨rfl,ρ x,by simp[execOp,ho,hv],hx⟩
 ·rename_i g off he
  rw[he]at hx
  cases h
  have hv:=hx
  simp only[VR]at hv
  exact .inl ⟨rfl,ρ x,by simp[execOp,ho,hv],hx⟩
 ·rename_i f a b he
  rw[he]at hx
  cases h
  have hv:=hx
  simp only[VR]at hv
  obtain⟨x',y',hv,_⟩:=hv
  exact .inl ⟨rfl,ρ x,by simp[execOp,ho,hv],hx⟩
 ·rename_i t v he
  rw[he]at hx
  cases h
  have hv:=hx
  simp only[VR]at hv
  obtain⟨x',hv,_⟩:=hv
  exact .inl ⟨rfl,ρ x,by simp[execOp,ho,hv],hx⟩
 ·rename_i t l off he
  rw[he]at hx
  cases h
  have hv:=hx
  simp only[VR]at hv
  obtain⟨_,b,o2,cs,hv,_⟩:=hv
  exact .inl ⟨rfl,ρ x,by simp[execOp,ho,hv],hx⟩
 ·cases h

theorem aZ1(hρ:∀x,VR m (ev (cO x)) (ρ x)){o:Oper}{c a b:Operand}(ho:o.op=.pick c a b)(nid:Nat){r:LR}{cu ca}
  (h:lop gl ev cu ca nid (cOp P o.op)=some r):fH P m w ρ o nid r:=by
 rw[ho]at h
 simp only[cOp,lop]at h
 have hc:=hρ c
 split at h
 ·rename_i t he
  rw[he]at hc
  cases h
  simp only[VR]at hc
  refine .inl ⟨rfl,if t then ρ a else ρ b,by simp[execOp,ho,hc,asBool], ?_⟩
  cases t
  ·exact hρ b
  ·exact hρ a
 ·cases h

theorem bLr(hρ:∀x,VR m (ev (cO x)) (ρ x)){o:Oper}{op:UnOp}{t:TypeId}{x:Operand}(ho:o.op=.unOp op t x)(nid:Nat){r:LR}{cu ca}
  (bits:∀op k a b v,intBits op k a b=some v->∀w:World,∃v',(Op.intBits op k a b).run P w=.ok v' w∧VR m v v')
  (h:lop gl ev cu ca nid (cOp P o.op)=some r):fH P m w ρ o nid r:=by
 rw[ho]at h
 simp only[cOp,lop]at h
 have hx:=hρ x
 split at h
 ·rename_i v he
  cases h
  unfold bWj at he
  split at he
  ·rename_i k n hn
   rw[hn]at hx
   simp only[VR]at hx
   cases he
   exact .inl ⟨rfl,_,by simp only[execOp,ho];exact dL (by simp[Op.unary,hx,Op.intArith];rfl),by simp[VR]⟩
  ·rename_i k n hn
   rw[hn]at hx
   simp only[VR]at hx
   obtain⟨v',hv',hR⟩:=bits _ _ _ _ _ he w
   exact .inl ⟨rfl,v',by simp only[execOp,ho];exact dL (by simp only[Op.unary,hx];exact hv'),hR⟩
  ·rename_i b hn
   rw[hn]at hx
   simp only[VR]at hx
   cases he
   exact .inl ⟨rfl,.bool !b,by simp only[execOp,ho];exact dL (by simp[Op.unary,hx]),by simp[VR]⟩
  ·cases he
 ·cases h

theorem aW7(hρ:∀x,VR m (ev (cO x)) (ρ x)){o:Oper}{t:TypeId}{x:Operand}(ho:o.op=.makeInterface t x)(nid:Nat){r:LR}{cu ca}
  (h:lop gl ev cu ca nid (cOp P o.op)=some r):fH P m w ρ o nid r:=by
 rw[ho]at h
 simp only[cOp]at h
 split at h
 ·simp[lop]at h
 ·simp[lop]at h
 ·rename_i d h1 h2
  simp only[lop,bW5]at h
  subst h
  refine .inl ⟨rfl,.iface t (ρ x), ?_,by simp only[VR];exact⟨_,rfl,hρ x⟩⟩
  simp only[execOp,ho]
  refine dL ?_
  have hu:P.underlying t=some (und P t):=cZ rfl (λe=>h2 e)
  simp only[Instr.makeInterface,bY1,bXj hu,bYl]
  revert h1
  cases und P t<;>intro h1<;>first | rfl | exact absurd rfl (h1 _)

theorem aFr(hρ:∀x,VR m (ev (cO x)) (ρ x))(l:List Operand):VRL m ((l.map cO).map ev) (l.map ρ):=by
 induction l with
 | nil=>simp
 | cons x l ih=>simp only[bXu,bH];exact⟨hρ x,ih⟩

theorem bAc(hρ:∀x,VR m (ev (cO x)) (ρ x)){o:Oper}{f:Fn}{a b:Array Operand}(ho:o.op=.makeFunc f a b)(nid:Nat){r:LR}{cu ca}
  (h:lop gl ev cu ca nid (cOp P o.op)=some r):fH P m w ρ o nid r:=by
 rw[ho]at h
 simp only[cOp,lop,bW5]at h
 subst h
 refine .inl ⟨rfl,.func f (a.map ρ) (b.map ρ),by simp[execOp,ho,Instr.makeFunc], ?_⟩
 simp only[VR]
 exact⟨_,_,rfl,by simpa using aFr hρ a.toList,by simpa using aFr hρ b.toList⟩

theorem bGb(hρ:∀x,VR m (ev (cO x)) (ρ x)){o:Oper}{x:Operand}{i:Nat}(ho:o.op=.extract x i)(nid:Nat){r:LR}{cu ca}
  (h:lop gl ev cu ca nid (cOp P o.op)=some r) (hp:r.pre=true):fH P m w ρ o nid r:=by
 rw[ho]at h
 simp only[cOp,lop]at h
 have hx:=hρ x
 split at h
 ·rename_i vs he
  rw[he]at hx
  cases h
  simp only[aD]at hp
  simp only[VR]at hx
  obtain⟨cs,hv,hl⟩:=hx
  obtain⟨v,hv1,hv2⟩:=hl.get (i:=i) (a:=vs.getD i .undef) (by simp[hp])
  refine .inl ⟨rfl,v, ?_,hv2⟩
  rw[bZg]at hv1
  simp[execOp,ho,Instr.extract,hv,hv1]
 ·cases h

theorem qA{t:TypeId}(ht:bV P t=true){off:Nat}{l:HB}{cs:Array Value}(hl:VRL m l cs.toList)(hp:aAh P t=true∨off<l.length) :
  ∃v,(part t cs off).run P w=.ok v w∧VR m (partOf (ptT P t off) l) v:=by
 by_cases ha:aAh P t=true
 ·refine⟨.agg (cs.extract off (off+szT P t)),by simp[part,oW ht,ha,bN ht], ?_⟩
  simp only[partOf,ptT,ha,bXw,VR]
  refine⟨_,rfl, ?_⟩
  have:=(hl.drop off).take (szT P t)
  simpa[Array.toList_extract,List.extract]using this
 ·have ha':aAh P t=false:=by simpa using ha
  have ho:off<l.length:=hp.resolve_left ha
  obtain⟨v,hv1,hv2⟩:=hl.get (i:=off) (a:=l.getD off .undef) (by simp[ho])
  rw[bZg]at hv1
  exact⟨v,by simp[part,oW ht,ha',hv1],by simpa[partOf,ptT,ha']using hv2⟩

theorem aSg(hρ:∀x,VR m (ev (cO x)) (ρ x)){o:Oper}{t:TypeId}{x:Operand}{i:Nat}(ho:o.op=.field t x i)(nid:Nat){r:LR}{cu ca}
  (h:lop gl ev cu ca nid (cOp P o.op)=some r) (hp:r.pre=true):fH P m w ρ o nid r:=by
 rw[ho]at h
 simp only[cOp]at h
 split at h
 ·rename_i fs hu
  split at h
  ·rename_i f hf
   split at h
   ·rename_i hk
    simp only[lop]at h
    have hx:=hρ x
    split at h
    ·rename_i l he
     rw[he]at hx
     cases h
     simp only[VR]at hx
     obtain⟨cs,hv,hl⟩:=hx
     simp only[bXh,aD]at hp
     obtain⟨v,hv1,hv2⟩:=qA (P:=P) (w:=w) hk hl hp
     refine .inl ⟨rfl,v, ?_,hv2⟩
     simp only[execOp,ho]
     exact dL (by simp[Instr.field,eB hu (by simp),hf,hv,asAgg];exact hv1)
    ·cases h
   ·simp[lop]at h
  ·simp[lop]at h
 ·simp[lop]at h

theorem bOy(hH:HR gl m H w)(hρ:∀x,VR m (ev (cO x)) (ρ x)){o:Oper}{t:TypeId}{x:Operand}{i:Nat}(ho:o.op=.fieldAddr t x i)(nid:Nat){r:LR}
  (h:lop gl ev (cur H) (aR H) nid (cOp P o.op)=some r) (hp:r.pre=true):fH P m w ρ o nid r:=by
 rw[ho]at h
 simp only[cOp]at h
 split at h
 ·rename_i fs hu
  split at h
  ·rename_i f hf
   split at h
   ·rename_i hk
    simp only[bW3,aD]at hk
    have hs:szT P f.type≠0:=by omega
    simp only[lop]at h
    have hx:=hρ x
    have key:∀b d,ρ x=.pointer (some ⟨b,d,none⟩)->(execOp ρ o).run P w=.ok (.value (.pointer (some ⟨b,d+f.offset,none⟩))) w:=by
     intro b d hv
     simp only[execOp,ho]
     exact dL (by simp[Instr.fieldAt,eB hu (by simp),hf,Instr.sureAddr,hv,fieldPlace,bN hk.1,hs,cAq])
    split at h
    ·rename_i id tot off he
     rw[he]at hx
     cases h
     obtain⟨I,hI,hIt,hv⟩:=hH.ptr hx hp
     refine .inl ⟨rfl,_,key _ _ hv, ?_⟩
     simp only[VR]
     exact⟨rfl,I,hI,by omega,λ_=>by rw[bYp]⟩
    ·rename_i g off he
     rw[he]at hx
     cases h
     simp only[VR]at hx
     exact .inl ⟨rfl,_,key _ _ hx,by simp[VR]⟩
    ·rename_i t' l off he
     rw[he]at hx
     cases h
     simp only[VR]at hx
     obtain⟨_,b,o2,cs,hv,h2,h3,h4⟩:=hx
     refine .inl ⟨rfl,_,key _ _ hv, ?_⟩
     simp only[VR]
     exact⟨rfl,b,o2,cs,by rw[bYp],h2,h3,h4⟩
    ·cases h
   ·simp[lop]at h
  ·simp[lop]at h
 ·simp[lop]at h
end
end Go.Proofs.YtnhechnaemmdiaaGreatDoor

namespace Go.Proofs.YtnhechnaemmdiaaGreatDoor
open Go.RowKit

section
variable {P:Program} {gl:Nat->Option HB} {m:M} {H:HV} {w:World} {ρ:Operand->Value} {ev:AO->AV}

theorem extract_mk(s:LA)(l h:Nat):(⟨s.toArray⟩:ByteArray).extract l h=⟨((s.drop l).take (h-l)).toArray⟩:=by
 apply ByteArray.ext
 rw[ByteArray.data_extract]
 apply cA5
 simp[Array.toList_extract,List.extract]

theorem size_mk(s:LA):(⟨s.toArray⟩:ByteArray).size=s.length:=by simp[ByteArray.size]

theorem aRu(hH:HR gl m H w)(hρ:∀x,VR m (ev (cO x)) (ρ x)){o:Oper}{t:TypeId}{x:Operand}{lo hi:Option Operand}(ho:o.op=.slice t x lo hi none)(nid:Nat){r:LR}
  (h:lop gl ev (cur H) (aR H) nid (cOp P o.op)=some r) (hp:r.pre=true):fH P m w ρ o nid r:=by
 rw[ho]at h
 simp only[cOp]at h
 have hx:=hρ x
 split at h
 ·rename_i hu
  have hu':=eB (w:=w) hu (by simp)
  simp only[lop]at h
  split at h
  ·rename_i b he
   rw[he]at hx
   simp only[VR]at hx
   split at h
   ·rename_i p l hh hb
    cases h
    simp only[bW3,bX5]at hp
    have hr:=lK (P:=P) (w:=w) hρ hb hp.1.1 false b.length hp.1.2 hp.2
    refine .inl ⟨rfl,.string ((⟨b.toArray⟩:ByteArray).extract l hh), ?_,by simp only[VR];rw[extract_mk]⟩
    simp only[execOp,ho]
    exact dL (by simp[Instr.sliceAt,Instr.slice,hu',hx,size_mk,hr])
   ·cases h
  ·cases h
 ·rename_i e hu
  have hu':=eB (w:=w) hu (by simp)
  split at h
  ·rename_i hk
   simp only[bW3,aD]at hk
   simp only[lop]at h
   split at h
   ·rename_i he
    rw[he]at hx
    simp only[VR]at hx
    split at h
    ·rename_i p l hh hb
     cases h
     simp only[bW3,bS]at hp
     obtain⟨⟨hp1,rfl⟩,rfl⟩:=hp
     have hr:=lK (P:=P) (w:=w) hρ hb hp1 true 0 (bXe _) (bXe _)
     refine .inl ⟨rfl,.slice none 0 0, ?_,by simp[VR]⟩
     simp only[execOp,ho]
     exact dL (by simp[Instr.sliceAt,Instr.slice,hu',hx,hr,bN hk.1])
    ·cases h
   ·rename_i id tot off len sz he
    rw[he]at hx
    split at h
    ·rename_i p l hh hb
     cases h
     simp only[bW3,bX5,bS]at hp
     obtain⟨⟨⟨⟨hp1,hl⟩,hhl⟩,hc⟩,rfl⟩:=hp
     obtain⟨I,o2,cap,hI,hIt,hv,hcap,hpos,hcb⟩:=hH.slc hx hc
     have hr:=lK (P:=P) (w:=w) hρ hb hp1 true cap hl (by omega)
     refine .inl ⟨rfl,.slice (some (if cap=l then⟨I.b,o2,none⟩else⟨I.b,o2+l*szT P e,none⟩)) (hh-l) (cap-l), ?_, ?_⟩
     ·simp only[execOp,ho]
      refine dL ?_
      by_cases hcl:cap=l
      ·obtain rfl:=hcl
       simp[Instr.sliceAt,Instr.slice,hu',hv,hr,bN hk.1]
      ·simp[Instr.sliceAt,Instr.slice,hu',hv,hr,bN hk.1,hcl,cAq]
     ·simp only[VR]
      refine⟨rfl,I,hI,by omega,λ_ => ?_⟩
      by_cases hcl:cap=l
      ·refine⟨o2,cap-l,by simp[hcl],by omega,.inr ⟨by omega,by omega⟩,λ_ _=>by omega⟩
      ·refine⟨o2+l*szT P e,cap-l,by simp[hcl],by omega, ?_,λh1 h2=>by have:=hcb h1 h2;omega⟩
       rcases hpos with ⟨h1,h2⟩ | ⟨h1,h2⟩
       ·refine .inl ⟨by rw[h1,bYp], ?_⟩
        have:l*szT P e+(cap-l)*szT P e=cap*szT P e:=by rw[←bZ6];congr 1;omega
        omega
       ·omega
    ·cases h
   ·rename_i t' cs len sz he
    rw[he]at hx
    split at h
    ·rename_i p l hh hb
     cases h
     simp only[bW3,bX5,bS]at hp
     obtain⟨⟨⟨hp1,hl⟩,hhl⟩,rfl⟩:=hp
     simp only[VR]at hx
     obtain⟨_,hll,a2,cap,hv,hcap,hpos⟩:=hx
     have hr:=lK (P:=P) (w:=w) hρ hb hp1 true cap hl (by omega)
     have hm1:hh*szT P e<=len*szT P e:=bZf _ hhl
     have hm2:l*szT P e<=hh*szT P e:=bZf _ hl
     have hm3:(hh-l)*szT P e=hh*szT P e-l*szT P e:=Nat.sub_mul _ _ _
     cases a2 with
     | none=>
      have hc0:len=0∧cap=0∧cs=[]:=by
       rcases hpos with ⟨a2,cs',f0,_⟩ | ⟨h1,h2,h3⟩
       ·cases f0
       ·exact⟨h1,h3 rfl,h2⟩
      obtain⟨rfl,rfl,rfl⟩:=hc0
      obtain⟨rfl,rfl⟩:hh=0∧l=0:=by omega
      refine .inl ⟨rfl,.slice none 0 0, ?_, ?_⟩
      ·simp only[execOp,ho]
       exact dL (by simp[Instr.sliceAt,Instr.slice,hu',hv,hr,bN hk.1])
      ·simp only[VR]
       exact⟨rfl,by simp,none,0,rfl,bXe _,.inr ⟨by simp,by simp⟩⟩
     | some a2=>
     refine .inl ⟨rfl,.slice (some (if cap=l then a2 else a2.add (l*szT P e))) (hh-l) (cap-l), ?_, ?_⟩
     ·simp only[execOp,ho]
      refine dL ?_
      by_cases hcl:cap=l
      ·obtain rfl:=hcl
       simp[Instr.sliceAt,Instr.slice,hu',hv,hr,bN hk.1]
      ·simp[Instr.sliceAt,Instr.slice,hu',hv,hr,bN hk.1,hcl]
     ·simp only[VR]
      refine⟨rfl,by simp;omega, ?_⟩
      by_cases hz:hh-l=0
      ·refine⟨_,cap-l,rfl,by omega,.inr ⟨hz,by rw[hz,cCe,bZ3],λh=>by cases h⟩⟩
      ·have hcl:¬ cap=l:=by omega
       rcases hpos with ⟨a2',cs',fa,f0,f1,f2,f3⟩ | ⟨h1,h2⟩
       ·cases fa
        obtain⟨b2,o2,sp⟩:=a2
        simp only at f0 f1 f2 f3
        subst f0
        refine⟨some ⟨b2,o2+l*szT P e,none⟩,cap-l,by simp[hcl,cAq],by omega,.inl ⟨⟨b2,o2+l*szT P e,none⟩,cs',rfl,rfl,f1,by simp;omega, ?_⟩⟩
        have e1:=(f3.drop (l*szT P e)).take ((hh-l)*szT P e)
        have e2:((List.take cs.length (List.drop o2 cs')).drop (l*szT P e)).take ((hh-l)*szT P e)=(cs'.drop (o2+l*szT P e)).take ((hh-l)*szT P e):=by
         rw[cCl,cBr,bY9,bYf (by omega)]
        rw[e2]at e1
        have e3:((cs.drop (l*szT P e)).take ((hh-l)*szT P e)).length=(hh-l)*szT P e:=by simp;omega
        rw[e3]
        exact e1
       ·omega
    ·cases h
   ·cases h
  ·simp[lop]at h
 ·rename_i k e hu
  have hu':=eB (w:=w) hu (by simp)
  split at h
  ·rename_i hk
   simp only[bW3,aD]at hk
   simp only[lop]at h
   split at h
   ·rename_i id tot off he
    rw[he]at hx
    split at h
    ·rename_i p l hh hb
     cases h
     simp only[bW3,bX5]at hp
     obtain⟨⟨⟨⟨hp1,hl⟩,hhl⟩,hc⟩,htot⟩:=hp
     obtain⟨I,hI,hIt,hv⟩:=hH.ptr hx hc
     have hr:=lK (P:=P) (w:=w) hρ hb hp1 false k hl hhl
     refine .inl ⟨rfl,.slice (some (if k=l then⟨I.b,I.d+off,none⟩else⟨I.b,I.d+off+l*szT P e,none⟩)) (hh-l) (k-l), ?_, ?_⟩
     ·simp only[execOp,ho]
      refine dL ?_
      by_cases hcl:k=l
      ·obtain rfl:=hcl
       simp[Instr.sliceAt,hu',Instr.sureAddr,hv,hr,bN hk.1]
      ·simp[Instr.sliceAt,hu',Instr.sureAddr,hv,hr,bN hk.1,hcl,cAq]
     ·simp only[VR]
      refine⟨rfl,I,hI,by omega,λ_ => ?_⟩
      by_cases hcl:k=l
      ·refine⟨I.d+off,k-l,by simp[hcl],by omega,.inr ⟨by omega,by omega⟩,λ_ _=>by omega⟩
      ·refine⟨I.d+off+l*szT P e,k-l,by simp[hcl],by omega,.inl ⟨by omega, ?_⟩,λh1 h2=>by have:=Nat.le_mul_of_pos_right k (Nat.pos_of_ne_zero h1);omega⟩
       have e1:l*szT P e+(k-l)*szT P e=k*szT P e:=by rw[←bZ6];congr 1;omega
       obtain⟨b,hb2,hbl⟩:=qZ hc
       obtain⟨cu,el,l1,h1,q1,q2,q3,_⟩:=(hH.blk id I b hI hb2).row (aC3 hc hb2)
       omega
    ·cases h
   ·cases h
  ·simp[lop]at h
 ·simp[lop]at h

theorem bK7(hH:HR gl m H w)(hρ:∀x,VR m (ev (cO x)) (ρ x)){o:Oper}{t:TypeId}{x i:Operand}(ho:o.op=.indexAddr t x i)(nid:Nat){r:LR}
  (h:lop gl ev (cur H) (aR H) nid (cOp P o.op)=some r) (hp:r.pre=true):fH P m w ρ o nid r:=by
 rw[ho]at h
 simp only[cOp]at h
 have hx:=hρ x
 split at h
 ·rename_i k e hu
  have hu':=eB (w:=w) hu (by simp)
  split at h
  ·rename_i hk
   simp only[lop]at h
   have key:∀b d kk n,ρ x=.pointer (some ⟨b,d,none⟩)->ρ i=.int kk n->0<=n->n.toNat<k->(execOp ρ o).run P w=.ok (.value (.pointer (some ⟨b,d+n.toNat*szT P e,none⟩))) w:=by
    intro b d kk n hv hi h0 h1
    have h2:0<=n∧n<(k:Int):=⟨h0,by omega⟩
    simp only[execOp,ho]
    exact dL (by simp[Instr.indexAt,hi,asIntOf,hu',hv,Instr.sureAddr,h2,bN hk,cAq])
   split at h
   ·rename_i id tot off b n he hn
    rw[he]at hx
    cases h
    simp only[bW3,aD]at hp
    obtain⟨kk,z,hz,h0,rfl⟩:=iW hn hp.1.1 (hρ i)
    obtain⟨I,hI,hIt,hv⟩:=hH.ptr hx hp.2
    refine .inl ⟨rfl,_,key _ _ _ _ hv hz h0 hp.1.2, ?_⟩
    simp only[VR]
    exact⟨rfl,I,hI,by omega,λ_=>by rw[bYp]⟩
   ·rename_i g off b n he hn
    rw[he]at hx
    cases h
    simp only[bW3,aD]at hp
    obtain⟨kk,z,hz,h0,rfl⟩:=iW hn hp.1 (hρ i)
    simp only[VR]at hx
    exact .inl ⟨rfl,_,key _ _ _ _ hx hz h0 hp.2,by simp[VR]⟩
   ·rename_i t' l off b n he hn
    rw[he]at hx
    cases h
    simp only[bW3,aD]at hp
    obtain⟨kk,z,hz,h0,rfl⟩:=iW hn hp.1 (hρ i)
    simp only[VR]at hx
    obtain⟨_,b2,o2,cs,hv,h2,h3,h4⟩:=hx
    refine .inl ⟨rfl,_,key _ _ _ _ hv hz h0 hp.2, ?_⟩
    simp only[VR]
    exact⟨rfl,b2,o2,cs,by rw[bYp],h2,h3,h4⟩
   ·cases h
  ·simp[lop]at h
 ·rename_i e hu
  have hu':=eB (w:=w) hu (by simp)
  split at h
  ·rename_i hk
   simp only[lop]at h
   split at h
   ·rename_i id tot off len sz b n he hn
    rw[he]at hx
    cases h
    simp only[bW3,aD,bS]at hp
    obtain⟨⟨⟨hb,hlt⟩,hc⟩,rfl⟩:=hp
    obtain⟨kk,z,hz,h0,rfl⟩:=iW hn hb (hρ i)
    obtain⟨I,o2,cap,hI,hIt,hv,hcap,hpos⟩:=hH.sl hx hc
    have h2:0<=z∧z<(len:Int):=⟨h0,by omega⟩
    rcases hpos with ⟨rfl,hpos⟩ | ⟨rfl,_⟩
    ·refine .inl ⟨rfl,.pointer (some ⟨I.b,I.d+off+z.toNat*szT P e,none⟩), ?_, ?_⟩
     ·simp only[execOp,ho]
      exact dL (by simp[Instr.indexAt,hz,asIntOf,hu',hv,h2,bN hk,cAq])
     ·simp only[VR]
      exact⟨rfl,I,hI,by omega,λ_=>by rw[bYp]⟩
    ·omega
   ·rename_i t' l len sz b n he hn
    rw[he]at hx
    cases h
    simp only[bW3,aD,bS]at hp
    obtain⟨⟨hb,hlt⟩,rfl⟩:=hp
    obtain⟨kk,z,hz,h0,rfl⟩:=iW hn hb (hρ i)
    simp only[VR]at hx
    obtain⟨_,hll,a2,cap,hv,hcap,hpos⟩:=hx
    have h2:0<=z∧z<(len:Int):=⟨h0,by omega⟩
    rcases hpos with ⟨⟨b2,o2,sp⟩,cs,rfl,f0,f1,f2,f3⟩ | ⟨rfl,_⟩
    ·simp only at f0 f1 f2 f3
     subst f0
     refine .inl ⟨rfl,.pointer (some ⟨b2,o2+z.toNat*szT P e,none⟩), ?_, ?_⟩
     ·simp only[execOp,ho]
      exact dL (by simp[Instr.indexAt,hz,asIntOf,hu',hv,h2,bN hk,cAq])
     ·simp only[VR]
      exact⟨rfl,b2,o2,cs,rfl,f1,f2,f3⟩
    ·omega
   ·cases h
  ·simp[lop]at h
 ·simp[lop]at h

theorem bNi(hρ:∀x,VR m (ev (cO x)) (ρ x)){o:Oper}{t:TypeId}{x i:Operand}(ho:o.op=.index t x i)(nid:Nat){r:LR}{cu ca}
  (h:lop gl ev cu ca nid (cOp P o.op)=some r) (hp:r.pre=true):fH P m w ρ o nid r:=by
 rw[ho]at h
 simp only[cOp]at h
 have hx:=hρ x
 split at h
 ·rename_i k e hu
  have hu':=eB (w:=w) hu (by simp)
  split at h
  ·rename_i hk
   simp only[lop]at h
   split at h
   ·rename_i l b n he hn
    rw[he]at hx
    cases h
    simp only[VR]at hx
    obtain⟨cs,hv,hl⟩:=hx
    simp only[bW3,bXh,aD]at hp
    obtain⟨kk,z,hz,h0,rfl⟩:=iW hn hp.1.1 (hρ i)
    have h2:0<=z∧z<(k:Int):=⟨h0,by omega⟩
    obtain⟨v,hv1,hv2⟩:=qA (P:=P) (w:=w) hk hl (off:=z.toNat*szT P e) hp.2
    refine .inl ⟨rfl,v, ?_,hv2⟩
    simp only[execOp,ho]
    exact dL (by simp[Instr.index,hz,asIntOf,hu',hv,h2,bN hk];exact hv1)
   ·cases h
  ·simp[lop]at h
 ·rename_i hu
  have hu':=eB (w:=w) hu (by simp)
  simp only[lop]at h
  split at h
  ·rename_i s b n he hn
   rw[he]at hx
   cases h
   simp only[VR]at hx
   simp only[bW3,aD]at hp
   obtain⟨kk,z,hz,h0,rfl⟩:=iW hn hp.1 (hρ i)
   refine .inl ⟨rfl,.int .u8 ((s.getD z.toNat 0).toNat:Int), ?_,by simp[VR]⟩
   simp only[execOp,ho]
   refine dL ?_
   have hg:(⟨s.toArray⟩:ByteArray)[z.toNat]? = some (s.getD z.toNat 0):=by
    have h1:z.toNat<(⟨s.toArray⟩:ByteArray).size:=by rw[size_mk];exact hp.2
    rw[getElem?_pos (⟨s.toArray⟩:ByteArray) z.toNat h1]
    simp[ByteArray.getElem_eq_getElem_data,hp.2]
   simp[Instr.index,hz,asIntOf,hu',hx,h0,hg]
  ·cases h
 ·simp[lop]at h

theorem bFx(hH:HR gl m H w)(hρ:∀x,VR m (ev (cO x)) (ρ x)){o:Oper}{t:TypeId}{x:Operand}(ho:o.op=.call { callee:=.builtin .len,args := #[x],argTypes := #[t] })(nid:Nat){r:LR}
  (h:lop gl ev (cur H) (aR H) nid (cOp P o.op)=some r) (hp:r.pre=true):fH P m w ρ o nid r:=by
 rw[ho]at h
 simp only[cOp]at h
 have hx:=hρ x
 have key:∀v,(Builtin.len_ #[t] o.type #[ρ x]).run P w=.ok v w->(execOp ρ o).run P w=.ok (.value v) w:=by
  intro v hv
  simp[execOp,ho,resolve,invoke,builtin,hv]
 split at h
 ·rename_i hu
  have hu':=eB (w:=w) hu (by simp)
  simp only[lop]at h
  split at h
  ·rename_i b he
   rw[he]at hx
   cases h
   simp only[VR]at hx
   exact .inl ⟨rfl,_,key _ (by simp[Builtin.len_,hu',hx,size_mk,goInt];rfl),by simp[VR]⟩
  ·cases h
 ·rename_i e hu
  have hu':=eB (w:=w) hu (by simp)
  simp only[lop]at h
  split at h
  ·rename_i he
   rw[he]at hx
   cases h
   simp only[VR]at hx
   exact .inl ⟨rfl,_,key _ (by simp[Builtin.len_,hu',hx,goInt];rfl),by simp[VR]⟩
  ·rename_i id tot off n sz he
   rw[he]at hx
   cases h
   obtain⟨I,o2,cap,hI,hIt,hv,hcap,hpos⟩:=hH.sl hx hp
   exact .inl ⟨rfl,_,key _ (by simp[Builtin.len_,hu',hv,goInt];rfl),by simp[VR]⟩
  ·rename_i t' l n sz he
   rw[he]at hx
   cases h
   simp only[VR]at hx
   obtain⟨_,_,a2,cap,hv,_⟩:=hx
   exact .inl ⟨rfl,_,key _ (by simp[Builtin.len_,hu',hv,goInt];rfl),by simp[VR]⟩
  ·cases h
 ·rename_i n e hu
  have hu':=eB (w:=w) hu (by simp)
  simp only[lop,bW5]at h
  subst h
  exact .inl ⟨rfl,_,key _ (by simp[Builtin.len_,hu',goInt];rfl),by simp[VR]⟩
 ·simp[lop]at h

theorem bCy{k:IntKind}{m:M}:∀ (l:HB) (vs:List Value) (x:Int) (v:AV) (_:VRL m l vs) (_:bQ5 k x l=some v) (w:World),∃v',(vs.foldlM Builtin.max2 (.int k x)).run P w=.ok v' w∧VR m v v'
 | [],vs,x,v,h,hv,w=>by
  rw[gL]at h
  subst h
  cases hv
  exact⟨.int k x,by simp,by simp[VR]⟩
 | a::l,vs,x,v,h,hv,w=>by
  obtain⟨u,vs',rfl,h1,h2⟩:=bB h
  cases a<;>simp only[bQ5,tQ]at hv<;>try cases hv
  rename_i k' y
  simp only[VR]at h1
  subst h1
  obtain⟨v',h3,h4⟩:=bCy l vs' _ v h2 hv w
  exact⟨v',by simpa[Builtin.max2]using h3,h4⟩

theorem bBw{k:IntKind}{m:M}:∀ (l:HB) (vs:List Value) (x:Int) (v:AV) (_:VRL m l vs) (_:bR7 k x l=some v) (w:World),∃v',(vs.foldlM Builtin.min2 (.int k x)).run P w=.ok v' w∧VR m v v'
 | [],vs,x,v,h,hv,w=>by
  rw[gL]at h
  subst h
  cases hv
  exact⟨.int k x,by simp,by simp[VR]⟩
 | a::l,vs,x,v,h,hv,w=>by
  obtain⟨u,vs',rfl,h1,h2⟩:=bB h
  cases a<;>simp only[bR7,aR2]at hv<;>try cases hv
  rename_i k' y
  simp only[VR]at h1
  subst h1
  obtain⟨v',h3,h4⟩:=bBw l vs' _ v h2 hv w
  exact⟨v',by simpa[Builtin.min2]using h3,h4⟩

theorem bJ4(hρ:∀x,VR m (ev (cO x)) (ρ x)){o:Oper}{l:Array Operand}{ts:Array TypeId}(ho:o.op=.call { callee:=.builtin .max,args:=l,argTypes:=ts })(nid:Nat){r:LR}{cu ca}
  (h:lop gl ev cu ca nid (cOp P o.op)=some r):fH P m w ρ o nid r:=by
 rw[ho]at h
 have e:cOp P (.call { callee:=.builtin .max,args:=l,argTypes:=ts })=.mx (l.toList.map cO):=by
  simp only[cOp]
 rw[e]at h
 simp only[lop]at h
 have hl:=aFr hρ l.toList
 split at h
 ·rename_i k x l' he
  rw[he]at hl
  split at h
  ·rename_i v hv
   cases h
   obtain⟨u,vs',hvs,h1,h2⟩:=bB hl
   simp only[VR]at h1
   subst h1
   obtain⟨v',h3,h4⟩:=bCy (P:=P) l' vs' x v h2 hv w
   refine .inl ⟨rfl,v', ?_,h4⟩
   simp[execOp,ho,resolve,invoke,builtin,Builtin.max_,hvs,h3]
  ·cases h
 ·cases h

theorem bF9(hρ:∀x,VR m (ev (cO x)) (ρ x)){o:Oper}{l:Array Operand}{ts:Array TypeId}(ho:o.op=.call { callee:=.builtin .min,args:=l,argTypes:=ts })(nid:Nat){r:LR}{cu ca}
  (h:lop gl ev cu ca nid (cOp P o.op)=some r):fH P m w ρ o nid r:=by
 rw[ho]at h
 have e:cOp P (.call { callee:=.builtin .min,args:=l,argTypes:=ts })=.mn (l.toList.map cO):=by
  simp only[cOp]
 rw[e]at h
 simp only[lop]at h
 have hl:=aFr hρ l.toList
 split at h
 ·rename_i k x l' he
  rw[he]at hl
  split at h
  ·rename_i v hv
   cases h
   obtain⟨u,vs',hvs,h1,h2⟩:=bB hl
   simp only[VR]at h1
   subst h1
   obtain⟨v',h3,h4⟩:=bBw (P:=P) l' vs' x v h2 hv w
   refine .inl ⟨rfl,v', ?_,h4⟩
   simp[execOp,ho,resolve,invoke,builtin,Builtin.min_,hvs,h3]
  ·cases h
 ·cases h

theorem bId(hH:HR gl m H w)(hρ:∀x,VR m (ev (cO x)) (ρ x)){o:Oper}{t:TypeId}{x:Operand}(ho:o.op=.sliceToArrayPointer t x)(nid:Nat){r:LR}
  (h:lop gl ev (cur H) (aR H) nid (cOp P o.op)=some r) (hp:r.pre=true):fH P m w ρ o nid r:=by
 rw[ho]at h
 simp only[cOp]at h
 have hx:=hρ x
 split at h
 ·rename_i n e hu
  have hu':=eB (w:=w) hu (by simp)
  simp only[lop]at h
  split at h
  ·rename_i id tot off len sz he
   rw[he]at hx
   cases h
   simp only[bW3,bX5,aD]at hp
   obtain⟨I,o2,cap,hI,hIt,hv,hcap,hpos⟩:=hH.sl hx hp.1.1
   rcases hpos with ⟨rfl,hpos⟩ | ⟨rfl,_⟩
   ·refine .inl ⟨rfl,.pointer (some ⟨I.b,I.d+off,none⟩), ?_, ?_⟩
    ·simp only[execOp,ho]
     have:¬ len<n:=by omega
     exact dL (by simp[Instr.arrayAt,hu',hv,this])
    ·simp only[VR]
     exact⟨rfl,I,hI,by omega,λ_=>rfl⟩
   ·omega
  ·cases h
 ·simp[lop]at h
end
end Go.Proofs.YtnhechnaemmdiaaGreatDoor

namespace Go.Proofs.YtnhechnaemmdiaaGreatDoor
open Go.RowKit

section
variable {P:Program} {gl:Nat->Option HB} {m:M} {H:HV} {w:World} {ρ:Operand->Value} {ev:AO->AV}

theorem yJ{t:TypeId}(hz:gT (lJ P t)≠none):∃i z,P.info? t=some i∧i.zero=some z∧VR m (lJ P t) z∧(zeroValue t).run P w=.ok z w:=by
 unfold lJ at hz ⊢
 cases hi:P.info? t with
 | none=>rw[hi]at hz;exact absurd rfl hz
 | some i=>
  rw[hi]at hz
  cases hzz:i.zero with
  | none=>simp only[hzz]at hz;exact absurd rfl hz
  | some z=>
   simp only[hzz]
   exact⟨i,z,rfl,hzz,aJ7 m 4 z,by simp[zeroValue,typeInfo,hi,hzz]⟩

theorem aA0{t:TypeId}(h:0<(jI P t).length):∃i z,P.info? t=some i∧i.zero=some z∧VRL m (jI P t) z.cells.toList∧(zeroValue t).run P w=.ok z w:=by
 unfold jI at h ⊢
 cases hc:gT (lJ P t)with
 | none=>rw[hc]at h;simp at h
 | some l=>
  obtain⟨i,z,h1,h2,h3,h4⟩:=yJ (P:=P) (m:=m) (w:=w) (t:=t) (by rw[hc];simp)
  exact⟨i,z,h1,h2,by simpa[hc]using iE hc h3,h4⟩

theorem bG7(hρ:∀x,VR m (ev (cO x)) (ρ x)){o:Oper}{t:TypeId}{x:Operand}(ho:o.op=.box t x)(nid:Nat){r:LR}{cu ca}
  (h:lop gl ev cu ca nid (cOp P o.op)=some r):fH P m w ρ o nid r:=by
 rw[ho]at h
 simp only[cOp,lop]at h
 split at h
 ·rename_i cs hc
  cases h
  have hv:=iE hc (hρ x)
  refine .inr ⟨_,.pointer (some ⟨w.heap.size,0,none⟩),_,⟨w.heap.size,0,cs.length,cs.length⟩,rfl, ?_,rM hv w t .exact (by simp),λm' hm' => ?_⟩
  ·simp only[execOp,ho]
   exact dL (by simp[Instr.box,newVar,newRow])
  ·simp only[VR]
   exact⟨rfl,_,hm',bXe _,λ_=>rfl⟩
 ·cases h

theorem aQl{o:Oper}{t:TypeId}(ho:o.op=.alloc t)(nid:Nat){r:LR}{cu ca}(hev:∀v,ev (.c v)=v)
  (h:lop gl ev cu ca nid (cOp P o.op)=some r):fH P m w ρ o nid r:=by
 rw[ho]at h
 simp only[cOp,lop,hev]at h
 split at h
 ·rename_i cs hc
  cases h
  obtain⟨i,z,h1,h2,h3,h4⟩:=yJ (P:=P) (m:=m) (w:=w) (t:=t) (by rw[hc];simp)
  have hv:=iE hc h3
  refine .inr ⟨_,.pointer (some ⟨w.heap.size,0,none⟩),_,⟨w.heap.size,0,cs.length,cs.length⟩,rfl, ?_,rM hv w t .exact (by simp),λm' hm' => ?_⟩
  ·simp only[execOp,ho]
   exact dL (by simp[Instr.alloc,h4,newVar,newRow])
  ·simp only[VR]
   exact⟨rfl,_,hm',bXe _,λ_=>rfl⟩
 ·cases h

theorem foldl_set(off:Nat):∀ (l:List Value) (k:Nat) (cells:Array Value),off+k+l.length<=cells.size →
  ((l.zipIdx k).foldl (λcs (p:Value×Nat)=>cs.setIfInBounds (off+p.2) p.1) cells).toList=cells.toList.take (off+k)++l++cells.toList.drop (off+k+l.length)
 | [],k,cells,h=>by simp
 | v::l,k,cells,h=>by
  simp only[List.zipIdx_cons,cAz]
  rw[foldl_set off l (k+1) _ (by simp at h ⊢;omega)]
  have e:=list_seg_step cells.toList (off+k) v l (by simp at h ⊢;omega)
  simpa[cA8,bYp,Nat.add_comm,Nat.add_left_comm]using e

theorem aC2(hρ:∀x,VR m (ev (cO x)) (ρ x))(place:Nat->Option (Nat×Nat))(g:Nat×Operand->Nat×Nat×AO):∀ (ps:List (Nat×Operand)) (cs:HB) (cells:Array Value) (r:HB) (b:Bool),
  (∀p∈ps,place p.1=some ((g p).1,(g p).2.1)∧(g p).2.2=cO p.2)->VRL m cs cells.toList->yT ev cs (ps.map g)=some (b,r)->b=true →
  ∃cells',Instr.fill place cells (ps.map λp=>(p.1,ρ p.2))=some cells'∧VRL m r cells'.toList
 | [],cs,cells,r,b,_,hc,h,_=>by
  simp only[cBt,yT,bW5,bX1]at h
  obtain⟨_,rfl⟩:=h
  exact⟨cells,by simp[Instr.fill],hc⟩
 | p::ps,cs,cells,r,b,hp,hc,h,hb=>by
  obtain⟨hpl,hgo⟩:=hp p (by simp)
  simp only[bXu,yT,hgo]at h
  cases hcv:gT (ev (cO p.2))with
  | none=>simp[hcv]at h
  | some l=>
   simp only[hcv]at h
   cases hf:yT ev (aN cs (g p).1 l) (ps.map g)with
   | none=>simp[hf]at h
   | some br=>
    obtain⟨b',r'⟩:=br
    simp only[hf,bW5,bX1]at h
    obtain⟨rfl,rfl⟩:=h
    simp only[bW3,bS,bX5]at hb
    obtain⟨⟨hb1,hb2⟩,hb3⟩:=hb
    have hv:=iE hcv (hρ p.2)
    have hlen:l.length=(ρ p.2).cells.size:=by simpa using hv.len
    have hcl:cs.length=cells.size:=by simpa using hc.len
    have hset:=foldl_set (g p).1 (ρ p.2).cells.toList 0 cells (by simp;omega)
    obtain⟨cells',h1,h2⟩:=aC2 hρ place g ps (aN cs (g p).1 l) ((ρ p.2).cells.zipIdx.foldl (λcs (q:Value×Nat)=>cs.setIfInBounds ((g p).1+q.2) q.1) cells) r' b'
     (λq hq=>hp q (by simp[hq])) (by
      rw[←Array.foldl_toList,Array.toList_zipIdx,hset]
      simp only[aN,bYv]
      refine VRL.append (VRL.append (hc.take _) hv) ?_
      rw[show(g p).1+l.length=(g p).1+(ρ p.2).cells.toList.length by simp[hlen]]
      exact hc.drop _) hf hb1
    refine⟨cells', ?_,h2⟩
    have hb2:l.length=(g p).2.1:=hb2
    have hb3:(g p).1+(g p).2.1<=cs.length:=hb3
    have hn:¬ ((ρ p.2).cells.size≠(g p).2.1∨cells.size<(g p).1+(ρ p.2).cells.size):=by omega
    simp only[bXu,Instr.fill,hpl]
    rw[if_neg (by simpa using hn)]
    exact h1

theorem run_places{P:Program}{w:World}(fs:Array Field)(h:∀f∈fs.toList,bV P f.type=true) :
  (fs.mapM λ(f:Field)=>(do pure (f.offset,←sizeOf f.type):Sem (Nat×Nat))).run P w=.ok (fs.map λ(f:Field)=>(f.offset,szT P f.type)) w:=by
 have key:∀l:List Field,(∀f∈l,bV P f.type=true)->(l.mapM λ(f:Field)=>(do pure (f.offset,←sizeOf f.type):Sem (Nat×Nat))).run P w=.ok (l.map λ(f:Field)=>(f.offset,szT P f.type)) w:=by
  intro l
  induction l with
  | nil=>intro _;simp
  | cons f l ih=>
   intro hl
   have h1:=ih λx hx=>hl x (by simp[hx])
   rw[cCm]
   simp only[bY1,bN (hl f (by simp)),bYl,cBh,h1,bXu]
 rw[Array.mapM_eq_mapM_toList]
 have hk:=key fs.toList h
 show((fs.toList.mapM λ(f:Field)=>(do pure (f.offset,←sizeOf f.type):Sem (Nat×Nat))) >>= λa=>pure (List.toArray a)).run P w=_
 rw[bY1,hk]
 simp only[bYl,cBh]
 congr 1
 apply cA5
 simp

end
end Go.Proofs.YtnhechnaemmdiaaGreatDoor
