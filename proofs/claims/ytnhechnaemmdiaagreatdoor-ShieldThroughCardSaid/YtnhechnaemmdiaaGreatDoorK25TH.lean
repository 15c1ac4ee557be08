/-
  A function whose region is given a contract.
-/
import Derived.Test.YtnhechnaemmdiaaGreatDoorK25TG
set_option linter.unusedSimpArgs false
set_option linter.unusedVariables false
set_option linter.unusedSectionVars false
namespace Go.Proofs.YtnhechnaemmdiaaGreatDoor
open Go.RowKit
set_option maxRecDepth 1000000

def aG9:Code→AC→List (Array Oper)
 | .region _ ops true,.bad _=>[ops]
 | .seq a b,.seq a' b'=>aG9 a a'++aG9 b b'
 | .cond _ a b,.cond _ a' b'=>aG9 a a'++aG9 b b'
 | .block _ b,.block _ b'=>aG9 b b'
 | .loop b,.loop _ _ b'=>aG9 b b'
 | .scope b,c=>aG9 b c
 | _,_=>[]
def aQl (g:S→(Ex→S→Prop)→Prop):Code→AC→AC
 | .region _ _ true,.bad _=>.sum g
 | .seq a b,.seq a' b'=>.seq (aQl g a a') (aQl g b b')
 | .cond _ a b,.cond c a' b'=>.cond c (aQl g a a') (aQl g b b')
 | .block _ b,.block i b'=>.block i (aQl g b b')
 | .loop b,.loop i lv b'=>.loop i lv (aQl g b b')
 | .scope b,c=>aQl g b c
 | _,c=>c
theorem aHt (g g':S→(Ex→S→Prop)→Prop):∀c:Code,aQl g c (.sum g')=.sum g'
 | .scope b=>aHt g g' b
 | .region _ _ draw=>by cases draw<;>rfl
 | .skip=>rfl
 | .label _=>rfl
 | .seq _ _=>rfl
 | .cond _ _ _=>rfl
 | .block _ _=>rfl
 | .loop _=>rfl
 | .exit _=>rfl
 | .goto _=>rfl
 | .ret=>rfl
 | .rangeFunc _ _ _ _=>rfl
 | .refuse _=>rfl
section
variable {P:Program} {gl:Nat→Option (List AV)} {nt:Nat}
theorem bCa {g:S→(Ex→S→Prop)→Prop} {c:Code} {ac:AC} (h:Comp P gl nt c ac):(∀id ops,ops∈aG9 c ac→aGa P gl nt (.region id ops true) g)→Comp P gl nt c (aQl g c ac):=by
 induction h with
 | skip=>intro _;exact .skip
 | label l=>intro _;exact .label l
 | region id ops=>intro _;exact .region id ops
 | drawn id ops l h=>intro _;exact .drawn id ops l h
 | seq h1 h2 ih1 ih2=>intro hg;exact .seq (ih1 fun id ops ho=>hg id ops (by simp[aG9,ho])) (ih2 fun id ops ho=>hg id ops (by simp[aG9,ho]))
 | cond c h1 h2 ih1 ih2=>intro hg;exact .cond c (ih1 fun id ops ho=>hg id ops (by simp[aG9,ho])) (ih2 fun id ops ho=>hg id ops (by simp[aG9,ho]))
 | block id h ih=>intro hg;exact .block id (ih hg)
 | loop id lv h ih=>intro hg;exact .loop id lv (ih hg)
 | exit id=>intro _;exact .exit id
 | scope h ih=>intro hg;exact .scope (ih hg)
 | ret=>intro _;exact .ret
 | bad code why=>
  intro hg
  induction code with
  | region id ops draw=>
   cases draw
   ·exact .bad _ _
   ·exact .sum _ g (hg id ops (by simp[aG9]))
  | scope b ih=>exact .scope (ih hg)
  | _=>exact .bad _ _
 | sum code g' h=>
  intro _
  rw[aHt]
  exact .sum _ _ h
 | rfn f ps h1 h2 hps ih1 ih2=>intro _;exact .rfn f ps h1 h2 hps
end
def aUi (P:Program) (g:S→(Ex→S→Prop)→Prop) (i:Nat):Option AFn:=match P.funcs[i]? with
 | some f=>(match f.body with
  | some c=>bif f.results.toList.all (xC P)&&Nat.ble f.ntmps 4000 then
    some { res:=f.results.toList.map (aIp P),body:=(an (aQl g c (cC P i f.ntmps 0 c)) (nQ (f.results.toList.map (aIp P))) [] (nQ (f.results.toList.map (aIp P)))).1 } else none
  | none=>none)
 | none=>none
def vZ (P:Program) (i:Nat):List (Array Oper)×Nat:=match P.funcs[i]? with
 | some f=>(match f.body with
  | some c=>(aG9 c (cC P i f.ntmps 0 c),f.ntmps)
  | none=>([],0))
 | none=>([],0)
theorem aTb {P:Program} {gl:Nat→Option (List AV)} (hN:lH P=true) {g:S→(Ex→S→Prop)→Prop} {f:Nat} {a:AFn} (hg:∀id ops,ops∈(vZ P f).1→aGa P gl (vZ P f).2 (.region id ops true) g) (h:aUi P g f=some a) :
  Enters P f∧∃fn body,P.funcs[f]? = some fn∧fn.body=some body∧Comp P gl fn.ntmps body a.body∧a.res=fn.results.toList.map (aIp P)∧(∀r∈fn.results.toList,xC P r=true)∧fn.ntmps≤4000:=by
 unfold aUi at h
 unfold vZ at hg
 split at h
 ·rename_i fn hf
  rw[hf] at hg
  dsimp only at hg
  split at h
  ·rename_i body hb
   rw[hb] at hg
   dsimp only at hg
   cases hc:(fn.results.toList.all (xC P)&&Nat.ble fn.ntmps 4000)
   ·rw[hc] at h;cases h
   ·rw[hc] at h
    simp only[bO3,bOl] at h
    subst h
    simp only[bN9,bPu,bOi] at hc
    refine ⟨⟨fn,hf,by rw[hb];rfl, ?_⟩,fn,body,hf,hb,aKc (bCa (gK f body 0) hg) _ _ _,rfl,hc.1,hc.2⟩
    unfold lH at hN
    rw[bPu] at hN
    have:=hN fn (by simpa using Array.mem_of_getElem? hf)
    simpa using this
  ·cases h
 ·cases h
theorem aKp {P:Program} {E:Env} (hE:EnvOk P E) {n:Nat} {f:FuncId} {args:List AV} (h:aY E (wpx E n) f args [] {} isT) {vs:Array Value} (w:World) (hg:bMb E.gl w) (hv:VRL (aE7 w) args vs.toList) :
  Calls P f vs w fun e w'=>e=.returned (.bool true)∧Below w.heap.size w w':=by
 refine ((qU hE (aU8 hE n) h hv (HR.all hg) (X:=[]) ⟨trivial,fun u l hu=>(by cases hu),bRf,bRf⟩).2).mono fun e w' hp => ?_
 obtain ⟨o,H',k',m',q1,q2,q3,_,q4⟩:=hp
 refine ⟨?_,Mx.below (by simpa using q4) (bOt _) fun b hb => ?_⟩
 ·unfold isT at q1
  split at q1
  ·cases e<;>simp only[aEx,VR] at q2
   rw[q2]
  ·cases q1
 ·obtain ⟨id,I,x,h1,_⟩:=hb
  cases h1
end Go.Proofs.YtnhechnaemmdiaaGreatDoor
