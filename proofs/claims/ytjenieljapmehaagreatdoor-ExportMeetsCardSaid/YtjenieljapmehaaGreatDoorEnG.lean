/-
  The engine, part U: a program's functions as they are compiled; what a run of the evaluator says of a call.
-/
import Derived.Test.YtjenieljapmehaaGreatDoorEnF
import Derived.RecoverIn
set_option linter.unusedSimpArgs false
set_option linter.unusedVariables false
namespace Go.Proofs.YtjenieljapmehaaGreatDoor
open Go.RowKit

section
variable {P:Program} {gl:Nat→Option (List AV)} {nt:Nat}

theorem cC_comp (fid:Nat):∀ (code:Code) (i:Nat),Comp P gl nt code (cC P fid nt i code)
 | .skip,_=>.skip
 | .label l,_=>.label l
 | .region id ops draw,_=>by
  cases draw
  ·exact .region id ops
  ·show Comp P gl nt _ (drawnOf P nt ops)
   have:(∃l,drawnOf P nt ops=.drawn l)∨∃why,drawnOf P nt ops=.bad why:=by
    unfold drawnOf
    simp only
    generalize (Nat.beq _ _&&_&&_&&_)=b
    cases b
    ·exact .inr ⟨_,rfl⟩
    ·exact .inl ⟨_,rfl⟩
   rcases this with ⟨l,h⟩ | ⟨why,h⟩
   ·rw[h];exact .drawn id ops l h
   ·rw[h];exact .bad _ why
 | .seq a b,i=>.seq (cC_comp fid a i) (cC_comp fid b i)
 | .cond c a b,i=>.cond c (cC_comp fid a i) (cC_comp fid b i)
 | .block id b,_=>.block id (cC_comp fid b id)
 | .loop b,i=>.loop _ _ (cC_comp fid b i)
 | .exit id,_=>.exit id
 | .scope b,i=>.scope (cC_comp fid b i)
 | .goto _,_=>.bad _ _
 | .ret,_=>.ret
 | .rangeFunc g ps a b,i=>by
  show Comp P gl nt _ (bif ps.toList.all (fun p => Nat.blt p nt) then .rfn (cO g) ps.toList (cC P fid nt i a) (cC P fid nt i b) else .bad "rangeFunc")
  cases hc:ps.toList.all (fun p=>Nat.blt p nt)
  ·exact .bad _ _
  ·rw[cond_true]
   refine .rfn g ps (cC_comp fid a i) (cC_comp fid b i) fun p hp => ?_
   rw[List.all_eq_true] at hc
   have:=hc p hp
   rwa [blt_iff] at this
 | .refuse w,_=>.bad _ w

theorem an_comp {code:Code} {c:AC} (h:Comp P gl nt code c):∀ (L:Nat) (xs:List (Nat×Nat)) (R:Nat),Comp P gl nt code (an c L xs R).1:=by
 induction h with
 | skip=>intro L xs R;exact .skip
 | label l=>intro L xs R;exact .label l
 | region id ops=>intro L xs R;exact .region id ops
 | drawn id ops l h=>intro L xs R;exact .drawn id ops l h
 | seq h1 h2 ih1 ih2=>intro L xs R;exact .seq (ih1 _ _ _) (ih2 _ _ _)
 | cond c h1 h2 ih1 ih2=>intro L xs R;exact .cond c (ih1 _ _ _) (ih2 _ _ _)
 | block id h ih=>intro L xs R;exact .block id (ih _ _ _)
 | loop id lv h ih=>intro L xs R;exact .loop id _ (ih _ _ _)
 | exit id=>intro L xs R;exact .exit id
 | scope h ih=>intro L xs R;exact .scope (ih _ _ _)
 | ret=>intro L xs R;exact .ret
 | bad code why=>intro L xs R;exact .bad code why
 | sum code g h=>intro L xs R;exact .sum code g h
 | rfn f ps h1 h2 hps ih1 ih2=>intro L xs R;exact .rfn f ps (ih1 _ _ _) (ih2 _ _ _) hps

def namesOk (P : Program) : Bool := P.funcs.toList.all fun f => !(f.name == "runtime.NumGoroutine")

theorem fnOf_ok (hN:namesOk P=true) {f:Nat} {g:AFn} (h:fnOf P f=some g):Enters P f∧∃fn body,P.funcs[f]? = some fn∧fn.body=some body∧Comp P gl fn.ntmps body g.body∧g.res=fn.results.toList.map (cRes P)∧(∀r∈fn.results.toList,resOk P r=true)∧fn.ntmps≤4000:=by
 unfold fnOf at h
 split at h
 ·rename_i fn hf
  split at h
  ·rename_i body hb
   cases hc:(fn.results.toList.all (resOk P)&&Nat.ble fn.ntmps 4000)
   ·rw[hc] at h;cases h
   ·rw[hc] at h
    simp only[cond_true,Option.some.injEq] at h
    subst h
    simp only[Bool.and_eq_true,List.all_eq_true,Nat.ble_eq] at hc
    refine ⟨⟨fn,hf,by rw[hb];rfl, ?_⟩,fn,body,hf,hb,an_comp (cC_comp f body 0) _ _ _,rfl,hc.1,hc.2⟩
    unfold namesOk at hN
    rw[List.all_eq_true] at hN
    have:=hN fn (by simpa using Array.mem_of_getElem? hf)
    simpa using this
  ·cases h
 ·cases h

structure EnvFor (P:Program) (E:Env):Prop where
 mixed:P.follows .mixedOrders=true
 names:namesOk P=true
 fn:∀f g,E.fn f=some g→fnOf P f=some g
 sm:∀f g,E.sm f=some g→ValidF P E.gl f g

theorem EnvFor.ok {E:Env} (h:EnvFor P E):EnvOk P E:=⟨h.mixed,fun f g hf=>fnOf_ok h.names (h.fn f g hf),h.sm⟩

theorem call_ok {E:Env} (hE:EnvFor P E) {n:Nat} {f:FuncId} {args:List AV} {H:List Blk} {Q:Out→List Blk→Gh→Prop} (h:callx E (wpx E n) f args H {} Q) {m:M} {vs:Array Value} {w:World} (hv:VRL m args vs.toList) (hH:HR E.gl m H w) (hl:m.lp=fun _=>none) :
  Calls P f vs w (CallPost P E.gl [] m H w Q):=
 (callx_ok hE.ok (rec_ok hE.ok n) h hv hH (X:=[]) ⟨trivial,fun u l hu=>(by rw[hl] at hu;cases hu),List.nodup_nil,List.nodup_nil⟩).2

theorem Mx.below {m m':M} {H H':List Blk} {w w':World} (h:Mx [] m H w m' H' w') {B:Nat} (hB:B≤w.heap.size) (ho:∀k,Owned m H k→B≤k):Below B w w':=
 ⟨h.os,h.tape,h.output,h.size,fun k hk=>h.keep k (by omega) (fun hk'=>by have:=ho k hk';omega) (by simp)⟩

def m00:M:=⟨fun _=>none,fun _=>undef,fun _=>none,fun _ _=>none⟩

def Glob (gl:Nat→Option (List AV)) (w:World):Prop:=∀g cs,gl g=some cs→oldL 0 cs=true∧∃cu e fr,w.heap[g]? = some (.cells cu e fr)∧VRL m00 cs cu.toList

def isT (o:Out) (_:List Blk) (_:Gh):Prop:=match o with
 | .ret (.bool true)=>True
 | _=>False

end
end Go.Proofs.YtjenieljapmehaaGreatDoor

set_option linter.unusedSimpArgs false
set_option linter.unusedVariables false
namespace Go.Proofs.YtjenieljapmehaaGreatDoor
open Go.RowKit

inductive Spn where
 | here (ops:List AOper) (clo:AO)
 | left (x:Spn) (b:AC)
 | right (a:AC) (x:Spn)
 deriving Inhabited

structure DClo where
 fid:Nat
 dst:Nat
 ops:List AOper
 rest:AC
 deriving Inhabited

structure DFn where
 fid:Nat
 body:Spn
 res:List ARes
 clo:DClo
 deriving Inhabited

def spnx (E:Env) (rec:Rec):Spn→S→Gh→(Ex→S→Gh→Prop)→(AV→Ex→S→Gh→Prop)→Prop
 | .here ops clo,s,g,Q0,Q1=>rOps E rec ops s g fun e s g=>match e with
  | .nrm=>(match s.ev clo with
   | .fn (.func c) x y=>Q1 (.fn (.func c) x y) .nrm s g
   | _=>False)
  | e=>Q0 e s g
 | .left x b,s,g,Q0,Q1=>spnx E rec x s g Q0 fun d e s g=>match e with
  | .nrm=>rec b s g (Q1 d)
  | e=>Q1 d e s g
 | .right a x,s,g,Q0,Q1=>rec a s g fun e s g=>match e with
  | .nrm=>spnx E rec x s g Q0 Q1
  | e=>Q0 e s g

def qOps (E:Env):List AOper→S→(S→Prop)→Prop
 | [],s,K=>K s
 | o::os,s,K=>match o.guard with
  | some _=>False
  | none=>match lop E.gl s.ev (cur s.hp) (cellsAt s.hp) s.hp.length o.op with
   | some r=>ck E r.pre (qOps E os (S.put ⟨s.tm,s.hp++r.nb.toList⟩ o.dst r.v) K)
   | none=>hop E s.ev s.hp 0 o.op fun v H'=>qOps E os (S.put ⟨s.tm,H'⟩ o.dst v) K

def recV:Option AV→AV
 | some v=>v
 | none=>.nili

def dclo (E:Env) (rec:Rec) (D:DClo) (args:List AV) (H:List Blk) (g:Gh) (pv:Option AV) (K:List Blk→Gh→Prop):Prop:=
 bif Nat.ble args.length 4000 then qOps E D.ops (S.put ⟨mkArgs 0 args .e,H⟩ (some D.dst) (recV pv)) fun s=>rec D.rest s (g.at D.fid) fun e s g'=>match e with
  | .nrm=>K s.hp (g'.at g.f)
  | .ret=>K s.hp (g'.at g.f)
  | _=>False
 else False

def dend (E:Env) (rec:Rec) (D:DFn) (base kf:Nat) (Q:Out→List Blk→Gh→Prop) (clo:AV) (e:Ex) (s:S) (g:Gh):Prop:=match clo with
 | .fn (.func c) x y=>bif Nat.beq c D.clo.fid then (match e with
  | .nrm=>dclo E rec D.clo (x++y) s.hp g none fun H g'=>done E D.res base kf Q .ret ⟨s.tm,H⟩ g'
  | .ret=>dclo E rec D.clo (x++y) s.hp g none fun H g'=>done E D.res base kf Q .ret ⟨s.tm,H⟩ g'
  | .pan v=>dclo E rec D.clo (x++y) s.hp g (some v) fun H g'=>done E D.res base kf Q .ret ⟨s.tm,H⟩ g'
  | .exit _=>False) else False
 | _=>False

def callD (E:Env) (rec:Rec) (D:DFn) (args:List AV) (H:List Blk) (g:Gh) (Q:Out→List Blk→Gh→Prop):Prop:=
 bif Nat.ble args.length 4000 then spnx E rec D.body ⟨mkArgs 0 args .e,H⟩ (g.at D.fid) (done E D.res H.length g.f Q) (dend E rec D H.length g.f Q) else False


def spnOf (P:Program) (fid nt:Nat):Code→Option Spn
 | .region _ ops d=>bif d then none else match ops.toList.reverse with
  | o::l=>(match o.op,o.dst,o.guard with
   | .defer ⟨.value f,args,_⟩,none,none=>if args.toList=[] then some (.here (l.reverse.map (cOper P nt ops)) (cO f)) else none
   | _,_,_=>none)
  | []=>none
 | .seq a b=>match spnOf P fid nt a with
  | some x=>some (.left x (an (cC P fid nt 0 b) (2^nt-1) [] (2^nt-1)).1)
  | none=>match spnOf P fid nt b with
   | some x=>some (.right (an (cC P fid nt 0 a) (2^nt-1) [] (2^nt-1)).1 x)
   | none=>none
 | _=>none

def cloOf (P:Program) (fid:Nat):Option DClo:=match P.funcs[fid]? with
 | some fn=>(match fn.body with
  | some (.seq (.region _ ops d) rest)=>bif d then none else (match ops.toList with
   | o::l=>(match o.op,o.dst,o.guard with
    | .call ⟨.builtin .recover,_,_⟩,some t,none=>if t<fn.ntmps∧fn.ntmps≤4000∧fn.results.toList=[] then some ⟨fid,t,l.map (cOper P fn.ntmps ops),(an (cC P fid fn.ntmps 0 rest) 0 [] 0).1⟩ else none
    | _,_,_=>none)
   | []=>none)
  | _=>none)
 | none=>none

def dfnOf (P:Program) (f c:Nat):Option DFn:=match P.funcs[f]?,cloOf P c with
 | some fn,some D=>(match fn.body with
  | some b=>(match spnOf P f fn.ntmps b with
   | some x=>if fn.results.toList.all (resOk P)∧fn.ntmps≤4000 then some ⟨f,x,fn.results.toList.map (cRes P),D⟩ else none
   | none=>none)
  | none=>none)
 | _,_=>none

section
variable {P:Program}

inductive CompS (P:Program) (gl:Nat→Option (List AV)) (nt:Nat):Code→Spn→Prop
 | here (id:Nat) (ops:Array Oper) (l:List Oper) (o:Oper) (f:Operand) (ts:Array TypeId) (h:ops.toList=l++[o]) (h1:o.op=.defer ⟨.value f, #[],ts⟩) (h2:o.dst=none) (h3:o.guard=none) :
   CompS P gl nt (.region id ops false) (.here (l.map (cOper P nt ops)) (cO f))
 | left {a b:Code} {x:Spn} {b':AC} (h1:CompS P gl nt a x) (h2:Comp P gl nt b b'):CompS P gl nt (.seq a b) (.left x b')
 | right {a b:Code} {a':AC} {x:Spn} (h1:Comp P gl nt a a') (h2:CompS P gl nt b x):CompS P gl nt (.seq a b) (.right a' x)

theorem spnOf_ok {gl:Nat→Option (List AV)} {fid nt:Nat}:∀ (c:Code) (x:Spn),spnOf P fid nt c=some x→CompS P gl nt c x
 | .region id ops d,x,h=>by
  simp only[spnOf] at h
  cases d
  ·rw[cond_false] at h
   split at h
   ·rename_i o l hl
    split at h
    ·rename_i f args ts h1 h2 h3
     split at h
     ·rename_i ha
      have ha':args = #[]:=by apply Array.ext';simpa using ha
      subst ha'
      simp only[Option.some.injEq] at h
      subst h
      have e:ops.toList=l.reverse++[o]:=by
       have:=congrArg List.reverse hl
       simpa using this
      exact .here id ops l.reverse o f ts e h1 h2 h3
     ·cases h
    ·cases h
   ·cases h
  ·rw[cond_true] at h;cases h
 | .seq a b,x,h=>by
  simp only[spnOf] at h
  split at h
  ·rename_i y hy
   simp only[Option.some.injEq] at h
   subst h
   exact .left (spnOf_ok a y hy) (an_comp (cC_comp fid b 0) _ _ _)
  ·split at h
   ·rename_i y hy
    simp only[Option.some.injEq] at h
    subst h
    exact .right (an_comp (cC_comp fid a 0) _ _ _) (spnOf_ok b y hy)
   ·cases h
 | .skip,x,h=>by simp[spnOf] at h
 | .label _,x,h=>by simp[spnOf] at h
 | .cond _ _ _,x,h=>by simp[spnOf] at h
 | .block _ _,x,h=>by simp[spnOf] at h
 | .loop _,x,h=>by simp[spnOf] at h
 | .rangeFunc _ _ _ _,x,h=>by simp[spnOf] at h
 | .exit _,x,h=>by simp[spnOf] at h
 | .scope _,x,h=>by simp[spnOf] at h
 | .goto _,x,h=>by simp[spnOf] at h
 | .ret,x,h=>by simp[spnOf] at h
 | .refuse _,x,h=>by simp[spnOf] at h

structure CloOk (P:Program) (gl:Nat→Option (List AV)) (D:DClo):Prop where
 h:∃fn id ops o l args ts rest,P.funcs[D.fid]? = some fn∧fn.body=some (.seq (.region id ops false) rest)∧ops.toList=o::l∧o.op=.call ⟨.builtin .recover,args,ts⟩∧o.dst=some D.dst∧o.guard=none∧D.dst<fn.ntmps∧fn.ntmps≤4000∧fn.results.toList=[]∧D.ops=l.map (cOper P fn.ntmps ops)∧Comp P gl fn.ntmps rest D.rest

theorem cloOf_ok {gl:Nat→Option (List AV)} {fid:Nat} {D:DClo} (h:cloOf P fid=some D):D.fid=fid∧CloOk P gl D:=by
 unfold cloOf at h
 split at h
 ·rename_i fn hf
  split at h
  ·rename_i id ops d rest hb
   cases d
   ·rw[cond_false] at h
    split at h
    ·rename_i o l hl
     split at h
     ·rename_i args ts t h1 h2 h3
      split at h
      ·rename_i hc
       simp only[Option.some.injEq] at h
       subst h
       exact ⟨rfl,⟨fn,id,ops,o,l,args,ts,rest,hf,hb,hl,h1,h2,h3,hc.1,hc.2.1,hc.2.2,rfl,an_comp (cC_comp fid rest 0) _ _ _⟩⟩
      ·cases h
     ·cases h
    ·cases h
   ·rw[cond_true] at h;cases h
  ·cases h
 ·cases h


def TakesM (P:Program):List Deferred→World→(World→Prop)→Prop
 | [],w,K=>K w
 | d::ds,w,K=>∃r w',d.target=.collected r∧(Instr.takeDeferred r).run P w=.ok [] w'∧TakesM P ds w' K

theorem takes_steps {F:Fence} {n:Nat} {K:World→Prop}:∀ (ds:List Deferred) (w:World) (fr:Frame) (cs:List Frame),fr.mode≠.run→fr.defers=ds→F.fn fr.fn→F.room (cs.length+1+n)→TakesM P ds w K →
  ∃w',K w'∧StepsIn (Machine.fenced P F) P (lone fr cs w) (lone { fr with defers:=[] } cs w')
 | [],w,fr,cs,hm,hd,hb,hr,h=>⟨w,h,by
  have:({ fr with defers:=[] }:Frame)=fr:=by rw[←hd]
  rw[this]
  exact StepsIn.refl _⟩
 | d::ds,w,fr,cs,hm,hd,hb,hr,h=>by
  obtain ⟨r,w',htar,htake,hrest⟩:=h
  have h1:=step_collected (cs:=cs) hm hd htar htake
  have i1:(lone fr cs w).fenced P F:=fenced_out hb hr hm hd (fun g hg=>by rw[htar] at hg;simp[Target.leads] at hg)
  obtain ⟨w2,k1,k2⟩:=takes_steps ds w' { fr with defers:=[]++ds } cs hm rfl hb hr hrest
  exact ⟨w2,k1,StepsIn.trans (.one i1 h1) k2⟩

def PostSM (P:Program) (fn:Func) (c₀:Frame) (cs:List Frame) (R:FrameMode→World→Prop) (e:Exit) (a:Act) (cs':List Frame) (w:World):Prop:=
 (e=.normal∨e=.ret)∧∃u',cs' = { c₀ with mode:=u' }::cs∧TakesM P a.defers w fun w'=>∃v,(results fn a.tmps).run P w'=.ok v w'∧R u' w'

theorem callsDIn_marks {f:FuncId} {fn:Func} {c:Code} {args:Array Value} {u:FrameMode} {w:World} {R:FrameMode→World→Prop}
  (hf:P.funcs[f]? = some fn) (hb:fn.body=some c)
  (h:∀ (c₀:Frame) (cs:List Frame),c₀.mode=u →
   c.wpSIn (Wd none) 0 P (PostSM P fn c₀ cs R) { tmps:=args++Array.replicate (fn.ntmps-args.size) undef,defers:=[] } (c₀::cs) w) :
  CallsDIn (Wd none) 0 P f args u w fun e u' w'=>(∃v,e=.returned v)∧R u' w':=by
 refine ⟨trivial,fun c₀ cs hu hroom => ?_⟩
 let b:Frame := { (default:Frame) with fn:=f,kind:=.deferred,roundOf:=none }
 have henter:Frame.enter P f args .deferred =
   b.atR { tmps:=args++Array.replicate (fn.ntmps-args.size) undef,defers:=[] } [.code c]:=by
  simp[Frame.enter,Frame.atR,hf,hb,b]
 obtain ⟨e,a',cs',w',hl,⟨he,u',rfl,ht⟩,harr⟩:=h c₀ cs hu b [] rfl rfl trivial hroom
 rw[←henter] at harr
 rcases he with rfl | rfl
 ·have hs:=StepsIn.trans harr (.one (fenced_calm (F:=Wd none) (n:=0) (fr:=b.atR a' []) trivial hroom rfl) (stepR_end rfl))
  obtain ⟨w2,⟨v,k1,k2⟩,k3⟩:=takes_steps (F:=Wd none) (n:=0) a'.defers w' { b.atR a' [] with mode:=.returning } ({ c₀ with mode:=u' }::cs) (by simp) rfl trivial hroom ht
  exact ⟨.returned v,u',w2,_,⟨⟨v,rfl⟩,k2⟩,StepsIn.trans hs k3,rfl,rfl,rfl,rfl,fn,hf,k1⟩
 ·obtain ⟨todo,hs⟩:=harr.1 rfl
  obtain ⟨w2,⟨v,k1,k2⟩,k3⟩:=takes_steps (F:=Wd none) (n:=0) a'.defers w' { b.atR a' todo with mode:=.returning } ({ c₀ with mode:=u' }::cs) (by simp) rfl trivial hroom ht
  exact ⟨.returned v,u',w2,_,⟨⟨v,rfl⟩,k2⟩,StepsIn.trans hs k3,rfl,rfl,rfl,rfl,fn,hf,k1⟩

theorem qOps_ok {nt:Nat} (hnt:nt≤4000) {B:Fb} {E:Env} {ops:Array Oper} {X:List Ls} {g:Gh} {m0:M} {H0:List Blk} {w0:World} {cs:List Frame} {K:S→Prop} {Q:Exit→Act→List Frame→World→Prop} {F:Fence} {n:Nat} (hF:∀f,F.fn f) :
  ∀ (l:List Oper) (j:Nat) (s:S) (m:M) (a:Act) (w:World),ops.toList.drop j=l→SR E.gl nt B m s a w→LpR P E.gl X g m s.hp w→Mx (X.map (·.l)) m0 H0 w0 m s.hp w→qOps E (l.map (cOper P nt ops)) s K →
   (∀s' m' a' w',SR E.gl nt B m' s' a' w'→LpR P E.gl X g m' s'.hp w'→Mx (X.map (·.l)) m0 H0 w0 m' s'.hp w'→K s'→Q .normal a' cs w')→wpOpsSIn F n P ops Q (List.range' j l.length) a cs w
 | [],j,s,m,a,w,hd,h,hX,hm,hq,hk=>hk s m a w h hX hm hq
 | o::l,j,s,m,a,w,hd,h,hX,hm,hq,hk=>by
  have hget:ops[j]? = some o:=by
   have:=congrArg (fun l=>l[0]?) hd
   simp only[List.getElem?_drop,Nat.add_zero,List.getElem?_cons_zero,Array.getElem?_toList] at this
   exact this
  have hd':ops.toList.drop (j+1)=l:=by
   have:=congrArg (List.drop 1) hd
   rw[List.drop_drop] at this
   simpa using this
  simp only[List.map_cons,qOps] at hq
  rcases cOper_cases P nt ops o with ⟨why,hbad⟩ | ⟨hdst,c1,c2,c3⟩
  ·rw[hbad] at hq
   simp[lop,hop] at hq
  ·have hnx:∀s2 m2 a2 w2,SR E.gl nt B m2 s2 a2 w2→LpR P E.gl X g m2 s2.hp w2→Mx (X.map (·.l)) m0 H0 w0 m2 s2.hp w2→qOps E (l.map (cOper P nt ops)) s2 K→wpOpsSIn F n P ops Q (List.range' (j+1) l.length) a2 cs w2:=
    fun s2 m2 a2 w2 h2 hX2 hm2 hq2=>qOps_ok hnt hF l (j+1) s2 m2 a2 w2 hd' h2 hX2 hm2 hq2 hk
   split at hq
   ·cases hq
   ·rename_i hg
    have hw:=guard_same h c3 (r:=true) (by rw[hg];rfl)
    rw[List.length_cons,List.range'_succ]
    simp only[wpOpsSIn,hget]
    refine ⟨fun f _=>hF f, ?_⟩
    rw[if_pos hw]
    split at hq
    ·rename_i r hl
     obtain ⟨hp,hq⟩:=ck_ok hq
     rw[c2] at hl
     rw[c1] at hq
     rcases lop_ok (P:=P) h.hp h.ops (fun v=>rfl) o s.hp.length hl hp with ⟨hnb,v,hrun,hv⟩ | ⟨nb,v,w',I,hnb,hrun,hN,hv⟩
     ·rw[hrun]
      rw[hnb] at hq
      refine hnx _ m _ w (h.put hv hdst hnt) ?_ ?_ (by simpa using hq)
      ·cases o.dst<;>exact hX
      ·cases o.dst<;>exact hm
     ·rw[hrun]
      obtain ⟨q1,q2⟩:=h.hp.new hN
      rw[hnb] at hq
      have hs':=h.step q2 q1
      have hX':=hX.step (g':=g) h.hp q2 rfl (Nat.le_refl _)
      have hm':=hm.trans (q2.mx _)
      refine hnx _ (m.set s.hp.length I) _ w' (hs'.put (hv _ (M.set_same _ _ _)) hdst hnt) ?_ ?_ hq
      ·cases o.dst<;>exact hX'
      ·cases o.dst<;>exact hm'
    ·rw[c2] at hq
     rw[c1] at hq
     obtain ⟨av,H',v,w',m',k1,k2,k3,k4,k5⟩:=hop_ok (P:=P) h.hp h.ops o hq
     have hs':=h.step k5 k4
     have hX':=hX.step (g':=g) h.hp k5 rfl (Nat.le_refl _)
     have hm':=hm.trans (k5.mx _)
     rcases k2 with k2 | ⟨k2,rfl⟩
     ·rw[k2]
      refine hnx _ m' _ w' (hs'.put k3 hdst hnt) ?_ ?_ k1
      ·cases o.dst<;>exact hX'
      ·cases o.dst<;>exact hm'
     ·rw[k2]
      refine hnx _ m' _ w' (hs'.put k3 hdst hnt) ?_ ?_ k1
      ·cases o.dst<;>exact hX'
      ·cases o.dst<;>exact hm'

theorem takes_ok {gl:Nat→Option (List AV)} {m:M} {H:List Blk} {X:List Ls} {g:Gh} {m0:M} {H0:List Blk} {w0:World} {B:Nat} (hB:w0.heap.size≤B) {K:World→Prop} :
  ∀ (Ds:List Nat) (w:World),Ds.Nodup→(∀D∈Ds,B≤D∧w.heap[D]? = some (.deferred (some [])))→HR gl m H w→LpR P gl X g m H w→Mx (X.map (·.l)) m0 H0 w0 m H w →
   (∀w',HR gl m H w'→LpR P gl X g m H w'→Mx (X.map (·.l)) m0 H0 w0 m H w'→K w')→TakesM P (Ds.map markOf) w K
 | [],w,_,_,h1,h2,h3,hk=>hk w h1 h2 h3
 | D::Ds,w,hn,hD,h1,h2,h3,hk=>by
  have hd:=hD D (by simp)
  rw[List.nodup_cons] at hn
  refine ⟨D,w.putObj D (.deferred none),rfl,run_takeDeferred hd.2, ?_⟩
  refine takes_ok hB Ds _ hn.2 (fun D' hD'=>⟨(hD D' (by simp[hD'])).1, ?_⟩) (h1.putObj hd.2 (by intros;simp) _) ⟨Lps.putObj _ (h2.no_row hd.2) h2.all,h2.key,h2.us,h2.ls⟩ (h3.putObj (.inr (by omega)) _) hk
  rw[World.putObj_heap_other]
  ·exact (hD D' (by simp[hD'])).2
  ·intro e
   subst e
   exact hn.1 hD'

theorem mkArgs_sr {gl:Nat→Option (List AV)} {m:M} {args:List AV} {vs:Array Value} {H:List Blk} {w:World} {nt:Nat} (hv:VRL m args vs.toList) (hH:HR gl m H w) (hle:args.length≤4000) (b:Nat) :
  SR gl nt ⟨b,[]⟩ m ⟨mkArgs 0 args .e,H⟩ { tmps:=vs++Array.replicate (nt-vs.size) undef,defers:=[] } w:=by
 have hlen:args.length=vs.size:=by simpa using hv.len
 refine ⟨fun j => ?_,by simp;omega,⟨[],rfl,List.nodup_nil,fun D hD=>by cases hD⟩,hH⟩
 rw[mkArgs_get args 0 .e j (by omega)]
 by_cases hj:j<args.length
 ·rw[if_pos (by omega)]
  obtain ⟨v,hv1,hv2⟩:=hv.get (i:=j) (a:=args.getD j .undef) (by simp[hj])
  rw[Array.getElem?_toList] at hv1
  have:(vs++Array.replicate (nt-vs.size) undef).getD j undef=v:=by
   simp[Array.getElem?_append,show j<vs.size by omega]
   exact (Array.getElem?_eq_some_iff.1 hv1).2
  rw[this]
  simpa using hv2
 ·rw[if_neg (by omega),T.get_e]
  simp[VR]

def ModeOk (m:M) (u:FrameMode):Option AV→Prop
 | none=>u=.returning
 | some v=>∃cv,VR m v cv∧u=.panicking [{ v:=cv,recovered:=false }]

theorem clo_ok {E:Env} (hE:EnvOk P E) {rec:Rec} (hrec:RecOk P E rec) {D:DClo} (hD:CloOk P E.gl D) {X:List Ls} {args:List AV} {H:List Blk} {g:Gh} {pv:Option AV} {K:List Blk→Gh→Prop} {m:M} {w:World}
  (h:dclo E rec D args H g pv K) {vs:Array Value} (hv:VRL m args vs.toList) (hH:HR E.gl m H w) (hX:LpR P E.gl X g m H w) {u:FrameMode}
  (hu:ModeOk m u pv) :
  CallsDIn (Wd none) 0 P D.fid vs u w fun e u' w'=>(∃v,e=.returned v)∧settle u'=.returning∧∃H' g' m',K H' g'∧HR E.gl m' H' w'∧LpR P E.gl X g' m' H' w'∧Mx (X.map (·.l)) m H w m' H' w':=by
 obtain ⟨fn,id,ops,o,l,cargs,ts,rest,d1,d2,d3,d4,d5,d6,d7,d8,d9,d10,d11⟩:=hD.h
 unfold dclo at h
 cases hle:Nat.ble args.length 4000
 ·rw[hle] at h;exact h.elim
 rw[hle,cond_true] at h
 rw[Nat.ble_eq] at hle
 have hsr0:=mkArgs_sr (nt:=fn.ntmps) hv hH hle w.heap.size
 refine callsDIn_marks (R:=fun u' w'=>settle u'=.returning∧∃H' g' m',K H' g'∧HR E.gl m' H' w'∧LpR P E.gl X g' m' H' w'∧Mx (X.map (·.l)) m H w m' H' w') d1 d2 fun c₀ cs hm=>wpSIn_seq (wpSIn_region ?_)
 -- what recover gives
 obtain ⟨v,cv,u',hpv,hvr,hset,hrec'⟩:∃v cv u',recV pv=v∧VR m v cv∧settle u'=.returning ∧
   ((recoverD (c₀::cs)=some (cv,{ c₀ with mode:=u' }::cs))∨(recoverD (c₀::cs)=none∧cv=.nilIface∧c₀.mode=u')):=by
  cases pv with
  | none=>
   have hu:u=.returning:=hu
   refine ⟨_,.nilIface,.returning,rfl,by simp only[recV,VR],rfl,.inr ⟨?_,rfl,by rw[hm,hu]⟩⟩
   simp[recoverD,hm,hu]
  | some v=>
   obtain ⟨cv,h1,h2⟩:∃cv,VR m v cv∧u=.panicking [{ v:=cv,recovered:=false }]:=hu
   refine ⟨_,cv,.panicking [{ v:=cv,recovered:=true }],rfl,h1,rfl,.inl ?_⟩
   simp[recoverD,hm,h2]
 rw[hpv] at h
 have hsr1:=hsr0.put (dst:=some D.dst) hvr (fun k hk=>by cases hk;exact d7) d8
 have hrun:∀ρ,(execOp ρ o).run P w=.ok .recover w:=fun ρ=>by
  simp[execOp,d4,resolve,invoke,builtin]
 have hrest:∀a1,a1=Act.put { tmps:=vs++Array.replicate (fn.ntmps-vs.size) undef,defers:=[] } (some D.dst) cv→wpOpsSIn (Wd none) 0 P ops (Exit.thenS (rest.wpSIn (Wd none) 0 P (PostSM P fn c₀ cs fun u' w'=>settle u'=.returning∧∃H' g' m',K H' g'∧HR E.gl m' H' w'∧LpR P E.gl X g' m' H' w'∧Mx (X.map (·.l)) m H w m' H' w')) (PostSM P fn c₀ cs fun u' w'=>settle u'=.returning∧∃H' g' m',K H' g'∧HR E.gl m' H' w'∧LpR P E.gl X g' m' H' w'∧Mx (X.map (·.l)) m H w m' H' w')) (List.range' 1 l.length) a1 ({ c₀ with mode:=u' }::cs) w:=by
  rintro a1 rfl
  refine qOps_ok (P:=P) (m0:=m) (H0:=H) (w0:=w) d8 (fun _=>trivial) l 1 _ _ _ _ (by rw[d3];rfl) hsr1 (X:=X) (g:=g) hX ((Mv.refl _ _ _).mx _) (by rw[←d10];exact h) fun s' m1 a' w1 hs' hX1 hm1 hk => ?_
  refine wpSIn_of_wpIn rfl (wpIn_mono (hrec fn.ntmps ⟨w.heap.size,[]⟩ none X rest D.rest s' (g.at D.fid) _ m1 a' w1 d8 hm1.size (fun l hl=>by cases hl) d11 hs' ⟨hX1.all,hX1.key,hX1.us,hX1.ls⟩ hk) fun e a2 w2 hp => ?_)
  obtain ⟨ae,s2,g2,m2,q1,q2,q3,q4,q5'⟩:=hp
  have q5:=hm1.trans q5'
  have fin:K s2.hp (g2.at g.f)→TakesM P a2.defers w2 fun w'=>∃v,(results fn a2.tmps).run P w'=.ok v w'∧settle u'=.returning∧∃H' g' m',K H' g'∧HR E.gl m' H' w'∧LpR P E.gl X g' m' H' w'∧Mx (X.map (·.l)) m H w m' H' w':=by
   intro hK
   obtain ⟨Ds,e1,e2,e3⟩:=q3.df
   rw[e1,List.append_nil]
   refine takes_ok (w0:=w) (B:=w.heap.size) (Nat.le_refl _) Ds w2 e2 e3 q3.hp q4 q5 fun w'' k1 k2 k3 => ?_
   obtain ⟨vs',_,v,r2,_⟩:=results_ok (P:=P) (B:=⟨0,[]⟩) (a := { tmps:=a2.tmps,defers:=[] }) (s:=s2) (w:=w'') (E:=E) (fn:=fn) (K:=fun _=>True) ⟨q3.tm,q3.nt,⟨[],rfl,List.nodup_nil,fun D hD=>by cases hD⟩,k1⟩ (by rw[d9];simp) (by rw[d9];trivial)
   exact ⟨v,r2,hset,s2.hp,g2.at g.f,m2,hK,k1,⟨k2.all,k2.key,k2.us,k2.ls⟩,k3⟩
  cases ae with
  | nrm=>
   cases e<;>simp only[ExR] at q2
   exact ⟨.inl rfl,u',rfl,fin q1⟩
  | ret=>
   cases e<;>simp only[ExR] at q2
   exact ⟨.inr rfl,u',rfl,fin q1⟩
  | exit i=>exact q1.elim
  | pan v=>exact q1.elim
 have hsz:ops.size=l.length+1:=by
  have:=congrArg List.length d3
  simpa using this
 have hget:ops[0]? = some o:=by
  have:=congrArg (fun l=>l[0]?) d3
  simpa using this
 have hw:=guard_same (ops:=ops) (o:=o) (ag:=none) (r:=true) hsr0 (.inl ⟨d6,rfl⟩) rfl
 rw[hsz,List.range_eq_range',List.range'_succ]
 simp only[wpOpsSIn,hget]
 refine ⟨fun f _=>trivial, ?_⟩
 rw[if_pos hw,hrun,d5]
 rcases hrec' with h1 | ⟨h1,rfl,h2⟩
 ·rw[h1]
  exact hrest _ rfl
 ·rw[h1]
  have:=hrest _ rfl
  have e:({ c₀ with mode:=u' }:Frame)=c₀:=by rw[←h2]
  rwa [e] at this


def Q0n (Q0:Ex→S→Gh→Prop) (e:Ex) (s:S) (g:Gh):Prop:=match e with
 | .nrm=>False
 | e=>Q0 e s g

def PostD (P:Program) (gl:Nat→Option (List AV)) (nt b:Nat) (X:List Ls) (m:M) (H:List Blk) (w:World) (Q0:Ex→S→Gh→Prop) (Q1:AV→Ex→S→Gh→Prop) (e:Exit) (a':Act) (w':World):Prop:=
 Post P gl nt ⟨b,[]⟩ X m H w (Q0n Q0) e a' w' ∨
 ∃ (k:Nat) (Ds:List Nat) (c:FuncId) (x y:List AV) (x' y':Array Value) (ae:Ex) (s':S) (g':Gh) (m':M),b≤k∧k≤w'.heap.size∧DF ⟨b,[]⟩ (Ds.map markOf) w'∧(∀D∈Ds,D<k)∧Q1 (.fn (.func c) x y) ae s' g'∧ExR m' ae e ∧
  SR gl nt ⟨k,⟨.fn (.func c) y',x'⟩::Ds.map markOf⟩ m' s' a' w'∧LpR P gl X g' m' s'.hp w'∧Mx (X.map (·.l)) m H w m' s'.hp w'∧VRL m' x x'.toList∧VRL m' y y'.toList

theorem spn_ok {E:Env} (hE:EnvOk P E) {rec:Rec} (hrec:RecOk P E rec) {nt:Nat} (hnt:nt≤4000) {b:Nat} {X:List Ls} {m0:M} {H0:List Blk} {w0:World} (hb0:b≤w0.heap.size):∀ {code:Code} {x:Spn},CompS P E.gl nt code x →
  ∀ (s:S) (g:Gh) (m:M) (a:Act) (w:World) (Q0:Ex→S→Gh→Prop) (Q1:AV→Ex→S→Gh→Prop),SR E.gl nt ⟨b,[]⟩ m s a w→LpR P E.gl X g m s.hp w→Mx (X.map (·.l)) m0 H0 w0 m s.hp w→spnx E rec x s g Q0 Q1 →
   code.wpIn (Wd none) 0 P (PostD P E.gl nt b X m0 H0 w0 Q0 Q1) a w:=by
 intro code x hc
 induction hc with
 | here id ops l o f ts h h1 h2 h3=>
  intro s g m a w Q0 Q1 hs hX hm hx
  refine wpIn_region_list ?_
  rw[h]
  refine rOpsT_ok hE hrec hnt ops (B:=⟨b,[]⟩) (X:=X) (r0:=none) (m0:=m0) (H0:=H0) (w0:=w0) (QQ:=PostD P E.gl nt b X m0 H0 w0 Q0 Q1) (tail:=[o])
   (Q:=fun e s g=>match e with
    | .nrm=>(match s.ev (cO f) with
     | .fn (.func c) x y=>Q1 (.fn (.func c) x y) .nrm s g
     | _=>False)
    | e=>Q0 e s g) (fun v s g m a w hq hs hX hm cv hv=>.inl ⟨.pan v,s,g,m,hq,⟨cv,rfl,hv⟩,hs,hX,hm⟩) (fun s g m a w hq hs hX hm => ?_) l s g m a w hs hX hm hx
  have hf:=hs.ops f
  simp only at hq
  split at hq
  ·rename_i c x y he
   rw[he] at hf
   simp only[VR] at hf
   obtain ⟨x',y',e1,e2,e3⟩:=hf
   have hw:=guard_same (ops:=ops) (o:=o) (ag:=none) (r:=true) hs (.inl ⟨h3,rfl⟩) rfl
   refine wpListIn_step fun K hK => ?_
   rw[hw]
   simp only[if_true]
   have hrun:(execOp a.eval o).run P w=.ok (.defer ⟨.fn (.func c) y',x'⟩) w:=by
    simp[execOp,h1,resolve,e1,Deferred.ofValue]
   unfold Oper.wpIn
   refine ⟨fun _ _=>trivial, ?_⟩
   rw[show (Wd none).round=none from rfl,Oper.semAt_none,hrun,Oper.uponIn_defer]
   refine hK _ _ ?_
   rw[h2]
   obtain ⟨Ds,d1,d2,d3⟩:=hs.df
   refine .inr ⟨w.heap.size,Ds,c,x,y,x',y',.nrm,s,g,m,Nat.le_trans hb0 hm.size,Nat.le_refl _,⟨Ds,by simp,d2,d3⟩,fun D hD=>(Array.getElem?_eq_some_iff.1 (d3 D hD).2).1,hq,trivial,⟨hs.tm,hs.nt,⟨[], ?_,List.nodup_nil,fun D hD=>by cases hD⟩,hs.hp⟩,hX,hm,e2,e3⟩
   show _::a.defers=_
   rw[d1]
   simp
  ·exact hq.elim
 | @left a b' x b'' h1 h2 ih=>
  intro s g m a w Q0 Q1 hs hX hm hx
  refine wpIn_seq (wpIn_mono (ih s g m a w _ _ hs hX hm hx) fun e a1 w1 hp => ?_)
  rcases hp with hp | ⟨k,Ds,c,x,y,x',y',ae,s',g',m',p1,p2,p3,p4,p5,p6,p7,p8,p9,p10,p11⟩
  ·obtain ⟨ae,s',g',m',q1,q2,q3,q4,q5⟩:=hp
   cases ae with
   | nrm=>exact q1.elim
   | ret=>
    cases e<;>simp only[ExR] at q2
    exact .inl ⟨.ret,s',g',m',q1,trivial,q3,q4,q5⟩
   | exit i=>
    cases e<;>simp only[ExR] at q2
    exact .inl ⟨.exit i,s',g',m',q1,q2,q3,q4,q5⟩
   | pan v=>
    cases e<;>simp only[ExR] at q2
    exact .inl ⟨.pan v,s',g',m',q1,q2,q3,q4,q5⟩
  ·cases ae with
   | nrm=>
    cases e<;>simp only[ExR] at p6
    refine wpIn_mono (hrec nt ⟨k,⟨.fn (.func c) y',x'⟩::Ds.map markOf⟩ none X b' b'' s' g' _ m' a1 w1 hnt p2 (fun l hl=>by cases hl) h2 p7 p8 p5) fun e a2 w2 hp => ?_
    obtain ⟨ae,s2,g2,m2,q1,q2,q3,q4,q5⟩:=hp
    exact .inr ⟨k,Ds,c,x,y,x',y',ae,s2,g2,m2,p1,Nat.le_trans p2 q5.size,p3.stepx p7.hp p8 q5,p4,q1,q2,q3,q4,p9.trans q5,VRL.mono q5.ext _ _ p10,VRL.mono q5.ext _ _ p11⟩
   | ret=>
    cases e<;>simp only[ExR] at p6
    exact .inr ⟨k,Ds,c,x,y,x',y',.ret,s',g',m',p1,p2,p3,p4,p5,trivial,p7,p8,p9,p10,p11⟩
   | exit i=>
    cases e<;>simp only[ExR] at p6
    exact .inr ⟨k,Ds,c,x,y,x',y',.exit i,s',g',m',p1,p2,p3,p4,p5,p6,p7,p8,p9,p10,p11⟩
   | pan v=>
    cases e<;>simp only[ExR] at p6
    exact .inr ⟨k,Ds,c,x,y,x',y',.pan v,s',g',m',p1,p2,p3,p4,p5,p6,p7,p8,p9,p10,p11⟩
 | @right a b' a'' x h1 h2 ih=>
  intro s g m a w Q0 Q1 hs hX hm hx
  refine wpIn_seq (wpIn_mono (hrec nt ⟨b,[]⟩ none X _ _ s g _ m a w hnt (Nat.le_trans hb0 hm.size) (fun l hl=>by cases hl) h1 hs hX hx) fun e a1 w1 hp => ?_)
  obtain ⟨ae,s',g',m',q1,q2,q3,q4,q5⟩:=hp
  cases ae with
  | nrm=>
   cases e<;>simp only[ExR] at q2
   exact ih s' g' m' a1 w1 Q0 Q1 q3 q4 (hm.trans q5) q1
  | ret=>
   cases e<;>simp only[ExR] at q2
   exact .inl ⟨.ret,s',g',m',q1,trivial,q3,q4,hm.trans q5⟩
  | exit i=>
   cases e<;>simp only[ExR] at q2
   exact .inl ⟨.exit i,s',g',m',q1,q2,q3,q4,hm.trans q5⟩
  | pan v=>
   cases e<;>simp only[ExR] at q2
   exact .inl ⟨.pan v,s',g',m',q1,q2,q3,q4,hm.trans q5⟩

theorem leavesI_ok {gl:Nat→Option (List AV)} {m:M} {fn:Func} {tmps:Array Value} {R:Ending→World→Prop} {u:FrameMode} (hu:u≠.run) {X:List Ls} {g:Gh} {m0:M} {H0 H:List Blk} {w0:World} {B:Nat} (hB:w0.heap.size≤B) {ds:List Deferred} {I:World→Prop} (hI:∀w D,B≤D→I w→I (w.putObj D (.deferred none))) :
  ∀ (Ds:List Nat) (w:World),Ds.Nodup→(∀D∈Ds,B≤D∧w.heap[D]? = some (.deferred (some [])))→HR gl m H w→LpR P gl X g m H w→Mx (X.map (·.l)) m0 H0 w0 m H w→I w →
   (∀w',HR gl m H w'→LpR P gl X g m H w'→Mx (X.map (·.l)) m0 H0 w0 m H w'→I w'→LeavesInM (Wd none) 0 P fn tmps R ds u w')→LeavesInM (Wd none) 0 P fn tmps R (Ds.map markOf++ds) u w
 | [],w,_,_,h1,h2,h3,h4,hk=>hk w h1 h2 h3 h4
 | D::Ds,w,hn,hD,h1,h2,h3,h4,hk=>by
  have hd:=hD D (by simp)
  rw[List.nodup_cons] at hn
  refine ⟨hu,.inl ⟨D,w.putObj D (.deferred none),rfl,run_takeDeferred hd.2, ?_⟩⟩
  refine leavesI_ok hu hB hI Ds _ hn.2 (fun D' hD'=>⟨(hD D' (by simp[hD'])).1, ?_⟩) (h1.putObj hd.2 (by intros;simp) _) ⟨Lps.putObj _ (h2.no_row hd.2) h2.all,h2.key,h2.us,h2.ls⟩ (h3.putObj (.inr (by omega)) _) (hI _ _ hd.1 h4) hk
  rw[World.putObj_heap_other]
  ·exact (hD D' (by simp[hD'])).2
  ·intro e
   subst e
   exact hn.1 hD'

structure CompD (P:Program) (gl:Nat→Option (List AV)) (D:DFn):Prop where
 h:∃fn body,P.funcs[D.fid]? = some fn∧fn.body=some body∧CompS P gl fn.ntmps body D.body∧D.res=fn.results.toList.map (cRes P)∧(∀r∈fn.results.toList,resOk P r=true)∧fn.ntmps≤4000
 clo:CloOk P gl D.clo
 en:Enters P D.clo.fid

theorem dfnOf_ok (hN:namesOk P=true) {gl:Nat→Option (List AV)} {f c:Nat} {D:DFn} (h:dfnOf P f c=some D):D.fid=f∧CompD P gl D:=by
 unfold dfnOf at h
 split at h
 ·rename_i fn D' hf hc
  split at h
  ·rename_i b hb
   split at h
   ·rename_i x hx
    split at h
    ·rename_i hk
     simp only[Option.some.injEq] at h
     subst h
     refine ⟨rfl,⟨⟨fn,b,hf,hb,spnOf_ok b x hx,rfl,fun r hr=>List.all_eq_true.1 hk.1 r hr,hk.2⟩,(cloOf_ok hc).2, ?_⟩⟩
     obtain ⟨fnc,_,_,_,_,_,_,_,c1,c2,_⟩:=(cloOf_ok (gl:=gl) hc).2.h
     refine ⟨fnc,c1,by rw[c2];rfl, ?_⟩
     unfold namesOk at hN
     rw[List.all_eq_true] at hN
     have:=hN fnc (by simpa using Array.mem_of_getElem? c1)
     simpa using this
    ·cases h
   ·cases h
  ·cases h
 ·cases h

theorem callD_ok {E:Env} (hE:EnvOk P E) {rec:Rec} (hrec:RecOk P E rec) {D:DFn} (hD:CompD P E.gl D) {X:List Ls} {args:List AV} {H:List Blk} {g:Gh} {Q:Out→List Blk→Gh→Prop} {m:M} {w:World}
  (h:callD E rec D args H g Q) {vs:Array Value} (hv:VRL m args vs.toList) (hH:HR E.gl m H w) (hX:LpR P E.gl X g m H w):Calls P D.fid vs w (CallPost P E.gl X m H w Q):=by
 obtain ⟨fn,body,f1,f2,f3,f4,f5,f6⟩:=hD.h
 unfold callD at h
 cases hle:Nat.ble args.length 4000
 ·rw[hle] at h;exact h.elim
 rw[hle,cond_true] at h
 rw[Nat.ble_eq] at hle
 have hsr:=mkArgs_sr (nt:=fn.ntmps) hv hH hle w.heap.size
 have hwp:=spn_ok hE hrec f6 (b:=w.heap.size) (m0:=m) (H0:=H) (w0:=w) (Nat.le_refl _) f3 _ (g.at D.fid) m _ w _ _ hsr (⟨hX.all,hX.key,hX.us,hX.ls⟩:LpR P E.gl X (g.at D.fid) m H w) ((Mv.refl _ _ _).mx _) h
 -- behind the results
 have fin:∀ (s':S) (g':Gh) (m':M) (o:Out) (e':Ending) (v:AV) (cv:Value) (w'':World),(∀m'',VR m'' v cv→OutR m'' o e')→VR m' v cv→HR E.gl m' s'.hp w''→LpR P E.gl X g' m' s'.hp w''→Mx (X.map (·.l)) m H w m' s'.hp w''→leave E H.length (g'.f*4096+4094) v s'.hp (fun H'=>Q o H' (g'.at g.f))→CallPost P E.gl X m H w Q e' w'':=by
  intro s' g' m' o e' v cv w'' hout hv' hH'' hX'' hmv'' hl
  rcases leave_ok hl with h | ⟨⟨o1,o2⟩,h⟩
  ·exact ⟨o,s'.hp,g'.at g.f,m',h,hout m' hv',hH'',⟨hX''.all,hX''.key,hX''.us,hX''.ls⟩,hmv''⟩
  ·have hX3:=hX''.take hmv''.len hX.low
   exact ⟨o,_,g'.at g.f,m'.below H.length,h,hout _ (VR.below _ _ o1 hv'),HR.take (m0:=m) (H0:=H) (w0:=w) hH'' o2,⟨hX3.all,hX3.key,hX3.us,hX3.ls⟩,hmv''.take hH.dom (Nat.le_refl _)⟩
 refine callsIn_wide.1 (callsIn_of_wp_marks (F:=Wd none) (n:=0) f1 f2 trivial (wpIn_mono hwp fun e a' w' hp => ?_) rfl)
 rcases hp with hp | ⟨k,Ds,c,x,y,x',y',ae,s',g',m',p1,p2,p3,p4,p5,p6,p7,p8,p9,p10,p11⟩
 ·obtain ⟨ae,s',g',m',hq,hx,hs',hX',hmv⟩:=hp
  obtain ⟨Ds,d1,d2,d3⟩:=hs'.df
  have hl:=fun (u:FrameMode) (hu:u≠.run) (R:Ending→World→Prop)=>leaves_ok (P:=P) (gl:=E.gl) (fn:=fn) (tmps:=a'.tmps) (R:=R) (u:=u) hu (X:=X) (g:=g') (m:=m') (m0:=m) (H0:=H) (H:=s'.hp) (w0:=w) (B:=w.heap.size) (Nat.le_refl _) (ds:=[]) Ds w' d2 d3 hs'.hp hX' hmv
  cases ae with
  | nrm=>exact hq.elim
  | ret=>
   cases e<;>simp only[ExR] at hx
   simp only[bodyPostM]
   rw[d1]
   refine hl .returning (by simp) _ fun w'' k1 k2 k3 => ?_
   simp only[Q0n,done] at hq
   rw[f4] at hq
   obtain ⟨vs',r1,v,r2,r3⟩:=results_ok (P:=P) (B:=⟨0,[]⟩) (a := { tmps:=a'.tmps,defers:=[] }) (s:=s') (w:=w'') ⟨hs'.tm,hs'.nt,⟨[],rfl,List.nodup_nil,fun D hD=>by cases hD⟩,k1⟩ f5 hq
   exact ⟨v,r2,fin s' g' m' (.ret (tupOf vs')) (.returned v) _ v w'' (fun m'' h=>h) r3 k1 k2 k3 r1⟩
  | exit i=>cases hq
  | pan v=>
   cases e<;>simp only[ExR] at hx
   obtain ⟨cv,rfl,hcv⟩:=hx
   simp only[bodyPostM]
   rw[d1]
   refine hl (.panicking _) (by simp) _ fun w'' k1 k2 k3 => ?_
   exact fin s' g' m' (.pan v) (.panicked [{ v:=cv,recovered:=false }]) v cv w'' (fun m'' h=>⟨cv,rfl,h⟩) hcv k1 k2 k3 hq
 ·simp only[dend] at p5
  cases hc:Nat.beq c D.clo.fid
  ·rw[hc] at p5;exact p5.elim
  rw[hc,cond_true] at p5
  obtain rfl:=Nat.eq_of_beq_eq_true hc
  obtain ⟨Ds2,d1,d2,d3⟩:=p7.df
  have key:∀ (u:FrameMode) (pv:Option AV),u≠.run→ModeOk m' u pv →
    dclo E rec D.clo (x++y) s'.hp g' pv (fun H2 g2=>done E D.res H.length g.f Q .ret ⟨s'.tm,H2⟩ g2)→LeavesInM (Wd none) 0 P fn a'.tmps (CallPost P E.gl X m H w Q) a'.defers u w':=by
   intro u pv hu hpv hK
   rw[d1]
   refine leavesI_ok hu (w0:=w) (B:=k) p1 (I:=fun w3=>DF ⟨w.heap.size,[]⟩ (Ds.map markOf) w3) (fun w3 D' hD' hI => ?_) Ds2 w' d2 d3 p7.hp p8 p9 p3 fun w'' k1 k2 k3 k4 => ?_
   ·obtain ⟨Ds',e1,e2,e3⟩:=hI
    refine ⟨Ds',e1,e2,fun D0 hD0=>⟨(e3 D0 hD0).1, ?_⟩⟩
    rw[World.putObj_heap_other]
    ·exact (e3 D0 hD0).2
    ·rintro rfl
     have hm:markOf D0∈Ds.map markOf:=by rw[e1];simp only[List.append_nil];exact List.mem_map.2 ⟨_,hD0,rfl⟩
     obtain ⟨D1,h1,h2⟩:=List.mem_map.1 hm
     simp only[markOf,Deferred.mk.injEq,Target.collected.injEq,and_true] at h2
     subst h2
     have:=p4 _ h1
     omega
   ·have hinv:(invoke (.fn (.func D.clo.fid) y') x').run P w''=.ok (.enter D.clo.fid (x'++y')) w'':=by
     obtain ⟨fnc,h1,h2,h3⟩:=hD.en
     have h3' : ¬ fnc.name = "runtime.NumGoroutine" := by simpa using h3
     have h2':¬ fnc.body=none:=by
      intro e
      rw[e] at h2
      cases h2
     simp[invoke,callFunc,h1,h2',h3']
    refine ⟨hu,.inr ⟨fun h=>(by cases h),.func D.clo.fid,y',D.clo.fid,x'++y',rfl,hinv,fun _ _=>trivial, ?_⟩⟩
    refine (clo_ok hE hrec hD.clo hK (vs:=x'++y') (by rw[Array.toList_append];exact p10.append p11) k1 k2 hpv).mono fun e2 u2 w3 hp => ?_
    obtain ⟨⟨v,rfl⟩,hset,H3,g3,m3,q1,q2,q3,q4⟩:=hp
    show LeavesInM (Wd none) 0 P fn a'.tmps (CallPost P E.gl X m H w Q) (Ds.map markOf) (settle u2) w3
    rw[hset]
    obtain ⟨Ds',e1,e2,e3⟩:=k4.stepx k1 k2 q4
    rw[e1]
    refine leaves_ok (P:=P) (gl:=E.gl) (w0:=w) (B:=w.heap.size) (by simp) (Nat.le_refl _) (ds:=[]) Ds' w3 e2 e3 q2 q3 (k3.trans q4) fun w4 r1 r2 r3 => ?_
    simp only[done] at q1
    rw[f4] at q1
    obtain ⟨vs',t1,v',t2,t3⟩:=results_ok (P:=P) (B:=⟨0,[]⟩) (a := { tmps:=a'.tmps,defers:=[] }) (s:=⟨s'.tm,H3⟩) (m:=m3) (w:=w4) ⟨fun j=>VR.mono q4.ext _ _ (p7.tm j),p7.nt,⟨[],rfl,List.nodup_nil,fun D hD=>by cases hD⟩,r1⟩ f5 q1
    exact ⟨v',t2,fin ⟨s'.tm,H3⟩ g3 m3 (.ret (tupOf vs')) (.returned v') _ v' w4 (fun m'' h=>h) t3 r1 r2 r3 t1⟩
  cases ae with
  | nrm=>
   cases e<;>simp only[ExR] at p6
   exact key .returning none (by simp) rfl p5
  | ret=>
   cases e<;>simp only[ExR] at p6
   exact key .returning none (by simp) rfl p5
  | exit i=>exact p5.elim
  | pan v=>
   cases e<;>simp only[ExR] at p6
   obtain ⟨cv,rfl,hcv⟩:=p6
   exact key _ (some v) (by simp) ⟨cv,hcv,rfl⟩ p5
end

theorem callD_run {P:Program} {E:Env} (hE:EnvFor P E) {n:Nat} {f c:FuncId} {D:DFn} (hD:dfnOf P f c=some D) {args:List AV} {H:List Blk} {Q:Out→List Blk→Gh→Prop} (h:callD E (wpx E n) D args H {} Q) {m:M} {vs:Array Value} {w:World} (hv:VRL m args vs.toList) (hH:HR E.gl m H w) (hl:m.lp=fun _=>none) :
  Calls P f vs w (CallPost P E.gl [] m H w Q):=by
 obtain ⟨rfl,hC⟩:=dfnOf_ok (gl:=E.gl) hE.names hD
 exact callD_ok hE.ok (rec_ok hE.ok n) hC h hv hH (X:=[]) ⟨trivial,fun u l hu=>(by rw[hl] at hu;cases hu),List.nodup_nil,List.nodup_nil⟩
end Go.Proofs.YtjenieljapmehaaGreatDoor

set_option linter.unusedSimpArgs false
set_option linter.unusedVariables false
namespace Go.Proofs.YtjenieljapmehaaGreatDoor
open Go.RowKit

def lookV:List (Nat×Pa)→Nat→Option Pa
 | [],_=>none
 | (k,p)::l,j=>bif Nat.beq k j then some p else lookV l j
def lookB:List (Nat×Bool)→Nat→Option Bool
 | [],_=>none
 | (k,p)::l,j=>bif Nat.beq k j then some p else lookB l j
def mkT:List (Nat×AV)→T
 | []=>.e
 | (k,v)::l=>T.put 12 (mkT l) k v

mutual
def ren (ρ:Nat→Nat):AV→AV
 | .ptr id tot off=>.ptr (ρ id) tot off
 | .sl id tot off len sz=>.sl (ρ id) tot off len sz
 | .mp id=>.mp (ρ id)
 | .fn f x y=>.fn f (renL ρ x) (renL ρ y)
 | .yld _=>.undef
 | .iface t v=>.iface t (ren ρ v)
 | .agg l=>.agg (renL ρ l)
 | .tup l=>.tup (renL ρ l)
 | v=>v
def renL (ρ:Nat→Nat):List AV→List AV
 | []=>[]
 | v::l=>ren ρ v::renL ρ l
end

def renO (ρ:Nat→Nat):Out→Out
 | .ret v=>.ret (ren ρ v)
 | .pan v=>.pan (ren ρ v)

def renB (ρ:Nat→Nat) (b:Blk):Blk:=⟨b.k,b.lf,renL ρ b.cs⟩

theorem renL_length (ρ:Nat→Nat):∀l,(renL ρ l).length=l.length
 | []=>rfl
 | _::l=>by simp[renL,renL_length ρ l]

mutual
theorem old_ren (ρ:Nat→Nat):∀a,old 0 a=true→old 0 (ren ρ a)=true
 | .undef,_=>rfl
 | .opq _,_=>rfl
 | .bool _,_=>rfl
 | .int _ _,_=>rfl
 | .str _,_=>rfl
 | .nilp,_=>rfl
 | .ptr _ _ _,h=>by simp[old] at h
 | .gptr _ _,_=>rfl
 | .nils,_=>rfl
 | .sl _ _ _ _ _,h=>by simp[old] at h
 | .nilf,_=>rfl
 | .fn _ x y,h=>by
  simp only[ren,old,Bool.and_eq_true] at h ⊢
  exact ⟨oldL_ren ρ x h.1,oldL_ren ρ y h.2⟩
 | .yld _,_=>rfl
 | .nili,_=>rfl
 | .iface _ v,h=>by simp only[ren,old] at h ⊢;exact old_ren ρ v h
 | .agg l,h=>by simp only[ren,old] at h ⊢;exact oldL_ren ρ l h
 | .tup l,h=>by simp only[ren,old] at h ⊢;exact oldL_ren ρ l h
 | .lst _ _ _ _,_=>rfl
 | .lptr _ _ _,_=>rfl
 | .mpn,_=>rfl
 | .mp _,h=>by simp[old] at h
theorem oldL_ren (ρ:Nat→Nat):∀l,oldL 0 l=true→oldL 0 (renL ρ l)=true
 | [],_=>rfl
 | v::l,h=>by
  simp only[renL,oldL,Bool.and_eq_true] at h ⊢
  exact ⟨old_ren ρ v h.1,oldL_ren ρ l h.2⟩
end

mutual
theorem VR.small {m m0:M} {ρ:Nat→Nat} {n:Nat} (hb:∀j,j<n→m0.blk j=m.blk (ρ j)) (ho:m0.opq=m.opq) (hs:Ext m.strip m0.strip):∀ (a:AV) (v:Value),old n a=true→noY a=true→VR m (ren ρ a) v→VR m0 a v
 | .undef,_,_,_,_=>by simp[VR]
 | .opq i,v,_,_,h=>by simpa only [ren,VR,ho] using h
 | .bool _,_,_,_,h=>by simpa only [ren,VR] using h
 | .int _ _,_,_,_,h=>by simpa only [ren,VR] using h
 | .str _,_,_,_,h=>by simpa only [ren,VR] using h
 | .nilp,_,_,_,h=>by simpa only [ren,VR] using h
 | .ptr id tot off,v,o,_,h=>by
  simp only[old,blt_iff] at o
  simp only[ren,VR] at h ⊢
  rw[hb id o];exact h
 | .gptr _ _,_,_,_,h=>by simpa only [ren,VR] using h
 | .nils,_,_,_,h=>by simpa only [ren,VR] using h
 | .sl id tot off len sz,v,o,_,h=>by
  simp only[old,blt_iff] at o
  simp only[ren,VR] at h ⊢
  rw[hb id o];exact h
 | .mpn,_,_,_,h=>by simpa only [ren,VR] using h
 | .mp id,v,o,_,h=>by
  simp only[old,blt_iff] at o
  simp only[ren,VR] at h ⊢
  rw[hb id o];exact h
 | .nilf,_,_,_,h=>by simpa only [ren,VR] using h
 | .fn f x y,v,o,q,h=>by
  simp only[old,noY,Bool.and_eq_true] at o q
  simp only[ren,VR] at h ⊢
  obtain ⟨x',y',h1,h2,h3⟩:=h
  exact ⟨x',y',h1,VRL.small hb ho hs x _ o.1 q.1 h2,VRL.small hb ho hs y _ o.2 q.2 h3⟩
 | .yld u,_,_,q,_=>by simp[noY] at q
 | .nili,_,_,_,h=>by simpa only [ren,VR] using h
 | .iface t v,_,o,q,h=>by
  simp only[old,noY] at o q
  simp only[ren,VR] at h ⊢
  obtain ⟨x,h1,h2⟩:=h
  exact ⟨x,h1,VR.small hb ho hs v x o q h2⟩
 | .agg l,_,o,q,h=>by
  simp only[old,noY] at o q
  simp only[ren,VR] at h ⊢
  obtain ⟨x,h1,h2⟩:=h
  exact ⟨x,h1,VRL.small hb ho hs l _ o q h2⟩
 | .tup l,_,o,q,h=>by
  simp only[old,noY] at o q
  simp only[ren,VR] at h ⊢
  obtain ⟨x,h1,h2⟩:=h
  exact ⟨x,h1,VRL.small hb ho hs l _ o q h2⟩
 | .lst t l len sz,v,_,_,h=>by
  simp only[ren,VR] at h ⊢
  obtain ⟨h1,h2,a,cap,h3,h4,h5⟩:=h
  exact ⟨h1,h2,a,cap,h3,h4,h5.imp (fun ⟨a,cs,ka,k0,k1,k2,k3⟩=>⟨a,cs,ka,k0,hs.frz _ _ _ k1,k2,VRL.mono hs _ _ k3⟩) id⟩
 | .lptr t l off,v,_,_,h=>by
  simp only[ren,VR] at h ⊢
  obtain ⟨h1,b,o,cs,h3,h4,h5,h6⟩:=h
  exact ⟨h1,b,o,cs,h3,hs.frz _ _ _ h4,h5,VRL.mono hs _ _ h6⟩
theorem VRL.small {m m0:M} {ρ:Nat→Nat} {n:Nat} (hb:∀j,j<n→m0.blk j=m.blk (ρ j)) (ho:m0.opq=m.opq) (hs:Ext m.strip m0.strip):∀ (l:List AV) (vs:List Value),oldL n l=true→noYL l=true→VRL m (renL ρ l) vs→VRL m0 l vs
 | [],vs,_,_,h=>by simpa only [renL,VRL] using h
 | a::l,vs,o,q,h=>by
  simp only[oldL,noYL,Bool.and_eq_true] at o q
  simp only[renL] at h
  obtain ⟨v,vs',rfl,h1,h2⟩:=VRL_consL h
  rw[VRL_cons]
  exact ⟨VR.small hb ho hs a v o.1 q.1 h1,VRL.small hb ho hs l vs' o.2 q.2 h2⟩
end

mutual
theorem VR.wide {m m0:M} {σ:Nat→Nat} (hb:∀j I,m0.blk j=some I→m.blk (σ j)=some I) (ho:m0.opq=m.opq) (hs:Ext m0.strip m.strip):∀ (a:AV) (v:Value),VR m0 a v→VR m (ren σ a) v
 | .undef,_,_=>by simp[ren,VR]
 | .opq i,v,h=>by simpa only [ren,VR,ho] using h
 | .bool _,_,h=>by simpa only [ren,VR] using h
 | .int _ _,_,h=>by simpa only [ren,VR] using h
 | .str _,_,h=>by simpa only [ren,VR] using h
 | .nilp,_,h=>by simpa only [ren,VR] using h
 | .ptr id tot off,v,h=>by
  simp only[ren,VR] at h ⊢
  obtain ⟨h1,I,h2,h3⟩:=h
  exact ⟨h1,I,hb _ _ h2,h3⟩
 | .gptr _ _,_,h=>by simpa only [ren,VR] using h
 | .nils,_,h=>by simpa only [ren,VR] using h
 | .sl id tot off len sz,v,h=>by
  simp only[ren,VR] at h ⊢
  obtain ⟨h1,I,h2,h3⟩:=h
  exact ⟨h1,I,hb _ _ h2,h3⟩
 | .mpn,_,h=>by simpa only [ren,VR] using h
 | .mp id,v,h=>by
  simp only[ren,VR] at h ⊢
  obtain ⟨h1,I,h2,h3⟩:=h
  exact ⟨h1,I,hb _ _ h2,h3⟩
 | .nilf,_,h=>by simpa only [ren,VR] using h
 | .fn f x y,v,h=>by
  simp only[ren,VR] at h ⊢
  obtain ⟨x',y',h1,h2,h3⟩:=h
  exact ⟨x',y',h1,VRL.wide hb ho hs x _ h2,VRL.wide hb ho hs y _ h3⟩
 | .yld u,_,_=>by simp[ren,VR]
 | .nili,_,h=>by simpa only [ren,VR] using h
 | .iface t v,_,h=>by
  simp only[ren,VR] at h ⊢
  obtain ⟨x,h1,h2⟩:=h
  exact ⟨x,h1,VR.wide hb ho hs v x h2⟩
 | .agg l,_,h=>by
  simp only[ren,VR] at h ⊢
  obtain ⟨x,h1,h2⟩:=h
  exact ⟨x,h1,VRL.wide hb ho hs l _ h2⟩
 | .tup l,_,h=>by
  simp only[ren,VR] at h ⊢
  obtain ⟨x,h1,h2⟩:=h
  exact ⟨x,h1,VRL.wide hb ho hs l _ h2⟩
 | .lst t l len sz,v,h=>by
  simp only[ren,VR] at h ⊢
  obtain ⟨h1,h2,a,cap,h3,h4,h5⟩:=h
  exact ⟨h1,h2,a,cap,h3,h4,h5.imp (fun ⟨a,cs,ka,k0,k1,k2,k3⟩=>⟨a,cs,ka,k0,hs.frz _ _ _ k1,k2,VRL.mono hs _ _ k3⟩) id⟩
 | .lptr t l off,v,h=>by
  simp only[ren,VR] at h ⊢
  obtain ⟨h1,b,o,cs,h3,h4,h5,h6⟩:=h
  exact ⟨h1,b,o,cs,h3,hs.frz _ _ _ h4,h5,VRL.mono hs _ _ h6⟩
theorem VRL.wide {m m0:M} {σ:Nat→Nat} (hb:∀j I,m0.blk j=some I→m.blk (σ j)=some I) (ho:m0.opq=m.opq) (hs:Ext m0.strip m.strip):∀ (l:List AV) (vs:List Value),VRL m0 l vs→VRL m (renL σ l) vs
 | [],vs,h=>by simpa only [renL,VRL] using h
 | a::l,vs,h=>by
  obtain ⟨v,vs',rfl,h1,h2⟩:=VRL_consL h
  simp only[renL]
  rw[VRL_cons]
  exact ⟨VR.wide hb ho hs a v h1,VRL.wide hb ho hs l vs' h2⟩
end

structure Fr (ρ:Nat→Nat) (H0 H:List Blk):Prop where
 blk:∀ (j:Nat) (b0:Blk),H0[j]? = some b0→ρ j<H.length∧oldL H0.length b0.cs=true∧noYL b0.cs=true∧(b0.lf=true→oldL 0 b0.cs=true)∧∃b,H[ρ j]? = some b∧b.cs=renL ρ b0.cs∧(b0.k=.ro∨b0.k=b.k)
 inj:∀ (j j':Nat) (b0:Blk),H0[j]? = some b0→b0.k≠.ro→j'<H0.length→ρ j=ρ j'→j=j'
 nmp:∀ (j:Nat) (b0:Blk),H0[j]? = some b0→b0.k=.ro→∀c,b0.cs≠[.tup c]

theorem isMap_nt {b:Blk} (h:b.k=.ro→∀c,b.cs≠[.tup c]):isMap b=false:=by
 cases hb:isMap b with
 | false=>rfl
 | true=>
  obtain ⟨c,hc⟩:=isMap_some hb
  obtain ⟨k1,k2⟩:=mapC_k hc
  exact absurd k2 (h k1 c)
theorem isMap_ren {ρ:Nat→Nat} {b0 b:Blk} (h:b.cs=renL ρ b0.cs) (hk:b0.k=.ro∨b0.k=b.k) (hm:b0.k=.ro→∀c,b0.cs≠[.tup c]):isMap b=false:=by
 refine isMap_nt fun k1 c k2 => ?_
 have hk0:b0.k=.ro:=hk.elim id fun e=>e.trans k1
 rw[k2] at h
 cases hc0:b0.cs with
 | nil=>rw[hc0] at h;simp[renL] at h
 | cons x l=>
  rw[hc0] at h
  simp only[renL,List.cons.injEq] at h
  cases l with
  | cons y l=>simp[renL] at h
  | nil=>
   cases x<;>simp[ren] at h
   exact hm hk0 _ hc0

def sig (ρ:Nat→Nat) (n N:Nat) (j:Nat):Nat:=if j<n then ρ j else N+(j-n)

structure FrEnd (ρ:Nat→Nat) (H0 H0' H H':List Blk):Prop where
 len:H0.length≤H0'.length
 ro:∀ (j:Nat) (b0:Blk),H0[j]? = some b0→b0.k=.ro→∃b,H0'[j]? = some b∧b.k=.ro∧b.cs=b0.cs
 nro:∀ (j:Nat) (b0:Blk),H0[j]? = some b0→b0.k≠.ro→∃b,H0'[j]? = some b∧b.k=b0.k
 new:∀ (j:Nat) (b0:Blk),H0.length≤j→H0'[j]? = some b0→b0.k≠.ro
 len':H'.length=H.length+(H0'.length-H0.length)
 same:∀id,id<H.length→(∀ (j:Nat) (b0:Blk),H0[j]? = some b0→b0.k≠.ro→ρ j≠id)→H'[id]? = H[id]?
 got:∀ (j:Nat) (b:Blk),H0'[j]? = some b→b.k≠.ro→H'[sig ρ H0.length H.length j]? = some (renB (sig ρ H0.length H.length) b)

section
variable {P:Program} {gl:Nat→Option (List AV)} {m:M} {H H0:List Blk} {w:World} {ρ:Nat→Nat}

def smallM (m:M) (ρ:Nat→Nat) (n:Nat):M:=⟨fun j=>if j<n then m.blk (ρ j) else none,m.opq,fun _=>none,m.frz⟩

theorem Fr.hr (hF:Fr ρ H0 H) (hH:HR gl m H w) (hgl:∀g cs,gl g=some cs→noYL cs=true):HR gl (smallM m ρ H0.length) H0 w:=by
 have hb:∀j,j<H0.length→(smallM m ρ H0.length).blk j=m.blk (ρ j):=fun j hj=>by simp[smallM,hj]
 have hlt:∀ {j I},(smallM m ρ H0.length).blk j=some I→j<H0.length∧m.blk (ρ j)=some I:=fun {j I} h=>by
  simp only[smallM] at h
  split at h
  ·rename_i hj;exact ⟨hj,h⟩
  ·cases h
 refine ⟨fun id I h=>(hlt h).1,fun id I b0 h h2 => ?_,fun j j' I I' b0 h1 h2 h3 h4 h5 => ?_,fun g cs hg => ?_,hH.gld,hH.frz,fun t k cs id I b0 hg h1 h2 h3 => ?_,fun g cs id I b0 hg h1 h2 h3 => ?_⟩
 ·obtain ⟨hj,hm⟩:=hlt h
  obtain ⟨e1,e2,e3,e4,b,e5,e6,e7⟩:=hF.blk id b0 h2
  have hB:=hH.blk _ I b hm e5
  obtain ⟨cu,e,lo,hi,q1,q2,q3,q4,q5,q6⟩:=hB.row (isMap_ren e6 e7 (hF.nmp id b0 h2))
  refine ⟨by rw[hB.tot,e6,renL_length],e4,fun _=>⟨cu,e,lo,hi,q1,q2,q3,fun hk => ?_,fun hk => ?_, ?_⟩,fun c hc=>by
   have:=isMap_nt (hF.nmp id b0 h2)
   simp[isMap,hc] at this⟩
  ·rcases e7 with e7 | e7
   ·rw[hk] at e7;cases e7
   ·exact q4 (by rw[←e7,hk])
  ·rcases e7 with e7 | e7
   ·exact absurd e7 hk
   ·rw[e7];exact q5 (by rw[←e7];exact hk)
  ·rw[e6] at q6
   exact VRL.small hb rfl (Ext.refl _) _ _ e2 e3 q6
 ·obtain ⟨hj,hm⟩:=hlt h1
  obtain ⟨hj',hm'⟩:=hlt h2
  obtain ⟨e1,e2,e3,e4,b,e5,e6,e7⟩:=hF.blk j b0 h3
  have h4:=ownB_k h4 (isMap_nt (hF.nmp j b0 h3))
  have hk:b.k≠.ro:=by
   rcases e7 with e7 | e7
   ·exact absurd e7 h4
   ·rw[←e7];exact h4
  exact hF.inj j j' b0 h3 h4 hj' (hH.inj _ _ _ _ b hm hm' e5 (.inl hk) h5)
 ·obtain ⟨cu,e,fr,h1,h2⟩:=hH.glb g cs hg
  exact ⟨cu,e,fr,h1,VRL.flat (m:=m) (m':=smallM m ρ H0.length) rfl (Ext.refl _) _ _ (hH.gld g cs hg) (hgl g cs hg) h2⟩
 ·obtain ⟨hj,hm⟩:=hlt h1
  obtain ⟨e1,e2,e3,e4,b,e5,e6,e7⟩:=hF.blk id b0 h2
  have h3:=ownB_k h3 (isMap_nt (hF.nmp id b0 h2))
  exact hH.fow t k cs _ I b hg hm e5 (.inl <| by
   rcases e7 with e7 | e7
   ·exact absurd e7 h3
   ·rw[←e7];exact h3)
 ·obtain ⟨hj,hm⟩:=hlt h1
  obtain ⟨e1,e2,e3,e4,b,e5,e6,e7⟩:=hF.blk id b0 h2
  have h3:=ownB_k h3 (isMap_nt (hF.nmp id b0 h2))
  exact hH.gow g cs _ I b hg hm e5 (.inl <| by
   rcases e7 with e7 | e7
   ·exact absurd e7 h3
   ·rw[←e7];exact h3)

open Classical in
noncomputable def bigM (m m0':M) (ρ:Nat→Nat) (H0 H:List Blk):M:=
 ⟨fun id=>if id<H.length then (if h:∃j:Nat,(∃b0:Blk,H0[j]? = some b0∧b0.k≠.ro)∧ρ j=id then m0'.blk h.choose else m.blk id) else m0'.blk (H0.length+(id-H.length)),m.opq,m.lp,m0'.frz⟩

theorem Fr.end (hF:Fr ρ H0 H) (hH:HR gl m H w) (hgl:∀g cs,gl g=some cs→noYL cs=true) {H0' H':List Blk} {w':World} {m0':M} (hE:FrEnd ρ H0 H0' H H') (hH0':HR gl m0' H0' w') (hM:Mx [] (smallM m ρ H0.length) H0 w m0' H0' w') :
  ∃m',(∀j I,m0'.blk j=some I→m'.blk (sig ρ H0.length H.length j)=some I)∧m'.opq=m0'.opq∧m'.frz=m0'.frz∧HR gl m' H' w'∧Mv m H w m' H' w':=by
 have hb0:∀j,j<H0.length→(smallM m ρ H0.length).blk j=m.blk (ρ j):=fun j hj=>by simp[smallM,hj]
 have hget:∀j,j<H0.length→∃b0,H0[j]? = some b0:=fun j hj=>⟨H0[j],List.getElem?_eq_getElem hj⟩
 have hltH:∀ {j b0},H0[j]? = some b0→j<H0.length:=fun h=>(List.getElem?_eq_some_iff.1 h).1
 -- a number that is written has one small number
 have hch:∀ (j:Nat) (b0:Blk) (h:∃j':Nat,(∃b0:Blk,H0[j']? = some b0∧b0.k≠.ro)∧ρ j'=ρ j),H0[j]? = some b0→b0.k≠.ro→h.choose=j:=fun j b0 h h1 h2=>by
  obtain ⟨⟨b1,c1,c2⟩,c3⟩:=h.choose_spec
  exact hF.inj _ _ b1 c1 c2 (hltH h1) c3
 -- blocks that the run may not write stay
 have hro:∀ (j:Nat) (b0:Blk) (I:Inf),H0[j]? = some b0→b0.k=.ro→m0'.blk j=some I→m.blk (ρ j)=some I:=fun j b0 I h1 h2 h3=>by
  have hj:=hltH h1
  cases hm:m.blk (ρ j) with
  | none=>rw[hM.nw j hj (by rw[hb0 j hj,hm])] at h3;cases h3
  | some J=>
   obtain ⟨J',e1,e2,e3⟩:=hM.ext.blk j J (by rw[hb0 j hj,hm])
   rw[h3] at e1
   cases e1
   obtain ⟨b,c1,c2,c3⟩:=hE.ro j b0 h1 h2
   have t1:=(hH0'.blk j I b h3 c1).tot
   have t2:=((hF.hr hH hgl).blk j J b0 (by rw[hb0 j hj,hm]) h1).tot
   rw[e3 (by rw[t1,t2,c3])]
 have hold:∀id,id<H.length→(∀ (j:Nat) (b0:Blk),H0[j]? = some b0→b0.k≠.ro→ρ j≠id)→(bigM m m0' ρ H0 H).blk id=m.blk id:=fun id hid hn=>by
  simp only[bigM,if_pos hid]
  rw[dif_neg]
  rintro ⟨j,⟨b0,h1,h2⟩,h3⟩
  exact hn j b0 h1 h2 h3
 have hwr:∀ (j:Nat) (b0:Blk),H0[j]? = some b0→b0.k≠.ro→(bigM m m0' ρ H0 H).blk (ρ j)=m0'.blk j:=fun j b0 h1 h2=>by
  have hr:=(hF.blk j b0 h1).1
  simp only[bigM,if_pos hr]
  have hex:∃j',(∃b0,H0[j']? = some b0∧b0.k≠.ro)∧ρ j'=ρ j:=⟨j,⟨b0,h1,h2⟩,rfl⟩
  rw[dif_pos hex,hch j b0 hex h1 h2]
 have hnew:∀id,H.length≤id→(bigM m m0' ρ H0 H).blk id=m0'.blk (H0.length+(id-H.length)):=fun id hid=>by
  simp only[bigM,if_neg (Nat.not_lt.2 hid)]
 have hsig:∀j I,m0'.blk j=some I→(bigM m m0' ρ H0 H).blk (sig ρ H0.length H.length j)=some I:=fun j I h=>by
  unfold sig
  split
  ·rename_i hj
   obtain ⟨b0,h1⟩:=hget j hj
   by_cases hk:b0.k=.ro
   ·have hmr:=hro j b0 I h1 hk h
    by_cases hx:∀ (j':Nat) (b1:Blk),H0[j']? = some b1→b1.k≠.ro→ρ j'≠ρ j
    ·rw[hold (ρ j) (hF.blk j b0 h1).1 hx];exact hmr
    ·exfalso
     apply hx
     intro j' b1 c1 c2 c3
     have:=hF.inj j' j b1 c1 c2 hj c3
     subst this
     rw[h1] at c1
     cases c1
     exact c2 hk
   ·rw[hwr j b0 h1 hk];exact h
  ·rename_i hj
   rw[hnew _ (by omega),show H0.length+(H.length+(j-H0.length)-H.length)=j by omega]
   exact h
 have hopq:m0'.opq=m.opq:=hM.ext.opq
 -- each number of the caller's comes of a small one, or is as it was
 have hcases:∀id I,(bigM m m0' ρ H0 H).blk id=some I→(∃j b,m0'.blk j=some I∧H0'[j]? = some b∧b.k≠.ro∧id=sig ρ H0.length H.length j∧H'[id]? = some (renB (sig ρ H0.length H.length) b)) ∨
   (id<H.length∧(∀ (j:Nat) (b0:Blk),H0[j]? = some b0→b0.k≠.ro→ρ j≠id)∧m.blk id=some I∧H'[id]? = H[id]?):=fun id I h=>by
  by_cases hid:id<H.length
  ·by_cases hx:∀ (j:Nat) (b0:Blk),H0[j]? = some b0→b0.k≠.ro→ρ j≠id
   ·exact .inr ⟨hid,hx,by rw[←hold id hid hx];exact h,hE.same id hid hx⟩
   ·have:∃ (j:Nat) (b0:Blk),H0[j]? = some b0∧b0.k≠.ro∧ρ j=id:=by
     apply Classical.byContradiction
     intro hne
     apply hx
     intro j b0 h1 h2 h3
     exact hne ⟨j,b0,h1,h2,h3⟩
    obtain ⟨j,b0,h1,h2,rfl⟩:=this
    rw[hwr j b0 h1 h2] at h
    obtain ⟨b,c1,c2⟩:=hE.nro j b0 h1 h2
    have hs:ρ j=sig ρ H0.length H.length j:=by unfold sig;rw[if_pos (hltH h1)]
    have hk:b.k≠.ro:=by rw[c2];exact h2
    exact .inl ⟨j,b,h,c1,hk,hs,by rw[hs];exact hE.got j b c1 hk⟩
  ·rw[hnew id (by omega)] at h
   have hlt:=hH0'.dom _ _ h
   have hs:id=sig ρ H0.length H.length (H0.length+(id-H.length)):=by unfold sig;rw[if_neg (by omega)];omega
   have hk:=hE.new _ _ (Nat.le_add_right _ _) (List.getElem?_eq_getElem hlt)
   exact .inl ⟨_,_,h,List.getElem?_eq_getElem hlt,hk,hs,by have:=hE.got _ _ (List.getElem?_eq_getElem hlt) hk;rw[←hs] at this;exact this⟩
 have hsiz:∀id I,id<H.length→m.blk id=some I→I.b<w.heap.size:=fun id I hid h=>by
  obtain ⟨_,q1,_⟩:=(hH.blk id I H[id] h (List.getElem?_eq_getElem hid)).obj
  exact (Array.getElem?_eq_some_iff.1 q1).1
 have hown0:∀k,Owned (smallM m ρ H0.length) H0 k→∃ (j:Nat) (b0:Blk) (I:Inf) (b:Blk),H0[j]? = some b0∧b0.k≠.ro∧m.blk (ρ j)=some I∧H[ρ j]? = some b∧b.k≠.ro∧I.b=k:=fun k hk=>by
  obtain ⟨j,I,b0,h1,h2,h3,rfl⟩:=hk
  have hj:=hltH h2
  rw[hb0 j hj] at h1
  obtain ⟨e1,e2,e3,e4,b,e5,e6,e7⟩:=hF.blk j b0 h2
  have h3:=ownB_k h3 (isMap_nt (hF.nmp j b0 h2))
  refine ⟨j,b0,I,b,h2,h3,h1,e5, ?_,rfl⟩
  rcases e7 with e7 | e7
  ·exact absurd e7 h3
  ·rw[←e7];exact h3
 have hkeep:∀id I,id<H.length→m.blk id=some I→(∀ (j:Nat) (b0:Blk),H0[j]? = some b0→b0.k≠.ro→ρ j≠id)→¬ Owned (smallM m ρ H0.length) H0 I.b:=fun id I hid h hx ho=>by
  obtain ⟨j,b0,J,b,h1,h2,h3,h4,h5,h6⟩:=hown0 _ ho
  exact hx j b0 h1 h2 (hH.inj _ _ _ _ b h3 h h4 (.inl h5) h6)
 have hstr:Ext m0'.strip (bigM m m0' ρ H0 H).strip:=⟨fun _ _ h=>(by cases h),hopq.symm,fun _ _ h=>(by cases h),fun _ _ _ h=>h⟩
 have hext:Ext m (bigM m m0' ρ H0 H):=by
  refine ⟨fun id I h => ?_,rfl,fun u l h=>h,fun t k cs h=>hM.ext.frz t k cs h⟩
  have hid:=hH.dom id I h
  by_cases hx:∀ (j:Nat) (b0:Blk),H0[j]? = some b0→b0.k≠.ro→ρ j≠id
  ·exact ⟨I,by rw[hold id hid hx];exact h,Nat.le_refl _,fun _=>rfl⟩
  ·have:∃ (j:Nat) (b0:Blk),H0[j]? = some b0∧b0.k≠.ro∧ρ j=id:=by
    apply Classical.byContradiction
    intro hne
    apply hx
    intro j b0 h1 h2 h3
    exact hne ⟨j,b0,h1,h2,h3⟩
   obtain ⟨j,b0,h1,h2,rfl⟩:=this
   rw[hwr j b0 h1 h2]
   exact hM.ext.blk j I (by rw[hb0 j (hltH h1)];exact h)
 refine ⟨bigM m m0' ρ H0 H,hsig,hopq.symm,rfl,⟨fun id I h => ?_,fun id I b h h2 => ?_,fun id id' I I' b h1 h2 h3 h4 h5 => ?_,fun g cs hg => ?_,hH.gld,hH0'.frz,fun t k cs id I b hg h1 h2 h3 => ?_,fun g cs id I b hg h1 h2 h3 => ?_⟩,
  ⟨⟨hext,hM.os,hM.tape,hM.output,hM.size,fun k hk hno => ?_,fun k hk => ?_,fun u l h=>h,fun t k cs hc => ?_⟩,by rw[hE.len'];omega,fun id hid hn => ?_⟩⟩
 ·rcases hcases id I h with ⟨j,b,_,_,_,_,h4⟩ | ⟨h1,_⟩
  ·exact (List.getElem?_eq_some_iff.1 h4).1
  ·rw[hE.len'];omega
 ·rcases hcases id I h with ⟨j,b1,c1,c2,c3,c4,c5⟩ | ⟨c1,c2,c3,c4⟩
  ·rw[c5] at h2
   cases h2
   have hB:=hH0'.blk j I b1 c1 c2
   obtain ⟨cu,e,lo,hi,q1,q2,q3,q4,q5,q6⟩:=hB.row (isMap_k c3)
   exact ⟨by rw[hB.tot];simp[renB,renL_length],fun hl=>oldL_ren _ _ (hB.lf hl),fun _=>⟨cu,e,lo,hi,q1,q2,q3,q4,q5,VRL.wide hsig hopq hstr _ _ q6⟩,fun c hc=>absurd (mapC_k hc).1 c3⟩
  ·rw[c4] at h2
   exact (hH.blk id I b c3 h2).mono hext (hM.keep _ (hsiz id I c1 c3) (hkeep id I c1 c3 c2) (by simp))
 ·rcases hcases id I h1 with ⟨j,b1,c1,c2,c3,c4,c5⟩ | ⟨c1,c2,c3,c4⟩<;>rcases hcases id' I' h2 with ⟨j',b1',c1',c2',c3',c4',c5'⟩ | ⟨c1',c2',c3',c4'⟩
  ·have:=hH0'.inj j j' I I' b1 c1 c1' c2 (.inl c3) h5
   subst this
   rw[c4,c4']
  ·exfalso
   rcases hM.own I.b ⟨j,I,b1,c1,c2,.inl c3,rfl⟩ with ho | ho
   ·have:=hsiz id' I' c1' c3';omega
   ·rw[h5] at ho;exact hkeep id' I' c1' c3' c2' ho
  ·exfalso
   rcases hM.own I'.b ⟨j',I',b1',c1',c2',.inl c3',rfl⟩ with ho | ho
   ·have:=hsiz id I c1 c3;omega
   ·rw[←h5] at ho;exact hkeep id I c1 c3 c2 ho
  ·rw[c4] at h3
   exact hH.inj id id' I I' b c3 c3' h3 h4 h5
 ·obtain ⟨cu,e,fr,h1,h2⟩:=hH0'.glb g cs hg
  exact ⟨cu,e,fr,h1,VRL.flat (m:=m0') (m':=bigM m m0' ρ H0 H) hopq.symm hstr _ _ (hH.gld g cs hg) (hgl g cs hg) h2⟩
 ·rcases hcases id I h1 with ⟨j,b1,c1,c2,c3,c4,c5⟩ | ⟨c1,c2,c3,c4⟩
  ·exact hH0'.fow t k cs j I b1 hg c1 c2 (.inl c3)
  ·rw[c4] at h2
   rintro rfl
   rcases hM.fz t _ cs hg with h | h | h
   ·exact hH.fow t _ cs id I b h c3 h2 h3 rfl
   ·have:=hsiz id I c1 c3;omega
   ·exact hkeep id I c1 c3 c2 h
 ·rcases hcases id I h1 with ⟨j,b1,c1,c2,c3,c4,c5⟩ | ⟨c1,c2,c3,c4⟩
  ·exact hH0'.gow g cs j I b1 hg c1 c2 (.inl c3)
  ·rw[c4] at h2
   exact hH.gow g cs id I b hg c3 h2 h3
 ·refine hM.keep k hk (fun ho => ?_) (by simp)
  obtain ⟨j,b0,I,b,h1,h2,h3,h4,h5,h6⟩:=hown0 k ho
  exact hno ⟨ρ j,I,b,h3,h4,.inl h5,h6⟩
 ·obtain ⟨id,I,b,h1,h2,h3,rfl⟩:=hk
  rcases hcases id I h1 with ⟨j,b1,c1,c2,c3,c4,c5⟩ | ⟨c1,c2,c3,c4⟩
  ·rcases hM.own I.b ⟨j,I,b1,c1,c2,.inl c3,rfl⟩ with ho | ho
   ·exact .inl ho
   ·obtain ⟨j',b0,J,b',d1,d2,d3,d4,d5,d6⟩:=hown0 _ ho
    exact .inr ⟨ρ j',J,b',d3,d4,.inl d5,d6⟩
  ·rw[c4] at h2
   exact .inr ⟨id,I,b,c3,h2,h3,rfl⟩
 ·rcases hM.fz t k cs hc with h | h | h
  ·exact .inl h
  ·exact .inr (.inl h)
  ·obtain ⟨j',b0,J,b',d1,d2,d3,d4,d5,d6⟩:=hown0 _ h
   exact .inr (.inr ⟨ρ j',J,b',d3,d4,.inl d5,d6⟩)
 ·by_cases hx:∀ (j:Nat) (b0:Blk),H0[j]? = some b0→b0.k≠.ro→ρ j≠id
  ·rw[hold id hid hx];exact hn
  ·have:∃ (j:Nat) (b0:Blk),H0[j]? = some b0∧b0.k≠.ro∧ρ j=id:=by
    apply Classical.byContradiction
    intro hne
    apply hx
    intro j b0 h1 h2 h3
    exact hne ⟨j,b0,h1,h2,h3⟩
   obtain ⟨j,b0,h1,h2,rfl⟩:=this
   rw[hwr j b0 h1 h2]
   exact hM.nw j (hltH h1) (by rw[hb0 j (hltH h1)];exact hn)

theorem valid_of {f:FuncId} {c:List AV→List Blk→(Out→List Blk→Prop)→Prop} (he:Enters P f) (hgl:∀g cs,gl g=some cs→noYL cs=true)
  (h:∀args H Q,c args H Q→∃ (E:Env) (n:Nat) (ρ:Nat→Nat) (args0:List AV) (H0:List Blk) (Q0:Out→List Blk→Gh→Prop),EnvFor P E∧E.gl=gl∧args=renL ρ args0∧oldL H0.length args0=true∧noYL args0=true∧Fr ρ H0 H ∧
   callx E (wpx E n) f args0 H0 {} Q0∧∀o H0' g',Q0 o H0' g'→∃H',FrEnd ρ H0 H0' H H'∧Q (renO (sig ρ H0.length H.length) o) H'):ValidF P gl f c:=by
 refine ⟨he,fun args H Q hc m w vs hv hH => ?_⟩
 obtain ⟨E,n,ρ,args0,H0,Q0,hE,rfl,rfl,h2,h3,hF,h5,h6⟩:=h args H Q hc
 have hb:∀j,j<H0.length→(smallM m ρ H0.length).blk j=m.blk (ρ j):=fun j hj=>by simp[smallM,hj]
 refine (call_ok hE h5 (VRL.small hb rfl (Ext.refl _) _ _ h2 h3 hv) (hF.hr hH hgl) rfl).mono fun e w' hp => ?_
 obtain ⟨o,H0',g',m0',q1,q2,q3,_,q5⟩:=hp
 obtain ⟨H',r1,r2⟩:=h6 o H0' g' q1
 obtain ⟨m',s1,s2,sf,s3,s4⟩:=hF.end hH hgl r1 q3 q5
 have hs:Ext m0'.strip m'.strip:=⟨fun _ _ h=>(by cases h),s2,fun _ _ h=>(by cases h),fun t k cs h=>by rw[show m'.strip.frz=m'.frz from rfl,sf];exact h⟩
 refine ⟨_,H',m',r2, ?_,s3,s4⟩
 cases o with
 | ret v=>
  cases e<;>simp only[OutR] at q2
  exact VR.wide s1 s2.symm hs _ _ q2
 | pan v=>
  cases e<;>simp only[OutR] at q2
  obtain ⟨cv,e1,e2⟩:=q2
  exact ⟨cv,e1,VR.wide s1 s2.symm hs _ _ e2⟩
end
end Go.Proofs.YtjenieljapmehaaGreatDoor

set_option linter.unusedSimpArgs false
set_option linter.unusedVariables false
namespace Go.Proofs.YtjenieljapmehaaGreatDoor
open Go.RowKit

theorem ckI {b:Bool} {A:Prop} (h:b=true) (k:A):bif b then A else False:=by rw[h];exact k
theorem wrapI {x:Int} {K:Int→Prop} (h1 : -9223372036854775808≤x) (h2:x≤9223372036854775807) (h:K x):∃n:Int,AV.int .i64 (IntKind.wrap .i64 x)=AV.int .i64 n∧K n:=
 ⟨x,by
  have:IntKind.wrap .i64 x=x:=by rw[IntKind.wrap_i64];omega
  rw[this],h⟩

def cellsI (xs:List Int):List AV:=xs.map (AV.int .i64)

theorem splitD {p:Prop} [Decidable p] {A B:Prop} (h:p→A) (k:¬ p→B):bif decide p then A else B:=by
 by_cases hp:p
 ·rw[decide_eq_true hp];exact h hp
 ·rw[decide_eq_false hp];exact k hp
theorem splitE {x y:Int} {A B:Prop} (h:x=y→A) (k:x≠y→B):bif x==y then A else B:=by
 by_cases hp:x=y
 ·rw[beq_iff_eq.2 hp];exact h hp
 ·rw[beq_eq_false_iff_ne.2 hp];exact k hp
theorem splitNE {x y:Int} {A B:Prop} (h:x≠y→A) (k:x=y→B):bif x !=y then A else B:=by
 by_cases hp:x=y
 ·rw[bne,beq_iff_eq.2 hp];exact k hp
 ·rw[bne,beq_eq_false_iff_ne.2 hp];exact h hp
theorem splitAnd {a b:Bool} {A B:Prop} (h:bif a then (bif b then A else B) else B):bif a&&b then A else B:=by
 cases a<;>exact h
theorem cellsI_len (xs:List Int):(cellsI xs).length=xs.length:=by simp[cellsI]
theorem blt_t {a b:Nat} (h:a<b):a.blt b=true:=by rw[blt_iff];exact h
theorem ble_t {a b:Nat} (h:a≤b):a.ble b=true:=by rw[Nat.ble_eq];exact h
theorem beq_t {a b:Nat} (h:a=b):a.beq b=true:=by rw[nbeq];exact h
end Go.Proofs.YtjenieljapmehaaGreatDoor
