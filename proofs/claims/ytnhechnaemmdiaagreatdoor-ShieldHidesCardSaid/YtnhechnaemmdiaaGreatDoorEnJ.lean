/-
  The engine, closed runs, part E: operations that write; one operation.
-/
import Derived.Test.YtnhechnaemmdiaaGreatDoorEnI
import Derived.Test.YtnhechnaemmdiaaGreatDoorEnH
set_option linter.unusedSimpArgs false
set_option linter.unusedVariables false
namespace Go.Proofs.YtnhechnaemmdiaaGreatDoor
open Go.RowKit

abbrev KHt:=AV→List Blk→Bool
def aBb (ev:AO→AV) (H:List Blk) (op:AOp) (KH:KHt):Prop:=∀ (E:Env) (k:Nat) (K:AV→List Blk→Prop),E.hb k=none→(∀v H',KH v H'=true→K v H')→hop E ev H k op K

theorem dB {b t:Bool} (h:ifB b t=true):b=true∧t=true:=by cases b<;>first | exact ⟨rfl,h⟩ | cases h
theorem nP {α:Type} {o:Option α} {K:α→Bool} (h:pJ o K=true):∃x,o=some x∧K x=true:=by
 cases o with
 | none=>cases h
 | some x=>exact ⟨x,rfl,h⟩
theorem aLn {v:AV} {K:Nat→Nat→Nat→Bool} (h:aFi v K false=true):∃a b c,v=.ptr a b c∧K a b c=true:=by
 cases v<;>first | cases h | exact ⟨_,_,_,rfl,h⟩
theorem aBa {v:AV} {K:Nat→Nat→Nat→Nat→Nat→Bool} {fb:Bool} (h:aP3 v K fb=true):(∃a b c d e,v=.sl a b c d e∧K a b c d e=true)∨fb=true:=by
 cases v<;>first | exact .inr h | exact .inl ⟨_,_,_,_,_,rfl,h⟩
theorem aYc {v:AV} {K:List UInt8→Bool} {fb:Bool} (h:xN v K fb=true):(∃s,v=.str s∧K s=true)∨fb=true:=by
 cases v<;>first | exact .inr h | exact .inl ⟨_,rfl,h⟩
theorem aYs {v:AV} {K:IntKind→Int→Bool} {fb:Bool} (h:asInt v K fb=true):(∃k n,v=.int k n∧K k n=true)∨fb=true:=by
 cases v<;>first | exact .inr h | exact .inl ⟨_,_,rfl,h⟩
theorem bE8 {n:Int} {K:Nat→Bool} (h:aJj n K false=true):∃m:Nat,n=.ofNat m∧K m=true:=by
 cases n with
 | ofNat m=>exact ⟨m,rfl,h⟩
 | negSucc m=>cases h
noncomputable def roQ (k:BK):Bool:=BK.rec (motive:=fun _=>Bool) false true true k
theorem aVj (k:BK):roQ k=(k !=.ro):=by cases k<;>rfl
noncomputable def grQ (k:BK):Bool:=BK.rec (motive:=fun _=>Bool) false false true k
theorem bGa (k:BK):grQ k=(k==.grow):=by cases k<;>rfl
theorem bOy {a b:Nat} (h:Nat.beq a b=true):a=b:=Nat.eq_of_beq_eq_true h

section
variable (tm:T) (H:List Blk) (KH:KHt)
noncomputable def stQ (n:Nat) (a x:AO):Bool:=aFi (evQ tm a) (fun id tot off=>aCl (evQ tm x) fun vs=>pJ (getQ H id) fun b=>bB2 b fun k lf cs=>ifB (ncQ k lf cs tot) (ifB (Nat.ble (off+n) tot) (ifB (Nat.beq (lI vs) n) (ifB (fJ vs) (ifB (roQ k)
 (aJc vs cs off fun cs'=>fB (lf&&aR 0 vs) fun lf'=>bIw ⟨k,lf',cs'⟩ H id fun H'=>KH .undef H')))))) false
theorem bHx {n a x} (h:stQ tm H KH n a x=true):aBb (evT tm) H (.st n a x) KH:=by
 intro E k K _ hK
 obtain ⟨id,tot,off,hv,h⟩:=aLn h
 rw[uA,eP] at h
 split at h
 ·rename_i vs hcs
  obtain ⟨b,hb,h⟩:=nP h
  rw[getQ_eq] at hb
  obtain ⟨h1,h⟩:=dB h
  obtain ⟨h2,h⟩:=dB h
  obtain ⟨h3,h⟩:=dB h
  obtain ⟨h4,h⟩:=dB h
  obtain ⟨h5,h⟩:=dB h
  rw[yN,lK,aEl] at h
  rw[qA] at h1
  rw[dE] at h3
  rw[aVj] at h5
  have e1:cur H id tot=true:=by unfold cur;rw[hb];exact h1
  have e2:fM H id=b.k:=by unfold fM;rw[hb]
  have e3:aQa H id off vs=H.set id ⟨b.k,b.lf&&aR 0 vs,aM b.cs off vs⟩:=by unfold aQa;rw[hb]
  simp only[hop,bA hv,hcs,ck,e1,e2,e3,h2,h3,h4,h5,Bool.and_self,cond_true]
  exact hK _ _ h
 ·cases h
noncomputable def bF0 (x:AO):Bool:=aP3 (evQ tm x) (fun id tot off len sz=>ifB (aP7 H id tot) (pJ (getQ H id) fun b=>bB2 b fun k _ _=>ifB (grQ k) (KH (.sl id tot off len sz) H))) false
theorem aUc {x} (h:bF0 tm H KH x=true):aBb (evT tm) H (.mark x) KH:=by
 intro E k K _ hK
 rcases aBa h with ⟨id,tot,off,len,sz,hv,h⟩ | h
 ·obtain ⟨h1,h⟩:=dB h
  rw[kV] at h1
  obtain ⟨b,hb,h⟩:=nP h
  rw[getQ_eq] at hb
  obtain ⟨h2,h⟩:=dB h
  rw[bGa] at h2
  have e2:fM H id=b.k:=by unfold fM;rw[hb]
  simp only[hop,bA hv,ck,h1,e2,h2,Bool.and_self,cond_true]
  exact hK _ _ h
 ·cases h
noncomputable def bM5 (size:Nat) (zs:Option (List AV)) (v:AV) (K:Nat→List AV→Bool):Bool:=Option.rec (motive:=fun _=>Bool)
 (aP3 v (fun id tot off len sz=>ifB (Nat.beq sz size) (ifB (Nat.ble (off+len*size) tot) (pJ (getQ H id) fun b=>bB2 b fun k lf cs=>ifB (ncQ k lf cs tot) (nS cs off fun r=>lS r (len*size) fun l=>K len l))))
  (xN v (fun s=>ifB (Nat.beq size 1) (fN (lI s) fun m=>cOf s fun vs=>K m vs)) (ifB (aF0 v) (K 0 []))))
 (fun z=>asInt v (fun _ l=>aJj l (fun l=>ifB (Nat.ble l 1099511627776) (fDL (List.replicate l z).flatten fun vs=>K l vs)) false) false) zs
theorem aW4 {size zs v K} (h:bM5 H size zs v K=true):∃m vs,bDx H size zs v=some (true,m,vs)∧aV4 v=some (Nat.beq m 0)∧K m vs=true:=by
 cases zs with
 | none=>
  rcases aBa h with ⟨id,tot,off,len,sz,rfl,h⟩ | h
  ·obtain ⟨h1,h⟩:=dB h
   obtain ⟨h2,h⟩:=dB h
   obtain ⟨b,hb,h⟩:=nP h
   rw[getQ_eq] at hb
   obtain ⟨h3,h⟩:=dB h
   rw[qA] at h3
   rw[iN,gW] at h
   have e1:cur H id tot=true:=by unfold cur;rw[hb];exact h3
   refine ⟨len,_, ?_, ?_,h⟩
   ·simp only[bDx,src,e1,h1,h2,Bool.and_self]
    unfold aJ
    rw[hb]
   ·rfl
  rcases aYc h with ⟨s,rfl,h⟩ | h
  ·obtain ⟨h1,h⟩:=dB h
   rw[dP,dE,aVl] at h
   refine ⟨s.length,_, ?_, ?_,h⟩
   ·simp only[bDx,src,h1]
   ·rfl
  ·obtain ⟨h1,h⟩:=dB h
   cases v<;>first | exact ⟨0,[],rfl,rfl,h⟩ | cases h1
 | some z=>
  rcases aYs h with ⟨k,l,rfl,h⟩ | h
  ·obtain ⟨m,rfl,h⟩:=bE8 h
   obtain ⟨h1,h⟩:=dB h
   rw[nN] at h
   rw[Nat.ble_eq] at h1
   refine ⟨m,_, ?_, ?_,h⟩
   ·have a1:decide ((0:Int)≤Int.ofNat m)=true:=decide_eq_true (by simp)
    have a2:decide (Int.ofNat m≤1099511627776)=true:=decide_eq_true (by simp only[Int.ofNat_eq_natCast];omega)
    simp only[bDx,a1,a2,Bool.and_self]
    rfl
   ·show some (decide (Int.ofNat m=0))=some (Nat.beq m 0)
    congr 1
    cases m with
    | zero=>rfl
    | succ m=>exact decide_eq_false (by simp only[Int.ofNat_eq_natCast];omega)
  ·cases h
noncomputable def aPf (n bytes m:Nat) (vs:List AV) (v:AV):Bool:=aP3 v (fun id tot off len sz=>ifB (Nat.beq sz n) (ifB (Nat.beq (off+len*n) tot) (ifB (Nat.ble (len+m) 1099511627776) (ifB (Nat.ble ((len+m)*bytes) 1099511627776) (pJ (getQ H id) fun b=>bB2 b fun k lf cs=>ifB (ncQ k lf cs tot)
  (BK.rec (motive:=fun _=>Bool) false
   (nS cs off fun r=>lS r (len*n) fun l=>nX l vs fun cs'=>aVn H .grow cs' fun nid tt nb=>fN (len+m) fun lm=>pJ nb fun b=>nX H [b] fun H'=>KH (.sl nid tt 0 lm n) H')
   (ifB (Nat.beq off 0) (nX cs vs fun cs'=>fN (tot+lI vs) fun tt=>fN (len+m) fun lm=>fB (lf&&aR 0 vs) fun lf'=>bIw ⟨k,lf',cs'⟩ H id fun H'=>KH (.sl id tt 0 lm n) H')) k))))))
 (ifB (aF0 v) (ifB (Nat.ble m 1099511627776) (ifB (Nat.ble (m*bytes) 1099511627776) (aVn H .grow vs fun nid tt nb=>pJ nb fun b=>nX H [b] fun H'=>KH (.sl nid tt 0 m n) H'))))
noncomputable def bF7 (n:Nat) (v:AV):Bool:=aP3 v (fun id tot off len sz=>ifB (aP7 H id tot) (ifB (Nat.beq sz n) (KH (.sl id tot off len sz) H))) (ifB (aF0 v) (KH .nils H))
noncomputable def bOf (n bytes:Nat) (zs:Option (List AV)) (x y:AO):Bool:=bM5 H n zs (evQ tm y) fun m vs=>ifB (fJ vs) (ifB (Nat.blt 0 n) (ifB (Nat.ble (m*bytes) 1099511627776) (Nat.rec (motive:=fun _=>Bool) (bF7 H KH n (evQ tm x)) (fun _ _=>aPf H KH n bytes m vs (evQ tm x)) m)))
theorem bA5 {n bytes zs x y} (h:bOf tm H KH n bytes zs x y=true):aBb (evT tm) H (.app n bytes zs x y) KH:=by
 intro E k K hb hK
 obtain ⟨m,vs,hs,hn,h⟩:=aW4 H h
 obtain ⟨h1,h⟩:=dB h
 obtain ⟨h2,h⟩:=dB h
 obtain ⟨h3,h⟩:=dB h
 rw[eP] at hs hn
 cases m with
 | zero=>
  have h:bF7 H KH n (evQ tm x)=true:=h
  simp only[hop,hs,ck,h1,h2,h3,Bool.and_self,cond_true,hb,hn,show Nat.beq 0 0=true from rfl]
  rcases aBa h with ⟨id,tot,off,len,sz,hv,h⟩ | h
  ·obtain ⟨g1,h⟩:=dB h
   obtain ⟨g2,h⟩:=dB h
   rw[kV] at g1
   simp only[bA hv,g1,g2,Bool.and_self,cond_true]
   exact hK _ _ h
  ·obtain ⟨g1,h⟩:=dB h
   have hx:evT tm x=.nils:=by
    rw[eP] at g1
    cases hv:evT tm x<;>rw[hv] at g1<;>first | rfl | cases g1
   simp only[hx]
   exact hK _ _ h
 | succ m=>
  have h:aPf H KH n bytes (m+1) vs (evQ tm x)=true:=h
  simp only[hop,hs,ck,h1,h2,h3,Bool.and_self,cond_true,hb,hn,show Nat.beq (m+1) 0=false from rfl,show Nat.blt 0 (m+1)=true from bltQ_iff.2 (by omega)]
  rcases aBa h with ⟨id,tot,off,len,sz,hv,h⟩ | h
  ·obtain ⟨g1,h⟩:=dB h
   obtain ⟨g2,h⟩:=dB h
   obtain ⟨g3,h⟩:=dB h
   obtain ⟨g4,h⟩:=dB h
   obtain ⟨b,hb',h⟩:=nP h
   rw[getQ_eq] at hb'
   obtain ⟨g5,h⟩:=dB h
   rw[qA] at g5
   have e1:cur H id tot=true:=by unfold cur;rw[hb'];exact g5
   have e2:fM H id=b.k:=by unfold fM;rw[hb']
   simp only[bA hv,e1,g1,g2,g3,g4,Bool.and_self,cond_true,e2]
   have e3:aJ H id off (len*n)=(b.cs.drop off).take (len*n):=by unfold aJ;rw[hb']
   obtain ⟨bk,blf,bcs⟩:=b
   cases bk with
   | ro=>cases h
   | exact=>
    have h:(nS bcs off fun r=>lS r (len*n) fun l=>nX l vs fun cs'=>aVn H .grow cs' fun nid tt nb=>fN (len+(m+1)) fun lm=>pJ nb fun b=>nX H [b] fun H'=>KH (.sl nid tt 0 lm n) H')=true:=h
    rw[iN,gW,iB,rV,dP] at h
    have h:nX H [fQ .grow (List.take (len*n) (List.drop off bcs)++vs)] (fun H'=>KH (.sl H.length (List.take (len*n) (List.drop off bcs)++vs).length 0 (len+(m+1)) n) H')=true:=h
    rw[iB] at h
    have hl:(List.take (len*n) (List.drop off bcs)++vs).length=len*n+vs.length:=by
     have:=bOy g2
     have:=bOy g5
     simp only[List.length_append,List.length_take,List.length_drop]
     simp only at this
     omega
    rw[hl] at h
    simp only[e3]
    exact hK _ _ h
   | grow=>
    have h:ifB (Nat.beq off 0) (nX bcs vs fun cs'=>fN (tot+lI vs) fun tt=>fN (len+(m+1)) fun lm=>fB (blf&&aR 0 vs) fun lf'=>bIw ⟨.grow,lf',cs'⟩ H id fun H'=>KH (.sl id tt 0 lm n) H')=true:=h
    obtain ⟨g6,h⟩:=dB h
    rw[iB,dP,dP,lK,aEl,dE] at h
    have e4:aOr H id vs=H.set id ⟨.grow,blf&&aR 0 vs,bcs++vs⟩:=by unfold aOr;rw[hb']
    simp only[g6,cond_true,e4]
    exact hK _ _ h
  ·obtain ⟨g1,h⟩:=dB h
   obtain ⟨g2,h⟩:=dB h
   obtain ⟨g3,h⟩:=dB h
   rw[rV] at h
   have h:nX H [fQ .grow vs] (fun H'=>KH (.sl H.length vs.length 0 (m+1) n) H')=true:=h
   rw[iB] at h
   have hx:evT tm x=.nils:=by
    rw[eP] at g1
    cases hv:evT tm x<;>rw[hv] at g1<;>first | rfl | cases g1
   simp only[hx,g2,g3,Bool.and_self,cond_true]
   exact hK _ _ h
noncomputable def bO2 (n:Nat) (x y:AO):Bool:=bM5 H n none (evQ tm y) fun m vs=>ifB (fJ vs) (aP3 (evQ tm x) (fun id tot off len sz=>ifB (Nat.beq sz n) (ifB (Nat.ble (off+len*n) tot) (pJ (getQ H id) fun b=>bB2 b fun k lf cs=>ifB (ncQ k lf cs tot) (ifB (roQ k)
 (fN (min m len) fun c=>lS vs (c*n) fun vs'=>aJc vs' cs off fun cs'=>fB (lf&&aR 0 vs') fun lf'=>bIw ⟨k,lf',cs'⟩ H id fun H'=>KH (.int .i64 (.ofNat c)) H'))))) (ifB (aF0 (evQ tm x)) (KH (.int .i64 0) H)))
theorem bC9 {n x y} (h:bO2 tm H KH n x y=true):aBb (evT tm) H (.copy n x y) KH:=by
 intro E k K _ hK
 obtain ⟨m,vs,hs,_,h⟩:=aW4 H h
 have hs:src H n (evQ tm y)=some (true,m,vs):=hs
 rw[eP] at hs
 obtain ⟨h1,h⟩:=dB h
 simp only[hop,hs,ck,h1,Bool.and_self,cond_true]
 rcases aBa h with ⟨id,tot,off,len,sz,hv,h⟩ | h
 ·obtain ⟨g1,h⟩:=dB h
  obtain ⟨g2,h⟩:=dB h
  obtain ⟨b,hb,h⟩:=nP h
  rw[getQ_eq] at hb
  obtain ⟨g3,h⟩:=dB h
  obtain ⟨g4,h⟩:=dB h
  rw[qA] at g3
  rw[aVj] at g4
  rw[dP,gW,yN,lK,aEl] at h
  have e1:cur H id tot=true:=by unfold cur;rw[hb];exact g3
  have e2:fM H id=b.k:=by unfold fM;rw[hb]
  have e3:aQa H id off (vs.take (min m len*n))=H.set id ⟨b.k,b.lf&&aR 0 (vs.take (min m len*n)),aM b.cs off (vs.take (min m len*n))⟩:=by unfold aQa;rw[hb]
  simp only[bA hv,e1,e2,e3,g1,g2,g4,Bool.and_self,cond_true]
  exact hK _ _ h
 ·obtain ⟨g1,h⟩:=dB h
  have hx:evT tm x=.nils:=by
   rw[eP] at g1
   cases hv:evT tm x<;>rw[hv] at g1<;>first | rfl | cases g1
  simp only[hx]
  exact hK _ _ h
end

abbrev OT:=GL→T→List Blk→KLt→KHt→(AO→List AO→Bool)→Bool
noncomputable def opQ (op:AOp):OT:=AOp.rec (motive:=fun _=>OT)
 (fun x _ tm _ KL _ _=>mvQ tm KL x)
 (fun c a b gl tm H KL _ _=>bEe gl tm H KL c a b)
 (fun x _ tm H KL _ _=>bLo tm H KL x)
 (fun z ps _ tm _ KL _ _=>aLi tm KL z ps)
 (fun z size n ps _ tm H KL _ _=>bMs tm H KL z size n ps)
 (fun agg n a gl tm H KL _ _=>ldQ gl tm H KL agg n a)
 (fun n a x _ tm H _ KH _=>stQ tm H KH n a x)
 (fun x gl tm H KL _ _=>eX gl tm H (.nilck x) KL)
 (fun op sh x y gl tm H KL _ _=>bOb op gl tm H KL sh x y)
 (fun op x gl tm H KL _ _=>unQ gl tm H KL op x)
 (fun k x gl tm H KL _ _=>bD3 gl tm H KL k x)
 (fun x _ tm H _ KH _=>bF0 tm H KH x)
 (fun t x gl tm H KL _ _=>eX gl tm H (.mkif t x) KL)
 (fun f a b gl tm H KL _ _=>eX gl tm H (.mkfn f a b) KL)
 (fun z size bytes same l c gl tm H KL _ _=>eX gl tm H (.mksl z size bytes same l c) KL)
 (fun x lo hi gl tm H KL _ _=>bO0 gl tm H KL x lo hi)
 (fun n x lo hi gl tm H KL _ _=>bOk gl tm H KL n x lo hi)
 (fun k n x lo hi gl tm H KL _ _=>eX gl tm H (.slA k n x lo hi) KL)
 (fun o x gl tm H KL _ _=>faQ gl tm H KL o x)
 (fun p x gl tm H KL _ _=>bO6 gl tm H KL p x)
 (fun k n x i gl tm H KL _ _=>bO4 gl tm H KL k n x i)
 (fun n x i gl tm H KL _ _=>bO3 gl tm H KL n x i)
 (fun k p x i gl tm H KL _ _=>bOg gl tm H KL k p x i)
 (fun x i gl tm H KL _ _=>bOm gl tm H KL x i)
 (fun x i gl tm H KL _ _=>bOh gl tm H KL x i)
 (fun f args _ _ _ _ _ KC=>KC f args)
 (fun x gl tm H KL _ _=>bGq gl tm H KL x)
 (fun x gl tm H KL _ _=>bI1 gl tm H KL x)
 (fun n _ _ _ KL _ _=>KL (.int .i64 (.ofNat n)) none [])
 (fun n bytes zs x y _ tm H _ KH _=>bOf tm H KH n bytes zs x y)
 (fun n x y _ tm H _ KH _=>bO2 tm H KH n x y)
 (fun n x gl tm H KL _ _=>eX gl tm H (.s2a n x) KL)
 (fun _ _ _ _ _ _=>false)
 (fun st x i z gl tm H KL _ _=>eX gl tm H (.mpget st x i z) KL)
 (fun _ _ _ _ _ _ _ _ _ _=>false)
 (fun xs gl tm H KL _ _=>eX gl tm H (.mx xs) KL)
 (fun xs gl tm H KL _ _=>eX gl tm H (.mn xs) KL)
 (fun _ _ _ _ _ _ _=>false) op

def bM1 (gl:GL) (ev:AO→AV) (H:List Blk) (KL:KLt) (KH:KHt) (KC:AO→List AO→Bool) (op:AOp):Prop:=
 (∃f args,op=.call f args∧KC f args=true)∨((∀f args,op≠.call f args)∧((∃r,lop gl ev (cur H) (aJ H) H.length op=some r∧r.pre=true∧KL r.v r.nb r.rd=true)∨(lop gl ev (cur H) (aJ H) H.length op=none∧aBb ev H op KH)))
theorem bZ {gl:GL} {ev:AO→AV} {H:List Blk} {op:AOp} {KL:KLt} (h:dO gl ev H op KL=true):∃r,lop gl ev (cur H) (aJ H) H.length op=some r∧r.pre=true∧KL r.v r.nb r.rd=true:=by
 unfold dO at h
 split at h
 ·rename_i r hr
  refine ⟨r,hr, ?_⟩
  cases hp:r.pre<;>rw[hp] at h
  ·cases h
  ·exact ⟨rfl,h⟩
 ·cases h
theorem aWy {gl tm H KL KH KC} {op:AOp} (h:opQ op gl tm H KL KH KC=true):bM1 gl (evT tm) H KL KH KC op:=by
 cases op with
 | call f args=>exact .inl ⟨f,args,rfl,h⟩
 | st n a x=>exact .inr ⟨by intros;simp,.inr ⟨rfl,bHx tm H KH h⟩⟩
 | mark x=>exact .inr ⟨by intros;simp,.inr ⟨rfl,aUc tm H KH h⟩⟩
 | app n bytes zs x y=>exact .inr ⟨by intros;simp,.inr ⟨rfl,bA5 tm H KH h⟩⟩
 | copy n x y=>exact .inr ⟨by intros;simp,.inr ⟨rfl,bC9 tm H KH h⟩⟩
 | bad w=>cases h
 | mv x=>exact .inr ⟨by intros;simp,.inl (bZ ((bHj gl tm H KL x).symm.trans h))⟩
 | pick c a b=>exact .inr ⟨by intros;simp,.inl (bZ ((aQz gl tm H KL c a b).symm.trans h))⟩
 | box x=>exact .inr ⟨by intros;simp,.inl (bZ ((bAn gl tm H KL x).symm.trans h))⟩
 | build z ps=>exact .inr ⟨by intros;simp,.inl (bZ ((aMn gl tm H KL z ps).symm.trans h))⟩
 | bsl z s n ps=>exact .inr ⟨by intros;simp,.inl (bZ ((bCe gl tm H KL z s n ps).symm.trans h))⟩
 | ld agg n a=>exact .inr ⟨by intros;simp,.inl (bZ ((bFa gl tm H KL agg n a).symm.trans h))⟩
 | bin op sh x y=>exact .inr ⟨by intros;simp,.inl (bZ ((bB0 op gl tm H KL sh x y).symm.trans h))⟩
 | un op x=>exact .inr ⟨by intros;simp,.inl (bZ ((bEw gl tm H KL op x).symm.trans h))⟩
 | conv k x=>exact .inr ⟨by intros;simp,.inl (bZ ((aRs gl tm H KL k x).symm.trans h))⟩
 | slS x lo hi=>exact .inr ⟨by intros;simp,.inl (bZ ((bAa gl tm H KL x lo hi).symm.trans h))⟩
 | slL n x lo hi=>exact .inr ⟨by intros;simp,.inl (bZ ((aYx gl tm H KL n x lo hi).symm.trans h))⟩
 | fa o x=>exact .inr ⟨by intros;simp,.inl (bZ ((bIr gl tm H KL o x).symm.trans h))⟩
 | fld p x=>exact .inr ⟨by intros;simp,.inl (bZ ((bCi gl tm H KL p x).symm.trans h))⟩
 | iaA k n x i=>exact .inr ⟨by intros;simp,.inl (bZ ((aX6 gl tm H KL k n x i).symm.trans h))⟩
 | iaL n x i=>exact .inr ⟨by intros;simp,.inl (bZ ((aZg gl tm H KL n x i).symm.trans h))⟩
 | ixA k p x i=>exact .inr ⟨by intros;simp,.inl (bZ ((aXt gl tm H KL k p x i).symm.trans h))⟩
 | ixS x i=>exact .inr ⟨by intros;simp,.inl (bZ ((bCs gl tm H KL x i).symm.trans h))⟩
 | ext x i=>exact .inr ⟨by intros;simp,.inl (bZ ((bAf gl tm H KL x i).symm.trans h))⟩
 | lenS x=>exact .inr ⟨by intros;simp,.inl (bZ ((aTc gl tm H KL x).symm.trans h))⟩
 | lenL x=>exact .inr ⟨by intros;simp,.inl (bZ ((aQ8 gl tm H KL x).symm.trans h))⟩
 | lenA n=>exact .inr ⟨by intros;simp,.inl ⟨_,rfl,rfl,h⟩⟩
 | nilck x=>exact .inr ⟨by intros;simp,.inl (bZ ((aL gl tm H _ KL).symm.trans h))⟩
 | mkif t x=>exact .inr ⟨by intros;simp,.inl (bZ ((aL gl tm H _ KL).symm.trans h))⟩
 | mkfn f a b=>exact .inr ⟨by intros;simp,.inl (bZ ((aL gl tm H _ KL).symm.trans h))⟩
 | mksl z s b t l c=>exact .inr ⟨by intros;simp,.inl (bZ ((aL gl tm H _ KL).symm.trans h))⟩
 | slA k n x lo hi=>exact .inr ⟨by intros;simp,.inl (bZ ((aL gl tm H _ KL).symm.trans h))⟩
 | s2a n x=>exact .inr ⟨by intros;simp,.inl (bZ ((aL gl tm H _ KL).symm.trans h))⟩
 | mkmp=>cases h
 | mpget st x i z=>exact .inr ⟨by intros;simp,.inl (bZ ((aL gl tm H _ KL).symm.trans h))⟩
 | mpput st x i v=>cases h
 | mx xs=>exact .inr ⟨by intros;simp,.inl (bZ ((aL gl tm H _ KL).symm.trans h))⟩
 | mn xs=>exact .inr ⟨by intros;simp,.inl (bZ ((aL gl tm H _ KL).symm.trans h))⟩
end Go.Proofs.YtnhechnaemmdiaaGreatDoor

namespace Go.Proofs.YtnhechnaemmdiaaGreatDoor
open Go.RowKit

theorem aO {tm:T} {l:List AO} {x:AO} (h:x∈l):evu (slots l) tm x=evT tm x:=by
 cases x with
 | c v=>rfl
 | t n=>
  have:(slots l).contains n=true:=by
   rw[List.contains_iff_mem]
   exact List.mem_filterMap.2 ⟨.t n,h,rfl⟩
  show (bif (slots l).contains n then tm.get n else .undef)=tm.get n
  rw[this];rfl
theorem mJ {ev ev':AO→AV}:∀ (ps:List (Nat×Nat×AO)) (cs:List AV),(∀p∈ps,ev p.2.2=ev' p.2.2)→jT ev cs ps=jT ev' cs ps
 | [],_,_=>rfl
 | (o,n,x)::ps,cs,h=>by
  rw[jT,jT,h (o,n,x) (by simp)]
  cases eG (ev' x) with
  | none=>rfl
  | some v=>simp only[];rw[mJ ps _ fun p hp=>h p (by simp[hp])]
theorem dV {ev ev':AO→AV} (o:Option AO) (d:Nat) (h:∀x,o=some x→ev x=ev' x):bnd ev o d=bnd ev' o d:=by
 cases o with
 | none=>rfl
 | some x=>show kE (ev x)=kE (ev' x);rw[h x rfl]
theorem aZx (gl:GL) (tm:T) (cu:Nat→Nat→Bool) (ca:Nat→Nat→Nat→List AV) (nid:Nat) (op:AOp):lop gl (evu (bG op) tm) cu ca nid op=lop gl (evT tm) cu ca nid op:=by
 cases op with
 | mv x=>simp only[lop,bG,aO (l:=[x]) (x:=x) (by simp)]
 | pick c a b=>simp only[lop,bG,aO (l:=[c,a,b]) (x:=c) (by simp),aO (l:=[c,a,b]) (x:=a) (by simp),aO (l:=[c,a,b]) (x:=b) (by simp)]
 | box x=>simp only[lop,bG,aO (l:=[x]) (x:=x) (by simp)]
 | build z ps=>simp only[lop,bG];rw[mJ ps z fun p hp=>aO (by exact List.mem_map.2 ⟨p,hp,rfl⟩)]
 | bsl z s n ps=>simp only[lop,bG];rw[mJ ps z fun p hp=>aO (by exact List.mem_map.2 ⟨p,hp,rfl⟩)]
 | ld agg n a=>simp only[lop,bG,aO (l:=[a]) (x:=a) (by simp)]
 | st n a x=>rfl
 | nilck x=>simp only[lop,bG,aO (l:=[x]) (x:=x) (by simp)]
 | bin op sh x y=>simp only[lop,bG,aO (l:=[x,y]) (x:=x) (by simp),aO (l:=[x,y]) (x:=y) (by simp)]
 | un op x=>simp only[lop,bG,aO (l:=[x]) (x:=x) (by simp)]
 | conv k x=>simp only[lop,bG,aO (l:=[x]) (x:=x) (by simp)]
 | mark x=>rfl
 | mkif t x=>simp only[lop,bG,aO (l:=[x]) (x:=x) (by simp)]
 | mkfn f a b=>
  simp only[lop,bG]
  rw[List.map_congr_left (l:=a) (g:=evT tm) fun x hx=>aO (by simp[hx]),List.map_congr_left (l:=b) (g:=evT tm) fun x hx=>aO (by simp[hx])]
 | mksl z s b t l c=>simp only[lop,bG,aO (l:=[l,c]) (x:=l) (by simp),aO (l:=[l,c]) (x:=c) (by simp)]
 | slS x lo hi=>
  simp only[lop,bG,aO (l:=x::(aAe lo++aAe hi)) (x:=x) (by simp)]
  cases evT tm x with
  | str b=>simp only[];rw[dV lo 0 fun y hy=>aO (by subst hy;simp[aAe]),dV hi b.length fun y hy=>aO (by subst hy;simp[aAe])]
  | _=>rfl
 | slL n x lo hi=>
  simp only[lop,bG,aO (l:=x::(aAe lo++aAe hi)) (x:=x) (by simp)]
  cases evT tm x with
  | nils=>simp only[];rw[dV lo 0 fun y hy=>aO (by subst hy;simp[aAe]),dV hi 0 fun y hy=>aO (by subst hy;simp[aAe])]
  | sl a b c d e=>simp only[];rw[dV lo 0 fun y hy=>aO (by subst hy;simp[aAe]),dV hi d fun y hy=>aO (by subst hy;simp[aAe])]
  | lst a b c d=>simp only[];rw[dV lo 0 fun y hy=>aO (by subst hy;simp[aAe]),dV hi c fun y hy=>aO (by subst hy;simp[aAe])]
  | _=>rfl
 | slA k n x lo hi=>
  simp only[lop,bG,aO (l:=x::(aAe lo++aAe hi)) (x:=x) (by simp)]
  cases evT tm x with
  | ptr a b c=>simp only[];rw[dV lo 0 fun y hy=>aO (by subst hy;simp[aAe]),dV hi k fun y hy=>aO (by subst hy;simp[aAe])]
  | _=>rfl
 | fa o x=>simp only[lop,bG,aO (l:=[x]) (x:=x) (by simp)]
 | fld p x=>simp only[lop,bG,aO (l:=[x]) (x:=x) (by simp)]
 | iaA k n x i=>simp only[lop,bG,aO (l:=[x,i]) (x:=x) (by simp),aO (l:=[x,i]) (x:=i) (by simp)]
 | iaL n x i=>simp only[lop,bG,aO (l:=[x,i]) (x:=x) (by simp),aO (l:=[x,i]) (x:=i) (by simp)]
 | ixA k p x i=>simp only[lop,bG,aO (l:=[x,i]) (x:=x) (by simp),aO (l:=[x,i]) (x:=i) (by simp)]
 | ixS x i=>simp only[lop,bG,aO (l:=[x,i]) (x:=x) (by simp),aO (l:=[x,i]) (x:=i) (by simp)]
 | ext x i=>simp only[lop,bG,aO (l:=[x]) (x:=x) (by simp)]
 | call f args=>rfl
 | lenS x=>simp only[lop,bG,aO (l:=[x]) (x:=x) (by simp)]
 | lenL x=>simp only[lop,bG,aO (l:=[x]) (x:=x) (by simp)]
 | lenA n=>rfl
 | app n bytes zs x y=>rfl
 | copy n x y=>rfl
 | s2a n x=>simp only[lop,bG,aO (l:=[x]) (x:=x) (by simp)]
 | mkmp=>rfl
 | mpget st x i z=>simp only[lop,bG,aO (l:=[x,i]) (x:=x) (by simp),aO (l:=[x,i]) (x:=i) (by simp)]
 | mpput st x i v=>rfl
 | mx xs=>simp only[lop,bG];rw[List.map_congr_left (l:=xs) (g:=evT tm) fun x hx=>aO hx]
 | mn xs=>simp only[lop,bG];rw[List.map_congr_left (l:=xs) (g:=evT tm) fun x hx=>aO hx]
 | bad w=>rfl
theorem aZu (E:Env) (tm:T) (H:List Blk) (k:Nat) (op:AOp) (K:AV→List Blk→Prop):hop E (evu (bG op) tm) H k op K=hop E (evT tm) H k op K:=by
 cases op<;>try rfl
 ·rename_i n a x
  simp only[hop,bG,aO (l:=[a,x]) (x:=a) (by simp),aO (l:=[a,x]) (x:=x) (by simp)]
 ·rename_i x
  simp only[hop,bG,aO (l:=[x]) (x:=x) (by simp)]
 ·rename_i n bytes zs x y
  simp only[hop,bG,aO (l:=[x,y]) (x:=x) (by simp),aO (l:=[x,y]) (x:=y) (by simp)]
 ·rename_i n x y
  simp only[hop,bG,aO (l:=[x,y]) (x:=x) (by simp),aO (l:=[x,y]) (x:=y) (by simp)]
 ·rename_i st x i v
  simp only[hop,bG,aO (l:=[x,i,v]) (x:=x) (by simp),aO (l:=[x,i,v]) (x:=i) (by simp),aO (l:=[x,i,v]) (x:=v) (by simp)]

structure QE where
 fn:Nat→Option AFn
 sm:Nat→Option (List AV→List Blk→Option (Out×List Blk)):=fun _=>none
 gl:GL:=fun _=>none
abbrev KQ:=Ex→S→Gh→Bool
abbrev aBj:=AC→S→Gh→KQ→Bool
abbrev KO:=Out→List Blk→Gh→Bool

noncomputable def bPj (v:AV) (tm:T) (K:T→Bool) (d:Nat):Bool:=T.putQ v 12 tm d K
noncomputable def aIi (dst:Option Nat) (v:AV) (tm:T) (K:T→Bool):Bool:=Option.rec (motive:=fun _=>Bool) (K tm) (bPj v tm K) dst
noncomputable def aHc (tm:T) (args:List AO):(List AV→Bool)→Bool:=List.rec (motive:=fun _=>(List AV→Bool)→Bool) (fun K=>K []) (fun x _ ih K=>fv (evQ tm x) fun v=>ih fun l=>K (v::l)) args
noncomputable def zW (args:List AV):Nat→T→(T→Bool)→Bool:=List.rec (motive:=fun _=>Nat→T→(T→Bool)→Bool) (fun _ t K=>K t) (fun v _ ih i t K=>T.putQ v 12 t i fun t=>ih (Nat.succ i) t K) args
noncomputable def jU (tm:T) (H:List Blk) (res:List ARes):(List AV→Bool)→Bool:=List.rec (motive:=fun _=>(List AV→Bool)→Bool) (fun K=>K [])
 (fun r _ ih K=>ARes.rec (motive:=fun _=>Bool) (fun t=>fv (tm.getQ t) fun v=>ih fun l=>K (v::l))
  (fun a agg n=>aFi (tm.getQ a) (fun id tot off=>pJ (getQ H id) fun b=>bB2 b fun k lf cs=>ifB (ncQ k lf cs tot) (ifB (Nat.ble (off+(bif agg then n else 1)) tot)
   (Bool.rec (motive:=fun _=>Bool) (pJ (getQ cs off) fun v=>ih fun l=>K (v::l)) (nS cs off fun r=>lS r n fun c=>ih fun l=>K (.agg c::l)) agg))) false) r) res
noncomputable def bI9 (l:List AV) (K:AV→Bool):Bool:=List.rec (motive:=fun _=>Bool) (K (.tup [])) (fun v t _=>List.rec (motive:=fun _=>Bool) (fv v K) (fun _ _ _=>K (.tup l)) t) l
noncomputable def aNj (b:Nat) (H:List Blk):Bool:=List.rec (motive:=fun _=>Bool) true (fun x _ ih=>Bool.rec (motive:=fun _=>Bool) false ih (Blk.rec (motive:=fun _=>Bool) (fun _ lf cs=>Bool.rec (motive:=fun _=>Bool) (aR b cs) true lf) x)) H
noncomputable def rU (base:Nat) (v:AV) (H:List Blk) (K:List Blk→Bool):Bool:=lS H base fun H'=>Bool.rec (motive:=fun _=>Bool) (K H) (Bool.rec (motive:=fun _=>Bool) (K H) (K H') (aNj base H')) (old base v)
noncomputable def atQ (g:Gh) (f:Nat) (K:Gh→Bool):Bool:=Gh.rec (motive:=fun _=>Bool) (fun _ n lps=>K ⟨f,n,lps⟩) g
noncomputable def aXr (res:List ARes) (base k:Nat) (Q:KO) (e:Ex) (s:S) (g:Gh):Bool:=S.rec (motive:=fun _=>Bool) (fun tm H=>Ex.rec (motive:=fun _=>Bool)
 (jU tm H res fun vs=>bI9 vs fun v=>rU base v H fun H'=>atQ g k fun g=>Q (.ret v) H' g) (fun _=>false)
 (jU tm H res fun vs=>bI9 vs fun v=>rU base v H fun H'=>atQ g k fun g=>Q (.ret v) H' g)
 (fun v=>rU base v H fun H'=>atQ g k fun g=>Q (.pan v) H' g) e) s
noncomputable def fO (o:Out) (K:Out→Bool):Bool:=match o with
 | .ret v=>fD v fun v=>K (.ret v)
 | .pan v=>K (.pan v)
theorem bM2 (o:Out) (K:Out→Bool):fO o K=K o:=by
 cases o with
 | ret v=>exact aRq v _
 | pan v=>rfl
noncomputable def smQ (o:Option (Out×List Blk)) (Q:KO) (g:Gh):Bool:=match o with
 | some (o,H)=>fO o fun o=>Q o H g
 | none=>false
noncomputable def kC (q:QE) (rec:aBj) (f:Nat) (args:List AV) (H:List Blk) (g:Gh) (Q:KO):Bool:=
 Option.rec (motive:=fun _=>Bool) (pJ (q.fn f) fun c=>AFn.rec (motive:=fun _=>Bool) (fun res body=>ifB (Nat.ble (lI args) 4000) (zW args 0 .e fun tm=>fN (lI H) fun n=>atQ g f fun g'=>rec body ⟨tm,H⟩ g' (aXr res n g.f Q))) c)
  (fun c=>smQ (c args H) Q g) (q.sm f)
noncomputable def aMx (u:Nat) (st:Lst) (l:List Lp):(List Lp→Bool)→Bool:=List.rec (motive:=fun _=>(List Lp→Bool)→Bool) (fun K=>K [])
 (fun p t ih K=>Lp.rec (motive:=fun _=>Bool) (fun u' tm ps asg body st' f=>Bool.rec (motive:=fun _=>Bool) (ih fun l=>K (⟨u',tm,ps,asg,body,st',f⟩::l)) (K (⟨u',tm,ps,asg,body,st,f⟩::t)) (Nat.beq u' u)) p) l
noncomputable def aC3 (g:Gh) (f:Nat) (u:Nat) (st:Lst) (K:Gh→Bool):Bool:=Gh.rec (motive:=fun _=>Bool) (fun _ n lps=>aMx u st lps fun lps=>K ⟨f,n,lps⟩) g
noncomputable def aDv (rec:aBj) (u:Nat) (args:List AV) (H:List Blk) (g:Gh) (Q:KO):Bool:=pJ (sI u g.lps) fun p=>ifB (Nat.beq (lI args) (lI p.ps)) (ifB (g.isReady u)
 (atQ g p.f fun g0=>rec p.asg ⟨pW p.tm p.ps args,H⟩ g0 fun e s g1=>Ex.rec (motive:=fun _=>Bool)
  (ifB (g1.isReady u) (aC3 g1 g1.f u .busy fun g2=>rec p.body s g2 fun e s g2=>Ex.rec (motive:=fun _=>Bool)
   (aC3 g2 g.f u .ready fun g3=>Q (.ret (.bool true)) s.hp g3) (fun i=>aC3 g2 g.f u (.done (.exit i)) fun g3=>Q (.ret (.bool false)) s.hp g3)
   (aC3 g2 g.f u (.done .ret) fun g3=>Q (.ret (.bool false)) s.hp g3) (fun _=>false) e))
  (fun _=>false) false (fun _=>false) e))
noncomputable def fnQ (f:Fn) (K:Nat→Bool):Bool:=Fn.rec (motive:=fun _=>Bool) K (fun _=>false) (fun _ _=>false) (fun _ _ _ _=>false) (fun _=>false) f
noncomputable def aDj (v:AV):(Fn→List AV→List AV→Bool)→(Nat→Bool)→Bool:=AV.rec (motive_1:=fun _=>(Fn→List AV→List AV→Bool)→(Nat→Bool)→Bool) (motive_2:=fun _=>Unit) (fun K Y=>false)
 (fun _ K Y=>false)
 (fun _ K Y=>false)
 (fun _ _ K Y=>false)
 (fun _ K Y=>false)
 (fun K Y=>false)
 (fun _ _ _ K Y=>false)
 (fun _ _ K Y=>false)
 (fun K Y=>false)
 (fun _ _ _ _ _ K Y=>false)
 (fun K Y=>false)
 (fun f x y _ _ K Y=>K f x y)
 (fun u K Y=>Y u)
 (fun K Y=>false)
 (fun _ _ _ K Y=>false)
 (fun _ _ K Y=>false)
 (fun _ _ K Y=>false)
 (fun _ _ _ _ _ K Y=>false)
 (fun _ _ _ _ K Y=>false)
 (fun K Y=>false)
 (fun _ K Y=>false) () (fun _ _ _ _=>()) v
noncomputable def aXe (q:QE) (rec:aBj) (v:AV) (args:List AV) (H:List Blk) (g:Gh) (Q:KO):Bool:=aDj v (fun f fst cap=>fnQ f fun f=>nX fst args fun a=>nX a cap fun a=>kC q rec f a H g Q) (fun u=>aDv rec u args H g Q)
noncomputable def gdS (tm:T) (yes no:Bool) (p:Nat×Bool):Bool:=Prod.rec (motive:=fun _=>Bool) (fun j b=>asBool (tm.getQ j) (fun x=>Bool.rec (motive:=fun _=>Bool) (Bool.rec (motive:=fun _=>Bool) yes no x) (Bool.rec (motive:=fun _=>Bool) no yes x) b)
 (aUx (tm.getQ j) (fun l=>List.rec (motive:=fun _=>Bool) no (fun _ _ _=>false) l) false)) p
noncomputable def gdQ (tm:T) (g:Option (Nat×Bool)) (yes no:Bool):Bool:=Option.rec (motive:=fun _=>Bool) yes (gdS tm yes no) g
abbrev IhR:=T→List Blk→Gh→KQ→Bool
noncomputable def bG7 (ih:IhR) (tm:T) (k:Gh) (Q:KQ) (H:List Blk):Bool:=ih tm H k Q
noncomputable def bN3 (ih:IhR) (tm:T) (H:List Blk) (k:Gh) (Q:KQ) (b:Blk):Bool:=nX H [b] (bG7 ih tm k Q)
noncomputable def bPe (ih:IhR) (H:List Blk) (k:Gh) (Q:KQ) (nb:Option Blk) (tm:T):Bool:=Option.rec (motive:=fun _=>Bool) (ih tm H k Q) (bN3 ih tm H k Q) nb
noncomputable def rKL (ih:IhR) (dst:Option Nat) (tm:T) (H:List Blk) (k:Gh) (Q:KQ) (v:AV) (nb:Option Blk) (_:List Rdc):Bool:=aIi dst v tm (bPe ih H k Q nb)
noncomputable def aLc (ih:IhR) (H:List Blk) (k:Gh) (Q:KQ) (tm:T):Bool:=ih tm H k Q
noncomputable def rKH (ih:IhR) (dst:Option Nat) (tm:T) (k:Gh) (Q:KQ) (v:AV) (H:List Blk):Bool:=aIi dst v tm (aLc ih H k Q)
noncomputable def bPa (ih:IhR) (dst:Option Nat) (tm:T) (H:List Blk) (k:Gh) (Q:KQ) (v:AV):Bool:=aIi dst v tm (aLc ih H k Q)
noncomputable def bPm (ih:IhR) (dst:Option Nat) (tm:T) (Q:KQ) (o:Out) (H:List Blk) (k:Gh):Bool:=Out.rec (motive:=fun _=>Bool) (bPa ih dst tm H k Q) (fun v=>Q (.pan v) ⟨tm,H⟩ k) o
noncomputable def aSw (q:QE) (rec:aBj) (f:AV) (H:List Blk) (k:Gh) (K:KO) (args:List AV):Bool:=aXe q rec f args H k K
noncomputable def rKC (q:QE) (rec:aBj) (ih:IhR) (dst:Option Nat) (tm:T) (H:List Blk) (k:Gh) (Q:KQ) (f:AO) (args:List AO):Bool:=aHc tm args (aSw q rec (evQ tm f) H k (bPm ih dst tm Q))
noncomputable def bN2 (q:QE) (rec:aBj) (ih:IhR) (dst:Option Nat) (op:AOp) (tm:T) (H:List Blk) (k:Gh) (Q:KQ):Bool:=opQ op q.gl tm H (rKL ih dst tm H k Q) (rKH ih dst tm k Q) (rKC q rec ih dst tm H k Q)
noncomputable def bO8 (q:QE) (rec:aBj) (ih:IhR) (tm:T) (H:List Blk) (k:Gh) (Q:KQ) (dst:Option Nat) (op:AOp) (guard:Option (Nat×Bool)) (_ _:Nat):Bool:=gdQ tm guard (bN2 q rec ih dst op tm H k Q) (aIi dst (.tup []) tm (aLc ih H k Q))
noncomputable def aJo (q:QE) (rec:aBj) (ops:List AOper):T→List Blk→Gh→KQ→Bool:=List.rec (motive:=fun _=>T→List Blk→Gh→KQ→Bool) (fun tm H k Q=>Q .nrm ⟨tm,H⟩ k)
 (fun o _ ih tm H k Q=>AOper.rec (motive:=fun _=>Bool) (bO8 q rec ih tm H k Q) o) ops
noncomputable def flQ (H H':List Blk) (bf:Nat) (l:List Fl):Bool:=List.rec (motive:=fun _=>Bool) true
 (fun x _ ih=>Fl.rec (motive:=fun _=>Bool) (fun ix r=>Bool.rec (motive:=fun _=>Bool) (Bool.rec (motive:=fun _=>Bool) false ih (dF (aJ H r.id r.off r.size) (aJ H' r.id r.off r.size)&&(gB H r.id==gB H' r.id))) ih (Nat.testBit bf ix))
  (fun ix id=>Bool.rec (motive:=fun _=>Bool) (Bool.rec (motive:=fun _=>Bool) false ih (aBy H[id]? H'[id]?)) ih (Nat.testBit bf ix)) x) l
abbrev IhD:=T→List Blk→Gh→List Fl→KQ→Bool
noncomputable def bI2 (ih:IhD) (tm:T) (k:Gh) (fl:List Fl) (Q:KQ) (H:List Blk):Bool:=ih tm H k fl Q
noncomputable def bMv (ih:IhD) (tm:T) (H:List Blk) (k:Gh) (ix:Nat) (rd:List Rdc) (fl:List Fl) (Q:KQ) (b:Blk):Bool:=nX H [b] (bI2 ih tm k (rd.map (Fl.rd ix)++[Fl.nb ix (lI H)]++fl) Q)
noncomputable def bPh (ih:IhD) (H:List Blk) (k:Gh) (ix:Nat) (rd:List Rdc) (fl:List Fl) (Q:KQ) (nb:Option Blk) (tm:T):Bool:=Option.rec (motive:=fun _=>Bool) (ih tm H k (rd.map (Fl.rd ix)++fl) Q) (bMv ih tm H k ix rd fl Q) nb
noncomputable def dKL (ih:IhD) (dst:Option Nat) (tm:T) (H:List Blk) (k:Gh) (ix:Nat) (fl:List Fl) (Q:KQ) (v:AV) (nb:Option Blk) (rd:List Rdc):Bool:=aIi dst v tm (bPh ih H k ix rd fl Q nb)
noncomputable def aKp (ih:IhD) (H:List Blk) (k:Gh) (fl:List Fl) (Q:KQ) (tm:T):Bool:=ih tm H k fl Q
noncomputable def dKH (ih:IhD) (dst:Option Nat) (tm:T) (H:List Blk) (k:Gh) (bf:Nat) (fl:List Fl) (Q:KQ) (v:AV) (H':List Blk):Bool:=ifB (flQ H H' bf fl) (aIi dst v tm (aKp ih H' k fl Q))
noncomputable def bPc (ih:IhD) (dst:Option Nat) (tm:T) (H:List Blk) (bf:Nat) (fl:List Fl) (Q:KQ) (o:Out) (H':List Blk) (k:Gh):Bool:=Out.rec (motive:=fun _=>Bool) (fun v=>ifB (flQ H H' bf fl) (aIi dst v tm (aKp ih H' k fl Q))) (fun v=>Q (.pan v) ⟨.e,H'⟩ k) o
noncomputable def dKC (q:QE) (rec:aBj) (ih:IhD) (dst:Option Nat) (tm:T) (H:List Blk) (k:Gh) (bf:Nat) (fl:List Fl) (Q:KQ) (f:AO) (args:List AO):Bool:=aHc tm args (aSw q rec (evQ tm f) H k (bPc ih dst tm H bf fl Q))
noncomputable def bMq (q:QE) (rec:aBj) (ih:IhD) (dst:Option Nat) (op:AOp) (ix bf:Nat) (tm:T) (H:List Blk) (k:Gh) (fl:List Fl) (Q:KQ):Bool:=opQ op q.gl tm H (dKL ih dst tm H k ix fl Q) (dKH ih dst tm H k bf fl Q) (dKC q rec ih dst tm H k bf fl Q)
noncomputable def bPb (q:QE) (rec:aBj) (ih:IhD) (tm:T) (H:List Blk) (k:Gh) (fl:List Fl) (Q:KQ) (dst:Option Nat) (op:AOp) (guard:Option (Nat×Bool)) (ix bf:Nat):Bool:=gdQ tm guard (bMq q rec ih dst op ix bf tm H k fl Q) (aIi dst (.tup []) tm (aKp ih H k fl Q))
noncomputable def aI9 (q:QE) (rec:aBj) (ops:List AOper):T→List Blk→Gh→List Fl→KQ→Bool:=List.rec (motive:=fun _=>T→List Blk→Gh→List Fl→KQ→Bool) (fun tm H k _ Q=>Q .nrm ⟨tm,H⟩ k)
 (fun o _ ih tm H k fl Q=>AOper.rec (motive:=fun _=>Bool) (bPb q rec ih tm H k fl Q) o) ops
noncomputable def aNr (b:Nat) (t:T):Bool:=T.rec (motive:=fun _=>Bool) true (fun _ v _ il ir=>Bool.rec (motive:=fun _=>Bool) false (Bool.rec (motive:=fun _=>Bool) false ir il) (old b v)) t
noncomputable def bAw (lv base:Nat) (s:S) (K:S→Bool):Bool:=S.rec (motive:=fun _=>Bool) (fun tm H=>T.keepQ lv tm 1 0 fun tm=>lS H base fun H'=>Bool.rec (motive:=fun _=>Bool) (K ⟨tm,H⟩) (K ⟨tm,H'⟩) (aNr base tm&&aNj base H')) s
noncomputable def yF (tm:T) (Q:KQ) (o:Out) (H:List Blk) (g:Gh):Bool:=Gh.rec (motive:=fun _=>Bool) (fun f n lps=>List.rec (motive:=fun _=>Bool) false
 (fun p l _=>Out.rec (motive:=fun _=>Bool) (fun _=>Lst.rec (motive:=fun _=>Bool) (Q .nrm ⟨tm,H⟩ ⟨f,n,l⟩) false (fun e=>Q e ⟨tm,H⟩ ⟨f,n,l⟩) p.st) (fun v=>Q (.pan v) ⟨tm,H⟩ ⟨f,n,l⟩) o) lps) g
abbrev ST:=QE→aBj→T→List Blk→Gh→KQ→Bool
noncomputable def bE3 (c:AC):ST:=AC.rec (motive:=fun _=>ST)
 (fun _ _ tm H k Q=>Q .nrm ⟨tm,H⟩ k)
 (fun ops q rec tm H k Q=>aJo q rec ops tm H k Q)
 (fun ops q rec tm H k Q=>aI9 q rec ops tm H k [] Q)
 (fun a b _ _ _ rec tm H k Q=>rec a ⟨tm,H⟩ k fun e s k=>Ex.rec (motive:=fun _=>Bool) (rec b s k Q) (fun i=>Q (.exit i) s k) (Q .ret s k) (fun v=>Q (.pan v) s k) e)
 (fun c a b _ _ _ rec tm H k Q=>asBool (evQ tm c) (fun t=>Bool.rec (motive:=fun _=>Bool) (rec b ⟨tm,H⟩ k Q) (rec a ⟨tm,H⟩ k Q) t) false)
 (fun id b _ _ rec tm H k Q=>rec b ⟨tm,H⟩ k fun e s k=>Ex.rec (motive:=fun _=>Bool) (Q .nrm s k) (fun i=>Bool.rec (motive:=fun _=>Bool) (Q (.exit i) s k) (Q .nrm s k) (Nat.beq i id)) (Q .ret s k) (fun v=>Q (.pan v) s k) e)
 (fun id lv b _ _ rec tm H k Q=>T.keepQ lv tm 1 0 fun tm=>fN (lI H) fun n=>rec b ⟨tm,H⟩ k fun e s k'=>Ex.rec (motive:=fun _=>Bool) (bAw lv n s fun s=>rec (.loop id lv b) s k' Q) (fun i=>Q (.exit i) s k') (Q .ret s k') (fun v=>Q (.pan v) s k') e)
 (fun i _ _ tm H k Q=>Q (.exit i) ⟨tm,H⟩ k)
 (fun _ _ tm H k Q=>Q .ret ⟨tm,H⟩ k)
 (fun _ _ _ _ _ _ _=>false)
 (fun f ps asg body _ _ q rec tm H k Q=>aDj (evQ tm f) (fun g x y=>fnQ g fun g=>Gh.rec (motive:=fun _=>Bool) (fun kf n lps=>nX x [.yld n] fun a=>nX a y fun a=>fN (n+1) fun n1=>kC q rec g a H ⟨kf,n1,⟨n,tm,ps,asg,body,.ready,kf⟩::lps⟩ (yF tm Q)) k) (fun _=>false))
 (fun _ _ _ _ _ _ _=>false) c
noncomputable def wpQ (q:QE) (n:Nat):aBj:=Nat.rec (motive:=fun _=>aBj) (fun _ _ _ _=>false) (fun _ ih c s k Q=>S.rec (motive:=fun _=>Bool) (fun tm H=>bE3 c q ih tm H k Q) s) n
structure CE (q:QE) (E:Env):Prop where
 fn:E.fn=q.fn
 gl:E.gl=q.gl
 inv:∀i,E.inv i=none
 hv:∀k,E.hv k=none
 hb:∀k,E.hb k=none
 hz:∀k,E.hz k=false
 hf:∀k,E.hf k=[]
 sm0:∀f,q.sm f=none→E.sm f=none
 sm1:∀f c,q.sm f=some c→∃g,E.sm f=some g∧∀args H o H' (K:Out→List Blk→Prop),c args H=some (o,H')→K o H'→g args H K
def aWa (recQ:aBj) (rec:Rec):Prop:=∀c s k Qb Q,(∀e s k,Qb e s k=true→Q e s k)→recQ c s k Qb=true→rec c s k Q
def bGx (Qb:KO) (Q:Out→List Blk→Gh→Prop):Prop:=∀o H k,Qb o H k=true→Q o H k
def bJc (Qb:KQ) (Q:Ex→S→Gh→Prop):Prop:=∀e s k,Qb e s k=true→Q e s k

theorem iX (dst:Option Nat) (v:AV) (tm:T) (H:List Blk) (K:T→Bool):aIi dst v tm K=K (S.put ⟨tm,H⟩ dst v).tm:=by
 cases dst with
 | none=>rfl
 | some d=>exact T.putQ_eq v 12 tm d K
theorem put_hp (dst:Option Nat) (v:AV) (tm:T) (H:List Blk):(S.put ⟨tm,H⟩ dst v)=⟨(S.put ⟨tm,H⟩ dst v).tm,H⟩:=by cases dst<;>rfl
theorem aXa (dst:Option Nat) (v:AV) (tm:T) (H H':List Blk):(S.put ⟨tm,H⟩ dst v).tm=(S.put ⟨tm,H'⟩ dst v).tm:=by cases dst<;>rfl
theorem aA8 (tm:T) (args:List AO):∀K,aHc tm args K=K (args.map (evT tm)):=by
 induction args with
 | nil=>intro K;rfl
 | cons x l ih=>
  intro K
  show fv (evQ tm x) (fun v=>aHc tm l fun l=>K (v::l))=_
  rw[aIl,ih,eP];rfl
theorem aI8 (args:List AV):∀i t K,zW args i t K=K (uH i args t):=by
 induction args with
 | nil=>intro i t K;rfl
 | cons v l ih=>
  intro i t K
  show T.putQ v 12 t i (fun t=>zW l (i+1) t K)=_
  rw[T.putQ_eq,ih];rfl
theorem aWg (tm:T) (H:List Blk) (g:Option (Nat×Bool)) (yes no:Bool):gdQ tm g yes no=(match gd ⟨tm,H⟩ g with | none=>false | some true=>yes | some false=>no):=by
 cases g with
 | none=>rfl
 | some p=>
  obtain ⟨j,b⟩:=p
  show asBool (tm.getQ j) (fun x=>Bool.rec (motive:=fun _=>Bool) (Bool.rec (motive:=fun _=>Bool) yes no x) (Bool.rec (motive:=fun _=>Bool) no yes x) b) (aUx (tm.getQ j) (fun l=>List.rec (motive:=fun _=>Bool) no (fun _ _ _=>false) l) false)=_
  rw[T.getQ_eq]
  unfold gd
  simp only[]
  cases tm.get j with
  | bool x=>cases x<;>cases b<;>rfl
  | tup l=>cases l<;>rfl
  | _=>rfl
theorem aWo {E:Env} {H H':List Blk} {bf:Nat} {c:Prop}:∀ (l:List Fl),flQ H H' bf l=true→c→aBn E H H' bf l c:=by
 intro l
 induction l with
 | nil=>intro _ hc;exact hc
 | cons x l ih=>
  intro h hc
  cases x with
  | rd ix r=>
   have h:Bool.rec (motive:=fun _=>Bool) (Bool.rec (motive:=fun _=>Bool) false (flQ H H' bf l) (dF (aJ H r.id r.off r.size) (aJ H' r.id r.off r.size)&&(gB H r.id==gB H' r.id))) (flQ H H' bf l) (Nat.testBit bf ix)=true:=h
   show (bif Nat.testBit bf ix then aBn E H H' bf l c else bif dF (aJ H r.id r.off r.size) (aJ H' r.id r.off r.size)&&(gB H r.id==gB H' r.id) then aBn E H H' bf l c else False)
   cases ht:Nat.testBit bf ix
   ·rw[ht] at h
    cases he:(dF (aJ H r.id r.off r.size) (aJ H' r.id r.off r.size)&&(gB H r.id==gB H' r.id))
    ·rw[he] at h;cases h
    ·rw[he] at h;exact ih h hc
   ·rw[ht] at h;exact ih h hc
  | nb ix id=>
   have h:Bool.rec (motive:=fun _=>Bool) (Bool.rec (motive:=fun _=>Bool) false (flQ H H' bf l) (aBy H[id]? H'[id]?)) (flQ H H' bf l) (Nat.testBit bf ix)=true:=h
   show (bif Nat.testBit bf ix then aBn E H H' bf l c else bif aBy H[id]? H'[id]? then aBn E H H' bf l c else False)
   cases ht:Nat.testBit bf ix
   ·rw[ht] at h
    cases he:aBy H[id]? H'[id]?
    ·rw[he] at h;cases h
    ·rw[he] at h;exact ih h hc
   ·rw[ht] at h;exact ih h hc
theorem aGp (b:Nat) (H:List Blk):aNj b H=aCr b H:=by
 induction H with
 | nil=>rfl
 | cons x H ih=>
  obtain ⟨k,lf,cs⟩:=x
  show Bool.rec (motive:=fun _=>Bool) false (aNj b H) (Bool.rec (motive:=fun _=>Bool) (aR b cs) true lf)=((lf||aR b cs)&&aCr b H)
  rw[ih]
  cases lf<;>cases aR b cs<;>rfl
theorem aR5 (b:Nat) (t:T):aNr b t=t.old b:=by
 induction t with
 | e=>rfl
 | n l v r il ir=>
  show Bool.rec (motive:=fun _=>Bool) false (Bool.rec (motive:=fun _=>Bool) false (aNr b r) (aNr b l)) (old b v)=(old b v&&l.old b&&r.old b)
  rw[il,ir]
  cases old b v<;>cases l.old b<;>rfl

section
variable {q:QE} {E:Env} (hE:CE q E) {recQ:aBj} {rec:Rec} (hrec:aWa recQ rec)
include hE
theorem wM {k:Nat} {v:AV} {K:AV→Prop} (h:K v):hint E k v K:=by
 unfold hint
 rw[hE.hv]
 cases v with
 | bool b=>cases b<;>exact h
 | _=>exact h
theorem aC8 {base k:Nat} {v:AV} {H:List Blk} {Kb:List Blk→Bool} {K:List Blk→Prop} (hK:∀H',Kb H'=true→K H') (h:rU base v H Kb=true):leave E base k v H K:=by
 unfold rU at h
 rw[gW,aGp] at h
 unfold leave
 rw[hE.hb]
 simp only[]
 cases h1:old base v
 ·rw[h1] at h;exact hK _ h
 ·rw[h1] at h
  cases h2:aCr base (H.take base)
  ·rw[h2] at h;exact hK _ h
  ·rw[h2] at h;exact hK _ h
omit hE in
theorem bAp (l:List AV) (K:AV→Bool):bI9 l K=K (nZ l):=by
 cases l with
 | nil=>rfl
 | cons v t=>cases t with
  | nil=>exact aIl v K
  | cons u t=>rfl
omit hE in
theorem aE9 {E:Env} {tm:T} {H:List Blk}:∀ (res:List ARes) {Kb:List AV→Bool} {K:List AV→Prop},(∀l,Kb l=true→K l)→jU tm H res Kb=true→iH E ⟨tm,H⟩ res K:=by
 intro res
 induction res with
 | nil=>intro Kb K hK h;exact hK _ h
 | cons r res ih=>
  intro Kb K hK h
  cases r with
  | tmp t=>
   have h:fv (tm.getQ t) (fun v=>jU tm H res fun l=>Kb (v::l))=true:=h
   rw[aIl,T.getQ_eq] at h
   exact ih (fun l hl=>hK _ hl) h
  | cell a agg n=>
   obtain ⟨id,tot,off,hv,h⟩:=aLn h
   obtain ⟨b,hb,h⟩:=nP h
   rw[getQ_eq] at hb
   obtain ⟨h1,h⟩:=dB h
   obtain ⟨h2,h⟩:=dB h
   rw[qA] at h1
   rw[T.getQ_eq] at hv
   have e1:cur H id tot=true:=by unfold cur;rw[hb];exact h1
   have e3:∀o s,aJ H id o s=(b.cs.drop o).take s:=fun o s=>by unfold aJ;rw[hb]
   unfold iH
   simp only[hv,ck,e1,h2,Bool.and_self,cond_true]
   cases agg
   ·have h:pJ (getQ b.cs off) (fun v=>jU tm H res fun l=>Kb (v::l))=true:=h
    obtain ⟨v,hv,h⟩:=nP h
    rw[getQ_eq] at hv
    refine ih (fun l hl=>hK _ ?_) h
    simp only[e3]
    show Kb ((List.take 1 (List.drop off b.cs)).getD 0 .undef::l)=true
    have:(List.take 1 (List.drop off b.cs)).getD 0 .undef=v:=by
     rw[List.getD_eq_getElem?_getD,List.getElem?_take,if_pos (by omega),List.getElem?_drop,Nat.add_zero,hv]
     rfl
    rw[this]
    exact hl
   ·have h:nS b.cs off (fun r=>lS r n fun c=>jU tm H res fun l=>Kb (.agg c::l))=true:=h
    rw[iN,gW] at h
    refine ih (fun l hl=>hK _ ?_) h
    simp only[e3]
    exact hl
omit hE in
theorem aV3 (g:Gh) (f:Nat) (K:Gh→Bool):atQ g f K=K (g.at f):=rfl
theorem aTi {res:List ARes} {base k:Nat} {Qb:KO} {Q:Out→List Blk→Gh→Prop} (hQ:bGx Qb Q) {e:Ex} {s:S} {g:Gh} (h:aXr res base k Qb e s g=true):done E res base k Q e s g:=by
 obtain ⟨tm,H⟩:=s
 have key:(jU tm H res fun vs=>bI9 vs fun v=>rU base v H fun H'=>atQ g k fun g=>Qb (.ret v) H' g)=true→iH E ⟨tm,H⟩ res fun vs=>leave E base (g.f*4096+4094) (nZ vs) H fun H'=>Q (.ret (nZ vs)) H' (g.at k):=fun h=>
  aE9 res (fun l hl=>by
   rw[bAp] at hl
   exact aC8 hE (fun H' hh=>hQ _ _ _ hh) hl) h
 cases e with
 | nrm=>exact key h
 | exit i=>cases h
 | ret=>exact key h
 | pan v=>
  have h:rU base v H (fun H'=>Qb (.pan v) H' (g.at k))=true:=h
  exact aC8 hE (fun H' hh=>hQ _ _ _ hh) h
include hrec
theorem uF {f:Nat} {args:List AV} {H:List Blk} {g:Gh} {Qb:KO} {Q:Out→List Blk→Gh→Prop} (hQ:bGx Qb Q) (h:kC q recQ f args H g Qb=true):bC E rec f args H g Q:=by
 unfold kC at h
 unfold bC
 cases hs:q.sm f with
 | none=>
  rw[hs] at h
  have h:pJ (q.fn f) (fun c=>AFn.rec (motive:=fun _=>Bool) (fun res body=>ifB (Nat.ble (lI args) 4000) (zW args 0 .e fun tm=>fN (lI H) fun n=>atQ g f fun g'=>recQ body ⟨tm,H⟩ g' (aXr res n g.f Qb))) c)=true:=h
  rw[hE.sm0 f hs]
  obtain ⟨c,hc,h⟩:=nP h
  obtain ⟨h1,h⟩:=dB h
  rw[aI8,dP,aV3,dE] at h
  rw[dE] at h1
  simp only[hE.fn,hc,h1,cond_true]
  exact hrec _ _ _ _ _ (fun e s k hk=>aTi hE hQ hk) h
 | some c=>
  rw[hs] at h
  obtain ⟨g',hg,hc⟩:=hE.sm1 f c hs
  rw[hg]
  have h:smQ (c args H) Qb g=true:=h
  unfold smQ at h
  split at h
  ·rename_i o H' ho
   rw[bM2] at h
   exact hc args H o H' _ ho (hQ _ _ _ h)
  ·cases h
omit hE hrec in
theorem aO3 (u:Nat) (st:Lst) (l:List Lp):∀K,aMx u st l K=K (aIt u st l):=by
 induction l with
 | nil=>intro K;rfl
 | cons p l ih=>
  intro K
  obtain ⟨u',tm,ps,asg,body,st',f⟩:=p
  show Bool.rec (motive:=fun _=>Bool) (aMx u st l fun l=>K (⟨u',tm,ps,asg,body,st',f⟩::l)) (K (⟨u',tm,ps,asg,body,st,f⟩::l)) (Nat.beq u' u)=K (bif Nat.beq u' u then { (⟨u',tm,ps,asg,body,st',f⟩:Lp) with st:=st }::l else _::aIt u st l)
  cases Nat.beq u' u
  ·exact ih _
  ·rfl
omit hE hrec in
theorem rG (g:Gh) (f u:Nat) (st:Lst) (K:Gh→Bool):aC3 g f u st K=K ((g.at f).set u st):=by
 obtain ⟨a,n,lps⟩:=g
 exact aO3 u st lps fun lps=>K ⟨f,n,lps⟩
omit hE in
theorem aH2 {u:Nat} {args:List AV} {H:List Blk} {g:Gh} {Qb:KO} {Q:Out→List Blk→Gh→Prop} (hQ:bGx Qb Q) (h:aDv recQ u args H g Qb=true):aAr rec u args H g Q:=by
 unfold aDv at h
 unfold aAr
 obtain ⟨p,hp,h⟩:=nP h
 obtain ⟨h1,h⟩:=dB h
 obtain ⟨h2,h⟩:=dB h
 rw[dE,dE] at h1
 rw[aV3] at h
 simp only[hp,h1,h2,Bool.and_self,cond_true]
 refine hrec _ _ _ _ _ (fun e s g1 he => ?_) h
 cases e with
 | nrm=>
  obtain ⟨h3,he⟩:=dB he
  rw[rG] at he
  simp only[h3,cond_true]
  refine hrec _ _ _ _ _ (fun e s g2 he => ?_) he
  cases e with
  | nrm=>
   have he:aC3 g2 g.f u .ready (fun g3=>Qb (.ret (.bool true)) s.hp g3)=true:=he
   rw[rG] at he
   exact hQ _ _ _ he
  | exit i=>
   have he:aC3 g2 g.f u (.done (.exit i)) (fun g3=>Qb (.ret (.bool false)) s.hp g3)=true:=he
   rw[rG] at he
   exact hQ _ _ _ he
  | ret=>
   have he:aC3 g2 g.f u (.done .ret) (fun g3=>Qb (.ret (.bool false)) s.hp g3)=true:=he
   rw[rG] at he
   exact hQ _ _ _ he
  | pan v=>cases he
 | exit i=>cases he
 | ret=>cases he
 | pan v=>cases he
theorem aCj {v:AV} {args:List AV} {H:List Blk} {g:Gh} {Qb:KO} {Q:Out→List Blk→Gh→Prop} (hQ:bGx Qb Q) (h:aXe q recQ v args H g Qb=true):aIq E rec v args H g Q:=by
 cases v with
 | fn f x y=>
  have h:fnQ f (fun f=>nX x args fun a=>nX a y fun a=>kC q recQ f a H g Qb)=true:=h
  cases f with
  | func f=>
   have h:(nX x args fun a=>nX a y fun a=>kC q recQ f a H g Qb)=true:=h
   rw[iB,iB] at h
   exact uF hE hrec hQ h
  | _=>cases h
 | yld u=>exact aH2 hrec hQ h
 | _=>cases h
omit hE hrec in
theorem aUf {ev:AO→AV} {H:List Blk} {k:Nat} {op:AOp} {K:AV→List Blk→Prop} (h:hop E ev H k op K):aP0 E ev H k op K:=by
 unfold aP0
 split
 ·exact (by simp[hop] at h:False).elim
 ·exact h
omit hE hrec in
theorem aM6 {os:List AOper} {dst:Option Nat} {op:AOp} {guard:Option (Nat×Bool)} {ix bf:Nat} {s:S} {k:Gh} {Q:Ex→S→Gh→Prop} (hg:gd s guard=some true) (hn:∀f args,op≠.call f args) :
  zQ E rec (⟨dst,op,guard,ix,bf⟩::os) s k Q=(match lop E.gl s.ev (cur s.hp) (aJ s.hp) s.hp.length op with
    | some r=>ck E r.pre <| bif E.hz (k.key dst) then bKu s.hp.length r.v r.nb fun v=>zQ E rec os (S.put ⟨s.tm,s.hp⟩ dst v) k Q
      else hint E (k.key dst) r.v fun v=>zQ E rec os (S.put ⟨s.tm,s.hp++r.nb.toList⟩ dst v) k Q
    | none=>aP0 E s.ev s.hp (k.key dst) op fun v H'=>bif E.hz (k.key dst) then bKd s.hp.length dst v ⟨s.tm,H'⟩ fun s'=>zQ E rec os s' k Q
      else hint E (k.key dst) v fun v=>zQ E rec os (S.put ⟨s.tm,H'⟩ dst v) k Q):=by
 rw[zQ]
 simp only[hg]
 cases op<;>first | rfl | exact absurd rfl (hn _ _)
theorem aQ3:∀ (ops:List AOper) {tm:T} {H:List Blk} {k:Gh} {Qb:KQ} {Q:Ex→S→Gh→Prop},bJc Qb Q→aJo q recQ ops tm H k Qb=true→zQ E rec ops ⟨tm,H⟩ k Q:=by
 intro ops
 induction ops with
 | nil=>intro tm H k Qb Q hQ h;exact hQ _ _ _ h
 | cons o os ih=>
  intro tm H k Qb Q hQ h
  obtain ⟨dst,op,guard,ix,bf⟩:=o
  have h:gdQ tm guard (bN2 q recQ (aJo q recQ os) dst op tm H k Qb) (aIi dst (.tup []) tm (aLc (aJo q recQ os) H k Qb))=true:=h
  rw[aWg tm H] at h
  split at h
  ·cases h
  ·rename_i hg
   unfold bN2 at h
   rcases aWy h with ⟨f,args,rfl,h2⟩ | ⟨hn,⟨r,hr,hp,h⟩ | ⟨hr,h⟩⟩
   ·unfold rKC at h2
    rw[aA8,aSw,eP] at h2
    rw[zQ]
    simp only[hg,aB0]
    refine aCj hE hrec (fun o H' k' ho => ?_) h2
    cases o with
    | ret v=>
     have ho:aIi dst v tm (aLc (aJo q recQ os) H' k' Qb)=true:=ho
     rw[iX dst v tm H'] at ho
     refine wM hE ?_
     rw[put_hp]
     exact ih hQ ho
    | pan v=>exact hQ _ _ _ ho
   ·rw[aM6 hg hn]
    simp only[aB0,hE.gl,hr,ck,hp,cond_true,hE.hz,cond_false]
    refine wM hE ?_
    unfold rKL at h
    rw[put_hp]
    cases hnb:r.nb with
    | none=>
     rw[hnb,iX dst r.v tm H] at h
     have e:H++(none:Option Blk).toList=H:=by simp
     rw[e]
     exact ih hQ h
    | some b=>
     rw[hnb,iX dst r.v tm H] at h
     have h:nX H [b] (bG7 (aJo q recQ os) (S.put ⟨tm,H⟩ dst r.v).tm k Qb)=true:=h
     rw[iB] at h
     rw[aXa dst r.v tm _ H]
     exact ih hQ h
   ·rw[aM6 hg hn]
    simp only[aB0,hE.gl,hr]
    refine aUf (h E _ _ (hE.hb _) fun v H' hv => ?_)
    rw[hE.hz,cond_false]
    refine wM hE ?_
    unfold rKH at hv
    rw[iX dst v tm H'] at hv
    rw[put_hp]
    exact ih hQ hv
  ·rename_i hg
   rw[zQ]
   simp only[hg]
   rw[iX dst _ tm H] at h
   rw[put_hp]
   exact ih hQ h
omit hE hrec in
theorem aNz {os:List AOper} {dst:Option Nat} {op:AOp} {guard:Option (Nat×Bool)} {ix bf:Nat} {s:S} {k:Gh} {fl:List Fl} {Q:Ex→S→Gh→Prop} (hg:gd s guard=some true) (hn:∀f args,op≠.call f args) :
  vC E rec (⟨dst,op,guard,ix,bf⟩::os) s k fl Q=(match lop E.gl (evT s.tm) (cur s.hp) (aJ s.hp) s.hp.length op with
    | some r=>ck E r.pre <| hint E (k.key dst) r.v fun v=>vC E rec os (S.put ⟨s.tm,s.hp++r.nb.toList⟩ dst v) k (wZ ⟨dst,op,guard,ix,bf⟩ s.hp r++fl) Q
    | none=>hop E (evT s.tm) s.hp (k.key dst) op fun v H'=>aBn E s.hp H' bf fl <| hint E (k.key dst) v fun v=>vC E rec os (S.put ⟨s.tm,H'⟩ dst v) k fl Q):=by
 rw[vC]
 simp only[hg]
 rw[←aZx,←aZu]
 cases op<;>first | rfl | exact absurd rfl (hn _ _)
theorem aQm:∀ (ops:List AOper) {tm:T} {H:List Blk} {k:Gh} {fl:List Fl} {Qb:KQ} {Q:Ex→S→Gh→Prop},bJc Qb Q→aI9 q recQ ops tm H k fl Qb=true→vC E rec ops ⟨tm,H⟩ k fl Q:=by
 intro ops
 induction ops with
 | nil=>intro tm H k fl Qb Q hQ h;exact hQ _ _ _ h
 | cons o os ih=>
  intro tm H k fl Qb Q hQ h
  obtain ⟨dst,op,guard,ix,bf⟩:=o
  have h:gdQ tm guard (bMq q recQ (aI9 q recQ os) dst op ix bf tm H k fl Qb) (aIi dst (.tup []) tm (aKp (aI9 q recQ os) H k fl Qb))=true:=h
  rw[aWg tm H] at h
  split at h
  ·cases h
  ·rename_i hg
   unfold bMq at h
   rcases aWy h with ⟨f,args,rfl,h2⟩ | ⟨hn,⟨r,hr,hp,h⟩ | ⟨hr,h⟩⟩
   ·unfold dKC at h2
    rw[aA8,aSw,eP] at h2
    rw[vC]
    simp only[hg]
    rw[show bG (.call f args)=slots (f::args) from rfl,aO (l:=f::args) (x:=f) (by simp),List.map_congr_left (l:=args) (g:=evT tm) fun x hx=>aO (by simp[hx])]
    refine aCj hE hrec (fun o H' k' ho => ?_) h2
    cases o with
    | ret v=>
     have ho:ifB (flQ H H' bf fl) (aIi dst v tm (aKp (aI9 q recQ os) H' k' fl Qb))=true:=ho
     obtain ⟨h1,ho⟩:=dB ho
     rw[iX dst v tm H'] at ho
     refine aWo fl h1 (wM hE ?_)
     rw[put_hp]
     exact ih hQ ho
    | pan v=>exact hQ _ _ _ ho
   ·rw[aNz hg hn]
    simp only[hE.gl,hr,ck,hp,cond_true]
    refine wM hE ?_
    unfold dKL at h
    rw[put_hp]
    cases hnb:r.nb with
    | none=>
     rw[hnb,iX dst r.v tm H] at h
     have e:H++(none:Option Blk).toList=H:=by simp
     rw[e]
     have e2:wZ ⟨dst,op,guard,ix,bf⟩ H r=r.rd.map (Fl.rd ix):=by unfold wZ;rw[hnb];simp
     rw[e2]
     exact ih hQ h
    | some b=>
     rw[hnb,iX dst r.v tm H] at h
     have h:nX H [b] (bI2 (aI9 q recQ os) (S.put ⟨tm,H⟩ dst r.v).tm k (r.rd.map (Fl.rd ix)++[Fl.nb ix (lI H)]++fl) Qb)=true:=h
     rw[iB,dE] at h
     have e2:wZ ⟨dst,op,guard,ix,bf⟩ H r=r.rd.map (Fl.rd ix)++[Fl.nb ix H.length]:=by unfold wZ;rw[hnb]
     rw[aXa dst r.v tm _ H,e2]
     exact ih hQ h
   ·rw[aNz hg hn]
    simp only[hE.gl,hr]
    refine h E _ _ (hE.hb _) fun v H' hv => ?_
    unfold dKH at hv
    obtain ⟨h1,hv⟩:=dB hv
    rw[iX dst v tm H'] at hv
    refine aWo fl h1 (wM hE ?_)
    rw[put_hp]
    exact ih hQ hv
  ·rename_i hg
   rw[vC]
   simp only[hg]
   rw[iX dst _ tm H] at h
   rw[put_hp]
   exact ih hQ h
omit hrec in
theorem aQ2 {lv base k:Nat} {s:S} {Kb:S→Bool} {K:S→Prop} (hK:∀s,Kb s=true→K s) (h:bAw lv base s Kb=true):tC E lv base k s K:=by
 obtain ⟨tm,H⟩:=s
 have h:T.keepQ lv tm 1 0 (fun tm=>lS H base fun H'=>Bool.rec (motive:=fun _=>Bool) (Kb ⟨tm,H⟩) (Kb ⟨tm,H'⟩) (aNr base tm&&aNj base H'))=true:=h
 rw[T.keepQ_eq,gW,aR5,aGp] at h
 unfold tC
 rw[hE.hb]
 simp only[clr]
 cases hb:((tm.keep lv 1 0).old base&&aCr base (H.take base))
 ·rw[hb] at h;exact hK _ h
 ·rw[hb] at h;exact hK _ h
omit hE hrec in
theorem aIz {tm:T} {Qb:KQ} {Q:Ex→S→Gh→Prop} (hQ:bJc Qb Q):bGx (yF tm Qb) (vQ tm Q):=by
 intro o H g h
 obtain ⟨f,n,lps⟩:=g
 unfold vQ
 cases lps with
 | nil=>cases h
 | cons p l=>
  cases o with
  | pan v=>exact hQ _ _ _ h
  | ret v=>
   have h:Lst.rec (motive:=fun _=>Bool) (Qb .nrm ⟨tm,H⟩ ⟨f,n,l⟩) false (fun e=>Qb e ⟨tm,H⟩ ⟨f,n,l⟩) p.st=true:=h
   simp only[]
   cases hp:p.st with
   | ready=>rw[hp] at h;exact hQ _ _ _ h
   | busy=>rw[hp] at h;cases h
   | done e=>rw[hp] at h;exact hQ _ _ _ h
theorem aUa (c:AC) {tm:T} {H:List Blk} {k:Gh} {Qb:KQ} {Q:Ex→S→Gh→Prop} (hQ:bJc Qb Q) (h:bE3 c q recQ tm H k Qb=true):step E rec c ⟨tm,H⟩ k Q:=by
 cases c with
 | skip=>exact hQ _ _ _ h
 | region ops=>exact aQ3 hE hrec ops hQ h
 | drawn ops=>exact aQm hE hrec ops hQ h
 | seq a b=>
  unfold step
  simp only[hE.inv]
  refine hrec a _ _ _ _ (fun e s k' he => ?_) h
  cases e with
  | nrm=>exact hrec b _ _ _ _ hQ he
  | exit i=>exact hQ _ _ _ he
  | ret=>exact hQ _ _ _ he
  | pan v=>exact hQ _ _ _ he
 | cond c a b=>
  have h:asBool (evQ tm c) (fun t=>Bool.rec (motive:=fun _=>Bool) (recQ b ⟨tm,H⟩ k Qb) (recQ a ⟨tm,H⟩ k Qb) t) false=true:=h
  rw[eP] at h
  unfold step
  simp only[aB0]
  cases hv:evT tm c with
  | bool t=>
   rw[hv] at h
   simp only[]
   cases t
   ·exact hrec b _ _ _ _ hQ h
   ·exact hrec a _ _ _ _ hQ h
  | _=>rw[hv] at h;cases h
 | block id b=>
  refine hrec b _ _ _ _ (fun e s k' he => ?_) h
  cases e with
  | nrm=>exact hQ _ _ _ he
  | exit i=>
   have he:Bool.rec (motive:=fun _=>Bool) (Qb (.exit i) s k') (Qb .nrm s k') (Nat.beq i id)=true:=he
   show Q (bif Nat.beq i id then .nrm else .exit i) s k'
   cases hb:Nat.beq i id
   ·rw[hb] at he;exact hQ _ _ _ he
   ·rw[hb] at he;exact hQ _ _ _ he
  | ret=>exact hQ _ _ _ he
  | pan v=>exact hQ _ _ _ he
 | loop id lv b=>
  have h:T.keepQ lv tm 1 0 (fun tm=>fN (lI H) fun n=>recQ b ⟨tm,H⟩ k fun e s k'=>Ex.rec (motive:=fun _=>Bool) (bAw lv n s fun s=>recQ (.loop id lv b) s k' Qb) (fun i=>Qb (.exit i) s k') (Qb .ret s k') (fun v=>Qb (.pan v) s k') e)=true:=h
  rw[T.keepQ_eq,dP,dE] at h
  unfold step
  simp only[hE.inv]
  refine hrec b _ _ _ _ (fun e s k' he => ?_) h
  cases e with
  | nrm=>exact aQ2 hE (fun s hs=>hrec _ _ _ _ _ hQ hs) he
  | exit i=>exact hQ _ _ _ he
  | ret=>exact hQ _ _ _ he
  | pan v=>exact hQ _ _ _ he
 | exit i=>exact hQ _ _ _ h
 | ret=>exact hQ _ _ _ h
 | sum g=>cases h
 | rfn f ps asg body=>
  obtain ⟨kf,n,lps⟩:=k
  have h:aDj (evQ tm f) (fun g x y=>fnQ g fun g=>nX x [.yld n] fun a=>nX a y fun a=>fN (n+1) fun n1=>kC q recQ g a H ⟨kf,n1,⟨n,tm,ps,asg,body,.ready,kf⟩::lps⟩ (yF tm Qb)) (fun _=>false)=true:=h
  rw[eP] at h
  unfold step
  simp only[aB0]
  cases hv:evT tm f with
  | fn g x y=>
   rw[hv] at h
   cases g with
   | func g=>
    have h:(nX x [.yld n] fun a=>nX a y fun a=>fN (n+1) fun n1=>kC q recQ g a H ⟨kf,n1,⟨n,tm,ps,asg,body,.ready,kf⟩::lps⟩ (yF tm Qb))=true:=h
    rw[iB,iB,dP] at h
    exact uF hE hrec (aIz hQ) h
   | _=>cases h
  | _=>rw[hv] at h;cases h
 | bad w=>cases h
end
theorem bF9 {q:QE} {E:Env} (hE:CE q E):∀n,aWa (wpQ q n) (wpx E n):=by
 intro n
 induction n with
 | zero=>intro c s k Qb Q hQ h;cases h
 | succ n ih=>
  intro c s k Qb Q hQ h
  obtain ⟨tm,H⟩:=s
  exact aUa hE ih c hQ h
theorem bIh {q:QE} {E:Env} (hE:CE q E) {n f:Nat} {args:List AV} {H:List Blk} {g:Gh} {Qb:KO} {Q:Out→List Blk→Gh→Prop} (hQ:∀o H k,Qb o H k=true→Q o H k) (h:kC q (wpQ q n) f args H g Qb=true):bC E (wpx E n) f args H g Q:=
 uF hE (bF9 hE n) hQ h
end Go.Proofs.YtnhechnaemmdiaaGreatDoor

namespace Go.Proofs.YtnhechnaemmdiaaGreatDoor
open Go.RowKit

abbrev aUw:=List AV→List Blk→Option (Out×List Blk)
def aM5:List (Nat×aUw)→Nat→Option aUw
 | [],_=>none
 | (k,c)::l,f=>bif Nat.beq f k then some c else aM5 l f
def toP (c:aUw) (args:List AV) (H:List Blk) (K:Out→List Blk→Prop):Prop:=match c args H with
 | some (o,H')=>K o H'
 | none=>False
def bDl (q:QE):Env := { fn:=q.fn,sm:=fun f=>(q.sm f).map toP,gl:=q.gl }
theorem aZ0 (q:QE):CE q (bDl q):=
 ⟨rfl,rfl,fun _=>rfl,fun _=>rfl,fun _=>rfl,fun _=>rfl,fun _=>rfl,
  fun f h=>by show (q.sm f).map toP=none;rw[h];rfl,
  fun f c h=>⟨toP c,by show (q.sm f).map toP=_;rw[h];rfl,fun args H o H' K hc hk=>by unfold toP;rw[hc];exact hk⟩⟩
theorem aHi {P:Program} {gl:Nat→Option (List AV)}:∀ (l:List (Nat×aUw)),(∀p,p∈l→aG P gl p.1 (toP p.2))→∀f g,(aM5 l f).map toP=some g→aG P gl f g
 | [],_,f,g,h=>by simp[aM5] at h
 | (k,c)::l,hl,f,g,h=>by
  simp only[aM5] at h
  cases hk:Nat.beq f k
  ·rw[hk] at h
   exact aHi l (fun p hp=>hl p (by simp[hp])) f g h
  ·rw[hk] at h
   simp only[cond_true,Option.map_some,Option.some.injEq] at h
   subst h
   obtain rfl:=Nat.eq_of_beq_eq_true hk
   exact hl (f,c) (by simp)
theorem qQ {P:Program} {gl:Nat→Option (List AV)} {f:FuncId} {c:List AV→List Blk→(Out→List Blk→Prop)→Prop} {c':aUw} (hc:aG P gl f c) (h:∀args H o H' K,c' args H=some (o,H')→K o H'→c args H K):aG P gl f (toP c'):=
 ⟨hc.1,fun args H Q hq=>hc.2 args H Q (by
  unfold toP at hq
  split at hq
  ·rename_i o H' ho
   exact h args H o H' Q ho hq
  ·exact hq.elim)⟩
def bFq (o:Out) (H:List Blk) (_:Gh):Bool:=match H,o with
 | [],.ret (.bool true)=>true
 | _,_=>false
theorem aZm (o:Out) (H:List Blk) (k:Gh) (h:bFq o H k=true):bG1 o H k:=by
 unfold bFq at h
 split at h
 ·trivial
 ·cases h
theorem aT9 {q:QE} {n f:Nat} (h:kC q (wpQ q n) f [] [] {} bFq=true):bC (bDl q) (wpx (bDl q) n) f [] [] {} bG1=True:=
 eq_true (bIh (aZ0 q) aZm h)
theorem aD8 {P:Program} {f:FuncId} {q:QE} (he:Enters P f) (hgl:∀g cs,q.gl g=some cs→bS cs=true) {n:Nat} (hE:EnvFor P (bDl q)) (h:kC q (wpQ q n) f [] [] {} bFq=true):aG P q.gl f aMz:=
 aH0 (E:=bDl q) he hgl hE rfl (aT9 h)
end Go.Proofs.YtnhechnaemmdiaaGreatDoor
