/-
  The engine, closed runs, part E: operations that write; one operation.
-/
import Derived.Test.YtjenieljapmehaaGreatDoorEnI
import Derived.Test.YtjenieljapmehaaGreatDoorEnH
set_option linter.unusedSimpArgs false
set_option linter.unusedVariables false
namespace Go.Proofs.YtjenieljapmehaaGreatDoor
open Go.RowKit

abbrev KHt:=AV→List Blk→Bool
def HopOkQ (ev:AO→AV) (H:List Blk) (op:AOp) (KH:KHt):Prop:=∀ (E:Env) (k:Nat) (K:AV→List Blk→Prop),E.hb k=none→(∀v H',KH v H'=true→K v H')→hop E ev H k op K

theorem ifB_t {b t:Bool} (h:ifB b t=true):b=true∧t=true:=by cases b<;>first | exact ⟨rfl,h⟩ | cases h
theorem optB_t {α:Type} {o:Option α} {K:α→Bool} (h:optB o K=true):∃x,o=some x∧K x=true:=by
 cases o with
 | none=>cases h
 | some x=>exact ⟨x,rfl,h⟩
theorem asPtr_t {v:AV} {K:Nat→Nat→Nat→Bool} (h:asPtr v K false=true):∃a b c,v=.ptr a b c∧K a b c=true:=by
 cases v<;>first | cases h | exact ⟨_,_,_,rfl,h⟩
theorem asSl_t {v:AV} {K:Nat→Nat→Nat→Nat→Nat→Bool} {fb:Bool} (h:asSl v K fb=true):(∃a b c d e,v=.sl a b c d e∧K a b c d e=true)∨fb=true:=by
 cases v<;>first | exact .inr h | exact .inl ⟨_,_,_,_,_,rfl,h⟩
theorem asStr_t {v:AV} {K:List UInt8→Bool} {fb:Bool} (h:asStr v K fb=true):(∃s,v=.str s∧K s=true)∨fb=true:=by
 cases v<;>first | exact .inr h | exact .inl ⟨_,rfl,h⟩
theorem asInt_t {v:AV} {K:IntKind→Int→Bool} {fb:Bool} (h:asInt v K fb=true):(∃k n,v=.int k n∧K k n=true)∨fb=true:=by
 cases v<;>first | exact .inr h | exact .inl ⟨_,_,rfl,h⟩
theorem natI_t {n:Int} {K:Nat→Bool} (h:natI n K false=true):∃m:Nat,n=.ofNat m∧K m=true:=by
 cases n with
 | ofNat m=>exact ⟨m,rfl,h⟩
 | negSucc m=>cases h
noncomputable def roQ (k:BK):Bool:=BK.rec (motive:=fun _=>Bool) false true true k
theorem roQ_eq (k:BK):roQ k=(k !=.ro):=by cases k<;>rfl
noncomputable def grQ (k:BK):Bool:=BK.rec (motive:=fun _=>Bool) false false true k
theorem grQ_eq (k:BK):grQ k=(k==.grow):=by cases k<;>rfl
theorem bdec {a b:Nat} (h:Nat.beq a b=true):a=b:=Nat.eq_of_beq_eq_true h

section
variable (tm:T) (H:List Blk) (KH:KHt)
noncomputable def stQ (n:Nat) (a x:AO):Bool:=asPtr (evQ tm a) (fun id tot off=>cellsQ (evQ tm x) fun vs=>optB (getQ H id) fun b=>blkB b fun k lf cs=>ifB (ncQ k lf cs tot) (ifB (Nat.ble (off+n) tot) (ifB (Nat.beq (lenQ vs) n) (ifB (oneL vs) (ifB (roQ k)
 (setRQ vs cs off fun cs'=>fB (lf&&oldL 0 vs) fun lf'=>setQ ⟨k,lf',cs'⟩ H id fun H'=>KH .undef H')))))) false
theorem stQ_ok {n a x} (h:stQ tm H KH n a x=true):HopOkQ (evT tm) H (.st n a x) KH:=by
 intro E k K _ hK
 obtain ⟨id,tot,off,hv,h⟩:=asPtr_t h
 rw[cellsQ_eq,evQ_eq] at h
 split at h
 ·rename_i vs hcs
  obtain ⟨b,hb,h⟩:=optB_t h
  rw[getQ_eq] at hb
  obtain ⟨h1,h⟩:=ifB_t h
  obtain ⟨h2,h⟩:=ifB_t h
  obtain ⟨h3,h⟩:=ifB_t h
  obtain ⟨h4,h⟩:=ifB_t h
  obtain ⟨h5,h⟩:=ifB_t h
  rw[setRQ_eq,fB_eq,setQ_eq] at h
  rw[ncQ_eq] at h1
  rw[lenQ_eq] at h3
  rw[roQ_eq] at h5
  have e1:cur H id tot=true:=by unfold cur;rw[hb];exact h1
  have e2:kindAt H id=b.k:=by unfold kindAt;rw[hb]
  have e3:setB H id off vs=H.set id ⟨b.k,b.lf&&oldL 0 vs,setRange b.cs off vs⟩:=by unfold setB;rw[hb]
  simp only[hop,evT_of hv,hcs,ck,e1,e2,e3,h2,h3,h4,h5,Bool.and_self,cond_true]
  exact hK _ _ h
 ·cases h
noncomputable def markQ (x:AO):Bool:=asSl (evQ tm x) (fun id tot off len sz=>ifB (curQ H id tot) (optB (getQ H id) fun b=>blkB b fun k _ _=>ifB (grQ k) (KH (.sl id tot off len sz) H))) false
theorem markQ_ok {x} (h:markQ tm H KH x=true):HopOkQ (evT tm) H (.mark x) KH:=by
 intro E k K _ hK
 rcases asSl_t h with ⟨id,tot,off,len,sz,hv,h⟩ | h
 ·obtain ⟨h1,h⟩:=ifB_t h
  rw[curQ_eq] at h1
  obtain ⟨b,hb,h⟩:=optB_t h
  rw[getQ_eq] at hb
  obtain ⟨h2,h⟩:=ifB_t h
  rw[grQ_eq] at h2
  have e2:kindAt H id=b.k:=by unfold kindAt;rw[hb]
  simp only[hop,evT_of hv,ck,h1,e2,h2,Bool.and_self,cond_true]
  exact hK _ _ h
 ·cases h
noncomputable def srcQ (size:Nat) (zs:Option (List AV)) (v:AV) (K:Nat→List AV→Bool):Bool:=Option.rec (motive:=fun _=>Bool)
 (asSl v (fun id tot off len sz=>ifB (Nat.beq sz size) (ifB (Nat.ble (off+len*size) tot) (optB (getQ H id) fun b=>blkB b fun k lf cs=>ifB (ncQ k lf cs tot) (dropQ cs off fun r=>takeQ r (len*size) fun l=>K len l))))
  (asStr v (fun s=>ifB (Nat.beq size 1) (fN (lenQ s) fun m=>cOf s fun vs=>K m vs)) (ifB (isNils v) (K 0 []))))
 (fun z=>asInt v (fun _ l=>natI l (fun l=>ifB (Nat.ble l 1099511627776) (fDL (List.replicate l z).flatten fun vs=>K l vs)) false) false) zs
theorem srcQ_t {size zs v K} (h:srcQ H size zs v K=true):∃m vs,srcA H size zs v=some (true,m,vs)∧noneOf v=some (Nat.beq m 0)∧K m vs=true:=by
 cases zs with
 | none=>
  rcases asSl_t h with ⟨id,tot,off,len,sz,rfl,h⟩ | h
  ·obtain ⟨h1,h⟩:=ifB_t h
   obtain ⟨h2,h⟩:=ifB_t h
   obtain ⟨b,hb,h⟩:=optB_t h
   rw[getQ_eq] at hb
   obtain ⟨h3,h⟩:=ifB_t h
   rw[ncQ_eq] at h3
   rw[dropQ_eq,takeQ_eq] at h
   have e1:cur H id tot=true:=by unfold cur;rw[hb];exact h3
   refine ⟨len,_, ?_, ?_,h⟩
   ·simp only[srcA,src,e1,h1,h2,Bool.and_self]
    unfold cellsAt
    rw[hb]
   ·rfl
  rcases asStr_t h with ⟨s,rfl,h⟩ | h
  ·obtain ⟨h1,h⟩:=ifB_t h
   rw[fN_eq,lenQ_eq,cOf_eq] at h
   refine ⟨s.length,_, ?_, ?_,h⟩
   ·simp only[srcA,src,h1]
   ·rfl
  ·obtain ⟨h1,h⟩:=ifB_t h
   cases v<;>first | exact ⟨0,[],rfl,rfl,h⟩ | cases h1
 | some z=>
  rcases asInt_t h with ⟨k,l,rfl,h⟩ | h
  ·obtain ⟨m,rfl,h⟩:=natI_t h
   obtain ⟨h1,h⟩:=ifB_t h
   rw[fDL_eq] at h
   rw[Nat.ble_eq] at h1
   refine ⟨m,_, ?_, ?_,h⟩
   ·have a1:decide ((0:Int)≤Int.ofNat m)=true:=decide_eq_true (by simp)
    have a2:decide (Int.ofNat m≤1099511627776)=true:=decide_eq_true (by simp only[Int.ofNat_eq_natCast];omega)
    simp only[srcA,a1,a2,Bool.and_self]
    rfl
   ·show some (decide (Int.ofNat m=0))=some (Nat.beq m 0)
    congr 1
    cases m with
    | zero=>rfl
    | succ m=>exact decide_eq_false (by simp only[Int.ofNat_eq_natCast];omega)
  ·cases h
noncomputable def appEndQ (n bytes m:Nat) (vs:List AV) (v:AV):Bool:=asSl v (fun id tot off len sz=>ifB (Nat.beq sz n) (ifB (Nat.beq (off+len*n) tot) (ifB (Nat.ble (len+m) 1099511627776) (ifB (Nat.ble ((len+m)*bytes) 1099511627776) (optB (getQ H id) fun b=>blkB b fun k lf cs=>ifB (ncQ k lf cs tot)
  (BK.rec (motive:=fun _=>Bool) false
   (dropQ cs off fun r=>takeQ r (len*n) fun l=>appQ l vs fun cs'=>newQ H .grow cs' fun nid tt nb=>fN (len+m) fun lm=>optB nb fun b=>appQ H [b] fun H'=>KH (.sl nid tt 0 lm n) H')
   (ifB (Nat.beq off 0) (appQ cs vs fun cs'=>fN (tot+lenQ vs) fun tt=>fN (len+m) fun lm=>fB (lf&&oldL 0 vs) fun lf'=>setQ ⟨k,lf',cs'⟩ H id fun H'=>KH (.sl id tt 0 lm n) H')) k))))))
 (ifB (isNils v) (ifB (Nat.ble m 1099511627776) (ifB (Nat.ble (m*bytes) 1099511627776) (newQ H .grow vs fun nid tt nb=>optB nb fun b=>appQ H [b] fun H'=>KH (.sl nid tt 0 m n) H'))))
noncomputable def app0Q (n:Nat) (v:AV):Bool:=asSl v (fun id tot off len sz=>ifB (curQ H id tot) (ifB (Nat.beq sz n) (KH (.sl id tot off len sz) H))) (ifB (isNils v) (KH .nils H))
noncomputable def aptQ (n bytes:Nat) (zs:Option (List AV)) (x y:AO):Bool:=srcQ H n zs (evQ tm y) fun m vs=>ifB (oneL vs) (ifB (Nat.blt 0 n) (ifB (Nat.ble (m*bytes) 1099511627776) (Nat.rec (motive:=fun _=>Bool) (app0Q H KH n (evQ tm x)) (fun _ _=>appEndQ H KH n bytes m vs (evQ tm x)) m)))
theorem aptQ_ok {n bytes zs x y} (h:aptQ tm H KH n bytes zs x y=true):HopOkQ (evT tm) H (.app n bytes zs x y) KH:=by
 intro E k K hb hK
 obtain ⟨m,vs,hs,hn,h⟩:=srcQ_t H h
 obtain ⟨h1,h⟩:=ifB_t h
 obtain ⟨h2,h⟩:=ifB_t h
 obtain ⟨h3,h⟩:=ifB_t h
 rw[evQ_eq] at hs hn
 cases m with
 | zero=>
  have h:app0Q H KH n (evQ tm x)=true:=h
  simp only[hop,hs,ck,h1,h2,h3,Bool.and_self,cond_true,hb,hn,show Nat.beq 0 0=true from rfl]
  rcases asSl_t h with ⟨id,tot,off,len,sz,hv,h⟩ | h
  ·obtain ⟨g1,h⟩:=ifB_t h
   obtain ⟨g2,h⟩:=ifB_t h
   rw[curQ_eq] at g1
   simp only[evT_of hv,g1,g2,Bool.and_self,cond_true]
   exact hK _ _ h
  ·obtain ⟨g1,h⟩:=ifB_t h
   have hx:evT tm x=.nils:=by
    rw[evQ_eq] at g1
    cases hv:evT tm x<;>rw[hv] at g1<;>first | rfl | cases g1
   simp only[hx]
   exact hK _ _ h
 | succ m=>
  have h:appEndQ H KH n bytes (m+1) vs (evQ tm x)=true:=h
  simp only[hop,hs,ck,h1,h2,h3,Bool.and_self,cond_true,hb,hn,show Nat.beq (m+1) 0=false from rfl,show Nat.blt 0 (m+1)=true from bltQ_iff.2 (by omega)]
  rcases asSl_t h with ⟨id,tot,off,len,sz,hv,h⟩ | h
  ·obtain ⟨g1,h⟩:=ifB_t h
   obtain ⟨g2,h⟩:=ifB_t h
   obtain ⟨g3,h⟩:=ifB_t h
   obtain ⟨g4,h⟩:=ifB_t h
   obtain ⟨b,hb',h⟩:=optB_t h
   rw[getQ_eq] at hb'
   obtain ⟨g5,h⟩:=ifB_t h
   rw[ncQ_eq] at g5
   have e1:cur H id tot=true:=by unfold cur;rw[hb'];exact g5
   have e2:kindAt H id=b.k:=by unfold kindAt;rw[hb']
   simp only[evT_of hv,e1,g1,g2,g3,g4,Bool.and_self,cond_true,e2]
   have e3:cellsAt H id off (len*n)=(b.cs.drop off).take (len*n):=by unfold cellsAt;rw[hb']
   obtain ⟨bk,blf,bcs⟩:=b
   cases bk with
   | ro=>cases h
   | exact=>
    have h:(dropQ bcs off fun r=>takeQ r (len*n) fun l=>appQ l vs fun cs'=>newQ H .grow cs' fun nid tt nb=>fN (len+(m+1)) fun lm=>optB nb fun b=>appQ H [b] fun H'=>KH (.sl nid tt 0 lm n) H')=true:=h
    rw[dropQ_eq,takeQ_eq,appQ_eq,newQ_eq,fN_eq] at h
    have h:appQ H [mkBlk .grow (List.take (len*n) (List.drop off bcs)++vs)] (fun H'=>KH (.sl H.length (List.take (len*n) (List.drop off bcs)++vs).length 0 (len+(m+1)) n) H')=true:=h
    rw[appQ_eq] at h
    have hl:(List.take (len*n) (List.drop off bcs)++vs).length=len*n+vs.length:=by
     have:=bdec g2
     have:=bdec g5
     simp only[List.length_append,List.length_take,List.length_drop]
     simp only at this
     omega
    rw[hl] at h
    simp only[e3]
    exact hK _ _ h
   | grow=>
    have h:ifB (Nat.beq off 0) (appQ bcs vs fun cs'=>fN (tot+lenQ vs) fun tt=>fN (len+(m+1)) fun lm=>fB (blf&&oldL 0 vs) fun lf'=>setQ ⟨.grow,lf',cs'⟩ H id fun H'=>KH (.sl id tt 0 lm n) H')=true:=h
    obtain ⟨g6,h⟩:=ifB_t h
    rw[appQ_eq,fN_eq,fN_eq,fB_eq,setQ_eq,lenQ_eq] at h
    have e4:growB H id vs=H.set id ⟨.grow,blf&&oldL 0 vs,bcs++vs⟩:=by unfold growB;rw[hb']
    simp only[g6,cond_true,e4]
    exact hK _ _ h
  ·obtain ⟨g1,h⟩:=ifB_t h
   obtain ⟨g2,h⟩:=ifB_t h
   obtain ⟨g3,h⟩:=ifB_t h
   rw[newQ_eq] at h
   have h:appQ H [mkBlk .grow vs] (fun H'=>KH (.sl H.length vs.length 0 (m+1) n) H')=true:=h
   rw[appQ_eq] at h
   have hx:evT tm x=.nils:=by
    rw[evQ_eq] at g1
    cases hv:evT tm x<;>rw[hv] at g1<;>first | rfl | cases g1
   simp only[hx,g2,g3,Bool.and_self,cond_true]
   exact hK _ _ h
noncomputable def cpyQ (n:Nat) (x y:AO):Bool:=srcQ H n none (evQ tm y) fun m vs=>ifB (oneL vs) (asSl (evQ tm x) (fun id tot off len sz=>ifB (Nat.beq sz n) (ifB (Nat.ble (off+len*n) tot) (optB (getQ H id) fun b=>blkB b fun k lf cs=>ifB (ncQ k lf cs tot) (ifB (roQ k)
 (fN (min m len) fun c=>takeQ vs (c*n) fun vs'=>setRQ vs' cs off fun cs'=>fB (lf&&oldL 0 vs') fun lf'=>setQ ⟨k,lf',cs'⟩ H id fun H'=>KH (.int .i64 (.ofNat c)) H'))))) (ifB (isNils (evQ tm x)) (KH (.int .i64 0) H)))
theorem cpyQ_ok {n x y} (h:cpyQ tm H KH n x y=true):HopOkQ (evT tm) H (.copy n x y) KH:=by
 intro E k K _ hK
 obtain ⟨m,vs,hs,_,h⟩:=srcQ_t H h
 have hs:src H n (evQ tm y)=some (true,m,vs):=hs
 rw[evQ_eq] at hs
 obtain ⟨h1,h⟩:=ifB_t h
 simp only[hop,hs,ck,h1,Bool.and_self,cond_true]
 rcases asSl_t h with ⟨id,tot,off,len,sz,hv,h⟩ | h
 ·obtain ⟨g1,h⟩:=ifB_t h
  obtain ⟨g2,h⟩:=ifB_t h
  obtain ⟨b,hb,h⟩:=optB_t h
  rw[getQ_eq] at hb
  obtain ⟨g3,h⟩:=ifB_t h
  obtain ⟨g4,h⟩:=ifB_t h
  rw[ncQ_eq] at g3
  rw[roQ_eq] at g4
  rw[fN_eq,takeQ_eq,setRQ_eq,fB_eq,setQ_eq] at h
  have e1:cur H id tot=true:=by unfold cur;rw[hb];exact g3
  have e2:kindAt H id=b.k:=by unfold kindAt;rw[hb]
  have e3:setB H id off (vs.take (min m len*n))=H.set id ⟨b.k,b.lf&&oldL 0 (vs.take (min m len*n)),setRange b.cs off (vs.take (min m len*n))⟩:=by unfold setB;rw[hb]
  simp only[evT_of hv,e1,e2,e3,g1,g2,g4,Bool.and_self,cond_true]
  exact hK _ _ h
 ·obtain ⟨g1,h⟩:=ifB_t h
  have hx:evT tm x=.nils:=by
   rw[evQ_eq] at g1
   cases hv:evT tm x<;>rw[hv] at g1<;>first | rfl | cases g1
  simp only[hx]
  exact hK _ _ h
end

abbrev OT:=GL→T→List Blk→KLt→KHt→(AO→List AO→Bool)→Bool
noncomputable def opQ (op:AOp):OT:=AOp.rec (motive:=fun _=>OT)
 (fun x _ tm _ KL _ _=>mvQ tm KL x)
 (fun c a b gl tm H KL _ _=>pickQ gl tm H KL c a b)
 (fun x _ tm H KL _ _=>boxQ tm H KL x)
 (fun z ps _ tm _ KL _ _=>buildQ tm KL z ps)
 (fun z size n ps _ tm H KL _ _=>bslQ tm H KL z size n ps)
 (fun agg n a gl tm H KL _ _=>ldQ gl tm H KL agg n a)
 (fun n a x _ tm H _ KH _=>stQ tm H KH n a x)
 (fun x gl tm H KL _ _=>genQ gl tm H (.nilck x) KL)
 (fun op sh x y gl tm H KL _ _=>binQ op gl tm H KL sh x y)
 (fun op x gl tm H KL _ _=>unQ gl tm H KL op x)
 (fun k x gl tm H KL _ _=>convQ gl tm H KL k x)
 (fun x _ tm H _ KH _=>markQ tm H KH x)
 (fun t x gl tm H KL _ _=>genQ gl tm H (.mkif t x) KL)
 (fun f a b gl tm H KL _ _=>genQ gl tm H (.mkfn f a b) KL)
 (fun z size bytes same l c gl tm H KL _ _=>genQ gl tm H (.mksl z size bytes same l c) KL)
 (fun x lo hi gl tm H KL _ _=>slSQ gl tm H KL x lo hi)
 (fun n x lo hi gl tm H KL _ _=>slLQ gl tm H KL n x lo hi)
 (fun k n x lo hi gl tm H KL _ _=>genQ gl tm H (.slA k n x lo hi) KL)
 (fun o x gl tm H KL _ _=>faQ gl tm H KL o x)
 (fun p x gl tm H KL _ _=>fldQ gl tm H KL p x)
 (fun k n x i gl tm H KL _ _=>iaAQ gl tm H KL k n x i)
 (fun n x i gl tm H KL _ _=>iaLQ gl tm H KL n x i)
 (fun k p x i gl tm H KL _ _=>ixAQ gl tm H KL k p x i)
 (fun x i gl tm H KL _ _=>ixSQ gl tm H KL x i)
 (fun x i gl tm H KL _ _=>extQ gl tm H KL x i)
 (fun f args _ _ _ _ _ KC=>KC f args)
 (fun x gl tm H KL _ _=>lenSQ gl tm H KL x)
 (fun x gl tm H KL _ _=>lenLQ gl tm H KL x)
 (fun n _ _ _ KL _ _=>KL (.int .i64 (.ofNat n)) none [])
 (fun n bytes zs x y _ tm H _ KH _=>aptQ tm H KH n bytes zs x y)
 (fun n x y _ tm H _ KH _=>cpyQ tm H KH n x y)
 (fun n x gl tm H KL _ _=>genQ gl tm H (.s2a n x) KL)
 (fun _ _ _ _ _ _=>false)
 (fun st x i z gl tm H KL _ _=>genQ gl tm H (.mpget st x i z) KL)
 (fun _ _ _ _ _ _ _ _ _ _=>false)
 (fun xs gl tm H KL _ _=>genQ gl tm H (.mx xs) KL)
 (fun xs gl tm H KL _ _=>genQ gl tm H (.mn xs) KL)
 (fun _ _ _ _ _ _ _=>false) op

def OpOkQ (gl:GL) (ev:AO→AV) (H:List Blk) (KL:KLt) (KH:KHt) (KC:AO→List AO→Bool) (op:AOp):Prop:=
 (∃f args,op=.call f args∧KC f args=true)∨((∀f args,op≠.call f args)∧((∃r,lop gl ev (cur H) (cellsAt H) H.length op=some r∧r.pre=true∧KL r.v r.nb r.rd=true)∨(lop gl ev (cur H) (cellsAt H) H.length op=none∧HopOkQ ev H op KH)))
theorem lopB_t {gl:GL} {ev:AO→AV} {H:List Blk} {op:AOp} {KL:KLt} (h:lopB gl ev H op KL=true):∃r,lop gl ev (cur H) (cellsAt H) H.length op=some r∧r.pre=true∧KL r.v r.nb r.rd=true:=by
 unfold lopB at h
 split at h
 ·rename_i r hr
  refine ⟨r,hr, ?_⟩
  cases hp:r.pre<;>rw[hp] at h
  ·cases h
  ·exact ⟨rfl,h⟩
 ·cases h
theorem opQ_ok {gl tm H KL KH KC} {op:AOp} (h:opQ op gl tm H KL KH KC=true):OpOkQ gl (evT tm) H KL KH KC op:=by
 cases op with
 | call f args=>exact .inl ⟨f,args,rfl,h⟩
 | st n a x=>exact .inr ⟨by intros;simp,.inr ⟨rfl,stQ_ok tm H KH h⟩⟩
 | mark x=>exact .inr ⟨by intros;simp,.inr ⟨rfl,markQ_ok tm H KH h⟩⟩
 | app n bytes zs x y=>exact .inr ⟨by intros;simp,.inr ⟨rfl,aptQ_ok tm H KH h⟩⟩
 | copy n x y=>exact .inr ⟨by intros;simp,.inr ⟨rfl,cpyQ_ok tm H KH h⟩⟩
 | bad w=>cases h
 | mv x=>exact .inr ⟨by intros;simp,.inl (lopB_t ((mvQ_eq gl tm H KL x).symm.trans h))⟩
 | pick c a b=>exact .inr ⟨by intros;simp,.inl (lopB_t ((pickQ_eq gl tm H KL c a b).symm.trans h))⟩
 | box x=>exact .inr ⟨by intros;simp,.inl (lopB_t ((boxQ_eq gl tm H KL x).symm.trans h))⟩
 | build z ps=>exact .inr ⟨by intros;simp,.inl (lopB_t ((buildQ_eq gl tm H KL z ps).symm.trans h))⟩
 | bsl z s n ps=>exact .inr ⟨by intros;simp,.inl (lopB_t ((bslQ_eq gl tm H KL z s n ps).symm.trans h))⟩
 | ld agg n a=>exact .inr ⟨by intros;simp,.inl (lopB_t ((ldQ_eq gl tm H KL agg n a).symm.trans h))⟩
 | bin op sh x y=>exact .inr ⟨by intros;simp,.inl (lopB_t ((binQ_eq op gl tm H KL sh x y).symm.trans h))⟩
 | un op x=>exact .inr ⟨by intros;simp,.inl (lopB_t ((unQ_eq gl tm H KL op x).symm.trans h))⟩
 | conv k x=>exact .inr ⟨by intros;simp,.inl (lopB_t ((convQ_eq gl tm H KL k x).symm.trans h))⟩
 | slS x lo hi=>exact .inr ⟨by intros;simp,.inl (lopB_t ((slSQ_eq gl tm H KL x lo hi).symm.trans h))⟩
 | slL n x lo hi=>exact .inr ⟨by intros;simp,.inl (lopB_t ((slLQ_eq gl tm H KL n x lo hi).symm.trans h))⟩
 | fa o x=>exact .inr ⟨by intros;simp,.inl (lopB_t ((faQ_eq gl tm H KL o x).symm.trans h))⟩
 | fld p x=>exact .inr ⟨by intros;simp,.inl (lopB_t ((fldQ_eq gl tm H KL p x).symm.trans h))⟩
 | iaA k n x i=>exact .inr ⟨by intros;simp,.inl (lopB_t ((iaAQ_eq gl tm H KL k n x i).symm.trans h))⟩
 | iaL n x i=>exact .inr ⟨by intros;simp,.inl (lopB_t ((iaLQ_eq gl tm H KL n x i).symm.trans h))⟩
 | ixA k p x i=>exact .inr ⟨by intros;simp,.inl (lopB_t ((ixAQ_eq gl tm H KL k p x i).symm.trans h))⟩
 | ixS x i=>exact .inr ⟨by intros;simp,.inl (lopB_t ((ixSQ_eq gl tm H KL x i).symm.trans h))⟩
 | ext x i=>exact .inr ⟨by intros;simp,.inl (lopB_t ((extQ_eq gl tm H KL x i).symm.trans h))⟩
 | lenS x=>exact .inr ⟨by intros;simp,.inl (lopB_t ((lenSQ_eq gl tm H KL x).symm.trans h))⟩
 | lenL x=>exact .inr ⟨by intros;simp,.inl (lopB_t ((lenLQ_eq gl tm H KL x).symm.trans h))⟩
 | lenA n=>exact .inr ⟨by intros;simp,.inl ⟨_,rfl,rfl,h⟩⟩
 | nilck x=>exact .inr ⟨by intros;simp,.inl (lopB_t ((genQ_eq gl tm H _ KL).symm.trans h))⟩
 | mkif t x=>exact .inr ⟨by intros;simp,.inl (lopB_t ((genQ_eq gl tm H _ KL).symm.trans h))⟩
 | mkfn f a b=>exact .inr ⟨by intros;simp,.inl (lopB_t ((genQ_eq gl tm H _ KL).symm.trans h))⟩
 | mksl z s b t l c=>exact .inr ⟨by intros;simp,.inl (lopB_t ((genQ_eq gl tm H _ KL).symm.trans h))⟩
 | slA k n x lo hi=>exact .inr ⟨by intros;simp,.inl (lopB_t ((genQ_eq gl tm H _ KL).symm.trans h))⟩
 | s2a n x=>exact .inr ⟨by intros;simp,.inl (lopB_t ((genQ_eq gl tm H _ KL).symm.trans h))⟩
 | mkmp=>cases h
 | mpget st x i z=>exact .inr ⟨by intros;simp,.inl (lopB_t ((genQ_eq gl tm H _ KL).symm.trans h))⟩
 | mpput st x i v=>cases h
 | mx xs=>exact .inr ⟨by intros;simp,.inl (lopB_t ((genQ_eq gl tm H _ KL).symm.trans h))⟩
 | mn xs=>exact .inr ⟨by intros;simp,.inl (lopB_t ((genQ_eq gl tm H _ KL).symm.trans h))⟩
end Go.Proofs.YtjenieljapmehaaGreatDoor

set_option linter.unusedSimpArgs false
set_option linter.unusedVariables false
namespace Go.Proofs.YtjenieljapmehaaGreatDoor
open Go.RowKit

theorem evu_mem {tm:T} {l:List AO} {x:AO} (h:x∈l):evu (slots l) tm x=evT tm x:=by
 cases x with
 | c v=>rfl
 | t n=>
  have:(slots l).contains n=true:=by
   rw[List.contains_iff_mem]
   exact List.mem_filterMap.2 ⟨.t n,h,rfl⟩
  show (bif (slots l).contains n then tm.get n else .undef)=tm.get n
  rw[this];rfl
theorem fillP_congr {ev ev':AO→AV}:∀ (ps:List (Nat×Nat×AO)) (cs:List AV),(∀p∈ps,ev p.2.2=ev' p.2.2)→fillP ev cs ps=fillP ev' cs ps
 | [],_,_=>rfl
 | (o,n,x)::ps,cs,h=>by
  rw[fillP,fillP,h (o,n,x) (by simp)]
  cases cellsO (ev' x) with
  | none=>rfl
  | some v=>simp only[];rw[fillP_congr ps _ fun p hp=>h p (by simp[hp])]
theorem bnd_congr {ev ev':AO→AV} (o:Option AO) (d:Nat) (h:∀x,o=some x→ev x=ev' x):bnd ev o d=bnd ev' o d:=by
 cases o with
 | none=>rfl
 | some x=>show asNat (ev x)=asNat (ev' x);rw[h x rfl]
theorem lop_evu (gl:GL) (tm:T) (cu:Nat→Nat→Bool) (ca:Nat→Nat→Nat→List AV) (nid:Nat) (op:AOp):lop gl (evu (usesOp op) tm) cu ca nid op=lop gl (evT tm) cu ca nid op:=by
 cases op with
 | mv x=>simp only[lop,usesOp,evu_mem (l:=[x]) (x:=x) (by simp)]
 | pick c a b=>simp only[lop,usesOp,evu_mem (l:=[c,a,b]) (x:=c) (by simp),evu_mem (l:=[c,a,b]) (x:=a) (by simp),evu_mem (l:=[c,a,b]) (x:=b) (by simp)]
 | box x=>simp only[lop,usesOp,evu_mem (l:=[x]) (x:=x) (by simp)]
 | build z ps=>simp only[lop,usesOp];rw[fillP_congr ps z fun p hp=>evu_mem (by exact List.mem_map.2 ⟨p,hp,rfl⟩)]
 | bsl z s n ps=>simp only[lop,usesOp];rw[fillP_congr ps z fun p hp=>evu_mem (by exact List.mem_map.2 ⟨p,hp,rfl⟩)]
 | ld agg n a=>simp only[lop,usesOp,evu_mem (l:=[a]) (x:=a) (by simp)]
 | st n a x=>rfl
 | nilck x=>simp only[lop,usesOp,evu_mem (l:=[x]) (x:=x) (by simp)]
 | bin op sh x y=>simp only[lop,usesOp,evu_mem (l:=[x,y]) (x:=x) (by simp),evu_mem (l:=[x,y]) (x:=y) (by simp)]
 | un op x=>simp only[lop,usesOp,evu_mem (l:=[x]) (x:=x) (by simp)]
 | conv k x=>simp only[lop,usesOp,evu_mem (l:=[x]) (x:=x) (by simp)]
 | mark x=>rfl
 | mkif t x=>simp only[lop,usesOp,evu_mem (l:=[x]) (x:=x) (by simp)]
 | mkfn f a b=>
  simp only[lop,usesOp]
  rw[List.map_congr_left (l:=a) (g:=evT tm) fun x hx=>evu_mem (by simp[hx]),List.map_congr_left (l:=b) (g:=evT tm) fun x hx=>evu_mem (by simp[hx])]
 | mksl z s b t l c=>simp only[lop,usesOp,evu_mem (l:=[l,c]) (x:=l) (by simp),evu_mem (l:=[l,c]) (x:=c) (by simp)]
 | slS x lo hi=>
  simp only[lop,usesOp,evu_mem (l:=x::(optL lo++optL hi)) (x:=x) (by simp)]
  cases evT tm x with
  | str b=>simp only[];rw[bnd_congr lo 0 fun y hy=>evu_mem (by subst hy;simp[optL]),bnd_congr hi b.length fun y hy=>evu_mem (by subst hy;simp[optL])]
  | _=>rfl
 | slL n x lo hi=>
  simp only[lop,usesOp,evu_mem (l:=x::(optL lo++optL hi)) (x:=x) (by simp)]
  cases evT tm x with
  | nils=>simp only[];rw[bnd_congr lo 0 fun y hy=>evu_mem (by subst hy;simp[optL]),bnd_congr hi 0 fun y hy=>evu_mem (by subst hy;simp[optL])]
  | sl a b c d e=>simp only[];rw[bnd_congr lo 0 fun y hy=>evu_mem (by subst hy;simp[optL]),bnd_congr hi d fun y hy=>evu_mem (by subst hy;simp[optL])]
  | lst a b c d=>simp only[];rw[bnd_congr lo 0 fun y hy=>evu_mem (by subst hy;simp[optL]),bnd_congr hi c fun y hy=>evu_mem (by subst hy;simp[optL])]
  | _=>rfl
 | slA k n x lo hi=>
  simp only[lop,usesOp,evu_mem (l:=x::(optL lo++optL hi)) (x:=x) (by simp)]
  cases evT tm x with
  | ptr a b c=>simp only[];rw[bnd_congr lo 0 fun y hy=>evu_mem (by subst hy;simp[optL]),bnd_congr hi k fun y hy=>evu_mem (by subst hy;simp[optL])]
  | _=>rfl
 | fa o x=>simp only[lop,usesOp,evu_mem (l:=[x]) (x:=x) (by simp)]
 | fld p x=>simp only[lop,usesOp,evu_mem (l:=[x]) (x:=x) (by simp)]
 | iaA k n x i=>simp only[lop,usesOp,evu_mem (l:=[x,i]) (x:=x) (by simp),evu_mem (l:=[x,i]) (x:=i) (by simp)]
 | iaL n x i=>simp only[lop,usesOp,evu_mem (l:=[x,i]) (x:=x) (by simp),evu_mem (l:=[x,i]) (x:=i) (by simp)]
 | ixA k p x i=>simp only[lop,usesOp,evu_mem (l:=[x,i]) (x:=x) (by simp),evu_mem (l:=[x,i]) (x:=i) (by simp)]
 | ixS x i=>simp only[lop,usesOp,evu_mem (l:=[x,i]) (x:=x) (by simp),evu_mem (l:=[x,i]) (x:=i) (by simp)]
 | ext x i=>simp only[lop,usesOp,evu_mem (l:=[x]) (x:=x) (by simp)]
 | call f args=>rfl
 | lenS x=>simp only[lop,usesOp,evu_mem (l:=[x]) (x:=x) (by simp)]
 | lenL x=>simp only[lop,usesOp,evu_mem (l:=[x]) (x:=x) (by simp)]
 | lenA n=>rfl
 | app n bytes zs x y=>rfl
 | copy n x y=>rfl
 | s2a n x=>simp only[lop,usesOp,evu_mem (l:=[x]) (x:=x) (by simp)]
 | mkmp=>rfl
 | mpget st x i z=>simp only[lop,usesOp,evu_mem (l:=[x,i]) (x:=x) (by simp),evu_mem (l:=[x,i]) (x:=i) (by simp)]
 | mpput st x i v=>rfl
 | mx xs=>simp only[lop,usesOp];rw[List.map_congr_left (l:=xs) (g:=evT tm) fun x hx=>evu_mem hx]
 | mn xs=>simp only[lop,usesOp];rw[List.map_congr_left (l:=xs) (g:=evT tm) fun x hx=>evu_mem hx]
 | bad w=>rfl
theorem hop_evu (E:Env) (tm:T) (H:List Blk) (k:Nat) (op:AOp) (K:AV→List Blk→Prop):hop E (evu (usesOp op) tm) H k op K=hop E (evT tm) H k op K:=by
 cases op<;>try rfl
 ·rename_i n a x
  simp only[hop,usesOp,evu_mem (l:=[a,x]) (x:=a) (by simp),evu_mem (l:=[a,x]) (x:=x) (by simp)]
 ·rename_i x
  simp only[hop,usesOp,evu_mem (l:=[x]) (x:=x) (by simp)]
 ·rename_i n bytes zs x y
  simp only[hop,usesOp,evu_mem (l:=[x,y]) (x:=x) (by simp),evu_mem (l:=[x,y]) (x:=y) (by simp)]
 ·rename_i n x y
  simp only[hop,usesOp,evu_mem (l:=[x,y]) (x:=x) (by simp),evu_mem (l:=[x,y]) (x:=y) (by simp)]
 ·rename_i st x i v
  simp only[hop,usesOp,evu_mem (l:=[x,i,v]) (x:=x) (by simp),evu_mem (l:=[x,i,v]) (x:=i) (by simp),evu_mem (l:=[x,i,v]) (x:=v) (by simp)]

structure QE where
 fn:Nat→Option AFn
 sm:Nat→Option (List AV→List Blk→Option (Out×List Blk)):=fun _=>none
 gl:GL:=fun _=>none
abbrev KQ:=Ex→S→Gh→Bool
abbrev RecQ:=AC→S→Gh→KQ→Bool
abbrev KO:=Out→List Blk→Gh→Bool

noncomputable def putD (v:AV) (tm:T) (K:T→Bool) (d:Nat):Bool:=T.putQ v 12 tm d K
noncomputable def putO (dst:Option Nat) (v:AV) (tm:T) (K:T→Bool):Bool:=Option.rec (motive:=fun _=>Bool) (K tm) (putD v tm K) dst
noncomputable def evAllQ (tm:T) (args:List AO):(List AV→Bool)→Bool:=List.rec (motive:=fun _=>(List AV→Bool)→Bool) (fun K=>K []) (fun x _ ih K=>fv (evQ tm x) fun v=>ih fun l=>K (v::l)) args
noncomputable def mkArgsQ (args:List AV):Nat→T→(T→Bool)→Bool:=List.rec (motive:=fun _=>Nat→T→(T→Bool)→Bool) (fun _ t K=>K t) (fun v _ ih i t K=>T.putQ v 12 t i fun t=>ih (Nat.succ i) t K) args
noncomputable def readResQ (tm:T) (H:List Blk) (res:List ARes):(List AV→Bool)→Bool:=List.rec (motive:=fun _=>(List AV→Bool)→Bool) (fun K=>K [])
 (fun r _ ih K=>ARes.rec (motive:=fun _=>Bool) (fun t=>fv (tm.getQ t) fun v=>ih fun l=>K (v::l))
  (fun a agg n=>asPtr (tm.getQ a) (fun id tot off=>optB (getQ H id) fun b=>blkB b fun k lf cs=>ifB (ncQ k lf cs tot) (ifB (Nat.ble (off+(bif agg then n else 1)) tot)
   (Bool.rec (motive:=fun _=>Bool) (optB (getQ cs off) fun v=>ih fun l=>K (v::l)) (dropQ cs off fun r=>takeQ r n fun c=>ih fun l=>K (.agg c::l)) agg))) false) r) res
noncomputable def tupQ (l:List AV) (K:AV→Bool):Bool:=List.rec (motive:=fun _=>Bool) (K (.tup [])) (fun v t _=>List.rec (motive:=fun _=>Bool) (fv v K) (fun _ _ _=>K (.tup l)) t) l
noncomputable def oldHQ (b:Nat) (H:List Blk):Bool:=List.rec (motive:=fun _=>Bool) true (fun x _ ih=>Bool.rec (motive:=fun _=>Bool) false ih (Blk.rec (motive:=fun _=>Bool) (fun _ lf cs=>Bool.rec (motive:=fun _=>Bool) (oldL b cs) true lf) x)) H
noncomputable def leaveQ (base:Nat) (v:AV) (H:List Blk) (K:List Blk→Bool):Bool:=takeQ H base fun H'=>Bool.rec (motive:=fun _=>Bool) (K H) (Bool.rec (motive:=fun _=>Bool) (K H) (K H') (oldHQ base H')) (old base v)
noncomputable def atQ (g:Gh) (f:Nat) (K:Gh→Bool):Bool:=Gh.rec (motive:=fun _=>Bool) (fun _ n lps=>K ⟨f,n,lps⟩) g
noncomputable def doneQ (res:List ARes) (base k:Nat) (Q:KO) (e:Ex) (s:S) (g:Gh):Bool:=S.rec (motive:=fun _=>Bool) (fun tm H=>Ex.rec (motive:=fun _=>Bool)
 (readResQ tm H res fun vs=>tupQ vs fun v=>leaveQ base v H fun H'=>atQ g k fun g=>Q (.ret v) H' g) (fun _=>false)
 (readResQ tm H res fun vs=>tupQ vs fun v=>leaveQ base v H fun H'=>atQ g k fun g=>Q (.ret v) H' g)
 (fun v=>leaveQ base v H fun H'=>atQ g k fun g=>Q (.pan v) H' g) e) s
noncomputable def fO (o:Out) (K:Out→Bool):Bool:=match o with
 | .ret v=>fD v fun v=>K (.ret v)
 | .pan v=>K (.pan v)
theorem fO_eq (o:Out) (K:Out→Bool):fO o K=K o:=by
 cases o with
 | ret v=>exact fD_eq v _
 | pan v=>rfl
noncomputable def smQ (o:Option (Out×List Blk)) (Q:KO) (g:Gh):Bool:=match o with
 | some (o,H)=>fO o fun o=>Q o H g
 | none=>false
noncomputable def callxQ (q:QE) (rec:RecQ) (f:Nat) (args:List AV) (H:List Blk) (g:Gh) (Q:KO):Bool:=
 Option.rec (motive:=fun _=>Bool) (optB (q.fn f) fun c=>AFn.rec (motive:=fun _=>Bool) (fun res body=>ifB (Nat.ble (lenQ args) 4000) (mkArgsQ args 0 .e fun tm=>fN (lenQ H) fun n=>atQ g f fun g'=>rec body ⟨tm,H⟩ g' (doneQ res n g.f Q))) c)
  (fun c=>smQ (c args H) Q g) (q.sm f)
noncomputable def setLpQ (u:Nat) (st:Lst) (l:List Lp):(List Lp→Bool)→Bool:=List.rec (motive:=fun _=>(List Lp→Bool)→Bool) (fun K=>K [])
 (fun p t ih K=>Lp.rec (motive:=fun _=>Bool) (fun u' tm ps asg body st' f=>Bool.rec (motive:=fun _=>Bool) (ih fun l=>K (⟨u',tm,ps,asg,body,st',f⟩::l)) (K (⟨u',tm,ps,asg,body,st,f⟩::t)) (Nat.beq u' u)) p) l
noncomputable def ghSet (g:Gh) (f:Nat) (u:Nat) (st:Lst) (K:Gh→Bool):Bool:=Gh.rec (motive:=fun _=>Bool) (fun _ n lps=>setLpQ u st lps fun lps=>K ⟨f,n,lps⟩) g
noncomputable def yieldxQ (rec:RecQ) (u:Nat) (args:List AV) (H:List Blk) (g:Gh) (Q:KO):Bool:=optB (findLp u g.lps) fun p=>ifB (Nat.beq (lenQ args) (lenQ p.ps)) (ifB (g.isReady u)
 (atQ g p.f fun g0=>rec p.asg ⟨putAll p.tm p.ps args,H⟩ g0 fun e s g1=>Ex.rec (motive:=fun _=>Bool)
  (ifB (g1.isReady u) (ghSet g1 g1.f u .busy fun g2=>rec p.body s g2 fun e s g2=>Ex.rec (motive:=fun _=>Bool)
   (ghSet g2 g.f u .ready fun g3=>Q (.ret (.bool true)) s.hp g3) (fun i=>ghSet g2 g.f u (.done (.exit i)) fun g3=>Q (.ret (.bool false)) s.hp g3)
   (ghSet g2 g.f u (.done .ret) fun g3=>Q (.ret (.bool false)) s.hp g3) (fun _=>false) e))
  (fun _=>false) false (fun _=>false) e))
noncomputable def fnQ (f:Fn) (K:Nat→Bool):Bool:=Fn.rec (motive:=fun _=>Bool) K (fun _=>false) (fun _ _=>false) (fun _ _ _ _=>false) (fun _=>false) f
noncomputable def asCallQ (v:AV):(Fn→List AV→List AV→Bool)→(Nat→Bool)→Bool:=AV.rec (motive_1:=fun _=>(Fn→List AV→List AV→Bool)→(Nat→Bool)→Bool) (motive_2:=fun _=>Unit) (fun K Y=>false)
 (fun _ K Y=>false)
 (fun _ K Y=>false)
 (fun _ _ K Y=>false)
 (fun _ K Y=>false)
 (fun K Y=>false)
 (fun _ _ _ K Y=>false)
 (fun _ _ K Y=>false)
 (fun K Y=>false)
 (fun _ _ _ _ _ K Y=>false)
 (fun K Y=>false)
 (fun f x y _ _ K Y=>K f x y)
 (fun u K Y=>Y u)
 (fun K Y=>false)
 (fun _ _ _ K Y=>false)
 (fun _ _ K Y=>false)
 (fun _ _ K Y=>false)
 (fun _ _ _ _ _ K Y=>false)
 (fun _ _ _ _ K Y=>false)
 (fun K Y=>false)
 (fun _ K Y=>false) () (fun _ _ _ _=>()) v
noncomputable def callvQ (q:QE) (rec:RecQ) (v:AV) (args:List AV) (H:List Blk) (g:Gh) (Q:KO):Bool:=asCallQ v (fun f fst cap=>fnQ f fun f=>appQ fst args fun a=>appQ a cap fun a=>callxQ q rec f a H g Q) (fun u=>yieldxQ rec u args H g Q)
noncomputable def gdS (tm:T) (yes no:Bool) (p:Nat×Bool):Bool:=Prod.rec (motive:=fun _=>Bool) (fun j b=>asBool (tm.getQ j) (fun x=>Bool.rec (motive:=fun _=>Bool) (Bool.rec (motive:=fun _=>Bool) yes no x) (Bool.rec (motive:=fun _=>Bool) no yes x) b)
 (asTup (tm.getQ j) (fun l=>List.rec (motive:=fun _=>Bool) no (fun _ _ _=>false) l) false)) p
noncomputable def gdQ (tm:T) (g:Option (Nat×Bool)) (yes no:Bool):Bool:=Option.rec (motive:=fun _=>Bool) yes (gdS tm yes no) g
abbrev IhR:=T→List Blk→Gh→KQ→Bool
noncomputable def rPutC (ih:IhR) (tm:T) (k:Gh) (Q:KQ) (H:List Blk):Bool:=ih tm H k Q
noncomputable def rPutB (ih:IhR) (tm:T) (H:List Blk) (k:Gh) (Q:KQ) (b:Blk):Bool:=appQ H [b] (rPutC ih tm k Q)
noncomputable def rPut (ih:IhR) (H:List Blk) (k:Gh) (Q:KQ) (nb:Option Blk) (tm:T):Bool:=Option.rec (motive:=fun _=>Bool) (ih tm H k Q) (rPutB ih tm H k Q) nb
noncomputable def rKL (ih:IhR) (dst:Option Nat) (tm:T) (H:List Blk) (k:Gh) (Q:KQ) (v:AV) (nb:Option Blk) (_:List Rdc):Bool:=putO dst v tm (rPut ih H k Q nb)
noncomputable def rPutT (ih:IhR) (H:List Blk) (k:Gh) (Q:KQ) (tm:T):Bool:=ih tm H k Q
noncomputable def rKH (ih:IhR) (dst:Option Nat) (tm:T) (k:Gh) (Q:KQ) (v:AV) (H:List Blk):Bool:=putO dst v tm (rPutT ih H k Q)
noncomputable def rRet (ih:IhR) (dst:Option Nat) (tm:T) (H:List Blk) (k:Gh) (Q:KQ) (v:AV):Bool:=putO dst v tm (rPutT ih H k Q)
noncomputable def rOut (ih:IhR) (dst:Option Nat) (tm:T) (Q:KQ) (o:Out) (H:List Blk) (k:Gh):Bool:=Out.rec (motive:=fun _=>Bool) (rRet ih dst tm H k Q) (fun v=>Q (.pan v) ⟨tm,H⟩ k) o
noncomputable def rCall (q:QE) (rec:RecQ) (f:AV) (H:List Blk) (k:Gh) (K:KO) (args:List AV):Bool:=callvQ q rec f args H k K
noncomputable def rKC (q:QE) (rec:RecQ) (ih:IhR) (dst:Option Nat) (tm:T) (H:List Blk) (k:Gh) (Q:KQ) (f:AO) (args:List AO):Bool:=evAllQ tm args (rCall q rec (evQ tm f) H k (rOut ih dst tm Q))
noncomputable def rRun (q:QE) (rec:RecQ) (ih:IhR) (dst:Option Nat) (op:AOp) (tm:T) (H:List Blk) (k:Gh) (Q:KQ):Bool:=opQ op q.gl tm H (rKL ih dst tm H k Q) (rKH ih dst tm k Q) (rKC q rec ih dst tm H k Q)
noncomputable def rOne (q:QE) (rec:RecQ) (ih:IhR) (tm:T) (H:List Blk) (k:Gh) (Q:KQ) (dst:Option Nat) (op:AOp) (guard:Option (Nat×Bool)) (_ _:Nat):Bool:=gdQ tm guard (rRun q rec ih dst op tm H k Q) (putO dst (.tup []) tm (rPutT ih H k Q))
noncomputable def rOpsQ (q:QE) (rec:RecQ) (ops:List AOper):T→List Blk→Gh→KQ→Bool:=List.rec (motive:=fun _=>T→List Blk→Gh→KQ→Bool) (fun tm H k Q=>Q .nrm ⟨tm,H⟩ k)
 (fun o _ ih tm H k Q=>AOper.rec (motive:=fun _=>Bool) (rOne q rec ih tm H k Q) o) ops
noncomputable def flQ (H H':List Blk) (bf:Nat) (l:List Fl):Bool:=List.rec (motive:=fun _=>Bool) true
 (fun x _ ih=>Fl.rec (motive:=fun _=>Bool) (fun ix r=>Bool.rec (motive:=fun _=>Bool) (Bool.rec (motive:=fun _=>Bool) false ih (eqAVL (cellsAt H r.id r.off r.size) (cellsAt H' r.id r.off r.size)&&(lenAt H r.id==lenAt H' r.id))) ih (Nat.testBit bf ix))
  (fun ix id=>Bool.rec (motive:=fun _=>Bool) (Bool.rec (motive:=fun _=>Bool) false ih (eqBlk H[id]? H'[id]?)) ih (Nat.testBit bf ix)) x) l
abbrev IhD:=T→List Blk→Gh→List Fl→KQ→Bool
noncomputable def dPutC (ih:IhD) (tm:T) (k:Gh) (fl:List Fl) (Q:KQ) (H:List Blk):Bool:=ih tm H k fl Q
noncomputable def dPutB (ih:IhD) (tm:T) (H:List Blk) (k:Gh) (ix:Nat) (rd:List Rdc) (fl:List Fl) (Q:KQ) (b:Blk):Bool:=appQ H [b] (dPutC ih tm k (rd.map (Fl.rd ix)++[Fl.nb ix (lenQ H)]++fl) Q)
noncomputable def dPut (ih:IhD) (H:List Blk) (k:Gh) (ix:Nat) (rd:List Rdc) (fl:List Fl) (Q:KQ) (nb:Option Blk) (tm:T):Bool:=Option.rec (motive:=fun _=>Bool) (ih tm H k (rd.map (Fl.rd ix)++fl) Q) (dPutB ih tm H k ix rd fl Q) nb
noncomputable def dKL (ih:IhD) (dst:Option Nat) (tm:T) (H:List Blk) (k:Gh) (ix:Nat) (fl:List Fl) (Q:KQ) (v:AV) (nb:Option Blk) (rd:List Rdc):Bool:=putO dst v tm (dPut ih H k ix rd fl Q nb)
noncomputable def dPutT (ih:IhD) (H:List Blk) (k:Gh) (fl:List Fl) (Q:KQ) (tm:T):Bool:=ih tm H k fl Q
noncomputable def dKH (ih:IhD) (dst:Option Nat) (tm:T) (H:List Blk) (k:Gh) (bf:Nat) (fl:List Fl) (Q:KQ) (v:AV) (H':List Blk):Bool:=ifB (flQ H H' bf fl) (putO dst v tm (dPutT ih H' k fl Q))
noncomputable def dOut (ih:IhD) (dst:Option Nat) (tm:T) (H:List Blk) (bf:Nat) (fl:List Fl) (Q:KQ) (o:Out) (H':List Blk) (k:Gh):Bool:=Out.rec (motive:=fun _=>Bool) (fun v=>ifB (flQ H H' bf fl) (putO dst v tm (dPutT ih H' k fl Q))) (fun v=>Q (.pan v) ⟨.e,H'⟩ k) o
noncomputable def dKC (q:QE) (rec:RecQ) (ih:IhD) (dst:Option Nat) (tm:T) (H:List Blk) (k:Gh) (bf:Nat) (fl:List Fl) (Q:KQ) (f:AO) (args:List AO):Bool:=evAllQ tm args (rCall q rec (evQ tm f) H k (dOut ih dst tm H bf fl Q))
noncomputable def dRun (q:QE) (rec:RecQ) (ih:IhD) (dst:Option Nat) (op:AOp) (ix bf:Nat) (tm:T) (H:List Blk) (k:Gh) (fl:List Fl) (Q:KQ):Bool:=opQ op q.gl tm H (dKL ih dst tm H k ix fl Q) (dKH ih dst tm H k bf fl Q) (dKC q rec ih dst tm H k bf fl Q)
noncomputable def dOne (q:QE) (rec:RecQ) (ih:IhD) (tm:T) (H:List Blk) (k:Gh) (fl:List Fl) (Q:KQ) (dst:Option Nat) (op:AOp) (guard:Option (Nat×Bool)) (ix bf:Nat):Bool:=gdQ tm guard (dRun q rec ih dst op ix bf tm H k fl Q) (putO dst (.tup []) tm (dPutT ih H k fl Q))
noncomputable def dOpsQ (q:QE) (rec:RecQ) (ops:List AOper):T→List Blk→Gh→List Fl→KQ→Bool:=List.rec (motive:=fun _=>T→List Blk→Gh→List Fl→KQ→Bool) (fun tm H k _ Q=>Q .nrm ⟨tm,H⟩ k)
 (fun o _ ih tm H k fl Q=>AOper.rec (motive:=fun _=>Bool) (dOne q rec ih tm H k fl Q) o) ops
noncomputable def oldTQ (b:Nat) (t:T):Bool:=T.rec (motive:=fun _=>Bool) true (fun _ v _ il ir=>Bool.rec (motive:=fun _=>Bool) false (Bool.rec (motive:=fun _=>Bool) false ir il) (old b v)) t
noncomputable def trimQ (lv base:Nat) (s:S) (K:S→Bool):Bool:=S.rec (motive:=fun _=>Bool) (fun tm H=>T.keepQ lv tm 1 0 fun tm=>takeQ H base fun H'=>Bool.rec (motive:=fun _=>Bool) (K ⟨tm,H⟩) (K ⟨tm,H'⟩) (oldTQ base tm&&oldHQ base H')) s
noncomputable def rfnEndQ (tm:T) (Q:KQ) (o:Out) (H:List Blk) (g:Gh):Bool:=Gh.rec (motive:=fun _=>Bool) (fun f n lps=>List.rec (motive:=fun _=>Bool) false
 (fun p l _=>Out.rec (motive:=fun _=>Bool) (fun _=>Lst.rec (motive:=fun _=>Bool) (Q .nrm ⟨tm,H⟩ ⟨f,n,l⟩) false (fun e=>Q e ⟨tm,H⟩ ⟨f,n,l⟩) p.st) (fun v=>Q (.pan v) ⟨tm,H⟩ ⟨f,n,l⟩) o) lps) g
abbrev ST:=QE→RecQ→T→List Blk→Gh→KQ→Bool
noncomputable def stepQ (c:AC):ST:=AC.rec (motive:=fun _=>ST)
 (fun _ _ tm H k Q=>Q .nrm ⟨tm,H⟩ k)
 (fun ops q rec tm H k Q=>rOpsQ q rec ops tm H k Q)
 (fun ops q rec tm H k Q=>dOpsQ q rec ops tm H k [] Q)
 (fun a b _ _ _ rec tm H k Q=>rec a ⟨tm,H⟩ k fun e s k=>Ex.rec (motive:=fun _=>Bool) (rec b s k Q) (fun i=>Q (.exit i) s k) (Q .ret s k) (fun v=>Q (.pan v) s k) e)
 (fun c a b _ _ _ rec tm H k Q=>asBool (evQ tm c) (fun t=>Bool.rec (motive:=fun _=>Bool) (rec b ⟨tm,H⟩ k Q) (rec a ⟨tm,H⟩ k Q) t) false)
 (fun id b _ _ rec tm H k Q=>rec b ⟨tm,H⟩ k fun e s k=>Ex.rec (motive:=fun _=>Bool) (Q .nrm s k) (fun i=>Bool.rec (motive:=fun _=>Bool) (Q (.exit i) s k) (Q .nrm s k) (Nat.beq i id)) (Q .ret s k) (fun v=>Q (.pan v) s k) e)
 (fun id lv b _ _ rec tm H k Q=>T.keepQ lv tm 1 0 fun tm=>fN (lenQ H) fun n=>rec b ⟨tm,H⟩ k fun e s k'=>Ex.rec (motive:=fun _=>Bool) (trimQ lv n s fun s=>rec (.loop id lv b) s k' Q) (fun i=>Q (.exit i) s k') (Q .ret s k') (fun v=>Q (.pan v) s k') e)
 (fun i _ _ tm H k Q=>Q (.exit i) ⟨tm,H⟩ k)
 (fun _ _ tm H k Q=>Q .ret ⟨tm,H⟩ k)
 (fun _ _ _ _ _ _ _=>false)
 (fun f ps asg body _ _ q rec tm H k Q=>asCallQ (evQ tm f) (fun g x y=>fnQ g fun g=>Gh.rec (motive:=fun _=>Bool) (fun kf n lps=>appQ x [.yld n] fun a=>appQ a y fun a=>fN (n+1) fun n1=>callxQ q rec g a H ⟨kf,n1,⟨n,tm,ps,asg,body,.ready,kf⟩::lps⟩ (rfnEndQ tm Q)) k) (fun _=>false))
 (fun _ _ _ _ _ _ _=>false) c
noncomputable def wpQ (q:QE) (n:Nat):RecQ:=Nat.rec (motive:=fun _=>RecQ) (fun _ _ _ _=>false) (fun _ ih c s k Q=>S.rec (motive:=fun _=>Bool) (fun tm H=>stepQ c q ih tm H k Q) s) n
end Go.Proofs.YtjenieljapmehaaGreatDoor

set_option linter.unusedSimpArgs false
set_option linter.unusedVariables false
namespace Go.Proofs.YtjenieljapmehaaGreatDoor
open Go.RowKit

structure CE (q:QE) (E:Env):Prop where
 fn:E.fn=q.fn
 gl:E.gl=q.gl
 inv:∀i,E.inv i=none
 hv:∀k,E.hv k=none
 hb:∀k,E.hb k=none
 hz:∀k,E.hz k=false
 hf:∀k,E.hf k=[]
 sm0:∀f,q.sm f=none→E.sm f=none
 sm1:∀f c,q.sm f=some c→∃g,E.sm f=some g∧∀args H o H' (K:Out→List Blk→Prop),c args H=some (o,H')→K o H'→g args H K
def RecOkQ (recQ:RecQ) (rec:Rec):Prop:=∀c s k Qb Q,(∀e s k,Qb e s k=true→Q e s k)→recQ c s k Qb=true→rec c s k Q
def ImpO (Qb:KO) (Q:Out→List Blk→Gh→Prop):Prop:=∀o H k,Qb o H k=true→Q o H k
def ImpE (Qb:KQ) (Q:Ex→S→Gh→Prop):Prop:=∀e s k,Qb e s k=true→Q e s k

theorem putO_eq (dst:Option Nat) (v:AV) (tm:T) (H:List Blk) (K:T→Bool):putO dst v tm K=K (S.put ⟨tm,H⟩ dst v).tm:=by
 cases dst with
 | none=>rfl
 | some d=>exact T.putQ_eq v 12 tm d K
theorem put_hp (dst:Option Nat) (v:AV) (tm:T) (H:List Blk):(S.put ⟨tm,H⟩ dst v)=⟨(S.put ⟨tm,H⟩ dst v).tm,H⟩:=by cases dst<;>rfl
theorem put_tm (dst:Option Nat) (v:AV) (tm:T) (H H':List Blk):(S.put ⟨tm,H⟩ dst v).tm=(S.put ⟨tm,H'⟩ dst v).tm:=by cases dst<;>rfl
theorem evAllQ_eq (tm:T) (args:List AO):∀K,evAllQ tm args K=K (args.map (evT tm)):=by
 induction args with
 | nil=>intro K;rfl
 | cons x l ih=>
  intro K
  show fv (evQ tm x) (fun v=>evAllQ tm l fun l=>K (v::l))=_
  rw[fv_eq,ih,evQ_eq];rfl
theorem mkArgsQ_eq (args:List AV):∀i t K,mkArgsQ args i t K=K (mkArgs i args t):=by
 induction args with
 | nil=>intro i t K;rfl
 | cons v l ih=>
  intro i t K
  show T.putQ v 12 t i (fun t=>mkArgsQ l (i+1) t K)=_
  rw[T.putQ_eq,ih];rfl
theorem gdQ_eq (tm:T) (H:List Blk) (g:Option (Nat×Bool)) (yes no:Bool):gdQ tm g yes no=(match gd ⟨tm,H⟩ g with | none=>false | some true=>yes | some false=>no):=by
 cases g with
 | none=>rfl
 | some p=>
  obtain ⟨j,b⟩:=p
  show asBool (tm.getQ j) (fun x=>Bool.rec (motive:=fun _=>Bool) (Bool.rec (motive:=fun _=>Bool) yes no x) (Bool.rec (motive:=fun _=>Bool) no yes x) b) (asTup (tm.getQ j) (fun l=>List.rec (motive:=fun _=>Bool) no (fun _ _ _=>false) l) false)=_
  rw[T.getQ_eq]
  unfold gd
  simp only[]
  cases tm.get j with
  | bool x=>cases x<;>cases b<;>rfl
  | tup l=>cases l<;>rfl
  | _=>rfl
theorem flQ_ok {E:Env} {H H':List Blk} {bf:Nat} {c:Prop}:∀ (l:List Fl),flQ H H' bf l=true→c→flOk E H H' bf l c:=by
 intro l
 induction l with
 | nil=>intro _ hc;exact hc
 | cons x l ih=>
  intro h hc
  cases x with
  | rd ix r=>
   have h:Bool.rec (motive:=fun _=>Bool) (Bool.rec (motive:=fun _=>Bool) false (flQ H H' bf l) (eqAVL (cellsAt H r.id r.off r.size) (cellsAt H' r.id r.off r.size)&&(lenAt H r.id==lenAt H' r.id))) (flQ H H' bf l) (Nat.testBit bf ix)=true:=h
   show (bif Nat.testBit bf ix then flOk E H H' bf l c else bif eqAVL (cellsAt H r.id r.off r.size) (cellsAt H' r.id r.off r.size)&&(lenAt H r.id==lenAt H' r.id) then flOk E H H' bf l c else False)
   cases ht:Nat.testBit bf ix
   ·rw[ht] at h
    cases he:(eqAVL (cellsAt H r.id r.off r.size) (cellsAt H' r.id r.off r.size)&&(lenAt H r.id==lenAt H' r.id))
    ·rw[he] at h;cases h
    ·rw[he] at h;exact ih h hc
   ·rw[ht] at h;exact ih h hc
  | nb ix id=>
   have h:Bool.rec (motive:=fun _=>Bool) (Bool.rec (motive:=fun _=>Bool) false (flQ H H' bf l) (eqBlk H[id]? H'[id]?)) (flQ H H' bf l) (Nat.testBit bf ix)=true:=h
   show (bif Nat.testBit bf ix then flOk E H H' bf l c else bif eqBlk H[id]? H'[id]? then flOk E H H' bf l c else False)
   cases ht:Nat.testBit bf ix
   ·rw[ht] at h
    cases he:eqBlk H[id]? H'[id]?
    ·rw[he] at h;cases h
    ·rw[he] at h;exact ih h hc
   ·rw[ht] at h;exact ih h hc
theorem oldHQ_eq (b:Nat) (H:List Blk):oldHQ b H=oldH b H:=by
 induction H with
 | nil=>rfl
 | cons x H ih=>
  obtain ⟨k,lf,cs⟩:=x
  show Bool.rec (motive:=fun _=>Bool) false (oldHQ b H) (Bool.rec (motive:=fun _=>Bool) (oldL b cs) true lf)=((lf||oldL b cs)&&oldH b H)
  rw[ih]
  cases lf<;>cases oldL b cs<;>rfl
theorem oldTQ_eq (b:Nat) (t:T):oldTQ b t=t.old b:=by
 induction t with
 | e=>rfl
 | n l v r il ir=>
  show Bool.rec (motive:=fun _=>Bool) false (Bool.rec (motive:=fun _=>Bool) false (oldTQ b r) (oldTQ b l)) (old b v)=(old b v&&l.old b&&r.old b)
  rw[il,ir]
  cases old b v<;>cases l.old b<;>rfl

section
variable {q:QE} {E:Env} (hE:CE q E) {recQ:RecQ} {rec:Rec} (hrec:RecOkQ recQ rec)
include hE
theorem hint_c {k:Nat} {v:AV} {K:AV→Prop} (h:K v):hint E k v K:=by
 unfold hint
 rw[hE.hv]
 cases v with
 | bool b=>cases b<;>exact h
 | _=>exact h
theorem leaveQ_ok {base k:Nat} {v:AV} {H:List Blk} {Kb:List Blk→Bool} {K:List Blk→Prop} (hK:∀H',Kb H'=true→K H') (h:leaveQ base v H Kb=true):leave E base k v H K:=by
 unfold leaveQ at h
 rw[takeQ_eq,oldHQ_eq] at h
 unfold leave
 rw[hE.hb]
 simp only[]
 cases h1:old base v
 ·rw[h1] at h;exact hK _ h
 ·rw[h1] at h
  cases h2:oldH base (H.take base)
  ·rw[h2] at h;exact hK _ h
  ·rw[h2] at h;exact hK _ h
omit hE in
theorem tupQ_eq (l:List AV) (K:AV→Bool):tupQ l K=K (tupOf l):=by
 cases l with
 | nil=>rfl
 | cons v t=>cases t with
  | nil=>exact fv_eq v K
  | cons u t=>rfl
omit hE in
theorem readResQ_ok {E:Env} {tm:T} {H:List Blk}:∀ (res:List ARes) {Kb:List AV→Bool} {K:List AV→Prop},(∀l,Kb l=true→K l)→readResQ tm H res Kb=true→readRes E ⟨tm,H⟩ res K:=by
 intro res
 induction res with
 | nil=>intro Kb K hK h;exact hK _ h
 | cons r res ih=>
  intro Kb K hK h
  cases r with
  | tmp t=>
   have h:fv (tm.getQ t) (fun v=>readResQ tm H res fun l=>Kb (v::l))=true:=h
   rw[fv_eq,T.getQ_eq] at h
   exact ih (fun l hl=>hK _ hl) h
  | cell a agg n=>
   obtain ⟨id,tot,off,hv,h⟩:=asPtr_t h
   obtain ⟨b,hb,h⟩:=optB_t h
   rw[getQ_eq] at hb
   obtain ⟨h1,h⟩:=ifB_t h
   obtain ⟨h2,h⟩:=ifB_t h
   rw[ncQ_eq] at h1
   rw[T.getQ_eq] at hv
   have e1:cur H id tot=true:=by unfold cur;rw[hb];exact h1
   have e3:∀o s,cellsAt H id o s=(b.cs.drop o).take s:=fun o s=>by unfold cellsAt;rw[hb]
   unfold readRes
   simp only[hv,ck,e1,h2,Bool.and_self,cond_true]
   cases agg
   ·have h:optB (getQ b.cs off) (fun v=>readResQ tm H res fun l=>Kb (v::l))=true:=h
    obtain ⟨v,hv,h⟩:=optB_t h
    rw[getQ_eq] at hv
    refine ih (fun l hl=>hK _ ?_) h
    simp only[e3]
    show Kb ((List.take 1 (List.drop off b.cs)).getD 0 .undef::l)=true
    have:(List.take 1 (List.drop off b.cs)).getD 0 .undef=v:=by
     rw[List.getD_eq_getElem?_getD,List.getElem?_take,if_pos (by omega),List.getElem?_drop,Nat.add_zero,hv]
     rfl
    rw[this]
    exact hl
   ·have h:dropQ b.cs off (fun r=>takeQ r n fun c=>readResQ tm H res fun l=>Kb (.agg c::l))=true:=h
    rw[dropQ_eq,takeQ_eq] at h
    refine ih (fun l hl=>hK _ ?_) h
    simp only[e3]
    exact hl
omit hE in
theorem atQ_eq (g:Gh) (f:Nat) (K:Gh→Bool):atQ g f K=K (g.at f):=rfl
theorem doneQ_ok {res:List ARes} {base k:Nat} {Qb:KO} {Q:Out→List Blk→Gh→Prop} (hQ:ImpO Qb Q) {e:Ex} {s:S} {g:Gh} (h:doneQ res base k Qb e s g=true):done E res base k Q e s g:=by
 obtain ⟨tm,H⟩:=s
 have key:(readResQ tm H res fun vs=>tupQ vs fun v=>leaveQ base v H fun H'=>atQ g k fun g=>Qb (.ret v) H' g)=true→readRes E ⟨tm,H⟩ res fun vs=>leave E base (g.f*4096+4094) (tupOf vs) H fun H'=>Q (.ret (tupOf vs)) H' (g.at k):=fun h=>
  readResQ_ok res (fun l hl=>by
   rw[tupQ_eq] at hl
   exact leaveQ_ok hE (fun H' hh=>hQ _ _ _ hh) hl) h
 cases e with
 | nrm=>exact key h
 | exit i=>cases h
 | ret=>exact key h
 | pan v=>
  have h:leaveQ base v H (fun H'=>Qb (.pan v) H' (g.at k))=true:=h
  exact leaveQ_ok hE (fun H' hh=>hQ _ _ _ hh) h
include hrec
theorem callxQ_ok {f:Nat} {args:List AV} {H:List Blk} {g:Gh} {Qb:KO} {Q:Out→List Blk→Gh→Prop} (hQ:ImpO Qb Q) (h:callxQ q recQ f args H g Qb=true):callx E rec f args H g Q:=by
 unfold callxQ at h
 unfold callx
 cases hs:q.sm f with
 | none=>
  rw[hs] at h
  have h:optB (q.fn f) (fun c=>AFn.rec (motive:=fun _=>Bool) (fun res body=>ifB (Nat.ble (lenQ args) 4000) (mkArgsQ args 0 .e fun tm=>fN (lenQ H) fun n=>atQ g f fun g'=>recQ body ⟨tm,H⟩ g' (doneQ res n g.f Qb))) c)=true:=h
  rw[hE.sm0 f hs]
  obtain ⟨c,hc,h⟩:=optB_t h
  obtain ⟨h1,h⟩:=ifB_t h
  rw[mkArgsQ_eq,fN_eq,atQ_eq,lenQ_eq] at h
  rw[lenQ_eq] at h1
  simp only[hE.fn,hc,h1,cond_true]
  exact hrec _ _ _ _ _ (fun e s k hk=>doneQ_ok hE hQ hk) h
 | some c=>
  rw[hs] at h
  obtain ⟨g',hg,hc⟩:=hE.sm1 f c hs
  rw[hg]
  have h:smQ (c args H) Qb g=true:=h
  unfold smQ at h
  split at h
  ·rename_i o H' ho
   rw[fO_eq] at h
   exact hc args H o H' _ ho (hQ _ _ _ h)
  ·cases h
omit hE hrec in
theorem setLpQ_eq (u:Nat) (st:Lst) (l:List Lp):∀K,setLpQ u st l K=K (setLp u st l):=by
 induction l with
 | nil=>intro K;rfl
 | cons p l ih=>
  intro K
  obtain ⟨u',tm,ps,asg,body,st',f⟩:=p
  show Bool.rec (motive:=fun _=>Bool) (setLpQ u st l fun l=>K (⟨u',tm,ps,asg,body,st',f⟩::l)) (K (⟨u',tm,ps,asg,body,st,f⟩::l)) (Nat.beq u' u)=K (bif Nat.beq u' u then { (⟨u',tm,ps,asg,body,st',f⟩:Lp) with st:=st }::l else _::setLp u st l)
  cases Nat.beq u' u
  ·exact ih _
  ·rfl
omit hE hrec in
theorem ghSet_eq (g:Gh) (f u:Nat) (st:Lst) (K:Gh→Bool):ghSet g f u st K=K ((g.at f).set u st):=by
 obtain ⟨a,n,lps⟩:=g
 exact setLpQ_eq u st lps fun lps=>K ⟨f,n,lps⟩
omit hE in
theorem yieldxQ_ok {u:Nat} {args:List AV} {H:List Blk} {g:Gh} {Qb:KO} {Q:Out→List Blk→Gh→Prop} (hQ:ImpO Qb Q) (h:yieldxQ recQ u args H g Qb=true):yieldx rec u args H g Q:=by
 unfold yieldxQ at h
 unfold yieldx
 obtain ⟨p,hp,h⟩:=optB_t h
 obtain ⟨h1,h⟩:=ifB_t h
 obtain ⟨h2,h⟩:=ifB_t h
 rw[lenQ_eq,lenQ_eq] at h1
 rw[atQ_eq] at h
 simp only[hp,h1,h2,Bool.and_self,cond_true]
 refine hrec _ _ _ _ _ (fun e s g1 he => ?_) h
 cases e with
 | nrm=>
  obtain ⟨h3,he⟩:=ifB_t he
  rw[ghSet_eq] at he
  simp only[h3,cond_true]
  refine hrec _ _ _ _ _ (fun e s g2 he => ?_) he
  cases e with
  | nrm=>
   have he:ghSet g2 g.f u .ready (fun g3=>Qb (.ret (.bool true)) s.hp g3)=true:=he
   rw[ghSet_eq] at he
   exact hQ _ _ _ he
  | exit i=>
   have he:ghSet g2 g.f u (.done (.exit i)) (fun g3=>Qb (.ret (.bool false)) s.hp g3)=true:=he
   rw[ghSet_eq] at he
   exact hQ _ _ _ he
  | ret=>
   have he:ghSet g2 g.f u (.done .ret) (fun g3=>Qb (.ret (.bool false)) s.hp g3)=true:=he
   rw[ghSet_eq] at he
   exact hQ _ _ _ he
  | pan v=>cases he
 | exit i=>cases he
 | ret=>cases he
 | pan v=>cases he
theorem callvQ_ok {v:AV} {args:List AV} {H:List Blk} {g:Gh} {Qb:KO} {Q:Out→List Blk→Gh→Prop} (hQ:ImpO Qb Q) (h:callvQ q recQ v args H g Qb=true):callv E rec v args H g Q:=by
 cases v with
 | fn f x y=>
  have h:fnQ f (fun f=>appQ x args fun a=>appQ a y fun a=>callxQ q recQ f a H g Qb)=true:=h
  cases f with
  | func f=>
   have h:(appQ x args fun a=>appQ a y fun a=>callxQ q recQ f a H g Qb)=true:=h
   rw[appQ_eq,appQ_eq] at h
   exact callxQ_ok hE hrec hQ h
  | _=>cases h
 | yld u=>exact yieldxQ_ok hrec hQ h
 | _=>cases h
omit hE hrec in
theorem hop_hopR {ev:AO→AV} {H:List Blk} {k:Nat} {op:AOp} {K:AV→List Blk→Prop} (h:hop E ev H k op K):hopR E ev H k op K:=by
 unfold hopR
 split
 ·exact (by simp[hop] at h:False).elim
 ·exact h
omit hE hrec in
theorem rOps_op {os:List AOper} {dst:Option Nat} {op:AOp} {guard:Option (Nat×Bool)} {ix bf:Nat} {s:S} {k:Gh} {Q:Ex→S→Gh→Prop} (hg:gd s guard=some true) (hn:∀f args,op≠.call f args) :
  rOps E rec (⟨dst,op,guard,ix,bf⟩::os) s k Q=(match lop E.gl s.ev (cur s.hp) (cellsAt s.hp) s.hp.length op with
    | some r=>ck E r.pre <| bif E.hz (k.key dst) then frzN s.hp.length r.v r.nb fun v=>rOps E rec os (S.put ⟨s.tm,s.hp⟩ dst v) k Q
      else hint E (k.key dst) r.v fun v=>rOps E rec os (S.put ⟨s.tm,s.hp++r.nb.toList⟩ dst v) k Q
    | none=>hopR E s.ev s.hp (k.key dst) op fun v H'=>bif E.hz (k.key dst) then frzA s.hp.length dst v ⟨s.tm,H'⟩ fun s'=>rOps E rec os s' k Q
      else hint E (k.key dst) v fun v=>rOps E rec os (S.put ⟨s.tm,H'⟩ dst v) k Q):=by
 rw[rOps]
 simp only[hg]
 cases op<;>first | rfl | exact absurd rfl (hn _ _)
theorem rOpsQ_ok:∀ (ops:List AOper) {tm:T} {H:List Blk} {k:Gh} {Qb:KQ} {Q:Ex→S→Gh→Prop},ImpE Qb Q→rOpsQ q recQ ops tm H k Qb=true→rOps E rec ops ⟨tm,H⟩ k Q:=by
 intro ops
 induction ops with
 | nil=>intro tm H k Qb Q hQ h;exact hQ _ _ _ h
 | cons o os ih=>
  intro tm H k Qb Q hQ h
  obtain ⟨dst,op,guard,ix,bf⟩:=o
  have h:gdQ tm guard (rRun q recQ (rOpsQ q recQ os) dst op tm H k Qb) (putO dst (.tup []) tm (rPutT (rOpsQ q recQ os) H k Qb))=true:=h
  rw[gdQ_eq tm H] at h
  split at h
  ·cases h
  ·rename_i hg
   unfold rRun at h
   rcases opQ_ok h with ⟨f,args,rfl,h2⟩ | ⟨hn,⟨r,hr,hp,h⟩ | ⟨hr,h⟩⟩
   ·unfold rKC at h2
    rw[evAllQ_eq,rCall,evQ_eq] at h2
    rw[rOps]
    simp only[hg,ev_evT]
    refine callvQ_ok hE hrec (fun o H' k' ho => ?_) h2
    cases o with
    | ret v=>
     have ho:putO dst v tm (rPutT (rOpsQ q recQ os) H' k' Qb)=true:=ho
     rw[putO_eq dst v tm H'] at ho
     refine hint_c hE ?_
     rw[put_hp]
     exact ih hQ ho
    | pan v=>exact hQ _ _ _ ho
   ·rw[rOps_op hg hn]
    simp only[ev_evT,hE.gl,hr,ck,hp,cond_true,hE.hz,cond_false]
    refine hint_c hE ?_
    unfold rKL at h
    rw[put_hp]
    cases hnb:r.nb with
    | none=>
     rw[hnb,putO_eq dst r.v tm H] at h
     have e:H++(none:Option Blk).toList=H:=by simp
     rw[e]
     exact ih hQ h
    | some b=>
     rw[hnb,putO_eq dst r.v tm H] at h
     have h:appQ H [b] (rPutC (rOpsQ q recQ os) (S.put ⟨tm,H⟩ dst r.v).tm k Qb)=true:=h
     rw[appQ_eq] at h
     rw[put_tm dst r.v tm _ H]
     exact ih hQ h
   ·rw[rOps_op hg hn]
    simp only[ev_evT,hE.gl,hr]
    refine hop_hopR (h E _ _ (hE.hb _) fun v H' hv => ?_)
    rw[hE.hz,cond_false]
    refine hint_c hE ?_
    unfold rKH at hv
    rw[putO_eq dst v tm H'] at hv
    rw[put_hp]
    exact ih hQ hv
  ·rename_i hg
   rw[rOps]
   simp only[hg]
   rw[putO_eq dst _ tm H] at h
   rw[put_hp]
   exact ih hQ h
omit hE hrec in
theorem dOps_op {os:List AOper} {dst:Option Nat} {op:AOp} {guard:Option (Nat×Bool)} {ix bf:Nat} {s:S} {k:Gh} {fl:List Fl} {Q:Ex→S→Gh→Prop} (hg:gd s guard=some true) (hn:∀f args,op≠.call f args) :
  dOps E rec (⟨dst,op,guard,ix,bf⟩::os) s k fl Q=(match lop E.gl (evT s.tm) (cur s.hp) (cellsAt s.hp) s.hp.length op with
    | some r=>ck E r.pre <| hint E (k.key dst) r.v fun v=>dOps E rec os (S.put ⟨s.tm,s.hp++r.nb.toList⟩ dst v) k (flNew ⟨dst,op,guard,ix,bf⟩ s.hp r++fl) Q
    | none=>hop E (evT s.tm) s.hp (k.key dst) op fun v H'=>flOk E s.hp H' bf fl <| hint E (k.key dst) v fun v=>dOps E rec os (S.put ⟨s.tm,H'⟩ dst v) k fl Q):=by
 rw[dOps]
 simp only[hg]
 rw[←lop_evu,←hop_evu]
 cases op<;>first | rfl | exact absurd rfl (hn _ _)
theorem dOpsQ_ok:∀ (ops:List AOper) {tm:T} {H:List Blk} {k:Gh} {fl:List Fl} {Qb:KQ} {Q:Ex→S→Gh→Prop},ImpE Qb Q→dOpsQ q recQ ops tm H k fl Qb=true→dOps E rec ops ⟨tm,H⟩ k fl Q:=by
 intro ops
 induction ops with
 | nil=>intro tm H k fl Qb Q hQ h;exact hQ _ _ _ h
 | cons o os ih=>
  intro tm H k fl Qb Q hQ h
  obtain ⟨dst,op,guard,ix,bf⟩:=o
  have h:gdQ tm guard (dRun q recQ (dOpsQ q recQ os) dst op ix bf tm H k fl Qb) (putO dst (.tup []) tm (dPutT (dOpsQ q recQ os) H k fl Qb))=true:=h
  rw[gdQ_eq tm H] at h
  split at h
  ·cases h
  ·rename_i hg
   unfold dRun at h
   rcases opQ_ok h with ⟨f,args,rfl,h2⟩ | ⟨hn,⟨r,hr,hp,h⟩ | ⟨hr,h⟩⟩
   ·unfold dKC at h2
    rw[evAllQ_eq,rCall,evQ_eq] at h2
    rw[dOps]
    simp only[hg]
    rw[show usesOp (.call f args)=slots (f::args) from rfl,evu_mem (l:=f::args) (x:=f) (by simp),List.map_congr_left (l:=args) (g:=evT tm) fun x hx=>evu_mem (by simp[hx])]
    refine callvQ_ok hE hrec (fun o H' k' ho => ?_) h2
    cases o with
    | ret v=>
     have ho:ifB (flQ H H' bf fl) (putO dst v tm (dPutT (dOpsQ q recQ os) H' k' fl Qb))=true:=ho
     obtain ⟨h1,ho⟩:=ifB_t ho
     rw[putO_eq dst v tm H'] at ho
     refine flQ_ok fl h1 (hint_c hE ?_)
     rw[put_hp]
     exact ih hQ ho
    | pan v=>exact hQ _ _ _ ho
   ·rw[dOps_op hg hn]
    simp only[hE.gl,hr,ck,hp,cond_true]
    refine hint_c hE ?_
    unfold dKL at h
    rw[put_hp]
    cases hnb:r.nb with
    | none=>
     rw[hnb,putO_eq dst r.v tm H] at h
     have e:H++(none:Option Blk).toList=H:=by simp
     rw[e]
     have e2:flNew ⟨dst,op,guard,ix,bf⟩ H r=r.rd.map (Fl.rd ix):=by unfold flNew;rw[hnb];simp
     rw[e2]
     exact ih hQ h
    | some b=>
     rw[hnb,putO_eq dst r.v tm H] at h
     have h:appQ H [b] (dPutC (dOpsQ q recQ os) (S.put ⟨tm,H⟩ dst r.v).tm k (r.rd.map (Fl.rd ix)++[Fl.nb ix (lenQ H)]++fl) Qb)=true:=h
     rw[appQ_eq,lenQ_eq] at h
     have e2:flNew ⟨dst,op,guard,ix,bf⟩ H r=r.rd.map (Fl.rd ix)++[Fl.nb ix H.length]:=by unfold flNew;rw[hnb]
     rw[put_tm dst r.v tm _ H,e2]
     exact ih hQ h
   ·rw[dOps_op hg hn]
    simp only[hE.gl,hr]
    refine h E _ _ (hE.hb _) fun v H' hv => ?_
    unfold dKH at hv
    obtain ⟨h1,hv⟩:=ifB_t hv
    rw[putO_eq dst v tm H'] at hv
    refine flQ_ok fl h1 (hint_c hE ?_)
    rw[put_hp]
    exact ih hQ hv
  ·rename_i hg
   rw[dOps]
   simp only[hg]
   rw[putO_eq dst _ tm H] at h
   rw[put_hp]
   exact ih hQ h
omit hrec in
theorem trimQ_ok {lv base k:Nat} {s:S} {Kb:S→Bool} {K:S→Prop} (hK:∀s,Kb s=true→K s) (h:trimQ lv base s Kb=true):trimK E lv base k s K:=by
 obtain ⟨tm,H⟩:=s
 have h:T.keepQ lv tm 1 0 (fun tm=>takeQ H base fun H'=>Bool.rec (motive:=fun _=>Bool) (Kb ⟨tm,H⟩) (Kb ⟨tm,H'⟩) (oldTQ base tm&&oldHQ base H'))=true:=h
 rw[T.keepQ_eq,takeQ_eq,oldTQ_eq,oldHQ_eq] at h
 unfold trimK
 rw[hE.hb]
 simp only[clr]
 cases hb:((tm.keep lv 1 0).old base&&oldH base (H.take base))
 ·rw[hb] at h;exact hK _ h
 ·rw[hb] at h;exact hK _ h
omit hE hrec in
theorem rfnEndQ_ok {tm:T} {Qb:KQ} {Q:Ex→S→Gh→Prop} (hQ:ImpE Qb Q):ImpO (rfnEndQ tm Qb) (rfnEnd tm Q):=by
 intro o H g h
 obtain ⟨f,n,lps⟩:=g
 unfold rfnEnd
 cases lps with
 | nil=>cases h
 | cons p l=>
  cases o with
  | pan v=>exact hQ _ _ _ h
  | ret v=>
   have h:Lst.rec (motive:=fun _=>Bool) (Qb .nrm ⟨tm,H⟩ ⟨f,n,l⟩) false (fun e=>Qb e ⟨tm,H⟩ ⟨f,n,l⟩) p.st=true:=h
   simp only[]
   cases hp:p.st with
   | ready=>rw[hp] at h;exact hQ _ _ _ h
   | busy=>rw[hp] at h;cases h
   | done e=>rw[hp] at h;exact hQ _ _ _ h
theorem stepQ_ok (c:AC) {tm:T} {H:List Blk} {k:Gh} {Qb:KQ} {Q:Ex→S→Gh→Prop} (hQ:ImpE Qb Q) (h:stepQ c q recQ tm H k Qb=true):step E rec c ⟨tm,H⟩ k Q:=by
 cases c with
 | skip=>exact hQ _ _ _ h
 | region ops=>exact rOpsQ_ok hE hrec ops hQ h
 | drawn ops=>exact dOpsQ_ok hE hrec ops hQ h
 | seq a b=>
  unfold step
  simp only[hE.inv]
  refine hrec a _ _ _ _ (fun e s k' he => ?_) h
  cases e with
  | nrm=>exact hrec b _ _ _ _ hQ he
  | exit i=>exact hQ _ _ _ he
  | ret=>exact hQ _ _ _ he
  | pan v=>exact hQ _ _ _ he
 | cond c a b=>
  have h:asBool (evQ tm c) (fun t=>Bool.rec (motive:=fun _=>Bool) (recQ b ⟨tm,H⟩ k Qb) (recQ a ⟨tm,H⟩ k Qb) t) false=true:=h
  rw[evQ_eq] at h
  unfold step
  simp only[ev_evT]
  cases hv:evT tm c with
  | bool t=>
   rw[hv] at h
   simp only[]
   cases t
   ·exact hrec b _ _ _ _ hQ h
   ·exact hrec a _ _ _ _ hQ h
  | _=>rw[hv] at h;cases h
 | block id b=>
  refine hrec b _ _ _ _ (fun e s k' he => ?_) h
  cases e with
  | nrm=>exact hQ _ _ _ he
  | exit i=>
   have he:Bool.rec (motive:=fun _=>Bool) (Qb (.exit i) s k') (Qb .nrm s k') (Nat.beq i id)=true:=he
   show Q (bif Nat.beq i id then .nrm else .exit i) s k'
   cases hb:Nat.beq i id
   ·rw[hb] at he;exact hQ _ _ _ he
   ·rw[hb] at he;exact hQ _ _ _ he
  | ret=>exact hQ _ _ _ he
  | pan v=>exact hQ _ _ _ he
 | loop id lv b=>
  have h:T.keepQ lv tm 1 0 (fun tm=>fN (lenQ H) fun n=>recQ b ⟨tm,H⟩ k fun e s k'=>Ex.rec (motive:=fun _=>Bool) (trimQ lv n s fun s=>recQ (.loop id lv b) s k' Qb) (fun i=>Qb (.exit i) s k') (Qb .ret s k') (fun v=>Qb (.pan v) s k') e)=true:=h
  rw[T.keepQ_eq,fN_eq,lenQ_eq] at h
  unfold step
  simp only[hE.inv]
  refine hrec b _ _ _ _ (fun e s k' he => ?_) h
  cases e with
  | nrm=>exact trimQ_ok hE (fun s hs=>hrec _ _ _ _ _ hQ hs) he
  | exit i=>exact hQ _ _ _ he
  | ret=>exact hQ _ _ _ he
  | pan v=>exact hQ _ _ _ he
 | exit i=>exact hQ _ _ _ h
 | ret=>exact hQ _ _ _ h
 | sum g=>cases h
 | rfn f ps asg body=>
  obtain ⟨kf,n,lps⟩:=k
  have h:asCallQ (evQ tm f) (fun g x y=>fnQ g fun g=>appQ x [.yld n] fun a=>appQ a y fun a=>fN (n+1) fun n1=>callxQ q recQ g a H ⟨kf,n1,⟨n,tm,ps,asg,body,.ready,kf⟩::lps⟩ (rfnEndQ tm Qb)) (fun _=>false)=true:=h
  rw[evQ_eq] at h
  unfold step
  simp only[ev_evT]
  cases hv:evT tm f with
  | fn g x y=>
   rw[hv] at h
   cases g with
   | func g=>
    have h:(appQ x [.yld n] fun a=>appQ a y fun a=>fN (n+1) fun n1=>callxQ q recQ g a H ⟨kf,n1,⟨n,tm,ps,asg,body,.ready,kf⟩::lps⟩ (rfnEndQ tm Qb))=true:=h
    rw[appQ_eq,appQ_eq,fN_eq] at h
    exact callxQ_ok hE hrec (rfnEndQ_ok hQ) h
   | _=>cases h
  | _=>rw[hv] at h;cases h
 | bad w=>cases h
end
theorem wpQ_ok {q:QE} {E:Env} (hE:CE q E):∀n,RecOkQ (wpQ q n) (wpx E n):=by
 intro n
 induction n with
 | zero=>intro c s k Qb Q hQ h;cases h
 | succ n ih=>
  intro c s k Qb Q hQ h
  obtain ⟨tm,H⟩:=s
  exact stepQ_ok hE ih c hQ h
theorem run_ok {q:QE} {E:Env} (hE:CE q E) {n f:Nat} {args:List AV} {H:List Blk} {g:Gh} {Qb:KO} {Q:Out→List Blk→Gh→Prop} (hQ:∀o H k,Qb o H k=true→Q o H k) (h:callxQ q (wpQ q n) f args H g Qb=true):callx E (wpx E n) f args H g Q:=
 callxQ_ok hE (wpQ_ok hE n) hQ h
end Go.Proofs.YtjenieljapmehaaGreatDoor

set_option linter.unusedSimpArgs false
set_option linter.unusedVariables false
namespace Go.Proofs.YtjenieljapmehaaGreatDoor
open Go.RowKit

abbrev ConQ:=List AV→List Blk→Option (Out×List Blk)
def lookQ:List (Nat×ConQ)→Nat→Option ConQ
 | [],_=>none
 | (k,c)::l,f=>bif Nat.beq f k then some c else lookQ l f
def toP (c:ConQ) (args:List AV) (H:List Blk) (K:Out→List Blk→Prop):Prop:=match c args H with
 | some (o,H')=>K o H'
 | none=>False
def qenv (q:QE):Env := { fn:=q.fn,sm:=fun f=>(q.sm f).map toP,gl:=q.gl }
theorem ce_qenv (q:QE):CE q (qenv q):=
 ⟨rfl,rfl,fun _=>rfl,fun _=>rfl,fun _=>rfl,fun _=>rfl,fun _=>rfl,
  fun f h=>by show (q.sm f).map toP=none;rw[h];rfl,
  fun f c h=>⟨toP c,by show (q.sm f).map toP=_;rw[h];rfl,fun args H o H' K hc hk=>by unfold toP;rw[hc];exact hk⟩⟩
theorem lookQ_ok {P:Program} {gl:Nat→Option (List AV)}:∀ (l:List (Nat×ConQ)),(∀p,p∈l→ValidF P gl p.1 (toP p.2))→∀f g,(lookQ l f).map toP=some g→ValidF P gl f g
 | [],_,f,g,h=>by simp[lookQ] at h
 | (k,c)::l,hl,f,g,h=>by
  simp only[lookQ] at h
  cases hk:Nat.beq f k
  ·rw[hk] at h
   exact lookQ_ok l (fun p hp=>hl p (by simp[hp])) f g h
  ·rw[hk] at h
   simp only[cond_true,Option.map_some,Option.some.injEq] at h
   subst h
   obtain rfl:=Nat.eq_of_beq_eq_true hk
   exact hl (f,c) (by simp)
theorem valid_to {P:Program} {gl:Nat→Option (List AV)} {f:FuncId} {c:List AV→List Blk→(Out→List Blk→Prop)→Prop} {c':ConQ} (hc:ValidF P gl f c) (h:∀args H o H' K,c' args H=some (o,H')→K o H'→c args H K):ValidF P gl f (toP c'):=
 ⟨hc.1,fun args H Q hq=>hc.2 args H Q (by
  unfold toP at hq
  split at hq
  ·rename_i o H' ho
   exact h args H o H' Q ho hq
  ·exact hq.elim)⟩
end Go.Proofs.YtjenieljapmehaaGreatDoor
