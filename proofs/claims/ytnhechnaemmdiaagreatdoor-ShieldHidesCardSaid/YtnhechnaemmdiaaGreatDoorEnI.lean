/-
  The engine, closed runs: the evaluator once more, with all values forced, for runs that know everything; part A: forcing, slots, lists.
-/
import Derived.Test.YtnhechnaemmdiaaGreatDoorEnA
set_option linter.unusedSimpArgs false
set_option linter.unusedVariables false
namespace Go.Proofs.YtnhechnaemmdiaaGreatDoor
open Go.RowKit

noncomputable def bPo (K:Nat→Bool) (k:Nat) (_:Bool):Bool:=K (Nat.succ k)
noncomputable def fN (n:Nat) (K:Nat→Bool):Bool:=Nat.rec (motive:=fun _=>Bool) (K 0) (bPo K) n
theorem dP (n:Nat) (K:Nat→Bool):fN n K=K n:=by cases n<;>rfl
noncomputable def bPp (K:Int→Bool) (n:Nat):Bool:=K (.ofNat n)
noncomputable def bPw (K:Int→Bool) (n:Nat):Bool:=K (.negSucc n)
noncomputable def fI (i:Int):(Int→Bool)→Bool:=Int.rec (motive:=fun _=>(Int→Bool)→Bool) (fun n K=>fN n (bPp K)) (fun n K=>fN n (bPw K)) i
theorem zB (i:Int) (K:Int→Bool):fI i K=K i:=by
 cases i with
 | ofNat n=>exact dP n fun n=>K (.ofNat n)
 | negSucc n=>exact dP n fun n=>K (.negSucc n)
noncomputable def fB (b:Bool) (K:Bool→Bool):Bool:=Bool.rec (motive:=fun _=>Bool) (K false) (K true) b
theorem lK (b:Bool) (K:Bool→Bool):fB b K=K b:=by cases b<;>rfl
noncomputable def fU (c:UInt8) (K:UInt8→Bool):Bool:=fN c.toNat fun n=>K (UInt8.ofNat n)
theorem bM7 (c:UInt8) (K:UInt8→Bool):fU c K=K c:=by rw[fU,dP,UInt8.ofNat_toNat]
noncomputable def fS (s:List UInt8):(List UInt8→Bool)→Bool:=List.rec (motive:=fun _=>(List UInt8→Bool)→Bool) (fun K=>K []) (fun c _ ih K=>fU c fun c=>ih fun l=>K (c::l)) s
theorem bNm (s:List UInt8):∀K,fS s K=K s:=by
 induction s with
 | nil=>intro K;rfl
 | cons c s ih=>intro K;exact (bM7 c fun c=>fS s fun l=>K (c::l)).trans (ih fun l=>K (c::l))

section
variable {α:Type}
noncomputable def bGe (K:List α→Bool) (x:α) (l:List α):Bool:=K (x::l)
noncomputable def nX (a b:List α) (K:List α→Bool):Bool:=List.rec (motive:=fun _=>(List α→Bool)→Bool) (fun K=>K b) (fun x _ ih K=>ih (bGe K x)) a K
theorem iB (a b:List α):∀K,nX a b K=K (a++b):=by
 induction a with
 | nil=>intro K;rfl
 | cons x a ih=>intro K;exact ih _
noncomputable def bAy (ih:Nat→(List α→Bool)→Bool) (x:α) (K:List α→Bool) (m:Nat) (_:Bool):Bool:=ih m (bGe K x)
noncomputable def lS (l:List α):Nat→(List α→Bool)→Bool:=List.rec (motive:=fun _=>Nat→(List α→Bool)→Bool) (fun _ K=>K []) (fun x _ ih n K=>Nat.rec (motive:=fun _=>Bool) (K []) (bAy ih x K) n) l
theorem gW (l:List α):∀n K,lS l n K=K (l.take n):=by
 induction l with
 | nil=>intro n K;rw[List.take_nil];rfl
 | cons x l ih=>intro n K;cases n with
  | zero=>rfl
  | succ n=>exact ih n _
noncomputable def bMu (ih:Nat→(List α→Bool)→Bool) (K:List α→Bool) (m:Nat) (_:Bool):Bool:=ih m K
noncomputable def nS (l:List α):Nat→(List α→Bool)→Bool:=List.rec (motive:=fun _=>Nat→(List α→Bool)→Bool) (fun _ K=>K []) (fun x t ih n K=>Nat.rec (motive:=fun _=>Bool) (K (x::t)) (bMu ih K) n) l
theorem iN (l:List α):∀n K,nS l n K=K (l.drop n):=by
 induction l with
 | nil=>intro n K;rw[List.drop_nil];rfl
 | cons x l ih=>intro n K;cases n with
  | zero=>rfl
  | succ n=>exact ih n _
noncomputable def getQ (l:List α):Nat→Option α:=List.rec (motive:=fun _=>Nat→Option α) (fun _=>none) (fun x _ ih n=>Nat.rec (motive:=fun _=>Option α) (some x) (fun m _=>ih m) n) l
theorem getQ_eq (l:List α):∀n,getQ l n=l[n]? := by
 induction l with
 | nil=>intro n;rfl
 | cons x l ih=>intro n;cases n with
  | zero=>rfl
  | succ n=>rw[List.getElem?_cons_succ];exact ih n
noncomputable def lI (l:List α):Nat:=List.rec (motive:=fun _=>Nat) 0 (fun _ _ n=>Nat.succ n) l
theorem dE (l:List α):lI l=l.length:=by
 induction l with
 | nil=>rfl
 | cons x l ih=>rw[List.length_cons,←ih];rfl
noncomputable def bIw (x:α) (l:List α):Nat→(List α→Bool)→Bool:=List.rec (motive:=fun _=>Nat→(List α→Bool)→Bool) (fun _ K=>K []) (fun y t ih n K=>Nat.rec (motive:=fun _=>Bool) (K (x::t)) (bAy ih y K) n) l
theorem aEl (x:α) (l:List α):∀n K,bIw x l n K=K (l.set n x):=by
 induction l with
 | nil=>intro n K;rfl
 | cons y l ih=>intro n K;cases n with
  | zero=>rfl
  | succ n=>exact ih n _
end
noncomputable def bPr (vs:List AV) (K:List AV→Bool) (r:List AV):Bool:=nX vs r K
noncomputable def aJc (vs:List AV) (l:List AV):Nat→(List AV→Bool)→Bool:=List.rec (motive:=fun _=>Nat→(List AV→Bool)→Bool) (fun _ K=>K vs) (fun y t ih n K=>Nat.rec (motive:=fun _=>Bool) (nS (y::t) (lI vs) (bPr vs K)) (bAy ih y K) n) l
theorem yN (vs:List AV) (l:List AV):∀n K,aJc vs l n K=K (aM l n vs):=by
 induction l with
 | nil=>intro n K;simp[aM];rfl
 | cons y l ih=>intro n K;cases n with
  | zero=>
   refine (iN (y::l) (lI vs) fun r=>nX vs r K).trans ?_
   rw[iB,dE]
   simp[aM]
  | succ n=>
   refine (ih n fun l=>K (y::l)).trans ?_
   have:n+1+vs.length=(n+vs.length)+1:=by omega
   simp[aM,this]

noncomputable def bNk (ir:Nat→AV) (k:Nat) (_:Nat) (_:AV):AV:=ir k
noncomputable def bMk (il ir:Nat→AV) (k:Nat) (_:AV):AV:=Nat.rec (motive:=fun _=>AV) (il (Nat.div k 2)) (bNk ir (Nat.div k 2)) (Nat.mod k 2)
noncomputable def T.getQ (t:T):Nat→AV:=T.rec (motive:=fun _=>Nat→AV) (fun _=>.undef) (fun _ v _ il ir k=>Nat.rec (motive:=fun _=>AV) v (bMk il ir) k) t
theorem T.getQ_eq (t:T):∀k,t.getQ k=t.get k:=by
 induction t with
 | e=>intro k;rfl
 | n l v r il ir=>
  intro k
  cases k with
  | zero=>rfl
  | succ k=>
   show Nat.rec (motive:=fun _=>AV) (T.getQ l (Nat.div k 2)) (fun _ _=>T.getQ r (Nat.div k 2)) (Nat.mod k 2)=if k%2=0 then l.get (k/2) else r.get (k/2)
   rw[il,ir]
   have h:k%2=0∨k%2=1:=by omega
   have e:Nat.mod k 2=k%2:=rfl
   rcases h with h | h<;>rw[e,h]<;>rfl
abbrev bFf:=T→Nat→(T→Bool)→Bool
noncomputable def kNL (u:AV) (r:T) (K:T→Bool) (x:T):Bool:=K (.n x u r)
noncomputable def kNR (l:T) (u:AV) (K:T→Bool) (x:T):Bool:=K (.n l u x)
noncomputable def bNb (ih:bFf) (l r:T) (u:AV) (k:Nat) (K:T→Bool) (_:Nat) (_:Bool):Bool:=ih r k (kNR l u K)
noncomputable def bEm (ih:bFf) (l r:T) (u:AV) (K:T→Bool) (k:Nat) (_:Bool):Bool:=Nat.rec (motive:=fun _=>Bool) (ih l (Nat.div k 2) (kNL u r K)) (bNb ih l r u (Nat.div k 2) K) (Nat.mod k 2)
noncomputable def bMp (ih:bFf) (v:AV) (l:T) (u:AV) (r:T) (_ _:Nat→(T→Bool)→Bool) (k:Nat) (K:T→Bool):Bool:=Nat.rec (motive:=fun _=>Bool) (K (.n l v r)) (bEm ih l r u K) k
noncomputable def bL7 (ih:bFf) (v:AV) (k:Nat) (K:T→Bool):Bool:=Nat.rec (motive:=fun _=>Bool) (K (.n .e v .e)) (bEm ih .e .e .undef K) k
noncomputable def bPq (v:AV) (_:Nat) (ih:bFf) (t:T) (k:Nat) (K:T→Bool):Bool:=T.rec (motive:=fun _=>Nat→(T→Bool)→Bool) (bL7 ih v) (bMp ih v) t k K
noncomputable def T.putQ (v:AV) (d:Nat):T→Nat→(T→Bool)→Bool:=Nat.rec (motive:=fun _=>T→Nat→(T→Bool)→Bool) (fun t _ K=>K t) (bPq v) d
theorem T.putQ_eq (v:AV) (d:Nat):∀t k K,T.putQ v d t k K=K (T.put d t k v):=by
 induction d with
 | zero=>intro t k K;rfl
 | succ d ih=>
  intro t k K
  have h:∀k,k%2=0∨k%2=1:=fun k=>by omega
  cases t with
  | e=>cases k with
   | zero=>rfl
   | succ k=>
    show Nat.rec (motive:=fun _=>Bool) (T.putQ v d .e (Nat.div k 2) _) (fun _ _=>T.putQ v d .e (Nat.div k 2) _) (Nat.mod k 2)=K (if k%2=0 then .n (T.put d .e (k/2) v) .undef .e else .n .e .undef (T.put d .e (k/2) v))
    have e:Nat.mod k 2=k%2:=rfl
    rcases h k with h | h<;>rw[e,h]<;>exact ih _ _ _
  | n l u r=>cases k with
   | zero=>rfl
   | succ k=>
    show Nat.rec (motive:=fun _=>Bool) (T.putQ v d l (Nat.div k 2) _) (fun _ _=>T.putQ v d r (Nat.div k 2) _) (Nat.mod k 2)=K (if k%2=0 then .n (T.put d l (k/2) v) u r else .n l u (T.put d r (k/2) v))
    have e:Nat.mod k 2=k%2:=rfl
    rcases h k with h | h<;>rw[e,h]<;>exact ih _ _ _
noncomputable def T.mkQ (l:T) (v:AV) (r:T):T:=T.rec (motive:=fun _=>T) (AV.rec (motive_1:=fun _=>T) (motive_2:=fun _=>Unit) (T.rec (motive:=fun _=>T) .e (fun _ _ _ _ _=>.n l v r) r)
 (fun _=>.n l v r) (fun _=>.n l v r) (fun _ _=>.n l v r) (fun _=>.n l v r) (.n l v r) (fun _ _ _=>.n l v r) (fun _ _=>.n l v r) (.n l v r) (fun _ _ _ _ _=>.n l v r) (.n l v r) (fun _ _ _ _ _=>.n l v r) (fun _=>.n l v r) (.n l v r) (fun _ _ _=>.n l v r) (fun _ _=>.n l v r) (fun _ _=>.n l v r) (fun _ _ _ _ _=>.n l v r) (fun _ _ _ _=>.n l v r) (.n l v r) (fun _=>.n l v r) () (fun _ _ _ _=>()) v) (fun _ _ _ _ _=>.n l v r) l
theorem T.mkQ_eq (l:T) (v:AV) (r:T):T.mkQ l v r=T.mk' l v r:=by
 cases l with
 | e=>cases v<;>first | rfl | (cases r<;>rfl)
 | n a b c=>rfl
noncomputable def fT (t:T) (K:T→Bool):Bool:=T.rec (motive:=fun _=>Bool) (K .e) (fun l v r _ _=>K (.n l v r)) t
theorem bLw (t:T) (K:T→Bool):fT t K=K t:=by cases t<;>rfl
noncomputable def aVh (mask b:Nat) (v:AV) (K:T→Bool) (l r:T):Bool:=fT (T.mkQ l (bif mask.testBit b then v else .undef) r) K
noncomputable def aWd (mask b:Nat) (v:AV) (ir:Nat→Nat→(T→Bool)→Bool) (K:T→Bool) (a2 b2:Nat) (l:T):Bool:=ir a2 b2 (aVh mask b v K l)
noncomputable def bIe (mask b:Nat) (v:AV) (il ir:Nat→Nat→(T→Bool)→Bool) (K:T→Bool) (a2 ab b2:Nat):Bool:=il a2 ab (aWd mask b v ir K a2 b2)
noncomputable def T.keepQ (mask:Nat) (t:T):(a b:Nat)→(T→Bool)→Bool:=T.rec (motive:=fun _=>Nat→Nat→(T→Bool)→Bool) (fun _ _ K=>K .e)
 (fun _ v _ il ir a b K=>bIe mask b v il ir K (2*a) (a+b) (2*a+b)) t
theorem T.keepQ_eq (mask:Nat) (t:T):∀a b K,T.keepQ mask t a b K=K (t.keep mask a b):=by
 induction t with
 | e=>intro a b K;rfl
 | n l v r il ir=>
  intro a b K
  show T.keepQ mask l (2*a) (a+b) (aWd mask b v (T.keepQ mask r) K (2*a) (2*a+b))=_
  rw[il]
  show T.keepQ mask r (2*a) (2*a+b) (aVh mask b v K (T.keep mask l (2*a) (a+b)))=_
  rw[ir]
  show fT (T.mkQ (T.keep mask l (2*a) (a+b)) (bif mask.testBit b then v else .undef) (T.keep mask r (2*a) (2*a+b))) K=_
  rw[bLw,T.mkQ_eq]
  rfl
end Go.Proofs.YtnhechnaemmdiaaGreatDoor

namespace Go.Proofs.YtnhechnaemmdiaaGreatDoor
open Go.RowKit

noncomputable def fv (v:AV):(AV→Bool)→Bool:=AV.rec (motive_1:=fun _=>(AV→Bool)→Bool) (motive_2:=fun _=>Unit) (fun K=>K .undef)
 (fun i K=>K (.opq i))
 (fun b K=>fB b fun b=>K (.bool b))
 (fun k n K=>K (.int k n))
 (fun s K=>K (.str s))
 (fun K=>K .nilp)
 (fun a b c K=>K (.ptr a b c))
 (fun a b K=>K (.gptr a b))
 (fun K=>K .nils)
 (fun a b c d e K=>K (.sl a b c d e))
 (fun K=>K .nilf)
 (fun f x y _ _ K=>K (.fn f x y))
 (fun u K=>K (.yld u))
 (fun K=>K .nili)
 (fun t v _ K=>K (.iface t v))
 (fun l _ K=>K (.agg l))
 (fun l _ K=>K (.tup l))
 (fun t l n z _ K=>K (.lst t l n z))
 (fun t l o _ K=>K (.lptr t l o))
 (fun K=>K .mpn)
 (fun i K=>K (.mp i)) () (fun _ _ _ _=>()) v
theorem aIl (v:AV) (K:AV→Bool):fv v K=K v:=by
 cases v<;>first | rfl | (rename_i b;exact lK b fun b=>K (.bool b))
noncomputable def aCl (v:AV):(List AV→Bool)→Bool:=AV.rec (motive_1:=fun _=>(List AV→Bool)→Bool) (motive_2:=fun _=>Unit) (fun K=>false)
 (fun i K=>K [(.opq i)])
 (fun b K=>K [(.bool b)])
 (fun k n K=>K [(.int k n)])
 (fun s K=>K [(.str s)])
 (fun K=>K [.nilp])
 (fun a b c K=>K [(.ptr a b c)])
 (fun a b K=>K [(.gptr a b)])
 (fun K=>K [.nils])
 (fun a b c d e K=>K [(.sl a b c d e)])
 (fun K=>K [.nilf])
 (fun f x y _ _ K=>K [(.fn f x y)])
 (fun u K=>K [(.yld u)])
 (fun K=>K [.nili])
 (fun t v _ K=>K [(.iface t v)])
 (fun l _ K=>K l)
 (fun _ _ K=>false)
 (fun t l n z _ K=>K [(.lst t l n z)])
 (fun t l o _ K=>K [(.lptr t l o)])
 (fun K=>K [.mpn])
 (fun i K=>K [(.mp i)]) () (fun _ _ _ _=>()) v
theorem uA (v:AV) (K:List AV→Bool):aCl v K=(match eG v with | some cs=>K cs | none=>false):=by
 cases v<;>rfl
noncomputable def asInt (v:AV):(IntKind→Int→Bool)→Bool→Bool:=AV.rec (motive_1:=fun _=>(IntKind→Int→Bool)→Bool→Bool) (motive_2:=fun _=>Unit) (fun K fb=>fb)
 (fun _ K fb=>fb)
 (fun _ K fb=>fb)
 (fun k n K fb=>K k n)
 (fun _ K fb=>fb)
 (fun K fb=>fb)
 (fun _ _ _ K fb=>fb)
 (fun _ _ K fb=>fb)
 (fun K fb=>fb)
 (fun _ _ _ _ _ K fb=>fb)
 (fun K fb=>fb)
 (fun _ _ _ _ _ K fb=>fb)
 (fun _ K fb=>fb)
 (fun K fb=>fb)
 (fun _ _ _ K fb=>fb)
 (fun _ _ K fb=>fb)
 (fun _ _ K fb=>fb)
 (fun _ _ _ _ _ K fb=>fb)
 (fun _ _ _ _ K fb=>fb)
 (fun K fb=>fb)
 (fun _ K fb=>fb) () (fun _ _ _ _=>()) v
noncomputable def asBool (v:AV):(Bool→Bool)→Bool→Bool:=AV.rec (motive_1:=fun _=>(Bool→Bool)→Bool→Bool) (motive_2:=fun _=>Unit) (fun K fb=>fb)
 (fun _ K fb=>fb)
 (fun b K fb=>fB b K)
 (fun _ _ K fb=>fb)
 (fun _ K fb=>fb)
 (fun K fb=>fb)
 (fun _ _ _ K fb=>fb)
 (fun _ _ K fb=>fb)
 (fun K fb=>fb)
 (fun _ _ _ _ _ K fb=>fb)
 (fun K fb=>fb)
 (fun _ _ _ _ _ K fb=>fb)
 (fun _ K fb=>fb)
 (fun K fb=>fb)
 (fun _ _ _ K fb=>fb)
 (fun _ _ K fb=>fb)
 (fun _ _ K fb=>fb)
 (fun _ _ _ _ _ K fb=>fb)
 (fun _ _ _ _ K fb=>fb)
 (fun K fb=>fb)
 (fun _ K fb=>fb) () (fun _ _ _ _=>()) v
noncomputable def xN (v:AV):(List UInt8→Bool)→Bool→Bool:=AV.rec (motive_1:=fun _=>(List UInt8→Bool)→Bool→Bool) (motive_2:=fun _=>Unit) (fun K fb=>fb)
 (fun _ K fb=>fb)
 (fun _ K fb=>fb)
 (fun _ _ K fb=>fb)
 (fun s K fb=>K s)
 (fun K fb=>fb)
 (fun _ _ _ K fb=>fb)
 (fun _ _ K fb=>fb)
 (fun K fb=>fb)
 (fun _ _ _ _ _ K fb=>fb)
 (fun K fb=>fb)
 (fun _ _ _ _ _ K fb=>fb)
 (fun _ K fb=>fb)
 (fun K fb=>fb)
 (fun _ _ _ K fb=>fb)
 (fun _ _ K fb=>fb)
 (fun _ _ K fb=>fb)
 (fun _ _ _ _ _ K fb=>fb)
 (fun _ _ _ _ K fb=>fb)
 (fun K fb=>fb)
 (fun _ K fb=>fb) () (fun _ _ _ _=>()) v
noncomputable def aFi (v:AV):(Nat→Nat→Nat→Bool)→Bool→Bool:=AV.rec (motive_1:=fun _=>(Nat→Nat→Nat→Bool)→Bool→Bool) (motive_2:=fun _=>Unit) (fun K fb=>fb)
 (fun _ K fb=>fb)
 (fun _ K fb=>fb)
 (fun _ _ K fb=>fb)
 (fun _ K fb=>fb)
 (fun K fb=>fb)
 (fun a b c K fb=>K a b c)
 (fun _ _ K fb=>fb)
 (fun K fb=>fb)
 (fun _ _ _ _ _ K fb=>fb)
 (fun K fb=>fb)
 (fun _ _ _ _ _ K fb=>fb)
 (fun _ K fb=>fb)
 (fun K fb=>fb)
 (fun _ _ _ K fb=>fb)
 (fun _ _ K fb=>fb)
 (fun _ _ K fb=>fb)
 (fun _ _ _ _ _ K fb=>fb)
 (fun _ _ _ _ K fb=>fb)
 (fun K fb=>fb)
 (fun _ K fb=>fb) () (fun _ _ _ _=>()) v
noncomputable def aP3 (v:AV):(Nat→Nat→Nat→Nat→Nat→Bool)→Bool→Bool:=AV.rec (motive_1:=fun _=>(Nat→Nat→Nat→Nat→Nat→Bool)→Bool→Bool) (motive_2:=fun _=>Unit) (fun K fb=>fb)
 (fun _ K fb=>fb)
 (fun _ K fb=>fb)
 (fun _ _ K fb=>fb)
 (fun _ K fb=>fb)
 (fun K fb=>fb)
 (fun _ _ _ K fb=>fb)
 (fun _ _ K fb=>fb)
 (fun K fb=>fb)
 (fun a b c d e K fb=>K a b c d e)
 (fun K fb=>fb)
 (fun _ _ _ _ _ K fb=>fb)
 (fun _ K fb=>fb)
 (fun K fb=>fb)
 (fun _ _ _ K fb=>fb)
 (fun _ _ K fb=>fb)
 (fun _ _ K fb=>fb)
 (fun _ _ _ _ _ K fb=>fb)
 (fun _ _ _ _ K fb=>fb)
 (fun K fb=>fb)
 (fun _ K fb=>fb) () (fun _ _ _ _=>()) v
noncomputable def aUx (v:AV):(List AV→Bool)→Bool→Bool:=AV.rec (motive_1:=fun _=>(List AV→Bool)→Bool→Bool) (motive_2:=fun _=>Unit) (fun K fb=>fb)
 (fun _ K fb=>fb)
 (fun _ K fb=>fb)
 (fun _ _ K fb=>fb)
 (fun _ K fb=>fb)
 (fun K fb=>fb)
 (fun _ _ _ K fb=>fb)
 (fun _ _ K fb=>fb)
 (fun K fb=>fb)
 (fun _ _ _ _ _ K fb=>fb)
 (fun K fb=>fb)
 (fun _ _ _ _ _ K fb=>fb)
 (fun _ K fb=>fb)
 (fun K fb=>fb)
 (fun _ _ _ K fb=>fb)
 (fun _ _ K fb=>fb)
 (fun l _ K fb=>K l)
 (fun _ _ _ _ _ K fb=>fb)
 (fun _ _ _ _ K fb=>fb)
 (fun K fb=>fb)
 (fun _ K fb=>fb) () (fun _ _ _ _=>()) v
noncomputable def asAgg (v:AV):(List AV→Bool)→Bool→Bool:=AV.rec (motive_1:=fun _=>(List AV→Bool)→Bool→Bool) (motive_2:=fun _=>Unit) (fun K fb=>fb)
 (fun _ K fb=>fb)
 (fun _ K fb=>fb)
 (fun _ _ K fb=>fb)
 (fun _ K fb=>fb)
 (fun K fb=>fb)
 (fun _ _ _ K fb=>fb)
 (fun _ _ K fb=>fb)
 (fun K fb=>fb)
 (fun _ _ _ _ _ K fb=>fb)
 (fun K fb=>fb)
 (fun _ _ _ _ _ K fb=>fb)
 (fun _ K fb=>fb)
 (fun K fb=>fb)
 (fun _ _ _ K fb=>fb)
 (fun l _ K fb=>K l)
 (fun _ _ K fb=>fb)
 (fun _ _ _ _ _ K fb=>fb)
 (fun _ _ _ _ K fb=>fb)
 (fun K fb=>fb)
 (fun _ K fb=>fb) () (fun _ _ _ _=>()) v
noncomputable def aF0 (v:AV):Bool:=AV.rec (motive_1:=fun _=>Bool) (motive_2:=fun _=>Unit) (false)
 (fun _=>false)
 (fun _=>false)
 (fun _ _=>false)
 (fun _=>false)
 (false)
 (fun _ _ _=>false)
 (fun _ _=>false)
 (true)
 (fun _ _ _ _ _=>false)
 (false)
 (fun _ _ _ _ _=>false)
 (fun _=>false)
 (false)
 (fun _ _ _=>false)
 (fun _ _=>false)
 (fun _ _=>false)
 (fun _ _ _ _ _=>false)
 (fun _ _ _ _=>false)
 (false)
 (fun _=>false) () (fun _ _ _ _=>()) v

mutual
noncomputable def fD:AV→(AV→Bool)→Bool
 | .bool b,K=>bif b then K (.bool true) else K (.bool false)
 | .int k n,K=>fI n fun n=>K (.int k n)
 | .str s,K=>fS s fun s=>K (.str s)
 | .ptr a b c,K=>fN a fun a=>fN b fun b=>fN c fun c=>K (.ptr a b c)
 | .gptr a b,K=>fN a fun a=>fN b fun b=>K (.gptr a b)
 | .mp a,K=>fN a fun a=>K (.mp a)
 | .sl a b c d e,K=>fN a fun a=>fN b fun b=>fN c fun c=>fN d fun d=>fN e fun e=>K (.sl a b c d e)
 | .agg l,K=>fDL l fun l=>K (.agg l)
 | .tup l,K=>fDL l fun l=>K (.tup l)
 | .lst t l n z,K=>fDL l fun l=>fN n fun n=>fN z fun z=>K (.lst t l n z)
 | .lptr t l o,K=>fDL l fun l=>fN o fun o=>K (.lptr t l o)
 | .fn f x y,K=>fDL x fun x=>fDL y fun y=>K (.fn f x y)
 | .iface t v,K=>fD v fun v=>K (.iface t v)
 | v,K=>K v
noncomputable def fDL:List AV→(List AV→Bool)→Bool
 | [],K=>K []
 | v::l,K=>fD v fun v=>fDL l fun l=>K (v::l)
end
mutual
theorem aRq:∀v K,fD v K=K v
 | .bool b,K=>by cases b<;>rfl
 | .int k n,K=>by rw[fD,zB]
 | .str s,K=>by rw[fD,bNm]
 | .ptr a b c,K=>by rw[fD,dP,dP,dP]
 | .gptr a b,K=>by rw[fD,dP,dP]
 | .mp a,K=>by rw[fD,dP]
 | .mpn,K=>rfl
 | .sl a b c d e,K=>by rw[fD,dP,dP,dP,dP,dP]
 | .agg l,K=>by rw[fD,nN]
 | .tup l,K=>by rw[fD,nN]
 | .lst t l n z,K=>by rw[fD,nN,dP,dP]
 | .lptr t l o,K=>by rw[fD,nN,dP]
 | .fn f x y,K=>by rw[fD,nN,nN]
 | .iface t v,K=>by rw[fD,aRq v]
 | .undef,K=>rfl
 | .opq i,K=>rfl
 | .nilp,K=>rfl
 | .nils,K=>rfl
 | .nilf,K=>rfl
 | .yld u,K=>rfl
 | .nili,K=>rfl
theorem nN:∀l K,fDL l K=K l
 | [],K=>rfl
 | v::l,K=>by rw[fDL,aRq v,nN l]
end
noncomputable def bKx (b:Option Blk) (K:Option Blk→Bool):Bool:=match b with
 | none=>K none
 | some b=>fDL b.cs fun cs=>fB b.lf fun lf=>K (some ⟨b.k,lf,cs⟩)
theorem aYn (b:Option Blk) (K:Option Blk→Bool):bKx b K=K b:=by
 cases b with
 | none=>rfl
 | some b=>rw[bKx,nN,lK]

noncomputable def evQ (tm:T) (x:AO):AV:=AO.rec (motive:=fun _=>AV) (fun n=>tm.getQ n) (fun v=>v) x
def evT (tm:T):AO→AV
 | .t n=>tm.get n
 | .c v=>v
theorem eP (tm:T) (x:AO):evQ tm x=evT tm x:=by
 cases x with
 | t n=>exact T.getQ_eq tm n
 | c v=>rfl
theorem aB0 (tm:T) (H:List Blk):S.ev ⟨tm,H⟩=evT tm:=by
 funext x;cases x<;>rfl

theorem bltQ_iff {a b:Nat}:Nat.blt a b=true↔a<b:=by rw[Nat.blt,Nat.ble_eq];exact Iff.rfl
noncomputable def kN (k:IntKind):Nat:=IntKind.rec (motive:=fun _=>Nat) 0 1 2 3 4 5 6 7 k
theorem bHf (a b:IntKind):Nat.beq (kN a) (kN b)=decide (a=b):=by cases a<;>cases b<;>rfl
noncomputable def aH7 (k:IntKind) (n:Int):Int:=IntKind.rec (motive:=fun _=>Int→Int)
 (fun n=>IntKind.wrap .i8 n) (fun n=>IntKind.wrap .i16 n) (fun n=>IntKind.wrap .i32 n)
 (fun n=>Int.rec (motive:=fun _=>Int) (fun m=>Bool.rec (motive:=fun _=>Int) (IntKind.wrap .i64 (.ofNat m)) (.ofNat m) (Nat.ble m 9223372036854775807)) (fun m=>Bool.rec (motive:=fun _=>Int) (IntKind.wrap .i64 (.negSucc m)) (.negSucc m) (Nat.ble m 9223372036854775807)) n)
 (fun n=>Int.rec (motive:=fun _=>Int) (fun m=>.ofNat (Nat.mod m 256)) (fun m=>IntKind.wrap .u8 (.negSucc m)) n)
 (fun n=>Int.rec (motive:=fun _=>Int) (fun m=>.ofNat (Nat.mod m 65536)) (fun m=>IntKind.wrap .u16 (.negSucc m)) n)
 (fun n=>Int.rec (motive:=fun _=>Int) (fun m=>.ofNat (Nat.mod m 4294967296)) (fun m=>IntKind.wrap .u32 (.negSucc m)) n)
 (fun n=>Int.rec (motive:=fun _=>Int) (fun m=>.ofNat (Nat.mod m 18446744073709551616)) (fun m=>IntKind.wrap .u64 (.negSucc m)) n) k n
theorem iO (k:IntKind) (n:Int):aH7 k n=k.wrap n:=by
 cases k with
 | i8=>rfl
 | i16=>rfl
 | i32=>rfl
 | i64=>cases n with
  | ofNat m=>
   show Bool.rec (motive:=fun _=>Int) (IntKind.wrap .i64 (.ofNat m)) (.ofNat m) (Nat.ble m 9223372036854775807)=_
   cases h:Nat.ble m 9223372036854775807
   ·rfl
   ·rw[Nat.ble_eq] at h
    rw[IntKind.wrap_i64]
    show Int.ofNat m=_
    simp only[Int.ofNat_eq_natCast]
    omega
  | negSucc m=>
   show Bool.rec (motive:=fun _=>Int) (IntKind.wrap .i64 (.negSucc m)) (.negSucc m) (Nat.ble m 9223372036854775807)=_
   cases h:Nat.ble m 9223372036854775807
   ·rfl
   ·rw[Nat.ble_eq] at h
    rw[IntKind.wrap_i64]
    show Int.negSucc m=_
    rw[Int.negSucc_eq]
    omega
 | u8=>cases n with
  | ofNat m=>
   rw[IntKind.wrap_u8]
   show Int.ofNat (m%256)=_
   simp only[Int.ofNat_eq_natCast]
   omega
  | negSucc m=>rfl
 | u16=>cases n with
  | ofNat m=>
   rw[IntKind.wrap_u16]
   show Int.ofNat (m%65536)=_
   simp only[Int.ofNat_eq_natCast]
   omega
  | negSucc m=>rfl
 | u32=>cases n with
  | ofNat m=>
   rw[IntKind.wrap_u32]
   show Int.ofNat (m%4294967296)=_
   simp only[Int.ofNat_eq_natCast]
   omega
  | negSucc m=>rfl
 | u64=>cases n with
  | ofNat m=>
   rw[IntKind.wrap_u64]
   show Int.ofNat (m%18446744073709551616)=_
   simp only[Int.ofNat_eq_natCast]
   omega
  | negSucc m=>rfl
noncomputable def ltQ (a b:Int):Bool:=Int.rec (motive:=fun _=>Bool) (fun m=>Int.rec (motive:=fun _=>Bool) (fun n=>Nat.blt m n) (fun _=>false) b) (fun m=>Int.rec (motive:=fun _=>Bool) (fun _=>true) (fun n=>Nat.blt n m) b) a
theorem aG9 (a b:Int):ltQ a b=decide (a<b):=by
 cases a with
 | ofNat m=>cases b with
  | ofNat n=>
   show Nat.blt m n=_
   cases h:Nat.blt m n
   ·symm;rw[decide_eq_false_iff_not];intro h2;simp only[Int.ofNat_eq_natCast] at h2
    have:Nat.blt m n=true:=(bltQ_iff).2 (by omega)
    rw[h] at this;cases this
   ·symm;rw[decide_eq_true_eq];rw[bltQ_iff] at h;simp only[Int.ofNat_eq_natCast];omega
  | negSucc n=>symm;show decide _=false;rw[decide_eq_false_iff_not];simp only[Int.ofNat_eq_natCast,Int.negSucc_eq];omega
 | negSucc m=>cases b with
  | ofNat n=>symm;show decide _=true;rw[decide_eq_true_eq];simp only[Int.ofNat_eq_natCast,Int.negSucc_eq];omega
  | negSucc n=>
   show Nat.blt n m=_
   cases h:Nat.blt n m
   ·symm;rw[decide_eq_false_iff_not];intro h2;simp only[Int.negSucc_eq] at h2
    have:Nat.blt n m=true:=(bltQ_iff).2 (by omega)
    rw[h] at this;cases this
   ·symm;rw[decide_eq_true_eq];rw[bltQ_iff] at h;simp only[Int.negSucc_eq];omega
noncomputable def eqQ (a b:Int):Bool:=Int.rec (motive:=fun _=>Bool) (fun m=>Int.rec (motive:=fun _=>Bool) (fun n=>Nat.beq m n) (fun _=>false) b) (fun m=>Int.rec (motive:=fun _=>Bool) (fun _=>false) (fun n=>Nat.beq m n) b) a
theorem aVt (a b:Int):eqQ a b=(a==b):=by
 have hb:∀m n:Nat,Nat.beq m n=decide (m=n):=fun m n=>by
  cases h:Nat.beq m n
  ·symm;rw[decide_eq_false_iff_not];exact Nat.ne_of_beq_eq_false h
  ·symm;rw[decide_eq_true_eq];exact Nat.eq_of_beq_eq_true h
 cases a with
 | ofNat m=>cases b with
  | ofNat n=>show Nat.beq m n=_;rw[hb,Bool.eq_iff_iff];simp;omega
  | negSucc n=>rw[Bool.eq_iff_iff];simp[eqQ]
 | negSucc m=>cases b with
  | ofNat n=>rw[Bool.eq_iff_iff];simp[eqQ]
  | negSucc n=>show Nat.beq m n=_;rw[hb,Bool.eq_iff_iff];simp
noncomputable def bN0 (a:List UInt8):List UInt8→Bool:=List.rec (motive:=fun _=>List UInt8→Bool) (fun b=>List.rec (motive:=fun _=>Bool) true (fun _ _ _=>false) b)
 (fun c _ ih b=>List.rec (motive:=fun _=>Bool) false (fun d t _=>Bool.rec (motive:=fun _=>Bool) false (ih t) (Nat.beq c.toNat d.toNat)) b) a
theorem aKm (a:List UInt8):∀b,bN0 a b=eqB a b:=by
 induction a with
 | nil=>intro b;cases b<;>rfl
 | cons c a ih=>
  intro b
  cases b with
  | nil=>rfl
  | cons d b=>
   show Bool.rec (motive:=fun _=>Bool) false (bN0 a b) (Nat.beq c.toNat d.toNat)=_
   rw[ih,eqB]
   cases Nat.beq c.toNat d.toNat<;>rfl
noncomputable def cOf (l:List UInt8):(List AV→Bool)→Bool:=List.rec (motive:=fun _=>(List AV→Bool)→Bool) (fun K=>K []) (fun c _ ih K=>fN c.toNat fun n=>ih fun l=>K (.int .u8 (.ofNat n)::l)) l
theorem aVl (l:List UInt8):∀K,cOf l K=K (ofBytes l):=by
 induction l with
 | nil=>intro K;rfl
 | cons c l ih=>
  intro K
  show fN c.toNat (fun n=>cOf l fun l=>K (.int .u8 (.ofNat n)::l))=_
  rw[dP,ih]
  rfl

abbrev GL:=Nat→Option (List AV)
abbrev KLt:=AV→Option Blk→List Rdc→Bool
def dO (gl:GL) (ev:AO→AV) (H:List Blk) (op:AOp) (KL:KLt):Bool:=match lop gl ev (cur H) (aJ H) H.length op with
 | some r=>bif r.pre then KL r.v r.nb r.rd else false
 | none=>false
noncomputable def ncQ (k:BK) (lf:Bool) (cs:List AV) (tot:Nat):Bool:=BK.rec (motive:=fun _=>Bool) (!isMap ⟨.ro,lf,cs⟩&&Nat.beq (lI cs) tot) (Nat.beq (lI cs) tot) (Nat.beq (lI cs) tot) k
theorem qA {k lf cs tot}:ncQ k lf cs tot=(!isMap ⟨k,lf,cs⟩&&Nat.beq cs.length tot):=by
 cases k
 ·show (!isMap ⟨.ro,lf,cs⟩&&Nat.beq (lI cs) tot)=_;rw[dE]
 ·show Nat.beq (lI cs) tot=_;rw[dE];rfl
 ·show Nat.beq (lI cs) tot=_;rw[dE];rfl
noncomputable def aP7 (H:List Blk) (id tot:Nat):Bool:=Option.rec (motive:=fun _=>Bool) false (fun b=>Blk.rec (motive:=fun _=>Bool) (fun k lf cs=>ncQ k lf cs tot) b) (getQ H id)
theorem kV (H:List Blk):aP7 H=cur H:=by
 funext id tot
 unfold aP7 cur
 rw[getQ_eq]
 cases H[id]? with
 | none=>rfl
 | some b=>
  obtain ⟨k,lf,cs⟩:=b
  exact qA
noncomputable def caQ (H:List Blk) (id off size:Nat):List AV:=Option.rec (motive:=fun _=>List AV) [] (fun b=>Blk.rec (motive:=fun _=>List AV) (fun _ _ cs=>(cs.drop off).take size) b) (getQ H id)
theorem bGp (H:List Blk):caQ H=aJ H:=by
 funext id off size
 unfold caQ aJ
 rw[getQ_eq]
 cases H[id]? with
 | none=>rfl
 | some b=>rfl
noncomputable def eX (gl:GL) (tm:T) (H:List Blk) (op:AOp) (KL:KLt):Bool:=match lop gl (evQ tm) (aP7 H) (caQ H) (lI H) op with
 | some r=>bif r.pre then fD r.v fun v=>bKx r.nb fun nb=>KL v nb r.rd else false
 | none=>false
theorem aL (gl:GL) (tm:T) (H:List Blk) (op:AOp) (KL:KLt):eX gl tm H op KL=dO gl (evT tm) H op KL:=by
 have h1:evQ tm=evT tm:=funext (eP tm)
 unfold eX dO
 rw[h1,kV,bGp,dE]
 cases lop gl (evT tm) (cur H) (aJ H) H.length op with
 | none=>rfl
 | some r=>
  show (bif r.pre then fD r.v fun v=>bKx r.nb fun nb=>KL v nb r.rd else false)=_
  rw[aRq,aYn]

noncomputable def aVk (K:IntKind→Int→Int→Bool) (fb:Bool) (k:IntKind) (a:Int) (k':IntKind) (b:Int):Bool:=Bool.rec (motive:=fun _=>Bool) fb (K k a b) (Nat.beq (kN k) (kN k'))
noncomputable def bEg (w:AV) (K:IntKind→Int→Int→Bool) (fb:Bool) (k:IntKind) (a:Int):Bool:=asInt w (aVk K fb k a) fb
noncomputable def aCd (v w:AV) (K:IntKind→Int→Int→Bool) (fb:Bool):Bool:=asInt v (bEg w K fb) fb
theorem gV {v:AV} {K:IntKind→Int→Bool} {fb R:Bool} (h:∀k n,v=.int k n→K k n=R) (hf:fb=R):asInt v K fb=R:=by
 cases v<;>first | exact hf | exact h _ _ rfl
theorem aAv {v:AV} {K:Bool→Bool} {fb R:Bool} (h:∀b,v=.bool b→K b=R) (hf:fb=R):asBool v K fb=R:=by
 cases v with
 | bool b=>exact (lK b K).trans (h b rfl)
 | _=>exact hf
theorem iL {v:AV} {K:List UInt8→Bool} {fb R:Bool} (h:∀s,v=.str s→K s=R) (hf:fb=R):xN v K fb=R:=by
 cases v<;>first | exact hf | exact h _ rfl
theorem zH {v:AV} {K:Nat→Nat→Nat→Bool} {fb R:Bool} (h:∀a b c,v=.ptr a b c→K a b c=R) (hf:fb=R):aFi v K fb=R:=by
 cases v<;>first | exact hf | exact h _ _ _ rfl
theorem aEp {v:AV} {K:Nat→Nat→Nat→Nat→Nat→Bool} {fb R:Bool} (h:∀a b c d e,v=.sl a b c d e→K a b c d e=R) (hf:fb=R):aP3 v K fb=R:=by
 cases v<;>first | exact hf | exact h _ _ _ _ _ rfl
theorem aSx {v:AV} {K:List AV→Bool} {fb R:Bool} (h:∀l,v=.tup l→K l=R) (hf:fb=R):aUx v K fb=R:=by
 cases v<;>first | exact hf | exact h _ rfl
theorem aHa {v:AV} {K:List AV→Bool} {fb R:Bool} (h:∀l,v=.agg l→K l=R) (hf:fb=R):asAgg v K fb=R:=by
 cases v<;>first | exact hf | exact h _ rfl
theorem dK {v w:AV} {K:IntKind→Int→Int→Bool} {fb R:Bool} (h:∀k a b,v=.int k a→w=.int k b→K k a b=R) (hf:fb=R):aCd v w K fb=R:=by
 refine gV (fun k a hv=>gV (fun k' b hw => ?_) hf) hf
 unfold aVk;rw[bHf]
 by_cases hk:k=k'
 ·subst hk
  rw[decide_eq_true rfl]
  exact h k a b hv hw
 ·rw[decide_eq_false hk]
  exact hf
theorem bA {tm:T} {x:AO} {v:AV} (h:evQ tm x=v):evT tm x=v:=(eP tm x).symm.trans h

section
variable (gl:GL) (tm:T) (H:List Blk) (KL:KLt)
noncomputable def bKv (KL:KLt) (k:IntKind) (n:Int):Bool:=KL (.int k n) none []
noncomputable def aMk (KL:KLt) (t:Bool):Bool:=KL (.bool t) none []
noncomputable def kAr (KL:KLt) (f:Int→Int→Int) (k:IntKind) (a b:Int):Bool:=fI (aH7 k (f a b)) (bKv KL k)
noncomputable def bHr (KL:KLt) (f:Int→Int→Bool) (_:IntKind) (a b:Int):Bool:=fB (f a b) (aMk KL)
noncomputable def arQ (op:BinOp) (f:Int→Int→Int) (sh:Sh) (x y:AO):Bool:=aCd (evQ tm x) (evQ tm y) (kAr KL f) (eX gl tm H (.bin op sh x y) KL)
theorem aZd (sh x y):arQ gl tm H KL .add Int.add sh x y=dO gl (evT tm) H (.bin .add sh x y) KL:=
 dK (fun k a b hv hw=>by
  rw[kAr,zB,iO,bKv]
  simp only[dO,lop,bA hv,bA hw,binop,if_true,bP,Bool.and_self,cond_true,List.map_nil]
  rfl) (aL ..)
theorem bAj (sh x y):arQ gl tm H KL .sub Int.sub sh x y=dO gl (evT tm) H (.bin .sub sh x y) KL:=
 dK (fun k a b hv hw=>by
  rw[kAr,zB,iO,bKv]
  simp only[dO,lop,bA hv,bA hw,binop,if_true,bP,Bool.and_self,cond_true,List.map_nil]
  rfl) (aL ..)
theorem aYq (sh x y):arQ gl tm H KL .mul Int.mul sh x y=dO gl (evT tm) H (.bin .mul sh x y) KL:=
 dK (fun k a b hv hw=>by
  rw[kAr,zB,iO,bKv]
  simp only[dO,lop,bA hv,bA hw,binop,if_true,bP,Bool.and_self,cond_true,List.map_nil]
  rfl) (aL ..)
noncomputable def aV1 (op:BinOp) (f:Int→Int→Bool) (sh:Sh) (x y:AO):Bool:=aCd (evQ tm x) (evQ tm y) (bHr KL f) (eX gl tm H (.bin op sh x y) KL)
theorem aSs (sh x y):aV1 gl tm H KL .lss ltQ sh x y=dO gl (evT tm) H (.bin .lss sh x y) KL:=
 dK (fun k a b hv hw=>by
  rw[bHr,lK,aMk]
  try simp only[]
  rw[aG9]
  simp only[dO,lop,bA hv,bA hw,binop,if_true,bP,Bool.and_self,cond_true,List.map_nil]) (aL ..)
theorem aQ1 (sh x y):aV1 gl tm H KL .gtr (fun a b=>ltQ b a) sh x y=dO gl (evT tm) H (.bin .gtr sh x y) KL:=
 dK (fun k a b hv hw=>by
  rw[bHr,lK,aMk]
  try simp only[]
  rw[aG9]
  simp only[dO,lop,bA hv,bA hw,binop,if_true,bP,Bool.and_self,cond_true,List.map_nil,gt_iff_lt]) (aL ..)
theorem aTo (sh x y):aV1 gl tm H KL .leq (fun a b => !ltQ b a) sh x y=dO gl (evT tm) H (.bin .leq sh x y) KL:=
 dK (fun k a b hv hw=>by
  rw[bHr,lK,aMk]
  try simp only[]
  rw[aG9]
  have e:(!decide (b<a))=decide (a≤b):=by rw[Bool.eq_iff_iff];simp
  simp only[dO,lop,bA hv,bA hw,binop,if_true,bP,Bool.and_self,cond_true,List.map_nil,e]) (aL ..)
theorem aUk (sh x y):aV1 gl tm H KL .geq (fun a b => !ltQ a b) sh x y=dO gl (evT tm) H (.bin .geq sh x y) KL:=
 dK (fun k a b hv hw=>by
  rw[bHr,lK,aMk]
  try simp only[]
  rw[aG9]
  have e:(!decide (a<b))=decide (a≥b):=by rw[Bool.eq_iff_iff];simp
  simp only[dO,lop,bA hv,bA hw,binop,if_true,bP,Bool.and_self,cond_true,List.map_nil,e]) (aL ..)
noncomputable def bKn (op:BinOp) (neg:Bool) (sh:Sh) (x y:AO):Bool:=aCd (evQ tm x) (evQ tm y) (fun _ a b=>fB (bif neg then !eqQ a b else eqQ a b) fun t=>KL (.bool t) none [])
 (xN (evQ tm x) (fun a=>xN (evQ tm y) (fun b=>fB (bif neg then !bN0 a b else bN0 a b) fun t=>KL (.bool t) none []) (eX gl tm H (.bin op sh x y) KL)) (eX gl tm H (.bin op sh x y) KL))
theorem aQy (sh x y):bKn gl tm H KL .eql false sh x y=dO gl (evT tm) H (.bin .eql sh x y) KL:=by
 refine dK (fun k a b hv hw => ?_) (iL (fun a hv=>iL (fun b hw => ?_) (aL ..)) (aL ..))
 ·rw[lK,aVt]
  simp only[dO,lop,bA hv,bA hw,binop,if_true,bP,Bool.and_self,cond_true,cond_false,List.map_nil]
 ·rw[lK,aKm]
  simp only[dO,lop,bA hv,bA hw,binop,if_true,bP,Bool.and_self,cond_true,cond_false,List.map_nil]
theorem aR7 (sh x y):bKn gl tm H KL .neq true sh x y=dO gl (evT tm) H (.bin .neq sh x y) KL:=by
 refine dK (fun k a b hv hw => ?_) (iL (fun a hv=>iL (fun b hw => ?_) (aL ..)) (aL ..))
 ·rw[lK,aVt]
  simp only[dO,lop,bA hv,bA hw,binop,if_true,bP,Bool.and_self,cond_true,cond_false,List.map_nil,bne]
 ·rw[lK,aKm]
  simp only[dO,lop,bA hv,bA hw,binop,if_true,bP,Bool.and_self,cond_true,cond_false,List.map_nil]
noncomputable def aJj (n:Int) (K:Nat→Bool) (fb:Bool):Bool:=Int.rec (motive:=fun _=>Bool) K (fun _=>fb) n
theorem gD {n:Int} {K:Nat→Bool} {fb R:Bool} (h:∀m:Nat,n=.ofNat m→K m=R) (hf:fb=R):aJj n K fb=R:=by
 cases n with
 | ofNat m=>exact h m rfl
 | negSucc m=>exact hf
noncomputable def shQ (left:Bool) (sh:Sh) (x y:AO):Bool:=asInt (evQ tm x) (fun k a=>asInt (evQ tm y) (fun _ b=>aJj a (fun m=>aJj b (fun s=>
  Bool.rec (motive:=fun _=>Bool) (KL (.int k (.ofNat (Nat.div m (Nat.pow 2 (min s k.bits))))) none []) (fI (aH7 k (.ofNat (Nat.mul m (Nat.pow 2 (min s k.bits))))) fun n=>KL (.int k n) none []) left)
  (eX gl tm H (.bin (bif left then .shl else .shr) sh x y) KL)) (eX gl tm H (.bin (bif left then .shl else .shr) sh x y) KL)) (eX gl tm H (.bin (bif left then .shl else .shr) sh x y) KL)) (eX gl tm H (.bin (bif left then .shl else .shr) sh x y) KL)
theorem aV8 (left:Bool) (sh x y):shQ gl tm H KL left sh x y=dO gl (evT tm) H (.bin (bif left then .shl else .shr) sh x y) KL:=by
 refine gV (fun k a hv=>gV (fun k' b hw=>gD (fun m hm=>gD (fun s hs => ?_) (aL ..)) (aL ..)) (aL ..)) (aL ..)
 subst hm hs
 have h0:decide ((0:Int)≤Int.ofNat s)=true:=decide_eq_true (by simp)
 cases left
 ·show KL (.int k (.ofNat (Nat.div m (Nat.pow 2 (min s k.bits))))) none []=_
  have e:Int.fdiv (Int.ofNat m) (2^min (Int.ofNat s).toNat k.bits)=Int.ofNat (Nat.div m (Nat.pow 2 (min s k.bits))):=by
   rw[show (2:Int)^min (Int.ofNat s).toNat k.bits=Int.ofNat (2^min s k.bits) from (Int.natCast_pow 2 _).symm]
   show Int.fdiv (m:Int) ((2^min s k.bits:Nat):Int)=((m/2^min s k.bits:Nat):Int)
   rw[Int.fdiv_eq_ediv_of_nonneg _ (Int.natCast_nonneg _)]
   exact (Int.natCast_ediv _ _).symm
  simp only[cond_false,dO,lop,bA hv,bA hw,binop,h0,bP,Bool.and_self,cond_true,List.map_nil,e]
 ·show fI (aH7 k (.ofNat (Nat.mul m (Nat.pow 2 (min s k.bits))))) (fun n=>KL (.int k n) none [])=_
  rw[zB,iO]
  have e:Int.ofNat m*2^min (Int.ofNat s).toNat k.bits=Int.ofNat (Nat.mul m (Nat.pow 2 (min s k.bits))):=by
   rw[show (2:Int)^min (Int.ofNat s).toNat k.bits=Int.ofNat (2^min s k.bits) from (Int.natCast_pow 2 _).symm]
   rfl
  simp only[dO,lop,bA hv,bA hw,binop,h0,bP,Bool.and_self,cond_true,List.map_nil,e]
noncomputable def pB (k:IntKind):Nat:=IntKind.rec (motive:=fun _=>Nat) 256 65536 4294967296 18446744073709551616 256 65536 4294967296 18446744073709551616 k
theorem bA0 (k:IntKind) (x:Nat):(Int.ofNat x%(2^k.bits:Int)).toNat=x%pB k:=by
 have h:((2:Int)^k.bits)=((pB k:Nat):Int):=by cases k<;>rfl
 rw[h]
 show ((x:Int)%(pB k:Int)).toNat=_
 omega
noncomputable def bDe (op:BinOp) (f:Nat→Nat→Nat) (sh:Sh) (x y:AO):Bool:=aCd (evQ tm x) (evQ tm y) (fun k a b=>aJj a (fun m=>aJj b (fun n=>fI (aH7 k (.ofNat (f (Nat.mod m (pB k)) (Nat.mod n (pB k))))) fun n=>KL (.int k n) none [])
  (eX gl tm H (.bin op sh x y) KL)) (eX gl tm H (.bin op sh x y) KL)) (eX gl tm H (.bin op sh x y) KL)
theorem aRg (sh x y):bDe gl tm H KL .and Nat.land sh x y=dO gl (evT tm) H (.bin .and sh x y) KL:=by
 refine dK (fun k a b hv hw=>gD (fun m hm=>gD (fun n hn => ?_) (aL ..)) (aL ..)) (aL ..)
 subst hm hn
 rw[zB,iO]
 simp only[dO,lop,bA hv,bA hw,binop,if_true,intBits,bA0,Option.map_some,bP,Bool.and_self,cond_true,List.map_nil]
 rfl
theorem aXy (sh x y):bDe gl tm H KL .or Nat.lor sh x y=dO gl (evT tm) H (.bin .or sh x y) KL:=by
 refine dK (fun k a b hv hw=>gD (fun m hm=>gD (fun n hn => ?_) (aL ..)) (aL ..)) (aL ..)
 subst hm hn
 rw[zB,iO]
 simp only[dO,lop,bA hv,bA hw,binop,if_true,intBits,bA0,Option.map_some,bP,Bool.and_self,cond_true,List.map_nil]
 rfl
theorem aUn (sh x y):bDe gl tm H KL .xor Nat.xor sh x y=dO gl (evT tm) H (.bin .xor sh x y) KL:=by
 refine dK (fun k a b hv hw=>gD (fun m hm=>gD (fun n hn => ?_) (aL ..)) (aL ..)) (aL ..)
 subst hm hn
 rw[zB,iO]
 simp only[dO,lop,bA hv,bA hw,binop,if_true,intBits,bA0,Option.map_some,bP,Bool.and_self,cond_true,List.map_nil]
 rfl
end
abbrev BT:=GL→T→List Blk→KLt→Sh→AO→AO→Bool
noncomputable def bOb (op:BinOp):BT:=BinOp.rec (motive:=fun _=>BT)
 (fun gl tm H KL sh x y=>arQ gl tm H KL .add Int.add sh x y) (fun gl tm H KL sh x y=>arQ gl tm H KL .sub Int.sub sh x y) (fun gl tm H KL sh x y=>arQ gl tm H KL .mul Int.mul sh x y)
 (fun gl tm H KL sh x y=>eX gl tm H (.bin .quo sh x y) KL) (fun gl tm H KL sh x y=>eX gl tm H (.bin .rem sh x y) KL)
 (fun gl tm H KL sh x y=>bDe gl tm H KL .and Nat.land sh x y) (fun gl tm H KL sh x y=>bDe gl tm H KL .or Nat.lor sh x y) (fun gl tm H KL sh x y=>bDe gl tm H KL .xor Nat.xor sh x y)
 (fun gl tm H KL sh x y=>shQ gl tm H KL true sh x y) (fun gl tm H KL sh x y=>shQ gl tm H KL false sh x y) (fun gl tm H KL sh x y=>eX gl tm H (.bin .andNot sh x y) KL)
 (fun gl tm H KL sh x y=>bKn gl tm H KL .eql false sh x y) (fun gl tm H KL sh x y=>bKn gl tm H KL .neq true sh x y)
 (fun gl tm H KL sh x y=>aV1 gl tm H KL .lss ltQ sh x y) (fun gl tm H KL sh x y=>aV1 gl tm H KL .leq (fun a b => !ltQ b a) sh x y)
 (fun gl tm H KL sh x y=>aV1 gl tm H KL .gtr (fun a b=>ltQ b a) sh x y) (fun gl tm H KL sh x y=>aV1 gl tm H KL .geq (fun a b => !ltQ a b) sh x y) op
theorem bB0 (op:BinOp) (gl tm H KL sh x y):bOb op gl tm H KL sh x y=dO gl (evT tm) H (.bin op sh x y) KL:=by
 cases op with
 | add=>exact aZd ..
 | sub=>exact bAj ..
 | mul=>exact aYq ..
 | quo=>exact aL ..
 | rem=>exact aL ..
 | and=>exact aRg ..
 | or=>exact aXy ..
 | xor=>exact aUn ..
 | shl=>exact aV8 gl tm H KL true sh x y
 | shr=>exact aV8 gl tm H KL false sh x y
 | andNot=>exact aL ..
 | eql=>exact aQy ..
 | neq=>exact aR7 ..
 | lss=>exact aSs ..
 | leq=>exact aTo ..
 | gtr=>exact aQ1 ..
 | geq=>exact aUk ..
end Go.Proofs.YtnhechnaemmdiaaGreatDoor

namespace Go.Proofs.YtnhechnaemmdiaaGreatDoor
open Go.RowKit

theorem aMa {gl:GL} {ev:AO→AV} {H:List Blk} {op:AOp} {KL:KLt} {r:LR} (h:lop gl ev (cur H) (aJ H) H.length op=some r):dO gl ev H op KL=(bif r.pre then KL r.v r.nb r.rd else false):=by
 unfold dO;rw[h]
noncomputable def aVn (H:List Blk) (k:BK) (cs:List AV) (K:Nat→Nat→Option Blk→Bool):Bool:=fN (lI H) fun nid=>fN (lI cs) fun n=>fB (aR 0 cs) fun lf=>K nid n (some ⟨k,lf,cs⟩)
theorem rV (H:List Blk) (k:BK) (cs:List AV) (K:Nat→Nat→Option Blk→Bool):aVn H k cs K=K H.length cs.length (some (fQ k cs)):=by
 unfold aVn
 rw[dP,dP,lK,dE,dE]
 rfl
noncomputable def pJ {α:Type} (o:Option α) (K:α→Bool):Bool:=Option.rec (motive:=fun _=>Bool) false K o
noncomputable def ifB (b:Bool) (t:Bool):Bool:=Bool.rec (motive:=fun _=>Bool) false t b
theorem eF (b t:Bool):ifB b t=(bif b then t else false):=by cases b<;>rfl
noncomputable def bB2 (b:Blk) (K:BK→Bool→List AV→Bool):Bool:=Blk.rec (motive:=fun _=>Bool) K b
noncomputable def bIp (tm:T) (o:Option AO) (d:Nat) (K:Nat→Bool):Bool:=Option.rec (motive:=fun _=>Bool) (K d) (fun x=>asInt (evQ tm x) (fun _ n=>aJj n K false) false) o
theorem zY (tm:T) (o:Option AO) (d:Nat) (K:Nat→Bool):bIp tm o d K=(match bnd (evT tm) o d with | some (p,n)=>(bif p then K n else false) | none=>false):=by
 cases o with
 | none=>rfl
 | some x=>
  show asInt (evQ tm x) (fun _ n=>aJj n K false) false=(match kE (evT tm x) with | some (p,n)=>(bif p then K n else false) | none=>false)
  rw[eP]
  cases evT tm x with
  | int k n=>
   cases n with
   | ofNat m=>
    show K m=bif decide (0≤Int.ofNat m) then K (Int.ofNat m).toNat else false
    rw[decide_eq_true (by simp)]
    rfl
   | negSucc m=>
    show false=bif decide (0≤Int.negSucc m) then _ else false
    rw[decide_eq_false (by omega)]
    rfl
  | _=>rfl

section
variable (gl:GL) (tm:T) (H:List Blk) (KL:KLt)
noncomputable def bPu (KL:KLt) (v:AV):Bool:=KL v none []
noncomputable def mvQ (x:AO):Bool:=fv (evQ tm x) (bPu KL)
theorem bHj (x):mvQ tm KL x=dO gl (evT tm) H (.mv x) KL:=by
 unfold mvQ;rw[aIl,eP];rfl
noncomputable def bEe (c a b:AO):Bool:=asBool (evQ tm c) (fun t=>Bool.rec (motive:=fun _=>Bool) (fv (evQ tm b) fun v=>KL v none []) (fv (evQ tm a) fun v=>KL v none []) t) (eX gl tm H (.pick c a b) KL)
theorem aQz (c a b):bEe gl tm H KL c a b=dO gl (evT tm) H (.pick c a b) KL:=by
 refine aAv (fun t ht => ?_) (aL ..)
 cases t
 ·show fv (evQ tm b) _=_
  rw[aIl,eP];simp only[dO,lop,bA ht,cond_true,cond_false]
 ·show fv (evQ tm a) _=_
  rw[aIl,eP];simp only[dO,lop,bA ht,cond_true,cond_false]
noncomputable def bLo (x:AO):Bool:=aCl (evQ tm x) fun cs=>aVn H .exact cs fun nid n nb=>KL (.ptr nid n 0) nb []
theorem bAn (x):bLo tm H KL x=dO gl (evT tm) H (.box x) KL:=by
 unfold bLo
 rw[uA,eP]
 simp only[dO,lop]
 cases eG (evT tm x) with
 | none=>rfl
 | some cs=>exact rV H .exact cs fun nid n nb=>KL (.ptr nid n 0) nb []
noncomputable def aB4 (tm:T) (ps:List (Nat×Nat×AO)):List AV→(List AV→Bool)→Bool:=List.rec (motive:=fun _=>List AV→(List AV→Bool)→Bool) (fun cs K=>K cs)
 (fun p _ ih cs K=>Prod.rec (motive:=fun _=>Bool) (fun o q=>Prod.rec (motive:=fun _=>Bool) (fun n x=>aCl (evQ tm x) fun v=>ifB (Nat.beq (lI v) n) (ifB (Nat.ble (o+n) (lI cs)) (aJc v cs o fun cs'=>ih cs' K))) q) p) ps
theorem aB2 (ps:List (Nat×Nat×AO)):∀cs K,aB4 tm ps cs K=(match jT (evT tm) cs ps with | some (b,r)=>(bif b then K r else false) | none=>false):=by
 induction ps with
 | nil=>intro cs K;rfl
 | cons p ps ih=>
  intro cs K
  obtain ⟨o,n,x⟩:=p
  show aCl (evQ tm x) (fun v=>ifB (Nat.beq (lI v) n) (ifB (Nat.ble (o+n) (lI cs)) (aJc v cs o fun cs'=>aB4 tm ps cs' K)))=_
  rw[uA,eP,jT]
  cases eG (evT tm x) with
  | none=>rfl
  | some v=>
   show ifB (Nat.beq (lI v) n) (ifB (Nat.ble (o+n) (lI cs)) (aJc v cs o fun cs'=>aB4 tm ps cs' K))=_
   rw[eF,eF,yN,dE,dE,ih]
   simp only[]
   cases jT (evT tm) (aM cs o v) ps with
   | none=>simp only[];cases Nat.beq v.length n<;>cases Nat.ble (o+n) cs.length<;>rfl
   | some br=>obtain ⟨b,r⟩:=br;simp only[];cases Nat.beq v.length n<;>cases Nat.ble (o+n) cs.length<;>cases b<;>rfl
noncomputable def aLi (z:List AV) (ps:List (Nat×Nat×AO)):Bool:=aB4 tm ps z fun cs=>KL (.agg cs) none []
theorem aMn (z ps):aLi tm KL z ps=dO gl (evT tm) H (.build z ps) KL:=by
 unfold aLi
 rw[aB2]
 simp only[dO,lop]
 cases jT (evT tm) z ps with
 | none=>rfl
 | some br=>rfl
noncomputable def bMs (z:List AV) (size n:Nat) (ps:List (Nat×Nat×AO)):Bool:=aB4 tm ps z fun cs=>aVn H .exact cs fun nid len nb=>KL (.sl nid len 0 n size) nb []
theorem bCe (z size n ps):bMs tm H KL z size n ps=dO gl (evT tm) H (.bsl z size n ps) KL:=by
 unfold bMs
 rw[aB2]
 simp only[dO,lop]
 cases jT (evT tm) z ps with
 | none=>rfl
 | some br=>
  obtain ⟨b,cs⟩:=br
  simp only[]
  rw[rV]
noncomputable def ldQ (agg:Bool) (n:Nat) (a:AO):Bool:=aFi (evQ tm a) (fun id tot off=>pJ (getQ H id) fun b=>bB2 b fun k lf cs=>ifB (ncQ k lf cs tot)
  (Bool.rec (motive:=fun _=>Bool) (pJ (getQ cs off) fun v=>KL v none [⟨id,off,1⟩]) (ifB (Nat.ble (off+n) tot) (nS cs off fun r=>lS r n fun l=>KL (.agg l) none [⟨id,off,n⟩])) agg)) (eX gl tm H (.ld agg n a) KL)
theorem bFa (agg n a):ldQ gl tm H KL agg n a=dO gl (evT tm) H (.ld agg n a) KL:=by
 refine zH (fun id tot off h => ?_) (aL ..)
 rw[aMa (r:=bif agg then { v:=.agg (aJ H id off n),pre:=cur H id tot&&Nat.ble (off+n) tot,rd:=[⟨id,off,n⟩] }
    else { v:=(aJ H id off 1).getD 0 .undef,pre:=cur H id tot&&Nat.blt off tot,rd:=[⟨id,off,1⟩] }) (by simp only[lop,bA h])]
 rw[getQ_eq]
 cases hb:H[id]? with
 | none=>
  have hc:cur H id tot=false:=by unfold cur;rw[hb]
  cases agg<;>simp[hc,pJ]
 | some b=>
  show ifB (ncQ b.k b.lf b.cs tot) _=_
  have hc:cur H id tot=ncQ b.k b.lf b.cs tot:=by unfold cur;rw[hb,qA]
  have hca:∀o s,aJ H id o s=(b.cs.drop o).take s:=fun o s=>by unfold aJ;rw[hb]
  rw[eF]
  cases ht:ncQ b.k b.lf b.cs tot
  ·rw[ht] at hc
   cases agg<;>simp[hc]
  ·rw[ht] at hc
   have ht':b.cs.length=tot:=by rw[qA,Bool.and_eq_true] at ht;exact Nat.eq_of_beq_eq_true ht.2
   cases agg
   ·show pJ (getQ b.cs off) _=bif (cur H id tot&&Nat.blt off tot) then _ else false
    rw[hc,getQ_eq,Bool.true_and]
    show _=bif Nat.blt off tot then KL ((aJ H id off 1).getD 0 .undef) none [⟨id,off,1⟩] else false
    rw[hca]
    cases hl:Nat.blt off tot
    ·have:¬ off<tot:=fun h=>by rw[bltQ_iff.2 h] at hl;cases hl
     rw[List.getElem?_eq_none (by omega)]
     rfl
    ·rw[bltQ_iff] at hl
     rw[List.getElem?_eq_getElem (by omega)]
     show KL _ none _=KL _ none _
     congr 1
     rw[List.drop_eq_getElem_cons (by omega)]
     rfl
   ·show ifB (Nat.ble (off+n) tot) (nS b.cs off fun r=>lS r n fun l=>KL (.agg l) none [⟨id,off,n⟩])=bif (cur H id tot&&Nat.ble (off+n) tot) then KL (.agg (aJ H id off n)) none [⟨id,off,n⟩] else false
    rw[hc,iN,gW,hca,eF,Bool.true_and]
noncomputable def faQ (o:Nat) (x:AO):Bool:=aFi (evQ tm x) (fun id tot off=>ifB (aP7 H id tot) (fN (off+o) fun p=>KL (.ptr id tot p) none [⟨id,0,0⟩])) (eX gl tm H (.fa o x) KL)
theorem bIr (o x):faQ gl tm H KL o x=dO gl (evT tm) H (.fa o x) KL:=by
 refine zH (fun id tot off h => ?_) (aL ..)
 rw[eF,dP,kV]
 simp only[dO,lop,bA h]
noncomputable def bO6 (p:Pt) (x:AO):Bool:=asAgg (evQ tm x) (fun cs=>Pt.rec (motive:=fun _=>Bool) (fun agg off size=>Bool.rec (motive:=fun _=>Bool) (pJ (getQ cs off) fun v=>KL v none []) (nS cs off fun r=>lS r size fun l=>KL (.agg l) none []) agg) p) (eX gl tm H (.fld p x) KL)
theorem bCi (p x):bO6 gl tm H KL p x=dO gl (evT tm) H (.fld p x) KL:=by
 refine aHa (fun cs h => ?_) (aL ..)
 obtain ⟨agg,off,size⟩:=p
 simp only[dO,lop,bA h,partOf]
 cases agg
 ·show pJ (getQ cs off) _=bif (false||Nat.blt off cs.length) then KL (cs.getD off .undef) none [] else false
  rw[getQ_eq,Bool.false_or]
  cases hl:Nat.blt off cs.length
  ·have:¬ off<cs.length:=fun h=>by rw[bltQ_iff.2 h] at hl;cases hl
   rw[List.getElem?_eq_none (by omega)]
   rfl
  ·rw[bltQ_iff] at hl
   rw[List.getD_eq_getElem?_getD,List.getElem?_eq_getElem hl]
   rfl
 ·show nS cs off (fun r=>lS r size fun l=>KL (.agg l) none [])=_
  rw[iN,gW]
  rfl
noncomputable def bO3 (n:Nat) (x i:AO):Bool:=aP3 (evQ tm x) (fun id tot off len sz=>asInt (evQ tm i) (fun _ j=>aJj j (fun j=>ifB (Nat.blt j len) (ifB (aP7 H id tot) (ifB (Nat.beq sz n) (fN (off+j*n) fun o=>KL (.ptr id tot o) none [⟨id,0,0⟩])))) (eX gl tm H (.iaL n x i) KL)) (eX gl tm H (.iaL n x i) KL)) (eX gl tm H (.iaL n x i) KL)
theorem aZg (n x i):bO3 gl tm H KL n x i=dO gl (evT tm) H (.iaL n x i) KL:=by
 refine aEp (fun id tot off len sz h=>gV (fun k j hj=>gD (fun m hm => ?_) (aL ..)) (aL ..)) (aL ..)
 subst hm
 have h0:decide ((0:Int)≤Int.ofNat m)=true:=decide_eq_true (by simp)
 rw[eF,eF,eF,dP,kV]
 simp only[dO,lop,bA h,bA hj,kE,h0,show (Int.ofNat m).toNat=m from rfl]
 cases Nat.blt m len<;>cases cur H id tot<;>cases Nat.beq sz n<;>rfl
noncomputable def bO4 (k n:Nat) (x i:AO):Bool:=aFi (evQ tm x) (fun id tot off=>asInt (evQ tm i) (fun _ j=>aJj j (fun j=>ifB (Nat.blt j k) (ifB (aP7 H id tot) (fN (off+j*n) fun o=>KL (.ptr id tot o) none [⟨id,0,0⟩]))) (eX gl tm H (.iaA k n x i) KL)) (eX gl tm H (.iaA k n x i) KL)) (eX gl tm H (.iaA k n x i) KL)
theorem aX6 (k n x i):bO4 gl tm H KL k n x i=dO gl (evT tm) H (.iaA k n x i) KL:=by
 refine zH (fun id tot off h=>gV (fun k' j hj=>gD (fun m hm => ?_) (aL ..)) (aL ..)) (aL ..)
 subst hm
 have h0:decide ((0:Int)≤Int.ofNat m)=true:=decide_eq_true (by simp)
 rw[eF,eF,dP,kV]
 simp only[dO,lop,bA h,bA hj,kE,h0,show (Int.ofNat m).toNat=m from rfl]
 cases Nat.blt m k<;>cases cur H id tot<;>rfl
theorem aLk {α:Type} (l:List α) (i:Nat) (d:α) (K:α→Bool):pJ (getQ l i) K=(bif Nat.blt i l.length then K (l.getD i d) else false):=by
 rw[getQ_eq]
 cases hl:Nat.blt i l.length
 ·have:¬ i<l.length:=fun h=>by rw[bltQ_iff.2 h] at hl;cases hl
  rw[List.getElem?_eq_none (by omega)]
  rfl
 ·rw[bltQ_iff] at hl
  rw[List.getD_eq_getElem?_getD,List.getElem?_eq_getElem hl]
  rfl
noncomputable def bOm (x i:AO):Bool:=xN (evQ tm x) (fun s=>asInt (evQ tm i) (fun _ j=>aJj j (fun j=>pJ (getQ s j) fun c=>fN c.toNat fun m=>KL (.int .u8 (.ofNat m)) none []) (eX gl tm H (.ixS x i) KL)) (eX gl tm H (.ixS x i) KL)) (eX gl tm H (.ixS x i) KL)
theorem bCs (x i):bOm gl tm H KL x i=dO gl (evT tm) H (.ixS x i) KL:=by
 refine iL (fun s h=>gV (fun k' j hj=>gD (fun m hm => ?_) (aL ..)) (aL ..)) (aL ..)
 subst hm
 have h0:decide ((0:Int)≤Int.ofNat m)=true:=decide_eq_true (by simp)
 rw[aLk s m 0]
 simp only[dP,dO,lop,bA h,bA hj,kE,h0,show (Int.ofNat m).toNat=m from rfl,Bool.true_and]
 rfl
noncomputable def bOg (k:Nat) (p:Pt) (x i:AO):Bool:=asAgg (evQ tm x) (fun cs=>asInt (evQ tm i) (fun _ j=>aJj j (fun j=>Pt.rec (motive:=fun _=>Bool) (fun agg off size=>Bool.rec (motive:=fun _=>Bool) (ifB (Nat.blt j k) (pJ (getQ cs (j*size)) fun v=>KL v none [])) (eX gl tm H (.ixA k p x i) KL) agg) p) (eX gl tm H (.ixA k p x i) KL)) (eX gl tm H (.ixA k p x i) KL)) (eX gl tm H (.ixA k p x i) KL)
theorem aXt (k p x i):bOg gl tm H KL k p x i=dO gl (evT tm) H (.ixA k p x i) KL:=by
 refine aHa (fun cs h=>gV (fun k' j hj=>gD (fun m hm => ?_) (aL ..)) (aL ..)) (aL ..)
 subst hm
 have h0:decide ((0:Int)≤Int.ofNat m)=true:=decide_eq_true (by simp)
 obtain ⟨agg,off,size⟩:=p
 cases agg
 ·show ifB (Nat.blt m k) (pJ (getQ cs (m*size)) fun v=>KL v none [])=_
  rw[eF,aLk cs (m*size) .undef]
  simp only[dO,lop,bA h,bA hj,kE,h0,show (Int.ofNat m).toNat=m from rfl,Bool.true_and,partOf,Bool.false_or,cond_false]
  cases Nat.blt m k<;>rfl
 ·exact aL ..
noncomputable def bOh (x:AO) (i:Nat):Bool:=aUx (evQ tm x) (fun l=>pJ (getQ l i) fun v=>KL v none []) (eX gl tm H (.ext x i) KL)
theorem bAf (x i):bOh gl tm H KL x i=dO gl (evT tm) H (.ext x i) KL:=by
 refine aSx (fun l h => ?_) (aL ..)
 rw[aLk l i .undef]
 simp only[dO,lop,bA h]
noncomputable def bGq (x:AO):Bool:=xN (evQ tm x) (fun s=>fN (lI s) fun n=>KL (.int .i64 (.ofNat n)) none []) (eX gl tm H (.lenS x) KL)
theorem aTc (x):bGq gl tm H KL x=dO gl (evT tm) H (.lenS x) KL:=by
 refine iL (fun s h => ?_) (aL ..)
 rw[dP,dE]
 simp only[dO,lop,bA h]
 rfl
noncomputable def bI1 (x:AO):Bool:=aP3 (evQ tm x) (fun id tot _ n _=>ifB (aP7 H id tot) (KL (.int .i64 (.ofNat n)) none [⟨id,0,0⟩])) (eX gl tm H (.lenL x) KL)
theorem aQ8 (x):bI1 gl tm H KL x=dO gl (evT tm) H (.lenL x) KL:=by
 refine aEp (fun id tot off n sz h => ?_) (aL ..)
 rw[eF,kV]
 simp only[dO,lop,bA h]
 rfl
noncomputable def unQ (op:UnOp) (x:AO):Bool:=UnOp.rec (motive:=fun _=>Bool) (eX gl tm H (.un .neg x) KL) (eX gl tm H (.un .xor x) KL) (asBool (evQ tm x) (fun b=>fB (!b) fun b=>KL (.bool b) none []) (eX gl tm H (.un .not x) KL)) (eX gl tm H (.un .plus x) KL) op
theorem bEw (op x):unQ gl tm H KL op x=dO gl (evT tm) H (.un op x) KL:=by
 cases op with
 | not=>
  refine aAv (fun b h => ?_) (aL ..)
  rw[lK]
  simp only[dO,lop,bA h,bN6]
  rfl
 | neg=>exact aL gl tm H (.un .neg x) KL
 | xor=>exact aL gl tm H (.un .xor x) KL
 | plus=>exact aL gl tm H (.un .plus x) KL
noncomputable def bD3 (k:CV) (x:AO):Bool:=CV.rec (motive:=fun _=>Bool) (fun k=>asInt (evQ tm x) (fun _ n=>fI (aH7 k n) fun n=>KL (.int k n) none []) (eX gl tm H (.conv (.toInt k) x) KL))
 (xN (evQ tm x) (fun s=>cOf s fun cs=>aVn H .grow cs fun nid n nb=>KL (.sl nid n 0 n 1) nb []) (eX gl tm H (.conv .toBytes x) KL)) (eX gl tm H (.conv .ofBytes x) KL) (eX gl tm H (.conv .same x) KL) (eX gl tm H (.conv .bad x) KL) (fun t=>eX gl tm H (.conv (.tas t) x) KL) (fun t z=>eX gl tm H (.conv (.tasOk t z) x) KL) k
theorem aRs (k x):bD3 gl tm H KL k x=dO gl (evT tm) H (.conv k x) KL:=by
 cases k with
 | toInt k=>
  refine gV (fun k' n h => ?_) (aL ..)
  rw[zB,iO]
  simp only[dO,lop,bA h]
  rfl
 | toBytes=>
  refine iL (fun s h => ?_) (aL ..)
  rw[aVl,rV]
  simp only[dO,lop,bA h]
  rw[show (ofBytes s).length=s.length by simp[ofBytes]]
  rfl
 | ofBytes=>exact aL gl tm H (.conv .ofBytes x) KL
 | same=>exact aL gl tm H (.conv .same x) KL
 | bad=>exact aL gl tm H (.conv .bad x) KL
 | tas t=>exact aL gl tm H (.conv (.tas t) x) KL
 | tasOk t z=>exact aL gl tm H (.conv (.tasOk t z) x) KL
noncomputable def bO0 (x:AO) (lo hi:Option AO):Bool:=xN (evQ tm x) (fun s=>fN (lI s) fun n=>bIp tm lo 0 fun l=>bIp tm hi n fun h=>ifB (Nat.ble l h) (ifB (Nat.ble h n) (nS s l fun r=>Option.rec (motive:=fun _=>Bool) (KL (.str r) none []) (fun _=>lS r (h-l) fun r=>KL (.str r) none []) hi))) (eX gl tm H (.slS x lo hi) KL)
theorem bAa (x lo hi):bO0 gl tm H KL x lo hi=dO gl (evT tm) H (.slS x lo hi) KL:=by
 refine iL (fun s h => ?_) (aL ..)
 rw[dP,dE,zY]
 simp only[dO,lop,bA h]
 cases hl:bnd (evT tm) lo 0 with
 | none=>rfl
 | some pl=>
  obtain ⟨p,l⟩:=pl
  simp only[]
  rw[zY]
  cases hi with
  | none=>
   simp only[bnd,gL]
   show (bif p then (bif true then ifB (Nat.ble l s.length) (ifB (Nat.ble s.length s.length) (nS s l fun r=>KL (.str r) none [])) else false) else false)=_
   rw[eF,eF,iN,List.take_of_length_le (by rw[List.length_drop];omega)]
   cases p<;>cases Nat.ble l s.length<;>cases Nat.ble s.length s.length<;>rfl
  | some y=>
   cases hh:bnd (evT tm) (some y) s.length with
   | none=>simp only[gL];cases p<;>rfl
   | some qh=>
    obtain ⟨q,h⟩:=qh
    simp only[gL]
    show (bif p then (bif q then ifB (Nat.ble l h) (ifB (Nat.ble h s.length) (nS s l fun r=>lS r (h-l) fun r=>KL (.str r) none [])) else false) else false)=_
    rw[eF,eF,iN,gW]
    cases p<;>cases q<;>cases Nat.ble l h<;>cases Nat.ble h s.length<;>rfl
noncomputable def bOk (n:Nat) (x:AO) (lo hi:Option AO):Bool:=aP3 (evQ tm x) (fun id tot off len sz=>bIp tm lo 0 fun l=>bIp tm hi len fun h=>ifB (Nat.ble l h) (ifB (Nat.ble h len) (ifB (aP7 H id tot) (ifB (Nat.beq sz n) (fN (off+l*n) fun o=>fN (h-l) fun m=>KL (.sl id tot o m n) none [⟨id,0,0⟩]))))) (eX gl tm H (.slL n x lo hi) KL)
theorem aYx (n x lo hi):bOk gl tm H KL n x lo hi=dO gl (evT tm) H (.slL n x lo hi) KL:=by
 refine aEp (fun id tot off len sz h => ?_) (aL ..)
 rw[zY]
 simp only[dO,lop,bA h]
 cases hl:bnd (evT tm) lo 0 with
 | none=>rfl
 | some pl=>
  obtain ⟨p,l⟩:=pl
  simp only[]
  rw[zY]
  cases hh:bnd (evT tm) hi len with
  | none=>simp only[gL];cases p<;>rfl
  | some qh=>
   obtain ⟨q,h⟩:=qh
   simp only[gL]
   rw[eF,eF,eF,eF,dP,dP,kV]
   cases p<;>cases q<;>cases Nat.ble l h<;>cases Nat.ble h len<;>cases cur H id tot<;>cases Nat.beq sz n<;>rfl
end
end Go.Proofs.YtnhechnaemmdiaaGreatDoor
