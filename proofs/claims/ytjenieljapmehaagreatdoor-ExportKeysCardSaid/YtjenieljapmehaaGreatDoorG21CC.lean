/-
  Chapter 21: the reference's Number.
-/
import Derived.Test.YtjenieljapmehaaGreatDoorGmC
set_option linter.unusedSimpArgs false
set_option linter.unusedVariables false
set_option linter.unusedSectionVars false
namespace Go.Proofs.YtjenieljapmehaaGreatDoor
open Go.RowKit
set_option maxRecDepth 1000000

def natM (s:List UInt8):Nat:=s.foldl (fun x c=>x*256+c.toNat) 0
def beM (s:List UInt8):Int:=(natM s:Int)
theorem fold_add (s:List UInt8):∀a:Nat,s.foldl (fun r c=>r*256+c.toNat) a=a*256^s.length+s.foldl (fun r c=>r*256+c.toNat) 0:=by
 induction s with
 | nil=>intro a;simp
 | cons c t ih=>
  intro a
  rw[List.foldl_cons,List.foldl_cons,ih,ih (0*256+c.toNat),List.length_cons,Nat.pow_succ]
  rw[Nat.add_mul,Nat.mul_assoc,Nat.mul_comm 256,Nat.zero_mul,Nat.zero_add]
  omega
theorem natM_cons (c:UInt8) (t:List UInt8):natM (c::t)=c.toNat*256^t.length+natM t:=by
 unfold natM
 rw[List.foldl_cons,fold_add]
 simp
theorem nat_app (a b:List UInt8):natM (a++b)=b.foldl (fun x c=>x*256+c.toNat) (natM a):=by simp[natM]
theorem natM_lt:∀s:List UInt8,natM s<256^s.length
 | []=>by decide
 | c::t=>by
  have h1:=natM_lt t
  have h2:=c.toNat_lt
  rw[natM_cons,List.length_cons,Nat.pow_succ]
  have:c.toNat*256^t.length≤255*256^t.length:=Nat.mul_le_mul_right _ (by omega)
  omega
theorem nat_snoc {s:List UInt8} {i:Nat} (h:i<s.length):natM (s.take (i+1))=natM (s.take i)*256+(s.getD i 0).toNat:=by
 rw[List.take_add_one,List.getElem?_eq_getElem h,nat_app]
 simp[List.getD,h]
theorem idxOk {z:Int} {n:Nat} (h0:0≤z) (h1:z<n):(decide (0≤z)&&Nat.blt z.toNat n)=true:=by
 rw[Bool.and_eq_true,decide_eq_true_eq,Nat.blt_eq]
 exact ⟨h0,by omega⟩
def inv_51 (s:List UInt8) (_:S):List (List LInv):=[[{ α:=Nat,pre:=fun i=>Lf (i≤s.length),st:=fun i=>⟨mkT [(0,.str s),(3,.int .i64 (natM (s.take i):Nat)),(4,.int .i64 (i:Nat))],[]⟩,mu:=fun i=>s.length-i }]]
noncomputable def env_51 (hv:Nat→Option Pa) (hb:Nat→Option Bool) (s:List UInt8):Env:=e18 sm0 (fun i=>bif Nat.beq i 152000 then some (inv_51 s) else none) hv hb
noncomputable def goal_51 (hv:Nat→Option Pa) (hb:Nat→Option Bool) (s:List UInt8) (Q:Out→List Blk→Gh→Prop):Prop:=
 callx (env_51 hv hb s) (wpx (env_51 hv hb s) 1000) 152 [.str s] [] {} Q
theorem vc_51 (s:List UInt8) (Q:Out→List Blk→Gh→Prop):goal_51 (lookV [(622597,.int .i64),(622599,.int .i64),(622603,.int .i64),(622604,.int .i64),(622606,.int .i64),(622607,.int .u8),(622608,.int .i64),(622609,
 .int .i64),(622601,.int .i64),(622602,.int .i64),(622610,.int .i64)]) (lookB []) s Q=((∃x_0:Nat,Lf (x_0≤s.length)∧eqqQ (AV.str s)∧AV.int .i64 0=AV.int .i64 (natM (s.take x_0):Int)∧AV.int .i64 0=AV.int .i64 (x_0 :
 Int)∧True)∧∀x_0:Nat,Lf (x_0≤s.length)→exI .i64 (x_0:Int) fun n_1=>exI .i64 (s.length:Int) fun n_2=>bif decide (n_1<n_2) then exI .i64 (natM (s.take x_0):Int) fun n_3=>exW .i64 (256*n_3) fun n_4=>exI .i64 (x_0
 : Int) fun n_5=>ckQ (decide (0≤n_5)&&Nat.blt n_5.toNat s.length) (exI .u8 (UInt8.toNat (s.getD n_5.toNat (UInt8.ofNat 0)):Int) fun n_6=>exW .i64 n_6 fun n_7=>exW .i64 (n_4+n_7) fun n_8=>exI .i64 (x_0:Int) fun n_9=>exW
 .i64 (n_9+1) fun n_10=>(True∧(0:Nat)=(0:Nat))∧∃y_11:Nat,Lf (y_11≤s.length)∧s.length-y_11<s.length-x_0∧eqqQ (AV.str s)∧AV.int .i64 n_8=AV.int .i64 (natM (s.take y_11):Int)∧AV.int .i64 n_10=AV.int .i64
 (y_11:Int)∧True) else exI .i64 (natM (s.take x_0):Int) fun n_3=>Q (.ret (.int .i64 n_3)) [] {}):=by kernel_rfl

theorem num51_run (s:List UInt8) (hs:s.length≤7) (Q:Out→List Blk→Gh→Prop) (hq:Q (.ret (.int .i64 (beM s))) [] {}):∃hv hb,goal_51 hv hb s Q:=by
 obtain ⟨hv',hb',e'⟩:∃hv hb,goal_51 hv hb s Q=_:=⟨_,_,vc_51 s Q⟩
 refine ⟨hv',hb',e'.mpr ?_⟩
 clear e'
 refine ⟨⟨0,⟨by omega⟩,rfl,rfl,rfl,trivial⟩, ?_⟩
 rintro i ⟨hi⟩
 refine ⟨_,rfl,_,rfl,splitD (fun h => ?_) (fun h => ?_)⟩
 ·have h1:=natM_lt (s.take i)
  have hil:(s.take i).length≤6:=by rw[List.length_take];omega
  have h2:(256:Nat)^(s.take i).length≤256^6:=Nat.pow_le_pow_right (by decide) hil
  have p6:(256:Nat)^6=281474976710656:=by decide
  have hc:=(s.getD i 0).toNat_lt
  have hsn:=nat_snoc (s:=s) (i:=i) (by omega)
  refine ⟨_,rfl,wrapI (by omega) (by omega) ⟨_,rfl,ckI (idxOk (by omega) (by omega)) ⟨_,rfl,wrapI (by show _≤(((s.getD i 0).toNat:Nat):Int);omega) (by show (((s.getD i 0).toNat:Nat):Int)≤_;omega) (wrapI (by show _≤256*(natM (s.take i):Int)+((s.getD i 0).toNat:Int);omega) (by show 256*(natM (s.take i):Int)+((s.getD i 0).toNat:Int)≤_;omega) ⟨_,rfl,wrapI (by omega) (by omega) ⟨⟨trivial,rfl⟩,i+1,⟨by omega⟩,by omega,rfl, ?_,rfl,trivial⟩⟩)⟩⟩⟩
  refine congrArg (AV.int .i64) ?_
  show 256*(natM (s.take i):Int)+((s.getD i 0).toNat:Int)=_
  rw[hsn];omega
 ·have:i=s.length:=by omega
  subst this
  rw[List.take_of_length_le (Nat.le_refl _)]
  exact ⟨_,rfl,hq⟩
def cNum51:Con
 | [.str s],H,K=>Lf (s.length≤7)∧∀x,Lf (x=beM s)→K (.ret (.int .i64 x)) H
 | _,_,_=>False
theorem num51_ok:ValidF Tryz.prog gl0 152 cNum51:=by
 refine valid_flat (enters_of (by kernel_rfl)) gl0_noY fun args H Q hc => ?_
 unfold cNum51 at hc
 split at hc
 ·rename_i s
  obtain ⟨⟨h1⟩,hq⟩:=hc
  obtain ⟨hv,hb',h⟩:=num51_run s h1 (Q:=fun o H' _=>H'=[]∧(∃v,o=.ret v∧old 0 v=true∧noY v=true)∧Q o H) ⟨rfl,⟨_,rfl,rfl,rfl⟩,hq _ ⟨rfl⟩⟩
  exact ⟨rfl,rfl,_,1000,envFor18 sm0_ok _ _ _,rfl,h⟩
 ·exact hc.elim
end Go.Proofs.YtjenieljapmehaaGreatDoor
