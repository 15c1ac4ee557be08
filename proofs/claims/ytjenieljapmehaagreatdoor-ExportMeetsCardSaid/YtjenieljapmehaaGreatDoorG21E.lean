/-
  Chapter 18: functions with a pointer to a block of plain cells; RotateLeft32.
-/
import Derived.Test.YtjenieljapmehaaGreatDoorG21D
set_option linter.unusedSimpArgs false
set_option linter.unusedVariables false
set_option linter.unusedSectionVars false
namespace Go.Proofs.YtjenieljapmehaaGreatDoor
open Go.RowKit
set_option maxRecDepth 1000000

def rfA:AC→AC
 | .seq a b=>match rfA a with
  | .skip=>rfA b
  | x=>x
 | .cond _ a b=>match rfA a with
  | .skip=>rfA b
  | x=>x
 | .block _ b=>rfA b
 | .loop _ _ b=>rfA b
 | .rfn _ _ a _=>a
 | _=>.skip
def rfB:AC→AC
 | .seq a b=>match rfB a with
  | .skip=>rfB b
  | x=>x
 | .cond _ a b=>match rfB a with
  | .skip=>rfB b
  | x=>x
 | .block _ b=>rfB b
 | .loop _ _ b=>rfB b
 | .rfn _ _ _ b=>b
 | _=>.skip
def ptrC (tot:Nat) (g:List AV→List AV→(Out→List AV→Prop)→Prop):Con
 | .ptr i t 0::rest,H,K=>match H.getD i ⟨.ro,false,[]⟩ with
  | ⟨.exact,true,cs⟩=>Lf (Nat.blt i H.length=true∧t=tot∧oldL 0 rest=true∧noYL rest=true∧oldL 0 cs=true∧noYL cs=true)∧g rest cs fun o cs'=>K o (H.set i ⟨.exact,true,cs'⟩)
  | _=>False
 | _,_,_=>False
theorem valid_ptr {P:Program} {gl:Nat→Option (List AV)} {f:FuncId} {tot:Nat} {g:List AV→List AV→(Out→List AV→Prop)→Prop} (he:Enters P f) (hgl:∀g cs,gl g=some cs→noYL cs=true)
  (h:∀rest cs R,oldL 0 rest=true→noYL rest=true→oldL 0 cs=true→noYL cs=true→g rest cs R→∃ (E:Env) (n:Nat),EnvFor P E∧E.gl=gl ∧
   callx E (wpx E n) f (.ptr 0 tot 0::rest) [⟨.exact,true,cs⟩] {} fun o H' _=>∃cs',H'=[⟨.exact,true,cs'⟩]∧oldL 0 cs'=true∧noYL cs'=true∧(∃v,o=.ret v∧old 0 v=true∧noY v=true)∧R o cs'):ValidF P gl f (ptrC tot g):=by
 refine valid_of he hgl fun args H Q hc => ?_
 unfold ptrC at hc
 split at hc
 ·rename_i i t rest
  split at hc
  ·rename_i cs hb
   obtain ⟨⟨h0,rfl,h1,h2,h3,h4⟩,hg⟩:=hc
   rw[blt_iff] at h0
   have hi:H[i]? = some ⟨.exact,true,cs⟩:=by
    rw[List.getD_eq_getElem?_getD,List.getElem?_eq_getElem h0] at hb
    rw[List.getElem?_eq_getElem h0]
    exact congrArg some hb
   obtain ⟨E,n,k1,k2,k3⟩:=h rest cs _ h1 h2 h3 h4 hg
   refine ⟨E,n,fun _=>i,.ptr 0 t 0::rest,[⟨.exact,true,cs⟩],_,k1,k2, ?_, ?_, ?_,⟨?_, ?_, ?_⟩,k3, ?_⟩
   ·simp only[renL,ren,renL_flat _ rest h1 h2]
   ·simp only[oldL,old,Bool.and_eq_true]
    exact ⟨by simp,oldL_mono (Nat.zero_le _) _ h1⟩
   ·simp only[noYL,noY,Bool.and_eq_true]
    exact ⟨trivial,h2⟩
   ·intro j b0 hj
    match j,hj with
    | 0,hj=>
     cases hj
     exact ⟨h0,oldL_mono (Nat.zero_le _) _ h3,h4,fun _=>h3,_,hi,(renL_flat _ cs h3 h4).symm,.inr rfl⟩
   ·intro j j' b0 hj _ hj' _
    have:j<1:=(List.getElem?_eq_some_iff.1 hj).1
    simp at hj'
    omega
   ·intro j b0 hj
    match j,hj with
    | 0,hj=>
     cases hj
     exact fun h=>by cases h
   ·rintro o H0' g' ⟨cs',rfl,q1,q2,⟨v,rfl,q3,q4⟩,q5⟩
    refine ⟨H.set i ⟨.exact,true,cs'⟩,⟨by simp, ?_, ?_, ?_,by simp, ?_, ?_⟩, ?_⟩
    ·intro j b0 hj hk
     match j,hj with
     | 0,hj=>cases hj;cases hk
    ·intro j b0 hj hk
     match j,hj with
     | 0,hj=>cases hj;exact ⟨_,rfl,rfl⟩
    ·intro j b0 hj hk
     have h7:=(List.getElem?_eq_some_iff.1 hk).1
     simp at h7 hj
     omega
    ·intro id hid hn
     have:i≠id:=hn 0 _ rfl (fun h=>by cases h)
     rw[List.getElem?_set_ne this]
    ·intro j b hj _
     match j,hj with
     | 0,hj=>
      cases hj
      simp only[sig,renB,renL_flat _ cs' q1 q2]
      rw[if_pos (by simp),List.getElem?_set_self h0]
    ·simp only[renO,ren_flat _ v q3 q4]
     exact q5
  ·exact hc.elim
 ·exact hc.elim
def addW (x y:Nat):Nat:=(x+y)%4294967296
def xorW (x y:Nat):Nat:=(x%4294967296) ^^^ (y%4294967296)
def rotW (k x:Nat):Nat:=((x*2^k)%4294967296) ||| ((x/2^(32-k))%4294967296)
def leW (x:Nat):List Nat:=[x%256,x/256%256,x/65536%256,x/16777216%256]
theorem u32_wrap (x:Nat):IntKind.wrap .u32 (x:Int)=((x%4294967296:Nat):Int):=by
 show (x:Int)%4294967296=_
 omega
theorem u8_wrap (x:Nat):IntKind.wrap .u8 (x:Int)=((x%256:Nat):Int):=by
 show (x:Int)%256=_
 omega
theorem addW_w (x y:Nat):IntKind.wrap .u32 ((x:Int)+(y:Int))=((addW x y:Nat):Int):=by
 rw[←Int.natCast_add,u32_wrap];rfl
theorem mod32 (x:Nat):((x:Int)%4294967296).toNat=x%4294967296:=by omega
theorem bits32 {x:Nat} (h:x<4294967296):x%4294967296=x:=Nat.mod_eq_of_lt h
theorem xorW_lt (x y:Nat):xorW x y<4294967296:=Nat.xor_lt_two_pow (n:=32) (Nat.mod_lt _ (by omega)) (Nat.mod_lt _ (by omega))
theorem rotW_lt (k x:Nat):rotW k x<4294967296:=Nat.or_lt_two_pow (n:=32) (Nat.mod_lt _ (by omega)) (Nat.mod_lt _ (by omega))
theorem xorW_w (x y:Nat):IntKind.wrap .u32 ((((x:Int)%4294967296).toNat ^^^ ((y:Int)%4294967296).toNat:Nat):Int)=((xorW x y:Nat):Int):=by
 rw[mod32,mod32,u32_wrap]
 exact congrArg _ (bits32 (xorW_lt x y))
theorem rotW_w (k x:Nat) (M N:Int) (hm:M=((2^k:Nat):Int)) (hn:N=((2^(32-k):Nat):Int)) :
  IntKind.wrap .u32 (((IntKind.wrap .u32 ((x:Int)*M)%4294967296).toNat ||| (Int.fdiv (x:Int) N%4294967296).toNat:Nat):Int)=((rotW k x:Nat):Int):=by
 subst hm hn
 have h0:(0:Int)≤((2^(32-k):Nat):Int):=Int.natCast_nonneg _
 have e1:=u32_wrap (x*2^k)
 rw[←Int.natCast_mul,e1,Int.fdiv_eq_ediv_of_nonneg _ h0,←Int.natCast_ediv,mod32,mod32,u32_wrap,Nat.mod_mod]
 exact congrArg _ (bits32 (rotW_lt k x))
def rotOk (k:Int):Prop:=k = -2∨k = -6∨k = -7∨k = -11∨k = -13∨k = -17∨k = -18∨k = -19∨k = -22∨k = -25
noncomputable def goal_160 (hv:Nat→Option Pa) (hb:Nat→Option Bool) (x k:Int) (Q:Out→List Blk→Gh→Prop):Prop:=
 callx (e18 sm0 (fun _=>none) hv hb) (wpx (e18 sm0 (fun _=>none) hv hb) 1000) 149 [.int .u32 x,.int .i64 k] [] {} Q
theorem vc_160 (x:Int) (k:Int) (Q:Out→List Blk→Gh→Prop):goal_160 (lookV [(610311,.int .u64),(610312,.int .u64),(610315,.int .u32),(610318,.int .u64),(610319,.int .u32),(610320,.int .u32)]) (lookB []) x k Q=(
(∃n_0:Int,(((AV.int .u64 (IntKind.wrap .u64 k))=(AV.int .u64 n_0)) ∧
 (∃n_1:Int,(((AV.int .u64 (IntKind.wrap .u64 (Nat.cast ((Int.toNat (n_0%(18446744073709551616:Int))) &&& (31:Nat)):Int)))=(AV.int .u64 n_1)) ∧
 (bif ((decide ((0:Int)≤n_1))&&true) then (∃n_2:Int,(((AV.int .u32 (IntKind.wrap .u32 (x*((2:Int)^(Min.min (Int.toNat n_1) (32:Nat))))))=(AV.int .u32 n_2)) ∧
 (∃n_3:Int,(((AV.int .u64 (IntKind.wrap .u64 ((32:Int)-n_1)))=(AV.int .u64 n_3)) ∧
 (bif ((decide ((0:Int)≤n_3))&&true) then (∃n_4:Int,(((AV.int .u32 (Int.fdiv x ((2:Int)^(Min.min (Int.toNat n_3) (32:Nat)))))=(AV.int .u32 n_4)) ∧
 (∃n_5:Int,(((AV.int .u32 (IntKind.wrap .u32 (Nat.cast ((Int.toNat (n_2%(4294967296:Int))) ||| (Int.toNat (n_4%(4294967296:Int)))):Int)))=(AV.int .u32 n_5)) ∧
 (Q (Out.ret (AV.int .u32 n_5)) [] (Gh.mk (0:Nat) (0:Nat) []))))))
else False)))))
else False)))))):=by kernel_rfl

theorem rot_run (n:Nat) (k:Int) (hn:n<4294967296) (hk:rotOk k) (Q:Out→List Blk→Gh→Prop) (hq:Q (.ret (.int .u32 ((rotW (32+k).toNat n:Nat):Int))) [] {}):∃hv hb,goal_160 hv hb n k Q:=by
 obtain ⟨hv,hb',e'⟩:∃hv hb,goal_160 hv hb n k Q=_:=⟨_,_,vc_160 n k Q⟩
 refine ⟨hv,hb',e'.mpr ?_⟩
 clear e'
 rcases hk with rfl | rfl | rfl | rfl | rfl | rfl | rfl | rfl | rfl | rfl <;>
  exact ⟨_,rfl,_,rfl,ckI (by decide) ⟨_,rfl,_,rfl,ckI (by decide) ⟨_,rfl,_,rfl,(congrArg (fun z:Int=>Q (.ret (.int .u32 z)) [] {}) (rotW_w _ n _ _ (by rfl) (by rfl))).mpr hq⟩⟩⟩
def cRot:Con
 | [.int .u32 x,.int .i64 k],H,K=>∃n:Nat,Lf (x=(n:Int)∧n<4294967296∧rotOk k)∧∀r:Nat,Lf (r=rotW (32+k).toNat n)→K (.ret (.int .u32 (r:Int))) H
 | _,_,_=>False
theorem rot_ok:ValidF Tryz.prog gl0 149 cRot:=by
 refine valid_flat (enters_of (by kernel_rfl)) gl0_noY fun args H Q hc => ?_
 unfold cRot at hc
 split at hc
 ·rename_i x k
  obtain ⟨n,⟨rfl,h1,h2⟩,hq⟩:=hc
  obtain ⟨hv,hb',h⟩:=rot_run n k h1 h2 (Q:=fun o H' _=>H'=[]∧(∃v,o=.ret v∧old 0 v=true∧noY v=true)∧Q o H) ⟨rfl,⟨_,rfl,rfl,rfl⟩,hq _ ⟨rfl⟩⟩
  exact ⟨rfl,rfl,_,1000,envFor18 sm0_ok _ _ _,rfl,h⟩
 ·exact hc.elim
end Go.Proofs.YtjenieljapmehaaGreatDoor
