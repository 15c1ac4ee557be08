/-
  The engine, part A: what it computes with. A compiled form of a program's code (types resolved), values and blocks without capacities and addresses, and an evaluator that gives the weakest precondition of code: 'wpx'.
-/
import Derived.WalkKit
import Derived.WalkSpells
import Derived.WalkLawsBesides
set_option linter.unusedSimpArgs false
set_option linter.unusedVariables false
namespace Go.Proofs.YtnhechnaemmdiaaGreatDoor
open Go.RowKit
set_option linter.defProp false
abbrev LB:=Nat->Option Bool
abbrev LA:=List UInt8
abbrev QT:=List Int
def bW2:=@List.length_append
def bW3:=@Bool.and_eq_true
def bW4:=@List.take_of_length_le
def bW5:=@Option.some.injEq
def bW6:=@decide_eq_true_eq
def bW7:=@List.getD_eq_getElem?_getD
def bW8:=@List.getElem?_eq_getElem
def bW9:=@List.append_assoc
def bXa:=@Array.getElem?_eq_some_iff
def bXb:=@List.length_replicate
def bXc:=@List.length_cons
def bXd:=@List.mem_cons
def bXe:=@Nat.le_refl
def bXf:=@Int.toNat_natCast
def bXg:=@List.length_take
def bXh:=@Bool.or_eq_true
def bXi:=@decide_eq_false_iff_not
def bXj:=@run_underlying
def bXk:=@List.getElem_mem
def bXl:=@List.drop_zero
def bXm:=@List.length_nil
def bXn:=@List.not_mem_nil
def bXo:=@List.eq_nil_of_length_eq_zero
def bXp:=@List.mem_singleton
def bXq:=@List.getElem?_eq_some_iff
def bXr:=@decide_eq_true
def bXs:=@List.append_nil
def bXt:=@decide_eq_false
def bXu:=@List.map_cons
def bXv:=@List.getElem?_cons_zero
def bXw:=@cond_true
def bXx:=@List.getElem?_append_left
def bXy:=@Bool.or_eq_false_iff
def bXz:=@List.getElem?_take
def bX0:=@List.cons_append
def bX1:=@Prod.mk.injEq
def bX2:=@List.nil_append
def bX3:=@Int.fdiv_eq_ediv_of_nonneg
def bX4:=@Bool.and_true
def bX5:=@Nat.ble_eq
def bX6:=@Int.tmod_eq_emod_of_nonneg
def bX7:=@Bool.true_and
def bX8:=@List.take_length
def bX9:=@List.drop_of_length_le
def bYa:=@List.getElem?_append_right
def bYb:=@Nat.zero_le
def bYc:=@Bool.not_eq_true'
def bYd:=@forall_eq_or_imp
def bYe:=@Nat.lt_of_lt_of_le
def bYf:=@Nat.min_eq_left
def bYg:=@Nat.eq_of_beq_eq_true
def bYh:=@Nat.le_trans
def bYi:=@cond_false
def bYj:=@List.mem_append
def bYk:=@List.any_cons
def bYl:=@Result.andThen_ok
def bYm:=@List.take_add_one
def bYn:=@Bool.or_false
def bYo:=@List.getElem?_drop
def bYp:=@Nat.add_assoc
def bYq:=@List.length_eq_zero_iff
def bYr:=@beq_iff_eq
def bYs:=@List.any_nil
def bYt:=@List.length_drop
def bYu:=@List.getElem?_set_ne
def bYv:=@Nat.add_zero
def bYw:=@List.take_append_drop
def bYx:=@Nat.or_lt_two_pow
def bYy:=@List.all_eq_true
def bYz:=@List.replicate_zero
def bY0:=@or_false
def bY1:=@Sem.run_bind
def bY2:=@Nat.and_two_pow_sub_one_eq_mod
def bY3:=@List.mem_of_getElem?
def bY4:=@forall_eq
def bY5:=@Bool.false_eq_true
def bY6:=@Nat.zero_add
def bY7:=@List.take_succ_cons
def bY8:=@of_decide_eq_true
def bY9:=@List.drop_drop
def bZa:=@List.length_singleton
def bZb:=@List.mem_map
def bZc:=@List.getD_cons_succ
def bZd:=@List.take_append_of_le_length
def bZe:=@List.drop_eq_getElem_cons
def bZf:=@Nat.mul_le_mul_right
def bZg:=@Array.getElem?_toList
def bZh:=@Nat.mod_eq_of_lt
def bZi:=@Bool.false_and
def bZj:=@Array.getElem?_setIfInBounds_ne
def bZk:=@Bool.and_assoc
def bZl:=@List.replicate_succ
def bZm:=@List.drop_succ_cons
def bZn:=@List.getElem?_eq_none
def bZo:=@Bool.eq_false_iff
def bZp:=@List.cons.injEq
def bZq:=@Nat.two_pow_add_eq_or_of_lt
def bZr:=@List.getElem?_cons_succ
def bZs:=@List.pairwise_append
def bZt:=@Int.tdiv_eq_ediv_of_nonneg
def bZu:=@List.getElem?_set_self
def bZv:=@List.flatten_cons
def bZw:=@bne_iff_ne
def bZx:=@Array.length_toList
def bZy:=@List.length_zipWith
def bZz:=@Nat.mul_comm
def bZ0:=@List.set_append_right
def bZ1:=@List.length_map
def bZ2:=@Below.heap_alloc
def bZ3:=@List.take_zero
def bZ4:=@Nat.sub_self
def bZ5:=@List.flatMap_cons
def bZ6:=@Nat.add_mul
def bZ7:=@Bool.eq_iff_iff
def bZ8:=@List.any_eq_true
def bZ9:=@World.size_alloc
def cAa:=@List.pairwise_cons
def cAb:=@Nat.mul_succ
def cAc:=@Nat.mul_one
def cAd:=@Bool.and_false
def cAe:=@Nat.mul_le_mul
def cAf:=@Nat.add_mul_mod_self_left
def cAg:=@MapKept.run_checkKey
def cAh:=@List.mem_append_left
def cAi:=@List.mem_of_mem_take
def cAj:=@Int.ofNat_eq_natCast
def cAk:=@Option.isSome_iff_exists
def cAl:=@run_convert_bytes_string
def cAm:=@List.nodup_cons
def cAn:=@Oper.uponIn_value
def cAo:=@List.getElem?_map
def cAp:=@List.any_eq_false
def cAq:=@Addr.add_lit
def cAr:=@MapKept.run_findKey
def cAs:=@beq_eq_false_iff_ne
def cAt:=@Nat.mul_le_mul_left
def cAu:=@List.getD_cons_zero
def cAv:=@Int.eq_ofNat_of_zero_le
def cAw:=@wpIn_mono
def cAx:=@MapKept.run_getObj_map
def cAy:=@List.set_cons_zero
def cAz:=@List.foldl_cons
def cA0:=@List.map_map
def cA1:=@List.length_set
def cA2:=@List.mem_append_right
def cA3:=@Nat.lt_or_ge
def cA4:=@Nat.mul_add
def cA5:=@Array.ext'
def cA6:=@and_true
def cA7:=@Nat.mod_lt
def cA8:=@Array.toList_setIfInBounds
def cA9:=@Nat.pow_le_pow_right
def cBa:=@List.nodup_nil
def cBb:=@Classical.byContradiction
def cBc:=@List.getElem_append_right
def cBd:=@Option.getD_some
def cBe:=@IntKind.wrap_i64
def cBf:=@Prod.mk.inj
def cBg:=@List.flatMap_append
def cBh:=@Sem.run_pure
def cBi:=@List.getElem_append_left
def cBj:=@if_false
def cBk:=@List.map_append
def cBl:=@Option.some.inj
def cBm:=@Nat.lt_of_le_of_lt
def cBn:=@List.set_eq_take_append_cons_drop
def cBo:=@List.set_cons_succ
def cBp:=@Nat.add_sub_cancel_left
def cBq:=@List.filter_cons_of_pos
def cBr:=@List.take_take
def cBs:=@List.drop_left
def cBt:=@List.map_nil
def cBu:=@if_true
def cBv:=@beq_self_eq_true
def cBw:=@List.range_eq_range'
def cBx:=@Nat.sub_succ_lt_self
def cBy:=@Nat.div_le_div_right
def cBz:=@Array.getElem?_setIfInBounds
def cB4:=@Bool.false_or
def cB5:=@true_and
def cB6:=@Option.map_some
def cB7:=@List.flatten_append
def cB8:=@Array.toList_append
def cB9:=@UInt8.toNat_inj
def cCa:=@List.any_append
def cCb:=@List.map_id
def cCc:=@Int.le_refl
def cCd:=@Nat.beq_refl
def cCe:=@Nat.zero_mul
def cCf:=@grownCap_le_maxLen
def cCg:=@Nat.sub_zero
def cCh:=@Int.emod_lt_of_pos
def cCi:=@UInt8.toNat_ofNat'
def cCj:=@Nat.xor_lt_two_pow
def cCk:=@Nat.add_sub_cancel
def cCl:=@List.drop_take
def cCm:=@List.mapM_cons
def cCn:=@Ne.symm
def cCo:=@cell_of_row
def cCp:=@Nat.one_mul
def cCq:=@Array.toList_map
def cCr:=@List.ext_getElem
def cCs:=@Bool.not_eq_true
def cCt:=@Option.bind_some
def cCu:=@List.range'_succ
def cCv:=@List.drop_append
def cCw:=@Nat.mul_mod_left
def cCx:=@Int.natCast_mul
def cCy:=@DataW.trod_step
def cCz:=@Nat.div_le_self
def cC0:=@Nat.div_add_mod
def cC1:=@Nat.pow_add

inductive AV where
 | undef
 | opq (i:Nat)
 | bool (b:Bool)
 | int (k:IntKind) (n:Int)
 | str (s:LA)
 | nilp
 | ptr (id tot off:Nat)
 | gptr (g off:Nat)
 | nils
 | sl (id tot off len sz:Nat)
 | nilf
 | fn (f:Fn) (first cap:List AV)
 | yld (u:Nat)
 | nili
 | iface (t:TypeId) (v:AV)
 | agg (cs:List AV)
 | tup (vs:List AV)
 | lst (t:Nat) (l:List AV) (len sz:Nat)
 | lptr (t:Nat) (l:List AV) (off:Nat)
 | mpn
 | mp (id:Nat)
 deriving Inhabited

abbrev HB:=List AV
inductive AO where
 | t (n:Nat)
 | c (v:AV)
 deriving Inhabited

structure Pt where
 agg:Bool
 off:Nat
 size:Nat
 deriving Inhabited

mutual
inductive Sh where
 | bl | it | st | ptr | slc | fnc | ifc
 | agg (fs:Fs)
 | bad
inductive Fs where
 | nil
 | cons (p:Pt) (sh:Sh) (fs:Fs)
end
instance:Inhabited Sh:=⟨.bad⟩
instance:Inhabited Fs:=⟨.nil⟩

def Fs.of:List (Pt×Sh)->Fs
 | []=>.nil
 | (p,sh)::l=>.cons p sh (Fs.of l)

inductive CV where
 | toInt (k:IntKind) | toBytes | ofBytes | same | bad | tas (t:Nat) | tasOk (t:Nat) (z:AV)
 deriving Inhabited

inductive AOp where
 | mv (x:AO)
 | pick (c a b:AO)
 | box (x:AO)
 | build (zero:HB) (parts:List (Nat×Nat×AO))
 | bsl (zero:HB) (size len:Nat) (parts:List (Nat×Nat×AO))
 | ld (agg:Bool) (size:Nat) (a:AO)
 | st (size:Nat) (a x:AO)
 | nilck (x:AO)
 | bin (op:BinOp) (sh:Sh) (x y:AO)
 | un (op:UnOp) (x:AO)
 | conv (k:CV) (x:AO)
 | mark (x:AO)
 | mkif (t:Nat) (x:AO)
 | mkfn (f:Fn) (first cap:List AO)
 | mksl (zero:HB) (size bytes:Nat) (same:Bool) (l c:AO)
 | slS (x:AO) (lo hi:Option AO)
 | slL (size:Nat) (x:AO) (lo hi:Option AO)
 | slA (n size:Nat) (x:AO) (lo hi:Option AO)
 | fa (off:Nat) (x:AO)
 | fld (p:Pt) (x:AO)
 | iaA (n size:Nat) (x i:AO)
 | iaL (size:Nat) (x i:AO)
 | ixA (n:Nat) (p:Pt) (x i:AO)
 | ixS (x i:AO)
 | ext (x:AO) (i:Nat)
 | call (f:AO) (args:List AO)
 | lenS (x:AO) | lenL (x:AO) | lenA (n:Nat)
 | app (size bytes:Nat) (zs:Option HB) (x y:AO)
 | copy (size:Nat) (x y:AO)
 | s2a (n:Nat) (x:AO)
 | mkmp
 | mpget (st:Option IntKind) (x i:AO) (z:AV)
 | mpput (st:Option IntKind) (x i v:AO)
 | mx (xs:List AO) | mn (xs:List AO)
 | bad (why:String)
 deriving Inhabited

structure AOper where
 dst:Option Nat
 op:AOp
 guard:Option (Nat×Bool)
 ix:Nat:=0
 bf:Nat:=0
 deriving Inhabited


def gT:AV->Option HB
 | .undef=>none
 | .tup _=>none
 | .agg cs=>some cs
 | v=>some [v]

def one:AV->Bool
 | .undef=>false
 | .tup _=>false
 | .agg _=>false
 | _=>true

def eH:HB->Bool
 | []=>true
 | v::l=>one v&&eH l

mutual
def old(b:Nat):AV->Bool
 | .ptr id _ _=>Nat.blt id b
 | .sl id _ _ _ _=>Nat.blt id b
 | .mp id=>Nat.blt id b
 | .fn _ x y=>aP b x&&aP b y
 | .iface _ v=>old b v
 | .agg l=>aP b l
 | .tup l=>aP b l
 | _=>true
def aP(b:Nat):HB->Bool
 | []=>true
 | v::l=>old b v&&aP b l
end

mutual
def noY:AV->Bool
 | .fn _ x y=>bX x&&bX y
 | .yld _=>false
 | .iface _ v=>noY v
 | .agg l=>bX l
 | .tup l=>bX l
 | _=>true
def bX:HB->Bool
 | []=>true
 | v::l=>noY v&&bX l
end

mutual
def nor(i:Nat):AV->Bool
 | .ptr id _ _ => !Nat.beq id i
 | .sl id _ _ _ _ => !Nat.beq id i
 | .mp id => !Nat.beq id i
 | .fn _ x y=>aI2 i x&&aI2 i y
 | .iface _ v=>nor i v
 | .agg l=>aI2 i l
 | .tup l=>aI2 i l
 | _=>true
def aI2(i:Nat):HB->Bool
 | []=>true
 | v::l=>nor i v&&aI2 i l
end

inductive BK where | ro | exact | grow
 deriving Inhabited,DecidableEq

structure Blk where
 k:BK
 lf:Bool
 cs:HB
 deriving Inhabited

abbrev HV:=List Blk
def aNh(b:Nat):HV->Bool
 | []=>true
 | x::l=>(x.lf||aP b x.cs)&&aNh b l

def iJ(k:BK)(cs:HB):Blk:=⟨k,aP 0 cs,cs⟩


inductive T where
 | e
 | n (l:T) (v:AV) (r:T)
 deriving Inhabited

def T.get:T->Nat->AV
 | .e,_=>.undef
 | .n l v r,k=>match k with
  | 0=>v
  | k+1=>if k%2=0 then l.get (k/2)else r.get (k/2)

def T.put:Nat->T->Nat->AV->T
 | 0,t,_,_=>t
 | d+1,.e,k,v=>match k with
  | 0=>.n .e v .e
  | k+1=>if k%2=0 then .n (T.put d .e (k/2) v) .undef .e else .n .e .undef (T.put d .e (k/2) v)
 | d+1,.n l x r,k,v=>match k with
  | 0=>.n l v r
  | k+1=>if k%2=0 then .n (T.put d l (k/2) v) x r else .n l x (T.put d r (k/2) v)

def T.mk':T->AV->T->T
 | .e,.undef,.e=>.e
 | l,v,r=>.n l v r

def T.keep(mask:Nat):T->(a b:Nat)->T
 | .e,_,_=>.e
 | .n l v r,a,b=>T.mk' (l.keep mask (2*a) (a+b)) (bif mask.testBit b then v else .undef) (r.keep mask (2*a) (2*a+b))

def T.old(b:Nat):T->Bool
 | .e=>true
 | .n l v r=>YtnhechnaemmdiaaGreatDoor.old b v&&l.old b&&r.old b

def T.nor(i:Nat):T->Bool
 | .e=>true
 | .n l v r=>YtnhechnaemmdiaaGreatDoor.nor i v&&l.nor i&&r.nor i

def bJ8(i:Nat):HV->Bool
 | []=>true
 | x::l=>(x.lf||aI2 i x.cs)&&bJ8 i l

def aAf:Nat->HB->T->T
 | _,[],t=>t
 | i,v::l,t=>aAf (i+1) l (T.put 12 t i v)

structure S where
 tm:T
 hp:HV
 deriving Inhabited

inductive Ex where
 | nrm | exit (id:Nat) | ret | pan (v:AV)
 deriving Inhabited

inductive Out where
 | ret (v:AV) | pan (v:AV)
 deriving Inhabited

inductive AC where
 | skip
 | region (ops:List AOper)
 | drawn (ops:List AOper)
 | seq (a b:AC)
 | cond (c:AO) (a b:AC)
 | block (id:Nat) (b:AC)
 | loop (id lv:Nat) (b:AC)
 | exit (id:Nat)
 | ret
 | sum (g:S->(Ex->S->Prop)->Prop)
 | rfn (g:AO) (ps:List Nat) (asg body:AC)
 | bad (why:String)
 deriving Inhabited

inductive Lst where
 | ready | busy | done (e:Ex)
 deriving Inhabited

structure Lp where
 u:Nat
 tm:T
 ps:List Nat
 asg:AC
 body:AC
 st:Lst
 f:Nat
 deriving Inhabited

structure Gh where
 f:Nat:=0
 n:Nat:=0
 lps:List Lp:=[]
 deriving Inhabited

abbrev BS:=Out->List Blk->Gh->Prop
def Gh.at(g:Gh)(f:Nat):Gh := { g with f:=f }
def Gh.key(g:Gh):Option Nat->Nat
 | some d=>g.f*4096+d
 | none=>g.f*4096+4095

def zY(u:Nat):List Lp->Option Lp
 | []=>none
 | p::l=>bif Nat.beq p.u u then some p else zY u l

def aZ6(u:Nat)(st:Lst):List Lp->List Lp
 | []=>[]
 | p::l=>bif Nat.beq p.u u then{ p with st:=st }::l else p::aZ6 u st l

def Gh.set(g:Gh)(u:Nat)(st:Lst):Gh := { g with lps:=aZ6 u st g.lps }

def Gh.isReady(g:Gh)(u:Nat):Bool:=match zY u g.lps with
 | some p=>(match p.st with | .ready=>true | _=>false)
 | none=>false

def vF:T->List Nat->HB->T
 | t,p::ps,v::vs=>vF (T.put 12 t p v) ps vs
 | t,_,_=>t

inductive ARes where
 | tmp (t:Nat)
 | cell (a:Nat) (agg:Bool) (size:Nat)
 deriving Inhabited

structure AFn where
 res:List ARes
 body:AC
 deriving Inhabited

def S.ev(s:S):AO->AV
 | .t n=>s.tm.get n
 | .c v=>v

def S.put(s:S)(d:Option Nat)(v:AV):S:=match d with
 | some k => { s with tm:=T.put 12 s.tm k v }
 | none=>s

inductive Pa where
 | int (k:IntKind) | bool | str | agg (l:List Pa) | sl (sz:Nat) | lst (sz:Nat) | any | lit (v:AV) | ex (f:Nat->AV) | or (p q:Pa) | split
 deriving Inhabited

abbrev LI:=Nat->Option Pa
structure Lf (p:Prop):Prop where
 h:p

structure LInv where
 α:Type
 pre:α->Prop
 st:α->S
 mu:α->Nat

structure Env where
 fn:Nat->Option AFn
 sm:Nat->Option (HB->HV->(Out->HV->Prop)->Prop):=λ_=>none
 gl:Nat->Option HB:=λ_=>none
 inv:Nat->Option (S->List (List LInv)):=λ_=>none
 hv:LI:=λ_=>none
 hb:LB:=λ_=>none
 hz:Nat->Bool:=λ_=>false
 hf:Nat->List (Nat×Nat):=λ_=>[]

def ck(_E:Env)(b:Bool)(c:Prop):Prop:=bif b then c else False

mutual
def exP:Pa->(AV->Prop)->Prop
 | .int k,K=>∃n:Int,K (.int k n)
 | .bool,K=>∃b:Bool,K (.bool b)
 | .str,K=>∃s:LA,K (.str s)
 | .agg l,K=>bMk l λvs=>K (.agg vs)
 | .sl sz,K=>∃id tot off len:Nat,K (.sl id tot off len sz)
 | .lst sz,K=>∃ (t:Nat) (cs:HB) (len:Nat),K (.lst t cs len sz)
 | .any,K=>∃v:AV,K v
 | .lit v,K=>K v
 | .ex f,K=>∃n:Nat,K (f n)
 | .or p q,K=>exP p K∨exP q K
 | .split,_=>False
def bMk:List Pa->(HB->Prop)->Prop
 | [],K=>K []
 | p::l,K=>exP p λv=>bMk l λvs=>K (v::vs)
end

def hint(E:Env)(k:Nat)(v:AV)(c:AV->Prop):Prop:=match E.hv k with
 | none=>(match v with
  | .bool b=>bif b then c (.bool true)else c (.bool false)
  | v=>c v)
 | some .split=>c v
 | some p=>exP p λu=>v=u∧c u


def aN(l:HB)(off:Nat)(vs:HB):HB:=l.take off++vs++l.drop (off+vs.length)


def eqB:LA->LA->Bool
 | [],[]=>true
 | a::x,b::y=>Nat.beq a.toNat b.toNat&&eqB x y
 | _,_=>false

def aOw(b:Blk):Option HB:=match b.k with
 | .ro=>(match b.lf with
  | false=>(match b.cs with
   | [.tup c]=>some c
   | _=>none)
  | true=>none)
 | _=>none
def isMap(b:Blk):Bool:=match aOw b with
 | some _=>true
 | none=>false
def ownB(b:Blk):Prop:=b.k≠.ro∨isMap b=true
def lC(H:HV)(id:Nat):Option Nat:=match H[id]? with
 | some b=>some (bif isMap b then 0 else b.cs.length+1)
 | none=>none
def cur(H:HV)(id tot:Nat):Bool:=match H[id]? with
 | some b => !isMap b&&Nat.beq b.cs.length tot
 | none=>false
def aPd(st:Option IntKind):AV->AV->Option Bool
 | .int k a,.int k' b=>bif st.isSome then(if k=k' then some (decide (a=b))else none)else none
 | .str a,.str b=>bif st.isSome then none else some (eqB a b)
 | _,_=>none
def isK(st:Option IntKind):AV->Bool
 | .int k _=>(match st with | some q=>decide (q=k) | none=>false)
 | .str _ => !st.isSome
 | _=>false
def rV(st:Option IntKind)(q z:AV):HB->Option AV
 | []=>some z
 | k::v::l=>match aPd st q k with
  | some true=>some v
  | some false=>rV st q z l
  | none=>none
 | _=>none
def aN5(st:Option IntKind)(q x:AV):HB->Option HB
 | []=>some [q,x]
 | k::v::l=>match aPd st q k with
  | some true=>some (k::x::l)
  | some false=>(match aN5 st q x l with
   | some l'=>some (k::v::l')
   | none=>none)
  | none=>none
 | _=>none

def aR(H:HV)(id off size:Nat):HB:=match H[id]? with
 | some b=>(b.cs.drop off).take size
 | none=>[]

structure Rdc where
 id:Nat
 off:Nat
 size:Nat
 deriving Inhabited

structure LR where
 v:AV
 pre:Bool:=true
 nb:Option Blk:=none
 rd:List Rdc:=[]

def vE:AV->Option (Bool×Nat)
 | .int _ n=>some (decide (0<=n),n.toNat)
 | _=>none

def toB:AV->UInt8
 | .int _ n=>UInt8.ofNat n.toNat
 | _=>0

def fU:HB->Bool
 | []=>true
 | .int .u8 _::l=>fU l
 | _::_=>false

def ofBytes(l:LA):HB:=l.map λc=>.int .u8 (c.toNat:Int)

def ltB:LA->LA->Bool
 | _,[]=>false
 | [],_::_=>true
 | a::x,b::y=>decide (a.toNat<b.toNat)||(a.toNat==b.toNat&&ltB x y)

def intBits(op:BinOp)(k:IntKind)(x y:Int):Option AV:=
 let a:=(x%(2^k.bits:Int)).toNat
 let b:=(y%(2^k.bits:Int)).toNat
 match op with
 | .and=>some (.int k (k.wrap ((a &&& b:Nat):Int)))
 | .or=>some (.int k (k.wrap ((a ||| b:Nat):Int)))
 | .xor=>some (.int k (k.wrap ((a ^^^ b:Nat):Int)))
 | .andNot=>some (.int k (k.wrap ((a &&& (2^k.bits-1-b):Nat):Int)))
 | _=>none

def partOf(p:Pt)(l:HB):AV:=bif p.agg then .agg ((l.drop p.off).take p.size)else l.getD p.off .undef

mutual
def eqV:Sh->AV->AV->Option (List (Nat×Nat)×Bool)
 | .bl,.bool a,.bool b=>some ([],a==b)
 | .it,.int k a,.int k' b=>if k=k' then some ([],a==b)else none
 | .st,.str a,.str b=>some ([],eqB a b)
 | .ptr,.nilp,.nilp=>some ([],true)
 | .ptr,.nilp,.ptr id tot _=>some ([(id,tot)],false)
 | .ptr,.ptr id tot _,.nilp=>some ([(id,tot)],false)
 | .slc,.nils,.nils=>some ([],true)
 | .slc,.nils,.sl id tot _ _ _=>some ([(id,tot)],false)
 | .slc,.sl id tot _ _ _,.nils=>some ([(id,tot)],false)
 | .fnc,.nilf,.nilf=>some ([],true)
 | .fnc,.nilf,.fn .. => some ([],false)
 | .fnc,.fn ..,.nilf=>some ([],false)
 | .ifc,.nili,.nili=>some ([],true)
 | .ifc,.nili,.iface .. => some ([],false)
 | .ifc,.iface ..,.nili=>some ([],false)
 | .agg fs,.agg a,.agg b=>match eqF fs a b with
  | some (true,c,r)=>some (c,r)
  | _=>none
 | _,_,_=>none
def eqF:Fs->HB->HB->Option (Bool×List (Nat×Nat)×Bool)
 | .nil,_,_=>some (true,[],true)
 | .cons p sh fs,x,y=>
  match eqV sh (partOf p x) (partOf p y),eqF fs x y with
  | some (c,r),some (b,c',r')=>some (b&&(p.agg||Nat.blt p.off x.length&&Nat.blt p.off y.length),c++c',r&&r')
  | _,_=>none
end

def binop(op:BinOp)(sh:Sh)(x y:AV):Option (Bool×List (Nat×Nat)×AV):=
 match op,x,y with
 | .shl,.int k a,.int _ b=>some (decide (0<=b),[],.int k (k.wrap (a*2^(min b.toNat k.bits))))
 | .shr,.int k a,.int _ b=>some (decide (0<=b),[],.int k (a.fdiv (2^(min b.toNat k.bits))))
 | _,.int k a,.int k' b=>if k=k' then(match op with
  | .add=>some (true,[],.int k (k.wrap (a+b)))
  | .sub=>some (true,[],.int k (k.wrap (a-b)))
  | .mul=>some (true,[],.int k (k.wrap (a*b)))
  | .quo=>some (b !=0,[],.int k (k.wrap (a.tdiv b)))
  | .rem=>some (b !=0,[],.int k (a.tmod b))
  | .and | .or | .xor | .andNot=>(intBits op k a b).map λv=>(true,[],v)
  | .eql=>some (true,[],.bool (a==b))
  | .neq=>some (true,[],.bool (a !=b))
  | .lss=>some (true,[],.bool (decide (a<b)))
  | .leq=>some (true,[],.bool (decide (a<=b)))
  | .gtr=>some (true,[],.bool (decide (a>b)))
  | .geq=>some (true,[],.bool (decide (a≥b)))
  | _=>none)else none
 | _,.str a,.str b=>match op with
  | .add=>some (decide (a.length+b.length<=9223372036854775807),[],.str (a++b))
  | .eql=>some (true,[],.bool (eqB a b))
  | .neq=>some (true,[],.bool (!eqB a b))
  | .lss=>some (true,[],.bool (ltB a b))
  | .leq=>some (true,[],.bool (ltB a b||eqB a b))
  | .gtr=>some (true,[],.bool (!(ltB a b||eqB a b)))
  | .geq=>some (true,[],.bool (!ltB a b))
  | _=>none
 | .eql,.agg a,.agg b=>match sh with
  | .agg fs=>(match eqF fs a b with | some (p,c,r)=>some (p,c,.bool r) | none=>none)
  | _=>none
 | .neq,.agg a,.agg b=>match sh with
  | .agg fs=>(match eqF fs a b with | some (p,c,r)=>some (p,c,.bool !r) | none=>none)
  | _=>none
 | .eql,x,y=>match eqV sh x y with
  | some (c,r)=>some (true,c,.bool r)
  | none=>none
 | .neq,x,y=>match eqV sh x y with
  | some (c,r)=>some (true,c,.bool !r)
  | none=>none
 | _,_,_=>none

def bWj(op:UnOp)(x:AV):Option AV:=
 match op,x with
 | .neg,.int k n=>some (.int k (k.wrap (0-n)))
 | .xor,.int k n=>intBits .xor k (if k.signed then -1 else k.max) n
 | .not,.bool b=>some (.bool !b)
 | _,_=>none

def yT(ev:AO->AV):HB->List (Nat×Nat×AO)->Option (Bool×HB)
 | cs,[]=>some (true,cs)
 | cs,(o,n,x)::ps=>match gT (ev x)with
  | none=>none
  | some v=>match yT ev (aN cs o v) ps with
   | some (b,r)=>some (b&&Nat.beq v.length n&&Nat.ble (o+n) cs.length,r)
   | none=>none

def bnd(ev:AO->AV)(o:Option AO)(d:Nat):Option (Bool×Nat):=match o with
 | none=>some (true,d)
 | some x=>vE (ev x)

def aR2(x y:Int):Int:=if y<x then y else x
def tQ(x y:Int):Int:=if y>x then y else x
def bR7(k:IntKind)(x:Int):HB->Option AV
 | []=>some (.int k x)
 | .int _ y::l=>bR7 k (aR2 x y) l
 | _::_=>none
def bQ5(k:IntKind)(x:Int):HB->Option AV
 | []=>some (.int k x)
 | .int _ y::l=>bQ5 k (tQ x y) l
 | _::_=>none

def lS(b:Option (Bool×Nat))(c:Option (Bool×Nat)):Option (Bool×Nat×Nat):=match b,c with
 | some (p,l),some (q,h)=>some (p&&q,l,h)
 | _,_=>none

def fB(cu:Nat->Nat->Bool):List (Nat×Nat)->Bool
 | []=>true
 | (id,tot)::l=>cu id tot&&fB cu l

def lop(gl:Nat->Option HB)(ev:AO->AV)(cu:Nat->Nat->Bool)(ca:Nat->Nat->Nat->HB)(nid:Nat):AOp->Option LR
 | .mv x=>some { v:=ev x }
 | .pick c a b=>match ev c with
  | .bool t=>some { v:=bif t then ev a else ev b }
  | _=>none
 | .box x=>match gT (ev x)with
  | some cs=>some { v:=.ptr nid cs.length 0,nb:=some (iJ .exact cs) }
  | none=>none
 | .build z ps=>match yT ev z ps with
  | some (b,cs)=>some { v:=.agg cs,pre:=b }
  | none=>none
 | .bsl z size n ps=>match yT ev z ps with
  | some (b,cs)=>some { v:=.sl nid cs.length 0 n size,pre:=b,nb:=some (iJ .exact cs) }
  | none=>none
 | .ld agg n a=>match ev a with
  | .ptr id tot off=>some (bif agg then{ v:=.agg (ca id off n),pre:=cu id tot&&Nat.ble (off+n) tot,rd:=[⟨id,off,n⟩] }
    else{ v:=(ca id off 1).getD 0 .undef,pre:=cu id tot&&Nat.blt off tot,rd:=[⟨id,off,1⟩] })
  | .gptr g off=>match gl g with
   | some cs=>some (bif agg then{ v:=.agg ((cs.drop off).take n),pre:=Nat.ble (off+n) cs.length }else{ v:=cs.getD off .undef,pre:=Nat.blt off cs.length })
   | none=>none
  | .lptr _ l off=>some (bif agg then{ v:=.agg ((l.drop off).take n),pre:=Nat.ble (off+n) l.length }else{ v:=l.getD off .undef,pre:=Nat.blt off l.length })
  | _=>none
 | .nilck x=>match ev x with
  | .ptr id tot off=>some { v:=.ptr id tot off,pre:=cu id tot,rd:=[⟨id,0,0⟩] }
  | .gptr g off=>some { v:=.gptr g off }
  | .fn (.func f) a b=>some { v:=.fn (.func f) a b }
  | .iface t v=>some { v:=.iface t v }
  | .lptr t l off=>some { v:=.lptr t l off }
  | _=>none
 | .bin op sh x y=>match binop op sh (ev x) (ev y)with
  | some (b,c,v)=>some { v:=v,pre:=b&&fB cu c,rd:=c.map λp=>⟨p.1,0,0⟩ }
  | none=>none
 | .un op x=>match bWj op (ev x)with
  | some v=>some { v:=v }
  | none=>none
 | .conv k x=>match k,ev x with
  | .toInt k,.int _ n=>some { v:=.int k (k.wrap n) }
  | .same,.str b=>some { v:=.str b }
  | .toBytes,.str b=>some { v:=.sl nid b.length 0 b.length 1,nb:=some (iJ .grow (ofBytes b)) }
  | .tas t,.iface t' v=>some { v:=v,pre:=Nat.beq t' t }
  | .tasOk _ z,.nili=>some { v:=.tup [z,.bool false] }
  | .tasOk t z,.iface t' v=>some { v:=bif Nat.beq t' t then .tup [v,.bool true]else .tup [z,.bool false] }
  | .ofBytes,.nils=>some { v:=.str [] }
  | .ofBytes,.lst _ l n sz=>some { v:=.str (l.map toB),pre:=Nat.beq sz 1&&fU l&&Nat.beq l.length n }
  | .ofBytes,.sl id tot off n sz=>some { v:=.str ((ca id off n).map toB),pre:=cu id tot&&Nat.ble (off+n) tot&&Nat.beq sz 1&&fU (ca id off n),rd:=[⟨id,off,n⟩] }
  | _,_=>none
 | .mkif t x=>some { v:=.iface t (ev x) }
 | .mkfn f a b=>some { v:=.fn f (a.map ev) (b.map ev) }
 | .mksl z size bytes same l c=>match ev l,ev c with
  | .int _ l,.int _ c=>some { v:=.sl nid (l.toNat*size) 0 l.toNat size,pre:=decide (0<=l)&&decide (l<=c)&&decide (c<=1099511627776)&&decide (c*bytes<=1099511627776),nb:=some (iJ (bif same then .exact else .grow) ((List.replicate l.toNat z).flatten)) }
  | _,_=>none
 | .slS x lo hi=>match ev x with
  | .str b=>match lS (bnd ev lo 0) (bnd ev hi b.length)with
   | some (p,l,h)=>some { v:=.str ((b.drop l).take (h-l)),pre:=p&&Nat.ble l h&&Nat.ble h b.length }
   | none=>none
  | _=>none
 | .slL n x lo hi=>match ev x with
  | .nils=>match lS (bnd ev lo 0) (bnd ev hi 0)with
   | some (p,l,h)=>some { v:=.nils,pre:=p&&Nat.beq l 0&&Nat.beq h 0 }
   | none=>none
  | .sl id tot off len sz=>match lS (bnd ev lo 0) (bnd ev hi len)with
   | some (p,l,h)=>some { v:=.sl id tot (off+l*n) (h-l) n,pre:=p&&Nat.ble l h&&Nat.ble h len&&cu id tot&&Nat.beq sz n,rd:=[⟨id,0,0⟩] }
   | none=>none
  | .lst t cs len sz=>match lS (bnd ev lo 0) (bnd ev hi len)with
   | some (p,l,h)=>some { v:=.lst t ((cs.drop (l*n)).take ((h-l)*n)) (h-l) n,pre:=p&&Nat.ble l h&&Nat.ble h len&&Nat.beq sz n }
   | none=>none
  | _=>none
 | .slA k n x lo hi=>match ev x with
  | .ptr id tot off=>match lS (bnd ev lo 0) (bnd ev hi k)with
   | some (p,l,h)=>some { v:=.sl id tot (off+l*n) (h-l) n,pre:=p&&Nat.ble l h&&Nat.ble h k&&cu id tot&&Nat.ble (off+k*n) tot,rd:=[⟨id,0,0⟩] }
   | none=>none
  | _=>none
 | .fa o x=>match ev x with
  | .ptr id tot off=>some { v:=.ptr id tot (off+o),pre:=cu id tot,rd:=[⟨id,0,0⟩] }
  | .gptr g off=>some { v:=.gptr g (off+o) }
  | .lptr t l off=>some { v:=.lptr t l (off+o) }
  | _=>none
 | .fld p x=>match ev x with
  | .agg cs=>some { v:=partOf p cs,pre:=p.agg||Nat.blt p.off cs.length }
  | _=>none
 | .iaA k n x i=>match ev x,vE (ev i)with
  | .ptr id tot off,some (b,i)=>some { v:=.ptr id tot (off+i*n),pre:=b&&Nat.blt i k&&cu id tot,rd:=[⟨id,0,0⟩] }
  | .gptr g off,some (b,i)=>some { v:=.gptr g (off+i*n),pre:=b&&Nat.blt i k }
  | .lptr t l off,some (b,i)=>some { v:=.lptr t l (off+i*n),pre:=b&&Nat.blt i k }
  | _,_=>none
 | .iaL n x i=>match ev x,vE (ev i)with
  | .sl id tot off len sz,some (b,i)=>some { v:=.ptr id tot (off+i*n),pre:=b&&Nat.blt i len&&cu id tot&&Nat.beq sz n,rd:=[⟨id,0,0⟩] }
  | .lst t l len sz,some (b,i)=>some { v:=.lptr t l (i*n),pre:=b&&Nat.blt i len&&Nat.beq sz n }
  | _,_=>none
 | .ixA k p x i=>match ev x,vE (ev i)with
  | .agg cs,some (b,i)=>some { v:=partOf ⟨p.agg,i*p.size,p.size⟩ cs,pre:=b&&Nat.blt i k&&(p.agg||Nat.blt (i*p.size) cs.length) }
  | _,_=>none
 | .ixS x i=>match ev x,vE (ev i)with
  | .str s,some (b,i)=>some { v:=.int .u8 ((s.getD i 0).toNat:Int),pre:=b&&Nat.blt i s.length }
  | _,_=>none
 | .ext x i=>match ev x with
  | .tup vs=>some { v:=vs.getD i .undef,pre:=Nat.blt i vs.length }
  | _=>none
 | .lenS x=>match ev x with
  | .str b=>some { v:=.int .i64 (b.length:Int) }
  | _=>none
 | .lenL x=>match ev x with
  | .nils=>some { v:=.int .i64 0 }
  | .sl id tot _ n _=>some { v:=.int .i64 (n:Int),pre:=cu id tot,rd:=[⟨id,0,0⟩] }
  | .lst _ _ n _=>some { v:=.int .i64 (n:Int) }
  | _=>none
 | .lenA n=>some { v:=.int .i64 (n:Int) }
 | .s2a n x=>match ev x with
  | .sl id tot off len _=>some { v:=.ptr id tot off,pre:=cu id tot&&Nat.ble n len&&Nat.blt 0 n,rd:=[⟨id,0,0⟩] }
  | _=>none
 | .mpget st x i z=>match ev x with
  | .mp id=>(match ca id 0 2 with
   | [.tup c]=>some { v:=(rV st (ev i) z c).getD .undef,pre := !cu id 1&&(isK st (ev i)&&(rV st (ev i) z c).isSome),rd:=[⟨id,0,2⟩] }
   | _=>none)
  | .mpn=>some { v:=z,pre:=isK st (ev i) }
  | _=>none
 | .mx xs=>match xs.map ev with
  | .int k x::l=>match bQ5 k x l with
   | some v=>some { v:=v }
   | none=>none
  | _=>none
 | .mn xs=>match xs.map ev with
  | .int k x::l=>match bR7 k x l with
   | some v=>some { v:=v }
   | none=>none
  | _=>none
 | _=>none

def src(H:HV)(size:Nat):AV->Option (Bool×Nat×HB)
 | .nils=>some (true,0,[])
 | .str b=>some (Nat.beq size 1,b.length,ofBytes b)
 | .sl id tot off len sz=>some (cur H id tot&&Nat.beq sz size&&Nat.ble (off+len*size) tot,len,aR H id off (len*size))
 | .lst _ l len sz=>some (Nat.beq sz size&&Nat.beq l.length (len*size),len,l)
 | _=>none

def bWe(H:HV)(size:Nat)(zs:Option HB)(v:AV):Option (Bool×Nat×HB):=match zs with
 | none=>src H size v
 | some z=>match v with
  | .int _ l=>some (decide (0<=l)&&decide (l<=1099511627776),l.toNat,(List.replicate l.toNat z).flatten)
  | _=>none

def bJ9(H:HV)(id:Nat)(off:Nat)(vs:HB):HV:=match H[id]? with
 | some b=>H.set id ⟨b.k,b.lf&&aP 0 vs,aN b.cs off vs⟩
 | none=>H

def bFj(H:HV)(id:Nat)(vs:HB):HV:=match H[id]? with
 | some b=>H.set id ⟨b.k,b.lf&&aP 0 vs,b.cs++vs⟩
 | none=>H

def oJ(H:HV)(id:Nat):BK:=match H[id]? with
 | some b=>b.k
 | none=>.ro

def bOm:AV->Option Bool
 | .nils=>some true
 | .str s=>some (Nat.beq s.length 0)
 | .sl _ _ _ n _=>some (Nat.beq n 0)
 | .lst _ _ n _=>some (Nat.beq n 0)
 | .int _ l=>some (decide (l=0))
 | _=>none

def hop(E:Env)(ev:AO->AV)(H:HV)(k:Nat)(op:AOp)(K:AV->HV->Prop):Prop:=
 match op with
 | .st n a x=>match ev a,gT (ev x)with
  | .ptr id tot off,some vs=>ck E (cur H id tot&&Nat.ble (off+n) tot&&Nat.beq vs.length n&&eH vs&&oJ H id !=.ro) (K .undef (bJ9 H id off vs))
  | _,_=>False
 | .mark x=>match ev x with
  | .sl id tot off len sz=>ck E (cur H id tot&&oJ H id==.grow) (K (.sl id tot off len sz) H)
  | _=>False
 | .mkmp=>K (.mp H.length) (H++[⟨.ro,false,[.tup []]⟩])
 | .mpput st x i v=>match ev x with
  | .mp id=>(match H[id]? with
   | some b=>(match aOw b with
    | some c=>ck E (isK st (ev i)&&(old 0 (ev v)&&(noY (ev v)&&(aN5 st (ev i) (ev v) c).isSome))) (K .undef (H.set id ⟨.ro,b.lf,[.tup ((aN5 st (ev i) (ev v) c).getD [])]⟩))
    | none=>False)
   | none=>False)
  | _=>False
 | .app n bytes zs x y=>match bWe H n zs (ev y)with
  | none=>False
  | some (b,m,vs)=>
   ck E (b&&eH vs&&Nat.blt 0 n&&Nat.ble (m*bytes) 1099511627776) <|
   match (match E.hb k with | some t=>some t | none=>bOm (ev y))with
   | none=>False
   | some true=>ck E (Nat.beq m 0) (match ev x with
    | .nils=>K .nils H
    | .sl id tot off len sz=>ck E (cur H id tot&&Nat.beq sz n) (K (.sl id tot off len sz) H)
    | _=>False)
   | some false=>ck E (Nat.blt 0 m) (match ev x with
    | .nils=>ck E (Nat.ble m 1099511627776&&Nat.ble (m*bytes) 1099511627776) (K (.sl H.length vs.length 0 m n) (H++[iJ .grow vs]))
    | .sl id tot off len sz=>
     ck E (cur H id tot&&Nat.beq sz n&&Nat.beq (off+len*n) tot&&Nat.ble (len+m) 1099511627776&&Nat.ble ((len+m)*bytes) 1099511627776) <|
     match oJ H id with
     | .grow=>ck E (Nat.beq off 0) (K (.sl id (tot+vs.length) 0 (len+m) n) (bFj H id vs))
     | .exact=>K (.sl H.length (len*n+vs.length) 0 (len+m) n) (H++[iJ .grow (aR H id off (len*n)++vs)])
     | .ro=>False
    | _=>False)
 | .copy n x y=>match src H n (ev y)with
  | none=>False
  | some (b,m,vs)=>ck E (b&&eH vs) <| match ev x with
   | .nils=>K (.int .i64 0) H
   | .sl id tot off len sz=>ck E (cur H id tot&&Nat.beq sz n&&Nat.ble (off+len*n) tot&&oJ H id !=.ro) (K (.int .i64 ((min m len:Nat):Int)) (bJ9 H id off (vs.take (min m len*n))))
   | _=>False
 | _=>False

def bIs(E:Env)(ev:AO->AV)(H:HV)(k:Nat)(op:AOp)(K:AV->HV->Prop):Prop:=
 match op with
 | .bin .eql .slc x y=>(match ev x,ev y with
  | .lst _ _ n _,.nils=>K (.bool false) H∧(bif Nat.beq n 0 then K (.bool true) H else True)
  | _,_=>False)
 | op=>hop E ev H k op K


def slots(l:List AO):List Nat:=l.filterMap λx=>match x with | .t n=>some n | .c _=>none
def bVn(x:Option AO):List AO:=match x with | some a=>[a] | none=>[]
def rQ:AOp->List Nat
 | .mv x | .box x | .nilck x | .un _ x | .conv _ x | .mark x | .mkif _ x | .fa _ x | .fld _ x | .ext x _ | .lenS x | .lenL x | .s2a _ x | .ld _ _ x=>slots [x]
 | .pick a b c=>slots [a,b,c]
 | .build _ ps | .bsl _ _ _ ps=>slots (ps.map λp=>p.2.2)
 | .st _ a b | .bin _ _ a b | .mksl _ _ _ _ a b | .iaA _ _ a b | .iaL _ a b | .ixA _ _ a b | .ixS a b | .app _ _ _ a b | .copy _ a b=>slots [a,b]
 | .mkfn _ a b=>slots (a++b)
 | .mkmp=>[]
 | .mpget _ x i _=>slots [x,i]
 | .mpput _ x i v=>slots [x,i,v]
 | .slS x l h | .slL _ x l h | .slA _ _ x l h=>slots (x::(bVn l++bVn h))
 | .call f l=>slots (f::l)
 | .mx l | .mn l=>slots l
 | .lenA _ | .bad _=>[]

def evu(us:List Nat)(tm:T):AO->AV
 | .t n=>bif us.contains n then tm.get n else .undef
 | .c v=>v

def gd(s:S):Option (Nat×Bool)->Option Bool
 | none=>some true
 | some (j,b)=>match s.tm.get j with
  | .bool x=>some (bif b then x else !x)
  | .tup []=>some false
  | _=>none

def zC:HB->AV
 | [v]=>v
 | l=>.tup l

def lI(E:Env)(s:S):List ARes->(HB->Prop)->Prop
 | [],K=>K []
 | .tmp t::l,K=>lI E s l λvs=>K (s.tm.get t::vs)
 | .cell a agg n::l,K=>match s.tm.get a with
  | .ptr id tot off=>ck E (cur s.hp id tot&&Nat.ble (off+(bif agg then n else 1)) tot) <|
    lI E s l λvs=>K ((bif agg then .agg (aR s.hp id off n)else(aR s.hp id off 1).getD 0 .undef)::vs)
  | _=>False

def leave(E:Env)(base k:Nat)(v:AV)(H:HV)(K:HV->Prop):Prop:=
 match E.hb k with
 | some true=>(old base v&&aNh base (H.take base))=true∧K (H.take base)
 | some false=>K H
 | none=>bif old base v&&aNh base (H.take base)then K (H.take base)else K H

def done(E:Env)(res:List ARes)(base k:Nat)(Q:BS)(e:Ex)(s:S)(k':Gh):Prop:=match e with
 | .nrm=>lI E s res λvs=>leave E base (k'.f*4096+4094) (zC vs) s.hp λH'=>Q (.ret (zC vs)) H' (k'.at k)
 | .ret=>lI E s res λvs=>leave E base (k'.f*4096+4094) (zC vs) s.hp λH'=>Q (.ret (zC vs)) H' (k'.at k)
 | .pan v=>leave E base (k'.f*4096+4094) v s.hp λH'=>Q (.pan v) H' (k'.at k)
 | .exit _=>False

abbrev Rec:=AC->S->Gh->(Ex->S->Gh->Prop)->Prop

def aT(E:Env)(rec:Rec)(f:Nat)(args:HB)(H:HV)(g:Gh)(Q:BS):Prop:=
 match E.sm f with
 | some c=>c args H λo H'=>Q o H' g
 | none=>match E.fn f with
  | some c=>bif Nat.ble args.length 4000 then rec c.body ⟨aAf 0 args .e,H⟩ (g.at f) (done E c.res H.length g.f Q)else False
  | none=>False

def aUm(rec:Rec)(u:Nat)(args:HB)(H:HV)(g:Gh)(Q:BS):Prop:=
 match zY u g.lps with
 | some p=>bif Nat.beq args.length p.ps.length&&g.isReady u then
   rec p.asg ⟨vF p.tm p.ps args,H⟩ (g.at p.f) λe s g1=>match e with
    | .nrm=>bif g1.isReady u then rec p.body s (g1.set u .busy) λe s g2=>match e with
      | .nrm=>Q (.ret (.bool true)) s.hp ((g2.at g.f).set u .ready)
      | .ret=>Q (.ret (.bool false)) s.hp ((g2.at g.f).set u (.done .ret))
      | .exit i=>Q (.ret (.bool false)) s.hp ((g2.at g.f).set u (.done (.exit i)))
      | .pan _=>False
     else False
    | _=>False
   else False
 | none=>False

mutual
def iC:AV->AV->Bool
 | .undef,.undef=>true
 | .opq i,.opq j=>Nat.beq i j
 | .bool a,.bool b=>a==b
 | .int k a,.int k' b=>decide (k=k')&&decide (a=b)
 | .str a,.str b=>eqB a b
 | .nilp,.nilp=>true
 | .ptr a b c,.ptr a' b' c'=>Nat.beq a a'&&Nat.beq b b'&&Nat.beq c c'
 | .gptr a b,.gptr a' b'=>Nat.beq a a'&&Nat.beq b b'
 | .nils,.nils=>true
 | .sl a b c d e,.sl a' b' c' d' e'=>Nat.beq a a'&&Nat.beq b b'&&Nat.beq c c'&&Nat.beq d d'&&Nat.beq e e'
 | .nilf,.nilf=>true
 | .fn f x y,.fn f' x' y'=>decide (f=f')&&dE x x'&&dE y y'
 | .yld u,.yld u'=>Nat.beq u u'
 | .nili,.nili=>true
 | .iface t v,.iface t' v'=>Nat.beq t t'&&iC v v'
 | .agg l,.agg l'=>dE l l'
 | .tup l,.tup l'=>dE l l'
 | .lst t l n z,.lst t' l' n' z'=>Nat.beq t t'&&dE l l'&&Nat.beq n n'&&Nat.beq z z'
 | .lptr t l o,.lptr t' l' o'=>Nat.beq t t'&&dE l l'&&Nat.beq o o'
 | .mpn,.mpn=>true
 | .mp a,.mp a'=>Nat.beq a a'
 | _,_=>false
def dE:HB->HB->Bool
 | [],[]=>true
 | a::l,b::l'=>iC a b&&dE l l'
 | _,_=>false
end

def aYn:Option Blk->Option Blk->Bool
 | some a,some b=>decide (a.k=b.k)&&(a.lf==b.lf)&&dE a.cs b.cs
 | none,none=>true
 | _,_=>false

inductive Fl where
 | rd (ix:Nat) (r:Rdc)
 | nb (ix id:Nat)

def aRr(E:Env)(H H':HV)(bf:Nat):List Fl->Prop->Prop
 | [],c=>c
 | .rd ix r::l,c=>bif Nat.testBit bf ix then aRr E H H' bf l c else
   bif dE (aR H r.id r.off r.size) (aR H' r.id r.off r.size)&&(lC H r.id==lC H' r.id)then aRr E H H' bf l c else False
 | .nb ix id::l,c=>bif Nat.testBit bf ix then aRr E H H' bf l c else
   bif aYn H[id]? H'[id]? then aRr E H H' bf l c else False

def aQv(E:Env)(rec:Rec)(f:AV)(args:HB)(H:HV)(g:Gh)(Q:BS):Prop:=match f with
 | .fn (.func f) fst cap=>aT E rec f (fst++args++cap) H g Q
 | .yld u=>aUm rec u args H g Q
 | .lst _ [] 1 1=>match args with
  | [.iface t v]=>Q (.pan (.iface t v)) H g
  | _=>False
 | _=>False

def bU6(nid:Nat)(v:AV)(nb:Option Blk)(K:AV->Prop):Prop:=match v,nb with
 | .sl id tot off len sz,some b=>bif Nat.beq id nid&&Nat.beq off 0&&Nat.beq tot b.cs.length&&Nat.beq (len*sz) tot&&b.lf&&bX b.cs then K (.lst 0 b.cs len sz)else False
 | _,_=>False

def aBg:Blk:=⟨.exact,true,[]⟩
def bQr(b0 f z:Nat)(s:S)(K:S->Prop):Prop:=bif !Nat.blt f 4000 then K s else match s.tm.get f with
 | .sl id tot off len sz=>match s.hp[id]? with
  | some b=>bif Nat.ble b0 id&&Nat.beq b.cs.length tot&&Nat.ble (off+len*sz) tot&&b.k !=.ro&&b.lf&&bX b.cs&&(T.put 12 s.tm f .undef).nor id&&bJ8 id (s.hp.set id aBg)
    then K ⟨T.put 12 s.tm f (.lst 0 ((b.cs.drop off).take (len*sz)) len sz),s.hp.set id aBg⟩else False
  | none=>False
 | .nils=>bif Nat.blt 0 z then K ⟨T.put 12 s.tm f (.lst 0 [] 0 z),s.hp⟩else K s
 | _=>K s
def bU7(n:Nat)(dst:Option Nat)(v:AV)(s:S)(K:S->Prop):Prop:=match dst with
 | none=>False
 | some d=>match v with
  | .sl id tot off len sz=>bif Nat.beq id n then bQr n d sz (S.put s (some d) v) K
    else bif Nat.beq len 0&&cur s.hp id tot then K ⟨T.put 12 s.tm d (.lst 0 [] 0 sz),s.hp++[aBg]⟩else False
  | _=>False

def aWb(E:Env)(rec:Rec):List AOper->S->Gh->(Ex->S->Gh->Prop)->Prop
 | [],s,k,Q=>Q .nrm s k
 | o::os,s,k,Q=>match gd s o.guard with
  | none=>False
  | some false=>aWb E rec os (s.put o.dst (.tup [])) k Q
  | some true=>match o.op with
   | .call f args=>aQv E rec (s.ev f) (args.map s.ev) s.hp k λo' H' k'=>match o' with
     | .ret v=>hint E (k.key o.dst) v λv=>aWb E rec os (S.put ⟨s.tm,H'⟩ o.dst v) k' Q
     | .pan v=>Q (.pan v) ⟨s.tm,H'⟩ k'
   | op=>match lop E.gl s.ev (cur s.hp) (aR s.hp) s.hp.length op with
    | some r=>ck E r.pre <| bif E.hz (k.key o.dst)then bU6 s.hp.length r.v r.nb λv=>aWb E rec os (S.put ⟨s.tm,s.hp⟩ o.dst v) k Q
      else hint E (k.key o.dst) r.v λv=>aWb E rec os (S.put ⟨s.tm,s.hp++r.nb.toList⟩ o.dst v) k Q
    | none=>bIs E s.ev s.hp (k.key o.dst) op λv H'=>bif E.hz (k.key o.dst)then bU7 s.hp.length o.dst v ⟨s.tm,H'⟩ λs'=>aWb E rec os s' k Q
      else hint E (k.key o.dst) v λv=>aWb E rec os (S.put ⟨s.tm,H'⟩ o.dst v) k Q

def aW2(o:AOper)(H:HV)(r:LR):List Fl:=
 (r.rd.map (Fl.rd o.ix))++(match r.nb with | some _=>[Fl.nb o.ix H.length] | none=>[])

def aKw(E:Env)(rec:Rec):List AOper->S->Gh->List Fl->(Ex->S->Gh->Prop)->Prop
 | [],s,k,_,Q=>Q .nrm s k
 | o::os,s,k,fl,Q=>match gd s o.guard with
  | none=>False
  | some false=>aKw E rec os (s.put o.dst (.tup [])) k fl Q
  | some true=>match o.op with
   | .call f args=>aQv E rec (evu (rQ o.op) s.tm f) (args.map (evu (rQ o.op) s.tm)) s.hp k λo' H' k'=>match o' with
     | .ret v=>aRr E s.hp H' o.bf fl <| hint E (k.key o.dst) v λv=>aKw E rec os (S.put ⟨s.tm,H'⟩ o.dst v) k' fl Q
     | .pan v=>Q (.pan v) ⟨.e,H'⟩ k'
   | op=>match lop E.gl (evu (rQ o.op) s.tm) (cur s.hp) (aR s.hp) s.hp.length op with
    | some r=>ck E r.pre <| hint E (k.key o.dst) r.v λv=>aKw E rec os (S.put ⟨s.tm,s.hp++r.nb.toList⟩ o.dst v) k (aW2 o s.hp r++fl) Q
    | none=>hop E (evu (rQ o.op) s.tm) s.hp (k.key o.dst) op λv H'=>aRr E s.hp H' o.bf fl <| hint E (k.key o.dst) v λv=>aKw E rec os (S.put ⟨s.tm,H'⟩ o.dst v) k fl Q

def clr(lv:Nat)(s:S):S:=⟨s.tm.keep lv 1 0,s.hp⟩

def aCt(E:Env)(lv base k:Nat)(s:S)(K:S->Prop):Prop:=
 match E.hb k with
 | some true=>((clr lv s).tm.old base&&aNh base (s.hp.take base))=true∧K ⟨(clr lv s).tm,s.hp.take base⟩
 | some false=>K (clr lv s)
 | none=>bif(clr lv s).tm.old base&&aNh base (s.hp.take base)then K ⟨(clr lv s).tm,s.hp.take base⟩else K (clr lv s)

def aKj:AV->AV->Prop
 | .undef,_=>True
 | v,u=>u=v

def aWm:T->T->Prop
 | .e,_=>True
 | .n l v r,t=>match t with
  | .e=>aKj v .undef∧aWm l .e∧aWm r .e
  | .n l' v' r'=>aKj v v'∧aWm l l'∧aWm r r'

def bMf:HV->HV->Prop
 | [],[]=>True
 | b::l,b'::l'=>(b.k=b'.k∧b.lf=b'.lf∧b.cs=b'.cs)∧bMf l l'
 | _,_=>False

def bFr:AV->AV->Prop->Prop
 | .undef,_,K=>K
 | v,u,K=>u=v∧K
def bCp:T->T->Prop->Prop
 | .e,_,K=>K
 | .n l v r,t,K=>match t with
  | .e=>bFr v .undef (bCp l .e (bCp r .e K))
  | .n l' v' r'=>bFr v v' (bCp l l' (bCp r r' K))
def eqC:HV->HV->Prop->Prop
 | [],[],K=>K
 | b::l,b'::l',K=>bif decide (b.k=b'.k)&&(b.lf==b'.lf)then b.cs=b'.cs∧eqC l l' K else False
 | _,_,_=>False

def bQ6:List Lp->List Lp->Prop
 | [],[]=>True
 | a,b=>a=b

def bKd:List LInv->(LInv->Prop)->Prop
 | [],_=>False
 | [I],p=>p I
 | I::l,p=>p I∨bKd l p
def bM5:List LInv->(LInv->Prop)->Prop
 | [],_=>True
 | [I],p=>p I
 | I::l,p=>p I∧bM5 l p

def aUj(b0:Nat):List (Nat×Nat)->S->(S->Prop)->Prop
 | [],s,K=>K s
 | (f,z)::l,s,K=>bQr b0 f z s λs=>aUj b0 l s K
def bSx(E:Env)(id lv b0 base:Nat)(s:S)(K:S->Prop):Prop:=match E.hf id with
 | []=>aCt E lv base (id*4096+1000000000) s K
 | fs=>aUj b0 fs (clr lv s) λs=>aCt E lv base (id*4096+1000000000) s K

def aKe(E:Env)(rec:Rec)(id lv:Nat)(b:AC)(Is:List LInv)(s:S)(k:Gh)(Q:Ex->S->Gh->Prop):Prop:=
 bKd Is (λI=>∃x,I.pre x∧eqC s.hp (I.st x).hp (bCp (I.st x).tm s.tm True)) ∧
 bM5 Is λI=>∀x,I.pre x->rec b (I.st x) k λe s' k'=>match e with
  | .nrm=>bSx E id lv s.hp.length (I.st x).hp.length s' λs''=>(bQ6 k'.lps k.lps∧k'.n=k.n)∧bKd Is λJ=>∃y,J.pre y∧J.mu y<I.mu x∧eqC s''.hp (J.st y).hp (bCp (J.st y).tm s''.tm True)
  | e=>Q e s' k'

def bRl:List (List LInv)->(List LInv->Prop)->Prop
 | [],_=>False
 | [I],p=>p I
 | I::l,p=>p I∨bRl l p
def aG3(E:Env)(rec:Rec)(id lv:Nat)(b:AC)(Gs:List (List LInv))(s:S)(k:Gh)(Q:Ex->S->Gh->Prop):Prop:=bRl Gs λIs=>aKe E rec id lv b Is s k Q

def hdK:AC->Nat
 | .region (o::_)=>match o.dst with | some d=>d | none=>4095
 | .drawn (o::_)=>match o.dst with | some d=>d | none=>4095
 | .seq a _=>hdK a
 | _=>4094
def bMd(rec:Rec)(a b:AC)(Gs:List (List LInv))(s:S)(k:Gh)(Q:Ex->S->Gh->Prop):Prop:=bRl Gs λIs=>
 (rec a s k λe s' k'=>match e with
  | .nrm=>(bQ6 k'.lps k.lps∧k'.n=k.n)∧bKd Is λI=>∃x,I.pre x∧eqC s'.hp (I.st x).hp (bCp (I.st x).tm s'.tm True)
  | e=>Q e s' k') ∧
 bM5 Is λI=>∀x,I.pre x->rec b (I.st x) k Q

def aKm(tm:T)(Q:Ex->S->Gh->Prop)(o:Out)(H:HV)(g:Gh):Prop:=match g.lps with
 | []=>False
 | p::l=>match o with
  | .pan v=>Q (.pan v) ⟨tm,H⟩ { g with lps:=l }
  | .ret _=>match p.st with
   | .ready=>Q .nrm ⟨tm,H⟩ { g with lps:=l }
   | .done e=>Q e ⟨tm,H⟩ { g with lps:=l }
   | .busy=>False

def step(E:Env)(rec:Rec)(c:AC)(s:S)(k:Gh)(Q:Ex->S->Gh->Prop):Prop:=
 match c with
 | .skip=>Q .nrm s k
 | .ret=>Q .ret s k
 | .exit i=>Q (.exit i) s k
 | .bad _=>False
 | .seq a b=>match E.inv (1000000000+(k.f*4096+hdK b))with
  | some I=>bMd rec a b (I s) s k Q
  | none=>rec a s k λe s k=>match e with
   | .nrm=>rec b s k Q
   | e=>Q e s k
 | .cond c a b=>match s.ev c with
  | .bool t=>bif t then rec a s k Q else rec b s k Q
  | _=>False
 | .block id b=>rec b s k λe s k=>match e with
  | .exit i=>Q (bif Nat.beq i id then .nrm else .exit i) s k
  | e=>Q e s k
 | .loop id lv b=>match E.inv id with
  | some I=>aG3 E rec id lv b (I s) s k Q
  | none=>rec b (clr lv s) k λe s' k=>match e with
   | .nrm=>aCt E lv s.hp.length (id*4096+1000000000) s' λs'=>rec (.loop id lv b) s' k Q
   | e=>Q e s' k
 | .sum g=>g s λe s=>Q e s k
 | .rfn f ps asg body=>match s.ev f with
  | .fn (.func f) x y=>aT E rec f (x++[.yld k.n]++y) s.hp { k with n:=k.n+1,lps:=⟨k.n,s.tm,ps,asg,body,.ready,k.f⟩::k.lps } (aKm s.tm Q)
  | _=>False
 | .region os=>aWb E rec os s k Q
 | .drawn os=>aKw E rec os s k [] Q

def wpx(E:Env):Nat->AC->S->Gh->(Ex->S->Gh->Prop)->Prop
 | 0,_,_,_,_=>False
 | n+1,c,s,k,Q=>step E (wpx E n) c s k Q
def ofV:Nat->Value->AV
 | _,.bool b=>.bool b
 | _,.int k n=>.int k n
 | _,.string s=>.str s.data.toList
 | _,.pointer none=>.nilp
 | _,.map none=>.mpn
 | _,.slice none 0 0=>.nils
 | _,.nilFunc=>.nilf
 | _,.nilIface=>.nili
 | d+1,.agg cs=>.agg (cs.toList.map (ofV d))
 | d+1,.tuple cs=>.tup (cs.toList.map (ofV d))
 | _,_=>.undef

def cO:Operand->AO
 | .tmp t=>.t t
 | .const v=>.c (ofV 4 v)
 | .global g=>.c (.gptr g 0)
 | .func f=>.c (.fn (.func f) [] [])

section
variable (P:Program)
def und(t:TypeId):TypeDesc:=(P.underlying t).getD .invalid
def szT(t:TypeId):Nat:=P.cellsOf t
def aAh(t:TypeId):Bool:=match und P t with | .struct _=>true | .array _ _=>true | _=>false
def bV(t:TypeId):Bool:=(P.info? t).isSome&&(P.underlying t).isSome
def lJ(t:TypeId):AV:=match P.info? t with
 | some i=>(match i.zero with | some z=>ofV 4 z | none=>.undef)
 | none=>.undef
def jI(t:TypeId):HB:=(gT (lJ P t)).getD []
def ptT(t:TypeId)(off:Nat):Pt:=⟨aAh P t,off,szT P t⟩
def shT:Nat->TypeId->Sh
 | 0,_=>.bad
 | d+1,t=>match und P t with
  | .bool=>.bl
  | .int _=>.it
  | .string=>.st
  | .pointer _=>.ptr
  | .slice _=>.slc
  | .func .. => .fnc
  | .interface _=>.ifc
  | .struct fs=>if P.stoodInHeld t||P.eqGuardType P.depth t || !(fs.toList.all λf=>bV P f.type)then .bad
    else .agg (Fs.of ((fs.toList.filter fun f => f.name != "_").map fun f => (ptT P f.type f.offset, shT d f.type)))
  | .array n e=>if P.eqGuardType P.depth t || !(bV P e)then .bad
    else .agg (Fs.of ((List.range n).map λi=>(ptT P e (i*szT P e),shT d e)))
  | _=>.bad

def gB:Operand->Bool
 | .const _=>true
 | _=>false

def cOp:Op->AOp
 | .move x=>.mv (cO x)
 | .assign x=>.mv (cO x)
 | .pick c a b=>.pick (cO c) (cO a) (cO b)
 | .alloc e=>.box (.c (lJ P e))
 | .box _ v=>.box (cO v)
 | .build t ps => if (gT (lJ P t)).isNone then .bad "build" else match und P t with
  | .struct fs=>if fs.toList.all (λf=>bV P f.type)&&ps.toList.all (λp=>Nat.blt p.1 fs.size)then
    .build (jI P t) (ps.toList.map fun (p : Nat × Operand) => match fs[p.1]? with | some f => (f.offset, szT P f.type, cO p.2) | none => (0, 0, cO p.2)) else .bad "build"
  | .array _ e => if bV P e then .build (jI P t) (ps.toList.map fun (p : Nat × Operand) => (p.1 * szT P e, szT P e, cO p.2)) else .bad "build"
  | _ => .bad "build"
 | .buildSlice t len ps=>match und P t with
  | .slice e=>if bV P e&&(jI P e).length==szT P e&&Nat.blt 0 (szT P e)&&Nat.ble (len*szT P e) 16777216 then
    .bsl ((List.replicate len (jI P e)).flatten) (szT P e) len (ps.toList.map fun (p : Nat × Operand) => (p.1 * szT P e, szT P e, cO p.2)) else .bad "bsl"
  | _ => .bad "bsl"
 | .load t a => if bV P t then .ld (aAh P t) (szT P t) (cO a) else .bad "load"
 | .store t a v => if bV P t then .st (szT P t) (cO a) (cO v) else .bad "store"
 | .nilCheck x=>.nilck (cO x)
 | .binOp op t x y _=>match shT P 8 t with
  | .ifc => if gB x || gB y then .bin op .ifc (cO x) (cO y) else .bad "eql of interfaces"
  | sh=>.bin op sh (cO x) (cO y)
 | .unOp op _ x=>.un op (cO x)
 | .convert s d x=>if bV P s&&bV P d then(match und P s,und P d with
   | .int _,.int k=>.conv (.toInt k) (cO x)
   | .string, .slice e => (match und P e with | .int .u8 => .conv .toBytes (cO x) | _ => .bad "convert")
   | .slice e, .string => (match und P e with | .int .u8 => .conv .ofBytes (cO x) | _ => .bad "convert")
   | .string,.string=>.conv .same (cO x)
   | .slice _, .slice e => if s = d then (match und P e with | .int .u8 => .mark (cO x) | _ => .bad "convert") else .bad "convert"
   | _, _ => .bad "convert") else .bad "convert"
 | .sliceToArrayPointer t x => (match und P t with | .array n _ => .s2a n (cO x) | _ => .bad "s2a")
 | .makeInterface t x => (match und P t with | .interface _ => .bad "mkif" | .invalid => .bad "mkif" | _ => .mkif t (cO x))
 | .makeFunc f a b=>.mkfn f (a.toList.map cO) (b.toList.map cO)
 | .typeAssert x _ t ok => if bV P t && (gT (lJ P t)).isSome then (match und P t with | .interface _ => .bad "typeAssert" | .invalid => .bad "typeAssert" | _ => .conv (bif ok then .tasOk t (lJ P t) else .tas t) (cO x)) else .bad "typeAssert"
 | .panic x=>.call (.c (.lst 0 [] 1 1)) [cO x]
 | .makeSlice t l c=>match und P t with
  | .slice e=>if bV P e&&(jI P e).length==szT P e&&Nat.blt 0 (szT P e)then
    .mksl (jI P e) (szT P e) (P.bytesOf e) (match l, c with | .tmp a, .tmp b => Nat.beq a b | _, _ => false) (cO l) (cO c) else .bad "mksl"
  | _ => .bad "mksl"
 | .slice t x lo hi none=>match und P t with
  | .string=>.slS (cO x) (lo.map cO) (hi.map cO)
  | .slice e => if bV P e && Nat.blt 0 (szT P e) then .slL (szT P e) (cO x) (lo.map cO) (hi.map cO) else .bad "slice"
  | .array n e => if bV P e && Nat.blt 0 (szT P e) then .slA n (szT P e) (cO x) (lo.map cO) (hi.map cO) else .bad "slice"
  | _ => .bad "slice"
 | .fieldAddr s x f=>match und P s with
  | .struct fs => (match fs[f]? with | some f => if bV P f.type && Nat.blt 0 (szT P f.type) then .fa f.offset (cO x) else .bad "fieldAddr" | none => .bad "fieldAddr")
  | _ => .bad "fieldAddr"
 | .field s x f=>match und P s with
  | .struct fs => (match fs[f]? with | some f => if bV P f.type then .fld (ptT P f.type f.offset) (cO x) else .bad "field" | none => .bad "field")
  | _ => .bad "field"
 | .indexAddr t x i=>match und P t with
  | .array n e => if bV P e then .iaA n (szT P e) (cO x) (cO i) else .bad "indexAddr"
  | .slice e => if bV P e then .iaL (szT P e) (cO x) (cO i) else .bad "indexAddr"
  | _ => .bad "indexAddr"
 | .index t x i=>match und P t with
  | .array n e => if bV P e then .ixA n (ptT P e 0) (cO x) (cO i) else .bad "index"
  | .string=>.ixS (cO x) (cO i)
  | _ => .bad "index"
 | .makeMap _ none=>.mkmp
 | .lookup t x i false=>(match und P t with
  | .map k e => if (gT (lJ P e)).isSome then (match und P k with | .int q => .mpget (some q) (cO x) (cO i) (lJ P e) | .string => .mpget none (cO x) (cO i) (lJ P e) | _ => .bad "lookup") else .bad "lookup"
  | _ => .bad "lookup")
 | .mapUpdate t x i v=>(match und P t with
  | .map k _ => (match und P k with | .int q => .mpput (some q) (cO x) (cO i) (cO v) | .string => .mpput none (cO x) (cO i) (cO v) | _ => .bad "mapUpdate")
  | _ => .bad "mapUpdate")
 | .insert t x i v=>(match und P t with
  | .map k _ => (match und P k with | .int q => .mpput (some q) (cO x) (cO i) (cO v) | .string => .mpput none (cO x) (cO i) (cO v) | _ => .bad "mapUpdate")
  | _ => .bad "mapUpdate")
 | .extract x i=>.ext (cO x) i
 | .call { callee:=.value f,args,.. }=>.call (cO f) (args.toList.map cO)
 | .call { callee:=.builtin b,args,argTypes }=>match b,args.toList,argTypes.toList with
  | .len, [x], [t] => (match und P t with | .string => .lenS (cO x) | .slice _ => .lenL (cO x) | .array n _ => .lenA n | _ => .bad "len")
  | .append,[x,y],[t,u]=>(match und P t,und P u with
    | .slice e, .slice _ => if bV P e && (jI P e).length == szT P e then .app (szT P e) (P.bytesOf e) none (cO x) (cO y) else .bad "append"
    | .slice e, .string => if bV P e && (jI P e).length == szT P e && szT P e == 1 then .app (szT P e) (P.bytesOf e) none (cO x) (cO y) else .bad "append"
    | .slice e, .int _ => if bV P e && (jI P e).length == szT P e then .app (szT P e) (P.bytesOf e) (some (jI P e)) (cO x) (cO y) else .bad "append"
    | _, _ => .bad "append")
  | .copy, [x, y], [t, _] => (match und P t with | .slice e => if bV P e then .copy (szT P e) (cO x) (cO y) else .bad "copy" | _ => .bad "copy")
  | .max,l,_=>.mx (l.map cO)
  | .min,l,_=>.mn (l.map cO)
  | _, _, _ => .bad "builtin"
 | _ => .bad "op"

def uses(o:AOper):List Nat:=(match o.guard with | some (j,_)=>[j] | none=>[])++rQ o.op

def heavy:AOp->Bool
 | .st .. | .mark _ | .call .. | .app .. | .copy .. | .mkmp | .mpput .. | .bad _=>true
 | _=>false

def mO(nt:Nat)(ops:Array Oper)(o:Oper):AOper:=
 let bad (why:String):AOper := { dst:=none,op:=.bad why,guard:=none }
 match o.guard with
 | none=>(match o.dst with
  | none => { dst:=none,op:=cOp P o.op,guard:=none }
  | some d => if Nat.blt d nt then { dst := some d, op := cOp P o.op, guard := none } else bad "slot")
 | some (j,b)=>match (ops[j]?).bind (·.dst)with
  | none => bad "guard"
  | some g=>if Nat.blt g nt then(match o.dst with
   | none => { dst:=none,op:=cOp P o.op,guard:=some (g,b) }
   | some d => if Nat.blt d nt then { dst := some d, op := cOp P o.op, guard := some (g, b) } else bad "slot") else bad "guard"

def eF:List Oper->List Nat->List Nat
 | [],acc=>acc
 | o::l,acc=>eF l (acc++[o.after.toList.foldl (λm e=>if Region.binds .any e then m ||| 2^e.on ||| acc.getD e.on 0 else m) 0])

def number:Nat->List Nat->List AOper->List AOper
 | i,b::bs,o::os => { o with ix:=i,bf:=b }::number (i+1) bs os
 | _,_,_=>[]

def aQz(a b:Nat):Bool:=Nat.beq (a &&& b) a

def yL(p:AOper->Bool):List AOper->Option (AOper×List AOper)
 | []=>none
 | o::l=>bif p o then some (o,l)else(match yL p l with | some (x,r)=>some (x,o::r) | none=>none)

def canon:Nat->Nat->List AOper->List AOper
 | 0,_,_=>[]
 | n+1,done,l=>match yL (λo => !heavy o.op&&aQz o.bf done) l with
  | some (o,r)=>o::canon n (done ||| 2^o.ix) r
  | none=>match yL (λo=>aQz o.bf done) l with
   | some (o,r)=>o::canon n (done ||| 2^o.ix) r
   | none=>[]

def clash(x y:AOper):Bool:=(match x.dst with | some d=>(uses y).contains d||y.dst==some d | none=>false)||(match y.dst with | some d=>(uses x).contains d | none=>false)

def iZ(x y:AOper):Bool := !(x.bf.testBit y.ix)&&x.ix !=y.ix&&((!(clash x y) && !(heavy x.op))||y.bf.testBit x.ix)

def oQ:List AOper->Bool
 | []=>true
 | x::l=>l.all (iZ x)&&oQ l

def drawnOf(nt:Nat)(ops:Array Oper):AC:=
 let l:=canon ops.size 0 (number 0 (eF ops.toList []) (ops.toList.map (mO P nt ops)))
 bif Nat.beq l.length ops.size && oQ l && l.all (fun o => Nat.blt o.ix ops.size && Nat.blt o.bf (2 ^ ops.size) && !(o.bf.testBit o.ix)) && (List.range ops.size).all (fun i => l.any fun o => Nat.beq o.ix i) then .drawn l else .bad "order"

def cC(fid nt:Nat):Nat->Code->AC
 | _,.skip=>.skip
 | _,.label _=>.skip
 | _,.region _ ops draw=>bif draw then drawnOf P nt ops else .region (ops.toList.map (mO P nt ops))
 | i,.seq a b=>.seq (cC fid nt i a) (cC fid nt i b)
 | i,.cond c a b=>.cond (cO c) (cC fid nt i a) (cC fid nt i b)
 | _,.block id b=>.block id (cC fid nt id b)
 | i,.loop b=>.loop (fid*1000+i) 0 (cC fid nt i b)
 | _,.exit id=>.exit id
 | i,.scope b=>cC fid nt i b
 | _, .goto _ => .bad "goto"
 | _,.ret=>.ret
 | i, .rangeFunc g ps a b => bif ps.toList.all (fun p => Nat.blt p nt) then .rfn (cO g) ps.toList (cC fid nt i a) (cC fid nt i b) else .bad "rangeFunc"
 | _,.refuse w=>.bad w
end

def aWs(L:Nat):List Nat->Nat
 | []=>L
 | d::l=>aWs (L ||| 2^d) l
def kill(L:Nat):Option Nat->Nat
 | none=>L
 | some d=>bif L.testBit d then L-2^d else L
def bE9(L:Nat):List AOper->Nat
 | []=>L
 | o::l=>aWs (kill (bE9 L l) o.dst) (uses o)

def an:AC->(L:Nat)->(xs:List (Nat×Nat))->(R:Nat)->AC×Nat
 | .skip,L,_,_=>(.skip,L)
 | .region os,L,_,_=>(.region os,bE9 L os)
 | .drawn os,L,_,_=>(.drawn os,bE9 L os)
 | .seq a b,L,xs,R=>let y:=an b L xs R;let x:=an a y.2 xs R;(.seq x.1 y.1,x.2)
 | .cond c a b,L,xs,R=>let x:=an a L xs R;let y:=an b L xs R;(.cond c x.1 y.1,aWs (x.2 ||| y.2) (slots [c]))
 | .block id b,L,xs,R=>let x:=an b L ((id,L)::xs) R;(.block id x.1,x.2)
 | .loop id _ b,_,xs,R=>let x1:=(an b 0 xs R).2;let x2:=(an b x1 xs R).2;let y:=an b (x1 ||| x2) xs R;let m:=x1 ||| x2 ||| y.2;(.loop id m y.1,m)
 | .exit i,_,xs,_=>(.exit i,(xs.lookup i).getD 0)
 | .ret,_,_,R=>(.ret,R)
 | .sum g,_,_,_=>(.sum g,0)
 | .rfn g ps a b,L,xs,R=>let y:=an b 0 xs R;let x:=an a y.2 xs R;(.rfn g ps x.1 y.1,aWs (x.2 ||| L ||| R) (slots [g]))
 | .bad w,_,_,_=>(.bad w,0)

def aB2:List ARes->Nat
 | []=>0
 | .tmp t::l=>aB2 l ||| 2^t
 | .cell a _ _::l=>aB2 l ||| 2^a

def aXa(P:Program):ResultVar->ARes
 | .tmp t=>.tmp t
 | .cell a t=>.cell a (aAh P t) (szT P t)

def aNr(P:Program):ResultVar->Bool
 | .tmp _=>true
 | .cell _ t=>bV P t

def bB7(P:Program)(i:Nat):Option AFn:=match P.funcs[i]? with
 | some f=>(match f.body with
  | some c=>bif f.results.toList.all (aNr P)&&Nat.ble f.ntmps 4000 then
    some { res:=f.results.toList.map (aXa P),body:=(an (cC P i f.ntmps 0 c) (aB2 (f.results.toList.map (aXa P))) [] (aB2 (f.results.toList.map (aXa P)))).1 }else none
  | none=>none)
 | none=>none
end Go.Proofs.YtnhechnaemmdiaaGreatDoor

namespace Go.Proofs.YtnhechnaemmdiaaGreatDoor
open Go.RowKit

def Mk(k:BK)(lo hi n:Nat):Prop:=lo=hi∨(n<=lo∧k≠.exact)

structure Inf where
 b:Nat
 d:Nat
 tot:Nat
 lim:Nat

structure M where
 blk:Nat->Option Inf
 opq:Nat->Value
 lp:Nat->Option Nat
 frz:Nat->Nat->Option (List Value)

def M.strip(m:M):M:=⟨λ_=>none,m.opq,λ_=>none,m.frz⟩

mutual
def VR:M->AV->Value->Prop
 | _,.undef,_=>True
 | m,.opq i,v=>v=m.opq i∧v.oneCell'=true
 | m,.bool b,v=>v=.bool b
 | m,.int k n,v=>v=.int k n
 | m,.str s,v=>v=.string ⟨s.toArray⟩
 | m,.nilp,v=>v=.pointer none
 | m,.ptr id tot off,v=>v.oneCell'=true∧∃I,m.blk id=some I∧tot<=I.tot∧(tot=I.tot->v=.pointer (some ⟨I.b,I.d+off,none⟩))
 | m,.gptr g off,v=>v=.pointer (some ⟨g,off,none⟩)
 | m,.nils,v=>v=.slice none 0 0
 | m,.sl id tot off len sz,v=>v.oneCell'=true∧∃I,m.blk id=some I∧tot<=I.tot∧(tot=I.tot->∃o cap,v=.slice (some ⟨I.b,o,none⟩) len cap∧len<=cap∧((o=I.d+off∧o+cap*sz<=I.lim)∨(len=0∧cap=0))∧(sz≠0->tot<=9223372036854775807->cap<=9223372036854775807))
 | m,.nilf,v=>v=.nilFunc
 | m,.fn f x y,v=>∃x' y',v=.func f x' y'∧VRL m x x'.toList∧VRL m y y'.toList
 | m,.yld u,v=>∃l,m.lp u=some l∧v=.func (.yield l) #[] #[]
 | m,.nili,v=>v=.nilIface
 | m,.iface t a,v=>∃x,v=.iface t x∧VR m a x
 | m,.agg l,v=>∃cs,v=.agg cs∧VRL m l cs.toList
 | m,.tup l,v=>∃cs,v=.tuple cs∧VRL m l cs.toList
 | m,.lst t l len sz,v=>v.oneCell'=true∧l.length=len*sz∧∃oa cap,v=.slice oa len cap∧len<=cap∧((∃a cs,oa=some a∧a.spot=none∧m.frz t a.block=some cs∧a.off+l.length<=cs.length∧VRL m.strip l ((cs.drop a.off).take l.length))∨(len=0∧l=[]∧(oa=none->cap=0)))
 | m,.mpn,v=>v=.map none
 | m,.mp id,v=>v.oneCell'=true∧∃I,m.blk id=some I∧1<=I.tot∧(1=I.tot->v=.map (some I.b))
 | m,.lptr t l off,v=>v.oneCell'=true∧∃b o cs,v=.pointer (some ⟨b,o+off,none⟩)∧m.frz t b=some cs∧o+l.length<=cs.length∧VRL m.strip l ((cs.drop o).take l.length)
def VRL:M->HB->List Value->Prop
 | _,[],vs=>vs=[]
 | m,a::l,vs=>∃v vs',vs=v::vs'∧VR m a v∧VRL m l vs'
end

@[simp] theorem gL{m:M}{vs:List Value}:VRL m [] vs↔vs=[]:=by simp[VRL]
@[simp] theorem bH{m:M}{a:AV}{l:HB}{v:Value}{vs:List Value}:VRL m (a::l) (v::vs)↔VR m a v∧VRL m l vs:=by
 simp only[VRL]
 constructor
 ·rintro⟨v',vs',h,h1,h2⟩
  cases h
  exact⟨h1,h2⟩
 ·intro h
  exact⟨v,vs,rfl,h.1,h.2⟩
theorem bB{m:M}{a:AV}{l:HB}{vs:List Value}(h:VRL m (a::l) vs):∃v vs',vs=v::vs'∧VR m a v∧VRL m l vs':=by
 simpa only[VRL]using h

theorem VRL_iff{m:M}:∀ {l:HB} {vs:List Value},VRL m l vs↔l.length=vs.length∧∀ (i:Nat) (a:AV) (v:Value),l[i]? = some a->vs[i]? = some v->VR m a v
 | [],vs=>by
  cases vs<;>simp
 | a::l,[]=>by
  constructor
  ·intro h
   obtain⟨v,vs',e,_⟩:=bB h
   cases e
  ·intro h
   simp at h
 | a::l,v::vs=>by
  rw[bH,VRL_iff (l:=l) (vs:=vs)]
  constructor
  ·rintro⟨h1,h2,h3⟩
   refine⟨by simp[h2],λi a' v' ha hv => ?_⟩
   cases i with
   | zero=>simp at ha hv;subst ha;subst hv;exact h1
   | succ i=>simp at ha hv;exact h3 i a' v' ha hv
  ·rintro⟨h1,h2⟩
   refine⟨h2 0 a v rfl rfl,by simpa using h1,λi a' v' ha hv=>h2 (i+1) a' v' (by simpa using ha) (by simpa using hv)⟩

theorem VRL.len{m:M}{l:HB}{vs:List Value}(h:VRL m l vs):l.length=vs.length:=(VRL_iff.1 h).1

theorem VRL.get{m:M}{l:HB}{vs:List Value}(h:VRL m l vs){i:Nat}{a:AV}(ha:l[i]? = some a):∃v,vs[i]? = some v∧VR m a v:=by
 obtain⟨h1,h2⟩:=VRL_iff.1 h
 have hi:i<l.length:=(bXq.1 ha).1
 obtain⟨v,hv⟩:∃v,vs[i]? = some v:=⟨vs[i]'(by omega),bW8 _⟩
 exact⟨v,hv,h2 i a v ha hv⟩

theorem VRL.take{m:M}{l:HB}{vs:List Value}(h:VRL m l vs)(n:Nat):VRL m (l.take n) (vs.take n):=by
 obtain⟨h1,h2⟩:=VRL_iff.1 h
 refine VRL_iff.2 ⟨by simp[h1],λi a v ha hv => ?_⟩
 simp only[bXz]at ha hv
 split at ha
 ·rename_i hi
  rw[if_pos hi]at hv
  exact h2 i a v ha hv
 ·cases ha

theorem VRL.drop{m:M}{l:HB}{vs:List Value}(h:VRL m l vs)(n:Nat):VRL m (l.drop n) (vs.drop n):=by
 obtain⟨h1,h2⟩:=VRL_iff.1 h
 refine VRL_iff.2 ⟨by simp[h1],λi a v ha hv => ?_⟩
 simp only[bYo]at ha hv
 exact h2 _ a v ha hv

theorem VRL.append{m:M}:∀ {l l':HB} {vs vs':List Value},VRL m l vs->VRL m l' vs'->VRL m (l++l') (vs++vs')
 | [],l',vs,vs',h,h'=>by
  rw[gL]at h
  subst h
  exact h'
 | a::l,l',vs,vs',h,h'=>by
  obtain⟨v,vs1,rfl,h1,h2⟩:=bB h
  simp only[bX0,bH]
  exact⟨h1,h2.append h'⟩

theorem VRL.one{m:M}{a:AV}{v:Value}(h:VR m a v):VRL m [a] [v]:=by simp[h]

structure Ext (m m':M):Prop where
 blk:∀id I,m.blk id=some I->∃I',m'.blk id=some I'∧I.tot<=I'.tot∧(I.tot=I'.tot->I'=I)
 opq:m'.opq=m.opq
 lp:∀u l,m.lp u=some l->m'.lp u=some l
 frz:∀t b cs,m.frz t b=some cs->m'.frz t b=some cs

theorem Ext.strip{m m':M}(h:Ext m m'):Ext m.strip m'.strip:=⟨λ_ _ h=>(by cases h),h.opq,λ_ _ h=>(by cases h),h.frz⟩

theorem Ext.refl(m:M):Ext m m:=⟨λ_ I h=>⟨I,h,bXe _,λ_=>rfl⟩,rfl,λ_ _ h=>h,λ_ _ _ h=>h⟩
theorem Ext.trans{a b c:M}(h:Ext a b)(k:Ext b c):Ext a c:=by
 refine⟨λid I hi => ?_,k.opq.trans h.opq,λu l hl=>k.lp u l (h.lp u l hl),λt b cs hc=>k.frz t b cs (h.frz t b cs hc)⟩
 obtain⟨J,hJ,h1,h2⟩:=h.blk id I hi
 obtain⟨K,hK,k1,k2⟩:=k.blk id J hJ
 refine⟨K,hK,by omega,λe => ?_⟩
 have e1:J=I:=h2 (by omega)
 subst e1
 exact k2 e

theorem Ext.stale{m m':M}(h:Ext m m'){id tot:Nat}{p:Inf->Prop}(hp:∃I,m.blk id=some I∧tot<=I.tot∧(tot=I.tot->p I)):∃I,m'.blk id=some I∧tot<=I.tot∧(tot=I.tot->p I):=by
 obtain⟨I,hI,h1,h2⟩:=hp
 obtain⟨J,hJ,h3,h4⟩:=h.blk id I hI
 refine⟨J,hJ,by omega,λe => ?_⟩
 have:J=I:=h4 (by omega)
 subst this
 exact h2 e

mutual
theorem VR.mono{m m':M}(h:Ext m m'):∀ (a:AV) (v:Value),VR m a v->VR m' a v
 | .undef,_,_=>by simp[VR]
 | .opq i,v,k=>by simp only[VR]at k ⊢;rw[h.opq];exact k
 | .bool _,_,k=>by simpa only[VR]using k
 | .int _ _,_,k=>by simpa only[VR]using k
 | .str _,_,k=>by simpa only[VR]using k
 | .nilp,_,k=>by simpa only[VR]using k
 | .ptr id tot off,v,k=>by simp only[VR]at k ⊢;exact⟨k.1,h.stale k.2⟩
 | .gptr _ _,_,k=>by simpa only[VR]using k
 | .nils,_,k=>by simpa only[VR]using k
 | .sl id tot off len sz,v,k=>by simp only[VR]at k ⊢;exact⟨k.1,h.stale k.2⟩
 | .mpn,_,k=>by simpa only[VR]using k
 | .mp id,v,k=>by simp only[VR]at k ⊢;exact⟨k.1,h.stale k.2⟩
 | .nilf,_,k=>by simpa only[VR]using k
 | .fn f x y,v,k=>by
  simp only[VR]at k ⊢
  obtain⟨x',y',h1,h2,h3⟩:=k
  exact⟨x',y',h1,VRL.mono h x _ h2,VRL.mono h y _ h3⟩
 | .yld u,v,k=>by
  simp only[VR]at k ⊢
  obtain⟨l,h1,h2⟩:=k
  exact⟨l,h.lp u l h1,h2⟩
 | .nili,_,k=>by simpa only[VR]using k
 | .iface t a,v,k=>by
  simp only[VR]at k ⊢
  obtain⟨x,h1,h2⟩:=k
  exact⟨x,h1,VR.mono h a x h2⟩
 | .agg l,v,k=>by
  simp only[VR]at k ⊢
  obtain⟨x,h1,h2⟩:=k
  exact⟨x,h1,VRL.mono h l _ h2⟩
 | .tup l,v,k=>by
  simp only[VR]at k ⊢
  obtain⟨x,h1,h2⟩:=k
  exact⟨x,h1,VRL.mono h l _ h2⟩
 | .lst t l len sz,v,k=>by
  simp only[VR]at k ⊢
  obtain⟨h1,h2,a,cap,h3,h4,h5⟩:=k
  exact⟨h1,h2,a,cap,h3,h4,h5.imp (λ⟨a,cs,ka,k0,k1,k2,k3⟩=>⟨a,cs,ka,k0,h.frz _ _ _ k1,k2,VRL.mono h.strip l _ k3⟩) id⟩
 | .lptr t l off,v,k=>by
  simp only[VR]at k ⊢
  obtain⟨h1,b,o,cs,h3,h4,h5,h6⟩:=k
  exact⟨h1,b,o,cs,h3,h.frz _ _ _ h4,h5,VRL.mono h.strip l _ h6⟩
theorem VRL.mono{m m':M}(h:Ext m m'):∀ (l:HB) (vs:List Value),VRL m l vs->VRL m' l vs
 | [],vs,k=>by simpa only[VRL]using k
 | a::l,vs,k=>by
  obtain⟨v,vs',rfl,h1,h2⟩:=bB k
  rw[bH]
  exact⟨VR.mono h a v h1,VRL.mono h l vs' h2⟩
end

def M.below(m:M)(k:Nat):M:=⟨λid=>if id<k then m.blk id else none,m.opq,m.lp,m.frz⟩

theorem aD{a b:Nat}:(Nat.blt a b=true)=(a<b):=by
 simp[Nat.blt,bX5]
 omega

theorem bS{a b:Nat}:(Nat.beq a b=true)=(a=b):=propext ⟨bYg,λh=>h▸cCd a⟩

mutual
theorem VR.below{m:M}{k:Nat}:∀ (a:AV) (v:Value),old k a=true->VR m a v->VR (m.below k) a v
 | .undef,_,_,_=>by simp[VR]
 | .opq i,v,_,h=>by simpa only[VR,M.below]using h
 | .bool _,_,_,h=>by simpa only[VR]using h
 | .int _ _,_,_,h=>by simpa only[VR]using h
 | .str _,_,_,h=>by simpa only[VR]using h
 | .nilp,_,_,h=>by simpa only[VR]using h
 | .ptr id tot off,v,o,h=>by
  simp only[old,aD]at o
  simp only[VR,M.below,if_pos o]at h ⊢
  exact h
 | .gptr _ _,_,_,h=>by simpa only[VR]using h
 | .nils,_,_,h=>by simpa only[VR]using h
 | .sl id tot off len sz,v,o,h=>by
  simp only[old,aD]at o
  simp only[VR,M.below,if_pos o]at h ⊢
  exact h
 | .mpn,_,_,h=>by simpa only[VR]using h
 | .mp id,v,o,h=>by
  simp only[old,aD]at o
  simp only[VR,M.below,if_pos o]at h ⊢
  exact h
 | .nilf,_,_,h=>by simpa only[VR]using h
 | .fn f x y,v,o,h=>by
  simp only[old,bW3]at o
  simp only[VR]at h ⊢
  obtain⟨x',y',h1,h2,h3⟩:=h
  exact⟨x',y',h1,VRL.below x _ o.1 h2,VRL.below y _ o.2 h3⟩
 | .yld u,v,_,h=>by simpa only[VR,M.below]using h
 | .nili,_,_,h=>by simpa only[VR]using h
 | .iface t a,v,o,h=>by
  simp only[old]at o
  simp only[VR]at h ⊢
  obtain⟨x,h1,h2⟩:=h
  exact⟨x,h1,VR.below a x o h2⟩
 | .agg l,v,o,h=>by
  simp only[old]at o
  simp only[VR]at h ⊢
  obtain⟨x,h1,h2⟩:=h
  exact⟨x,h1,VRL.below l _ o h2⟩
 | .tup l,v,o,h=>by
  simp only[old]at o
  simp only[VR]at h ⊢
  obtain⟨x,h1,h2⟩:=h
  exact⟨x,h1,VRL.below l _ o h2⟩
 | .lst t l len sz,v,_,h=>by simp only[VR]at h ⊢;exact h
 | .lptr t l off,v,_,h=>by simp only[VR]at h ⊢;exact h
theorem VRL.below{m:M}{k:Nat}:∀ (l:HB) (vs:List Value),aP k l=true->VRL m l vs->VRL (m.below k) l vs
 | [],vs,_,h=>by simpa only[VRL]using h
 | a::l,vs,o,h=>by
  simp only[aP,bW3]at o
  obtain⟨v,vs',rfl,h1,h2⟩:=bB h
  rw[bH]
  exact⟨VR.below a v o.1 h1,VRL.below l vs' o.2 h2⟩
end

mutual
theorem aLl{a b:Nat}(h:a<=b):∀v,old a v=true->old b v=true
 | .undef,_=>rfl
 | .opq _,_=>rfl
 | .bool _,_=>rfl
 | .int _ _,_=>rfl
 | .str _,_=>rfl
 | .nilp,_=>rfl
 | .ptr id _ _,o=>by simp only[old,aD]at o ⊢;omega
 | .gptr _ _,_=>rfl
 | .nils,_=>rfl
 | .sl id _ _ _ _,o=>by simp only[old,aD]at o ⊢;omega
 | .mpn,_=>rfl
 | .mp id,o=>by simp only[old,aD]at o ⊢;omega
 | .nilf,_=>rfl
 | .fn _ x y,o=>by
  simp only[old,bW3]at o ⊢
  exact⟨cB h x o.1,cB h y o.2⟩
 | .yld _,_=>rfl
 | .nili,_=>rfl
 | .iface _ v,o=>by simp only[old]at o ⊢;exact aLl h v o
 | .agg l,o=>by simp only[old]at o ⊢;exact cB h l o
 | .tup l,o=>by simp only[old]at o ⊢;exact cB h l o
 | .lst _ _ _ _,_=>rfl
 | .lptr _ _ _,_=>rfl
theorem cB{a b:Nat}(h:a<=b):∀l,aP a l=true->aP b l=true
 | [],_=>rfl
 | v::l,o=>by
  simp only[aP,bW3]at o ⊢
  exact⟨aLl h v o.1,cB h l o.2⟩
end

def MpR(m:M):HB->List MapEntry->Prop
 | [],es=>es=[]
 | k::v::l,es=>∃x es',es=x::es'∧VR m k x.key∧VR m v x.val∧MpR m l es'
 | _,_=>False

theorem MpR.mono{m m':M}(h:Ext m m'):∀ {c:HB} {es:List MapEntry},MpR m c es->MpR m' c es
 | [],es,k=>by simpa only[MpR]using k
 | [a],es,k=>by simp only[MpR]at k
 | a::b::l,es,k=>by
  simp only[MpR]at k ⊢
  obtain⟨x,es',h1,h2,h3,h4⟩:=k
  exact⟨x,es',h1,VR.mono h _ _ h2,VR.mono h _ _ h3,h4.mono h⟩

theorem MpR.below{m:M}{k:Nat}:∀ {c:HB} {es:List MapEntry},aP k c=true->MpR m c es->MpR (m.below k) c es
 | [],es,_,h=>by simpa only[MpR]using h
 | [a],es,_,h=>by simp only[MpR]at h
 | a::b::l,es,o,h=>by
  simp only[aP,bW3]at o
  simp only[MpR]at h ⊢
  obtain⟨x,es',h1,h2,h3,h4⟩:=h
  exact⟨x,es',h1,VR.below _ _ o.1 h2,VR.below _ _ o.2.1 h3,h4.below o.2.2⟩

theorem jP{b:Blk}{c:HB}(h:aOw b=some c):b.k=.ro∧b.cs=[.tup c]:=by
 unfold aOw at h
 split at h
 ·rename_i hk
  split at h
  ·split at h
   ·rename_i hc
    cases h
    exact⟨hk,hc⟩
   ·cases h
  ·cases h
 ·cases h
theorem bEc{b:Blk}{c:HB}(h:aOw b=some c):b.lf=false:=by
 unfold aOw at h
 split at h
 ·split at h
  ·assumption
  ·cases h
 ·cases h
theorem lZ{b:Blk}(h:isMap b=true):∃c,aOw b=some c:=by
 unfold isMap at h
 split at h
 ·exact⟨_,by assumption⟩
 ·cases h
theorem nK{b:Blk}(h:b.k≠.ro):isMap b=false:=by
 cases hm:isMap b with
 | false=>rfl
 | true=>
  obtain⟨c,hc⟩:=lZ hm
  exact absurd (jP hc).1 h
theorem aLc{b:Blk}(h:ownB b)(hm:isMap b=false):b.k≠.ro:=h.resolve_right (by simp[hm])

structure BR (m:M) (I:Inf) (b:Blk) (w:World):Prop where
 tot:I.tot=b.cs.length
 lf:b.lf=true->aP 0 b.cs=true
 row:isMap b=false->∃cu e lo hi,w.heap[I.b]? = some (.cells cu e (lo,hi))∧I.d+I.tot<=I.lim∧I.lim<=cu.size∧(b.k=.exact->I.lim=I.d+I.tot)∧(b.k≠.ro->I.d=0∧Mk b.k lo hi cu.size)∧VRL m b.cs ((cu.toList.drop I.d).take I.tot)
 mrow:∀c,aOw b=some c->∃es clock,w.heap[I.b]? = some (.map es clock)∧MpR m c es.toList

theorem BR.mono{m m':M}{I:Inf}{b:Blk}{w w':World}(h:BR m I b w)(hm:Ext m m')(hw:w'.heap[I.b]? = w.heap[I.b]?):BR m' I b w':=by
 refine⟨h.tot,h.lf,λhi => ?_,λc hc => ?_⟩
 ·obtain⟨cu,e,lo,hi,h1,h2,h3,h4,h5,h6⟩:=h.row hi
  exact⟨cu,e,lo,hi,hw.trans h1,h2,h3,h4,h5,VRL.mono hm _ _ h6⟩
 ·obtain⟨es,cl,h1,h2⟩:=h.mrow c hc
  exact⟨es,cl,hw.trans h1,h2.mono hm⟩

theorem BR.obj{m:M}{I:Inf}{b:Blk}{w:World}(h:BR m I b w):∃o,w.heap[I.b]? = some o∧((∃cu e fr,o=.cells cu e fr)∨∃es cl,o=.map es cl):=by
 cases hm:isMap b with
 | false=>
  obtain⟨cu,e,lo,hi,h1,_⟩:=h.row hm
  exact⟨_,h1,.inl ⟨_,_,_,rfl⟩⟩
 | true=>
  obtain⟨c,hc⟩:=lZ hm
  obtain⟨es,cl,h1,_⟩:=h.mrow c hc
  exact⟨_,h1,.inr ⟨_,_,rfl⟩⟩

structure HR (gl:Nat->Option HB) (m:M) (H:HV) (w:World):Prop where
 dom:∀id I,m.blk id=some I->id<H.length
 blk:∀id I b,m.blk id=some I->H[id]? = some b->BR m I b w
 inj:∀id id' I I' b,m.blk id=some I->m.blk id'=some I'->H[id]? = some b->ownB b->I.b=I'.b->id=id'
 glb:∀g cs,gl g=some cs->∃cu e fr,w.heap[g]? = some (.cells cu e fr)∧VRL m cs cu.toList
 gld:∀g cs,gl g=some cs->aP 0 cs=true
 frz:∀t k cs,m.frz t k=some cs->∃cu e fr,w.heap[k]? = some (.cells cu e fr)∧cu.toList.take cs.length=cs
 fow:∀t k cs id I b,m.frz t k=some cs->m.blk id=some I->H[id]? = some b->ownB b->I.b≠k
 gow:∀g cs id I b,gl g=some cs->m.blk id=some I->H[id]? = some b->ownB b->I.b≠g

def jH(m:M)(H:HV)(k:Nat):Prop:=∃id I b,m.blk id=some I∧H[id]? = some b∧ownB b∧I.b=k

structure Mw (m:M) (H:HV) (w:World) (m':M) (H':HV) (w':World):Prop where
 ext:Ext m m'
 os:w'.os=w.os
 tape:w'.tape=w.tape
 output:w'.output=w.output
 size:w.heap.size<=w'.heap.size
 keep:∀k,k<w.heap.size->¬ jH m H k->w'.heap[k]? = w.heap[k]?
 own:∀k,jH m' H' k->w.heap.size<=k∨jH m H k
 nl:∀u l,m'.lp u=some l->m.lp u=some l
 fz:∀t k cs,m'.frz t k=some cs->m.frz t k=some cs∨w.heap.size<=k∨jH m H k

structure Mv (m:M) (H:HV) (w:World) (m':M) (H':HV) (w':World):Prop extends Mw m H w m' H' w' where
 len:H.length<=H'.length
 nw:∀id,id<H.length->m.blk id=none->m'.blk id=none

theorem Mw.trans{m1 m2 m3:M}{H1 H2 H3:HV}{w1 w2 w3:World}(h:Mw m1 H1 w1 m2 H2 w2)(k:Mw m2 H2 w2 m3 H3 w3):Mw m1 H1 w1 m3 H3 w3:=by
 refine⟨h.ext.trans k.ext,k.os.trans h.os,k.tape.trans h.tape,k.output.trans h.output,bYh h.size k.size,λb hb ho => ?_,λb hb => ?_,λu l hl=>h.nl u l (k.nl u l hl),λt b cs hc => ?_⟩
 ·refine(k.keep b (bYe hb h.size) λho' => ?_).trans (h.keep b hb ho)
  rcases h.own b ho' with h1 | h1
  ·omega
  ·exact ho h1
 ·rcases k.own b hb with h1 | h1
  ·exact .inl (bYh h.size h1)
  ·exact h.own b h1
 ·rcases k.fz t b cs hc with h1 | h1 | h1
  ·exact h.fz t b cs h1
  ·exact .inr (.inl (bYh h.size h1))
  ·rcases h.own b h1 with h2 | h2
   ·exact .inr (.inl h2)
   ·exact .inr (.inr h2)

theorem Mv.refl(m:M)(H:HV)(w:World):Mv m H w m H w:=⟨⟨Ext.refl m,rfl,rfl,rfl,bXe _,λ_ _ _=>rfl,λ_ h=>.inr h,λ_ _ h=>h,λ_ _ _ h=>.inl h⟩,bXe _,λ_ _ h=>h⟩
theorem Mv.trans{m1 m2 m3:M}{H1 H2 H3:HV}{w1 w2 w3:World}(h:Mv m1 H1 w1 m2 H2 w2)(k:Mv m2 H2 w2 m3 H3 w3):Mv m1 H1 w1 m3 H3 w3:=
 ⟨h.toMw.trans k.toMw,bYh h.len k.len,λid hi hn=>k.nw id (bYe hi h.len) (h.nw id hi hn)⟩

theorem Mv.below{m m':M}{H H':HV}{w w':World}(h:Mv m H w m' H' w'){B:Nat}(hB:B<=w.heap.size)(ho:∀k,jH m H k->B<=k):Below B w w':=
 ⟨h.os,h.tape,h.output,h.size,λk hk=>h.keep k (by omega) λhk'=>by have:=ho k hk';omega⟩
mutual
theorem VR.flat{m m':M}(ho:m'.opq=m.opq)(hs:Ext m.strip m'.strip):∀ (a:AV) (v:Value),old 0 a=true->noY a=true->VR m a v->VR m' a v
 | .undef,_,_,_,_=>by simp[VR]
 | .opq i,v,_,_,h=>by simpa only[VR,ho]using h
 | .bool _,_,_,_,h=>by simpa only[VR]using h
 | .int _ _,_,_,_,h=>by simpa only[VR]using h
 | .str _,_,_,_,h=>by simpa only[VR]using h
 | .nilp,_,_,_,h=>by simpa only[VR]using h
 | .ptr id tot off,v,o,_,h=>by simp[old]at o
 | .gptr _ _,_,_,_,h=>by simpa only[VR]using h
 | .nils,_,_,_,h=>by simpa only[VR]using h
 | .sl id tot off len sz,v,o,_,h=>by simp[old]at o
 | .mpn,_,_,_,h=>by simpa only[VR]using h
 | .mp id,v,o,_,h=>by simp[old]at o
 | .nilf,_,_,_,h=>by simpa only[VR]using h
 | .fn f x y,v,o,q,h=>by
  simp only[old,noY,bW3]at o q
  simp only[VR]at h ⊢
  obtain⟨x',y',h1,h2,h3⟩:=h
  exact⟨x',y',h1,VRL.flat ho hs x _ o.1 q.1 h2,VRL.flat ho hs y _ o.2 q.2 h3⟩
 | .yld u,_,_,q,_=>by simp[noY]at q
 | .nili,_,_,_,h=>by simpa only[VR]using h
 | .iface t v,_,o,q,h=>by
  simp only[old,noY]at o q
  simp only[VR]at h ⊢
  obtain⟨x,h1,h2⟩:=h
  exact⟨x,h1,VR.flat ho hs v x o q h2⟩
 | .agg l,_,o,q,h=>by
  simp only[old,noY]at o q
  simp only[VR]at h ⊢
  obtain⟨x,h1,h2⟩:=h
  exact⟨x,h1,VRL.flat ho hs l _ o q h2⟩
 | .tup l,_,o,q,h=>by
  simp only[old,noY]at o q
  simp only[VR]at h ⊢
  obtain⟨x,h1,h2⟩:=h
  exact⟨x,h1,VRL.flat ho hs l _ o q h2⟩
 | .lst t l len sz,v,_,_,h=>by
  simp only[VR]at h ⊢
  obtain⟨h1,h2,a,cap,h3,h4,h5⟩:=h
  exact⟨h1,h2,a,cap,h3,h4,h5.imp (λ⟨a,cs,ka,k0,k1,k2,k3⟩=>⟨a,cs,ka,k0,hs.frz _ _ _ k1,k2,VRL.mono hs _ _ k3⟩) id⟩
 | .lptr t l off,v,_,_,h=>by
  simp only[VR]at h ⊢
  obtain⟨h1,b,o,cs,h3,h4,h5,h6⟩:=h
  exact⟨h1,b,o,cs,h3,hs.frz _ _ _ h4,h5,VRL.mono hs _ _ h6⟩
theorem VRL.flat{m m':M}(ho:m'.opq=m.opq)(hs:Ext m.strip m'.strip):∀ (l:HB) (vs:List Value),aP 0 l=true->bX l=true->VRL m l vs->VRL m' l vs
 | [],vs,_,_,h=>by simpa only[VRL]using h
 | a::l,vs,o,q,h=>by
  simp only[aP,bX,bW3]at o q
  obtain⟨v,vs',rfl,h1,h2⟩:=bB h
  rw[bH]
  exact⟨VR.flat ho hs a v o.1 q.1 h1,VRL.flat ho hs l vs' o.2 q.2 h2⟩
end

end Go.Proofs.YtnhechnaemmdiaaGreatDoor
