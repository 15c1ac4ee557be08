/-
  Chapter 25: small tools: cells that are plain, shields as results.
-/
import Derived.Test.YtnhechnaemmdiaaGreatDoorK25I
set_option linter.unusedSimpArgs false
set_option linter.unusedVariables false
set_option linter.unusedSectionVars false
namespace Go.Proofs.YtnhechnaemmdiaaGreatDoor
open Go.RowKit
set_option maxRecDepth 1000000

theorem eqB_rf5 (s:List UInt8):eqB s s=true:=by
 rw[eqB_iff];exact beq_self_eq_true s
theorem fl_I5:∀l:List Int,oldL 0 (cellsI l)=true∧noYL (cellsI l)=true∧oneL (cellsI l)=true
 | []=>⟨rfl,rfl,rfl⟩
 | x::l=>by
  have h:=fl_I5 l
  rw[show cellsI (x::l)=.int .i64 x::cellsI l from rfl]
  simp[oldL,old,noYL,noY,oneL,one,h.1,h.2.1,h.2.2]
theorem fl_T5:∀l:List Tr,oldL 0 (trM l)=true∧noYL (trM l)=true∧oneL (trM l)=true
 | []=>⟨rfl,rfl,rfl⟩
 | x::l=>by
  have h:=fl_T5 l
  rw[trM]
  simp[oldL,old,noYL,noY,oneL,one,h.1,h.2.1,h.2.2]
def plT5:AV→Bool
 | .int _ _=>true | .bool _=>true | .str _=>true | .nils=>true | .nilp=>true | _=>false
theorem map_pl5 (τ:Nat) (H:List Blk) (d:Nat):∀l:List AV,(∀x∈l,plT5 x=true)→l.map (fun x=>frzV τ H (d+1) x)=l
 | [],_=>rfl
 | x::l,h=>by
  have hx:frzV τ H (d+1) x=x:=by
   have:=h x (by simp)
   cases x<;>first | rfl | simp[plT5] at this
  rw[List.map_cons,map_pl5 τ H d l fun y hy=>h y (by simp[hy]),hx]
theorem frz_sl5 {τ:Nat} {H:List Blk} {d id tot off len sz:Nat} {b:Blk} {cs:List AV} (hb:H[id]? = some b) (h1:b.cs.length=tot) (h2:off+len*sz≤tot) (hk:b.k≠.ro) (hc:(b.cs.drop off).take (len*sz)=cs) (hp:∀x∈cs,plT5 x=true) :
  frzV τ H (d+2) (.sl id tot off len sz)=.lst τ cs len sz:=by
 have c1:b.cs.length.beq tot=true:=beq_t h1
 have c2:(off+len*sz).ble tot=true:=ble_t h2
 have c3:(b.k !=.ro)=true:=by simpa using hk
 rw[frzV]
 simp only[hb,c1,c2,c3,Bool.and_true,cond_true,hc,map_pl5 τ H d cs hp]
theorem pl_I5 (l:List Int):∀x∈cellsI l,plT5 x=true:=fun x h=>by
 simp only[cellsI,List.mem_map] at h
 obtain ⟨s,_,rfl⟩:=h
 rfl
theorem pl_T5:∀ (l:List Tr),∀x∈trM l,plT5 x=true
 | [],x,h=>by simp[trM] at h
 | t::l,x,h=>by
  simp only[trM,List.mem_cons] at h
  rcases h with rfl | rfl | rfl | h
  ·rfl
  ·rfl
  ·rfl
  ·exact pl_T5 l x h
def shV (tg tg2:Nat) (a b c:List UInt8) (xs:List Int) (l:List Tr) (nx rs rt:Int) (rk:Nat):AV:=
 .agg [.str a,.str b,.str c,.lst tg (cellsI xs) xs.length 1,.lst tg2 (trM l) l.length 3,.int .i64 nx,.int .i64 rs,.int .i64 rt,.int .u64 (rk:Nat)]
def shK:AV→AV
 | .agg l=>.agg (nlL [0,0,0,1,3] l)
 | .tup (.agg l::r)=>.tup (.agg (nlL [0,0,0,1,3] l)::r)
 | v=>v
theorem wk_shK (v:AV):wk v (shK v):=by
 unfold shK
 split
 ·exact wk_agg (wk_nlL _ _)
 ·exact wk_tup (wkL_cons (wk_agg (wk_nlL _ _)) (wkL_refl _))
 ·exact wk_refl _
end Go.Proofs.YtnhechnaemmdiaaGreatDoor
