/-
  Chapter 25: media.Decode of the packets that works() opens, by closed runs.
-/
import Derived.Test.YtnhechnaemmdiaaGreatDoorKnM
set_option linter.unusedSimpArgs false
set_option linter.unusedVariables false
set_option linter.unusedSectionVars false
namespace Go.Proofs.YtnhechnaemmdiaaGreatDoor
open Go.RowKit
set_option maxRecDepth 1000000

noncomputable def bHd(hv:LI)(hb:LB)(Q:BS):Prop:=
 aT (e04 sm0 (λ_=>none) hv hb) (wpx (e04 sm0 (λ_=>none) hv hb) 1000) 35 [.str [128,0,0,1,0,0,0,0,0,0,0,3]] [] {} Q
theorem bVh(Q:BS):bHd (aW []) (aV []) Q=(
(Q (Out.ret (AV.tup ((AV.agg ((AV.bool false)::((AV.int .i64 (0:Int))::((AV.int .i64 (1:Int))::((AV.int .i64 (0:Int))::((AV.int .i64 (3:Int))::(AV.nils::(AV.nils::((AV.int .i64 (0:Int))::((AV.str [])::[]))))))))))::((AV.int .i64 (0:Int))::[])))) [] (Gh.mk (0:Nat) (0:Nat) []))):=by kernel_rfl

noncomputable def bJ3(hv:LI)(hb:LB)(Q:BS):Prop:=
 aT (e04 sm0 (λ_=>none) hv hb) (wpx (e04 sm0 (λ_=>none) hv hb) 1000) 35 [.str [128,0,0,1,0,0,0,0,0,0,0,3,97]] [] {} Q
theorem bSp(Q:BS):bJ3 (aW []) (aV []) Q=(
(Q (Out.ret (AV.tup ((AV.agg ((AV.bool false)::((AV.int .i64 (0:Int))::((AV.int .i64 (1:Int))::((AV.int .i64 (0:Int))::((AV.int .i64 (3:Int))::(AV.nils::(AV.nils::((AV.int .i64 (0:Int))::((AV.str ((UInt8.ofNat (97:Nat))::[]))::[]))))))))))::((AV.int .i64 (0:Int))::[])))) [] (Gh.mk (0:Nat) (0:Nat) []))):=by kernel_rfl

def dPk:LA:=[128,0,0,1,0,0,0,0,0,0,0,3]
def bV8(y:LA):Out:=.ret (.tup [.agg [.bool false,.int .i64 0,.int .i64 1,.int .i64 0,.int .i64 3,.nils,.nils,.int .i64 0,.str y],.int .i64 0])
def bGz:Con
 | [.str s],H,K=>bif eqB s dPk then K (bV8 []) H else bif eqB s (dPk++[97])then K (bV8 [97]) H else False
 | _,_,_=>False
theorem bE6:aI Tryz.prog gl0 35 bGz:=by
 refine aQ (enters_of (by kernel_rfl)) aO λargs H Q hc => ?_
 unfold bGz at hc
 split at hc
 ·rename_i s
  cases h1:eqB s dPk with
  | true=>
   rw[h1,bXw]at hc
   rw[jG]at h1
   obtain rfl:=eq_of_beq h1
   exact⟨rfl,rfl,_,1000,aS bY (λ_=>none) _ _,rfl,(bVh λo H' _=>H'=[]∧(∃v,o=.ret v∧old 0 v=true∧noY v=true)∧Q o H).mpr ⟨rfl,⟨_,rfl,rfl,rfl⟩,hc⟩⟩
  | false=>
   rw[h1,bYi]at hc
   cases h2:eqB s (dPk++[97])with
   | true=>
    rw[h2,bXw]at hc
    rw[jG]at h2
    obtain rfl:=eq_of_beq h2
    exact⟨rfl,rfl,_,1000,aS bY (λ_=>none) _ _,rfl,(bSp λo H' _=>H'=[]∧(∃v,o=.ret v∧old 0 v=true∧noY v=true)∧Q o H).mpr ⟨rfl,⟨_,rfl,rfl,rfl⟩,hc⟩⟩
   | false=>
    rw[h2]at hc
    exact hc.elim
 ·exact hc.elim
end Go.Proofs.YtnhechnaemmdiaaGreatDoor
