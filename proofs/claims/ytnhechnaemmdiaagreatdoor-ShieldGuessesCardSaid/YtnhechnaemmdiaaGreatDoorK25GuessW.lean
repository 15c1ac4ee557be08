/-
  Chapter 25: the walk of ShieldGuesses.
-/
import Derived.Test.YtnhechnaemmdiaaGreatDoorK25QI
import Derived.Test.YtnhechnaemmdiaaGreatDoorK25O
import Derived.Test.YtnhechnaemmdiaaGreatDoorK25V
import Derived.Test.YtnhechnaemmdiaaGreatDoorK25L
set_option linter.unusedSimpArgs false
set_option linter.unusedVariables false
namespace Go.Proofs.YtnhechnaemmdiaaGreatDoor
open Go.RowKit
set_option maxRecDepth 1000000

theorem smL3_ok:∀f g,smL3 f=some g→ValidF Tryz.prog gl0 f g:=lookS_ok _ (by simp only[List.mem_cons,List.not_mem_nil,or_false,forall_eq_or_imp,forall_eq];exact ⟨shields_ok,check_ok,right_ok,new_ok,rnew_ok,same_ok,guess18_ok,guess19_ok,works_ok⟩)
theorem shieldGuesses_walk (v0 v1 v2:Value) (top seq:Int) (v5:Value) (w:World) (hL:laidMetH Tryz.prog L25 w) {H:Type} {enc:TypeId×Value→H} {base:Nat} {d0 d1 d2 d5:DataW H} {p0 p1 p2 p5:List MemPlace}
  (hval0:Value.okWide Tryz.prog w .any base 26 v0) (h0:DataW.Trod enc Tryz.prog w 0 (fun _=>true) true 26 v0 d0 p0) (_:∀x∈p0,x.block<w.heap.size) (hz:∀n∈d0.weights Tryz.prog 26,n≤reachBytes)
  (hval1:Value.okWide Tryz.prog w .any base 29 v1) (h1:DataW.Trod enc Tryz.prog w 0 (fun _=>true) true 29 v1 d1 p1) (_:∀x∈p1,x.block<w.heap.size)
  (hval2:Value.okWide Tryz.prog w .any base 38 v2) (h2:DataW.Trod enc Tryz.prog w 0 (fun _=>true) true 38 v2 d2 p2) (_:∀x∈p2,x.block<w.heap.size)
  (_:(Lit.int .i64 top).wf=true) (_:(Lit.int .i64 seq).wf=true)
  (hval5:Value.okWide Tryz.prog w .any base 39 v5) (h5:DataW.Trod enc Tryz.prog w 0 (fun _=>true) true 39 v5 d5 p5) (_:∀x∈p5,x.block<w.heap.size) :
  Calls Tryz.prog 3 #[v0,v1,v2,.int .i64 top,.int .i64 seq,v5] w fun e w'=>e=.returned (.bool true)∧Below w.heap.size w w':=by
 obtain ⟨key,hd,fi,ks,ss,g0,a1,a2,a3,a4,a5,_⟩:=draft25_open hval0 h0 hz
 obtain ⟨w1,a1',n1,w2,a2',n2,g1,b1,b2,b3,b4,b5,b6⟩:=bends25_open hval1 h1
 obtain ⟨a,b,c,xs,l,nx,rs,rt,rk,g2,c1,c2,c3⟩:=shield_open hval2 h2
 obtain ⟨s1,s2,g5,e1,e2⟩:=pair_open hval5 h5
 obtain ⟨hv',hb',h⟩:=guesses_run key hd fi ks ss w1 a1' n1 w2 a2' n2 a b c xs l nx rs rt rk top seq s1 s2 a2 a1 a3 a4 a5 (by omega) (by omega) b3 (by omega) (by omega) b6 c1 c2 c3 (by omega) (by omega) isT trivial
 exact call_all (envFor04 smL3_ok _ _ _) h w (glob25 hL) (by
  simp only[VRL_cons,VRL_nil,and_true]
  exact ⟨g0,g1,g2,by simp[VR],by simp[VR],g5⟩)
end Go.Proofs.YtnhechnaemmdiaaGreatDoor
