/-
  The law 'ShieldSends' of tannoylaw25 (the tied card): it returns true for every input, and each argument reads behind the call as it read before.
-/
import Derived.Test.YtnhechnaemmdiaaGreatDoorK25SendsW
import Derived.Test.YtnhechnaemmdiaaGreatDoorCards
import Derived.Test.YtnhechnaemmdiaaGreatDoorTie
import Derived.SevenTiedAt
import Derived.ProofKit
import Derived.OpenShut
import Derived.ShutString
set_option linter.unusedSimpArgs false
set_option linter.unusedVariables false
namespace Go.Proofs.YtnhechnaemmdiaaGreatDoor
open Go.ChangeShapes Go.WideShapes Go.ChangeAt Go.RowKit
open Go.ChangeMaps (open_string shut_string)

set_option maxRecDepth 100000 in
theorem oK(os:Os)(started:os.Started)(H:Type)(enc:TypeId×Value->H) :
  ReturnsInHanded {} Tryz.checked os 8 .any (λw args=>(Rows.shieldSendsSpec.pre enc Tryz.prog Tryz.f8 [] false w args∧laidMetH Tryz.prog L25 w)∧sizedMet enc Tryz.prog Tryz.f8 (OpenSpec.ofChange Rows.shieldSendsSpec) false w args)
   (Rows.shieldSendsSpec.post enc Tryz.prog Tryz.f8 false true false false):=by
 refine returnsInHanded_of_change_and (C:=Tryz.checked) (X:=λw _=>laidMetH Tryz.prog L25 w) (λ_ _ _ hh h=>h.of_heap hh) bVa started (by kernel_rfl) Tryz.func8
  (ChangeSpec.witness_shaped (enc:=enc) (C:=Tryz.checked) (os:=os) (X:=λw _=>laidMetH Tryz.prog L25 w) false (World.laidAll Tryz.prog os L25) #[.agg #[.string ByteArray.empty,.int .u16 0,.int .u16 0,.slice none 0 0,.int .u32 0],.agg #[.bool false,.slice none 0 0]] 8 (World.laidAll_os _ _ _) (World.shaped_of_ZipB (by kernel_rfl) (by kernel_rfl)) (by kernel_rfl) (by kernel_rfl) (by kernel_rfl) (by rw[MakeChecks.laidMetH_plain _ _ _ (by kernel_rfl)];exact laidMet_laidAll _ (by kernel_rfl) (by kernel_rfl))) ?_
 intro W base args ds gs before hval0 hW _ hZ hL _
 have hval:∀ (j:Nat) t v,Tryz.f8.params[j]? = some t->args[j]? = some v->Value.okWide Tryz.prog W .any base t v:=hval0
 have hW':=hW
 obtain⟨p,q,hA0,hV,rfl,hfz,hnd⟩:=hW
 have hA:DataW.TrodAll enc Tryz.prog W 0 (λ_=>true) true Tryz.f8.params.toList args.toList ds p:=hA0
 rw[Tryz.params8]at hA hval
 obtain⟨v0,vs0,d0,ds0,p0,q0,hargs,rfl,rfl,h0,r0⟩:=trodAll_cons hA
 obtain⟨v1,vs1,d1,ds1,p1,q1,rfl,rfl,rfl,h1,r1⟩:=trodAll_cons r0
 obtain⟨rfl,rfl,rfl⟩:=trodAll_nil r1
 obtain rfl:args = #[v0,v1]:=by cases args;simp_all
 obtain⟨rfl,rfl⟩:=trodVars_none hV
 have k0:=h0
 have lt0:∀x∈p0,x.block<W.heap.size:=by obtain⟨m,hm⟩:=k0;exact DataW.trod_lt m _ _ _ hm
 have k1:=h1
 have lt1:∀x∈p1,x.block<W.heap.size:=by obtain⟨m,hm⟩:=k1;exact DataW.trod_lt m _ _ _ hm
 clear hA0 hval0
 refine(sU v0 v1 W hL (hval 0 26 v0 rfl rfl) h0 lt0 (λn hn=>bY8 (bYy.1 hZ n (DataW.weights_mem_each (j:=0) (by rw[Tryz.params8];rfl) rfl n hn))) (hval 1 96 v1 rfl rfl) h1 lt1).mono λe W' ⟨he,bel⟩ => ?_
 subst he
 exact⟨_,rfl,_,_,_,[],_,[],hW',trodAll_mk1 (shut_bool Tryz.underlying4 _),(trodAll_cons_mk (Below.trod aF9 (by kernel_rfl) (bY8 (by kernel_rfl)) k0 bel lt0) (trodAll_cons_mk (Below.trod aF9 (by kernel_rfl) (bY8 (by kernel_rfl)) k1 bel lt1) trodAll_mk0)),rfl,bel.frame _,λh=>by cases h⟩

theorem sO:Rows.ShieldSendsSaid:=
 OpenClaim.holds_of_wide 8 Tryz.f8 rfl rfl rfl rfl rfl rfl rfl ⟨rfl,rfl,rfl,rfl,rfl⟩ rfl rfl rfl rfl rfl (by kernel_rfl) Tryz.func8 (by kernel_rfl)
  (bY8 (by kernel_rfl)) (by unfold Func.isWrapper;first | (rw[if_pos (by decide +kernel)];kernel_rfl) | (rw[if_neg (by decide +kernel)];exact⟨rfl,rfl⟩))
  (λos started H enc _=>oK os started H enc)

theorem shieldSends_holds:Rows.ShieldSendsCardSaid:=
 Claim7.holds_tied_plain_at .later [] [.data,.data,.data,.pinned] true _ false
  sO (λ_ h=>by cases h) (by kernel_rfl) (λ_ h=>by cases h) shieldSends_row_tie rfl ⟨rfl,rfl⟩ (by kernel_rfl) rfl
  (λf fn hf hfn=>by
   obtain rfl : f = 8 := cBl ((show Tryz.prog.funcNamed "tannoy/tannoylaw25.ShieldSends" = some 8 by kernel_rfl).symm.trans hf) |>.symm
   obtain rfl:fn=Tryz.f8 := (cBl (Tryz.func8.symm.trans hfn)).symm
   exact⟨by kernel_rfl,λj t ht=>by
    rw[Tryz.params8]at ht
    have hm:t∈[26,96]:=by simpa using Array.mem_of_getElem? ht
    have hall:([26,96].all λu => !Tryz.prog.wantsStandIn u)=true:=by kernel_rfl
    exact(show Tryz.prog.wantsStandIn t=false by simpa using List.all_eq_true.1 hall t hm)⟩)
  (by kernel_rfl)
#print axioms shieldSends_holds
end Go.Proofs.YtnhechnaemmdiaaGreatDoor
