/-
  The law 'ExportKnown' of tannoylaw21 (the tied card): it returns true for every input, and each argument reads behind the call as it read before.
-/
import Derived.Test.YtjenieljapmehaaDoorD21KnownW
import Derived.Test.YtjenieljapmehaaDoorCards
import Derived.Test.YtjenieljapmehaaDoorTie
import Derived.SevenTiedAt
import Derived.ProofKit
import Derived.OpenShut
import Derived.ShutString
set_option linter.unusedSimpArgs false
set_option linter.unusedVariables false
namespace Go.Proofs.YtjenieljapmehaaDoor
open Go.ChangeShapes Go.WideShapes Go.ChangeAt Go.RowKit
open Go.ChangeMaps (open_string shut_string)

set_option maxRecDepth 100000 in
theorem exportKnown_lifted (os:Os) (started:os.Started) (H:Type) (enc:TypeId×Value→H) :
  ReturnsInHanded {} Tryd.checked os 4 .any (fun w args=>(Rows.exportKnownSpec.pre enc Tryd.prog Tryd.f4 [] false w args∧laidMetH Tryd.prog L21 w)∧sizedMet enc Tryd.prog Tryd.f4 (OpenSpec.ofChange Rows.exportKnownSpec) false w args)
   (Rows.exportKnownSpec.post enc Tryd.prog Tryd.f4 false true false false):=by
 refine returnsInHanded_of_change_and (C:=Tryd.checked) (X:=fun w _=>laidMetH Tryd.prog L21 w) (fun _ _ _ hh h=>h.of_heap hh) own21 started (by kernel_rfl) Tryd.func4
  (ChangeSpec.witness_shaped (enc:=enc) (C:=Tryd.checked) (os:=os) (X:=fun w _=>laidMetH Tryd.prog L21 w) false (World.laidAll Tryd.prog os L21) #[] 8 (World.laidAll_os _ _ _) (World.shaped_of_ZipB (by kernel_rfl) (by kernel_rfl)) (by kernel_rfl) (by kernel_rfl) (by kernel_rfl) (by rw[MakeChecks.laidMetH_plain _ _ _ (by kernel_rfl)];exact laidMet_laidAll _ (by kernel_rfl) (by kernel_rfl))) ?_
 intro W base args ds gs before hval0 hW _ hZ hL _
 have hval:∀ (j:Nat) t v,Tryd.f4.params[j]? = some t→args[j]? = some v→Value.okWide Tryd.prog W .any base t v:=hval0
 have hW':=hW
 obtain ⟨p,q,hA0,hV,rfl,hfz,hnd⟩:=hW
 have hA:DataW.TrodAll enc Tryd.prog W 0 (fun _=>true) true Tryd.f4.params.toList args.toList ds p:=hA0
 rw[Tryd.params4] at hA hval
 obtain ⟨rfl,rfl,rfl⟩:=trodAll_none hA
 obtain ⟨rfl,rfl⟩:=trodVars_none hV
 clear hA0 hval0
 refine (exportKnown_walk  W hL ).mono fun e W' ⟨he,bel⟩ => ?_
 subst he
 exact ⟨_,rfl,_,_,_,[],_,[],hW',trodAll_mk1 (shut_bool Tryd.underlying4 _),trodAll_mk0,rfl,bel.frame _,fun h=>by cases h⟩

theorem exportKnown_over:Rows.ExportKnownSaid:=
 OpenClaim.holds_of_wide 4 Tryd.f4 rfl rfl rfl rfl rfl rfl rfl ⟨rfl,rfl,rfl,rfl,rfl⟩ rfl rfl rfl rfl rfl (by kernel_rfl) Tryd.func4 (by kernel_rfl)
  (of_decide_eq_true (by kernel_rfl)) (by unfold Func.isWrapper;first | (rw[if_pos (by decide +kernel)];kernel_rfl) | (rw[if_neg (by decide +kernel)];exact ⟨rfl,rfl⟩))
  (fun os started H enc _=>exportKnown_lifted os started H enc)

theorem exportKnown_holds:Rows.ExportKnownCardSaid:=
 Claim7.holds_tied_plain_at .later [] [.data,.sentinel,.pinned] true _ true
  exportKnown_over (fun _ h=>by cases h) (by kernel_rfl) (fun _ h=>by cases h) exportKnown_row_tie rfl ⟨rfl,rfl⟩ (by kernel_rfl) rfl
  (fun f fn hf hfn=>by
   obtain rfl : f = 4 := Option.some.inj ((show Tryd.prog.funcNamed "tannoy/tannoylaw21.ExportKnown" = some 4 by kernel_rfl).symm.trans hf) |>.symm
   obtain rfl:fn=Tryd.f4 := (Option.some.inj (Tryd.func4.symm.trans hfn)).symm
   exact ⟨by kernel_rfl,fun j t ht=>by
    rw[Tryd.params4] at ht
    simp at ht⟩)
  (by kernel_rfl)
#print axioms exportKnown_holds
end Go.Proofs.YtjenieljapmehaaDoor
