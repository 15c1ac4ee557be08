/-
  Chapter 24: the package variables; the environment of runs; the chapter's examples hold.
-/
import Derived.Test.YtafchcmemeinlaaDoorC24U
import Derived.Test.YtafchcmemeinlaaDoorProg
import Derived.KernelRfl
import Derived.MakeChecks
set_option linter.unusedSimpArgs false
set_option linter.unusedVariables false
namespace Go.Proofs.YtafchcmemeinlaaDoor
open Go.RowKit

def b5 (a b c d e : Bool) : List AV := [.bool a, .bool b, .bool c, .bool d, .bool e]
def hasC : List AV := b5 false false false false false ++ b5 false true true false false ++ b5 false false true false false ++ b5 false false false false false ++ b5 true false false true false ++ b5 true false false false false ++ b5 true false false false true
def wireC : List AV := [.int .i64 0, .int .i64 200, .int .i64 201, .int .i64 203, .int .i64 205, .int .i64 206, .int .i64 205]
def glC : Nat → Option (List AV)
 | 0 => some hasC
 | 1 => some wireC
 | _ => none
theorem glC_noY : ∀ g cs, glC g = some cs → noYL cs = true := by
 intro g cs h
 unfold glC at h
 split at h
 ·cases h; rfl
 ·cases h; rfl
 ·cases h

abbrev SM := Nat → Option (List AV → List Blk → (Out → List Blk → Prop) → Prop)
def hz24 : List Nat := [16433, 24616, 24674, 24692, 32796, 32811, 32820, 32929, 32937, 41040, 61479, 69640, 69667, 69670, 69674, 69676, 69696, 86061, 86067, 123025, 123041, 143424, 143432, 143463, 143470, 143476, 143481, 147574, 147639, 147645, 159835, 159854, 180244, 188434, 188441, 188456, 188473, 188478, 188483, 188494, 188534, 188540, 200734, 200741, 200748, 225309, 225328, 225332, 225336, 225342, 225364, 225387, 245789, 245813, 249903, 249944, 249966, 258089, 262179, 262228, 262232, 274460, 278552, 278556, 278560, 278593, 278607, 286738, 286760, 319501, 319507]
noncomputable def e24 (sm : SM) (inv : Nat → Option (S → List (List LInv))) (hv : Nat → Option Pa) (hb : Nat → Option Bool) : Env :=
 { fn := fun f => lookF f tabA, sm := sm, gl := glC, inv := inv, hv := hv, hb := hb, hz := fun k => hz24.any (Nat.beq k) }

set_option maxRecDepth 1000000
theorem names24 : namesOk Tryd.prog = true := by kernel_rfl
theorem mixed24 : Tryd.prog.follows .mixedOrders = true := by kernel_rfl
theorem envFor24 {sm : SM} (h : ∀ f g, sm f = some g → ValidF Tryd.prog glC f g) (inv : Nat → Option (S → List (List LInv))) (hv : Nat → Option Pa) (hb : Nat → Option Bool) : EnvFor Tryd.prog (e24 sm inv hv hb) :=
 ⟨mixed24, names24, tabA_ok, h⟩
def sm0 : SM := fun _ => none
theorem sm0_ok : ∀ f g, sm0 f = some g → ValidF Tryd.prog glC f g := fun _ _ h => by cases h

def eW : Env := { fn := fun f => lookF f tabW, gl := glC }
theorem envForW : EnvFor Tryd.prog eW := ⟨mixed24, names24, tabW_ok, fun _ _ h => by cases h⟩
theorem works_run : callx eW (wpx eW 1000000) 17 [] [] {} isT0 = True := by kernel_rfl

theorem works_ok : ValidF Tryd.prog glC 17 cTrue := valid_true (enters_of (by kernel_rfl)) glC_noY envForW rfl works_run
end Go.Proofs.YtafchcmemeinlaaDoor
