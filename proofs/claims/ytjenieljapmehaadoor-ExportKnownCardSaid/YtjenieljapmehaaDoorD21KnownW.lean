/-
  Chapter 21: the walk of ExportKnown.
-/
import Derived.Test.YtjenieljapmehaaDoorD21ZC
import Derived.Test.YtjenieljapmehaaDoorD21O
set_option linter.unusedSimpArgs false
set_option linter.unusedVariables false
namespace Go.Proofs.YtjenieljapmehaaDoor
open Go.RowKit
set_option maxRecDepth 1000000

theorem exportKnown_walk (w:World) (_:laidMetH Tryd.prog L21 w):Calls Tryd.prog 4 #[] w fun e w'=>e=.returned (.bool true)∧Below w.heap.size w w':=by
 obtain ⟨hv,hb,h⟩:=known_run isT trivial
 exact call_all (envFor18 smK_ok _ hv hb) h w (glob21 w) (by simp[VRL_nil])
end Go.Proofs.YtjenieljapmehaaDoor
