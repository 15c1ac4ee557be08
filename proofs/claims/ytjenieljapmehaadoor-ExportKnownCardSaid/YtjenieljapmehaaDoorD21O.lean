/-
  Chapter 21: the package variables; what the cells of the arguments look like.
-/
import Derived.Test.YtjenieljapmehaaDoorD21A
import Derived.Test.YtjenieljapmehaaDoorRows
import Derived.ProofKit
import Derived.LaidMore
import Derived.Lay
import Derived.OpenShut
import Derived.Stop.Joined
set_option linter.unusedSimpArgs false
set_option linter.unusedVariables false
namespace Go.Proofs.YtjenieljapmehaaDoor
open Go.RowKit
set_option maxRecDepth 1000000

abbrev L21 : List (String × DataW Unit) := [("unicode/utf8.acceptRanges", Go.Proofs.YtjenieljapmehaaDoor.Rows.laid_unicode_utf8_acceptRanges), ("io.EOF", Go.Proofs.YtjenieljapmehaaDoor.Rows.laid_io_EOF), ("unicode/utf8.first", Go.Proofs.YtjenieljapmehaaDoor.Rows.laid_unicode_utf8_first)]
theorem own21:ownKnob Tryd.prog.godebug=none:=by kernel_rfl
theorem glob21 (w:World):Glob gl0 w:=fun g cs h=>by cases h
end Go.Proofs.YtjenieljapmehaaDoor
