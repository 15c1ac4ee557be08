/-
  DERIVED: THE SHELF's CONTRACTS AT THIS DUMP, IN PLAIN WORDS (tools/lay-plain.mjs out of 'TryShelf.lean', which tools/lay-shelf.mjs wrote): THE SAME DECLARATIONS UNDER THE SAME NAMES: 'import', 'namespace', 'open', 'def', 'theorem' AND NOTHING ELSE: no command of the shelf's: FOR A HAND-IN. Each laying: the table of numbers ('.._ren') and one theorem, a field a fact of the dump's own or the kernel's comparison; each contract: ONE APPLICATION.
-/
import Derived.Shelf.Strings.Builder1
import Derived.Shelf.Strings.Builder2
import Derived.Shelf.Strings.BuilderF
import Derived.Shelf.Strings.BuilderK
import Derived.Shelf.Strings.Builder2Cap
import Derived.Shelf.Strings.Prefix
import Derived.Shelf.Bits.Mul64
import Derived.Shelf.Strings.Repeat
import Derived.Test.YtiholnebhmjbjaaProg
namespace Go.Proofs
open Go.Shelf
def Try.lays105_ren:Go.Shelf.Ren:=⟨fun | 105=>29 | 212=>52 | 99=>53 | 165=>54 | 166=>55 | 170=>56 | 169=>57 | 263=>70 | 264=>71 | 206=>72 | 240=>73 | 241=>74 | 276=>88 | 277=>89 | n=>n,fun | 9=>9 | 3=>3 | 4=>4 | 20=>20 | 0=>0 | 46=>94 | 109=>103 | 5=>5 | 72=>108 | 76=>112 | 51=>128 | 146=>129 | 53=>42 | 148=>131 | 70=>106 | 37=>41 | 75=>111 | 127=>133 | 164=>148 | 80=>115 | n=>n,fun | n=>n⟩
theorem Try.lays105:Go.Proofs.Lays.n105 Try.prog Try.lays105_ren := {
 mixed:=by kernel_rfl
 f99:=Try.func53.trans (congrArg some (by kernel_rfl))
 f105:=Try.func29.trans (congrArg some (by kernel_rfl))
 f165:=Try.func54.trans (congrArg some (by kernel_rfl))
 f166:=Try.func55.trans (congrArg some (by kernel_rfl))
 f169:=Try.func57.trans (congrArg some (by kernel_rfl))
 f170:=Try.func56.trans (congrArg some (by kernel_rfl))
 f206:=Try.func72.trans (congrArg some (by kernel_rfl))
 f212:=Try.func52.trans (congrArg some (by kernel_rfl))
 f240:=Try.func73.trans (congrArg some (by kernel_rfl))
 f241:=Try.func74.trans (congrArg some (by kernel_rfl))
 f263:=Try.func70.trans (congrArg some (by kernel_rfl))
 f264:=Try.func71.trans (congrArg some (by kernel_rfl))
 f276:=Try.func88.trans (congrArg some (by kernel_rfl))
 f277:=Try.func89.trans (congrArg some (by kernel_rfl))
 t0:=Try.underlying0
 a0:=Try.isAgg0
 z0:=Try.sizeOf0
 v0:=Try.zeroValue0
 t3:=Try.underlying3
 a3:=Try.isAgg3
 z3:=Try.sizeOf3
 v3:=Try.zeroValue3
 t4:=Try.underlying4
 a4:=Try.isAgg4
 z4:=Try.sizeOf4
 v4:=Try.zeroValue4
 t5:=Try.underlying5
 a5:=Try.isAgg5
 z5:=Try.sizeOf5
 v5:=Try.zeroValue5
 t9:=Try.underlying9
 a9:=Try.isAgg9
 z9:=Try.sizeOf9
 v9:=Try.zeroValue9
 t20:=Try.underlying20
 a20:=Try.isAgg20
 z20:=Try.sizeOf20
 v20:=Try.zeroValue20
 t37:=Try.underlying41
 a37:=Try.isAgg41
 z37:=Try.sizeOf41
 v37:=Try.zeroValue41
 t46:=Try.underlying94
 a46:=Try.isAgg94
 z46:=Try.sizeOf94
 v46:=Try.zeroValue94
 t51:=Try.underlying128
 a51:=Try.isAgg128
 z51:=Try.sizeOf128
 v51:=Try.zeroValue128
 t53:=Try.underlying42
 a53:=Try.isAgg42
 z53:=Try.sizeOf42
 v53:=Try.zeroValue42
 t70:=Try.underlying106
 a70:=Try.isAgg106
 z70:=Try.sizeOf106
 v70:=Try.zeroValue106
 t72:=Try.underlying108
 a72:=Try.isAgg108
 z72:=Try.sizeOf108
 v72:=Try.zeroValue108
 t75:=Try.underlying111
 a75:=Try.isAgg111
 z75:=Try.sizeOf111
 v75:=Try.zeroValue111
 t76:=Try.underlying112
 a76:=Try.isAgg112
 z76:=Try.sizeOf112
 v76:=Try.zeroValue112
 t109:=Try.underlying103
 a109:=Try.isAgg103
 z109:=Try.sizeOf103
 v109:=Try.zeroValue103
 t127:=Try.underlying133
 a127:=Try.isAgg133
 z127:=Try.sizeOf133
 v127:=Try.zeroValue133
 t146:=Try.underlying129
 a146:=Try.isAgg129
 z146:=Try.sizeOf129
 v146:=Try.zeroValue129
 t148:=Try.underlying131
 a148:=Try.isAgg131
 z148:=Try.sizeOf131
 v148:=Try.zeroValue131
 t164:=Try.underlying148
 a164:=Try.isAgg148
 z164:=Try.sizeOf148
 v164:=Try.zeroValue148 }
theorem Try.Builder_Extra_105:Builder.Extra Try.prog Try.lays105_ren := {
 sizeBuilder:=by kernel_rfl
 liesBuilder:=by kernel_rfl
 t5:=Try.underlying5
 a5:=Try.isAgg5
 z5:=Try.sizeOf5
 v5:=Try.zeroValue5
 infoByte:=by kernel_rfl
 cellsByte:=by kernel_rfl
 sizeByte:=by kernel_rfl
 neB5:=by decide }
open Go.RowKit Go.Lib in
open Go.RowKit Go.Lib in
open Go.RowKit Go.Lib in
open Go.RowKit Go.Lib in
open Go.RowKit Go.Lib in
open Go.RowKit Go.Lib in
open Go.RowKit Go.Lib in
theorem Try.strings_Repeat (s:ByteArray) (c:Nat) (w:World) (hc:c≤9223372036854775807) (hlen:s.size*c≤140737488355328) :
  Calls Try.prog 29 #[.string s,.int .i64 c] w fun e w'=>e=.returned (.string ⟨(Lib.repeatL s.data.toList c).toArray⟩)∧Below w.heap.size w w':=Any.strings_Repeat Try.lays105 Try.Builder_Extra_105 s c w hc hlen
end Go.Proofs
