/-
  DERIVED: THE SHELF's CONTRACTS AT THIS DUMP, IN PLAIN WORDS (tools/lay-plain.mjs out of 'TrydShelf.lean', which tools/lay-shelf.mjs wrote): THE SAME DECLARATIONS UNDER THE SAME NAMES: 'import', 'namespace', 'open', 'def', 'theorem' AND NOTHING ELSE: no command of the shelf's: FOR A HAND-IN. Each laying: the table of numbers ('.._ren') and one theorem, a field a fact of the dump's own or the kernel's comparison; each contract: ONE APPLICATION.
-/
import Derived.Shelf.Strings.Builder1
import Derived.Shelf.Strings.Builder2
import Derived.Shelf.Strings.OnBuilder
import Derived.Shelf.Small.Utf8
import Derived.Shelf.Small.Strs
import Derived.Shelf.Strings.BuilderF
import Derived.Shelf.Strings.BuilderK
import Derived.Shelf.Strings.Builder2Cap
import Derived.Shelf.LaysM
import Derived.Shelf.Strconv.Clone
import Derived.Shelf.Strings.Search1
import Derived.Shelf.Strings.Prefix
import Derived.Shelf.Unicode.Decode
import Derived.Shelf.Strings.Runes
import Derived.Shelf.Strings.AsciiSet
import Derived.Shelf.Bits.Mul64
import Derived.Shelf.Strings.Repeat
import Derived.Shelf.Unicode.DecodeSlow
import Derived.Shelf.Unicode.DecodeAny
import Derived.Shelf.Unicode.DecodeLast
import Derived.Test.YtjenieljapmehaaDoorProg
namespace Go.Proofs
open Go.Shelf
def Tryd.laysM316_ren:Go.Shelf.Ren:=⟨fun | 316=>80 | n=>n,fun | 9=>9 | 3=>3 | 4=>4 | 37=>48 | 0=>0 | 127=>96 | 5=>5 | n=>n,fun | n=>n⟩
theorem Tryd.laysM316:Go.Proofs.LaysM.n316 Tryd.prog Tryd.laysM316_ren := {
 mixed:=by kernel_rfl
 f316:=Tryd.func80.trans (congrArg some (by kernel_rfl))
 t0:=Tryd.underlying0
 a0:=Tryd.isAgg0
 z0:=Tryd.sizeOf0
 v0:=Tryd.zeroValue0
 t3:=Tryd.underlying3
 a3:=Tryd.isAgg3
 z3:=Tryd.sizeOf3
 v3:=Tryd.zeroValue3
 t4:=Tryd.underlying4
 a4:=Tryd.isAgg4
 z4:=Tryd.sizeOf4
 v4:=Tryd.zeroValue4
 t9:=Tryd.underlying9
 a9:=Tryd.isAgg9
 z9:=Tryd.sizeOf9
 v9:=Tryd.zeroValue9
 t37:=Tryd.underlying48
 a37:=Tryd.isAgg48
 z37:=Tryd.sizeOf48
 v37:=Tryd.zeroValue48
 t127:=Tryd.underlying96
 a127:=Tryd.isAgg96
 z127:=Tryd.sizeOf96
 v127:=Tryd.zeroValue96
 t5:=Tryd.underlying5
 a5:=Tryd.isAgg5
 z5:=Tryd.sizeOf5
 v5:=Tryd.zeroValue5
 i0:=by kernel_rfl
 i3:=by kernel_rfl
 i4:=by kernel_rfl
 i5:=by kernel_rfl
 i9:=by kernel_rfl
 i37:=by kernel_rfl
 i127:=by kernel_rfl }
open Go.RowKit in
theorem Tryd.stringslite_Clone (s:ByteArray) (w:World) (hlim:s.size≤281474976710656) :
  Calls Tryd.prog 80 #[.string s] w fun e w'=>e=.returned (.string s)∧Below w.heap.size w w':=Any.stringslite_Clone Tryd.laysM316 s w hlim
def Tryd.lays264_ren:Go.Shelf.Ren:=⟨fun | 264=>46 | n=>n,fun | 53=>37 | 46=>54 | n=>n,fun | n=>n⟩
theorem Tryd.lays264:Go.Proofs.Lays.n264 Tryd.prog Tryd.lays264_ren := {
 mixed:=by kernel_rfl
 f264:=Tryd.func46.trans (congrArg some (by kernel_rfl))
 t46:=Tryd.underlying54
 a46:=Tryd.isAgg54
 z46:=Tryd.sizeOf54
 v46:=Tryd.zeroValue54
 t53:=Tryd.underlying37
 a53:=Tryd.isAgg37
 z53:=Tryd.sizeOf37
 v53:=Tryd.zeroValue37 }
open Go.RowKit Go.Lib in
theorem Tryd.bits_Mul64 (x y:Nat) (hx:x<18446744073709551616) (hy:y<18446744073709551616) (w:World) :
  Calls Tryd.prog 46 #[.int .u64 x,.int .u64 y] w fun e w'=>e=.returned (.tuple #[.int .u64 ((x*y/18446744073709551616:Nat):Int),.int .u64 ((x*y%18446744073709551616:Nat):Int)])∧w'=w:=Any.bits_Mul64 Tryd.lays264 x y hx hy w
def Tryd.lays105_ren:Go.Shelf.Ren:=⟨fun | 105=>10 | 212=>24 | 99=>9 | 165=>25 | 166=>26 | 170=>27 | 169=>28 | 263=>45 | 264=>46 | 206=>23 | 240=>47 | 241=>48 | 276=>59 | 277=>60 | n=>n,fun | 9=>9 | 3=>3 | 4=>4 | 20=>20 | 0=>0 | 46=>54 | 109=>55 | 5=>5 | 72=>59 | 76=>63 | 51=>74 | 146=>92 | 53=>37 | 148=>94 | 70=>57 | 37=>48 | 75=>62 | 127=>96 | 164=>108 | 80=>50 | n=>n,fun | n=>n⟩
theorem Tryd.lays105:Go.Proofs.Lays.n105 Tryd.prog Tryd.lays105_ren := {
 mixed:=by kernel_rfl
 f99:=Tryd.func9.trans (congrArg some (by kernel_rfl))
 f105:=Tryd.func10.trans (congrArg some (by kernel_rfl))
 f165:=Tryd.func25.trans (congrArg some (by kernel_rfl))
 f166:=Tryd.func26.trans (congrArg some (by kernel_rfl))
 f169:=Tryd.func28.trans (congrArg some (by kernel_rfl))
 f170:=Tryd.func27.trans (congrArg some (by kernel_rfl))
 f206:=Tryd.func23.trans (congrArg some (by kernel_rfl))
 f212:=Tryd.func24.trans (congrArg some (by kernel_rfl))
 f240:=Tryd.func47.trans (congrArg some (by kernel_rfl))
 f241:=Tryd.func48.trans (congrArg some (by kernel_rfl))
 f263:=Tryd.func45.trans (congrArg some (by kernel_rfl))
 f264:=Tryd.func46.trans (congrArg some (by kernel_rfl))
 f276:=Tryd.func59.trans (congrArg some (by kernel_rfl))
 f277:=Tryd.func60.trans (congrArg some (by kernel_rfl))
 t0:=Tryd.underlying0
 a0:=Tryd.isAgg0
 z0:=Tryd.sizeOf0
 v0:=Tryd.zeroValue0
 t3:=Tryd.underlying3
 a3:=Tryd.isAgg3
 z3:=Tryd.sizeOf3
 v3:=Tryd.zeroValue3
 t4:=Tryd.underlying4
 a4:=Tryd.isAgg4
 z4:=Tryd.sizeOf4
 v4:=Tryd.zeroValue4
 t5:=Tryd.underlying5
 a5:=Tryd.isAgg5
 z5:=Tryd.sizeOf5
 v5:=Tryd.zeroValue5
 t9:=Tryd.underlying9
 a9:=Tryd.isAgg9
 z9:=Tryd.sizeOf9
 v9:=Tryd.zeroValue9
 t20:=Tryd.underlying20
 a20:=Tryd.isAgg20
 z20:=Tryd.sizeOf20
 v20:=Tryd.zeroValue20
 t37:=Tryd.underlying48
 a37:=Tryd.isAgg48
 z37:=Tryd.sizeOf48
 v37:=Tryd.zeroValue48
 t46:=Tryd.underlying54
 a46:=Tryd.isAgg54
 z46:=Tryd.sizeOf54
 v46:=Tryd.zeroValue54
 t51:=Tryd.underlying74
 a51:=Tryd.isAgg74
 z51:=Tryd.sizeOf74
 v51:=Tryd.zeroValue74
 t53:=Tryd.underlying37
 a53:=Tryd.isAgg37
 z53:=Tryd.sizeOf37
 v53:=Tryd.zeroValue37
 t70:=Tryd.underlying57
 a70:=Tryd.isAgg57
 z70:=Tryd.sizeOf57
 v70:=Tryd.zeroValue57
 t72:=Tryd.underlying59
 a72:=Tryd.isAgg59
 z72:=Tryd.sizeOf59
 v72:=Tryd.zeroValue59
 t75:=Tryd.underlying62
 a75:=Tryd.isAgg62
 z75:=Tryd.sizeOf62
 v75:=Tryd.zeroValue62
 t76:=Tryd.underlying63
 a76:=Tryd.isAgg63
 z76:=Tryd.sizeOf63
 v76:=Tryd.zeroValue63
 t109:=Tryd.underlying55
 a109:=Tryd.isAgg55
 z109:=Tryd.sizeOf55
 v109:=Tryd.zeroValue55
 t127:=Tryd.underlying96
 a127:=Tryd.isAgg96
 z127:=Tryd.sizeOf96
 v127:=Tryd.zeroValue96
 t146:=Tryd.underlying92
 a146:=Tryd.isAgg92
 z146:=Tryd.sizeOf92
 v146:=Tryd.zeroValue92
 t148:=Tryd.underlying94
 a148:=Tryd.isAgg94
 z148:=Tryd.sizeOf94
 v148:=Tryd.zeroValue94
 t164:=Tryd.underlying108
 a164:=Tryd.isAgg108
 z164:=Tryd.sizeOf108
 v164:=Tryd.zeroValue108 }
theorem Tryd.Builder_Extra_105:Builder.Extra Tryd.prog Tryd.lays105_ren := {
 sizeBuilder:=by kernel_rfl
 liesBuilder:=by kernel_rfl
 t5:=Tryd.underlying5
 a5:=Tryd.isAgg5
 z5:=Tryd.sizeOf5
 v5:=Tryd.zeroValue5
 infoByte:=by kernel_rfl
 cellsByte:=by kernel_rfl
 sizeByte:=by kernel_rfl
 neB5:=by decide }
open Go.RowKit Go.Lib in
open Go.RowKit Go.Lib in
open Go.RowKit Go.Lib in
open Go.RowKit Go.Lib in
open Go.RowKit Go.Lib in
open Go.RowKit Go.Lib in
open Go.RowKit Go.Lib in
theorem Tryd.strings_Repeat (s:ByteArray) (c:Nat) (w:World) (hc:c≤9223372036854775807) (hlen:s.size*c≤140737488355328) :
  Calls Tryd.prog 10 #[.string s,.int .i64 c] w fun e w'=>e=.returned (.string ⟨(Lib.repeatL s.data.toList c).toArray⟩)∧Below w.heap.size w w':=Any.strings_Repeat Tryd.lays105 Tryd.Builder_Extra_105 s c w hc hlen
def Tryd.lays156_ren:Go.Shelf.Ren:=⟨fun | 156=>58 | 165=>25 | 166=>26 | 169=>28 | 240=>47 | 241=>48 | 276=>59 | 277=>60 | n=>n,fun | 31=>97 | 9=>9 | 3=>3 | 4=>4 | 0=>0 | 20=>20 | 72=>59 | 76=>63 | 70=>57 | 37=>48 | 75=>62 | 127=>96 | 164=>108 | 5=>5 | 80=>50 | n=>n,fun | n=>n⟩
theorem Tryd.lays156:Go.Proofs.Lays.n156 Tryd.prog Tryd.lays156_ren := {
 mixed:=by kernel_rfl
 f156:=Tryd.func58.trans (congrArg some (by kernel_rfl))
 f165:=Tryd.func25.trans (congrArg some (by kernel_rfl))
 f166:=Tryd.func26.trans (congrArg some (by kernel_rfl))
 f169:=Tryd.func28.trans (congrArg some (by kernel_rfl))
 f240:=Tryd.func47.trans (congrArg some (by kernel_rfl))
 f241:=Tryd.func48.trans (congrArg some (by kernel_rfl))
 f276:=Tryd.func59.trans (congrArg some (by kernel_rfl))
 f277:=Tryd.func60.trans (congrArg some (by kernel_rfl))
 t0:=Tryd.underlying0
 a0:=Tryd.isAgg0
 z0:=Tryd.sizeOf0
 v0:=Tryd.zeroValue0
 t3:=Tryd.underlying3
 a3:=Tryd.isAgg3
 z3:=Tryd.sizeOf3
 v3:=Tryd.zeroValue3
 t4:=Tryd.underlying4
 a4:=Tryd.isAgg4
 z4:=Tryd.sizeOf4
 v4:=Tryd.zeroValue4
 t9:=Tryd.underlying9
 a9:=Tryd.isAgg9
 z9:=Tryd.sizeOf9
 v9:=Tryd.zeroValue9
 t20:=Tryd.underlying20
 a20:=Tryd.isAgg20
 z20:=Tryd.sizeOf20
 v20:=Tryd.zeroValue20
 t31:=Tryd.underlying97
 a31:=Tryd.isAgg97
 z31:=Tryd.sizeOf97
 v31:=Tryd.zeroValue97
 t37:=Tryd.underlying48
 a37:=Tryd.isAgg48
 z37:=Tryd.sizeOf48
 v37:=Tryd.zeroValue48
 t70:=Tryd.underlying57
 a70:=Tryd.isAgg57
 z70:=Tryd.sizeOf57
 v70:=Tryd.zeroValue57
 t72:=Tryd.underlying59
 a72:=Tryd.isAgg59
 z72:=Tryd.sizeOf59
 v72:=Tryd.zeroValue59
 t75:=Tryd.underlying62
 a75:=Tryd.isAgg62
 z75:=Tryd.sizeOf62
 v75:=Tryd.zeroValue62
 t76:=Tryd.underlying63
 a76:=Tryd.isAgg63
 z76:=Tryd.sizeOf63
 v76:=Tryd.zeroValue63
 t127:=Tryd.underlying96
 a127:=Tryd.isAgg96
 z127:=Tryd.sizeOf96
 v127:=Tryd.zeroValue96
 t164:=Tryd.underlying108
 a164:=Tryd.isAgg108
 z164:=Tryd.sizeOf108
 v164:=Tryd.zeroValue108 }
theorem Tryd.Builder_Extra_156:Builder.Extra Tryd.prog Tryd.lays156_ren := {
 sizeBuilder:=by kernel_rfl
 liesBuilder:=by kernel_rfl
 t5:=Tryd.underlying5
 a5:=Tryd.isAgg5
 z5:=Tryd.sizeOf5
 v5:=Tryd.zeroValue5
 infoByte:=by kernel_rfl
 cellsByte:=by kernel_rfl
 sizeByte:=by kernel_rfl
 neB5:=by decide }
open Go.RowKit in
theorem Tryd.strings_Join_none (a:Option Addr) (c:Nat) (sep:ByteArray) (w:World) :
  Calls Tryd.prog 58 #[.slice a 0 c,.string sep] w fun e w'=>e=.returned (.string ⟨#[]⟩)∧w'=w:=Any.strings_Join_none Tryd.lays156 Tryd.Builder_Extra_156 a c sep w
open Go.RowKit in
theorem Tryd.strings_Join (bk o c:Nat) (xs:List ByteArray) (sep:ByteArray) (w:World) (hcells:∀ (j:Nat) x,xs[j]? = some x→w.cell? ⟨bk,o+j,none⟩=some (.string x)) (hbk:bk<w.heap.size) (hN:xs.length≤140737488355328) (hcap:xs.length≤c) (hlen:(Lib.join (xs.map (·.data.toList)) sep.data.toList).length≤140737488355328) :
  Calls Tryd.prog 58 #[.slice (some ⟨bk,o,none⟩) xs.length c,.string sep] w fun e w'=>e=.returned (.string ⟨(Lib.join (xs.map (·.data.toList)) sep.data.toList).toArray⟩)∧Below w.heap.size w w':=Any.strings_Join Tryd.lays156 Tryd.Builder_Extra_156 bk o c xs sep w hcells hbk hN hcap hlen
end Go.Proofs
