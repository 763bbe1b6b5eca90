/- The contracts of Go's library at this seat's translation: each is one application of a theorem of the kit's shelf. -/
import Derived.Shelf.Strings.Builder1
import Derived.Shelf.Strings.BuilderF
import Derived.Shelf.Strings.BuilderK
import Derived.Shelf.Utf8.RuneCount
import Derived.Shelf.Strings.Search1
import Derived.Shelf.Strings.Search2
import Derived.Shelf.Strings.Search3
import Derived.Shelf.Strings.Count
import Derived.Shelf.LaysM
import Derived.Shelf.Strings.Shaped
import Derived.Shelf.Strings.Split
import Derived.Shelf.Strings.SplitShaped
import Derived.Shelf.Unicode.DecodeSlow
import Derived.Shelf.Unicode.DecodeAny
import Derived.Shelf.Unicode.ValidAny
import Derived.Shelf.Strings.BuilderRune
import Derived.Test.YtpjjbaclphoilaaGreatDoorProg
namespace Go.Proofs
open Go.Shelf
def Tryz.lays195_ren:Go.Shelf.Ren:=⟨fun|195=>85|n=>n,fun|9=>9|3=>3|0=>0|4=>4|n=>n,fun|n=>n⟩
theorem Tryz.lays195:Go.Proofs.Lays.n195 Tryz.prog Tryz.lays195_ren:={
  mixed:=by kernel_rfl
  f195:=Tryz.func85.trans (congrArg some (by kernel_rfl))
  t0:=Tryz.underlying0
  a0:=Tryz.isAgg0
  z0:=Tryz.sizeOf0
  v0:=Tryz.zeroValue0
  t3:=Tryz.underlying3
  a3:=Tryz.isAgg3
  z3:=Tryz.sizeOf3
  v3:=Tryz.zeroValue3
  t4:=Tryz.underlying4
  a4:=Tryz.isAgg4
  z4:=Tryz.sizeOf4
  v4:=Tryz.zeroValue4
  t9:=Tryz.underlying9
  a9:=Tryz.isAgg9
  z9:=Tryz.sizeOf9
  v9:=Tryz.zeroValue9 }
open Go.RowKit in
theorem Tryz.utf8_RuneCountInString (s:ByteArray) (w:World) (hs:s.size<9223372036854775807):
    Calls Tryz.prog 85 #[.string s] w fun e w'=>e=.returned (.int .i64 (Lib.runeCount s))∧∃ pos,w'=w.iter s pos:=Any.utf8_RuneCountInString Tryz.lays195 s w hs
def Tryz.lays138_ren:Go.Shelf.Ren:=⟨fun|138=>86|195=>85|218=>129|143=>130|219=>162|217=>170|225=>171|224=>172|267=>173|266=>178|314=>179|n=>n,fun|9=>9|3=>3|4=>4|5=>5|0=>0|46=>178|146=>217|51=>216|n=>n,fun|1=>2|n=>n⟩
theorem Tryz.lays138:Go.Proofs.Lays.n138 Tryz.prog Tryz.lays138_ren:={
  mixed:=by kernel_rfl
  f138:=Tryz.func86.trans (congrArg some (by kernel_rfl))
  f143:=Tryz.func130.trans (congrArg some (by kernel_rfl))
  f195:=Tryz.func85.trans (congrArg some (by kernel_rfl))
  f217:=Tryz.func170.trans (congrArg some (by kernel_rfl))
  f218:=Tryz.func129.trans (congrArg some (by kernel_rfl))
  f219:=Tryz.func162.trans (congrArg some (by kernel_rfl))
  f224:=Tryz.func172.trans (congrArg some (by kernel_rfl))
  f225:=Tryz.func171.trans (congrArg some (by kernel_rfl))
  f266:=Tryz.func178.trans (congrArg some (by kernel_rfl))
  f267:=Tryz.func173.trans (congrArg some (by kernel_rfl))
  f314:=Tryz.func179.trans (congrArg some (by kernel_rfl))
  t0:=Tryz.underlying0
  a0:=Tryz.isAgg0
  z0:=Tryz.sizeOf0
  v0:=Tryz.zeroValue0
  t3:=Tryz.underlying3
  a3:=Tryz.isAgg3
  z3:=Tryz.sizeOf3
  v3:=Tryz.zeroValue3
  t4:=Tryz.underlying4
  a4:=Tryz.isAgg4
  z4:=Tryz.sizeOf4
  v4:=Tryz.zeroValue4
  t5:=Tryz.underlying5
  a5:=Tryz.isAgg5
  z5:=Tryz.sizeOf5
  v5:=Tryz.zeroValue5
  t9:=Tryz.underlying9
  a9:=Tryz.isAgg9
  z9:=Tryz.sizeOf9
  v9:=Tryz.zeroValue9
  t46:=Tryz.underlying178
  a46:=Tryz.isAgg178
  z46:=Tryz.sizeOf178
  v46:=Tryz.zeroValue178
  t51:=Tryz.underlying216
  a51:=Tryz.isAgg216
  z51:=Tryz.sizeOf216
  v51:=Tryz.zeroValue216
  t146:=Tryz.underlying217
  a146:=Tryz.isAgg217
  z146:=Tryz.sizeOf217
  v146:=Tryz.zeroValue217
  g1:=by kernel_rfl }
open Go.RowKit Go.Lib in
theorem Tryz.strings_Count_one (s:ByteArray) (c:UInt8) (w:World):
    Calls Tryz.prog 86 #[.string s,.string ⟨#[c]⟩] w fun e w'=>e=.returned (.int .i64 (Lib.countByte s.data.toList c))∧w'=w:=Any.strings_Count_one Tryz.lays138 s c w
def Tryz.lays146_ren:Go.Shelf.Ren:=⟨fun|146=>174|221=>180|268=>182|138=>86|143=>130|195=>85|197=>184|218=>129|219=>162|260=>185|217=>170|225=>171|224=>172|267=>173|266=>178|314=>179|n=>n,fun|9=>9|31=>28|3=>3|4=>4|0=>0|105=>221|21=>21|5=>5|46=>178|119=>194|139=>197|138=>196|146=>217|51=>216|n=>n,fun|1=>2|3=>0|4=>1|n=>n⟩
theorem Tryz.lays146:Go.Proofs.Lays.n146 Tryz.prog Tryz.lays146_ren:={
  mixed:=by kernel_rfl
  f138:=Tryz.func86.trans (congrArg some (by kernel_rfl))
  f143:=Tryz.func130.trans (congrArg some (by kernel_rfl))
  f146:=Tryz.func174.trans (congrArg some (by kernel_rfl))
  f195:=Tryz.func85.trans (congrArg some (by kernel_rfl))
  f197:=Tryz.func184.trans (congrArg some (by kernel_rfl))
  f217:=Tryz.func170.trans (congrArg some (by kernel_rfl))
  f218:=Tryz.func129.trans (congrArg some (by kernel_rfl))
  f219:=Tryz.func162.trans (congrArg some (by kernel_rfl))
  f221:=Tryz.func180.trans (congrArg some (by kernel_rfl))
  f224:=Tryz.func172.trans (congrArg some (by kernel_rfl))
  f225:=Tryz.func171.trans (congrArg some (by kernel_rfl))
  f260:=Tryz.func185.trans (congrArg some (by kernel_rfl))
  f266:=Tryz.func178.trans (congrArg some (by kernel_rfl))
  f267:=Tryz.func173.trans (congrArg some (by kernel_rfl))
  f268:=Tryz.func182.trans (congrArg some (by kernel_rfl))
  f314:=Tryz.func179.trans (congrArg some (by kernel_rfl))
  t0:=Tryz.underlying0
  a0:=Tryz.isAgg0
  z0:=Tryz.sizeOf0
  v0:=Tryz.zeroValue0
  t3:=Tryz.underlying3
  a3:=Tryz.isAgg3
  z3:=Tryz.sizeOf3
  v3:=Tryz.zeroValue3
  t4:=Tryz.underlying4
  a4:=Tryz.isAgg4
  z4:=Tryz.sizeOf4
  v4:=Tryz.zeroValue4
  t5:=Tryz.underlying5
  a5:=Tryz.isAgg5
  z5:=Tryz.sizeOf5
  v5:=Tryz.zeroValue5
  t9:=Tryz.underlying9
  a9:=Tryz.isAgg9
  z9:=Tryz.sizeOf9
  v9:=Tryz.zeroValue9
  t21:=Tryz.underlying21
  a21:=Tryz.isAgg21
  z21:=Tryz.sizeOf21
  v21:=Tryz.zeroValue21
  t31:=Tryz.underlying28
  a31:=Tryz.isAgg28
  z31:=Tryz.sizeOf28
  v31:=Tryz.zeroValue28
  t46:=Tryz.underlying178
  a46:=Tryz.isAgg178
  z46:=Tryz.sizeOf178
  v46:=Tryz.zeroValue178
  t51:=Tryz.underlying216
  a51:=Tryz.isAgg216
  z51:=Tryz.sizeOf216
  v51:=Tryz.zeroValue216
  t105:=Tryz.underlying221
  a105:=Tryz.isAgg221
  z105:=Tryz.sizeOf221
  v105:=Tryz.zeroValue221
  t119:=Tryz.underlying194
  a119:=Tryz.isAgg194
  z119:=Tryz.sizeOf194
  t138:=Tryz.underlying196
  a138:=Tryz.isAgg196
  z138:=Tryz.sizeOf196
  v138:=Tryz.zeroValue196
  t139:=Tryz.underlying197
  a139:=Tryz.isAgg197
  z139:=Tryz.sizeOf197
  v139:=Tryz.zeroValue197
  t146:=Tryz.underlying217
  a146:=Tryz.isAgg217
  z146:=Tryz.sizeOf217
  v146:=Tryz.zeroValue217
  g1:=by kernel_rfl
  g3:=by kernel_rfl
  g4:=by kernel_rfl }
open Go.RowKit Go.Lib in
theorem Tryz.strings_Split (s sep:ByteArray) (m:Int) (w:World) (hs:s.size<4294967281) (hm:w.cell? ⟨2,0,none⟩=some (.int .i64 m)) (h1:1≤sep.size):
    Calls Tryz.prog 174 #[.string s,.string sep] w fun e w'=>
      e=.returned (.slice (some ⟨w.heap.size,0,none⟩) (Lib.countB s sep+1) (Lib.countB s sep+1))∧w'=w.alloc (.cells ((Lib.splitB sep 0 (Lib.countB s sep) s).map Value.string).toArray 9):=Any.strings_Split Tryz.lays146 (by kernel_rfl) s sep m w hs hm h1
def Tryz.lays197_ren:Go.Shelf.Ren:=⟨fun|197=>184|260=>185|n=>n,fun|9=>9|21=>21|3=>3|4=>4|5=>5|105=>221|119=>194|0=>0|46=>178|139=>197|138=>196|n=>n,fun|3=>0|4=>1|n=>n⟩
def Tryz.lays196_ren:Go.Shelf.Ren:=⟨fun|196=>105|259=>144|n=>n,fun|9=>9|4=>4|3=>3|5=>5|12=>12|119=>194|0=>0|46=>178|139=>197|138=>196|53=>211|n=>n,fun|3=>0|4=>1|n=>n⟩
theorem Tryz.lays196:Go.Proofs.Lays.n196 Tryz.prog Tryz.lays196_ren:={
  mixed:=by kernel_rfl
  f196:=Tryz.func105.trans (congrArg some (by kernel_rfl))
  f259:=Tryz.func144.trans (congrArg some (by kernel_rfl))
  t0:=Tryz.underlying0
  a0:=Tryz.isAgg0
  z0:=Tryz.sizeOf0
  v0:=Tryz.zeroValue0
  t3:=Tryz.underlying3
  a3:=Tryz.isAgg3
  z3:=Tryz.sizeOf3
  v3:=Tryz.zeroValue3
  t4:=Tryz.underlying4
  a4:=Tryz.isAgg4
  z4:=Tryz.sizeOf4
  v4:=Tryz.zeroValue4
  t5:=Tryz.underlying5
  a5:=Tryz.isAgg5
  z5:=Tryz.sizeOf5
  v5:=Tryz.zeroValue5
  t9:=Tryz.underlying9
  a9:=Tryz.isAgg9
  z9:=Tryz.sizeOf9
  v9:=Tryz.zeroValue9
  t12:=Tryz.underlying12
  a12:=Tryz.isAgg12
  z12:=Tryz.sizeOf12
  v12:=Tryz.zeroValue12
  t46:=Tryz.underlying178
  a46:=Tryz.isAgg178
  z46:=Tryz.sizeOf178
  v46:=Tryz.zeroValue178
  t53:=Tryz.underlying211
  a53:=Tryz.isAgg211
  z53:=Tryz.sizeOf211
  v53:=Tryz.zeroValue211
  t119:=Tryz.underlying194
  a119:=Tryz.isAgg194
  z119:=Tryz.sizeOf194
  t138:=Tryz.underlying196
  a138:=Tryz.isAgg196
  z138:=Tryz.sizeOf196
  v138:=Tryz.zeroValue196
  t139:=Tryz.underlying197
  a139:=Tryz.isAgg197
  z139:=Tryz.sizeOf197
  v139:=Tryz.zeroValue197
  g3:=by kernel_rfl
  g4:=by kernel_rfl }
open Go.RowKit Go.Lib in
theorem Tryz.utf8_ValidString (s:ByteArray) (w:World) (hs:s.size≤9223372036854775807) (hT:Lib.Utf8Tabs 0 1 w):
    Calls Tryz.prog 105 #[.string s] w fun e w'=>e=.returned (.bool (Lib.validD s.data.toList))∧Below w.heap.size w w':=Any.utf8_ValidString Tryz.lays196 s w hs hT
end Go.Proofs
