/-
  DERIVED: THE SHELF's CONTRACTS AT THIS DUMP,IN PLAIN WORDS (tools/lay-plain.mjs out of 'YthmpgocaoccnaaaGreatDoorShelf.lean',which tools/lay-shelf.mjs wrote): THE SAME DECLARATIONS UNDER THE SAME NAMES: 'import','namespace','open','def','theorem' AND NOTHING ELSE: no command of the shelf's: FOR A HAND-IN. Each laying: the table of numbers ('.._ren') and one theorem,a field a fact of the dump's own or the kernel's comparison;each contract: ONE APPLICATION.
-/
import Derived.Shelf.Strings.Search1
import Derived.Shelf.Strings.Search2
import Derived.Shelf.Strings.Search3
import Derived.Shelf.Strings.Count
import Derived.Shelf.LaysM
import Derived.Shelf.Strings.Shaped
import Derived.Shelf.Sort.Plain
import Derived.Shelf.Unicode.DecodeSlow
import Derived.Shelf.Slices.In.SortNone
import Derived.Shelf.Slices.In.SortNone2
import Derived.Test.YthmpgocaoccnaaaGreatDoorProg
namespace Go.Proofs
open Go.Shelf
def Tryz.lays143_ren:Go.Shelf.Ren:=⟨fun|143=>87|219=>97|217=>114|225=>115|224=>116|267=>117|266=>124|314=>125|n=>n,fun|9=>9|3=>3|4=>4|5=>5|46=>97|146=>130|51=>117|n=>n,fun|1=>0|n=>n⟩
theorem Tryz.lays143:Go.Proofs.Lays.n143 Tryz.prog Tryz.lays143_ren:={
  mixed:=by kernel_rfl
  f143:=Tryz.func87.trans (congrArg some (by kernel_rfl))
  f217:=Tryz.func114.trans (congrArg some (by kernel_rfl))
  f219:=Tryz.func97.trans (congrArg some (by kernel_rfl))
  f224:=Tryz.func116.trans (congrArg some (by kernel_rfl))
  f225:=Tryz.func115.trans (congrArg some (by kernel_rfl))
  f266:=Tryz.func124.trans (congrArg some (by kernel_rfl))
  f267:=Tryz.func117.trans (congrArg some (by kernel_rfl))
  f314:=Tryz.func125.trans (congrArg some (by kernel_rfl))
  t3:=Tryz.underlying3
  a3:=Tryz.isAgg3
  z3:=Tryz.sizeOf3
  v3:=Tryz.zeroValue3
  t4:=Tryz.underlying4
  a4:=Tryz.isAgg4
  z4:=Tryz.sizeOf4
  v4:=Tryz.zeroValue4
  t5:=Tryz.underlying5
  a5:=Tryz.isAgg5
  z5:=Tryz.sizeOf5
  v5:=Tryz.zeroValue5
  t9:=Tryz.underlying9
  a9:=Tryz.isAgg9
  z9:=Tryz.sizeOf9
  v9:=Tryz.zeroValue9
  t46:=Tryz.underlying97
  a46:=Tryz.isAgg97
  z46:=Tryz.sizeOf97
  v46:=Tryz.zeroValue97
  t51:=Tryz.underlying117
  a51:=Tryz.isAgg117
  z51:=Tryz.sizeOf117
  v51:=Tryz.zeroValue117
  t146:=Tryz.underlying130
  a146:=Tryz.isAgg130
  z146:=Tryz.sizeOf130
  v146:=Tryz.zeroValue130
  g1:=by kernel_rfl }
open Go.RowKit Go.Lib in
/-- strings.Index: "Index returns the index of the first instance of substr in s, or -1 if substr is not present in s.": AT A substr OF ONE BYTE c: IT RETURNS 'Lib.indexByte s c'; the world is as it was. (LAID: no walk: one application.) -/
theorem Tryz.strings_Index_one (s:ByteArray) (c:UInt8) (w:World) :
    Calls Tryz.prog 87 #[.string s,.string ⟨#[c]⟩] w fun e w'=>e=.returned (.int .i64 (Lib.indexByte s.data.toList c))∧w'=w:=Any.strings_Index_one Tryz.lays143 s c w
def Tryz.lays138_ren:Go.Shelf.Ren:=⟨fun|138=>86|195=>94|218=>96|143=>87|219=>97|217=>114|225=>115|224=>116|267=>117|266=>124|314=>125|n=>n,fun|9=>9|3=>3|4=>4|5=>5|0=>0|46=>97|146=>130|51=>117|n=>n,fun|1=>0|n=>n⟩
theorem Tryz.lays138:Go.Proofs.Lays.n138 Tryz.prog Tryz.lays138_ren:={
  mixed:=by kernel_rfl
  f138:=Tryz.func86.trans (congrArg some (by kernel_rfl))
  f143:=Tryz.func87.trans (congrArg some (by kernel_rfl))
  f195:=Tryz.func94.trans (congrArg some (by kernel_rfl))
  f217:=Tryz.func114.trans (congrArg some (by kernel_rfl))
  f218:=Tryz.func96.trans (congrArg some (by kernel_rfl))
  f219:=Tryz.func97.trans (congrArg some (by kernel_rfl))
  f224:=Tryz.func116.trans (congrArg some (by kernel_rfl))
  f225:=Tryz.func115.trans (congrArg some (by kernel_rfl))
  f266:=Tryz.func124.trans (congrArg some (by kernel_rfl))
  f267:=Tryz.func117.trans (congrArg some (by kernel_rfl))
  f314:=Tryz.func125.trans (congrArg some (by kernel_rfl))
  t0:=Tryz.underlying0
  a0:=Tryz.isAgg0
  z0:=Tryz.sizeOf0
  v0:=Tryz.zeroValue0
  t3:=Tryz.underlying3
  a3:=Tryz.isAgg3
  z3:=Tryz.sizeOf3
  v3:=Tryz.zeroValue3
  t4:=Tryz.underlying4
  a4:=Tryz.isAgg4
  z4:=Tryz.sizeOf4
  v4:=Tryz.zeroValue4
  t5:=Tryz.underlying5
  a5:=Tryz.isAgg5
  z5:=Tryz.sizeOf5
  v5:=Tryz.zeroValue5
  t9:=Tryz.underlying9
  a9:=Tryz.isAgg9
  z9:=Tryz.sizeOf9
  v9:=Tryz.zeroValue9
  t46:=Tryz.underlying97
  a46:=Tryz.isAgg97
  z46:=Tryz.sizeOf97
  v46:=Tryz.zeroValue97
  t51:=Tryz.underlying117
  a51:=Tryz.isAgg117
  z51:=Tryz.sizeOf117
  v51:=Tryz.zeroValue117
  t146:=Tryz.underlying130
  a146:=Tryz.isAgg130
  z146:=Tryz.sizeOf130
  v146:=Tryz.zeroValue130
  g1:=by kernel_rfl }
open Go.RowKit Go.Lib in
/-- strings.Count AT A substr OF ONE BYTE ('hp'): "Count counts the number of non-overlapping instances of substr in s.": IT RETURNS 'Lib.countByte s (that byte)'; the world is as it was. ✋ NO CONTRACT HERE YET at an empty substr (utf8.RuneCountInString) or at a longer one (a loop over strings.Index). (LAID: no walk: one application.) -/
theorem Tryz.strings_Count_one (s:ByteArray) (c:UInt8) (w:World) :
    Calls Tryz.prog 86 #[.string s,.string ⟨#[c]⟩] w fun e w'=>e=.returned (.int .i64 (Lib.countByte s.data.toList c))∧w'=w:=Any.strings_Count_one Tryz.lays138 s c w
def Tryz.lays192_ren:Go.Shelf.Ren:=⟨fun|192=>67|190=>84|125=>93|258=>92|128=>111|129=>112|302=>102|303=>103|304=>104|305=>105|306=>106|307=>107|308=>108|309=>109|310=>110|333=>118|329=>119|330=>120|334=>121|335=>122|336=>123|344=>126|n=>n,fun|31=>42|0=>0|9=>9|3=>3|46=>97|51=>117|53=>119|4=>4|183=>109|182=>108|131=>114|5=>5|218=>120|222=>124|228=>132|229=>133|n=>n,fun|n=>n⟩
theorem Tryz.lays192:Go.Proofs.Lays.n192 Tryz.prog Tryz.lays192_ren:={
  mixed:=by kernel_rfl
  f125:=Tryz.func93.trans (congrArg some (by kernel_rfl))
  f128:=Tryz.func111.trans (congrArg some (by kernel_rfl))
  f129:=Tryz.func112.trans (congrArg some (by kernel_rfl))
  f190:=Tryz.func84.trans (congrArg some (by kernel_rfl))
  f192:=Tryz.func67.trans (congrArg some (by kernel_rfl))
  f258:=Tryz.func92.trans (congrArg some (by kernel_rfl))
  f302:=Tryz.func102.trans (congrArg some (by kernel_rfl))
  f303:=Tryz.func103.trans (congrArg some (by kernel_rfl))
  f304:=Tryz.func104.trans (congrArg some (by kernel_rfl))
  f305:=Tryz.func105.trans (congrArg some (by kernel_rfl))
  f306:=Tryz.func106.trans (congrArg some (by kernel_rfl))
  f307:=Tryz.func107.trans (congrArg some (by kernel_rfl))
  f308:=Tryz.func108.trans (congrArg some (by kernel_rfl))
  f309:=Tryz.func109.trans (congrArg some (by kernel_rfl))
  f310:=Tryz.func110.trans (congrArg some (by kernel_rfl))
  f329:=Tryz.func119.trans (congrArg some (by kernel_rfl))
  f330:=Tryz.func120.trans (congrArg some (by kernel_rfl))
  f333:=Tryz.func118.trans (congrArg some (by kernel_rfl))
  f334:=Tryz.func121.trans (congrArg some (by kernel_rfl))
  f335:=Tryz.func122.trans (congrArg some (by kernel_rfl))
  f336:=Tryz.func123.trans (congrArg some (by kernel_rfl))
  f344:=Tryz.func126.trans (congrArg some (by kernel_rfl))
  t0:=Tryz.underlying0
  a0:=Tryz.isAgg0
  z0:=Tryz.sizeOf0
  v0:=Tryz.zeroValue0
  t3:=Tryz.underlying3
  a3:=Tryz.isAgg3
  z3:=Tryz.sizeOf3
  v3:=Tryz.zeroValue3
  t4:=Tryz.underlying4
  a4:=Tryz.isAgg4
  z4:=Tryz.sizeOf4
  v4:=Tryz.zeroValue4
  t5:=Tryz.underlying5
  a5:=Tryz.isAgg5
  z5:=Tryz.sizeOf5
  v5:=Tryz.zeroValue5
  t9:=Tryz.underlying9
  a9:=Tryz.isAgg9
  z9:=Tryz.sizeOf9
  v9:=Tryz.zeroValue9
  t31:=Tryz.underlying42
  a31:=Tryz.isAgg42
  z31:=Tryz.sizeOf42
  v31:=Tryz.zeroValue42
  t46:=Tryz.underlying97
  a46:=Tryz.isAgg97
  z46:=Tryz.sizeOf97
  v46:=Tryz.zeroValue97
  t51:=Tryz.underlying117
  a51:=Tryz.isAgg117
  z51:=Tryz.sizeOf117
  v51:=Tryz.zeroValue117
  t53:=Tryz.underlying119
  a53:=Tryz.isAgg119
  z53:=Tryz.sizeOf119
  v53:=Tryz.zeroValue119
  t131:=Tryz.underlying114
  a131:=Tryz.isAgg114
  z131:=Tryz.sizeOf114
  v131:=Tryz.zeroValue114
  t182:=Tryz.underlying108
  a182:=Tryz.isAgg108
  z182:=Tryz.sizeOf108
  v182:=Tryz.zeroValue108
  t183:=Tryz.underlying109
  a183:=Tryz.isAgg109
  z183:=Tryz.sizeOf109
  v183:=Tryz.zeroValue109
  t218:=Tryz.underlying120
  a218:=Tryz.isAgg120
  z218:=Tryz.sizeOf120
  v218:=Tryz.zeroValue120
  t222:=Tryz.underlying124
  a222:=Tryz.isAgg124
  z222:=Tryz.sizeOf124
  v222:=Tryz.zeroValue124
  t228:=Tryz.underlying132
  a228:=Tryz.isAgg132
  z228:=Tryz.sizeOf132
  v228:=Tryz.zeroValue132
  t229:=Tryz.underlying133
  a229:=Tryz.isAgg133
  z229:=Tryz.sizeOf133
  v229:=Tryz.zeroValue133 }
open Go.Sort Go.RowKit in
theorem Tryz.sort_Strings (blk off cap:Nat) (ss:List (List UInt8)) (w:World) (hH:Holds encStr w blk off ss.toArray) (hblk:blk<w.heap.size) (hsz:ss.length<4611686018427387904) :
    Calls Tryz.prog 67 #[.slice (some ⟨blk,off,none⟩) ss.length cap] w fun e w' =>
      e=.returned (.tuple #[])∧∃ n os,w'=grow (putRow encStr (Sort.ahead w n) blk off (ss.mergeSort fun x y=>decide (x≤y)).toArray) os:=Any.sort_Strings Tryz.lays192 blk off cap ss w hH hblk hsz
open Go.RowKit Go.Sort in
/-- .. and plain. (LAID: no walk: one application.) -/
theorem Tryz.sort_Strings_none (p:Option Addr) (cap:Nat) (w:World) :
    Calls Tryz.prog 67 #[.slice p 0 cap] w fun e w'=>e=.returned (.tuple #[])∧w'=w:=Any.sort_Strings_none Tryz.lays192 p cap w
end Go.Proofs
