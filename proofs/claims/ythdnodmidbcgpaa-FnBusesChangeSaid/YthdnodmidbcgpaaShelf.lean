/-
 DERIVED: THE SHELF's CONTRACTS AT THIS DUMP, IN PLAIN WORDS (tools/lay-plain.mjs out of 'TryShelf.lean', which tools/lay-shelf.mjs wrote): THE SAME DECLARATIONS UNDER THE SAME NAMES: 'import', 'namespace', 'open', 'def', 'theorem' AND NOTHING ELSE: no command of the shelf's: FOR A HAND-IN. Each laying: the table of numbers ('.._ren') and one theorem, a field a fact of the dump's own or the kernel's comparison; each contract: ONE APPLICATION.
-/
import Derived.Shelf.Sort.Plain
import Derived.Ground.Names2Prog
import Derived.Shelf.Slices.CompactI
import Derived.Shelf.Slices.In.SortNone
import Derived.Test.YthdnodmidbcgpaaProg
namespace Go.Proofs
open Go.Shelf
def Try.lays189_ren:Go.Shelf.Ren:=⟨fun|189=>75|125=>81|257=>80|128=>91|129=>92|294=>82|295=>83|296=>84|297=>85|298=>86|299=>87|216=>88|300=>89|301=>90|328=>93|329=>94|330=>95|331=>96|332=>97|215=>98|343=>99|n=>n,fun|28=>22|3=>3|46=>89|0=>0|51=>100|53=>73|4=>4|183=>94|182=>93|131=>60|5=>5|9=>9|218=>102|222=>106|228=>108|229=>109|n=>n,fun|n=>n⟩
theorem Try.lays189:Go.Proofs.Lays.n189 Try.prog Try.lays189_ren := {
 mixed:=by kernel_rfl
 f125:=Try.func81.trans (congrArg some (by kernel_rfl))
 f128:=Try.func91.trans (congrArg some (by kernel_rfl))
 f129:=Try.func92.trans (congrArg some (by kernel_rfl))
 f189:=Try.func75.trans (congrArg some (by kernel_rfl))
 f215:=Try.func98.trans (congrArg some (by kernel_rfl))
 f216:=Try.func88.trans (congrArg some (by kernel_rfl))
 f257:=Try.func80.trans (congrArg some (by kernel_rfl))
 f294:=Try.func82.trans (congrArg some (by kernel_rfl))
 f295:=Try.func83.trans (congrArg some (by kernel_rfl))
 f296:=Try.func84.trans (congrArg some (by kernel_rfl))
 f297:=Try.func85.trans (congrArg some (by kernel_rfl))
 f298:=Try.func86.trans (congrArg some (by kernel_rfl))
 f299:=Try.func87.trans (congrArg some (by kernel_rfl))
 f300:=Try.func89.trans (congrArg some (by kernel_rfl))
 f301:=Try.func90.trans (congrArg some (by kernel_rfl))
 f328:=Try.func93.trans (congrArg some (by kernel_rfl))
 f329:=Try.func94.trans (congrArg some (by kernel_rfl))
 f330:=Try.func95.trans (congrArg some (by kernel_rfl))
 f331:=Try.func96.trans (congrArg some (by kernel_rfl))
 f332:=Try.func97.trans (congrArg some (by kernel_rfl))
 f343:=Try.func99.trans (congrArg some (by kernel_rfl))
 t0:=Try.underlying0
 a0:=Try.isAgg0
 z0:=Try.sizeOf0
 v0:=Try.zeroValue0
 t3:=Try.underlying3
 a3:=Try.isAgg3
 z3:=Try.sizeOf3
 v3:=Try.zeroValue3
 t4:=Try.underlying4
 a4:=Try.isAgg4
 z4:=Try.sizeOf4
 v4:=Try.zeroValue4
 t5:=Try.underlying5
 a5:=Try.isAgg5
 z5:=Try.sizeOf5
 v5:=Try.zeroValue5
 t9:=Try.underlying9
 a9:=Try.isAgg9
 z9:=Try.sizeOf9
 v9:=Try.zeroValue9
 t28:=Try.underlying22
 a28:=Try.isAgg22
 z28:=Try.sizeOf22
 v28:=Try.zeroValue22
 t46:=Try.underlying89
 a46:=Try.isAgg89
 z46:=Try.sizeOf89
 v46:=Try.zeroValue89
 t51:=Try.underlying100
 a51:=Try.isAgg100
 z51:=Try.sizeOf100
 v51:=Try.zeroValue100
 t53:=Try.underlying73
 a53:=Try.isAgg73
 z53:=Try.sizeOf73
 v53:=Try.zeroValue73
 t131:=Try.underlying60
 a131:=Try.isAgg60
 z131:=Try.sizeOf60
 v131:=Try.zeroValue60
 t182:=Try.underlying93
 a182:=Try.isAgg93
 z182:=Try.sizeOf93
 v182:=Try.zeroValue93
 t183:=Try.underlying94
 a183:=Try.isAgg94
 z183:=Try.sizeOf94
 v183:=Try.zeroValue94
 t218:=Try.underlying102
 a218:=Try.isAgg102
 z218:=Try.sizeOf102
 v218:=Try.zeroValue102
 t222:=Try.underlying106
 a222:=Try.isAgg106
 z222:=Try.sizeOf106
 v222:=Try.zeroValue106
 t228:=Try.underlying108
 a228:=Try.isAgg108
 z228:=Try.sizeOf108
 v228:=Try.zeroValue108
 t229:=Try.underlying109
 a229:=Try.isAgg109
 z229:=Try.sizeOf109
 v229:=Try.zeroValue109 }
open Go.Sort Go.RowKit in
theorem Try.slices_Sort_int (blk off cap:Nat) (zs:List Int) (w:World) (hH:Holds (Value.int .i64) w blk off zs.toArray) (hblk:blk < w.heap.size) (hsz:zs.length < 4611686018427387904) :
  Calls Try.prog 75 #[.slice (some ⟨blk,off,none⟩) zs.length cap] w fun e w' =>
   e=.returned (.tuple #[])∧∃ n os,w'=grow (putRow (Value.int .i64) (Sort.ahead w n) blk off (zs.mergeSort fun x y=>decide (x≤y)).toArray) os:=Any.slices_Sort_int Try.lays189 blk off cap zs w hH hblk hsz
def Try.laysNm220_ren:Go.Shelf.Ren:=⟨fun|20=>76|n=>n,fun|22=>22|3=>3|4=>4|0=>0|n=>n,fun|n=>n⟩
theorem Try.laysNm220:Go.Proofs.Lays2.n20 Try.prog Try.laysNm220_ren := {
 mixed:=by kernel_rfl
 f20:=Try.func76.trans (congrArg some (by kernel_rfl))
 t0:=Try.underlying0
 a0:=Try.isAgg0
 z0:=Try.sizeOf0
 v0:=Try.zeroValue0
 t3:=Try.underlying3
 a3:=Try.isAgg3
 z3:=Try.sizeOf3
 v3:=Try.zeroValue3
 t4:=Try.underlying4
 a4:=Try.isAgg4
 z4:=Try.sizeOf4
 v4:=Try.zeroValue4
 t22:=Try.underlying22
 a22:=Try.isAgg22
 z22:=Try.sizeOf22
 v22:=Try.zeroValue22
 i3:=by kernel_rfl }
open Go.RowKit Go.Lib Go.Sort in
theorem Try.slices_Compact_int_arr (blk off cap:Nat) (d:Array Int) (w:World) (hH:Holds encI w blk off d) (hsz:d.size≤9223372036854775807) (hcap:d.size≤cap) :
  Calls Try.prog 76 #[.slice (some ⟨blk,off,none⟩) d.size cap] w fun e w'=>e=.returned (.slice (some ⟨blk,off,none⟩) (compactUpTo d d.size).length cap)∧∃ q,w'=putRow encI (Sort.ahead w q) blk off (compactUpTo d d.size ++ List.replicate (d.size - (compactUpTo d d.size).length) 0).toArray:=Any.slices_Compact_int_arr Try.laysNm220 blk off cap d w hH hsz hcap
open Go.RowKit Go.Lib Go.Sort in
theorem Try.slices_Compact_int (blk off cap:Nat) (zs:List Int) (w:World) (hH:Holds (Value.int .i64) w blk off zs.toArray) (hsz:zs.length≤9223372036854775807) (hcap:zs.length≤cap) :
  Calls Try.prog 76 #[.slice (some ⟨blk,off,none⟩) zs.length cap] w fun e w'=>e=.returned (.slice (some ⟨blk,off,none⟩) (Lib.compact zs).length cap)∧∃ q,w'=putRow (Value.int .i64) (Sort.ahead w q) blk off (Lib.compact zs ++ List.replicate (zs.length - (Lib.compact zs).length) 0).toArray:=Any.slices_Compact_int Try.laysNm220 blk off cap zs w hH hsz hcap
open Go.RowKit Go.Lib Go.Sort in
theorem Try.slices_Compact_int_empty (a:Option Addr) (cap:Nat) (w:World) :
  Calls Try.prog 76 #[.slice a 0 cap] w fun e w'=>e=.returned (.slice a 0 cap)∧w'=w:=Any.slices_Compact_int_empty Try.laysNm220 a cap w
open Go.RowKit Go.Sort in
theorem Try.slices_Sort_int_none (p:Option Addr) (cap:Nat) (w:World) :
  Calls Try.prog 75 #[.slice p 0 cap] w fun e w'=>e=.returned (.tuple #[])∧w'=w:=Any.slices_Sort_int_none Try.lays189 p cap w
end Go.Proofs
