import Derived.Shelf.Strings.Cut
import Derived.Shelf.Strings.Split
import Derived.Shelf.Strings.IndexAnyAll
import Derived.Shelf.Strings.Search3
import Derived.Test.YtmnalemmhfjacaaGreatDoorProg
namespace Go.Proofs
open Go.Shelf Tryz
def Tryz.lays144_ren:Go.Shelf.Ren:=⟨fun | 144=>163 | 143=>209 | 219=>159 | 217=>201 | 225=>202 | 224=>203 | 267=>204 | 266=>226 | 314=>227 | n=>n,fun | 9=>9 | 4=>4 | 3=>3 | 5=>5 | 46=>176 | 146=>273 | 51=>175 | n=>n,fun | 1=>0 | n=>n⟩
theorem Tryz.lays144:Go.Proofs.Lays.n144 Tryz.prog Tryz.lays144_ren:={
 mixed:=by kernel_rfl
 f143:=func209.trans (congrArg some (by kernel_rfl))
 f144:=func163.trans (congrArg some (by kernel_rfl))
 f217:=func201.trans (congrArg some (by kernel_rfl))
 f219:=func159.trans (congrArg some (by kernel_rfl))
 f224:=func203.trans (congrArg some (by kernel_rfl))
 f225:=func202.trans (congrArg some (by kernel_rfl))
 f266:=func226.trans (congrArg some (by kernel_rfl))
 f267:=func204.trans (congrArg some (by kernel_rfl))
 f314:=func227.trans (congrArg some (by kernel_rfl))
 t3:=underlying3
 a3:=isAgg3
 z3:=sizeOf3
 v3:=zeroValue3
 t4:=underlying4
 a4:=isAgg4
 z4:=sizeOf4
 v4:=zeroValue4
 t5:=underlying5
 a5:=isAgg5
 z5:=sizeOf5
 v5:=zeroValue5
 t9:=underlying9
 a9:=isAgg9
 z9:=sizeOf9
 v9:=zeroValue9
 t46:=underlying176
 a46:=isAgg176
 z46:=sizeOf176
 v46:=zeroValue176
 t51:=underlying175
 a51:=isAgg175
 z51:=sizeOf175
 v51:=zeroValue175
 t146:=underlying273
 a146:=isAgg273
 z146:=sizeOf273
 v146:=zeroValue273
 g1:=by kernel_rfl }
open Go.RowKit Go.Lib in
theorem Tryz.strings_Contains_one(s:ByteArray)(c:UInt8)(w:World):
 Calls Tryz.prog 163 #[.string s,.string ⟨#[c]⟩] w λe w'=>e=.returned (.bool (decide (0≤Lib.indexByte s.data.toList c)))∧w'=w:=Any.strings_Contains_one Tryz.lays144 s c w
open Go.RowKit Go.Lib in
def Tryz.lays145_ren:Go.Shelf.Ren:=⟨fun | 145=>92 | 220=>123 | 219=>159 | 217=>201 | 225=>202 | 224=>203 | 267=>204 | 266=>226 | 314=>227 | n=>n,fun | 9=>9 | 4=>4 | 59=>194 | 3=>3 | 5=>5 | 46=>176 | 146=>273 | 51=>175 | n=>n,fun | 1=>0 | n=>n⟩
theorem Tryz.lays145:Go.Proofs.Lays.n145 Tryz.prog Tryz.lays145_ren:={
 mixed:=by kernel_rfl
 f145:=func92.trans (congrArg some (by kernel_rfl))
 f217:=func201.trans (congrArg some (by kernel_rfl))
 f219:=func159.trans (congrArg some (by kernel_rfl))
 f220:=func123.trans (congrArg some (by kernel_rfl))
 f224:=func203.trans (congrArg some (by kernel_rfl))
 f225:=func202.trans (congrArg some (by kernel_rfl))
 f266:=func226.trans (congrArg some (by kernel_rfl))
 f267:=func204.trans (congrArg some (by kernel_rfl))
 f314:=func227.trans (congrArg some (by kernel_rfl))
 t3:=underlying3
 a3:=isAgg3
 z3:=sizeOf3
 v3:=zeroValue3
 t4:=underlying4
 a4:=isAgg4
 z4:=sizeOf4
 v4:=zeroValue4
 t5:=underlying5
 a5:=isAgg5
 z5:=sizeOf5
 v5:=zeroValue5
 t9:=underlying9
 a9:=isAgg9
 z9:=sizeOf9
 v9:=zeroValue9
 t46:=underlying176
 a46:=isAgg176
 z46:=sizeOf176
 v46:=zeroValue176
 t51:=underlying175
 a51:=isAgg175
 z51:=sizeOf175
 v51:=zeroValue175
 t59:=underlying194
 a59:=isAgg194
 z59:=sizeOf194
 v59:=zeroValue194
 t146:=underlying273
 a146:=isAgg273
 z146:=sizeOf273
 v146:=zeroValue273
 g1:=by kernel_rfl }
open Go.RowKit Go.Lib in
theorem Tryz.strings_Cut(s sep:ByteArray)(m:Int)(w:World)(hs:s.size<4294967281)(hm:w.cell? ⟨0,0,none⟩=some (.int .i64 m)):
 Calls Tryz.prog 92 #[.string s,.string sep] w λe w'=>e=.returned (.tuple #[.string ⟨(Lib.cut s.data.toList sep.data.toList).1.toArray⟩,.string ⟨(Lib.cut s.data.toList sep.data.toList).2.1.toArray⟩,.bool (Lib.cut s.data.toList sep.data.toList).2.2])∧∃ n,w'=w.drewN n:=Any.strings_Cut Tryz.lays145 s sep m w hs hm
def Tryz.lays146_ren:Go.Shelf.Ren:=⟨fun | 146=>212 | 221=>234 | 268=>249 | 138=>250 | 143=>209 | 195=>264 | 197=>265 | 218=>266 | 219=>159 | 260=>271 | 217=>201 | 225=>202 | 224=>203 | 267=>204 | 266=>226 | 314=>227 | n=>n,fun | 9=>9 | 31=>305 | 3=>3 | 4=>4 | 0=>0 | 105=>373 | 21=>21 | 5=>5 | 46=>176 | 119=>385 | 139=>388 | 138=>387 | 146=>273 | 51=>175 | n=>n,fun | 1=>0 | 3=>1 | 4=>2 | n=>n⟩
theorem Tryz.lays146:Go.Proofs.Lays.n146 Tryz.prog Tryz.lays146_ren:={
 mixed:=by kernel_rfl
 f138:=func250.trans (congrArg some (by kernel_rfl))
 f143:=func209.trans (congrArg some (by kernel_rfl))
 f146:=func212.trans (congrArg some (by kernel_rfl))
 f195:=func264.trans (congrArg some (by kernel_rfl))
 f197:=func265.trans (congrArg some (by kernel_rfl))
 f217:=func201.trans (congrArg some (by kernel_rfl))
 f218:=func266.trans (congrArg some (by kernel_rfl))
 f219:=func159.trans (congrArg some (by kernel_rfl))
 f221:=func234.trans (congrArg some (by kernel_rfl))
 f224:=func203.trans (congrArg some (by kernel_rfl))
 f225:=func202.trans (congrArg some (by kernel_rfl))
 f260:=func271.trans (congrArg some (by kernel_rfl))
 f266:=func226.trans (congrArg some (by kernel_rfl))
 f267:=func204.trans (congrArg some (by kernel_rfl))
 f268:=func249.trans (congrArg some (by kernel_rfl))
 f314:=func227.trans (congrArg some (by kernel_rfl))
 t0:=underlying0
 a0:=isAgg0
 z0:=sizeOf0
 v0:=zeroValue0
 t3:=underlying3
 a3:=isAgg3
 z3:=sizeOf3
 v3:=zeroValue3
 t4:=underlying4
 a4:=isAgg4
 z4:=sizeOf4
 v4:=zeroValue4
 t5:=underlying5
 a5:=isAgg5
 z5:=sizeOf5
 v5:=zeroValue5
 t9:=underlying9
 a9:=isAgg9
 z9:=sizeOf9
 v9:=zeroValue9
 t21:=underlying21
 a21:=isAgg21
 z21:=sizeOf21
 v21:=zeroValue21
 t31:=underlying305
 a31:=isAgg305
 z31:=sizeOf305
 v31:=zeroValue305
 t46:=underlying176
 a46:=isAgg176
 z46:=sizeOf176
 v46:=zeroValue176
 t51:=underlying175
 a51:=isAgg175
 z51:=sizeOf175
 v51:=zeroValue175
 t105:=underlying373
 a105:=isAgg373
 z105:=sizeOf373
 v105:=zeroValue373
 t119:=underlying385
 a119:=isAgg385
 z119:=sizeOf385
 t138:=underlying387
 a138:=isAgg387
 z138:=sizeOf387
 v138:=zeroValue387
 t139:=underlying388
 a139:=isAgg388
 z139:=sizeOf388
 v139:=zeroValue388
 t146:=underlying273
 a146:=isAgg273
 z146:=sizeOf273
 v146:=zeroValue273
 g1:=by kernel_rfl
 g3:=by kernel_rfl
 g4:=by kernel_rfl }
open Go.RowKit Go.Lib in
theorem Tryz.strings_Split(s sep:ByteArray)(m:Int)(w:World)(hs:s.size<4294967281)(hm:w.cell? ⟨0,0,none⟩=some (.int .i64 m))(h1:1≤sep.size):
 Calls Tryz.prog 212 #[.string s,.string sep] w λe w'=>
  e=.returned (.slice (some ⟨w.heap.size,0,none⟩) (Lib.countB s sep+1) (Lib.countB s sep+1))∧w'=w.alloc (.cells ((Lib.splitB sep 0 (Lib.countB s sep) s).map Value.string).toArray 9):=Any.strings_Split Tryz.lays146 (by kernel_rfl) s sep m w hs hm h1
def Tryz.lays153_ren:Go.Shelf.Ren:=⟨fun | 153=>228 | 152=>242 | 226=>243 | 227=>244 | 228=>245 | 137=>259 | 119=>260 | 224=>203 | 225=>202 | 217=>201 | 266=>226 | n=>n,fun | 9=>9 | 3=>3 | 4=>4 | 5=>5 | 21=>21 | 117=>350 | 116=>349 | 0=>0 | 46=>176 | 124=>369 | n=>n,fun | n=>n⟩
theorem Tryz.lays153:Go.Proofs.Lays.n153 Tryz.prog Tryz.lays153_ren:={
 mixed:=by kernel_rfl
 f119:=func260.trans (congrArg some (by kernel_rfl))
 f137:=func259.trans (congrArg some (by kernel_rfl))
 f152:=func242.trans (congrArg some (by kernel_rfl))
 f153:=func228.trans (congrArg some (by kernel_rfl))
 f217:=func201.trans (congrArg some (by kernel_rfl))
 f224:=func203.trans (congrArg some (by kernel_rfl))
 f225:=func202.trans (congrArg some (by kernel_rfl))
 f226:=func243.trans (congrArg some (by kernel_rfl))
 f227:=func244.trans (congrArg some (by kernel_rfl))
 f228:=func245.trans (congrArg some (by kernel_rfl))
 f266:=func226.trans (congrArg some (by kernel_rfl))
 t0:=underlying0
 a0:=isAgg0
 z0:=sizeOf0
 v0:=zeroValue0
 t3:=underlying3
 a3:=isAgg3
 z3:=sizeOf3
 v3:=zeroValue3
 t4:=underlying4
 a4:=isAgg4
 z4:=sizeOf4
 v4:=zeroValue4
 t5:=underlying5
 a5:=isAgg5
 z5:=sizeOf5
 v5:=zeroValue5
 t9:=underlying9
 a9:=isAgg9
 z9:=sizeOf9
 v9:=zeroValue9
 t21:=underlying21
 a21:=isAgg21
 z21:=sizeOf21
 v21:=zeroValue21
 t46:=underlying176
 a46:=isAgg176
 z46:=sizeOf176
 v46:=zeroValue176
 t116:=underlying349
 a116:=isAgg349
 z116:=sizeOf349
 t117:=underlying350
 a117:=isAgg350
 z117:=sizeOf350
 v117:=zeroValue350
 t124:=underlying369
 a124:=isAgg369
 z124:=sizeOf369
 v124:=zeroValue369 }
open Go.RowKit Go.Lib in
theorem Tryz.strings_IndexAny_laid(s chars:ByteArray)(w:World)(hs:s.size<4294967281)(hcs:chars.size<4294967281)(has:∀(j:Nat) b,s.data.toList[j]?=some b->b.toNat<128)(hac:∀(j:Nat) b,chars.data.toList[j]?=some b->b.toNat<128):
 Calls Tryz.prog 228 #[.string s,.string chars] w λe w'=>e=.returned (.int .i64 (Lib.indexAny s.data.toList chars.data.toList))∧Below w.heap.size w w':=Any.strings_IndexAny_laid Tryz.lays153 (by kernel_rfl) s chars w hs hcs has hac
end Go.Proofs
