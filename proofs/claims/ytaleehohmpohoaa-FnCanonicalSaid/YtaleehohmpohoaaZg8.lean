/- Laws that the proof stands on. -/
import Derived.Test.YtaleehohmpohoaaZAl
import Derived.Shelf.LaysM
import Derived.Shelf.Lays2
import Derived.Ground.Names2Prog
import Derived.Shelf.Slices.ReverseS
import Derived.Test.YtaleehohmpohoaaProg
set_option linter.all false
namespace Go.Proofs.Ytaleehohmpohoaa
open Go.Shelf
set_option maxRecDepth 100000
def Try.lays17_ren:Go.Shelf.Ren:=⟨fun | 17=>90 | n=>n,fun | 24=>135 | 9=>9 | 3=>3 | 4=>4 | 0=>0 | n=>n,fun | n=>n⟩
theorem Try.lays17:Go.Proofs.Lays2.n17 Try.prog Try.lays17_ren:={
  mixed:=by kernel_rfl
  f17:=Try.func90.trans (congrArg some (by kernel_rfl))
  t0:=Try.underlying0
  a0:=Try.isAgg0
  z0:=Try.sizeOf0
  v0:=Try.zeroValue0
  t3:=Try.underlying3
  a3:=Try.isAgg3
  z3:=Try.sizeOf3
  v3:=Try.zeroValue3
  t4:=Try.underlying4
  a4:=Try.isAgg4
  z4:=Try.sizeOf4
  v4:=Try.zeroValue4
  t9:=Try.underlying9
  a9:=Try.isAgg9
  z9:=Try.sizeOf9
  v9:=Try.zeroValue9
  t24:=Try.underlying135
  a24:=Try.isAgg135
  z24:=Try.sizeOf135
  v24:=Try.zeroValue135 }
def Try.lays156_ren:Go.Shelf.Ren:=⟨fun | 156=>91 | 165=>107 | 166=>108 | 169=>89 | 240=>106 | 241=>117 | 276=>116 | 277=>124 | n=>n,fun | 31=>135 | 9=>9 | 3=>3 | 4=>4 | 0=>0 | 20=>20 | 72=>141 | 76=>164 | 70=>139 | 37=>46 | 75=>143 | 127=>162 | 164=>170 | 5=>5 | 80=>145 | n=>n,fun | n=>n⟩
theorem Try.lays156:Go.Proofs.Lays.n156 Try.prog Try.lays156_ren:={
  mixed:=by kernel_rfl
  f156:=Try.func91.trans (congrArg some (by kernel_rfl))
  f165:=Try.func107.trans (congrArg some (by kernel_rfl))
  f166:=Try.func108.trans (congrArg some (by kernel_rfl))
  f169:=Try.func89.trans (congrArg some (by kernel_rfl))
  f240:=Try.func106.trans (congrArg some (by kernel_rfl))
  f241:=Try.func117.trans (congrArg some (by kernel_rfl))
  f276:=Try.func116.trans (congrArg some (by kernel_rfl))
  f277:=Try.func124.trans (congrArg some (by kernel_rfl))
  t0:=Try.underlying0
  a0:=Try.isAgg0
  z0:=Try.sizeOf0
  v0:=Try.zeroValue0
  t3:=Try.underlying3
  a3:=Try.isAgg3
  z3:=Try.sizeOf3
  v3:=Try.zeroValue3
  t4:=Try.underlying4
  a4:=Try.isAgg4
  z4:=Try.sizeOf4
  v4:=Try.zeroValue4
  t9:=Try.underlying9
  a9:=Try.isAgg9
  z9:=Try.sizeOf9
  v9:=Try.zeroValue9
  t20:=Try.underlying20
  a20:=Try.isAgg20
  z20:=Try.sizeOf20
  v20:=Try.zeroValue20
  t31:=Try.underlying135
  a31:=Try.isAgg135
  z31:=Try.sizeOf135
  v31:=Try.zeroValue135
  t37:=Try.underlying46
  a37:=Try.isAgg46
  z37:=Try.sizeOf46
  v37:=Try.zeroValue46
  t70:=Try.underlying139
  a70:=Try.isAgg139
  z70:=Try.sizeOf139
  v70:=Try.zeroValue139
  t72:=Try.underlying141
  a72:=Try.isAgg141
  z72:=Try.sizeOf141
  v72:=Try.zeroValue141
  t75:=Try.underlying143
  a75:=Try.isAgg143
  z75:=Try.sizeOf143
  v75:=Try.zeroValue143
  t76:=Try.underlying164
  a76:=Try.isAgg164
  z76:=Try.sizeOf164
  v76:=Try.zeroValue164
  t127:=Try.underlying162
  a127:=Try.isAgg162
  z127:=Try.sizeOf162
  v127:=Try.zeroValue162
  t164:=Try.underlying170
  a164:=Try.isAgg170
  z164:=Try.sizeOf170
  v164:=Try.zeroValue170 }
end Go.Proofs.Ytaleehohmpohoaa
