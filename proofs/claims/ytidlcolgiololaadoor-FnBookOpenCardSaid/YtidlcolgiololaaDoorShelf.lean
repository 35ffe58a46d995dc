/- Proved: the numbers under which this program bears some functions of Go's library, and that it bears them, one fact a field; no condition. Written by a tool of the kit at this program. -/
import Derived.Ground.NamesProg
import Derived.Ground.SlgfProg
import Derived.Shelf.SlGeneric
import Derived.Shelf.SlicesE.IndexFunc
import Derived.Shelf.Strings.SlTrimAscii
import Derived.Test.YtidlcolgiololaaDoorProg
namespace Go.Proofs
open Go.Shelf
def YtidlcolgiololaaDoor.lays160_ren : Go.Shelf.Ren := ⟨fun | 160 => 192 | 232 => 222 | 231 => 221 | 227 => 223 | 234 => 225 | 233 => 224 | 236 => 227 | 235 => 226 | 228 => 250 | 271 => 253 | 151 => 252 | 197 => 251 | 120 => 279 | 152 => 278 | 260 => 277 | 137 => 291 | 119 => 292 | 224 => 257 | 225 => 256 | 217 => 255 | 266 => 280 | n => n, fun | 9 => 9 | 4 => 4 | 3 => 3 | 5 => 5 | 117 => 236 | 116 => 235 | 0 => 0 | 124 => 239 | 21 => 21 | 105 => 257 | 46 => 189 | 119 => 289 | 139 => 292 | 138 => 291 | n => n, fun | 3 => 6 | 4 => 7 | n => n⟩
theorem YtidlcolgiololaaDoor.lays160 : Go.Proofs.Lays.n160 Tryd.prog YtidlcolgiololaaDoor.lays160_ren := {
  mixed := by kernel_rfl
  f119 := Tryd.func292.trans (congrArg some (by kernel_rfl))
  f120 := Tryd.func279.trans (congrArg some (by kernel_rfl))
  f137 := Tryd.func291.trans (congrArg some (by kernel_rfl))
  f151 := Tryd.func252.trans (congrArg some (by kernel_rfl))
  f152 := Tryd.func278.trans (congrArg some (by kernel_rfl))
  f160 := Tryd.func192.trans (congrArg some (by kernel_rfl))
  f197 := Tryd.func251.trans (congrArg some (by kernel_rfl))
  f217 := Tryd.func255.trans (congrArg some (by kernel_rfl))
  f224 := Tryd.func257.trans (congrArg some (by kernel_rfl))
  f225 := Tryd.func256.trans (congrArg some (by kernel_rfl))
  f227 := Tryd.func223.trans (congrArg some (by kernel_rfl))
  f228 := Tryd.func250.trans (congrArg some (by kernel_rfl))
  f231 := Tryd.func221.trans (congrArg some (by kernel_rfl))
  f232 := Tryd.func222.trans (congrArg some (by kernel_rfl))
  f233 := Tryd.func224.trans (congrArg some (by kernel_rfl))
  f234 := Tryd.func225.trans (congrArg some (by kernel_rfl))
  f235 := Tryd.func226.trans (congrArg some (by kernel_rfl))
  f236 := Tryd.func227.trans (congrArg some (by kernel_rfl))
  f260 := Tryd.func277.trans (congrArg some (by kernel_rfl))
  f266 := Tryd.func280.trans (congrArg some (by kernel_rfl))
  f271 := Tryd.func253.trans (congrArg some (by kernel_rfl))
  t0 := Tryd.underlying0
  a0 := Tryd.isAgg0
  z0 := Tryd.sizeOf0
  v0 := Tryd.zeroValue0
  t3 := Tryd.underlying3
  a3 := Tryd.isAgg3
  z3 := Tryd.sizeOf3
  v3 := Tryd.zeroValue3
  t4 := Tryd.underlying4
  a4 := Tryd.isAgg4
  z4 := Tryd.sizeOf4
  v4 := Tryd.zeroValue4
  t5 := Tryd.underlying5
  a5 := Tryd.isAgg5
  z5 := Tryd.sizeOf5
  v5 := Tryd.zeroValue5
  t9 := Tryd.underlying9
  a9 := Tryd.isAgg9
  z9 := Tryd.sizeOf9
  v9 := Tryd.zeroValue9
  t21 := Tryd.underlying21
  a21 := Tryd.isAgg21
  z21 := Tryd.sizeOf21
  v21 := Tryd.zeroValue21
  t46 := Tryd.underlying189
  a46 := Tryd.isAgg189
  z46 := Tryd.sizeOf189
  v46 := Tryd.zeroValue189
  t105 := Tryd.underlying257
  a105 := Tryd.isAgg257
  z105 := Tryd.sizeOf257
  v105 := Tryd.zeroValue257
  t116 := Tryd.underlying235
  a116 := Tryd.isAgg235
  z116 := Tryd.sizeOf235
  t117 := Tryd.underlying236
  a117 := Tryd.isAgg236
  z117 := Tryd.sizeOf236
  v117 := Tryd.zeroValue236
  t119 := Tryd.underlying289
  a119 := Tryd.isAgg289
  z119 := Tryd.sizeOf289
  t124 := Tryd.underlying239
  a124 := Tryd.isAgg239
  z124 := Tryd.sizeOf239
  v124 := Tryd.zeroValue239
  t138 := Tryd.underlying291
  a138 := Tryd.isAgg291
  z138 := Tryd.sizeOf291
  v138 := Tryd.zeroValue291
  t139 := Tryd.underlying292
  a139 := Tryd.isAgg292
  z139 := Tryd.sizeOf292
  v139 := Tryd.zeroValue292
  g3 := by kernel_rfl
  g4 := by kernel_rfl }
def YtidlcolgiololaaDoor.laysH8_ren : Go.Shelf.Ren := ⟨fun | 8 => 135 | 6 => 187 | n => n, fun | 22 => 22 | 23 => 2 | 25 => 113 | 4 => 4 | 3 => 3 | 0 => 0 | n => n, fun | n => n⟩
theorem YtidlcolgiololaaDoor.laysH8 : Go.Proofs.SlLaysH.n8 Tryd.prog YtidlcolgiololaaDoor.laysH8_ren := {
  mixed := by kernel_rfl
  f6 := ⟨Tryd.f187.name, by decide, Tryd.func187.trans (congrArg some (by kernel_rfl))⟩
  f8 := ⟨Tryd.f135.name, by decide, Tryd.func135.trans (congrArg some (by kernel_rfl))⟩
  t0 := Tryd.underlying0
  a0 := Tryd.isAgg0
  z0 := Tryd.sizeOf0
  v0 := Tryd.zeroValue0
  t3 := Tryd.underlying3
  a3 := Tryd.isAgg3
  z3 := Tryd.sizeOf3
  v3 := Tryd.zeroValue3
  t4 := Tryd.underlying4
  a4 := Tryd.isAgg4
  z4 := Tryd.sizeOf4
  v4 := Tryd.zeroValue4
  t22 := Tryd.underlying22
  a22 := Tryd.isAgg22
  z22 := Tryd.sizeOf22
  v22 := Tryd.zeroValue22
  a23 := Tryd.isAgg2
  z23 := Tryd.sizeOf2
  t25 := Tryd.underlying113
  a25 := Tryd.isAgg113
  z25 := Tryd.sizeOf113
  v25 := Tryd.zeroValue113 }
end Go.Proofs
