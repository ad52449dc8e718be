/- The shelf's contracts at this dump, in plain words (the kit's lay-plain.mjs wrote them): no condition. -/
import Derived.Shelf.Lays7
import Derived.Ground.Names7Prog
import Derived.Test.YthbeplmihjhoeaaDoorProg
namespace Go.Proofs
open Go.Shelf
def Tryd.lays7_32_ren : Go.Shelf.Ren := ⟨fun | 32 => 191 | 49 => 210 | n => n, fun | 30 => 54 | 21 => 21 | 3 => 3 | 0 => 0 | 5 => 5 | 4 => 4 | 33 => 201 | 66 => 249 | 25 => 196 | 69 => 252 | 68 => 251 | n => n, fun | 2 => 0 | 3 => 1 | n => n⟩
theorem Tryd.lays7_32 : Go.Proofs.Lays7.n32 Tryd.prog Tryd.lays7_32_ren := {
  mixed := by kernel_rfl
  f32 := Tryd.func191.trans (congrArg some (by kernel_rfl))
  f49 := Tryd.func210.trans (congrArg some (by kernel_rfl))
  t0 := Tryd.underlying0
  a0 := Tryd.isAgg0
  z0 := Tryd.sizeOf0
  v0 := Tryd.zeroValue0
  i0 := by kernel_rfl
  t3 := Tryd.underlying3
  a3 := Tryd.isAgg3
  z3 := Tryd.sizeOf3
  v3 := Tryd.zeroValue3
  i3 := by kernel_rfl
  t4 := Tryd.underlying4
  a4 := Tryd.isAgg4
  z4 := Tryd.sizeOf4
  v4 := Tryd.zeroValue4
  i4 := by kernel_rfl
  t5 := Tryd.underlying5
  a5 := Tryd.isAgg5
  z5 := Tryd.sizeOf5
  v5 := Tryd.zeroValue5
  i5 := by kernel_rfl
  t21 := Tryd.underlying21
  a21 := Tryd.isAgg21
  z21 := Tryd.sizeOf21
  v21 := Tryd.zeroValue21
  i21 := by kernel_rfl
  t25 := Tryd.underlying196
  a25 := Tryd.isAgg196
  z25 := Tryd.sizeOf196
  v25 := Tryd.zeroValue196
  i25 := by kernel_rfl
  t30 := Tryd.underlying54
  a30 := Tryd.isAgg54
  z30 := Tryd.sizeOf54
  v30 := Tryd.zeroValue54
  i30 := by kernel_rfl
  t33 := Tryd.underlying201
  a33 := Tryd.isAgg201
  z33 := Tryd.sizeOf201
  v33 := Tryd.zeroValue201
  i33 := by kernel_rfl
  t66 := Tryd.underlying249
  a66 := Tryd.isAgg249
  z66 := Tryd.sizeOf249
  t68 := Tryd.underlying251
  a68 := Tryd.isAgg251
  z68 := Tryd.sizeOf251
  v68 := Tryd.zeroValue251
  i68 := by kernel_rfl
  t69 := Tryd.underlying252
  a69 := Tryd.isAgg252
  z69 := Tryd.sizeOf252
  v69 := Tryd.zeroValue252
  i69 := by kernel_rfl
  g2 := by kernel_rfl
  g3 := by kernel_rfl }
end Go.Proofs
