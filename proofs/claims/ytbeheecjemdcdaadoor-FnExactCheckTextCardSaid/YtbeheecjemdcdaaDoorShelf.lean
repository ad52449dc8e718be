/- The shelf's contracts at this dump, in plain words (the kit's lay-plain.mjs wrote them): no condition. -/
import Derived.Shelf.Lays7
import Derived.Ground.Names7Prog
import Derived.Test.YtbeheecjemdcdaaDoorProg
namespace Go.Proofs
open Go.Shelf
def Tryd.lays7_32_ren : Go.Shelf.Ren := ⟨fun | 32 => 9 | 49 => 12 | n => n, fun | 30 => 22 | 21 => 21 | 3 => 3 | 0 => 0 | 5 => 5 | 4 => 4 | 33 => 29 | 66 => 33 | 25 => 34 | 69 => 37 | 68 => 36 | n => n, fun | 2 => 0 | 3 => 1 | n => n⟩
theorem Tryd.lays7_32 : Go.Proofs.Lays7.n32 Tryd.prog Tryd.lays7_32_ren := {
  mixed := by kernel_rfl
  f32 := Tryd.func9.trans (congrArg some (by kernel_rfl))
  f49 := Tryd.func12.trans (congrArg some (by kernel_rfl))
  t0 := Tryd.underlying0
  a0 := Tryd.isAgg0
  z0 := Tryd.sizeOf0
  v0 := Tryd.zeroValue0
  i0 := by kernel_rfl
  t3 := Tryd.underlying3
  a3 := Tryd.isAgg3
  z3 := Tryd.sizeOf3
  v3 := Tryd.zeroValue3
  i3 := by kernel_rfl
  t4 := Tryd.underlying4
  a4 := Tryd.isAgg4
  z4 := Tryd.sizeOf4
  v4 := Tryd.zeroValue4
  i4 := by kernel_rfl
  t5 := Tryd.underlying5
  a5 := Tryd.isAgg5
  z5 := Tryd.sizeOf5
  v5 := Tryd.zeroValue5
  i5 := by kernel_rfl
  t21 := Tryd.underlying21
  a21 := Tryd.isAgg21
  z21 := Tryd.sizeOf21
  v21 := Tryd.zeroValue21
  i21 := by kernel_rfl
  t25 := Tryd.underlying34
  a25 := Tryd.isAgg34
  z25 := Tryd.sizeOf34
  v25 := Tryd.zeroValue34
  i25 := by kernel_rfl
  t30 := Tryd.underlying22
  a30 := Tryd.isAgg22
  z30 := Tryd.sizeOf22
  v30 := Tryd.zeroValue22
  i30 := by kernel_rfl
  t33 := Tryd.underlying29
  a33 := Tryd.isAgg29
  z33 := Tryd.sizeOf29
  v33 := Tryd.zeroValue29
  i33 := by kernel_rfl
  t66 := Tryd.underlying33
  a66 := Tryd.isAgg33
  z66 := Tryd.sizeOf33
  t68 := Tryd.underlying36
  a68 := Tryd.isAgg36
  z68 := Tryd.sizeOf36
  v68 := Tryd.zeroValue36
  i68 := by kernel_rfl
  t69 := Tryd.underlying37
  a69 := Tryd.isAgg37
  z69 := Tryd.sizeOf37
  v69 := Tryd.zeroValue37
  i69 := by kernel_rfl
  g2 := by kernel_rfl
  g3 := by kernel_rfl }
end Go.Proofs
