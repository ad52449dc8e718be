/- The shelf's contracts at this dump, in plain words (the kit's lay-plain.mjs wrote them): no condition. -/
import Derived.Shelf.Lays7
import Derived.Ground.Names7Prog
import Derived.Test.YtibipjpmeekifaaDoorProg
namespace Go.Proofs
open Go.Shelf
def Tryd.lays7_32_ren : Go.Shelf.Ren := ⟨fun | 32 => 52 | 49 => 55 | n => n, fun | 30 => 41 | 21 => 21 | 3 => 3 | 0 => 0 | 5 => 5 | 4 => 4 | 33 => 78 | 66 => 81 | 25 => 82 | 69 => 85 | 68 => 84 | n => n, fun | 2 => 1 | 3 => 2 | n => n⟩
theorem Tryd.lays7_32 : Go.Proofs.Lays7.n32 Tryd.prog Tryd.lays7_32_ren := {
  mixed := by kernel_rfl
  f32 := Tryd.func52.trans (congrArg some (by kernel_rfl))
  f49 := Tryd.func55.trans (congrArg some (by kernel_rfl))
  t0 := Tryd.underlying0
  a0 := Tryd.isAgg0
  z0 := Tryd.sizeOf0
  v0 := Tryd.zeroValue0
  i0 := by kernel_rfl
  t3 := Tryd.underlying3
  a3 := Tryd.isAgg3
  z3 := Tryd.sizeOf3
  v3 := Tryd.zeroValue3
  i3 := by kernel_rfl
  t4 := Tryd.underlying4
  a4 := Tryd.isAgg4
  z4 := Tryd.sizeOf4
  v4 := Tryd.zeroValue4
  i4 := by kernel_rfl
  t5 := Tryd.underlying5
  a5 := Tryd.isAgg5
  z5 := Tryd.sizeOf5
  v5 := Tryd.zeroValue5
  i5 := by kernel_rfl
  t21 := Tryd.underlying21
  a21 := Tryd.isAgg21
  z21 := Tryd.sizeOf21
  v21 := Tryd.zeroValue21
  i21 := by kernel_rfl
  t25 := Tryd.underlying82
  a25 := Tryd.isAgg82
  z25 := Tryd.sizeOf82
  v25 := Tryd.zeroValue82
  i25 := by kernel_rfl
  t30 := Tryd.underlying41
  a30 := Tryd.isAgg41
  z30 := Tryd.sizeOf41
  v30 := Tryd.zeroValue41
  i30 := by kernel_rfl
  t33 := Tryd.underlying78
  a33 := Tryd.isAgg78
  z33 := Tryd.sizeOf78
  v33 := Tryd.zeroValue78
  i33 := by kernel_rfl
  t66 := Tryd.underlying81
  a66 := Tryd.isAgg81
  z66 := Tryd.sizeOf81
  t68 := Tryd.underlying84
  a68 := Tryd.isAgg84
  z68 := Tryd.sizeOf84
  v68 := Tryd.zeroValue84
  i68 := by kernel_rfl
  t69 := Tryd.underlying85
  a69 := Tryd.isAgg85
  z69 := Tryd.sizeOf85
  v69 := Tryd.zeroValue85
  i69 := by kernel_rfl
  g2 := by kernel_rfl
  g3 := by kernel_rfl }
end Go.Proofs
