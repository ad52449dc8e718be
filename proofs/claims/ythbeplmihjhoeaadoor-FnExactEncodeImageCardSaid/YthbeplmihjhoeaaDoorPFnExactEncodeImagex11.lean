-- made by wip/tools/myprint.py (this session's own program, over the kit's printer)
import Derived.Test.YthbeplmihjhoeaaDoorPFnExactEncodeImagex0
import Derived.Test.YthbeplmihjhoeaaDoorPFnExactEncodeImagex9
import Derived.Test.YthbeplmihjhoeaaDoorPFnExactEncodeImagex10
namespace Go.Proofs.YthbeplmihjhoeaaDoor.PFnExactEncodeImage
open Go.RowKit Go.Proofs.YthbeplmihjhoeaaDoorW.PrintWords Go.Proofs.YthbeplmihjhoeaaDoorW.PrintLast Go.Proofs.YthbeplmihjhoeaaDoorW.PrintMore
attribute [local go_sem] max2_int min2_int max_two min_two max_three min_three max_four min_four   -- for this text's walks alone
set_option linter.unusedVariables false
set_option linter.unusedSimpArgs false

/-! ### spec_l7image: function 89 -/
mutual
def spec_l7image.l0 : Nat → List Int → Int → Int → Int → List (S120) → List (List Int) → List (List Int) → Option (List Int)
 | 0, _, _, _, _, _, _, _ => none
 | k + 1, x3, x4, x235000, x235001, x235002, x235003, x235004 => if x4 < (x235002.length : Int) then (if 0 ≤ x4 then (if x3.length < 140737488355328 then ((some (x3 ++ [((rd_T120 x235002 x4).f1) % 256] : List Int)).bind fun y258 => ((spec_l7little.f k ((rd_T120 x235002 x4).f2) 2).bind fun t261 => (if y258.length + t261.length < 140737488355328 then ((some (y258 ++ t261 : List Int)).bind fun y264 => (if y264.length < 140737488355328 then ((some (y264 ++ [((((rd_T120 x235002 x4).f0).length : Int)) % 256] : List Int)).bind fun y267 => (if y267.length + ((rd_T120 x235002 x4).f0).length < 140737488355328 then (spec_l7image.l0 k (y267 ++ ((rd_T120 x235002 x4).f0)) (wrap64 (x4 + 1)) x235000 x235001 x235002 x235003 x235004) else (none))) else (none))) else (none)))) else (none)) else (none)) else (spec_l7image.l1 k x3 0 x235000 x235001 x235002 x235003 x235004)
def spec_l7image.l1 : Nat → List Int → Int → Int → Int → List (S120) → List (List Int) → List (List Int) → Option (List Int)
 | 0, _, _, _, _, _, _, _ => none
 | k + 1, x3, x6, x235000, x235001, x235002, x235003, x235004 => if x6 < (x235002.length : Int) then (if 0 ≤ x6 then (if x6 < (x235004.length : Int) then ((spec_PackHops.f k (rd_L4 x235004 x6)).bind fun bt281 => (if x3.length + bt281.1.length < 140737488355328 then (spec_l7image.l2 k (x3 ++ bt281.1) x6 0 x235000 x235001 x235002 x235003 x235004) else (none))) else (none)) else (none)) else ((spec_Crc32.f k x3).bind fun t273 => ((spec_l7little.f k (wrap64 (t273)) 4).bind fun t274 => (if x3.length + t274.length < 140737488355328 then (some (x3 ++ t274)) else (none))))
def spec_l7image.l2 : Nat → List Int → Int → Int → Int → Int → List (S120) → List (List Int) → List (List Int) → Option (List Int)
 | 0, _, _, _, _, _, _, _, _ => none
 | k + 1, x3, x6, x9, x235000, x235001, x235002, x235003, x235004 => if 0 ≤ x6 then (if x6 < (x235003.length : Int) then (if x9 < ((rd_L4 x235003 x6).length : Int) then (if 0 ≤ x9 then (if (rd (rd_L4 x235003 x6) x9) < 0 then ((spec_l7little.f k 65535 2).bind fun t291 => (if x3.length + t291.length < 140737488355328 then (spec_l7image.l2 k (x3 ++ t291) x6 (wrap64 (x9 + 1)) x235000 x235001 x235002 x235003 x235004) else (none))) else ((spec_l7little.f k (rd (rd_L4 x235003 x6) x9) 2).bind fun t297 => (if x3.length + t297.length < 140737488355328 then (spec_l7image.l2 k (x3 ++ t297) x6 (wrap64 (x9 + 1)) x235000 x235001 x235002 x235003 x235004) else (none)))) else (none)) else (spec_l7image.l1 k x3 (wrap64 (x6 + 1)) x235000 x235001 x235002 x235003 x235004)) else (none)) else (none)
end
def spec_l7image.f (k : Nat) (a0_0 : Int) (a0_1 : Int) (l0_2 : List (S120)) (l0_3 : List (List Int)) (l0_4 : List (List Int)) : Option (List Int) := (some (([87, 72, 76, 49] : List Int) : List Int)).bind fun y235 => ((spec_l7little.f k a0_0 2).bind fun t238 => (if y235.length + t238.length < 140737488355328 then ((some (y235 ++ t238 : List Int)).bind fun y241 => ((spec_l7little.f k a0_1 2).bind fun t244 => (if y241.length + t244.length < 140737488355328 then ((some (y241 ++ t244 : List Int)).bind fun y247 => ((spec_l7little.f k (l0_2.length : Int) 2).bind fun t250 => (if y247.length + t250.length < 140737488355328 then (spec_l7image.l0 k (y247 ++ t250) 0 a0_0 a0_1 l0_2 l0_3 l0_4) else (none)))) else (none)))) else (none)))
theorem spec_l7image.mono_l : ∀ k, (∀ y0 y1 y2 y3 y4 y5 y6, LeO (spec_l7image.l0 k y0 y1 y2 y3 y4 y5 y6) (spec_l7image.l0 (k + 1) y0 y1 y2 y3 y4 y5 y6)) ∧ (∀ y0 y1 y2 y3 y4 y5 y6, LeO (spec_l7image.l1 k y0 y1 y2 y3 y4 y5 y6) (spec_l7image.l1 (k + 1) y0 y1 y2 y3 y4 y5 y6)) ∧ (∀ y0 y1 y2 y3 y4 y5 y6 y7, LeO (spec_l7image.l2 k y0 y1 y2 y3 y4 y5 y6 y7) (spec_l7image.l2 (k + 1) y0 y1 y2 y3 y4 y5 y6 y7))
 | 0 => ⟨fun _ _ _ _ _ _ _ r h => by simp [spec_l7image.l0] at h, fun _ _ _ _ _ _ _ r h => by simp [spec_l7image.l1] at h, fun _ _ _ _ _ _ _ _ r h => by simp [spec_l7image.l2] at h⟩
 | k + 1 => by
  obtain ⟨ih0, ih1, ih2⟩ := spec_l7image.mono_l k
  refine ⟨?_, ?_, ?_⟩
  ·intro y0 y1 y2 y3 y4 y5 y6
   unfold spec_l7image.l0
   have m1 := @spec_Crc32.mono
   have m2 := @spec_PackHops.mono
   have m3 := @spec_l7little.mono
   exact zm
  ·intro y0 y1 y2 y3 y4 y5 y6
   unfold spec_l7image.l1
   have m1 := @spec_Crc32.mono
   have m2 := @spec_PackHops.mono
   have m3 := @spec_l7little.mono
   exact zm
  ·intro y0 y1 y2 y3 y4 y5 y6 y7
   unfold spec_l7image.l2
   have m1 := @spec_Crc32.mono
   have m2 := @spec_PackHops.mono
   have m3 := @spec_l7little.mono
   exact zm
theorem spec_l7image.mono : ∀ a0 a1 a2 a3 a4 k, LeO (spec_l7image.f k a0 a1 a2 a3 a4) (spec_l7image.f (k + 1) a0 a1 a2 a3 a4) := by
 intro a0 a1 a2 a3 a4 k
 obtain ⟨ih0, ih1, ih2⟩ := spec_l7image.mono_l k
 unfold spec_l7image.f
 have m1 := @spec_Crc32.mono
 have m2 := @spec_PackHops.mono
 have m3 := @spec_l7little.mono
 exact zm
theorem spec_l7little.grows : ∀ (k : Nat) (x n i : Int) (out r : List Int), spec_l7little.l0 k x n out i = some r → out.length ≤ r.length ∧ (i < n → out.length < r.length) := by
 intro k
 induction k with
 | zero => intro x n i out r h; exact absurd h (by simp [spec_l7little.l0])
 | succ k ih =>
  intro x n i out r h
  simp only [spec_l7little.l0] at h
  by_cases c : i < n
  ·rw [if_pos c] at h
   by_cases d : out.length < 140737488355328
   ·rw [if_pos d] at h
    have := (ih _ _ _ _ _ h).1
    rw [List.length_append, List.length_singleton] at this
    exact ⟨by omega, fun _ => by omega⟩
   ·rw [if_neg d] at h; cases h
  ·rw [if_neg c] at h
   obtain rfl := Option.some.inj h
   exact ⟨Nat.le_refl _, fun q => absurd q c⟩
set_option maxHeartbeats 8000000 in
set_option maxRecDepth 100000 in
theorem spec_l7image.calls (k : Nat) (a0_0 : Int) (a0_1 : Int) (A0_2 : Option Addr) (c0_2 : Nat) (l0_2 : List (S120)) (A0_3 : Option Addr) (c0_3 : Nat) (l0_3 : List (List Int)) (A0_4 : Option Addr) (c0_4 : Nat) (l0_4 : List (List Int)) (r : List Int) (w : World) (hr0_2 : Kd.C k120 w A0_2 l0_2.length l0_2) (hc0_2 : l0_2.length ≤ c0_2) (hr0_3 : Kd.C (Kd.slice 3 (Kd.int .i64)) w A0_3 l0_3.length l0_3) (hc0_3 : l0_3.length ≤ c0_3) (hr0_4 : Kd.C (Kd.slice 3 (Kd.int .i64)) w A0_4 l0_4.length l0_4) (hc0_4 : l0_4.length ≤ c0_4) (h : spec_l7image.f k a0_0 a0_1 l0_2 l0_3 l0_4 = some r) :
  Calls Tryd.prog 89 #[.agg #[.int .i64 a0_0, .int .i64 a0_1, .slice A0_2 l0_2.length c0_2, .slice A0_3 l0_3.length c0_3, .slice A0_4 l0_4.length c0_4]] w fun e w' => ∃ v0_ : Value, e = .returned (v0_) ∧ Kd.R (Kd.int .u8) 5 w' w.heap.size (fun _ => True) v0_ r ∧ Below w.heap.size w w' := by
 have hu47 := Tryd.underlying47
 have hu120 := Tryd.underlying120
 have HR0_2 := zA hr0_2
 have HC0_2 := zA hc0_2
 clear hr0_2 hc0_2
 have HR0_3 := zA hr0_3
 have HC0_3 := zA hc0_3
 clear hr0_3 hc0_3
 have HR0_4 := zA hr0_4
 have HC0_4 := zA hc0_4
 clear hr0_4 hc0_4
 have HB := zA (Below.refl w.heap.size w)
 have H : ((some (([87, 72, 76, 49] : List Int) : List Int)).bind fun y235 => ((spec_l7little.f k a0_0 2).bind fun t238 => (if y235.length + t238.length < 140737488355328 then ((some (y235 ++ t238 : List Int)).bind fun y241 => ((spec_l7little.f k a0_1 2).bind fun t244 => (if y241.length + t244.length < 140737488355328 then ((some (y241 ++ t244 : List Int)).bind fun y247 => ((spec_l7little.f k (l0_2.length : Int) 2).bind fun t250 => (if y247.length + t250.length < 140737488355328 then (spec_l7image.l0 k (y247 ++ t250) 0 a0_0 a0_1 l0_2 l0_3 l0_4) else (none)))) else (none)))) else (none)))) = some r := h
 clear h
 obtain ⟨y235, hy235⟩ : ∃ y_ : List Int, y_ = (([87, 72, 76, 49] : List Int)) := ⟨_, rfl⟩
 replace H : ((spec_l7little.f k a0_0 2).bind fun t238 => (if y235.length + t238.length < 140737488355328 then ((some (y235 ++ t238 : List Int)).bind fun y241 => ((spec_l7little.f k a0_1 2).bind fun t244 => (if y241.length + t244.length < 140737488355328 then ((some (y241 ++ t244 : List Int)).bind fun y247 => ((spec_l7little.f k (l0_2.length : Int) 2).bind fun t250 => (if y247.length + t250.length < 140737488355328 then (spec_l7image.l0 k (y247 ++ t250) 0 a0_0 a0_1 l0_2 l0_3 l0_4) else (none)))) else (none)))) else (none))) = some r := zh hy235
 have Ny235 := zA hy235
 clear hy235
 replace H := Option.bind_eq_some_iff.mp H
 obtain ⟨t238, A20, H⟩ := H
 replace H : (if y235.length + t238.length < 140737488355328 then ((some (y235 ++ t238 : List Int)).bind fun y241 => ((spec_l7little.f k a0_1 2).bind fun t244 => (if y241.length + t244.length < 140737488355328 then ((some (y241 ++ t244 : List Int)).bind fun y247 => ((spec_l7little.f k (l0_2.length : Int) 2).bind fun t250 => (if y247.length + t250.length < 140737488355328 then (spec_l7image.l0 k (y247 ++ t250) 0 a0_0 a0_1 l0_2 l0_3 l0_4) else (none)))) else (none)))) else (none)) = some r := H
 have A2 := zA A20
 clear A20
 by_cases c3 : y235.length + t238.length < 140737488355328
 ·rw [if_pos c3] at H
  have LMc3 := zA c3
  clear c3
  obtain ⟨y241, hy241⟩ : ∃ y_ : List Int, y_ = (y235 ++ t238) := ⟨_, rfl⟩
  replace H : ((spec_l7little.f k a0_1 2).bind fun t244 => (if y241.length + t244.length < 140737488355328 then ((some (y241 ++ t244 : List Int)).bind fun y247 => ((spec_l7little.f k (l0_2.length : Int) 2).bind fun t250 => (if y247.length + t250.length < 140737488355328 then (spec_l7image.l0 k (y247 ++ t250) 0 a0_0 a0_1 l0_2 l0_3 l0_4) else (none)))) else (none))) = some r := zh hy241
  have Ny241 := zA hy241
  clear hy241
  replace H := Option.bind_eq_some_iff.mp H
  obtain ⟨t244, A40, H⟩ := H
  replace H : (if y241.length + t244.length < 140737488355328 then ((some (y241 ++ t244 : List Int)).bind fun y247 => ((spec_l7little.f k (l0_2.length : Int) 2).bind fun t250 => (if y247.length + t250.length < 140737488355328 then (spec_l7image.l0 k (y247 ++ t250) 0 a0_0 a0_1 l0_2 l0_3 l0_4) else (none)))) else (none)) = some r := H
  have A4 := zA A40
  clear A40
  by_cases c5 : y241.length + t244.length < 140737488355328
  ·rw [if_pos c5] at H
   have LMc5 := zA c5
   clear c5
   obtain ⟨y247, hy247⟩ : ∃ y_ : List Int, y_ = (y241 ++ t244) := ⟨_, rfl⟩
   replace H : ((spec_l7little.f k (l0_2.length : Int) 2).bind fun t250 => (if y247.length + t250.length < 140737488355328 then (spec_l7image.l0 k (y247 ++ t250) 0 a0_0 a0_1 l0_2 l0_3 l0_4) else (none))) = some r := zh hy247
   have Ny247 := zA hy247
   clear hy247
   replace H := Option.bind_eq_some_iff.mp H
   obtain ⟨t250, A60, H⟩ := H
   replace H : (if y247.length + t250.length < 140737488355328 then (spec_l7image.l0 k (y247 ++ t250) 0 a0_0 a0_1 l0_2 l0_3 l0_4) else (none)) = some r := H
   have A6 := zA A60
   clear A60
   by_cases c7 : y247.length + t250.length < 140737488355328
   ·rw [if_pos c7] at H
    have LMc7 := zA c7
    clear c7
    obtain ⟨y253, hy253⟩ : ∃ y_ : List Int, y_ = (y247 ++ t250) := ⟨_, rfl⟩
    replace H : (spec_l7image.l0 k y253 0 a0_0 a0_1 l0_2 l0_3 l0_4) = some r := zh hy253
    have Ny253 := zA hy253
    clear hy253
    have H' := zA H
    clear H
    have kc := fun (w : World) (C : Array Value) (n c : Nat) => Lib.run_convert_bytes_const (P := Tryd.prog) w 54 5 C n c Tryd.underlying54 Tryd.underlying5
    go_enter Tryd.func89, Tryd.ntmps89
    go_wp2_with (first | ((with_reducible refine gate_dst (N := 1) rfl ?_); refine box_event ?hg (N := 1) ?hd (cs := #[.int .i64 a0_0, .int .i64 a0_1, .slice A0_2 l0_2.length c0_2, .slice A0_3 l0_3.length c0_3, .slice A0_4 l0_4.length c0_4]) (t := 47) ?hr ?_; (case hd => rfl); (case hg => rfl); (case hr => first | (go_simp; done) | (go_simp; rfl)); intro gb234 hg w8 hbox hb; have n0_ := zA (below_step z_ hb); have n1_ := zA (hbox); have n2_ := zA ((by rw [hg]; exact (below_size z_) : w.heap.size ≤ gb234)); have n3_ := zA ((by rw [hg]; exact (below_size z_) : w.heap.size ≤ gb234)); clear HB; have HB := n0_; have BK234 := n1_; have GW234 := n2_; have GE234 := n3_; clear n0_ n1_ n2_ n3_; clear hb hbox hg; have hcq_0 : (w8.alloc (.cells #[.int .u8 87, .int .u8 72, .int .u8 76, .int .u8 49] 5 (4, 5))).cell? ⟨gb234, 0, none⟩ = some (.int .i64 a0_0) := (blk_cell (blk_alloc BK234.out _) 0).trans rfl; have hcq_1 : (w8.alloc (.cells #[.int .u8 87, .int .u8 72, .int .u8 76, .int .u8 49] 5 (4, 5))).cell? ⟨gb234, 1, none⟩ = some (.int .i64 a0_1) := (blk_cell (blk_alloc BK234.out _) 1).trans rfl) | ((with_reducible refine gate_callee (f := 145) rfl ?_); refine goesL_ (some 16) rfl rfl Tryd.func145 (by kernel_rfl) rfl #[.int .i64 a0_0, .int .i64 2] rfl za ?_; (with_reducible refine (spec_l7little.calls k a0_0 2 t238 _ A2.out).mono ?_); rintro e w13 ⟨v239, rfl, ho0, hb⟩; refine ⟨_, rfl, ?_⟩; have hm0 : (w8.alloc (.cells #[.int .u8 87, .int .u8 72, .int .u8 76, .int .u8 49] 5 (4, 5))).heap[w8.heap.size]? = some (.cells (encs (Value.int .u8) y235).toArray 5 (4, 5)) := (by rw [Ny235.out]; exact heap_alloc_new w8 _); have HM := zA (blk_below hm0 hb); have hz0 : (w8.alloc (.cells #[.int .u8 87, .int .u8 72, .int .u8 76, .int .u8 49] 5 (4, 5))).heap.size = w8.heap.size + 1 := (by show (w8.heap.push _).size = _; rw [Array.size_push]); have hB1 := below_alloc HB.out (.cells #[.int .u8 87, .int .u8 72, .int .u8 76, .int .u8 49] 5 (4, 5)); have n1_ := zA (Kd.R_lower (Kd.R_new' (u := (.slice (some ⟨w8.heap.size, 0, none⟩) 4 4)) ho0 (fun k hk => by (have hk2 : k = w8.heap.size := by simpa [Value.ownBlock] using hk.symm); omega)) (below_size hB1)); have n2_ := zA (blk_below (blk_alloc BK234.out _) hb); have n3_ := zA (below_step hB1 hb); clear BK234 HB; have HO240 := n1_; have BK234 := n2_; have HB := n3_; clear n1_ n2_ n3_ hm0 hz0 hB1; (try clear hb); (try clear ho0); obtain ⟨Ao15, co15, eo15⟩ := Kd.R_slice HO240.out; subst eo15) | ((with_reducible refine gate_builtin (b := .append) (xs := #[.tmp 13, .tmp 16]) rfl ?_); at_builtin; refine MkQ.append_rows_mk (w0 := w) w.heap.size rfl (.tmp 13) (.tmp 16) 54 rfl Tryd.underlying54 info5 w8.heap.size y235 t238 _ t238.length _ (fun k_ => zO k_ (.slice Ao15 t238.length co15)) rfl rfl ?a4 HM.out ?aR rfl ?aP ?aF ?aB ?aL ?_ ?aS; (case a4 => rw [Ny235.out]; rfl); (case aR => exact zc ((Kd.R_reads' HO240.out).2.2)); (case aP => exact (spec_l7little.grows _ _ _ _ _ _ A2.out).2 (by decide)); (case aB => exact (zs GE234.out)); (case aF => exact (fun k_ hk => Kd.fresh' (zl HO240.out) k_ hk)); (case aS => exact (below_size (zs GE234.out))); (case aL => have := LMc3.out; omega); intro v242 w14 ho hb hg hat; rw [← Ny241.out] at ho; have n0_ := zA (blk_grown (g := gb234) (o := .cells #[.int .i64 a0_0, .int .i64 a0_1, .slice A0_2 l0_2.length c0_2, .slice A0_3 l0_3.length c0_3, .slice A0_4 l0_4.length c0_4] 47 (0, 0)) (zb BK234.out) hg (fun e_ => absurd HM.out (by rw [show w8.heap.size = gb234 from (Option.some.inj e_).symm, BK234.out]; simp))); have n1_ := zA (Kd.R_after (v := (.slice (some ⟨w8.heap.size, 0, none⟩) 4 4)) (ok := (fun _ => True)) (zR HO240.out) hg hat); have n2_ := zA (hb); have n3_ := zA (ho); clear BK234 HO240 HB; have BK234 := n0_; have HO240 := n1_; have HB := n2_; have HO243 := n3_; clear n0_ n1_ n2_ n3_; clear ho hb hg hat; obtain ⟨hcz16_0, hcz16_1, hcz16_2, hcz16_3, hcz16_4, hfz16_0, hfz16_1, hfz16_2, hfz16_3, hfz16_4⟩ := zh5 BK234.out) | ((with_reducible refine gate_callee (f := 145) rfl ?_); refine goesL_ (some 21) rfl rfl Tryd.func145 (by kernel_rfl) rfl #[.int .i64 a0_1, .int .i64 2] rfl za ?_; (with_reducible refine (spec_l7little.calls k a0_1 2 t244 _ A4.out).mono ?_); rintro e w17 ⟨v245, rfl, ho0, hb⟩; refine ⟨_, rfl, ?_⟩; have n0_ := zA (Kd.R_elder' (zR HO240.out) (Kd.R_base ho0) hb); have n1_ := zA (Kd.R_elder' (zR HO243.out) (Kd.R_base ho0) hb); have n2_ := zA (Kd.R_lower (Kd.R_new' (Kd.R_new' ho0 (zl HO240.out)) (zl HO243.out)) (below_size (zs GE234.out))); have n3_ := zA (zB BK234.out hb); have n4_ := zA (below_step (zs GE234.out) hb); clear HO240 HO243 BK234 HB; have HO240 := n0_; have HO243 := n1_; have HO246 := n2_; have BK234 := n3_; have HB := n4_; clear n0_ n1_ n2_ n3_ n4_; (try clear hb); (try clear hb2); (try clear hk); (try clear hi); (try clear ho0); obtain ⟨Ao19, co19, eo19⟩ := Kd.R_slice HO246.out; subst eo19) | ((with_reducible refine gate_builtin (b := .append) (xs := #[.tmp 18, .tmp 21]) rfl ?_); at_builtin; refine Kd.R_append_rows (Kd.int .u8) (w0 := w) w.heap.size rfl (.tmp 18) (.tmp 21) 54 5 (.int .u8 0) 1 rfl Tryd.underlying54 info5 rfl (by decide) (by omega) v242 y241 t244 _ _ _ (fun k_ => zO k_ (.slice Ao15 t238.length co15) ∧ zO k_ (.slice Ao19 t244.length co19)) (fun _ => False) rfl rfl ?aO ?aR (fun _ _ h => h) (fun _ h => h.elim) ?aF ?aB ?aS ?aL ?_; (case aR => exact zc ((Kd.R_reads' HO246.out).2.2)); (case aB => exact (zs GE234.out)); (case aF => exact (fun k_ hk => ⟨Kd.fresh' (zl HO240.out) k_ hk, Kd.fresh' (zl HO246.out) k_ hk⟩)); (case aO => exact (zR HO243.out)); (case aS => exact (below_size (zs GE234.out))); (case aL => have := LMc5.out; omega); intro v248 w18 ho hb hg hat; rw [← Ny247.out] at ho; have n0_ := zA (blk_grown (g := gb234) (o := .cells #[.int .i64 a0_0, .int .i64 a0_1, .slice A0_2 l0_2.length c0_2, .slice A0_3 l0_3.length c0_3, .slice A0_4 l0_4.length c0_4] 47 (0, 0)) (zb BK234.out) hg (Kd.R_ne HO243.out BK234.out (by decide))); have n1_ := zA (Kd.R_after (ok := (fun k_ => zO k_ (.slice Ao19 t244.length co19))) (by (with_reducible repeat (first | apply Kd.R_alloc | apply Kd.R_drewN | apply Kd.R_drew)); exact Kd.R_mono HO240.out (fun _ hk => ⟨hk.2, hk.1.2⟩)) hg hat); have n2_ := zA (Kd.R_after (ok := (fun k_ => zO k_ (.slice Ao15 t238.length co15))) (by (with_reducible repeat (first | apply Kd.R_alloc | apply Kd.R_drewN | apply Kd.R_drew)); exact Kd.R_mono HO246.out (fun _ hk => ⟨hk.1.2, hk.2⟩)) hg hat); have n3_ := zA (hb); have n4_ := zA (ho); clear BK234 HO240 HO246 HB HO243; have BK234 := n0_; have HO240 := n1_; have HO246 := n2_; have HB := n3_; have HO249 := n4_; clear n0_ n1_ n2_ n3_ n4_; clear ho hb hg hat; obtain ⟨hcz20_0, hcz20_1, hcz20_2, hcz20_3, hcz20_4, hfz20_0, hfz20_1, hfz20_2, hfz20_3, hfz20_4⟩ := zh5 BK234.out) | ((with_reducible refine gate_callee (f := 145) rfl ?_); refine goesL_ (some 27) rfl rfl Tryd.func145 (by kernel_rfl) rfl #[.int .i64 (l0_2.length : Int), .int .i64 2] rfl za ?_; (with_reducible refine (spec_l7little.calls k (l0_2.length : Int) 2 t250 _ A6.out).mono ?_); rintro e w21 ⟨v251, rfl, ho0, hb⟩; refine ⟨_, rfl, ?_⟩; have n0_ := zA (Kd.R_elder' (zR HO240.out) (Kd.R_base ho0) hb); have n1_ := zA (Kd.R_elder' (zR HO246.out) (Kd.R_base ho0) hb); have n2_ := zA (Kd.R_elder' (zR HO249.out) (Kd.R_base ho0) hb); have n3_ := zA (Kd.R_lower (Kd.R_new' (Kd.R_new' (Kd.R_new' ho0 (zl HO240.out)) (zl HO246.out)) (zl HO249.out)) (below_size (zs GE234.out))); have n4_ := zA (zB BK234.out hb); have n5_ := zA (below_step (zs GE234.out) hb); clear HO240 HO246 HO249 BK234 HB; have HO240 := n0_; have HO246 := n1_; have HO249 := n2_; have HO252 := n3_; have BK234 := n4_; have HB := n5_; clear n0_ n1_ n2_ n3_ n4_ n5_; (try clear hb); (try clear hb2); (try clear hk); (try clear hi); (try clear ho0); obtain ⟨Ao23, co23, eo23⟩ := Kd.R_slice HO252.out; subst eo23) | ((with_reducible refine gate_builtin (b := .append) (xs := #[.tmp 23, .tmp 27]) rfl ?_); at_builtin; refine Kd.R_append_rows (Kd.int .u8) (w0 := w) w.heap.size rfl (.tmp 23) (.tmp 27) 54 5 (.int .u8 0) 1 rfl Tryd.underlying54 info5 rfl (by decide) (by omega) v248 y247 t250 _ _ _ (fun k_ => zO k_ (.slice Ao15 t238.length co15) ∧ zO k_ (.slice Ao19 t244.length co19) ∧ zO k_ (.slice Ao23 t250.length co23)) (fun _ => False) rfl rfl ?aO ?aR (fun _ _ h => h) (fun _ h => h.elim) ?aF ?aB ?aS ?aL ?_; (case aR => exact zc ((Kd.R_reads' HO252.out).2.2)); (case aB => exact (zs GE234.out)); (case aF => exact (fun k_ hk => ⟨Kd.fresh' (zl HO240.out) k_ hk, Kd.fresh' (zl HO246.out) k_ hk, Kd.fresh' (zl HO252.out) k_ hk⟩)); (case aO => exact (by (with_reducible repeat (first | apply Kd.R_alloc | apply Kd.R_drewN | apply Kd.R_drew)); exact Kd.R_mono HO249.out zy)); (case aS => exact (below_size (zs GE234.out))); (case aL => have := LMc7.out; omega); intro v254 w22 ho hb hg hat; rw [← Ny253.out] at ho; have n0_ := zA (blk_grown (g := gb234) (o := .cells #[.int .i64 a0_0, .int .i64 a0_1, .slice A0_2 l0_2.length c0_2, .slice A0_3 l0_3.length c0_3, .slice A0_4 l0_4.length c0_4] 47 (0, 0)) (zb BK234.out) hg (Kd.R_ne HO249.out BK234.out (by decide))); have n1_ := zA (Kd.R_after (ok := (fun k_ => zO k_ (.slice Ao19 t244.length co19) ∧ zO k_ (.slice Ao23 t250.length co23))) (by (with_reducible repeat (first | apply Kd.R_alloc | apply Kd.R_drewN | apply Kd.R_drew)); exact Kd.R_mono HO240.out zy) hg hat); have n2_ := zA (Kd.R_after (ok := (fun k_ => zO k_ (.slice Ao15 t238.length co15) ∧ zO k_ (.slice Ao23 t250.length co23))) (by (with_reducible repeat (first | apply Kd.R_alloc | apply Kd.R_drewN | apply Kd.R_drew)); exact Kd.R_mono HO246.out zy) hg hat); have n3_ := zA (Kd.R_after (ok := (fun k_ => zO k_ (.slice Ao15 t238.length co15) ∧ zO k_ (.slice Ao19 t244.length co19))) (by (with_reducible repeat (first | apply Kd.R_alloc | apply Kd.R_drewN | apply Kd.R_drew)); exact Kd.R_mono HO252.out zy) hg hat); have n4_ := zA (hb); have n5_ := zA (ho); clear BK234 HO240 HO246 HO252 HB HO249; have BK234 := n0_; have HO240 := n1_; have HO246 := n2_; have HO252 := n3_; have HB := n4_; have HO255 := n5_; clear n0_ n1_ n2_ n3_ n4_ n5_; clear ho hb hg hat))
    go_loopg [3, 4] k (fun kq v3 v4 w' => ∃ (x3_1 : List Int) (x4_1 : Int), v4 = .int .i64 x4_1 ∧ Aside0 (spec_l7image.l0 kq x3_1 x4_1 a0_0 a0_1 l0_2 l0_3 l0_4 = some r) ∧ Aside0 (kq ≤ k) ∧ Aside0 (Kd.R (Kd.int .u8) 5 w' w.heap.size (fun _ => True) v3 x3_1) ∧ Aside0 (w'.heap[gb234]? = some (.cells #[.int .i64 a0_0, .int .i64 a0_1, (.slice A0_2 l0_2.length c0_2), (.slice A0_3 l0_3.length c0_3), (.slice A0_4 l0_4.length c0_4)] 47 (0, 0))) ∧ Aside0 (Below w.heap.size w w'))
    case atStart => exact ⟨(y253), (0), zr, H', ⟨Nat.le_refl _⟩, ⟨zo HO255.out (fun _ hk => trivial)⟩, ⟨zb BK234.out⟩, ⟨zs GE234.out⟩⟩
    case round =>
     clear H'
     (try clear c1); (try clear p2); (try clear c3); (try clear c5); (try clear c7); (try clear c8); (try clear c14); (try clear hcz12_0 hcz12_1 hcz12_2 hcz12_3 hcz12_4); (try clear hcz16_0 hcz16_1 hcz16_2 hcz16_3 hcz16_4); (try clear hcz20_0 hcz20_1 hcz20_2 hcz20_3 hcz20_4); (try clear hfz12_0 hfz12_1 hfz12_2 hfz12_3 hfz12_4); (try clear hfz16_0 hfz16_1 hfz16_2 hfz16_3 hfz16_4); (try clear hfz20_0 hfz20_1 hfz20_2 hfz20_3 hfz20_4)
     obtain ⟨x3_1, x4_1, rfl, HA, HK1, HO_3, BK234, HB⟩ := hrel
     cases gk with
     | zero => exact absurd HA.out (by simp [spec_l7image.l0])
     | succ k1 =>
      have H := HA.out
      clear HA
      simp only [spec_l7image.l0] at H
      by_cases c24 : x4_1 < (l0_2.length : Int)
      ·rw [if_pos c24] at H
       have c24b0 : decide (x4_1 < (l0_2.length : Int)) = true := decide_eq_true c24
       clear c24
       by_cases c25 : 0 ≤ x4_1
       ·rw [if_pos c25] at H
        have c25b0 : decide (0 ≤ x4_1) = true := decide_eq_true c25
        clear c25
        by_cases c26 : x3_1.length < 140737488355328
        ·rw [if_pos c26] at H
         have LMc26 := zA c26
         clear c26
         obtain ⟨y258, hy258⟩ : ∃ y_ : List Int, y_ = (x3_1 ++ [((rd_T120 l0_2 x4_1).f1) % 256]) := ⟨_, rfl⟩
         replace H : ((spec_l7little.f k1 ((rd_T120 l0_2 x4_1).f2) 2).bind fun t261 => (if y258.length + t261.length < 140737488355328 then ((some (y258 ++ t261 : List Int)).bind fun y264 => (if y264.length < 140737488355328 then ((some (y264 ++ [((((rd_T120 l0_2 x4_1).f0).length : Int)) % 256] : List Int)).bind fun y267 => (if y267.length + ((rd_T120 l0_2 x4_1).f0).length < 140737488355328 then (spec_l7image.l0 k1 (y267 ++ ((rd_T120 l0_2 x4_1).f0)) (wrap64 (x4_1 + 1)) a0_0 a0_1 l0_2 l0_3 l0_4) else (none))) else (none))) else (none))) = some r := zh hy258
         have Ny258 := zA hy258
         clear hy258
         replace H := Option.bind_eq_some_iff.mp H
         obtain ⟨t261, A270, H⟩ := H
         replace H : (if y258.length + t261.length < 140737488355328 then ((some (y258 ++ t261 : List Int)).bind fun y264 => (if y264.length < 140737488355328 then ((some (y264 ++ [((((rd_T120 l0_2 x4_1).f0).length : Int)) % 256] : List Int)).bind fun y267 => (if y267.length + ((rd_T120 l0_2 x4_1).f0).length < 140737488355328 then (spec_l7image.l0 k1 (y267 ++ ((rd_T120 l0_2 x4_1).f0)) (wrap64 (x4_1 + 1)) a0_0 a0_1 l0_2 l0_3 l0_4) else (none))) else (none))) else (none)) = some r := H
         have A27 := zA A270
         clear A270
         by_cases c28 : y258.length + t261.length < 140737488355328
         ·rw [if_pos c28] at H
          have LMc28 := zA c28
          clear c28
          obtain ⟨y264, hy264⟩ : ∃ y_ : List Int, y_ = (y258 ++ t261) := ⟨_, rfl⟩
          replace H : (if y264.length < 140737488355328 then ((some (y264 ++ [((((rd_T120 l0_2 x4_1).f0).length : Int)) % 256] : List Int)).bind fun y267 => (if y267.length + ((rd_T120 l0_2 x4_1).f0).length < 140737488355328 then (spec_l7image.l0 k1 (y267 ++ ((rd_T120 l0_2 x4_1).f0)) (wrap64 (x4_1 + 1)) a0_0 a0_1 l0_2 l0_3 l0_4) else (none))) else (none)) = some r := zh hy264
          have Ny264 := zA hy264
          clear hy264
          by_cases c29 : y264.length < 140737488355328
          ·rw [if_pos c29] at H
           have LMc29 := zA c29
           clear c29
           obtain ⟨y267, hy267⟩ : ∃ y_ : List Int, y_ = (y264 ++ [((((rd_T120 l0_2 x4_1).f0).length : Int)) % 256]) := ⟨_, rfl⟩
           replace H : (if y267.length + ((rd_T120 l0_2 x4_1).f0).length < 140737488355328 then (spec_l7image.l0 k1 (y267 ++ ((rd_T120 l0_2 x4_1).f0)) (wrap64 (x4_1 + 1)) a0_0 a0_1 l0_2 l0_3 l0_4) else (none)) = some r := zh hy267
           have Ny267 := zA hy267
           clear hy267
           by_cases c30 : y267.length + ((rd_T120 l0_2 x4_1).f0).length < 140737488355328
           ·rw [if_pos c30] at H
            have LMc30 := zA c30
            clear c30
            obtain ⟨y270, hy270⟩ : ∃ y_ : List Int, y_ = (y267 ++ ((rd_T120 l0_2 x4_1).f0)) := ⟨_, rfl⟩
            replace H : (spec_l7image.l0 k1 y270 (wrap64 (x4_1 + 1)) a0_0 a0_1 l0_2 l0_3 l0_4) = some r := zh hy270
            have Ny270 := zA hy270
            clear hy270
            have H' := zA H
            clear H
            obtain ⟨hcz31_0, hcz31_1, hcz31_2, hcz31_3, hcz31_4, hfz31_0, hfz31_1, hfz31_2, hfz31_3, hfz31_4⟩ := zh5 BK234.out
            have p256 : 0 ≤ (x4_1 : Int) := zd
            have q256 : x4_1 < (l0_2.length : Int) := zd
            obtain ⟨ad256, A256_0, c256_0, e256, hx256_0, hx256_1, hx256_2, hl256_0, hi256_0⟩ := at_T120 HR0_2.out x4_1 p256 q256
            cases e256
            replace hx256_0 := zx HB.out hx256_0
            replace hx256_1 := zx HB.out hx256_1
            replace hx256_2 := zx HB.out hx256_2
            have HR256_0 := zA hi256_0
            have HC256_0 := zA hl256_0
            clear hi256_0 hl256_0
            replace p256 := eq_true p256
            replace q256 := eq_true q256
            go_wp2_with (first | ((with_reducible refine gate_dst (N := 5) rfl ?_); refine box_event ?hg (N := 5) ?hd (cs := #[.slice none 0 0, .int .i64 0, .int .i64 0]) (t := 120) ?hr ?_; (case hd => rfl); (case hg => rfl); (case hr => first | (go_simp; done) | (go_simp; rfl)); intro gb257 hg w32 hbox hb; have n0_ := zA (Kd.R_below (zR HO_3.out) hb); have n1_ := zA (zB BK234.out hb); have n2_ := zA (below_step (zs GE234.out) hb); have n3_ := zA (hbox); have n4_ := zA ((by rw [hg]; exact (below_size (zs GE234.out)) : w.heap.size ≤ gb257)); have n5_ := zA ((by rw [hg]; exact (below_size (zs GE234.out)) : w.heap.size ≤ gb257)); have n6_ := zA ((by rw [hg]; exact Nat.ne_of_lt (zw BK234.out) : gb234 ≠ gb257)); have n7_ := zA ((by rw [hg]; exact Nat.ne_of_gt (zw BK234.out) : gb257 ≠ gb234)); clear HO_3 BK234 HB; have HO_3 := n0_; have BK234 := n1_; have HB := n2_; have BK257 := n3_; have GW257 := n4_; have GE257 := n5_; have NB234_257 := n6_; have NB257_234 := n7_; clear n0_ n1_ n2_ n3_ n4_ n5_ n6_ n7_; clear hb hbox hg; have hnb33 := NB257_234.out; have hnc33 := NB234_257.out; obtain ⟨hcz34_0, hcz34_1, hcz34_2, hfz34_0, hfz34_1, hfz34_2⟩ := zh3 BK257.out) | ((with_reducible refine gate_builtin (b := .append) (xs := #[.tmp 41, .tmp 45]) rfl ?_); at_builtin; refine Kd.R_append (Kd.int .u8) (w0 := w) w.heap.size rfl (.tmp 41) (.tmp 45) 54 5 (.int .u8 0) 1 rfl Tryd.underlying54 info5 rfl (by decide) (by omega) u3 x3_1 (((rd_T120 l0_2 x4_1).f1) % 256) [.int .u8 (((rd_T120 l0_2 x4_1).f1) % 256)] (fun _ => True) (fun _ => False) rfl (by first | (go_simp; done) | (go_simp; rfl)) ?aP (fun _ hk => hk.elim) ?aF ?aO ?aB ?aS ?aL ?_; (case aP => exact rfl); (case aB => exact (zs2 GE234.out GE257.out)); (case aF => exact (fun _ _ => trivial)); (case aO => exact (by (with_reducible repeat (first | apply Kd.R_alloc | apply Kd.R_drewN | apply Kd.R_drew)); exact Kd.R_mono (Kd.R_far (p := ⟨gb257, 2, none⟩) (Kd.R_far (p := ⟨gb257, 1, none⟩) (Kd.R_far (p := ⟨gb257, 0, none⟩) (Kd.R_types HO_3.out BK257.out (by decide)) (fun _ hk => hk.2) (.slice A256_0 ((rd_T120 l0_2 x4_1).f0).length c256_0)) (fun _ hk => hk.2) (.int .i64 ((rd_T120 l0_2 x4_1).f1))) (fun _ hk => hk.2) (.int .i64 ((rd_T120 l0_2 x4_1).f2))) (fun _ hk => trivial))); (case aS => exact (below_size (zs2 GE234.out GE257.out))); (case aL => have := LMc26.out; omega); intro v259 w35 ho hb hg hat; rw [← Ny258.out] at ho; have n0_ := zA (blk_grown (g := gb234) (o := .cells #[.int .i64 a0_0, .int .i64 a0_1, .slice (some ad256) l0_2.length c0_2, .slice A0_3 l0_3.length c0_3, .slice A0_4 l0_4.length c0_4] 47 (0, 0)) (zf BK234.out NB234_257.out) hg (Kd.R_ne HO_3.out BK234.out (by decide))); have n1_ := zA (blk_grown (g := gb257) (o := .cells #[.slice A256_0 ((rd_T120 l0_2 x4_1).f0).length c256_0, .int .i64 ((rd_T120 l0_2 x4_1).f1), .int .i64 ((rd_T120 l0_2 x4_1).f2)] 120 (0, 0)) (zq BK257.out) hg (Kd.R_ne HO_3.out BK257.out (by decide))); have n2_ := zA (hb); have n3_ := zA (ho); clear BK234 BK257 HB HO_3; have BK234 := n0_; have BK257 := n1_; have HB := n2_; have HO260 := n3_; clear n0_ n1_ n2_ n3_; clear ho hb hg hat; obtain ⟨hcz36_0, hcz36_1, hcz36_2, hfz36_0, hfz36_1, hfz36_2⟩ := zh3 BK257.out) | ((with_reducible refine gate_callee (f := 145) rfl ?_); refine goesL_ (some 50) rfl rfl Tryd.func145 (by kernel_rfl) rfl #[.int .i64 ((rd_T120 l0_2 x4_1).f2), .int .i64 2] rfl za ?_; (with_reducible refine (spec_l7little.calls k1 ((rd_T120 l0_2 x4_1).f2) 2 t261 _ A27.out).mono ?_); rintro e w37 ⟨v262, rfl, ho0, hb⟩; refine ⟨_, rfl, ?_⟩; have n0_ := zA (Kd.R_elder' (zR HO260.out) (Kd.R_base ho0) hb); have n1_ := zA (Kd.R_lower (Kd.R_new' ho0 (zl HO260.out)) (below_size (zs2 GE234.out GE257.out))); have n2_ := zA (zB BK234.out hb); have n3_ := zA (zB BK257.out hb); have n4_ := zA (below_step (zs2 GE234.out GE257.out) hb); clear HO260 BK234 BK257 HB; have HO260 := n0_; have HO263 := n1_; have BK234 := n2_; have BK257 := n3_; have HB := n4_; clear n0_ n1_ n2_ n3_ n4_; (try clear hb); (try clear hb2); (try clear hk); (try clear hi); (try clear ho0); obtain ⟨Ao39, co39, eo39⟩ := Kd.R_slice HO263.out; subst eo39) | ((with_reducible refine gate_builtin (b := .append) (xs := #[.tmp 47, .tmp 50]) rfl ?_); at_builtin; refine Kd.R_append_rows (Kd.int .u8) (w0 := w) w.heap.size rfl (.tmp 47) (.tmp 50) 54 5 (.int .u8 0) 1 rfl Tryd.underlying54 info5 rfl (by decide) (by omega) v259 y258 t261 _ _ _ (fun k_ => zO k_ (.slice Ao39 t261.length co39)) (fun _ => False) rfl rfl ?aO ?aR (fun _ _ h => h) (fun _ h => h.elim) ?aF ?aB ?aS ?aL ?_; (case aR => exact zc ((Kd.R_reads' HO263.out).2.2)); (case aB => exact (zs2 GE234.out GE257.out)); (case aF => exact (fun k_ hk => Kd.fresh' (zl HO263.out) k_ hk)); (case aO => exact (by (with_reducible repeat (first | apply Kd.R_alloc | apply Kd.R_drewN | apply Kd.R_drew)); exact Kd.R_mono HO260.out (fun _ hk => hk.2))); (case aS => exact (below_size (zs2 GE234.out GE257.out))); (case aL => have := LMc28.out; omega); intro v265 w38 ho hb hg hat; rw [← Ny264.out] at ho; have n0_ := zA (blk_grown (g := gb234) (o := .cells #[.int .i64 a0_0, .int .i64 a0_1, .slice (some ad256) l0_2.length c0_2, .slice A0_3 l0_3.length c0_3, .slice A0_4 l0_4.length c0_4] 47 (0, 0)) (zb BK234.out) hg (Kd.R_ne HO260.out BK234.out (by decide))); have n1_ := zA (blk_grown (g := gb257) (o := .cells #[.slice A256_0 ((rd_T120 l0_2 x4_1).f0).length c256_0, .int .i64 ((rd_T120 l0_2 x4_1).f1), .int .i64 ((rd_T120 l0_2 x4_1).f2)] 120 (0, 0)) (zb BK257.out) hg (Kd.R_ne HO260.out BK257.out (by decide))); have n2_ := zA (Kd.R_after (ok := (fun _ => True)) (zR HO263.out) hg hat); have n3_ := zA (hb); have n4_ := zA (ho); clear BK234 BK257 HO263 HB HO260; have BK234 := n0_; have BK257 := n1_; have HO263 := n2_; have HB := n3_; have HO266 := n4_; clear n0_ n1_ n2_ n3_ n4_; clear ho hb hg hat; obtain ⟨hcz40_0, hcz40_1, hcz40_2, hfz40_0, hfz40_1, hfz40_2⟩ := zh3 BK257.out) | ((with_reducible refine gate_builtin (b := .append) (xs := #[.tmp 52, .tmp 57]) rfl ?_); at_builtin; refine Kd.R_append (Kd.int .u8) (w0 := w) w.heap.size rfl (.tmp 52) (.tmp 57) 54 5 (.int .u8 0) 1 rfl Tryd.underlying54 info5 rfl (by decide) (by omega) v265 y264 (((((rd_T120 l0_2 x4_1).f0).length : Int)) % 256) [.int .u8 (((((rd_T120 l0_2 x4_1).f0).length : Int)) % 256)] (fun k_ => zO k_ (.slice Ao39 t261.length co39)) (fun _ => False) rfl rfl ?aP (fun _ hk => hk.elim) ?aF ?aO ?aB ?aS ?aL ?_; (case aP => exact rfl); (case aB => exact (zs2 GE234.out GE257.out)); (case aF => exact (fun k_ hk => Kd.fresh' (zl HO263.out) k_ hk)); (case aO => exact (zR HO266.out)); (case aS => exact (below_size (zs2 GE234.out GE257.out))); (case aL => have := LMc29.out; omega); intro v268 w41 ho hb hg hat; rw [← Ny267.out] at ho; have n0_ := zA (blk_grown (g := gb234) (o := .cells #[.int .i64 a0_0, .int .i64 a0_1, .slice (some ad256) l0_2.length c0_2, .slice A0_3 l0_3.length c0_3, .slice A0_4 l0_4.length c0_4] 47 (0, 0)) (zb BK234.out) hg (Kd.R_ne HO266.out BK234.out (by decide))); have n1_ := zA (blk_grown (g := gb257) (o := .cells #[.slice A256_0 ((rd_T120 l0_2 x4_1).f0).length c256_0, .int .i64 ((rd_T120 l0_2 x4_1).f1), .int .i64 ((rd_T120 l0_2 x4_1).f2)] 120 (0, 0)) (zb BK257.out) hg (Kd.R_ne HO266.out BK257.out (by decide))); have n2_ := zA (Kd.R_after (ok := (fun _ => True)) (zR HO263.out) hg hat); have n3_ := zA (hb); have n4_ := zA (ho); clear BK234 BK257 HO263 HB HO266; have BK234 := n0_; have BK257 := n1_; have HO263 := n2_; have HB := n3_; have HO269 := n4_; clear n0_ n1_ n2_ n3_ n4_; clear ho hb hg hat; obtain ⟨hcz42_0, hcz42_1, hcz42_2, hfz42_0, hfz42_1, hfz42_2⟩ := zh3 BK257.out) | ((with_reducible refine gate_builtin (b := .append) (xs := #[.tmp 59, .tmp 61]) rfl ?_); at_builtin; refine Kd.R_append_rows (Kd.int .u8) (w0 := w) w.heap.size rfl (.tmp 59) (.tmp 61) 54 5 (.int .u8 0) 1 rfl Tryd.underlying54 info5 rfl (by decide) (by omega) v268 y267 ((rd_T120 l0_2 x4_1).f0) _ _ _ (fun k_ => zO k_ (.slice Ao39 t261.length co39)) (fun _ => False) rfl rfl ?aO ?aR (fun _ _ h => h) (fun _ h => h.elim) ?aF ?aB ?aS ?aL ?_; (case aR => exact zc (Kd.C_below HR256_0.out HB.out)); (case aB => exact (zs2 GE234.out GE257.out)); (case aF => exact (fun k_ hk => Kd.fresh' (zl HO263.out) k_ hk)); (case aO => exact (zR HO269.out)); (case aS => exact (below_size (zs2 GE234.out GE257.out))); (case aL => have := LMc30.out; omega); intro v271 w43 ho hb hg hat; rw [← Ny270.out] at ho; have n0_ := zA (blk_grown (g := gb234) (o := .cells #[.int .i64 a0_0, .int .i64 a0_1, .slice (some ad256) l0_2.length c0_2, .slice A0_3 l0_3.length c0_3, .slice A0_4 l0_4.length c0_4] 47 (0, 0)) (zb BK234.out) hg (Kd.R_ne HO269.out BK234.out (by decide))); have n1_ := zA (blk_grown (g := gb257) (o := .cells #[.slice A256_0 ((rd_T120 l0_2 x4_1).f0).length c256_0, .int .i64 ((rd_T120 l0_2 x4_1).f1), .int .i64 ((rd_T120 l0_2 x4_1).f2)] 120 (0, 0)) (zb BK257.out) hg (Kd.R_ne HO269.out BK257.out (by decide))); have n2_ := zA (Kd.R_after (ok := (fun _ => True)) (zR HO263.out) hg hat); have n3_ := zA (hb); have n4_ := zA (ho); clear BK234 BK257 HO263 HB HO269; have BK234 := n0_; have BK257 := n1_; have HO263 := n2_; have HB := n3_; have HO272 := n4_; clear n0_ n1_ n2_ n3_ n4_; clear ho hb hg hat))
            go_roundg k1
            case measure => have := HK1.out; omega
            case rel => exact ⟨(y270), (wrap64 (x4_1 + 1)), zr, H', ⟨by have := HK1.out; omega⟩, ⟨zo HO272.out (fun _ hk => trivial)⟩, ⟨zb BK234.out⟩, ⟨(zs2 GE234.out GE257.out)⟩⟩
           ·rw [if_neg c30] at H
            exact absurd H (by simp)
          ·rw [if_neg c29] at H
           exact absurd H (by simp)
         ·rw [if_neg c28] at H
          exact absurd H (by simp)
        ·rw [if_neg c26] at H
         exact absurd H (by simp)
       ·rw [if_neg c25] at H
        exact absurd H (by simp)
      ·rw [if_neg c24] at H
       have c24b0 : decide (x4_1 < (l0_2.length : Int)) = false := decide_eq_false c24
       clear c24
       have H' := zA H
       clear H
       obtain ⟨hcz44_0, hcz44_1, hcz44_2, hcz44_3, hcz44_4, hfz44_0, hfz44_1, hfz44_2, hfz44_3, hfz44_4⟩ := zh5 BK234.out
       go_wp2
       go_loopg [3, 6] k1 (fun kq v3 v6 w' => ∃ (x3_2 : List Int) (x6_2 : Int), v6 = .int .i64 x6_2 ∧ Aside0 (spec_l7image.l1 kq x3_2 x6_2 a0_0 a0_1 l0_2 l0_3 l0_4 = some r) ∧ Aside0 (kq ≤ k1) ∧ Aside0 (Kd.R (Kd.int .u8) 5 w' w.heap.size (fun _ => True) v3 x3_2) ∧ Aside0 (w'.heap[gb234]? = some (.cells #[.int .i64 a0_0, .int .i64 a0_1, (.slice A0_2 l0_2.length c0_2), (.slice A0_3 l0_3.length c0_3), (.slice A0_4 l0_4.length c0_4)] 47 (0, 0))) ∧ Aside0 (Below w.heap.size w w'))
       case atStart => exact ⟨(x3_1), (0), zr, H', ⟨Nat.le_refl _⟩, ⟨zR HO_3.out⟩, ⟨zb BK234.out⟩, ⟨zs GE234.out⟩⟩
       case round =>
        clear H'
        (try clear c1); (try clear c2); (try clear p2); (try clear q2); (try clear hx2); (try clear c3); (try clear c5); (try clear p6); (try clear c7); (try clear c8); (try clear c14); (try clear c24); (try clear c24b0); (try clear c25); (try clear c25b0); (try clear p25); (try clear q25); (try clear hx25); (try clear c26); (try clear c28); (try clear c29); (try clear c30); (try clear c33); (try clear hcz12_0 hcz12_1 hcz12_2 hcz12_3 hcz12_4); (try clear hcz16_0 hcz16_1 hcz16_2 hcz16_3 hcz16_4); (try clear hcz20_0 hcz20_1 hcz20_2 hcz20_3 hcz20_4); (try clear hcz31_0 hcz31_1 hcz31_2 hcz31_3 hcz31_4); (try clear hcz34_0 hcz34_1 hcz34_2); (try clear hcz36_0 hcz36_1 hcz36_2); (try clear hcz40_0 hcz40_1 hcz40_2); (try clear hcz42_0 hcz42_1 hcz42_2); (try clear hcz44_0 hcz44_1 hcz44_2 hcz44_3 hcz44_4); (try clear hfz12_0 hfz12_1 hfz12_2 hfz12_3 hfz12_4); (try clear hfz16_0 hfz16_1 hfz16_2 hfz16_3 hfz16_4); (try clear hfz20_0 hfz20_1 hfz20_2 hfz20_3 hfz20_4); (try clear hfz31_0 hfz31_1 hfz31_2 hfz31_3 hfz31_4); (try clear hfz34_0 hfz34_1 hfz34_2); (try clear hfz36_0 hfz36_1 hfz36_2); (try clear hfz40_0 hfz40_1 hfz40_2); (try clear hfz42_0 hfz42_1 hfz42_2); (try clear hfz44_0 hfz44_1 hfz44_2 hfz44_3 hfz44_4); (try clear hx256_0); (try clear hx256_1); (try clear hx256_2); (try clear p2); (try clear p256); (try clear q256)
        obtain ⟨x3_2, x6_2, rfl, HA, HK2, HO_3, BK234, HB⟩ := hrel
        cases gk with
        | zero => exact absurd HA.out (by simp [spec_l7image.l1])
        | succ k2 =>
         have H := HA.out
         clear HA
         simp only [spec_l7image.l1] at H
         by_cases c45 : x6_2 < (l0_2.length : Int)
         ·rw [if_pos c45] at H
          have c45b0 : decide (x6_2 < (l0_2.length : Int)) = true := decide_eq_true c45
          clear c45
          by_cases c46 : 0 ≤ x6_2
          ·rw [if_pos c46] at H
           have c46b0 : decide (0 ≤ x6_2) = true := decide_eq_true c46
           clear c46
           by_cases c47 : x6_2 < (l0_4.length : Int)
           ·rw [if_pos c47] at H
            have c47b0 : decide (x6_2 < (l0_4.length : Int)) = true := decide_eq_true c47
            clear c47
            replace H := Option.bind_eq_some_iff.mp H
            obtain ⟨⟨t281, t282⟩, A480, H⟩ := H
            replace H : (if x3_2.length + t281.length < 140737488355328 then (spec_l7image.l2 k2 (x3_2 ++ t281) x6_2 0 a0_0 a0_1 l0_2 l0_3 l0_4) else (none)) = some r := H
            have A48 := zA A480
            clear A480
            by_cases c49 : x3_2.length + t281.length < 140737488355328
            ·rw [if_pos c49] at H
             have LMc49 := zA c49
             clear c49
             obtain ⟨y285, hy285⟩ : ∃ y_ : List Int, y_ = (x3_2 ++ t281) := ⟨_, rfl⟩
             replace H : (spec_l7image.l2 k2 y285 x6_2 0 a0_0 a0_1 l0_2 l0_3 l0_4) = some r := zh hy285
             have Ny285 := zA hy285
             clear hy285
             have H' := zA H
             clear H
             obtain ⟨hcz50_0, hcz50_1, hcz50_2, hcz50_3, hcz50_4, hfz50_0, hfz50_1, hfz50_2, hfz50_3, hfz50_4⟩ := zh5 BK234.out
             have p280 : 0 ≤ (x6_2 : Int) := zd
             have q280 : x6_2 < (l0_4.length : Int) := zd
             obtain ⟨ad280, A280_0, c280_0, e280, hx280_0, hl280_0, hi280_0⟩ := at_L4 HR0_4.out x6_2 p280 q280
             cases e280
             replace hx280_0 := zx HB.out hx280_0
             have HR280_0 := zA hi280_0
             have HC280_0 := zA hl280_0
             clear hi280_0 hl280_0
             replace p280 := eq_true p280
             replace q280 := eq_true q280
             go_wp2_with (first | ((with_reducible refine gate_callee (f := 146) rfl ?_); refine goesL_ (some 76) rfl rfl Tryd.func146 (by kernel_rfl) rfl #[.slice A280_0 (rd_L4 l0_4 x6_2).length c280_0] rfl za ?_; (with_reducible refine (spec_PackHops.calls k2 _ _ (rd_L4 l0_4 x6_2) t281 t282 _ ?side1 ?side2 A48.out).mono ?_); (case side1 => exact zc (Kd.C_below HR280_0.out HB.out)); (case side2 => exact HC280_0.out); rintro e w51 ⟨v283, rfl, ho0, hb⟩; refine ⟨_, rfl, ?_⟩; have n0_ := zA (Kd.R_elder' (zR HO_3.out) (Kd.R_base ho0) hb); have n1_ := zA (Kd.R_lower (Kd.R_new' ho0 (zl HO_3.out)) (below_size (zs GE234.out))); have n2_ := zA (zB BK234.out hb); have n3_ := zA (below_step (zs GE234.out) hb); clear HO_3 BK234 HB; have HO_3 := n0_; have HO284 := n1_; have BK234 := n2_; have HB := n3_; clear n0_ n1_ n2_ n3_; (try clear hb); (try clear hb2); (try clear hk); (try clear hi); (try clear ho0); obtain ⟨Ao53, co53, eo53⟩ := Kd.R_slice HO284.out; subst eo53) | ((with_reducible refine gate_builtin (b := .append) (xs := #[.tmp 79, .tmp 80]) rfl ?_); at_builtin; refine Kd.R_append_rows (Kd.int .u8) (w0 := w) w.heap.size rfl (.tmp 79) (.tmp 80) 54 5 (.int .u8 0) 1 rfl Tryd.underlying54 info5 rfl (by decide) (by omega) u3 x3_2 t281 _ _ _ (fun k_ => zO k_ (.slice Ao53 t281.length co53)) (fun _ => False) rfl rfl ?aO ?aR (fun _ _ h => h) (fun _ h => h.elim) ?aF ?aB ?aS ?aL ?_; (case aR => exact zc ((Kd.R_reads' HO284.out).2.2)); (case aB => exact (zs GE234.out)); (case aF => exact (fun k_ hk => Kd.fresh' (zl HO284.out) k_ hk)); (case aO => exact (by (with_reducible repeat (first | apply Kd.R_alloc | apply Kd.R_drewN | apply Kd.R_drew)); exact Kd.R_mono HO_3.out (fun _ hk => hk.2))); (case aS => exact (below_size (zs GE234.out))); (case aL => have := LMc49.out; omega); intro v286 w52 ho hb hg hat; rw [← Ny285.out] at ho; have n0_ := zA (blk_grown (g := gb234) (o := .cells #[.int .i64 a0_0, .int .i64 a0_1, .slice A0_2 l0_2.length c0_2, .slice A0_3 l0_3.length c0_3, .slice (some ad280) l0_4.length c0_4] 47 (0, 0)) (zb BK234.out) hg (Kd.R_ne HO_3.out BK234.out (by decide))); have n1_ := zA (Kd.R_after (ok := (fun _ => True)) (zR HO284.out) hg hat); have n2_ := zA (hb); have n3_ := zA (ho); clear BK234 HO284 HB HO_3; have BK234 := n0_; have HO284 := n1_; have HB := n2_; have HO287 := n3_; clear n0_ n1_ n2_ n3_; clear ho hb hg hat))
             go_loopg [3, 9] k2 (fun kq v3 v9 w' => ∃ (x3_3 : List Int) (x9_3 : Int), v9 = .int .i64 x9_3 ∧ Aside0 (spec_l7image.l2 kq x3_3 x6_2 x9_3 a0_0 a0_1 l0_2 l0_3 l0_4 = some r) ∧ Aside0 (kq ≤ k2) ∧ Aside0 (Kd.R (Kd.int .u8) 5 w' w.heap.size (fun _ => True) v3 x3_3) ∧ Aside0 (w'.heap[gb234]? = some (.cells #[.int .i64 a0_0, .int .i64 a0_1, (.slice A0_2 l0_2.length c0_2), (.slice A0_3 l0_3.length c0_3), (.slice (some ad280) l0_4.length c0_4)] 47 (0, 0))) ∧ Aside0 (Below w.heap.size w w'))
             case atStart => exact ⟨(y285), (0), zr, H', ⟨Nat.le_refl _⟩, ⟨zo HO287.out (fun _ hk => trivial)⟩, ⟨zb BK234.out⟩, ⟨zs GE234.out⟩⟩
             case round =>
              clear H'
              (try clear c1); (try clear c2); (try clear p2); (try clear q2); (try clear hx2); (try clear c3); (try clear c4); (try clear c5); (try clear p6); (try clear c7); (try clear c8); (try clear c14); (try clear c24); (try clear c24b0); (try clear c25); (try clear c25b0); (try clear p25); (try clear q25); (try clear hx25); (try clear c26); (try clear c28); (try clear p28); (try clear q28); (try clear hx28); (try clear c29); (try clear c30); (try clear c33); (try clear c45); (try clear c45b0); (try clear c46); (try clear c46b0); (try clear c47); (try clear c47b0); (try clear c49); (try clear hcz12_0 hcz12_1 hcz12_2 hcz12_3 hcz12_4); (try clear hcz16_0 hcz16_1 hcz16_2 hcz16_3 hcz16_4); (try clear hcz20_0 hcz20_1 hcz20_2 hcz20_3 hcz20_4); (try clear hcz31_0 hcz31_1 hcz31_2 hcz31_3 hcz31_4); (try clear hcz34_0 hcz34_1 hcz34_2); (try clear hcz36_0 hcz36_1 hcz36_2); (try clear hcz40_0 hcz40_1 hcz40_2); (try clear hcz42_0 hcz42_1 hcz42_2); (try clear hcz44_0 hcz44_1 hcz44_2 hcz44_3 hcz44_4); (try clear hcz50_0 hcz50_1 hcz50_2 hcz50_3 hcz50_4); (try clear hfz12_0 hfz12_1 hfz12_2 hfz12_3 hfz12_4); (try clear hfz16_0 hfz16_1 hfz16_2 hfz16_3 hfz16_4); (try clear hfz20_0 hfz20_1 hfz20_2 hfz20_3 hfz20_4); (try clear hfz31_0 hfz31_1 hfz31_2 hfz31_3 hfz31_4); (try clear hfz34_0 hfz34_1 hfz34_2); (try clear hfz36_0 hfz36_1 hfz36_2); (try clear hfz40_0 hfz40_1 hfz40_2); (try clear hfz42_0 hfz42_1 hfz42_2); (try clear hfz44_0 hfz44_1 hfz44_2 hfz44_3 hfz44_4); (try clear hfz50_0 hfz50_1 hfz50_2 hfz50_3 hfz50_4); (try clear hx256_0); (try clear hx256_1); (try clear hx256_2); (try clear hx280_0); (try clear p2); (try clear p25); (try clear p256); (try clear p280); (try clear p6); (try clear q2); (try clear q25); (try clear q256); (try clear q280)
              obtain ⟨x3_3, x9_3, rfl, HA, HK3, HO_3, BK234, HB⟩ := hrel
              cases gk with
              | zero => exact absurd HA.out (by simp [spec_l7image.l2])
              | succ k3 =>
               have H := HA.out
               clear HA
               simp only [spec_l7image.l2] at H
               by_cases c54 : 0 ≤ x6_2
               ·rw [if_pos c54] at H
                have c54b0 : decide (0 ≤ x6_2) = true := decide_eq_true c54
                clear c54
                by_cases c55 : x6_2 < (l0_3.length : Int)
                ·rw [if_pos c55] at H
                 have c55b0 : decide (x6_2 < (l0_3.length : Int)) = true := decide_eq_true c55
                 clear c55
                 by_cases c56 : x9_3 < ((rd_L4 l0_3 x6_2).length : Int)
                 ·rw [if_pos c56] at H
                  have c56b0 : decide (x9_3 < ((rd_L4 l0_3 x6_2).length : Int)) = true := decide_eq_true c56
                  clear c56
                  by_cases c57 : 0 ≤ x9_3
                  ·rw [if_pos c57] at H
                   have c57b0 : decide (0 ≤ x9_3) = true := decide_eq_true c57
                   clear c57
                   by_cases c58 : (rd (rd_L4 l0_3 x6_2) x9_3) < 0
                   ·rw [if_pos c58] at H
                    have c58b0 : decide ((rd (rd_L4 l0_3 x6_2) x9_3) < 0) = true := decide_eq_true c58
                    clear c58
                    replace H := Option.bind_eq_some_iff.mp H
                    obtain ⟨t291, A590, H⟩ := H
                    replace H : (if x3_3.length + t291.length < 140737488355328 then (spec_l7image.l2 k3 (x3_3 ++ t291) x6_2 (wrap64 (x9_3 + 1)) a0_0 a0_1 l0_2 l0_3 l0_4) else (none)) = some r := H
                    have A59 := zA A590
                    clear A590
                    by_cases c60 : x3_3.length + t291.length < 140737488355328
                    ·rw [if_pos c60] at H
                     have LMc60 := zA c60
                     clear c60
                     obtain ⟨y294, hy294⟩ : ∃ y_ : List Int, y_ = (x3_3 ++ t291) := ⟨_, rfl⟩
                     replace H : (spec_l7image.l2 k3 y294 x6_2 (wrap64 (x9_3 + 1)) a0_0 a0_1 l0_2 l0_3 l0_4) = some r := zh hy294
                     have Ny294 := zA hy294
                     clear hy294
                     have H' := zA H
                     clear H
                     obtain ⟨hcz61_0, hcz61_1, hcz61_2, hcz61_3, hcz61_4, hfz61_0, hfz61_1, hfz61_2, hfz61_3, hfz61_4⟩ := zh5 BK234.out
                     have p288 : 0 ≤ (x6_2 : Int) := zd
                     have q288 : x6_2 < (l0_3.length : Int) := zd
                     obtain ⟨ad288, A288_0, c288_0, e288, hx288_0, hl288_0, hi288_0⟩ := at_L4 HR0_3.out x6_2 p288 q288
                     cases e288
                     replace hx288_0 := zx HB.out hx288_0
                     have HR288_0 := zA hi288_0
                     have HC288_0 := zA hl288_0
                     clear hi288_0 hl288_0
                     replace p288 := eq_true p288
                     replace q288 := eq_true q288
                     have p289 : 0 ≤ (x6_2 : Int) := zd
                     have q289 : x6_2 < (l0_3.length : Int) := zd
                     obtain ⟨ad289, A289_0, c289_0, e289, hx289_0, hl289_0, hi289_0⟩ := at_L4 HR0_3.out x6_2 p289 q289
                     obtain rfl : ad288 = ad289 := (by injection e289)
                     replace hx289_0 := zx HB.out hx289_0
                     have HR289_0 := zA hi289_0
                     have HC289_0 := zA hl289_0
                     clear hi289_0 hl289_0
                     replace p289 := eq_true p289
                     replace q289 := eq_true q289
                     have ea_ := Option.some.inj (hx288_0.symm.trans hx289_0)
                     injection ea_ with ea_ en_ ec_
                     subst ea_
                     subst ec_
                     clear en_
                     have p290 : 0 ≤ (x9_3 : Int) := zd
                     have q290 : x9_3 < ((rd_L4 l0_3 x6_2).length : Int) := zd
                     obtain ⟨ad290, e290, hx290_0⟩ := Kd.at_int HR289_0.out x9_3 p290 q290
                     cases e290
                     replace hx290_0 := zx HB.out hx290_0
                     replace p290 := eq_true p290
                     replace q290 := eq_true q290
                     go_wp2_with (first | ((with_reducible refine gate_callee (f := 145) rfl ?_); refine goesL_ (some 104) rfl rfl Tryd.func145 (by kernel_rfl) rfl #[.int .i64 65535, .int .i64 2] rfl za ?_; (with_reducible refine (spec_l7little.calls k3 65535 2 t291 _ A59.out).mono ?_); rintro e w62 ⟨v292, rfl, ho0, hb⟩; refine ⟨_, rfl, ?_⟩; have n0_ := zA (Kd.R_elder' (zR HO_3.out) (Kd.R_base ho0) hb); have n1_ := zA (Kd.R_lower (Kd.R_new' ho0 (zl HO_3.out)) (below_size (zs GE234.out))); have n2_ := zA (zB BK234.out hb); have n3_ := zA (below_step (zs GE234.out) hb); clear HO_3 BK234 HB; have HO_3 := n0_; have HO293 := n1_; have BK234 := n2_; have HB := n3_; clear n0_ n1_ n2_ n3_; (try clear hb); (try clear hb2); (try clear hk); (try clear hi); (try clear ho0); obtain ⟨Ao64, co64, eo64⟩ := Kd.R_slice HO293.out; subst eo64) | ((with_reducible refine gate_builtin (b := .append) (xs := #[.tmp 102, .tmp 104]) rfl ?_); at_builtin; refine Kd.R_append_rows (Kd.int .u8) (w0 := w) w.heap.size rfl (.tmp 102) (.tmp 104) 54 5 (.int .u8 0) 1 rfl Tryd.underlying54 info5 rfl (by decide) (by omega) u3 x3_3 t291 _ _ _ (fun k_ => zO k_ (.slice Ao64 t291.length co64)) (fun _ => False) rfl rfl ?aO ?aR (fun _ _ h => h) (fun _ h => h.elim) ?aF ?aB ?aS ?aL ?_; (case aR => exact zc ((Kd.R_reads' HO293.out).2.2)); (case aB => exact (zs GE234.out)); (case aF => exact (fun k_ hk => Kd.fresh' (zl HO293.out) k_ hk)); (case aO => exact (by (with_reducible repeat (first | apply Kd.R_alloc | apply Kd.R_drewN | apply Kd.R_drew)); exact Kd.R_mono HO_3.out (fun _ hk => hk.2))); (case aS => exact (below_size (zs GE234.out))); (case aL => have := LMc60.out; omega); intro v295 w63 ho hb hg hat; rw [← Ny294.out] at ho; have n0_ := zA (blk_grown (g := gb234) (o := .cells #[.int .i64 a0_0, .int .i64 a0_1, .slice A0_2 l0_2.length c0_2, .slice (some ad288) l0_3.length c0_3, .slice (some ad280) l0_4.length c0_4] 47 (0, 0)) (zb BK234.out) hg (Kd.R_ne HO_3.out BK234.out (by decide))); have n1_ := zA (Kd.R_after (ok := (fun _ => True)) (zR HO293.out) hg hat); have n2_ := zA (hb); have n3_ := zA (ho); clear BK234 HO293 HB HO_3; have BK234 := n0_; have HO293 := n1_; have HB := n2_; have HO296 := n3_; clear n0_ n1_ n2_ n3_; clear ho hb hg hat))
                     go_roundg k3
                     case measure => have := HK1.out; have := HK2.out; have := HK3.out; omega
                     case rel => exact ⟨(y294), (wrap64 (x9_3 + 1)), zr, H', ⟨by have := HK1.out; have := HK2.out; have := HK3.out; omega⟩, ⟨zo HO296.out (fun _ hk => trivial)⟩, ⟨zb BK234.out⟩, ⟨zs GE234.out⟩⟩
                    ·rw [if_neg c60] at H
                     exact absurd H (by simp)
                   ·rw [if_neg c58] at H
                    have c58b0 : decide ((rd (rd_L4 l0_3 x6_2) x9_3) < 0) = false := decide_eq_false c58
                    clear c58
                    replace H := Option.bind_eq_some_iff.mp H
                    obtain ⟨t297, A650, H⟩ := H
                    replace H : (if x3_3.length + t297.length < 140737488355328 then (spec_l7image.l2 k3 (x3_3 ++ t297) x6_2 (wrap64 (x9_3 + 1)) a0_0 a0_1 l0_2 l0_3 l0_4) else (none)) = some r := H
                    have A65 := zA A650
                    clear A650
                    by_cases c66 : x3_3.length + t297.length < 140737488355328
                    ·rw [if_pos c66] at H
                     have LMc66 := zA c66
                     clear c66
                     obtain ⟨y300, hy300⟩ : ∃ y_ : List Int, y_ = (x3_3 ++ t297) := ⟨_, rfl⟩
                     replace H : (spec_l7image.l2 k3 y300 x6_2 (wrap64 (x9_3 + 1)) a0_0 a0_1 l0_2 l0_3 l0_4) = some r := zh hy300
                     have Ny300 := zA hy300
                     clear hy300
                     have H' := zA H
                     clear H
                     obtain ⟨hcz67_0, hcz67_1, hcz67_2, hcz67_3, hcz67_4, hfz67_0, hfz67_1, hfz67_2, hfz67_3, hfz67_4⟩ := zh5 BK234.out
                     have p288 : 0 ≤ (x6_2 : Int) := zd
                     have q288 : x6_2 < (l0_3.length : Int) := zd
                     obtain ⟨ad288, A288_0, c288_0, e288, hx288_0, hl288_0, hi288_0⟩ := at_L4 HR0_3.out x6_2 p288 q288
                     cases e288
                     replace hx288_0 := zx HB.out hx288_0
                     have HR288_0 := zA hi288_0
                     have HC288_0 := zA hl288_0
                     clear hi288_0 hl288_0
                     replace p288 := eq_true p288
                     replace q288 := eq_true q288
                     have p289 : 0 ≤ (x6_2 : Int) := zd
                     have q289 : x6_2 < (l0_3.length : Int) := zd
                     obtain ⟨ad289, A289_0, c289_0, e289, hx289_0, hl289_0, hi289_0⟩ := at_L4 HR0_3.out x6_2 p289 q289
                     obtain rfl : ad288 = ad289 := (by injection e289)
                     replace hx289_0 := zx HB.out hx289_0
                     have HR289_0 := zA hi289_0
                     have HC289_0 := zA hl289_0
                     clear hi289_0 hl289_0
                     replace p289 := eq_true p289
                     replace q289 := eq_true q289
                     have ea_ := Option.some.inj (hx288_0.symm.trans hx289_0)
                     injection ea_ with ea_ en_ ec_
                     subst ea_
                     subst ec_
                     clear en_
                     have p290 : 0 ≤ (x9_3 : Int) := zd
                     have q290 : x9_3 < ((rd_L4 l0_3 x6_2).length : Int) := zd
                     obtain ⟨ad290, e290, hx290_0⟩ := Kd.at_int HR289_0.out x9_3 p290 q290
                     cases e290
                     replace hx290_0 := zx HB.out hx290_0
                     replace p290 := eq_true p290
                     replace q290 := eq_true q290
                     go_wp2_with (first | ((with_reducible refine gate_callee (f := 145) rfl ?_); refine goesL_ (some 104) rfl rfl Tryd.func145 (by kernel_rfl) rfl #[.int .i64 (rd (rd_L4 l0_3 x6_2) x9_3), .int .i64 2] rfl za ?_; (with_reducible refine (spec_l7little.calls k3 (rd (rd_L4 l0_3 x6_2) x9_3) 2 t297 _ A65.out).mono ?_); rintro e w68 ⟨v298, rfl, ho0, hb⟩; refine ⟨_, rfl, ?_⟩; have n0_ := zA (Kd.R_elder' (zR HO_3.out) (Kd.R_base ho0) hb); have n1_ := zA (Kd.R_lower (Kd.R_new' ho0 (zl HO_3.out)) (below_size (zs GE234.out))); have n2_ := zA (zB BK234.out hb); have n3_ := zA (below_step (zs GE234.out) hb); clear HO_3 BK234 HB; have HO_3 := n0_; have HO299 := n1_; have BK234 := n2_; have HB := n3_; clear n0_ n1_ n2_ n3_; (try clear hb); (try clear hb2); (try clear hk); (try clear hi); (try clear ho0); obtain ⟨Ao70, co70, eo70⟩ := Kd.R_slice HO299.out; subst eo70) | ((with_reducible refine gate_builtin (b := .append) (xs := #[.tmp 102, .tmp 104]) rfl ?_); at_builtin; refine Kd.R_append_rows (Kd.int .u8) (w0 := w) w.heap.size rfl (.tmp 102) (.tmp 104) 54 5 (.int .u8 0) 1 rfl Tryd.underlying54 info5 rfl (by decide) (by omega) u3 x3_3 t297 _ _ _ (fun k_ => zO k_ (.slice Ao70 t297.length co70)) (fun _ => False) rfl rfl ?aO ?aR (fun _ _ h => h) (fun _ h => h.elim) ?aF ?aB ?aS ?aL ?_; (case aR => exact zc ((Kd.R_reads' HO299.out).2.2)); (case aB => exact (zs GE234.out)); (case aF => exact (fun k_ hk => Kd.fresh' (zl HO299.out) k_ hk)); (case aO => exact (by (with_reducible repeat (first | apply Kd.R_alloc | apply Kd.R_drewN | apply Kd.R_drew)); exact Kd.R_mono HO_3.out (fun _ hk => hk.2))); (case aS => exact (below_size (zs GE234.out))); (case aL => have := LMc66.out; omega); intro v301 w69 ho hb hg hat; rw [← Ny300.out] at ho; have n0_ := zA (blk_grown (g := gb234) (o := .cells #[.int .i64 a0_0, .int .i64 a0_1, .slice A0_2 l0_2.length c0_2, .slice (some ad288) l0_3.length c0_3, .slice (some ad280) l0_4.length c0_4] 47 (0, 0)) (zb BK234.out) hg (Kd.R_ne HO_3.out BK234.out (by decide))); have n1_ := zA (Kd.R_after (ok := (fun _ => True)) (zR HO299.out) hg hat); have n2_ := zA (hb); have n3_ := zA (ho); clear BK234 HO299 HB HO_3; have BK234 := n0_; have HO299 := n1_; have HB := n2_; have HO302 := n3_; clear n0_ n1_ n2_ n3_; clear ho hb hg hat))
                     go_roundg k3
                     case measure => have := HK1.out; have := HK2.out; have := HK3.out; omega
                     case rel => exact ⟨(y300), (wrap64 (x9_3 + 1)), zr, H', ⟨by have := HK1.out; have := HK2.out; have := HK3.out; omega⟩, ⟨zo HO302.out (fun _ hk => trivial)⟩, ⟨zb BK234.out⟩, ⟨zs GE234.out⟩⟩
                    ·rw [if_neg c66] at H
                     exact absurd H (by simp)
                  ·rw [if_neg c57] at H
                   exact absurd H (by simp)
                 ·rw [if_neg c56] at H
                  have c56b0 : decide (x9_3 < ((rd_L4 l0_3 x6_2).length : Int)) = false := decide_eq_false c56
                  clear c56
                  have H' := zA H
                  clear H
                  obtain ⟨hcz71_0, hcz71_1, hcz71_2, hcz71_3, hcz71_4, hfz71_0, hfz71_1, hfz71_2, hfz71_3, hfz71_4⟩ := zh5 BK234.out
                  have p288 : 0 ≤ (x6_2 : Int) := zd
                  have q288 : x6_2 < (l0_3.length : Int) := zd
                  obtain ⟨ad288, A288_0, c288_0, e288, hx288_0, hl288_0, hi288_0⟩ := at_L4 HR0_3.out x6_2 p288 q288
                  cases e288
                  replace hx288_0 := zx HB.out hx288_0
                  have HR288_0 := zA hi288_0
                  have HC288_0 := zA hl288_0
                  clear hi288_0 hl288_0
                  replace p288 := eq_true p288
                  replace q288 := eq_true q288
                  go_wp2
                  go_roundg k3
                  case measure => have := HK1.out; have := HK2.out; have := HK3.out; omega
                  case rel => exact ⟨(x3_3), (wrap64 (x6_2 + 1)), zr, H', ⟨by have := HK1.out; have := HK2.out; have := HK3.out; omega⟩, ⟨zR HO_3.out⟩, ⟨zb BK234.out⟩, ⟨zs GE234.out⟩⟩
                ·rw [if_neg c55] at H
                 exact absurd H (by simp)
               ·rw [if_neg c54] at H
                exact absurd H (by simp)
            ·rw [if_neg c49] at H
             exact absurd H (by simp)
           ·rw [if_neg c47] at H
            exact absurd H (by simp)
          ·rw [if_neg c46] at H
           exact absurd H (by simp)
         ·rw [if_neg c45] at H
          have c45b0 : decide (x6_2 < (l0_2.length : Int)) = false := decide_eq_false c45
          clear c45
          replace H := Option.bind_eq_some_iff.mp H
          obtain ⟨t273, A720, H⟩ := H
          replace H : ((spec_l7little.f k2 (wrap64 (t273)) 4).bind fun t274 => (if x3_2.length + t274.length < 140737488355328 then (some (x3_2 ++ t274)) else (none))) = some r := H
          have A72 := zA A720
          clear A720
          replace H := Option.bind_eq_some_iff.mp H
          obtain ⟨t274, A730, H⟩ := H
          replace H : (if x3_2.length + t274.length < 140737488355328 then (some (x3_2 ++ t274)) else (none)) = some r := H
          have A73 := zA A730
          clear A730
          by_cases c74 : x3_2.length + t274.length < 140737488355328
          ·rw [if_pos c74] at H
           have LMc74 := zA c74
           clear c74
           obtain ⟨y277, hy277⟩ : ∃ y_ : List Int, y_ = (x3_2 ++ t274) := ⟨_, rfl⟩
           replace H : (some y277) = some r := zh hy277
           have Ny277 := zA hy277
           clear hy277
           obtain rfl := Option.some.inj H
           obtain ⟨hcz75_0, hcz75_1, hcz75_2, hcz75_3, hcz75_4, hfz75_0, hfz75_1, hfz75_2, hfz75_3, hfz75_4⟩ := zh5 BK234.out
           obtain ⟨Ao76, co76, eo76⟩ := Kd.R_slice HO_3.out
           subst eo76
           go_wp2_with (first | ((with_reducible refine gate_callee (f := 147) rfl ?_); refine goesL_ (some 108) rfl rfl Tryd.func147 (by kernel_rfl) rfl #[.slice Ao76 x3_2.length co76] rfl za ?_; (with_reducible refine (spec_Crc32.calls k2 _ _ x3_2 t273 _ ?side1 ?side2 A72.out).mono ?_); (case side1 => exact zc ((Kd.R_reads' HO_3.out).2.2)); (case side2 => exact (Kd.R_reads' HO_3.out).2.1); rintro e w' ⟨rfl, ⟨nd, rfl⟩⟩; refine ⟨_, rfl, ?_⟩) | ((with_reducible refine gate_callee (f := 145) rfl ?_); refine goesL_ (some 110) rfl rfl Tryd.func145 (by kernel_rfl) rfl #[.int .i64 (wrap64 (t273)), .int .i64 4] rfl za ?_; (with_reducible refine (spec_l7little.calls k2 (wrap64 (t273)) 4 t274 _ A73.out).mono ?_); rintro e w77 ⟨v275, rfl, ho0, hb⟩; refine ⟨_, rfl, ?_⟩; have n0_ := zA (Kd.R_elder' (zR HO_3.out) (Kd.R_base ho0) hb); have n1_ := zA (Kd.R_lower (Kd.R_new' ho0 (zl HO_3.out)) (below_size (zs GE234.out))); have n2_ := zA (zB BK234.out hb); have n3_ := zA (below_step (zs GE234.out) hb); clear HO_3 BK234 HB; have HO_3 := n0_; have HO276 := n1_; have BK234 := n2_; have HB := n3_; clear n0_ n1_ n2_ n3_; (try clear hb); (try clear hb2); (try clear hk); (try clear hi); (try clear ho0); obtain ⟨Ao79, co79, eo79⟩ := Kd.R_slice HO276.out; subst eo79) | ((with_reducible refine gate_builtin (b := .append) (xs := #[.tmp 106, .tmp 110]) rfl ?_); at_builtin; refine Kd.R_append_rows (Kd.int .u8) (w0 := w) w.heap.size rfl (.tmp 106) (.tmp 110) 54 5 (.int .u8 0) 1 rfl Tryd.underlying54 info5 rfl (by decide) (by omega) (.slice Ao76 x3_2.length co76) x3_2 t274 _ _ _ (fun k_ => zO k_ (.slice Ao79 t274.length co79)) (fun _ => False) rfl rfl ?aO ?aR (fun _ _ h => h) (fun _ h => h.elim) ?aF ?aB ?aS ?aL ?_; (case aR => exact zc ((Kd.R_reads' HO276.out).2.2)); (case aB => exact (zs GE234.out)); (case aF => exact (fun k_ hk => Kd.fresh' (zl HO276.out) k_ hk)); (case aO => exact (by (with_reducible repeat (first | apply Kd.R_alloc | apply Kd.R_drewN | apply Kd.R_drew)); exact Kd.R_mono HO_3.out (fun _ hk => hk.2))); (case aS => exact (below_size (zs GE234.out))); (case aL => have := LMc74.out; omega); intro v278 w78 ho hb hg hat; rw [← Ny277.out] at ho; have n0_ := zA (blk_grown (g := gb234) (o := .cells #[.int .i64 a0_0, .int .i64 a0_1, .slice A0_2 l0_2.length c0_2, .slice A0_3 l0_3.length c0_3, .slice A0_4 l0_4.length c0_4] 47 (0, 0)) (zb BK234.out) hg (Kd.R_ne HO_3.out BK234.out (by decide))); have n1_ := zA (Kd.R_after (ok := (fun _ => True)) (zR HO276.out) hg hat); have n2_ := zA (hb); have n3_ := zA (ho); clear BK234 HO276 HB HO_3; have BK234 := n0_; have HO276 := n1_; have HB := n2_; have HO279 := n3_; clear n0_ n1_ n2_ n3_; clear ho hb hg hat))
           go_ret
           exact ⟨_, ze, by (with_reducible repeat (first | apply Kd.R_alloc | apply Kd.R_drewN | apply Kd.R_drew)); exact Kd.R_mono HO279.out (fun _ hk => trivial), (zs GE234.out)⟩
          ·rw [if_neg c74] at H
           exact absurd H (by simp)
   ·rw [if_neg c7] at H
    exact absurd H (by simp)
  ·rw [if_neg c5] at H
   exact absurd H (by simp)
 ·rw [if_neg c3] at H
  exact absurd H (by simp)

end Go.Proofs.YthbeplmihjhoeaaDoor.PFnExactEncodeImage
