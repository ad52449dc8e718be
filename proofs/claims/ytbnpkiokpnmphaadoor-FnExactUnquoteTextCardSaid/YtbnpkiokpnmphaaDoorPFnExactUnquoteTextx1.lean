-- made by wip/tools/myprint.py (this session's own program, over the kit's printer)
import Derived.Test.YtbnpkiokpnmphaaDoorPFnExactUnquoteTextx0
namespace Go.Proofs.YtbnpkiokpnmphaaDoor.PFnExactUnquoteText
open Go.RowKit Go.Proofs.YtbnpkiokpnmphaaDoorW.PrintWords Go.Proofs.YtbnpkiokpnmphaaDoorW.PrintLast Go.Proofs.YtbnpkiokpnmphaaDoorW.PrintMore
attribute [local go_sem] max2_int min2_int max_two min_two max_three min_three max_four min_four   -- for this text's walks alone
set_option linter.unusedVariables false
set_option linter.unusedSimpArgs false

/-! ### spec_l1point: function 22 -/
def spec_l1point.f (a0 : Int) : Option (Bool) := if a0 ≥ 0 then (if a0 ≤ 1114111 then (if a0 < 55296 then (some true) else (some (decide (a0 > 57343)))) else (some false)) else (some false)
set_option maxHeartbeats 8000000 in
set_option maxRecDepth 100000 in
theorem spec_l1point.calls (a0 : Int) (r : Bool) (w : World) (h : spec_l1point.f a0 = some r) :
  Calls Tryd.prog 22 #[.int .i64 a0] w fun e w' => e = .returned (.bool r) ∧ Drawn0 w w' := by
 have H : (if a0 ≥ 0 then (if a0 ≤ 1114111 then (if a0 < 55296 then (some true) else (some (decide (a0 > 57343)))) else (some false)) else (some false)) = some r := h; clear h
 by_cases c2 : a0 ≥ 0
 ·rw [if_pos c2] at H; have c2b0 : decide (0 ≤ a0) = true := decide_eq_true c2; clear c2
  by_cases c3 : a0 ≤ 1114111
  ·rw [if_pos c3] at H; have c3b0 := decide_eq_true c3; clear c3
   by_cases c4 : a0 < 55296
   ·rw [if_pos c4] at H; have c4b0 := decide_eq_true c4; clear c4; obtain rfl := Option.some.inj H; go_enter Tryd.func22, Tryd.ntmps22; go_wp2; go_ret; exact ⟨by first | rfl | (simp; done) | (simp [*]; done), by repeat (first | exact Drawn0.refl _ | apply Drawn0.step)⟩
   ·rw [if_neg c4] at H; have c4b0 := decide_eq_false c4; clear c4; obtain rfl := Option.some.inj H; go_enter Tryd.func22, Tryd.ntmps22; go_wp2; go_ret; exact ⟨by first | rfl | (simp; done) | (simp [*]; done), by repeat (first | exact Drawn0.refl _ | apply Drawn0.step)⟩
  ·rw [if_neg c3] at H; have c3b0 := decide_eq_false c3; clear c3; obtain rfl := Option.some.inj H; go_enter Tryd.func22, Tryd.ntmps22; go_wp2; go_ret; exact ⟨by first | rfl | (simp; done) | (simp [*]; done), by repeat (first | exact Drawn0.refl _ | apply Drawn0.step)⟩
 ·rw [if_neg c2] at H; have c2b0 : decide (0 ≤ a0) = false := decide_eq_false c2; clear c2; obtain rfl := Option.some.inj H; go_enter Tryd.func22, Tryd.ntmps22; go_wp2; go_ret; exact ⟨by first | rfl | (simp; done) | (simp [*]; done), by repeat (first | exact Drawn0.refl _ | apply Drawn0.step)⟩

/-! ### spec_l1utf8: function 23 -/
def spec_l1utf8.f (a0 : Int) : Option (List Int) := if a0 < 128 then (some (([(a0) % 256] : List Int))) else (if a0 < 2048 then (some (([(wrap64 (192 + (wrap64 (Int.tdiv a0 64)))) % 256, (wrap64 (128 + (Int.tmod a0 64))) % 256] : List Int))) else (if a0 < 65536 then (some (([(wrap64 (224 + (wrap64 (Int.tdiv a0 4096)))) % 256, (wrap64 (128 + (Int.tmod (wrap64 (Int.tdiv a0 64)) 64))) % 256, (wrap64 (128 + (Int.tmod a0 64))) % 256] : List Int))) else (some (([(wrap64 (240 + (wrap64 (Int.tdiv a0 262144)))) % 256, (wrap64 (128 + (Int.tmod (wrap64 (Int.tdiv a0 4096)) 64))) % 256, (wrap64 (128 + (Int.tmod (wrap64 (Int.tdiv a0 64)) 64))) % 256, (wrap64 (128 + (Int.tmod a0 64))) % 256] : List Int)))))
set_option maxHeartbeats 8000000 in
set_option maxRecDepth 100000 in
theorem spec_l1utf8.calls (a0 : Int) (r : List Int) (w : World) (h : spec_l1utf8.f a0 = some r) :
  Calls Tryd.prog 23 #[.int .i64 a0] w fun e w' => ∃ v0_ : Value, e = .returned (v0_) ∧ Kd.R (Kd.int .u8) 5 w' w.heap.size (fun _ => True) v0_ r ∧ Below w.heap.size w w' := by
 have HB := zA (Below.refl w.heap.size w); have H : (if a0 < 128 then (some (([(a0) % 256] : List Int))) else (if a0 < 2048 then (some (([(wrap64 (192 + (wrap64 (Int.tdiv a0 64)))) % 256, (wrap64 (128 + (Int.tmod a0 64))) % 256] : List Int))) else (if a0 < 65536 then (some (([(wrap64 (224 + (wrap64 (Int.tdiv a0 4096)))) % 256, (wrap64 (128 + (Int.tmod (wrap64 (Int.tdiv a0 64)) 64))) % 256, (wrap64 (128 + (Int.tmod a0 64))) % 256] : List Int))) else (some (([(wrap64 (240 + (wrap64 (Int.tdiv a0 262144)))) % 256, (wrap64 (128 + (Int.tmod (wrap64 (Int.tdiv a0 4096)) 64))) % 256, (wrap64 (128 + (Int.tmod (wrap64 (Int.tdiv a0 64)) 64))) % 256, (wrap64 (128 + (Int.tmod a0 64))) % 256] : List Int)))))) = some r := h; clear h
 by_cases c2 : a0 < 128
 ·rw [if_pos c2] at H; have c2b0 := decide_eq_true c2; clear c2; obtain ⟨y101, hy101⟩ : ∃ y_ : List Int, y_ = (([(a0) % 256] : List Int)) := ⟨_, rfl⟩; replace H : (some y101) = some r := zh hy101; have Ny101 := zA hy101; clear hy101; obtain rfl := Option.some.inj H; go_enter Tryd.func23, Tryd.ntmps23; go_wp2_with (first | ((with_reducible refine gate_dst (N := 7) rfl ?_); refine Kd.R_lit (Kd.int .u8) _ 5 ?hg (N := 7) ?hd (xs := ([(a0) % 256] : List Int)) (inner := [.int .u8 ((a0) % 256)]) (ok := fun _ => True) (okp := fun _ => True) ?hr ?hp (fun _ hk => hk) trivial (Below.refl _ _) (Nat.le_refl _) (by simp) ?_; (case hd => rfl); (case hg => rfl); (case hr => first | (go_simp; done) | (go_simp; rfl)); (case hp => exact (Reps.one (show Kd.M (Kd.int .u8) _ _ _ ((a0) % 256) [.int .u8 ((a0) % 256)] from rfl) (Reps.none _ _))); intro v102 w3 ho4 hb hg_ hnew_; clear hg_ hnew_; (first | rw [← Ny101.out] at ho4 | (simp only [Int.reduceToNat] at ho4; rw [← Ny101.out] at ho4)); have Ba := zA (Kd.R_lower ho4 (below_size z_)); replace HB := zA (below_step z_ hb); clear hb ho4)); go_ret; exact ⟨_, ze, by (with_reducible repeat (first | apply Kd.R_alloc | apply Kd.R_drewN | apply Kd.R_drew)); exact Ba.out, z_⟩
 ·rw [if_neg c2] at H; have c2b0 := decide_eq_false c2; clear c2
  by_cases c5 : a0 < 2048
  ·rw [if_pos c5] at H; have c5b0 := decide_eq_true c5; clear c5; obtain ⟨y104, hy104⟩ : ∃ y_ : List Int, y_ = (([(wrap64 (192 + (wrap64 (Int.tdiv a0 64)))) % 256, (wrap64 (128 + (Int.tmod a0 64))) % 256] : List Int)) := ⟨_, rfl⟩; replace H : (some y104) = some r := zh hy104; have Ny104 := zA hy104; clear hy104; obtain rfl := Option.some.inj H; go_enter Tryd.func23, Tryd.ntmps23; go_wp2_with (first | ((with_reducible refine gate_dst (N := 18) rfl ?_); refine Kd.R_lit (Kd.int .u8) _ 5 ?hg (N := 18) ?hd (xs := ([(wrap64 (192 + (wrap64 (Int.tdiv a0 64)))) % 256, (wrap64 (128 + (Int.tmod a0 64))) % 256] : List Int)) (inner := [.int .u8 ((wrap64 (192 + (wrap64 (Int.tdiv a0 64)))) % 256), .int .u8 ((wrap64 (128 + (Int.tmod a0 64))) % 256)]) (ok := fun _ => True) (okp := fun _ => True) ?hr ?hp (fun _ hk => hk) trivial (Below.refl _ _) (Nat.le_refl _) (by simp) ?_; (case hd => rfl); (case hg => rfl); (case hr => first | (go_simp; done) | (go_simp; rfl)); (case hp => exact (Reps.one (show Kd.M (Kd.int .u8) _ _ _ ((wrap64 (192 + (wrap64 (Int.tdiv a0 64)))) % 256) [.int .u8 ((wrap64 (192 + (wrap64 (Int.tdiv a0 64)))) % 256)] from rfl) (Reps.one (show Kd.M (Kd.int .u8) _ _ _ ((wrap64 (128 + (Int.tmod a0 64))) % 256) [.int .u8 ((wrap64 (128 + (Int.tmod a0 64))) % 256)] from rfl) (Reps.none _ _)))); intro v105 w6 ho7 hb hg_ hnew_; clear hg_ hnew_; (first | rw [← Ny104.out] at ho7 | (simp only [Int.reduceToNat] at ho7; rw [← Ny104.out] at ho7)); have Bb := zA (Kd.R_lower ho7 (below_size z_)); replace HB := zA (below_step z_ hb); clear hb ho7))
   go_ret; exact ⟨_, ze, by (with_reducible repeat (first | apply Kd.R_alloc | apply Kd.R_drewN | apply Kd.R_drew)); exact Bb.out, z_⟩
  ·rw [if_neg c5] at H; have c5b0 := decide_eq_false c5; clear c5
   by_cases c8 : a0 < 65536
   ·rw [if_pos c8] at H; have c8b0 := decide_eq_true c8; clear c8; obtain ⟨y107, hy107⟩ : ∃ y_ : List Int, y_ = (([(wrap64 (224 + (wrap64 (Int.tdiv a0 4096)))) % 256, (wrap64 (128 + (Int.tmod (wrap64 (Int.tdiv a0 64)) 64))) % 256, (wrap64 (128 + (Int.tmod a0 64))) % 256] : List Int)) := ⟨_, rfl⟩; replace H : (some y107) = some r := zh hy107; have Ny107 := zA hy107; clear hy107; obtain rfl := Option.some.inj H; go_enter Tryd.func23, Tryd.ntmps23; go_wp2_with (first | ((with_reducible refine gate_dst (N := 34) rfl ?_); refine Kd.R_lit (Kd.int .u8) _ 5 ?hg (N := 34) ?hd (xs := ([(wrap64 (224 + (wrap64 (Int.tdiv a0 4096)))) % 256, (wrap64 (128 + (Int.tmod (wrap64 (Int.tdiv a0 64)) 64))) % 256, (wrap64 (128 + (Int.tmod a0 64))) % 256] : List Int)) (inner := [.int .u8 ((wrap64 (224 + (wrap64 (Int.tdiv a0 4096)))) % 256), .int .u8 ((wrap64 (128 + (Int.tmod (wrap64 (Int.tdiv a0 64)) 64))) % 256), .int .u8 ((wrap64 (128 + (Int.tmod a0 64))) % 256)]) (ok := fun _ => True) (okp := fun _ => True) ?hr ?hp (fun _ hk => hk) trivial (Below.refl _ _) (Nat.le_refl _) (by simp) ?_; (case hd => rfl); (case hg => rfl); (case hr => first | (go_simp; done) | (go_simp; rfl)); (case hp => exact (Reps.one (show Kd.M (Kd.int .u8) _ _ _ ((wrap64 (224 + (wrap64 (Int.tdiv a0 4096)))) % 256) [.int .u8 ((wrap64 (224 + (wrap64 (Int.tdiv a0 4096)))) % 256)] from rfl) (Reps.one (show Kd.M (Kd.int .u8) _ _ _ ((wrap64 (128 + (Int.tmod (wrap64 (Int.tdiv a0 64)) 64))) % 256) [.int .u8 ((wrap64 (128 + (Int.tmod (wrap64 (Int.tdiv a0 64)) 64))) % 256)] from rfl) (Reps.one (show Kd.M (Kd.int .u8) _ _ _ ((wrap64 (128 + (Int.tmod a0 64))) % 256) [.int .u8 ((wrap64 (128 + (Int.tmod a0 64))) % 256)] from rfl) (Reps.none _ _))))); intro v108 w9 ho10 hb hg_ hnew_; clear hg_ hnew_; (first | rw [← Ny107.out] at ho10 | (simp only [Int.reduceToNat] at ho10; rw [← Ny107.out] at ho10)); have Bc := zA (Kd.R_lower ho10 (below_size z_)); replace HB := zA (below_step z_ hb); clear hb ho10))
    go_ret; exact ⟨_, ze, by (with_reducible repeat (first | apply Kd.R_alloc | apply Kd.R_drewN | apply Kd.R_drew)); exact Bc.out, z_⟩
   ·rw [if_neg c8] at H; have c8b0 := decide_eq_false c8; clear c8; obtain ⟨y110, hy110⟩ : ∃ y_ : List Int, y_ = (([(wrap64 (240 + (wrap64 (Int.tdiv a0 262144)))) % 256, (wrap64 (128 + (Int.tmod (wrap64 (Int.tdiv a0 4096)) 64))) % 256, (wrap64 (128 + (Int.tmod (wrap64 (Int.tdiv a0 64)) 64))) % 256, (wrap64 (128 + (Int.tmod a0 64))) % 256] : List Int)) := ⟨_, rfl⟩; replace H : (some y110) = some r := zh hy110; have Ny110 := zA hy110; clear hy110; obtain rfl := Option.some.inj H; go_enter Tryd.func23, Tryd.ntmps23; go_wp2_with (first | ((with_reducible refine gate_dst (N := 53) rfl ?_); refine Kd.R_lit (Kd.int .u8) _ 5 ?hg (N := 53) ?hd (xs := ([(wrap64 (240 + (wrap64 (Int.tdiv a0 262144)))) % 256, (wrap64 (128 + (Int.tmod (wrap64 (Int.tdiv a0 4096)) 64))) % 256, (wrap64 (128 + (Int.tmod (wrap64 (Int.tdiv a0 64)) 64))) % 256, (wrap64 (128 + (Int.tmod a0 64))) % 256] : List Int)) (inner := [.int .u8 ((wrap64 (240 + (wrap64 (Int.tdiv a0 262144)))) % 256), .int .u8 ((wrap64 (128 + (Int.tmod (wrap64 (Int.tdiv a0 4096)) 64))) % 256), .int .u8 ((wrap64 (128 + (Int.tmod (wrap64 (Int.tdiv a0 64)) 64))) % 256), .int .u8 ((wrap64 (128 + (Int.tmod a0 64))) % 256)]) (ok := fun _ => True) (okp := fun _ => True) ?hr ?hp (fun _ hk => hk) trivial (Below.refl _ _) (Nat.le_refl _) (by simp) ?_; (case hd => rfl); (case hg => rfl); (case hr => first | (go_simp; done) | (go_simp; rfl)); (case hp => exact (Reps.one (show Kd.M (Kd.int .u8) _ _ _ ((wrap64 (240 + (wrap64 (Int.tdiv a0 262144)))) % 256) [.int .u8 ((wrap64 (240 + (wrap64 (Int.tdiv a0 262144)))) % 256)] from rfl) (Reps.one (show Kd.M (Kd.int .u8) _ _ _ ((wrap64 (128 + (Int.tmod (wrap64 (Int.tdiv a0 4096)) 64))) % 256) [.int .u8 ((wrap64 (128 + (Int.tmod (wrap64 (Int.tdiv a0 4096)) 64))) % 256)] from rfl) (Reps.one (show Kd.M (Kd.int .u8) _ _ _ ((wrap64 (128 + (Int.tmod (wrap64 (Int.tdiv a0 64)) 64))) % 256) [.int .u8 ((wrap64 (128 + (Int.tmod (wrap64 (Int.tdiv a0 64)) 64))) % 256)] from rfl) (Reps.one (show Kd.M (Kd.int .u8) _ _ _ ((wrap64 (128 + (Int.tmod a0 64))) % 256) [.int .u8 ((wrap64 (128 + (Int.tmod a0 64))) % 256)] from rfl) (Reps.none _ _)))))); intro v111 w11 ho12 hb hg_ hnew_; clear hg_ hnew_; (first | rw [← Ny110.out] at ho12 | (simp only [Int.reduceToNat] at ho12; rw [← Ny110.out] at ho12)); have Bd := zA (Kd.R_lower ho12 (below_size z_)); replace HB := zA (below_step z_ hb); clear hb ho12))
    go_ret; exact ⟨_, ze, by (with_reducible repeat (first | apply Kd.R_alloc | apply Kd.R_drewN | apply Kd.R_drew)); exact Bd.out, z_⟩

/-! ### spec_l1char: function 20 -/
mutual
def spec_l1char.j0 : Nat → List Int → Int → Int → Int → Int → Bool → Option (Int × Int)
 | 0, _, _, _, _, _, _ => none
 | k + 1, x0, x1, x6, x7, x8, x24 => if x24 = true then (spec_l1char.j2 k x0 x1 2 (wrap64 (x6 - 192))) else (if x6 ≥ 224 then (spec_l1char.j1 k x0 x1 x6 x7 x8 (decide (x6 < 240))) else (spec_l1char.j1 k x0 x1 x6 x7 x8 false))
def spec_l1char.j2 : Nat → List Int → Int → Int → Int → Option (Int × Int)
 | 0, _, _, _, _ => none
 | k + 1, x0, x1, x7, x8 => if x7 = 0 then (spec_l1char.j3 k x0 x1 x7 x8 true) else (spec_l1char.j3 k x0 x1 x7 x8 (decide ((wrap64 (x1 + x7)) > (x0.length : Int))))
def spec_l1char.j3 : Nat → List Int → Int → Int → Int → Bool → Option (Int × Int)
 | 0, _, _, _, _, _ => none
 | k + 1, x0, x1, x7, x8, x52 => if x52 = true then (some (0, 0)) else (spec_l1char.l0 k x0 x1 x7 x8 1)
def spec_l1char.l0 : Nat → List Int → Int → Int → Int → Int → Option (Int × Int)
 | 0, _, _, _, _, _ => none
 | k + 1, x0, x1, x7, x8, x9 => if x9 < x7 then (if 0 ≤ (wrap64 (x1 + x9)) then (if (wrap64 (x1 + x9)) < (x0.length : Int) then (if (wrap64 (rd x0 (wrap64 (x1 + x9)))) < 128 then (some (0, 0)) else (if (wrap64 (rd x0 (wrap64 (x1 + x9)))) ≥ 192 then (some (0, 0)) else (spec_l1char.l0 k x0 x1 x7 (wrap64 ((wrap64 ((wrap64 (x8 * 64)) + (wrap64 (rd x0 (wrap64 (x1 + x9)))))) - 128)) (wrap64 (x9 + 1))))) else (none)) else (none)) else ((spec_l1point.f x8).bind fun Bl => (if Bl = true then ((spec_l1utf8.f x8).bind fun Bc => (if (Bc.length : Int) = x7 then (some (x7, x8)) else (some (0, 0)))) else (some (0, 0))))
def spec_l1char.j1 : Nat → List Int → Int → Int → Int → Int → Bool → Option (Int × Int)
 | 0, _, _, _, _, _, _ => none
 | k + 1, x0, x1, x6, x7, x8, x32 => if x32 = true then (spec_l1char.j2 k x0 x1 3 (wrap64 (x6 - 224))) else (if x6 ≥ 240 then (if x6 < 248 then (spec_l1char.j2 k x0 x1 4 (wrap64 (x6 - 240))) else (spec_l1char.j2 k x0 x1 x7 x8)) else (spec_l1char.j2 k x0 x1 x7 x8))
end
def spec_l1char.f (k : Nat) (l0 : List Int) (a1 : Int) : Option (Int × Int) := if 0 ≤ a1 then (if a1 < (l0.length : Int) then (if (wrap64 (rd l0 a1)) < 128 then (some (1, wrap64 (rd l0 a1))) else (if (wrap64 (rd l0 a1)) ≥ 192 then (spec_l1char.j0 k l0 a1 (wrap64 (rd l0 a1)) 0 0 (decide ((wrap64 (rd l0 a1)) < 224))) else (spec_l1char.j0 k l0 a1 (wrap64 (rd l0 a1)) 0 0 false))) else (none)) else (none)
theorem spec_l1char.mono_l : ∀ k, (∀ y0 y1 y2 y3 y4 y5, LeO (spec_l1char.j0 k y0 y1 y2 y3 y4 y5) (spec_l1char.j0 (k + 1) y0 y1 y2 y3 y4 y5)) ∧ (∀ y0 y1 y2 y3, LeO (spec_l1char.j2 k y0 y1 y2 y3) (spec_l1char.j2 (k + 1) y0 y1 y2 y3)) ∧ (∀ y0 y1 y2 y3 y4, LeO (spec_l1char.j3 k y0 y1 y2 y3 y4) (spec_l1char.j3 (k + 1) y0 y1 y2 y3 y4)) ∧ (∀ y0 y1 y2 y3 y4, LeO (spec_l1char.l0 k y0 y1 y2 y3 y4) (spec_l1char.l0 (k + 1) y0 y1 y2 y3 y4)) ∧ (∀ y0 y1 y2 y3 y4 y5, LeO (spec_l1char.j1 k y0 y1 y2 y3 y4 y5) (spec_l1char.j1 (k + 1) y0 y1 y2 y3 y4 y5))
 | 0 => ⟨fun _ _ _ _ _ _ r h => by simp [spec_l1char.j0] at h, fun _ _ _ _ r h => by simp [spec_l1char.j2] at h, fun _ _ _ _ _ r h => by simp [spec_l1char.j3] at h, fun _ _ _ _ _ r h => by simp [spec_l1char.l0] at h, fun _ _ _ _ _ _ r h => by simp [spec_l1char.j1] at h⟩
 | k + 1 => by
  obtain ⟨ih0, ih1, ih2, ih3, ih4⟩ := spec_l1char.mono_l k; refine ⟨?_, ?_, ?_, ?_, ?_⟩
  ·intro y0 y1 y2 y3 y4 y5; unfold spec_l1char.j0; exact zm
  ·intro y0 y1 y2 y3; unfold spec_l1char.j2; exact zm
  ·intro y0 y1 y2 y3 y4; unfold spec_l1char.j3; exact zm
  ·intro y0 y1 y2 y3 y4; unfold spec_l1char.l0; exact zm
  ·intro y0 y1 y2 y3 y4 y5; unfold spec_l1char.j1; exact zm
theorem spec_l1char.mono : ∀ a0 a1 k, LeO (spec_l1char.f k a0 a1) (spec_l1char.f (k + 1) a0 a1) := by
 intro a0 a1 k; obtain ⟨ih0, ih1, ih2, ih3, ih4⟩ := spec_l1char.mono_l k; unfold spec_l1char.f; exact zm
set_option maxHeartbeats 8000000 in
set_option maxRecDepth 100000 in
theorem spec_l1char.calls (k : Nat) (A0 : Option Addr) (c0 : Nat) (l0 : List Int) (a1 : Int) (r1 : Int) (r2 : Int) (w : World) (hr0 : Kd.C (Kd.int .u8) w A0 l0.length l0) (hc0 : l0.length ≤ c0) (h : spec_l1char.f k l0 a1 = some (r1, r2)) :
  Calls Tryd.prog 20 #[.slice A0 l0.length c0, .int .i64 a1] w fun e w' => e = .returned (.tuple #[.int .i64 r1, .int .i64 r2]) ∧ Below w.heap.size w w' := by
 have HR0 := zA hr0; have HC0 := zA hc0; clear hr0 hc0; have HB := zA (Below.refl w.heap.size w); have H : (if 0 ≤ a1 then (if a1 < (l0.length : Int) then (if (wrap64 (rd l0 a1)) < 128 then (some (1, wrap64 (rd l0 a1))) else (if (wrap64 (rd l0 a1)) ≥ 192 then (spec_l1char.j0 k l0 a1 (wrap64 (rd l0 a1)) 0 0 (decide ((wrap64 (rd l0 a1)) < 224))) else (spec_l1char.j0 k l0 a1 (wrap64 (rd l0 a1)) 0 0 false))) else (none)) else (none)) = some (r1, r2) := h; clear h
 by_cases c3 : 0 ≤ a1
 ·rw [if_pos c3] at H; have c3b0 := decide_eq_true c3; clear c3
  by_cases c4 : a1 < (l0.length : Int)
  ·rw [if_pos c4] at H; have c4b0 := decide_eq_true c4; clear c4
   by_cases c5 : (wrap64 (rd l0 a1)) < 128
   ·rw [if_pos c5] at H; have c5b0 := decide_eq_true c5; clear c5; simp only [Option.some.injEq, Prod.mk.injEq] at H; obtain ⟨rfl, rfl⟩ := H; have p113 : 0 ≤ (a1 : Int) := zd; have q113 : a1 < (l0.length : Int) := zd; obtain ⟨Bg, e113, haa⟩ := Kd.at_int HR0.out a1 p113 q113; cases e113; replace p113 := eq_true p113; replace q113 := eq_true q113; go_enter Tryd.func20, Tryd.ntmps20; go_wp2; go_ret2; exact ⟨ze, z_⟩
   ·rw [if_neg c5] at H; have c5b0 := decide_eq_false c5; clear c5; have HC6 := zA H; clear H; have p113 : 0 ≤ (a1 : Int) := zd; have q113 : a1 < (l0.length : Int) := zd; obtain ⟨Bg, e113, haa⟩ := Kd.at_int HR0.out a1 p113 q113; cases e113; replace p113 := eq_true p113; replace q113 := eq_true q113; go_enter Tryd.func20, Tryd.ntmps20
    go_upto_region 6 with (fail)
    go_cut [24] (fun v24 wc => ∃ (kq : Nat) (Bh : Bool), v24 = .bool Bh ∧ Aside0 (spec_l1char.j0 kq l0 a1 (wrap64 (rd l0 a1)) 0 0 Bh = some (r1, r2)) ∧ Aside0 (kq ≤ k) ∧ Aside0 (Below w.heap.size w wc))
    case first =>
     have H := HC6.out; clear HC6
     by_cases c7 : (wrap64 (rd l0 a1)) ≥ 192
     ·rw [if_pos c7] at H; have c7b0 : decide (192 ≤ (wrap64 (rd l0 a1))) = true := decide_eq_true c7; clear c7
      (first | rw [c7b0] | (simp only [i64_w, i32_w]; rw [c7b0]) | skip)
      have H' := zA H; clear H; go_wp2; go_meet
      case rel => exact ⟨_, (decide ((wrap64 (rd l0 a1)) < 224)), zr, H', ⟨by first | omega | exact Nat.le_refl _⟩, ⟨z_⟩⟩
     ·rw [if_neg c7] at H; have c7b0 : decide (192 ≤ (wrap64 (rd l0 a1))) = false := decide_eq_false c7; clear c7
      (first | rw [c7b0] | (simp only [i64_w, i32_w]; rw [c7b0]) | skip)
      have H' := zA H; clear H; go_wp2; go_meet
      case rel => exact ⟨_, (false), zr, H', ⟨by first | omega | exact Nat.le_refl _⟩, ⟨z_⟩⟩
    case rest =>
     clear HC6; (try clear p1); (try clear c3); (try clear c3b0); (try clear c4); (try clear c4b0); (try clear c5); (try clear c5b0); (try clear c7); (try clear c7b0); (try clear haa); (try clear p113); (try clear q113); obtain ⟨kq, Bh, rfl, HA, HJ5, HB⟩ := hcut; cases kq with
     | zero => exact absurd HA.out (by simp [spec_l1char.j0])
     | succ kj5 =>
      have H := HA.out; clear HA; simp only [spec_l1char.j0] at H; have HC8 := zA H; clear H
      go_upto_if 24 with (fail)
      go_cut [7, 8] (fun v7 v8 wc => ∃ (kq : Nat) (Bb : Int) (Bj : Int), v7 = .int .i64 Bb ∧ v8 = .int .i64 Bj ∧ Aside0 (spec_l1char.j2 kq l0 a1 Bb Bj = some (r1, r2)) ∧ Aside0 (kq ≤ kj5) ∧ Aside0 (Below w.heap.size w wc))
      case first =>
       have H := HC8.out; clear HC8
       by_cases c9 : Bh = true
       ·subst c9; have H1 : (spec_l1char.j2 kj5 l0 a1 2 (wrap64 ((wrap64 (rd l0 a1)) - 192))) = some (r1, r2) := by rw [if_pos rfl] at H; exact H
        clear H; have H := H1; clear H1; have H' := zA H; clear H; go_wp2; go_meet
        case rel => exact ⟨_, (2), (wrap64 ((wrap64 (rd l0 a1)) - 192)), zr, zr, H', ⟨by have := HJ5.out; first | omega | exact Nat.le_refl _⟩, ⟨z_⟩⟩
       ·replace c9 := Bool.eq_false_iff.mpr c9; subst c9; have H1 : (if (wrap64 (rd l0 a1)) ≥ 224 then (spec_l1char.j1 kj5 l0 a1 (wrap64 (rd l0 a1)) 0 0 (decide ((wrap64 (rd l0 a1)) < 240))) else (spec_l1char.j1 kj5 l0 a1 (wrap64 (rd l0 a1)) 0 0 false)) = some (r1, r2) := by rw [if_neg (show ¬ (false = true) by decide)] at H; exact H
        clear H; have H := H1; clear H1; have HC10 := zA H; clear H
        go_upto_region 9 with (fail)
        go_cut [32] (fun v32 wc => ∃ (kq : Nat) (Bi : Bool), v32 = .bool Bi ∧ Aside0 (spec_l1char.j1 kq l0 a1 (wrap64 (rd l0 a1)) 0 0 Bi = some (r1, r2)) ∧ Aside0 (kq ≤ kj5) ∧ Aside0 (Below w.heap.size w wc))
        case first =>
         have H := HC10.out; clear HC10
         by_cases c11 : (wrap64 (rd l0 a1)) ≥ 224
         ·rw [if_pos c11] at H; have c11b0 : decide (224 ≤ (wrap64 (rd l0 a1))) = true := decide_eq_true c11; clear c11
          (first | rw [c11b0] | (simp only [i64_w, i32_w]; rw [c11b0]) | skip)
          have H' := zA H; clear H; go_wp2; go_meet
          case rel => exact ⟨_, (decide ((wrap64 (rd l0 a1)) < 240)), zr, H', ⟨by have := HJ5.out; first | omega | exact Nat.le_refl _⟩, ⟨z_⟩⟩
         ·rw [if_neg c11] at H; have c11b0 : decide (224 ≤ (wrap64 (rd l0 a1))) = false := decide_eq_false c11; clear c11
          (first | rw [c11b0] | (simp only [i64_w, i32_w]; rw [c11b0]) | skip)
          have H' := zA H; clear H; go_wp2; go_meet
          case rel => exact ⟨_, (false), zr, H', ⟨by have := HJ5.out; first | omega | exact Nat.le_refl _⟩, ⟨z_⟩⟩
        case rest =>
         clear HC10; (try clear c1); (try clear c3); (try clear c3b0); (try clear c4); (try clear c4b0); (try clear c5); (try clear c5b0); (try clear c7); (try clear c7b0); (try clear c9); (try clear c11); (try clear c11b0); (try clear haa); (try clear p113); (try clear q113); obtain ⟨kq, Bi, rfl, HA, HJ9, HB⟩ := hcut; cases kq with
         | zero => exact absurd HA.out (by simp [spec_l1char.j1])
         | succ kj9 =>
          have H := HA.out; clear HA; simp only [spec_l1char.j1] at H
          by_cases c12 : Bi = true
          ·subst c12; have H1 : (spec_l1char.j2 kj9 l0 a1 3 (wrap64 ((wrap64 (rd l0 a1)) - 224))) = some (r1, r2) := by rw [if_pos rfl] at H; exact H
           clear H; have H := H1; clear H1; have H' := zA H; clear H; go_wp2; go_meet
           case rel => exact ⟨_, (3), (wrap64 ((wrap64 (rd l0 a1)) - 224)), zr, zr, H', ⟨by have := HJ5.out; have := HJ9.out; first | omega | exact Nat.le_refl _⟩, ⟨z_⟩⟩
          ·replace c12 := Bool.eq_false_iff.mpr c12; subst c12; have H1 : (if (wrap64 (rd l0 a1)) ≥ 240 then (if (wrap64 (rd l0 a1)) < 248 then (spec_l1char.j2 kj9 l0 a1 4 (wrap64 ((wrap64 (rd l0 a1)) - 240))) else (spec_l1char.j2 kj9 l0 a1 0 0)) else (spec_l1char.j2 kj9 l0 a1 0 0)) = some (r1, r2) := by rw [if_neg (show ¬ (false = true) by decide)] at H; exact H
           clear H; have H := H1; clear H1
           by_cases c13 : (wrap64 (rd l0 a1)) ≥ 240
           ·rw [if_pos c13] at H; have c13b0 : decide (240 ≤ (wrap64 (rd l0 a1))) = true := decide_eq_true c13; clear c13
            by_cases c14 : (wrap64 (rd l0 a1)) < 248
            ·rw [if_pos c14] at H; have c14b0 := decide_eq_true c14; clear c14; have H' := zA H; clear H; go_wp2; go_meet
             case rel => exact ⟨_, (4), (wrap64 ((wrap64 (rd l0 a1)) - 240)), zr, zr, H', ⟨by have := HJ5.out; have := HJ9.out; first | omega | exact Nat.le_refl _⟩, ⟨z_⟩⟩
            ·rw [if_neg c14] at H; have c14b0 := decide_eq_false c14; clear c14; have H' := zA H; clear H; go_wp2; go_meet
             case rel => exact ⟨_, (0), (0), zr, zr, H', ⟨by have := HJ5.out; have := HJ9.out; first | omega | exact Nat.le_refl _⟩, ⟨z_⟩⟩
           ·rw [if_neg c13] at H; have c13b0 : decide (240 ≤ (wrap64 (rd l0 a1))) = false := decide_eq_false c13; clear c13; have H' := zA H; clear H; go_wp2; go_meet
            case rel => exact ⟨_, (0), (0), zr, zr, H', ⟨by have := HJ5.out; have := HJ9.out; first | omega | exact Nat.le_refl _⟩, ⟨z_⟩⟩
      case rest =>
       clear HC8; (try clear c1); (try clear c3); (try clear c3b0); (try clear c4); (try clear c4b0); (try clear c5); (try clear c5b0); (try clear c7); (try clear c7b0); (try clear c9); (try clear c11); (try clear c11b0); (try clear c12); (try clear c13); (try clear c13b0); (try clear c14); (try clear c14b0); (try clear haa); (try clear p113); (try clear q113); obtain ⟨kq, Bb, Bj, rfl, rfl, HA, HJ7, HB⟩ := hcut; cases kq with
       | zero => exact absurd HA.out (by simp [spec_l1char.j2])
       | succ kj7 =>
        have H := HA.out; clear HA; simp only [spec_l1char.j2] at H; have HC15 := zA H; clear H
        go_upto_region 15 with (fail)
        go_cut [52] (fun v52 wc => ∃ (kq : Nat) (Bd : Bool), v52 = .bool Bd ∧ Aside0 (spec_l1char.j3 kq l0 a1 Bb Bj Bd = some (r1, r2)) ∧ Aside0 (kq ≤ kj7) ∧ Aside0 (Below w.heap.size w wc))
        case first =>
         have H := HC15.out; clear HC15
         by_cases c16 : Bb = 0
         ·rw [if_pos c16] at H; have c16b0 := beq_iff_eq.mpr c16; have c16b1 := bne_eq_false_iff_eq.mpr c16; clear c16
          (first | rw [c16b0] | (simp only [i64_w, i32_w]; rw [c16b0]) | skip)
          have H' := zA H; clear H; go_wp2; go_meet
          case rel => exact ⟨_, (true), zr, H', ⟨by have := HJ5.out; have := HJ7.out; first | omega | exact Nat.le_refl _⟩, ⟨z_⟩⟩
         ·rw [if_neg c16] at H; have c16b0 := beq_eq_false_iff_ne.mpr c16; have c16b1 := bne_iff_ne.mpr c16
          (first | rw [c16b0] | (simp only [i64_w, i32_w]; rw [c16b0]) | skip)
          have H' := zA H; clear H; go_wp2; go_meet
          case rel => exact ⟨_, (decide ((wrap64 (a1 + Bb)) > (l0.length : Int))), zr, H', ⟨by have := HJ5.out; have := HJ7.out; first | omega | exact Nat.le_refl _⟩, ⟨z_⟩⟩
        case rest =>
         clear HC15; (try clear c1); (try clear c3); (try clear c3b0); (try clear c4); (try clear c4b0); (try clear c5); (try clear c5b0); (try clear c7); (try clear c7b0); (try clear c9); (try clear c11); (try clear c11b0); (try clear c12); (try clear c13); (try clear c13b0); (try clear c14); (try clear c14b0); (try clear c16); (try clear c16b0); (try clear c16b1); (try clear haa); (try clear p113); (try clear q113); obtain ⟨kq, Bd, rfl, HA, HJ14, HB⟩ := hcut; cases kq with
         | zero => exact absurd HA.out (by simp [spec_l1char.j3])
         | succ kj14 =>
          have H := HA.out; clear HA; simp only [spec_l1char.j3] at H
          by_cases c17 : Bd = true
          ·subst c17; have H1 : (some (0, 0)) = some (r1, r2) := by rw [if_pos rfl] at H; exact H
           clear H; have H := H1; clear H1; simp only [Option.some.injEq, Prod.mk.injEq] at H; obtain ⟨rfl, rfl⟩ := H; go_wp2; go_ret2; exact ⟨ze, z_⟩
          ·replace c17 := Bool.eq_false_iff.mpr c17; subst c17; have H1 : (spec_l1char.l0 kj14 l0 a1 Bb Bj 1) = some (r1, r2) := by rw [if_neg (show ¬ (false = true) by decide)] at H; exact H
           clear H; have H := H1; clear H1; have H' := zA H; clear H; go_wp2
           go_loopg [8, 9] kj14 (fun kq v8 v9 w' => ∃ (Ba : Int) (Bf : Int), v8 = .int .i64 Ba ∧ v9 = .int .i64 Bf ∧ Aside0 (spec_l1char.l0 kq l0 a1 Bb Ba Bf = some (r1, r2)) ∧ Aside0 (kq ≤ kj14) ∧ Aside0 (Below w.heap.size w w'))
           case atStart => exact ⟨(Bj), (1), zr, zr, H', ⟨Nat.le_refl _⟩, ⟨z_⟩⟩
           case round =>
            clear H'; (try clear c1); (try clear c3); (try clear c3b0); (try clear c4); (try clear c4b0); (try clear c5); (try clear c5b0); (try clear c7); (try clear c7b0); (try clear c9); (try clear c11); (try clear c11b0); (try clear c12); (try clear c13); (try clear c13b0); (try clear c14); (try clear c14b0); (try clear c16); (try clear c16b0); (try clear c16b1); (try clear c17); (try clear haa); (try clear p113); (try clear q113); obtain ⟨Ba, Bf, rfl, rfl, HA, HK4, HB⟩ := hrel; cases gk with
            | zero => exact absurd HA.out (by simp [spec_l1char.l0])
            | succ k4 =>
             have H := HA.out; clear HA; simp only [spec_l1char.l0] at H
             by_cases c18 : Bf < Bb
             ·rw [if_pos c18] at H; have c18b0 := decide_eq_true c18; clear c18; obtain ⟨ji19, hji19⟩ : ∃ j_ : Int, (wrap64 (a1 + Bf)) = j_ := ⟨_, rfl⟩; replace H : (if 0 ≤ (ji19) then (if (ji19) < (l0.length : Int) then (if (wrap64 (rd l0 (ji19))) < 128 then (some (0, 0)) else (if (wrap64 (rd l0 (ji19))) ≥ 192 then (some (0, 0)) else (spec_l1char.l0 k4 l0 a1 Bb (wrap64 ((wrap64 ((wrap64 (Ba * 64)) + (wrap64 (rd l0 (ji19))))) - 128)) (wrap64 (Bf + 1))))) else (none)) else (none)) = some (r1, r2) := by first | (rw [hji19] at H; exact H) | (simp only [hji19] at H ⊢; exact H)
              have hji19w : (IntKind.i64.wrap (a1 + Bf)) = ji19 := (i64_w _).trans hji19
              by_cases c20 : 0 ≤ (ji19)
              ·rw [if_pos c20] at H; have c20b0 := decide_eq_true c20; clear c20
               by_cases c21 : (ji19) < (l0.length : Int)
               ·rw [if_pos c21] at H; have c21b0 := decide_eq_true c21; clear c21
                by_cases c22 : (wrap64 (rd l0 (ji19))) < 128
                ·rw [if_pos c22] at H; have c22b0 := decide_eq_true c22; clear c22; simp only [Option.some.injEq, Prod.mk.injEq] at H; obtain ⟨rfl, rfl⟩ := H; have p114 : 0 ≤ ((ji19) : Int) := zd; have q114 : (ji19) < (l0.length : Int) := zd; obtain ⟨Be, e114, hab⟩ := Kd.at_int HR0.out (ji19) p114 q114; obtain rfl : Bg = Be := (by injection e114); replace hab := zx HB.out hab; replace p114 := eq_true p114; replace q114 := eq_true q114; go_wp2; go_ret2; exact ⟨by first | rfl | (simp [errW_none, errW_some] <;> rfl) | (simp only [← hji19]; first | rfl | (simp [errW_none, errW_some] <;> rfl)) | (simp [*, errW_none, errW_some] <;> rfl), z_⟩
                ·rw [if_neg c22] at H; have c22b0 := decide_eq_false c22; clear c22
                 by_cases c23 : (wrap64 (rd l0 (ji19))) ≥ 192
                 ·rw [if_pos c23] at H; have c23b0 : decide (192 ≤ (wrap64 (rd l0 (ji19)))) = true := decide_eq_true c23; clear c23; simp only [Option.some.injEq, Prod.mk.injEq] at H; obtain ⟨rfl, rfl⟩ := H; have p114 : 0 ≤ ((ji19) : Int) := zd; have q114 : (ji19) < (l0.length : Int) := zd; obtain ⟨Be, e114, hab⟩ := Kd.at_int HR0.out (ji19) p114 q114; obtain rfl : Bg = Be := (by injection e114); replace hab := zx HB.out hab; replace p114 := eq_true p114; replace q114 := eq_true q114; go_wp2; go_ret2; exact ⟨by first | rfl | (simp [errW_none, errW_some] <;> rfl) | (simp only [← hji19]; first | rfl | (simp [errW_none, errW_some] <;> rfl)) | (simp [*, errW_none, errW_some] <;> rfl), z_⟩
                 ·rw [if_neg c23] at H; have c23b0 : decide (192 ≤ (wrap64 (rd l0 (ji19)))) = false := decide_eq_false c23; clear c23; have H' := zA H; clear H; have p114 : 0 ≤ ((ji19) : Int) := zd; have q114 : (ji19) < (l0.length : Int) := zd; obtain ⟨Be, e114, hab⟩ := Kd.at_int HR0.out (ji19) p114 q114; obtain rfl : Bg = Be := (by injection e114); replace hab := zx HB.out hab; replace p114 := eq_true p114; replace q114 := eq_true q114; go_wp2; go_roundg k4
                  case measure => have := HJ5.out; have := HJ7.out; have := HJ14.out; have := HK4.out; omega
                  case rel => exact ⟨(wrap64 ((wrap64 ((wrap64 (Ba * 64)) + (wrap64 (rd l0 (ji19))))) - 128)), (wrap64 (Bf + 1)), (by first | rfl | (simp; done) | (simp only [← hji19] <;> (first | rfl | simp)) | (simp [*]; done)), zr, H', ⟨by have := HJ5.out; have := HJ7.out; have := HJ14.out; have := HK4.out; omega⟩, ⟨z_⟩⟩
               ·rw [if_neg c21] at H; exact absurd H (by simp)
              ·rw [if_neg c20] at H; exact absurd H (by simp)
             ·rw [if_neg c18] at H; have c18b0 := decide_eq_false c18; clear c18; replace H := Option.bind_eq_some_iff.mp H; obtain ⟨Bl, A240, H⟩ := H; replace H : (if Bl = true then ((spec_l1utf8.f Ba).bind fun Bc => (if (Bc.length : Int) = Bb then (some (Bb, Ba)) else (some (0, 0)))) else (some (0, 0))) = some (r1, r2) := H; have A24 := zA A240; clear A240
              by_cases c25 : Bl = true
              ·subst c25; have H1 : ((spec_l1utf8.f Ba).bind fun Bc => (if (Bc.length : Int) = Bb then (some (Bb, Ba)) else (some (0, 0)))) = some (r1, r2) := by rw [if_pos rfl] at H; exact H
               clear H; have H := H1; clear H1; replace H := Option.bind_eq_some_iff.mp H; obtain ⟨Bc, A260, H⟩ := H; replace H : (if (Bc.length : Int) = Bb then (some (Bb, Ba)) else (some (0, 0))) = some (r1, r2) := H; have A26 := zA A260; clear A260
               by_cases c27 : (Bc.length : Int) = Bb
               ·rw [if_pos c27] at H; have c27b0 := beq_iff_eq.mpr c27; have c27b1 := bne_eq_false_iff_eq.mpr c27; clear c27; simp only [Option.some.injEq, Prod.mk.injEq] at H; obtain ⟨rfl, rfl⟩ := H; go_wp2_with (first | ((with_reducible refine gate_callee (f := 22) rfl ?_); refine goesL_ (some 77) rfl rfl Tryd.func22 (by kernel_rfl) rfl #[.int .i64 Ba] rfl za ?_; (with_reducible refine (spec_l1point.calls Ba true _ A24.out).mono ?_); rintro e w' ⟨rfl, ⟨nd, rfl⟩⟩; refine ⟨_, rfl, ?_⟩) | (go_at_call 23; (with_reducible refine (spec_l1utf8.calls Ba Bc _ A26.out).mono ?_); rintro e w28 ⟨v117, rfl, ho0, hb⟩; have Bk := zA (Kd.R_lower ho0 (below_size z_)); replace HB := zA (below_step z_ hb); (try clear hb); (try clear ho0); obtain ⟨Bo, Bq, Bm⟩ := Kd.R_slice Bk.out; subst Bm)); go_ret2; exact ⟨ze, z_⟩
               ·rw [if_neg c27] at H; have c27b0 := beq_eq_false_iff_ne.mpr c27; have c27b1 := bne_iff_ne.mpr c27; simp only [Option.some.injEq, Prod.mk.injEq] at H; obtain ⟨rfl, rfl⟩ := H; go_wp2_with (first | ((with_reducible refine gate_callee (f := 22) rfl ?_); refine goesL_ (some 77) rfl rfl Tryd.func22 (by kernel_rfl) rfl #[.int .i64 Ba] rfl za ?_; (with_reducible refine (spec_l1point.calls Ba true _ A24.out).mono ?_); rintro e w' ⟨rfl, ⟨nd, rfl⟩⟩; refine ⟨_, rfl, ?_⟩) | (go_at_call 23; (with_reducible refine (spec_l1utf8.calls Ba Bc _ A26.out).mono ?_); rintro e w30 ⟨v117, rfl, ho0, hb⟩; have Bk := zA (Kd.R_lower ho0 (below_size z_)); replace HB := zA (below_step z_ hb); (try clear hb); (try clear ho0); obtain ⟨Bp, Br, Bn⟩ := Kd.R_slice Bk.out; subst Bn)); go_ret2; exact ⟨ze, z_⟩
              ·replace c25 := Bool.eq_false_iff.mpr c25; subst c25; have H1 : (some (0, 0)) = some (r1, r2) := by rw [if_neg (show ¬ (false = true) by decide)] at H; exact H
               clear H; have H := H1; clear H1; simp only [Option.some.injEq, Prod.mk.injEq] at H; obtain ⟨rfl, rfl⟩ := H; go_wp2_with (first | ((with_reducible refine gate_callee (f := 22) rfl ?_); refine goesL_ (some 77) rfl rfl Tryd.func22 (by kernel_rfl) rfl #[.int .i64 Ba] rfl za ?_; (with_reducible refine (spec_l1point.calls Ba false _ A24.out).mono ?_); rintro e w' ⟨rfl, ⟨nd, rfl⟩⟩; refine ⟨_, rfl, ?_⟩)); go_ret2; exact ⟨ze, z_⟩
  ·rw [if_neg c4] at H; exact absurd H (by simp)
 ·rw [if_neg c3] at H; exact absurd H (by simp)

end Go.Proofs.YtbnpkiokpnmphaaDoor.PFnExactUnquoteText
