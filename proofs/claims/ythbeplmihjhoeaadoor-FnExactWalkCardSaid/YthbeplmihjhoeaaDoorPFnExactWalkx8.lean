-- made by wip/tools/myprint.py (this session's own program, over the kit's printer)
import Derived.Test.YthbeplmihjhoeaaDoorPFnExactWalkx0
import Derived.Test.YthbeplmihjhoeaaDoorPFnExactWalkx7
namespace Go.Proofs.YthbeplmihjhoeaaDoor.PFnExactWalk
open Go.RowKit Go.Proofs.YthbeplmihjhoeaaDoorW.PrintWords Go.Proofs.YthbeplmihjhoeaaDoorW.PrintLast Go.Proofs.YthbeplmihjhoeaaDoorW.PrintMore
attribute [local go_sem] max2_int min2_int max_two min_two max_three min_three max_four min_four   -- for this text's walks alone
set_option linter.unusedVariables false
set_option linter.unusedSimpArgs false

/-! ### laws_toIntSS: function 83 -/
def laws_toIntSS.l0 : Nat → List (List Int) → List (List Int) → Int → Option ((List (List Int)))
 | 0, _, _, _ => none
 | k + 1, x0, x3, x4 => if x4 < (x0.length : Int) then (if 0 ≤ x4 then ((laws_toIntS.f k (rd_L4 x0 x4)).bind fun t207 => (if x4 < (x3.length : Int) then (laws_toIntSS.l0 k x0 (x3.set (x4 : Int).toNat t207) (wrap64 (x4 + 1))) else (none))) else (none)) else (some x3)
def laws_toIntSS.f (k : Nat) (l0 : List (List Int)) : Option ((List (List Int))) := if 0 ≤ (l0.length : Int) then (if ((l0.length : Int) : Int).toNat ≤ 11728124029610 then (laws_toIntSS.l0 k l0 (List.replicate ((l0.length : Int) : Int).toNat []) 0) else (none)) else (none)
theorem laws_toIntSS.mono_l : ∀ k, (∀ y0 y1 y2, LeO (laws_toIntSS.l0 k y0 y1 y2) (laws_toIntSS.l0 (k + 1) y0 y1 y2))
 | 0 => fun _ _ _ r h => by simp [laws_toIntSS.l0] at h
 | k + 1 => by
  have ih0 := laws_toIntSS.mono_l k
  ·intro y0 y1 y2
   unfold laws_toIntSS.l0
   repeat' first
   | (with_reducible exact ih0 _ _ _)
   | (with_reducible exact laws_toIntS.mono _ _)
   | (with_reducible exact LeO.refl _)
   | (with_reducible exact LeO.none _)
   | (with_reducible refine LeO.ite ?_ ?_)
   | (with_reducible refine LeO.bind ?_ (fun _ => ?_))
   | exact LeO.none _
   | refine LeO.ite ?_ ?_
   | refine LeO.bind ?_ (fun _ => ?_)
theorem laws_toIntSS.mono : ∀ a0 k, LeO (laws_toIntSS.f k a0) (laws_toIntSS.f (k + 1) a0) := by
 intro a0 k
 have ih0 := laws_toIntSS.mono_l k
 unfold laws_toIntSS.f
 repeat' first
   | (with_reducible exact ih0 _ _ _)
   | (with_reducible exact laws_toIntS.mono _ _)
   | (with_reducible exact LeO.refl _)
   | (with_reducible exact LeO.none _)
   | (with_reducible refine LeO.ite ?_ ?_)
   | (with_reducible refine LeO.bind ?_ (fun _ => ?_))
   | exact LeO.none _
   | refine LeO.ite ?_ ?_
   | refine LeO.bind ?_ (fun _ => ?_)
set_option maxHeartbeats 8000000 in
set_option maxRecDepth 100000 in
theorem laws_toIntSS.calls (k : Nat) (A0 : Option Addr) (c0 : Nat) (l0 : List (List Int)) (r : List (List Int)) (w : World) (hr0 : Kd.C (Kd.slice 3 (Kd.int .i64)) w A0 l0.length l0) (hc0 : l0.length ≤ c0) (h : laws_toIntSS.f k l0 = some r) :
  Calls Tryd.prog 83 #[.slice A0 l0.length c0] w fun e w' => ∃ v0_ : Value, e = .returned (v0_) ∧ Kd.S (Kd.slice 3 (Kd.int .i64)) 22 w' w.heap.size (fun _ => True) v0_ r ∧ Below w.heap.size w w' := by
 have HR0 := Aside0.mk hr0
 have HC0 := Aside0.mk hc0
 clear hr0 hc0
 have HB := Aside0.mk (Below.refl w.heap.size w)
 have H : (if 0 ≤ (l0.length : Int) then (if ((l0.length : Int) : Int).toNat ≤ 11728124029610 then (laws_toIntSS.l0 k l0 (List.replicate ((l0.length : Int) : Int).toNat []) 0) else (none)) else (none)) = some r := h
 clear h
 by_cases c2 : 0 ≤ (l0.length : Int)
 ·rw [if_pos c2] at H
  have c2b0 := eq_true c2
  have c2b1 : decide (0 ≤ (l0.length : Int)) = true := decide_eq_true c2
  clear c2
  by_cases c3 : ((l0.length : Int) : Int).toNat ≤ 11728124029610
  ·rw [if_pos c3] at H
   have c3b0 := eq_true c3
   have c3b1 : decide (((l0.length : Int) : Int).toNat ≤ 11728124029610) = true := decide_eq_true c3
   clear c3
   obtain ⟨y203, hy203⟩ : ∃ y_ : List (List Int), y_ = (List.replicate ((l0.length : Int) : Int).toNat []) := ⟨_, rfl⟩
   replace H : (laws_toIntSS.l0 k l0 y203 0) = some r := zh hy203
   have Ny203 := Aside0.mk hy203
   clear hy203
   have H' := Aside0.mk H
   clear H
   go_enter Tryd.func83, Tryd.ntmps83
   go_wp2_with (first | ((with_reducible refine gate_dst (N := 7) rfl ?_); refine Kd.S_make (Kd.slice 3 (Kd.int .i64)) _ 22 rfl (N := 7) rfl 40 _ _ rfl (l0.length : Int) rfl rfl Tryd.underlying40 (.slice none 0 0) 24 info22 rfl (by decide) (by omega) [] (ok := fun _ => True) (okp := fun _ => True) ⟨_, rfl, Kd.R_nil _ _ _ _ _⟩ (fun _ hk => hk) trivial (zd) (Nat.le_trans (Nat.mul_le_mul_right _ (zd : (l0.length : Int).toNat ≤ 11728124029610)) (by omega)) (Below.refl _ _) (Nat.le_refl _) ?_; intro v204 w4 ho5 hb hg_ hnew_; clear hg_ hnew_; (first | rw [← Ny203.out] at ho5 | (simp only [Int.reduceToNat] at ho5; rw [← Ny203.out] at ho5)); have n0_ := Aside0.mk (Kd.S_lower ho5 (below_size z_)); have n1_ := Aside0.mk (below_step z_ hb); clear HB; have HO205 := n0_; have HB := n1_; clear n0_ n1_; clear hb ho5))
   go_loopg [4] k (fun kq v4 w' => ∃ (x3_1 : List (List Int)) (x4_1 : Int), v4 = .int .i64 x4_1 ∧ Aside0 (laws_toIntSS.l0 kq l0 x3_1 x4_1 = some r) ∧ Aside0 (kq ≤ k) ∧ Aside0 (Kd.S (Kd.slice 3 (Kd.int .i64)) 22 w' w.heap.size (fun _ => True) v204 x3_1) ∧ Aside0 (Below w.heap.size w w'))
   case atStart => exact ⟨(y203), (0), zr, H', ⟨Nat.le_refl _⟩, ⟨zS HO205.out⟩, ⟨z_⟩⟩
   case round =>
    clear H'
    try clear c2
    try clear c2b0
    try clear c2b1
    try clear p2
    try clear c3
    try clear c3b0
    try clear c3b1
    obtain ⟨x3_1, x4_1, rfl, HA, HK1, HO_3, HB⟩ := hrel
    cases gk with
    | zero => exact absurd HA.out (by simp [laws_toIntSS.l0])
    | succ k1 =>
     have H := HA.out
     clear HA
     simp only [laws_toIntSS.l0] at H
     by_cases c6 : x4_1 < (l0.length : Int)
     ·rw [if_pos c6] at H
      have c6b0 : decide (x4_1 < (l0.length : Int)) = true := decide_eq_true c6
      clear c6
      by_cases c7 : 0 ≤ x4_1
      ·rw [if_pos c7] at H
       have c7b0 : decide (0 ≤ x4_1) = true := decide_eq_true c7
       clear c7
       replace H := Option.bind_eq_some_iff.mp H
       obtain ⟨t207, A80, H⟩ := H
       replace H : (if x4_1 < (x3_1.length : Int) then (laws_toIntSS.l0 k1 l0 (x3_1.set (x4_1 : Int).toNat t207) (wrap64 (x4_1 + 1))) else (none)) = some r := H
       have A8 := Aside0.mk A80
       clear A80
       by_cases c9 : x4_1 < (x3_1.length : Int)
       ·rw [if_pos c9] at H
        have c9b0 : decide (x4_1 < (x3_1.length : Int)) = true := decide_eq_true c9
        clear c9
        obtain ⟨y210, hy210⟩ : ∃ y_ : List (List Int), y_ = (x3_1.set (x4_1 : Int).toNat t207) := ⟨_, rfl⟩
        replace H : (laws_toIntSS.l0 k1 l0 y210 (wrap64 (x4_1 + 1))) = some r := zh hy210
        have Ny210 := Aside0.mk hy210
        clear hy210
        have H' := Aside0.mk H
        clear H
        have p206 : 0 ≤ (x4_1 : Int) := zd
        have q206 : x4_1 < (l0.length : Int) := zd
        obtain ⟨ad206, A206_0, c206_0, e206, hx206_0, hl206_0, hi206_0⟩ := at_L4 HR0.out x4_1 p206 q206
        cases e206
        replace hx206_0 := (HB.out.cell (World.block_lt_of_cell? w _ hx206_0)).trans hx206_0
        have HR206_0 := Aside0.mk hi206_0
        have HC206_0 := Aside0.mk hl206_0
        clear hi206_0 hl206_0
        replace p206 := eq_true p206
        replace q206 := eq_true q206
        go_wp2_with (first | ((with_reducible refine gate_callee (f := 72) rfl ?_); refine goesL_ (some 20) rfl rfl Tryd.func72 (by kernel_rfl) rfl #[.slice A206_0 (rd_L4 l0 x4_1).length c206_0] rfl za ?_; (with_reducible refine (laws_toIntS.calls k1 _ _ (rd_L4 l0 x4_1) t207 _ ?side1 ?side2 A8.out).mono ?_); (case side1 => exact zc (Kd.C_below HR206_0.out HB.out)); (case side2 => exact HC206_0.out); rintro e w11 ⟨v208, rfl, ho0, hb⟩; refine ⟨_, rfl, ?_⟩; have n0_ := Aside0.mk (Kd.S_elder' (zS HO_3.out) (Kd.R_base ho0) hb); have n1_ := Aside0.mk (Kd.R_lower ho0 (below_size z_)); have n2_ := Aside0.mk (below_step z_ hb); clear HO_3; clear HB; have HO_3 := n0_; have HO209 := n1_; have HB := n2_; clear n0_ n1_ n2_; (try clear hb); (try clear hb2); (try clear hk); (try clear hi); (try clear ho0); have p10 : 0 ≤ (x4_1 : Int) := zd; have q10 : (x4_1 : Int) < ((x3_1.length : Int) : Int) := zd; obtain ⟨go10, co10, eo10, gb10, gl10, cl10, HG10⟩ := Kd.S_form HO_3.out (by omega); (first | cases eo10 | (injection eo10 with ea_ en_ ec_; (first | subst ea_ | (injection ea_ with ea_; subst ea_)); subst ec_; clear en_)); have GB10 := Aside0.mk gb10; have GG10 := Aside0.mk HG10; clear gb10 gl10 HG10; obtain ⟨_, ce10, hcl10, hM10, hcc10, hfr10, _, _⟩ := Kd.S_elem HO_3.out [] (x4_1 : Int) p10 q10; obtain ⟨ve10_0, rfl, ge10_0⟩ := hM10; have hx10_0 := hcc10 0 _ rfl; have hf10_0 := hfr10 0; (try simp only [show ((Kd.slice 3 (Kd.int .i64))).sz = 1 from rfl, Nat.mul_one, Nat.add_zero] at hx10_0); (try simp only [show ((Kd.slice 3 (Kd.int .i64))).sz = 1 from rfl, Nat.mul_one, Nat.add_zero] at hf10_0); (try clear hcl10); (try clear hcc10); (try clear hfr10); (try clear hM10); replace p10 := eq_true p10; replace q10 := eq_true q10; have n_ := Aside0.mk (Kd.S_mono (ok' := (fun k_ => some k_ ≠ (v208 : Value).ownBlock)) HO_3.out (fun k_ hk => hk.2)); clear HO_3; have HO_3 := n_; clear n_; have HX12 := Aside0.mk (show Kd.S (Kd.slice 3 (Kd.int .i64)) 22 w11 w.heap.size (fun k_ => ((fun _ => True)) k_ ∧ ¬ ((fun k_ => some k_ = (v208 : Value).ownBlock)) k_) (.slice (some ⟨go10, 0, none⟩) x3_1.length co10) x3_1 from (by (with_reducible repeat (first | apply Kd.S_alloc | apply Kd.S_drewN | apply Kd.S_drew)); exact Kd.S_mono HO_3.out (fun k_ hk => ⟨trivial, fun e_ => hk e_⟩))); obtain ⟨oki12, ce12, hcl12, hM12, hcc12, hfr12, hoki12, hH12⟩ := Kd.S_elem HX12.out [] (x4_1 : Int) (zd) (by have h_ : (x4_1 : Int) < ((x3_1.length : Int) : Int) := zd; first | exact h_ | (have e_ := (Kd.S_reads' HO_3.out).1; omega) | simpa using h_); obtain ⟨ve12_0, rfl, ge12_0⟩ := hM12; have HP12 := Kd.S_seg hH12 (zd) (by have h_ : (x4_1 : Int) < ((x3_1.length : Int) : Int) := zd; first | exact h_ | (have e_ := (Kd.S_reads' HO_3.out).1; omega) | simpa using h_) (seg := [v208]) (j := 0) (show 1 ≤ 1 from by decide) (x' := t207) (Kd.M_row (Kd.R_mono (Kd.R_tight rfl (Kd.R_mono (ok' := fun k_ => ((fun _ => True)) k_ ∧ k_ ≠ go10) (Kd.R_apart' (HO209.out) (Kd.S_typed HO_3.out) (by decide)) (fun k_ hk => ⟨trivial, fun e_ => (hk.2) (by rw [e_]; rfl)⟩))) (fun _ h_ => Or.inr (h_)))) (fun _ hk => hk) (fun k_ hk_ => ((Kd.R_mono (ok' := fun k_ => ((fun _ => True)) k_ ∧ k_ ≠ go10) (Kd.R_apart' (HO209.out) (Kd.S_typed HO_3.out) (by decide)) (fun k_ hk => ⟨trivial, fun e_ => (hk.2) (by rw [e_]; rfl)⟩))).1 k_ hk_.symm); have hx12_0 := hcc12 0 _ rfl; (try simp only [show ((Kd.slice 3 (Kd.int .i64))).sz = 1 from rfl, Nat.mul_one, Nat.add_zero] at hx12_0); have hf12_0 := hfr12 0; (try simp only [show ((Kd.slice 3 (Kd.int .i64))).sz = 1 from rfl, Nat.mul_one, Nat.add_zero] at hf12_0); (try clear hcl12); (try clear hcc12); (try clear hfr12); (try clear hM12); (try clear hoki12); (try clear hH12); (try simp only [show ((Kd.slice 3 (Kd.int .i64))).sz = 1 from rfl, Nat.mul_one, Nat.add_zero] at HP12)) | ((with_reducible refine gate_store (t := 22) (p := 21) rfl ?_); refine store_event (t := 22) (p := 21) (v := ?vo_w13) (w1 := (w11.setCell ⟨go10, (x4_1 : Int).toNat, none⟩ (v208))) ?hg ?ho ?hn ?hr ?_; (case ho => rfl); (case hg => rfl); (case hn => rfl); (case hr => first | (go_simp; done) | (go_simp; rfl) | (obtain ⟨_, _, e_v208, _, _⟩ := Kd.R_reads (‹Aside0 (Kd.R _ _ _ _ _ v208 _)›).out; subst e_v208; first | (go_simp; done) | (go_simp; rfl))); intro w13 hw; have hg : w11.grownBy w13 (some go10) := (by rw [hw]; exact HP12.2); have hp_ : Kd.S (Kd.slice 3 (Kd.int .i64)) 22 w13 w.heap.size (fun _ => True) (.slice (some ⟨go10, 0, none⟩) x3_1.length co10) y210 := (by rw [hw, Ny210.out]; exact HP12.1); clear HP12; have n0_ := Aside0.mk (hp_); have n1_ := Aside0.mk ((by rw [hw]; exact below_set (HB.out) GB10.out : Below w.heap.size w w13)); clear HO_3; clear HB; clear HO209; have HO_3 := n0_; have HB := n1_; clear n0_ n1_; clear hg hw hp_))
        go_roundg k1
        case measure => have := HK1.out; omega
        case rel => exact ⟨(y210), (wrap64 (x4_1 + 1)), zr, H', ⟨by have := HK1.out; omega⟩, ⟨zS HO_3.out⟩, ⟨z_⟩⟩
       ·rw [if_neg c9] at H
        exact absurd H (by simp)
      ·rw [if_neg c7] at H
       exact absurd H (by simp)
     ·rw [if_neg c6] at H
      have c6b0 : decide (x4_1 < (l0.length : Int)) = false := decide_eq_false c6
      clear c6
      obtain rfl := Option.some.inj H
      go_wp2
      go_ret
      exact ⟨_, ze, by (with_reducible repeat (first | apply Kd.S_alloc | apply Kd.S_drewN | apply Kd.S_drew)); exact HO_3.out, by repeat (first | (with_reducible first | exact HB.out | apply below_alloc | apply pw_below_drewN | apply below_drew1) | exact HB.out)⟩
  ·rw [if_neg c3] at H
   exact absurd H (by simp)
 ·rw [if_neg c2] at H
  exact absurd H (by simp)

/-! ### laws_toTables: function 24 -/
def laws_toTables.f (k : Nat) (a0_0 : Int) (a0_1 : Int) (l0_2 : List (S185)) (l0_3 : List (List Int)) (l0_4 : List (List Int)) : Option (Int × Int × (List (S120)) × (List (List Int)) × (List (List Int))) := (laws_toTargetS.f k l0_2).bind fun t214 => ((laws_toIntSS.f k l0_3).bind fun t217 => ((laws_toIntSS.f k l0_4).bind fun t220 => (some (a0_0, a0_1, t214, t217, t220))))
theorem laws_toTables.mono : ∀ a0 a1 a2 a3 a4 k, LeO (laws_toTables.f k a0 a1 a2 a3 a4) (laws_toTables.f (k + 1) a0 a1 a2 a3 a4) := by
 intro a0 a1 a2 a3 a4 k
 unfold laws_toTables.f
 repeat' first
   | (with_reducible exact laws_toIntSS.mono _ _)
   | (with_reducible exact laws_toTargetS.mono _ _)
   | (with_reducible exact LeO.refl _)
   | (with_reducible exact LeO.none _)
   | (with_reducible refine LeO.ite ?_ ?_)
   | (with_reducible refine LeO.bind ?_ (fun _ => ?_))
   | exact LeO.none _
   | refine LeO.ite ?_ ?_
   | refine LeO.bind ?_ (fun _ => ?_)
set_option maxHeartbeats 8000000 in
set_option maxRecDepth 100000 in
theorem laws_toTables.calls (k : Nat) (a0_0 : Int) (a0_1 : Int) (A0_2 : Option Addr) (c0_2 : Nat) (l0_2 : List (S185)) (A0_3 : Option Addr) (c0_3 : Nat) (l0_3 : List (List Int)) (A0_4 : Option Addr) (c0_4 : Nat) (l0_4 : List (List Int)) (r1 : Int) (r2 : Int) (r3 : List (S120)) (r4 : List (List Int)) (r5 : List (List Int)) (w : World) (hr0_2 : Kd.C k185 w A0_2 l0_2.length l0_2) (hc0_2 : l0_2.length ≤ c0_2) (hr0_3 : Kd.C (Kd.slice 3 (Kd.int .i64)) w A0_3 l0_3.length l0_3) (hc0_3 : l0_3.length ≤ c0_3) (hr0_4 : Kd.C (Kd.slice 3 (Kd.int .i64)) w A0_4 l0_4.length l0_4) (hc0_4 : l0_4.length ≤ c0_4) (h : laws_toTables.f k a0_0 a0_1 l0_2 l0_3 l0_4 = some (r1, r2, r3, r4, r5)) :
  Calls Tryd.prog 24 #[.agg #[.int .i64 a0_0, .int .i64 a0_1, .slice A0_2 l0_2.length c0_2, .slice A0_3 l0_3.length c0_3, .slice A0_4 l0_4.length c0_4]] w fun e w' => ∃ v2_ v3_ v4_ : Value, e = .returned (.agg #[.int .i64 r1, .int .i64 r2, v2_, v3_, v4_]) ∧ Kd.S k120 120 w' w.heap.size (fun _ => True) v2_ r3 ∧ Kd.S (Kd.slice 3 (Kd.int .i64)) 22 w' w.heap.size (fun k_ => some k_ ≠ (v4_ : Value).ownBlock) v3_ r4 ∧ Kd.S (Kd.slice 3 (Kd.int .i64)) 22 w' w.heap.size (fun k_ => some k_ ≠ (v3_ : Value).ownBlock) v4_ r5 ∧ Below w.heap.size w w' := by
 have hu42 := Tryd.underlying42
 have hu47 := Tryd.underlying47
 have HR0_2 := Aside0.mk hr0_2
 have HC0_2 := Aside0.mk hc0_2
 clear hr0_2 hc0_2
 have HR0_3 := Aside0.mk hr0_3
 have HC0_3 := Aside0.mk hc0_3
 clear hr0_3 hc0_3
 have HR0_4 := Aside0.mk hr0_4
 have HC0_4 := Aside0.mk hc0_4
 clear hr0_4 hc0_4
 have HB := Aside0.mk (Below.refl w.heap.size w)
 have H : ((laws_toTargetS.f k l0_2).bind fun t214 => ((laws_toIntSS.f k l0_3).bind fun t217 => ((laws_toIntSS.f k l0_4).bind fun t220 => (some (a0_0, a0_1, t214, t217, t220))))) = some (r1, r2, r3, r4, r5) := h
 clear h
 replace H := Option.bind_eq_some_iff.mp H
 obtain ⟨t214, A20, H⟩ := H
 replace H : ((laws_toIntSS.f k l0_3).bind fun t217 => ((laws_toIntSS.f k l0_4).bind fun t220 => (some (a0_0, a0_1, t214, t217, t220)))) = some (r1, r2, r3, r4, r5) := H
 have A2 := Aside0.mk A20
 clear A20
 replace H := Option.bind_eq_some_iff.mp H
 obtain ⟨t217, A30, H⟩ := H
 replace H : ((laws_toIntSS.f k l0_4).bind fun t220 => (some (a0_0, a0_1, t214, t217, t220))) = some (r1, r2, r3, r4, r5) := H
 have A3 := Aside0.mk A30
 clear A30
 replace H := Option.bind_eq_some_iff.mp H
 obtain ⟨t220, A40, H⟩ := H
 replace H : (some (a0_0, a0_1, t214, t217, t220)) = some (r1, r2, r3, r4, r5) := H
 have A4 := Aside0.mk A40
 clear A40
 simp only [Option.some.injEq, Prod.mk.injEq] at H
 obtain ⟨rfl, rfl, rfl, rfl, rfl⟩ := H
 go_enter Tryd.func24, Tryd.ntmps24
 go_wp2_with (first | ((with_reducible refine gate_dst (N := 1) rfl ?_); refine box_event ?hg (N := 1) ?hd (cs := #[.int .i64 a0_0, .int .i64 a0_1, .slice A0_2 l0_2.length c0_2, .slice A0_3 l0_3.length c0_3, .slice A0_4 l0_4.length c0_4]) (t := 42) ?hr ?_; (case hd => rfl); (case hg => rfl); (case hr => first | (go_simp; done) | (go_simp; rfl)); intro gb211 hg w5 hbox hb; have n0_ := Aside0.mk (below_step z_ hb); have n1_ := Aside0.mk (hbox); have n2_ := Aside0.mk ((by rw [hg]; exact (below_size z_) : w.heap.size ≤ gb211)); have n3_ := Aside0.mk ((by rw [hg]; exact (below_size z_) : w.heap.size ≤ gb211)); clear HB; have HB := n0_; have BK211 := n1_; have GW211 := n2_; have GE211 := n3_; clear n0_ n1_ n2_ n3_; clear hb hbox hg) | ((with_reducible refine gate_dst (N := 2) rfl ?_); refine box_event ?hg (N := 2) ?hd (cs := #[.int .i64 0, .int .i64 0, .slice none 0 0, .slice none 0 0, .slice none 0 0]) (t := 47) ?hr ?_; (case hd => rfl); (case hg => rfl); (case hr => first | (go_simp; done) | (go_simp; rfl)); intro gb212 hg w6 hbox hb; have n0_ := Aside0.mk (blk_below (g := gb211) (o := .cells #[.int .i64 a0_0, .int .i64 a0_1, .slice A0_2 l0_2.length c0_2, .slice A0_3 l0_3.length c0_3, .slice A0_4 l0_4.length c0_4] 42 (0, 0)) (zb BK211.out) hb); have n1_ := Aside0.mk (below_step (zs GE211.out) hb); have n2_ := Aside0.mk (hbox); have n3_ := Aside0.mk ((by rw [hg]; exact (below_size (zs GE211.out)) : w.heap.size ≤ gb212)); have n4_ := Aside0.mk ((by rw [hg]; exact (below_size (zs GE211.out)) : w.heap.size ≤ gb212)); have n5_ := Aside0.mk ((by rw [hg]; exact Nat.ne_of_lt (blk_lt (g := gb211) (o := .cells #[.int .i64 a0_0, .int .i64 a0_1, .slice A0_2 l0_2.length c0_2, .slice A0_3 l0_3.length c0_3, .slice A0_4 l0_4.length c0_4] 42 (0, 0)) (zb BK211.out)) : gb211 ≠ gb212)); have n6_ := Aside0.mk ((by rw [hg]; exact Nat.ne_of_gt (blk_lt (g := gb211) (o := .cells #[.int .i64 a0_0, .int .i64 a0_1, .slice A0_2 l0_2.length c0_2, .slice A0_3 l0_3.length c0_3, .slice A0_4 l0_4.length c0_4] 42 (0, 0)) (zb BK211.out)) : gb212 ≠ gb211)); clear BK211; clear HB; have BK211 := n0_; have HB := n1_; have BK212 := n2_; have GW212 := n3_; have GE212 := n4_; have NB211_212 := n5_; have NB212_211 := n6_; clear n0_ n1_ n2_ n3_ n4_ n5_ n6_; clear hb hbox hg) | ((with_reducible refine gate_dst (N := 3) rfl ?_); refine box_event ?hg (N := 3) ?hd (cs := #[.int .i64 0, .int .i64 0, .slice none 0 0, .slice none 0 0, .slice none 0 0]) (t := 47) ?hr ?_; (case hd => rfl); (case hg => rfl); (case hr => first | (go_simp; done) | (go_simp; rfl)); intro gb213 hg w7 hbox hb; have n0_ := Aside0.mk (blk_below (g := gb211) (o := .cells #[.int .i64 a0_0, .int .i64 a0_1, .slice A0_2 l0_2.length c0_2, .slice A0_3 l0_3.length c0_3, .slice A0_4 l0_4.length c0_4] 42 (0, 0)) (zb BK211.out) hb); have n1_ := Aside0.mk (blk_below (g := gb212) (o := .cells #[.int .i64 0, .int .i64 0, .slice none 0 0, .slice none 0 0, .slice none 0 0] 47 (0, 0)) (zb BK212.out) hb); have n2_ := Aside0.mk (below_step (by repeat (first | (with_reducible first | exact HB.out | apply below_alloc | apply pw_below_drewN | apply below_drew1 | refine below_set ?_ GE211.out | refine below_set ?_ GE212.out) | exact HB.out)) hb); have n3_ := Aside0.mk (hbox); have n4_ := Aside0.mk ((by rw [hg]; exact (below_size (by repeat (first | (with_reducible first | exact HB.out | apply below_alloc | apply pw_below_drewN | apply below_drew1 | refine below_set ?_ GE211.out | refine below_set ?_ GE212.out) | exact HB.out))) : w.heap.size ≤ gb213)); have n5_ := Aside0.mk ((by rw [hg]; exact (below_size (by repeat (first | (with_reducible first | exact HB.out | apply below_alloc | apply pw_below_drewN | apply below_drew1 | refine below_set ?_ GE211.out | refine below_set ?_ GE212.out) | exact HB.out))) : w.heap.size ≤ gb213)); have n6_ := Aside0.mk ((by rw [hg]; exact Nat.ne_of_lt (blk_lt (g := gb211) (o := .cells #[.int .i64 a0_0, .int .i64 a0_1, .slice A0_2 l0_2.length c0_2, .slice A0_3 l0_3.length c0_3, .slice A0_4 l0_4.length c0_4] 42 (0, 0)) (zb BK211.out)) : gb211 ≠ gb213)); have n7_ := Aside0.mk ((by rw [hg]; exact Nat.ne_of_gt (blk_lt (g := gb211) (o := .cells #[.int .i64 a0_0, .int .i64 a0_1, .slice A0_2 l0_2.length c0_2, .slice A0_3 l0_3.length c0_3, .slice A0_4 l0_4.length c0_4] 42 (0, 0)) (zb BK211.out)) : gb213 ≠ gb211)); have n8_ := Aside0.mk ((by rw [hg]; exact Nat.ne_of_lt (blk_lt (g := gb212) (o := .cells #[.int .i64 0, .int .i64 0, .slice none 0 0, .slice none 0 0, .slice none 0 0] 47 (0, 0)) (zb BK212.out)) : gb212 ≠ gb213)); have n9_ := Aside0.mk ((by rw [hg]; exact Nat.ne_of_gt (blk_lt (g := gb212) (o := .cells #[.int .i64 0, .int .i64 0, .slice none 0 0, .slice none 0 0, .slice none 0 0] 47 (0, 0)) (zb BK212.out)) : gb213 ≠ gb212)); clear BK211; clear BK212; clear HB; have BK211 := n0_; have BK212 := n1_; have HB := n2_; have BK213 := n3_; have GW213 := n4_; have GE213 := n5_; have NB211_213 := n6_; have NB213_211 := n7_; have NB212_213 := n8_; have NB213_212 := n9_; clear n0_ n1_ n2_ n3_ n4_ n5_ n6_ n7_ n8_ n9_; clear hb hbox hg; have hnb8 := NB211_212.out; have hnc8 := NB212_211.out; have hnb9 := NB211_213.out; have hnc9 := NB213_211.out; have hcz10_0 : w7.cell? ⟨gb211, 0, none⟩ = some (.int .i64 a0_0) := (blk_cell BK211.out 0).trans rfl; have hcz10_1 : w7.cell? ⟨gb211, 1, none⟩ = some (.int .i64 a0_1) := (blk_cell BK211.out 1).trans rfl; have hcz10_2 : w7.cell? ⟨gb211, 2, none⟩ = some (.slice A0_2 l0_2.length c0_2) := (blk_cell BK211.out 2).trans rfl; have hcz10_3 : w7.cell? ⟨gb211, 3, none⟩ = some (.slice A0_3 l0_3.length c0_3) := (blk_cell BK211.out 3).trans rfl; have hcz10_4 : w7.cell? ⟨gb211, 4, none⟩ = some (.slice A0_4 l0_4.length c0_4) := (blk_cell BK211.out 4).trans rfl; have hfz10_0 := blk_frozen BK211.out 0; have hfz10_1 := blk_frozen BK211.out 1; have hfz10_2 := blk_frozen BK211.out 2; have hfz10_3 := blk_frozen BK211.out 3; have hfz10_4 := blk_frozen BK211.out 4; have hnb11 := NB213_212.out; have hnc11 := NB212_213.out; have hcz12_0 : w7.cell? ⟨gb213, 0, none⟩ = some (.int .i64 0) := (blk_cell BK213.out 0).trans rfl; have hcz12_1 : w7.cell? ⟨gb213, 1, none⟩ = some (.int .i64 0) := (blk_cell BK213.out 1).trans rfl; have hcz12_2 : w7.cell? ⟨gb213, 2, none⟩ = some (.slice none 0 0) := (blk_cell BK213.out 2).trans rfl; have hcz12_3 : w7.cell? ⟨gb213, 3, none⟩ = some (.slice none 0 0) := (blk_cell BK213.out 3).trans rfl; have hcz12_4 : w7.cell? ⟨gb213, 4, none⟩ = some (.slice none 0 0) := (blk_cell BK213.out 4).trans rfl; have hfz12_0 := blk_frozen BK213.out 0; have hfz12_1 := blk_frozen BK213.out 1; have hfz12_2 := blk_frozen BK213.out 2; have hfz12_3 := blk_frozen BK213.out 3; have hfz12_4 := blk_frozen BK213.out 4) | ((with_reducible refine gate_callee (f := 73) rfl ?_); refine goesL_ (some 12) rfl rfl Tryd.func73 (by kernel_rfl) rfl #[.slice A0_2 l0_2.length c0_2] rfl za ?_; (with_reducible refine (laws_toTargetS.calls k _ _ l0_2 t214 _ ?side1 ?side2 A2.out).mono ?_); (case side1 => exact Kd.C_below HR0_2.out (by repeat (first | (with_reducible first | exact HB.out | apply below_alloc | apply pw_below_drewN | apply below_drew1 | refine below_set ?_ GE211.out | refine below_set ?_ GE212.out | refine below_set ?_ GE213.out) | exact HB.out))); (case side2 => exact HC0_2.out); rintro e w13 ⟨v215, rfl, ho0, hb⟩; refine ⟨_, rfl, ?_⟩; have n0_ := Aside0.mk (Kd.S_lower ho0 (below_size (by repeat (first | (with_reducible first | exact HB.out | apply below_alloc | apply pw_below_drewN | apply below_drew1 | refine below_set ?_ GE211.out | refine below_set ?_ GE212.out | refine below_set ?_ GE213.out) | exact HB.out)))); have n1_ := Aside0.mk (blk_below (g := gb211) (o := .cells #[.int .i64 a0_0, .int .i64 a0_1, .slice A0_2 l0_2.length c0_2, .slice A0_3 l0_3.length c0_3, .slice A0_4 l0_4.length c0_4] 42 (0, 0)) (by (with_reducible repeat (first | refine blk_drewN ?_ _ | refine blk_drew ?_ | refine blk_alloc ?_ _)); refine blk_far ?_ NB211_213.out _; (with_reducible repeat (first | refine blk_drewN ?_ _ | refine blk_drew ?_ | refine blk_alloc ?_ _)); refine blk_far ?_ NB211_213.out _; (with_reducible repeat (first | refine blk_drewN ?_ _ | refine blk_drew ?_ | refine blk_alloc ?_ _)); exact BK211.out) hb); have n2_ := Aside0.mk (blk_below (g := gb212) (o := .cells #[.int .i64 0, .int .i64 0, .slice none 0 0, .slice none 0 0, .slice none 0 0] 47 (0, 0)) (by (with_reducible repeat (first | refine blk_drewN ?_ _ | refine blk_drew ?_ | refine blk_alloc ?_ _)); refine blk_far ?_ NB212_213.out _; (with_reducible repeat (first | refine blk_drewN ?_ _ | refine blk_drew ?_ | refine blk_alloc ?_ _)); refine blk_far ?_ NB212_213.out _; (with_reducible repeat (first | refine blk_drewN ?_ _ | refine blk_drew ?_ | refine blk_alloc ?_ _)); exact BK212.out) hb); have n3_ := Aside0.mk (blk_below (g := gb213) (o := .cells #[.int .i64 a0_0, .int .i64 a0_1, .slice none 0 0, .slice none 0 0, .slice none 0 0] 47 (0, 0)) (by (with_reducible repeat (first | refine blk_drewN ?_ _ | refine blk_drew ?_ | refine blk_alloc ?_ _)); refine blk_put (cs := #[.int .i64 a0_0, .int .i64 0, .slice none 0 0, .slice none 0 0, .slice none 0 0]) ?_ 1 _ rfl; (with_reducible repeat (first | refine blk_drewN ?_ _ | refine blk_drew ?_ | refine blk_alloc ?_ _)); refine blk_put (cs := #[.int .i64 0, .int .i64 0, .slice none 0 0, .slice none 0 0, .slice none 0 0]) ?_ 0 _ rfl; (with_reducible repeat (first | refine blk_drewN ?_ _ | refine blk_drew ?_ | refine blk_alloc ?_ _)); exact BK213.out) hb); have n4_ := Aside0.mk (below_step (by repeat (first | (with_reducible first | exact HB.out | apply below_alloc | apply pw_below_drewN | apply below_drew1 | refine below_set ?_ GE211.out | refine below_set ?_ GE212.out | refine below_set ?_ GE213.out) | exact HB.out)) hb); clear BK211; clear BK212; clear BK213; clear HB; have HO216 := n0_; have BK211 := n1_; have BK212 := n2_; have BK213 := n3_; have HB := n4_; clear n0_ n1_ n2_ n3_ n4_; (try clear hb); (try clear hb2); (try clear hk); (try clear hi); (try clear ho0); obtain ⟨Ao14, co14, eo14⟩ := Kd.S_slice HO216.out; subst eo14; have hcz15_0 : w13.cell? ⟨gb213, 0, none⟩ = some (.int .i64 a0_0) := (blk_cell BK213.out 0).trans rfl; have hcz15_1 : w13.cell? ⟨gb213, 1, none⟩ = some (.int .i64 a0_1) := (blk_cell BK213.out 1).trans rfl; have hcz15_2 : w13.cell? ⟨gb213, 2, none⟩ = some (.slice none 0 0) := (blk_cell BK213.out 2).trans rfl; have hcz15_3 : w13.cell? ⟨gb213, 3, none⟩ = some (.slice none 0 0) := (blk_cell BK213.out 3).trans rfl; have hcz15_4 : w13.cell? ⟨gb213, 4, none⟩ = some (.slice none 0 0) := (blk_cell BK213.out 4).trans rfl; have hfz15_0 := blk_frozen BK213.out 0; have hfz15_1 := blk_frozen BK213.out 1; have hfz15_2 := blk_frozen BK213.out 2; have hfz15_3 := blk_frozen BK213.out 3; have hfz15_4 := blk_frozen BK213.out 4; have hcz16_0 : w13.cell? ⟨gb211, 0, none⟩ = some (.int .i64 a0_0) := (blk_cell BK211.out 0).trans rfl; have hcz16_1 : w13.cell? ⟨gb211, 1, none⟩ = some (.int .i64 a0_1) := (blk_cell BK211.out 1).trans rfl; have hcz16_2 : w13.cell? ⟨gb211, 2, none⟩ = some (.slice A0_2 l0_2.length c0_2) := (blk_cell BK211.out 2).trans rfl; have hcz16_3 : w13.cell? ⟨gb211, 3, none⟩ = some (.slice A0_3 l0_3.length c0_3) := (blk_cell BK211.out 3).trans rfl; have hcz16_4 : w13.cell? ⟨gb211, 4, none⟩ = some (.slice A0_4 l0_4.length c0_4) := (blk_cell BK211.out 4).trans rfl; have hfz16_0 := blk_frozen BK211.out 0; have hfz16_1 := blk_frozen BK211.out 1; have hfz16_2 := blk_frozen BK211.out 2; have hfz16_3 := blk_frozen BK211.out 3; have hfz16_4 := blk_frozen BK211.out 4) | ((with_reducible refine gate_callee (f := 83) rfl ?_); refine goesL_ (some 16) rfl rfl Tryd.func83 (by kernel_rfl) rfl #[.slice A0_3 l0_3.length c0_3] rfl za ?_; (with_reducible refine (laws_toIntSS.calls k _ _ l0_3 t217 _ ?side1 ?side2 A3.out).mono ?_); (case side1 => exact Kd.C_below HR0_3.out (by repeat (first | (with_reducible first | exact HB.out | apply below_alloc | apply pw_below_drewN | apply below_drew1 | refine below_set ?_ GE211.out | refine below_set ?_ GE212.out | refine below_set ?_ GE213.out) | exact HB.out))); (case side2 => exact HC0_3.out); rintro e w17 ⟨v218, rfl, ho0, hb⟩; refine ⟨_, rfl, ?_⟩; have n0_ := Aside0.mk (Kd.S_below (by (with_reducible repeat (first | apply Kd.S_alloc | apply Kd.S_drewN | apply Kd.S_drew)); exact (Kd.S_mono (Kd.S_far (p := ⟨gb213, 2, none⟩) (Kd.S_types HO216.out BK213.out (by decide)) (fun _ hk => hk.2) (.slice Ao14 t214.length co14)) (fun _ h_ => h_.1))) hb); have n1_ := Aside0.mk (Kd.S_lower ho0 (below_size (by repeat (first | (with_reducible first | exact HB.out | apply below_alloc | apply pw_below_drewN | apply below_drew1 | refine below_set ?_ GE211.out | refine below_set ?_ GE212.out | refine below_set ?_ GE213.out) | exact HB.out)))); have n2_ := Aside0.mk (blk_below (g := gb211) (o := .cells #[.int .i64 a0_0, .int .i64 a0_1, .slice A0_2 l0_2.length c0_2, .slice A0_3 l0_3.length c0_3, .slice A0_4 l0_4.length c0_4] 42 (0, 0)) (by (with_reducible repeat (first | refine blk_drewN ?_ _ | refine blk_drew ?_ | refine blk_alloc ?_ _)); refine blk_far ?_ NB211_213.out _; (with_reducible repeat (first | refine blk_drewN ?_ _ | refine blk_drew ?_ | refine blk_alloc ?_ _)); exact BK211.out) hb); have n3_ := Aside0.mk (blk_below (g := gb212) (o := .cells #[.int .i64 0, .int .i64 0, .slice none 0 0, .slice none 0 0, .slice none 0 0] 47 (0, 0)) (by (with_reducible repeat (first | refine blk_drewN ?_ _ | refine blk_drew ?_ | refine blk_alloc ?_ _)); refine blk_far ?_ NB212_213.out _; (with_reducible repeat (first | refine blk_drewN ?_ _ | refine blk_drew ?_ | refine blk_alloc ?_ _)); exact BK212.out) hb); have n4_ := Aside0.mk (blk_below (g := gb213) (o := .cells #[.int .i64 a0_0, .int .i64 a0_1, .slice Ao14 t214.length co14, .slice none 0 0, .slice none 0 0] 47 (0, 0)) (by (with_reducible repeat (first | refine blk_drewN ?_ _ | refine blk_drew ?_ | refine blk_alloc ?_ _)); refine blk_put (cs := #[.int .i64 a0_0, .int .i64 a0_1, .slice none 0 0, .slice none 0 0, .slice none 0 0]) ?_ 2 _ rfl; (with_reducible repeat (first | refine blk_drewN ?_ _ | refine blk_drew ?_ | refine blk_alloc ?_ _)); exact BK213.out) hb); have n5_ := Aside0.mk (below_step (by repeat (first | (with_reducible first | exact HB.out | apply below_alloc | apply pw_below_drewN | apply below_drew1 | refine below_set ?_ GE211.out | refine below_set ?_ GE212.out | refine below_set ?_ GE213.out) | exact HB.out)) hb); clear HO216; clear BK211; clear BK212; clear BK213; clear HB; have HO216 := n0_; have HO219 := n1_; have BK211 := n2_; have BK212 := n3_; have BK213 := n4_; have HB := n5_; clear n0_ n1_ n2_ n3_ n4_ n5_; (try clear hb); (try clear hb2); (try clear hk); (try clear hi); (try clear ho0); obtain ⟨Ao18, co18, eo18⟩ := Kd.S_slice HO219.out; subst eo18; have hcz19_0 : w17.cell? ⟨gb213, 0, none⟩ = some (.int .i64 a0_0) := (blk_cell BK213.out 0).trans rfl; have hcz19_1 : w17.cell? ⟨gb213, 1, none⟩ = some (.int .i64 a0_1) := (blk_cell BK213.out 1).trans rfl; have hcz19_2 : w17.cell? ⟨gb213, 2, none⟩ = some (.slice Ao14 t214.length co14) := (blk_cell BK213.out 2).trans rfl; have hcz19_3 : w17.cell? ⟨gb213, 3, none⟩ = some (.slice none 0 0) := (blk_cell BK213.out 3).trans rfl; have hcz19_4 : w17.cell? ⟨gb213, 4, none⟩ = some (.slice none 0 0) := (blk_cell BK213.out 4).trans rfl; have hfz19_0 := blk_frozen BK213.out 0; have hfz19_1 := blk_frozen BK213.out 1; have hfz19_2 := blk_frozen BK213.out 2; have hfz19_3 := blk_frozen BK213.out 3; have hfz19_4 := blk_frozen BK213.out 4; have hcz20_0 : w17.cell? ⟨gb211, 0, none⟩ = some (.int .i64 a0_0) := (blk_cell BK211.out 0).trans rfl; have hcz20_1 : w17.cell? ⟨gb211, 1, none⟩ = some (.int .i64 a0_1) := (blk_cell BK211.out 1).trans rfl; have hcz20_2 : w17.cell? ⟨gb211, 2, none⟩ = some (.slice A0_2 l0_2.length c0_2) := (blk_cell BK211.out 2).trans rfl; have hcz20_3 : w17.cell? ⟨gb211, 3, none⟩ = some (.slice A0_3 l0_3.length c0_3) := (blk_cell BK211.out 3).trans rfl; have hcz20_4 : w17.cell? ⟨gb211, 4, none⟩ = some (.slice A0_4 l0_4.length c0_4) := (blk_cell BK211.out 4).trans rfl; have hfz20_0 := blk_frozen BK211.out 0; have hfz20_1 := blk_frozen BK211.out 1; have hfz20_2 := blk_frozen BK211.out 2; have hfz20_3 := blk_frozen BK211.out 3; have hfz20_4 := blk_frozen BK211.out 4) | ((with_reducible refine gate_callee (f := 83) rfl ?_); refine goesL_ (some 20) rfl rfl Tryd.func83 (by kernel_rfl) rfl #[.slice A0_4 l0_4.length c0_4] rfl za ?_; (with_reducible refine (laws_toIntSS.calls k _ _ l0_4 t220 _ ?side1 ?side2 A4.out).mono ?_); (case side1 => exact Kd.C_below HR0_4.out (by repeat (first | (with_reducible first | exact HB.out | apply below_alloc | apply pw_below_drewN | apply below_drew1 | refine below_set ?_ GE211.out | refine below_set ?_ GE212.out | refine below_set ?_ GE213.out) | exact HB.out))); (case side2 => exact HC0_4.out); rintro e w21 ⟨v221, rfl, ho0, hb⟩; refine ⟨_, rfl, ?_⟩; have n0_ := Aside0.mk (Kd.S_below (by (with_reducible repeat (first | apply Kd.S_alloc | apply Kd.S_drewN | apply Kd.S_drew)); exact (Kd.S_mono (Kd.S_far (p := ⟨gb213, 3, none⟩) (Kd.S_types HO216.out BK213.out (by decide)) (fun _ hk => hk.2) (.slice Ao18 t217.length co18)) (fun _ h_ => h_.1))) hb); have n1_ := Aside0.mk (Kd.S_elder' (by (with_reducible repeat (first | apply Kd.S_alloc | apply Kd.S_drewN | apply Kd.S_drew)); exact (Kd.S_mono (Kd.S_far (p := ⟨gb213, 3, none⟩) (Kd.S_types HO219.out BK213.out (by decide)) (fun _ hk => hk.2) (.slice Ao18 t217.length co18)) (fun _ h_ => h_.1))) (Kd.S_base ho0) hb); have n2_ := Aside0.mk (Kd.S_lower (Kd.S_new' ho0 (Kd.S_lt (by (with_reducible repeat (first | apply Kd.S_alloc | apply Kd.S_drewN | apply Kd.S_drew)); exact (Kd.S_mono (Kd.S_far (p := ⟨gb213, 3, none⟩) (Kd.S_types HO219.out BK213.out (by decide)) (fun _ hk => hk.2) (.slice Ao18 t217.length co18)) (fun _ h_ => h_.1))))) (below_size (by repeat (first | (with_reducible first | exact HB.out | apply below_alloc | apply pw_below_drewN | apply below_drew1 | refine below_set ?_ GE211.out | refine below_set ?_ GE212.out | refine below_set ?_ GE213.out) | exact HB.out)))); have n3_ := Aside0.mk (blk_below (g := gb211) (o := .cells #[.int .i64 a0_0, .int .i64 a0_1, .slice A0_2 l0_2.length c0_2, .slice A0_3 l0_3.length c0_3, .slice A0_4 l0_4.length c0_4] 42 (0, 0)) (by (with_reducible repeat (first | refine blk_drewN ?_ _ | refine blk_drew ?_ | refine blk_alloc ?_ _)); refine blk_far ?_ NB211_213.out _; (with_reducible repeat (first | refine blk_drewN ?_ _ | refine blk_drew ?_ | refine blk_alloc ?_ _)); exact BK211.out) hb); have n4_ := Aside0.mk (blk_below (g := gb212) (o := .cells #[.int .i64 0, .int .i64 0, .slice none 0 0, .slice none 0 0, .slice none 0 0] 47 (0, 0)) (by (with_reducible repeat (first | refine blk_drewN ?_ _ | refine blk_drew ?_ | refine blk_alloc ?_ _)); refine blk_far ?_ NB212_213.out _; (with_reducible repeat (first | refine blk_drewN ?_ _ | refine blk_drew ?_ | refine blk_alloc ?_ _)); exact BK212.out) hb); have n5_ := Aside0.mk (blk_below (g := gb213) (o := .cells #[.int .i64 a0_0, .int .i64 a0_1, .slice Ao14 t214.length co14, .slice Ao18 t217.length co18, .slice none 0 0] 47 (0, 0)) (by (with_reducible repeat (first | refine blk_drewN ?_ _ | refine blk_drew ?_ | refine blk_alloc ?_ _)); refine blk_put (cs := #[.int .i64 a0_0, .int .i64 a0_1, .slice Ao14 t214.length co14, .slice none 0 0, .slice none 0 0]) ?_ 3 _ rfl; (with_reducible repeat (first | refine blk_drewN ?_ _ | refine blk_drew ?_ | refine blk_alloc ?_ _)); exact BK213.out) hb); have n6_ := Aside0.mk (below_step (by repeat (first | (with_reducible first | exact HB.out | apply below_alloc | apply pw_below_drewN | apply below_drew1 | refine below_set ?_ GE211.out | refine below_set ?_ GE212.out | refine below_set ?_ GE213.out) | exact HB.out)) hb); clear HO216; clear HO219; clear BK211; clear BK212; clear BK213; clear HB; have HO216 := n0_; have HO219 := n1_; have HO222 := n2_; have BK211 := n3_; have BK212 := n4_; have BK213 := n5_; have HB := n6_; clear n0_ n1_ n2_ n3_ n4_ n5_ n6_; (try clear hb); (try clear hb2); (try clear hk); (try clear hi); (try clear ho0); obtain ⟨Ao22, co22, eo22⟩ := Kd.S_slice HO222.out; subst eo22; have hcz23_0 : w21.cell? ⟨gb213, 0, none⟩ = some (.int .i64 a0_0) := (blk_cell BK213.out 0).trans rfl; have hcz23_1 : w21.cell? ⟨gb213, 1, none⟩ = some (.int .i64 a0_1) := (blk_cell BK213.out 1).trans rfl; have hcz23_2 : w21.cell? ⟨gb213, 2, none⟩ = some (.slice Ao14 t214.length co14) := (blk_cell BK213.out 2).trans rfl; have hcz23_3 : w21.cell? ⟨gb213, 3, none⟩ = some (.slice Ao18 t217.length co18) := (blk_cell BK213.out 3).trans rfl; have hcz23_4 : w21.cell? ⟨gb213, 4, none⟩ = some (.slice none 0 0) := (blk_cell BK213.out 4).trans rfl; have hfz23_0 := blk_frozen BK213.out 0; have hfz23_1 := blk_frozen BK213.out 1; have hfz23_2 := blk_frozen BK213.out 2; have hfz23_3 := blk_frozen BK213.out 3; have hfz23_4 := blk_frozen BK213.out 4; have hcz24_0 : w21.cell? ⟨gb212, 0, none⟩ = some (.int .i64 0) := (blk_cell BK212.out 0).trans rfl; have hcz24_1 : w21.cell? ⟨gb212, 1, none⟩ = some (.int .i64 0) := (blk_cell BK212.out 1).trans rfl; have hcz24_2 : w21.cell? ⟨gb212, 2, none⟩ = some (.slice none 0 0) := (blk_cell BK212.out 2).trans rfl; have hcz24_3 : w21.cell? ⟨gb212, 3, none⟩ = some (.slice none 0 0) := (blk_cell BK212.out 3).trans rfl; have hcz24_4 : w21.cell? ⟨gb212, 4, none⟩ = some (.slice none 0 0) := (blk_cell BK212.out 4).trans rfl; have hfz24_0 := blk_frozen BK212.out 0; have hfz24_1 := blk_frozen BK212.out 1; have hfz24_2 := blk_frozen BK212.out 2; have hfz24_3 := blk_frozen BK212.out 3; have hfz24_4 := blk_frozen BK212.out 4))
 refine bodyPost_ret (results_cell_row rfl _ _ gb212 47 #[.int .i64 a0_0, .int .i64 a0_1, .slice Ao14 t214.length co14, .slice Ao18 t217.length co18, .slice Ao22 t220.length co22] (0, 0) _ rfl (by (with_reducible repeat (first | refine blk_drewN ?_ _ | refine blk_drew ?_ | refine blk_alloc ?_ _)); refine blk_put (cs := #[.int .i64 a0_0, .int .i64 a0_1, .slice Ao14 t214.length co14, .slice Ao18 t217.length co18, .slice none 0 0]) ?_ 4 _ rfl; (with_reducible repeat (first | refine blk_drewN ?_ _ | refine blk_drew ?_ | refine blk_alloc ?_ _)); refine blk_put (cs := #[.int .i64 a0_0, .int .i64 a0_1, .slice Ao14 t214.length co14, .slice none 0 0, .slice none 0 0]) ?_ 3 _ rfl; (with_reducible repeat (first | refine blk_drewN ?_ _ | refine blk_drew ?_ | refine blk_alloc ?_ _)); refine blk_put (cs := #[.int .i64 a0_0, .int .i64 a0_1, .slice none 0 0, .slice none 0 0, .slice none 0 0]) ?_ 2 _ rfl; (with_reducible repeat (first | refine blk_drewN ?_ _ | refine blk_drew ?_ | refine blk_alloc ?_ _)); refine blk_put (cs := #[.int .i64 a0_0, .int .i64 0, .slice none 0 0, .slice none 0 0, .slice none 0 0]) ?_ 1 _ rfl; (with_reducible repeat (first | refine blk_drewN ?_ _ | refine blk_drew ?_ | refine blk_alloc ?_ _)); refine blk_put (cs := #[.int .i64 0, .int .i64 0, .slice none 0 0, .slice none 0 0, .slice none 0 0]) ?_ 0 _ rfl; (with_reducible repeat (first | refine blk_drewN ?_ _ | refine blk_drew ?_ | refine blk_alloc ?_ _)); refine blk_far ?_ NB212_213.out _; (with_reducible repeat (first | refine blk_drewN ?_ _ | refine blk_drew ?_ | refine blk_alloc ?_ _)); exact BK212.out) Tryd.underlying47 rfl (by kernel_rfl)) rfl ?_
 exact ⟨_, _, _, ze, by (with_reducible repeat (first | apply Kd.S_alloc | apply Kd.S_drewN | apply Kd.S_drew)); exact Kd.S_mono (Kd.S_far (p := ⟨gb212, 4, none⟩) (Kd.S_far (p := ⟨gb212, 3, none⟩) (Kd.S_far (p := ⟨gb212, 2, none⟩) (Kd.S_far (p := ⟨gb212, 1, none⟩) (Kd.S_far (p := ⟨gb212, 0, none⟩) (Kd.S_far (p := ⟨gb213, 4, none⟩) (Kd.S_types (Kd.S_types HO216.out BK213.out (by decide)) BK212.out (by decide)) (fun _ hk => hk.1.2) (.slice Ao22 t220.length co22)) (fun _ hk => hk.2) (.int .i64 a0_0)) (fun _ hk => hk.2) (.int .i64 a0_1)) (fun _ hk => hk.2) (.slice Ao14 t214.length co14)) (fun _ hk => hk.2) (.slice Ao18 t217.length co18)) (fun _ hk => hk.2) (.slice Ao22 t220.length co22)) (fun _ hk => trivial), by (with_reducible repeat (first | apply Kd.S_alloc | apply Kd.S_drewN | apply Kd.S_drew)); exact Kd.S_mono (Kd.S_far (p := ⟨gb212, 4, none⟩) (Kd.S_far (p := ⟨gb212, 3, none⟩) (Kd.S_far (p := ⟨gb212, 2, none⟩) (Kd.S_far (p := ⟨gb212, 1, none⟩) (Kd.S_far (p := ⟨gb212, 0, none⟩) (Kd.S_far (p := ⟨gb213, 4, none⟩) (Kd.S_types (Kd.S_types HO219.out BK213.out (by decide)) BK212.out (by decide)) (fun _ hk => hk.1.2) (.slice Ao22 t220.length co22)) (fun _ hk => hk.2) (.int .i64 a0_0)) (fun _ hk => hk.2) (.int .i64 a0_1)) (fun _ hk => hk.2) (.slice Ao14 t214.length co14)) (fun _ hk => hk.2) (.slice Ao18 t217.length co18)) (fun _ hk => hk.2) (.slice Ao22 t220.length co22)) (fun _ hk => hk.1.1.2), by (with_reducible repeat (first | apply Kd.S_alloc | apply Kd.S_drewN | apply Kd.S_drew)); exact Kd.S_mono (Kd.S_far (p := ⟨gb212, 4, none⟩) (Kd.S_far (p := ⟨gb212, 3, none⟩) (Kd.S_far (p := ⟨gb212, 2, none⟩) (Kd.S_far (p := ⟨gb212, 1, none⟩) (Kd.S_far (p := ⟨gb212, 0, none⟩) (Kd.S_far (p := ⟨gb213, 4, none⟩) (Kd.S_types (Kd.S_types HO222.out BK213.out (by decide)) BK212.out (by decide)) (fun _ hk => hk.1.2) (.slice Ao22 t220.length co22)) (fun _ hk => hk.2) (.int .i64 a0_0)) (fun _ hk => hk.2) (.int .i64 a0_1)) (fun _ hk => hk.2) (.slice Ao14 t214.length co14)) (fun _ hk => hk.2) (.slice Ao18 t217.length co18)) (fun _ hk => hk.2) (.slice Ao22 t220.length co22)) (fun _ hk => hk.1.1.2), by repeat (first | (with_reducible first | exact HB.out | apply below_alloc | apply pw_below_drewN | apply below_drew1 | refine below_set ?_ GE211.out | refine below_set ?_ GE212.out | refine below_set ?_ GE213.out) | exact HB.out)⟩

/-! ### impl_sideOk: function 138 -/
def impl_sideOk.f (a0 : Int) : Option (Bool) := if a0 ≥ 1 then (some (decide (a0 ≤ 40))) else (some false)
set_option maxHeartbeats 8000000 in
set_option maxRecDepth 100000 in
theorem impl_sideOk.calls (a0 : Int) (r : Bool) (w : World) (h : impl_sideOk.f a0 = some r) :
  Calls Tryd.prog 138 #[.int .i64 a0] w fun e w' => e = .returned (.bool r) ∧ Drawn0 w w' := by
 have H : (if a0 ≥ 1 then (some (decide (a0 ≤ 40))) else (some false)) = some r := h
 clear h
 by_cases c2 : a0 ≥ 1
 ·rw [if_pos c2] at H
  have c2b0 : decide (1 ≤ a0) = true := decide_eq_true c2
  clear c2
  obtain rfl := Option.some.inj H
  go_enter Tryd.func138, Tryd.ntmps138
  go_wp2
  go_ret
  exact ⟨by first | rfl | (simp; done) | (simp [*]; done), by repeat (first | exact Drawn0.refl _ | apply Drawn0.step)⟩
 ·rw [if_neg c2] at H
  have c2b0 : decide (1 ≤ a0) = false := decide_eq_false c2
  clear c2
  obtain rfl := Option.some.inj H
  go_enter Tryd.func138, Tryd.ntmps138
  go_wp2
  go_ret
  exact ⟨by first | rfl | (simp; done) | (simp [*]; done), by repeat (first | exact Drawn0.refl _ | apply Drawn0.step)⟩

-- NOT PRINTED: function 210 (utf8_decodeRuneSlow)

/-! ### utf8_DecodeRune: function 191 -/
def decI (l : List Int) : Int × Int :=
 if l.length = 0 then (65533, 0) else
  (((Lib.decodeN l.length (rd l 0).toNat (rd l 1).toNat (rd l 2).toNat (rd l 3).toNat).1 : Nat), ((Lib.decodeN l.length (rd l 0).toNat (rd l 1).toNat (rd l 2).toNat (rd l 3).toNat).2 : Nat))
def bytesB (l : List Int) : Bool := l.all fun x => decide (0 ≤ x) && decide (x ≤ 255)
def utf8_DecodeRune.f (l0 : List Int) : Option (Int × Int) := if l0.length = 0 then none else if bytesB l0 = true then some (decI l0) else none
theorem bytesB_at {l : List Int} (h : bytesB l = true) (j : Nat) : 0 ≤ rd l (j : Int) ∧ rd l (j : Int) ≤ 255 := by
 unfold bytesB at h
 rw [List.all_eq_true] at h
 unfold rd
 by_cases hj : j < l.length
 ·have := h _ (List.getElem_mem hj)
  simp only [Bool.and_eq_true, decide_eq_true_eq] at this
  simp only [Int.toNat_natCast, List.getD_eq_getElem?_getD, List.getElem?_eq_getElem hj, Option.getD_some]
  exact this
 ·simp only [Int.toNat_natCast, List.getD_eq_getElem?_getD, List.getElem?_eq_none (Nat.le_of_not_lt hj), Option.getD_none]
  omega
theorem decI_bys {l : List Int} (h : bytesB l = true) : decI l = (((Lib.decodeGo (bys l)).1 : Int), ((Lib.decodeGo (bys l)).2 : Int)) := by
 unfold decI Lib.decodeGo
 rw [bys_size]
 by_cases h0 : l.length = 0
 ·rw [if_pos h0, if_pos h0]; rfl
 ·rw [if_neg h0, if_neg h0, Lib.decode_at, bys_size]
  have b0 := bytesB_at h 0; have b1 := bytesB_at h 1; have b2 := bytesB_at h 2; have b3 := bytesB_at h 3
  rw [bys_get, bys_get, bys_get, bys_get]
  simp only [Nat.zero_add, Nat.sub_zero]
  rw [Nat.mod_eq_of_lt (by omega), Nat.mod_eq_of_lt (by omega), Nat.mod_eq_of_lt (by omega), Nat.mod_eq_of_lt (by omega)]
  rfl
theorem utf8_DecodeRune.calls (A0 : Option Addr) (c0 : Nat) (l0 : List Int) (r1 : Int) (r2 : Int) (w : World) (hr0 : Kd.C (Kd.int .u8) w A0 l0.length l0) (hc0 : l0.length ≤ c0) (hL : LaidW w) (h : utf8_DecodeRune.f l0 = some (r1, r2)) :
  Calls Tryd.prog 191 #[.slice A0 l0.length c0] w fun e w' => e = .returned (.tuple #[.int .i32 r1, .int .i64 r2]) ∧ Below w.heap.size w w' := by
 unfold utf8_DecodeRune.f at h
 by_cases h0 : l0.length = 0
 ·rw [if_pos h0] at h; cases h
 rw [if_neg h0] at h
 by_cases hb : bytesB l0 = true
 ·rw [if_pos hb] at h
  injection h with h
  rw [decI_bys hb] at h
  injection h with h1 h2
  subst h1 h2
  obtain ⟨ad, rfl, hx⟩ := Kd.at_int hr0 0 (by omega) (by omega)
  obtain ⟨b, off, sp⟩ := ad
  obtain rfl : sp = none := by
   have e : (Addr.add ⟨b, off, sp⟩ (0 : Int).toNat) = ⟨b, off, sp⟩ := by simp [Addr.add]
   rw [e] at hx
   exact cell_spot hx
  have hp : ∀ j, j < (bys l0).size → w.cell? ⟨b, off + j, none⟩ = some (.int .u8 ((bys l0).get! j).toNat) := by
   intro j hj
   rw [bys_size] at hj
   obtain ⟨ad, e, hx⟩ := Kd.at_int hr0 (j : Int) (by omega) (by omega)
   injection e with e
   subst e
   rw [Addr.add_lit] at hx
   have hr := bytesB_at hb j
   rw [bys_get, Nat.mod_eq_of_lt (by omega), Int.toNat_of_nonneg hr.1]
   exact hx
  have := Any7.utf8_DecodeRune Tryd.lays7_32 (bys l0) b off c0 w hL hp
  rw [bys_size] at this
  exact this
 ·rw [if_neg hb] at h; cases h

/-! ### impl_CheckText: function 157 -/
def impl_CheckText.l0 : Nat → List Int → Int → Option (Int × Int)
 | 0, _, _ => none
 | k + 1, x0, x4 => if x4 < (x0.length : Int) then (if 0 ≤ x4 then (if x4 ≤ (x0.length : Int) then ((utf8_DecodeRune.f (x0.drop (x4 : Int).toNat)).bind fun bt224 => (if bt224.1 = 65533 then (if bt224.2 ≤ 1 then (some (2, x4)) else (impl_CheckText.l0 k x0 (wrap64 (x4 + bt224.2)))) else (impl_CheckText.l0 k x0 (wrap64 (x4 + bt224.2))))) else (none)) else (none)) else (some (0, 0))
def impl_CheckText.f (k : Nat) (l0 : List Int) : Option (Int × Int) := impl_CheckText.l0 k l0 0
theorem impl_CheckText.mono_l : ∀ k, (∀ y0 y1, LeO (impl_CheckText.l0 k y0 y1) (impl_CheckText.l0 (k + 1) y0 y1))
 | 0 => fun _ _ r h => by simp [impl_CheckText.l0] at h
 | k + 1 => by
  have ih0 := impl_CheckText.mono_l k
  ·intro y0 y1
   unfold impl_CheckText.l0
   repeat' first
   | (with_reducible exact ih0 _ _)
   | (with_reducible exact LeO.refl _)
   | (with_reducible exact LeO.none _)
   | (with_reducible refine LeO.ite ?_ ?_)
   | (with_reducible refine LeO.bind ?_ (fun _ => ?_))
   | exact LeO.none _
   | refine LeO.ite ?_ ?_
   | refine LeO.bind ?_ (fun _ => ?_)
theorem impl_CheckText.mono : ∀ a0 k, LeO (impl_CheckText.f k a0) (impl_CheckText.f (k + 1) a0) := by
 intro a0 k
 have ih0 := impl_CheckText.mono_l k
 unfold impl_CheckText.f
 repeat' first
   | (with_reducible exact ih0 _ _)
   | (with_reducible exact LeO.refl _)
   | (with_reducible exact LeO.none _)
   | (with_reducible refine LeO.ite ?_ ?_)
   | (with_reducible refine LeO.bind ?_ (fun _ => ?_))
   | exact LeO.none _
   | refine LeO.ite ?_ ?_
   | refine LeO.bind ?_ (fun _ => ?_)
set_option maxHeartbeats 8000000 in
set_option maxRecDepth 100000 in
theorem impl_CheckText.calls (k : Nat) (A0 : Option Addr) (c0 : Nat) (l0 : List Int) (r1 : Int) (r2 : Int) (w : World) (hr0 : Kd.C (Kd.int .u8) w A0 l0.length l0) (hc0 : l0.length ≤ c0) (hL : LaidW w) (h : impl_CheckText.f k l0 = some (r1, r2)) :
  Calls Tryd.prog 157 #[.slice A0 l0.length c0] w fun e w' => e = .returned (.tuple #[.int .i64 r1, .int .i64 r2]) ∧ Below w.heap.size w w' := by
 have HR0 := Aside0.mk hr0
 have HC0 := Aside0.mk hc0
 clear hr0 hc0
 have HLD := Aside0.mk hL
 clear hL
 have HB := Aside0.mk (Below.refl w.heap.size w)
 have H : (impl_CheckText.l0 k l0 0) = some (r1, r2) := h
 clear h
 have H' := Aside0.mk H
 clear H
 go_enter Tryd.func157, Tryd.ntmps157
 go_wp2
 go_loopg [4] k (fun kq v4 w' => ∃ (x4_1 : Int), v4 = .int .i64 x4_1 ∧ Aside0 (impl_CheckText.l0 kq l0 x4_1 = some (r1, r2)) ∧ Aside0 (kq ≤ k) ∧ Aside0 (Below w.heap.size w w'))
 case atStart => exact ⟨(0), zr, H', ⟨Nat.le_refl _⟩, ⟨z_⟩⟩
 case round =>
  clear H'
  try clear c1
  obtain ⟨x4_1, rfl, HA, HK1, HB⟩ := hrel
  cases gk with
  | zero => exact absurd HA.out (by simp [impl_CheckText.l0])
  | succ k1 =>
   have H := HA.out
   clear HA
   simp only [impl_CheckText.l0] at H
   by_cases c2 : x4_1 < (l0.length : Int)
   ·rw [if_pos c2] at H
    have c2b0 : decide (x4_1 < (l0.length : Int)) = true := decide_eq_true c2
    clear c2
    by_cases c3 : 0 ≤ x4_1
    ·rw [if_pos c3] at H
     have c3b0 := eq_true c3
     have c3b1 : decide (0 ≤ x4_1) = true := decide_eq_true c3
     clear c3
     by_cases c4 : x4_1 ≤ (l0.length : Int)
     ·rw [if_pos c4] at H
      have c4b0 := eq_true c4
      have c4b1 : decide (x4_1 ≤ (l0.length : Int)) = true := decide_eq_true c4
      clear c4
      replace H := Option.bind_eq_some_iff.mp H
      obtain ⟨⟨t224, t225⟩, A50, H⟩ := H
      replace H : (if t224 = 65533 then (if t225 ≤ 1 then (some (2, x4_1)) else (impl_CheckText.l0 k1 l0 (wrap64 (x4_1 + t225)))) else (impl_CheckText.l0 k1 l0 (wrap64 (x4_1 + t225)))) = some (r1, r2) := H
      have A5 := Aside0.mk A50
      clear A50
      by_cases c6 : t224 = 65533
      ·rw [if_pos c6] at H
       have c6b0 : (t224 == 65533) = true := beq_iff_eq.mpr c6
       have c6b1 : (t224 != 65533) = false := bne_eq_false_iff_eq.mpr c6
       clear c6
       by_cases c7 : t225 ≤ 1
       ·rw [if_pos c7] at H
        have c7b0 : decide (t225 ≤ 1) = true := decide_eq_true c7
        clear c7
        simp only [Option.some.injEq, Prod.mk.injEq] at H
        obtain ⟨rfl, rfl⟩ := H
        obtain ⟨i08, hi08, _, hsz8, _⟩ := info_parts info5
        obtain ⟨A8, hcut8, hA8, hC8⟩ := print_drop_of (P := Tryd.prog) (Value.int .u8) 0 54 5 .i64 Tryd.underlying54 hi08 hsz8 A0 c0 l0 x4_1 (zd) (zd) HC0.out
        have HR223 := Aside0.mk (Kd.C_of_reads (h1 := fun _ => rfl) (hA8 _ (Kd.reads_of_C HR0.out)))
        have HC223 := Aside0.mk hC8
        clear hA8 hC8 hi08 hsz8
        go_wp2_with (first | ((with_reducible refine gate_callee (f := 191) rfl ?_); refine goesL_ (some 15) rfl rfl Tryd.func191 (by kernel_rfl) rfl #[.slice A8 (l0.drop (x4_1 : Int).toNat).length (c0 - x4_1.toNat)] rfl (by (try simp only [List.map_toArray, List.map_cons, List.map_nil]); first | done | (rw [show (l0.drop (x4_1 : Int).toNat).length = (l0.length - x4_1.toNat) from List.length_drop] <;> rfl) | rfl | (simp only [List.length_drop, List.length_take]; rfl)) ?_; (with_reducible refine (utf8_DecodeRune.calls _ _ (l0.drop (x4_1 : Int).toNat) t224 t225 _ ?side1 ?side2 ?side3 A5.out).mono ?_); (case side1 => exact zc (Kd.C_below HR223.out HB.out)); (case side2 => exact HC223.out); (case side3 => exact LaidW.below HLD.out z_); rintro e w9 ⟨rfl, hb⟩; refine ⟨_, rfl, ?_⟩; have n0_ := Aside0.mk (below_step z_ hb); clear HB; have HB := n0_; clear n0_; (try clear hb); (try clear hb2); (try clear hk); (try clear hi)))
        go_ret2
        exact ⟨ze, by repeat (first | (with_reducible first | exact HB.out | apply below_alloc | apply pw_below_drewN | apply below_drew1) | exact HB.out)⟩
       ·rw [if_neg c7] at H
        have c7b0 : decide (t225 ≤ 1) = false := decide_eq_false c7
        clear c7
        have H' := Aside0.mk H
        clear H
        obtain ⟨i010, hi010, _, hsz10, _⟩ := info_parts info5
        obtain ⟨A10, hcut10, hA10, hC10⟩ := print_drop_of (P := Tryd.prog) (Value.int .u8) 0 54 5 .i64 Tryd.underlying54 hi010 hsz10 A0 c0 l0 x4_1 (zd) (zd) HC0.out
        have HR223 := Aside0.mk (Kd.C_of_reads (h1 := fun _ => rfl) (hA10 _ (Kd.reads_of_C HR0.out)))
        have HC223 := Aside0.mk hC10
        clear hA10 hC10 hi010 hsz10
        go_wp2_with (first | ((with_reducible refine gate_callee (f := 191) rfl ?_); refine goesL_ (some 15) rfl rfl Tryd.func191 (by kernel_rfl) rfl #[.slice A10 (l0.drop (x4_1 : Int).toNat).length (c0 - x4_1.toNat)] rfl (by (try simp only [List.map_toArray, List.map_cons, List.map_nil]); first | done | (rw [show (l0.drop (x4_1 : Int).toNat).length = (l0.length - x4_1.toNat) from List.length_drop] <;> rfl) | rfl | (simp only [List.length_drop, List.length_take]; rfl)) ?_; (with_reducible refine (utf8_DecodeRune.calls _ _ (l0.drop (x4_1 : Int).toNat) t224 t225 _ ?side1 ?side2 ?side3 A5.out).mono ?_); (case side1 => exact zc (Kd.C_below HR223.out HB.out)); (case side2 => exact HC223.out); (case side3 => exact LaidW.below HLD.out z_); rintro e w11 ⟨rfl, hb⟩; refine ⟨_, rfl, ?_⟩; have n0_ := Aside0.mk (below_step z_ hb); clear HB; have HB := n0_; clear n0_; (try clear hb); (try clear hb2); (try clear hk); (try clear hi)))
        go_roundg k1
        case measure => have := HK1.out; omega
        case rel => exact ⟨(wrap64 (x4_1 + t225)), zr, H', ⟨by have := HK1.out; omega⟩, ⟨z_⟩⟩
      ·rw [if_neg c6] at H
       have c6b0 : (t224 == 65533) = false := beq_eq_false_iff_ne.mpr c6
       have c6b1 : (t224 != 65533) = true := bne_iff_ne.mpr c6
       have H' := Aside0.mk H
       clear H
       obtain ⟨i012, hi012, _, hsz12, _⟩ := info_parts info5
       obtain ⟨A12, hcut12, hA12, hC12⟩ := print_drop_of (P := Tryd.prog) (Value.int .u8) 0 54 5 .i64 Tryd.underlying54 hi012 hsz12 A0 c0 l0 x4_1 (zd) (zd) HC0.out
       have HR223 := Aside0.mk (Kd.C_of_reads (h1 := fun _ => rfl) (hA12 _ (Kd.reads_of_C HR0.out)))
       have HC223 := Aside0.mk hC12
       clear hA12 hC12 hi012 hsz12
       go_wp2_with (first | ((with_reducible refine gate_callee (f := 191) rfl ?_); refine goesL_ (some 15) rfl rfl Tryd.func191 (by kernel_rfl) rfl #[.slice A12 (l0.drop (x4_1 : Int).toNat).length (c0 - x4_1.toNat)] rfl (by (try simp only [List.map_toArray, List.map_cons, List.map_nil]); first | done | (rw [show (l0.drop (x4_1 : Int).toNat).length = (l0.length - x4_1.toNat) from List.length_drop] <;> rfl) | rfl | (simp only [List.length_drop, List.length_take]; rfl)) ?_; (with_reducible refine (utf8_DecodeRune.calls _ _ (l0.drop (x4_1 : Int).toNat) t224 t225 _ ?side1 ?side2 ?side3 A5.out).mono ?_); (case side1 => exact zc (Kd.C_below HR223.out HB.out)); (case side2 => exact HC223.out); (case side3 => exact LaidW.below HLD.out z_); rintro e w13 ⟨rfl, hb⟩; refine ⟨_, rfl, ?_⟩; have n0_ := Aside0.mk (below_step z_ hb); clear HB; have HB := n0_; clear n0_; (try clear hb); (try clear hb2); (try clear hk); (try clear hi)))
       go_roundg k1
       case measure => have := HK1.out; omega
       case rel => exact ⟨(wrap64 (x4_1 + t225)), zr, H', ⟨by have := HK1.out; omega⟩, ⟨z_⟩⟩
     ·rw [if_neg c4] at H
      exact absurd H (by simp)
    ·rw [if_neg c3] at H
     exact absurd H (by simp)
   ·rw [if_neg c2] at H
    have c2b0 : decide (x4_1 < (l0.length : Int)) = false := decide_eq_false c2
    clear c2
    simp only [Option.some.injEq, Prod.mk.injEq] at H
    obtain ⟨rfl, rfl⟩ := H
    go_wp2
    go_ret2
    exact ⟨ze, by repeat (first | (with_reducible first | exact HB.out | apply below_alloc | apply pw_below_drewN | apply below_drew1) | exact HB.out)⟩

/-! ### impl_wellFormed: function 108 -/
def impl_wellFormed.f (k : Nat) (l0 : List Int) : Option (Bool) := (impl_CheckText.f k l0).bind fun bt226 => (some (bt226.1 == 0))
theorem impl_wellFormed.mono : ∀ a0 k, LeO (impl_wellFormed.f k a0) (impl_wellFormed.f (k + 1) a0) := by
 intro a0 k
 unfold impl_wellFormed.f
 repeat' first
   | (with_reducible exact impl_CheckText.mono _ _)
   | (with_reducible exact LeO.refl _)
   | (with_reducible exact LeO.none _)
   | (with_reducible refine LeO.ite ?_ ?_)
   | (with_reducible refine LeO.bind ?_ (fun _ => ?_))
   | exact LeO.none _
   | refine LeO.ite ?_ ?_
   | refine LeO.bind ?_ (fun _ => ?_)
set_option maxHeartbeats 8000000 in
set_option maxRecDepth 100000 in
theorem impl_wellFormed.calls (k : Nat) (A0 : Option Addr) (c0 : Nat) (l0 : List Int) (r : Bool) (w : World) (hr0 : Kd.C (Kd.int .u8) w A0 l0.length l0) (hc0 : l0.length ≤ c0) (hL : LaidW w) (h : impl_wellFormed.f k l0 = some r) :
  Calls Tryd.prog 108 #[.slice A0 l0.length c0] w fun e w' => e = .returned (.bool r) ∧ Below w.heap.size w w' := by
 have HR0 := Aside0.mk hr0
 have HC0 := Aside0.mk hc0
 clear hr0 hc0
 have HLD := Aside0.mk hL
 clear hL
 have HB := Aside0.mk (Below.refl w.heap.size w)
 have H : ((impl_CheckText.f k l0).bind fun bt226 => (some (bt226.1 == 0))) = some r := h
 clear h
 replace H := Option.bind_eq_some_iff.mp H
 obtain ⟨⟨t226, t227⟩, A20, H⟩ := H
 replace H : (some (t226 == 0)) = some r := H
 have A2 := Aside0.mk A20
 clear A20
 obtain rfl := Option.some.inj H
 go_enter Tryd.func108, Tryd.ntmps108
 go_wp2_with (first | ((with_reducible refine gate_callee (f := 157) rfl ?_); refine goesL_ (some 7) rfl rfl Tryd.func157 (by kernel_rfl) rfl #[.slice A0 l0.length c0] rfl za ?_; (with_reducible refine (impl_CheckText.calls k _ _ l0 t226 t227 _ ?side1 ?side2 ?side3 A2.out).mono ?_); (case side1 => repeat (first | exact HR0.out | (with_reducible refine Kd.C_alloc ?_ _) | (with_reducible refine Kd.C_drewN ?_ _) | (with_reducible refine Kd.C_drew ?_))); (case side2 => exact HC0.out); (case side3 => exact LaidW.below HLD.out z_); rintro e w3 ⟨rfl, hb⟩; refine ⟨_, rfl, ?_⟩; have n0_ := Aside0.mk (below_step z_ hb); clear HB; have HB := n0_; clear n0_; (try clear hb); (try clear hb2); (try clear hk); (try clear hi)))
 go_ret
 exact ⟨ze, by repeat (first | (with_reducible first | exact HB.out | apply below_alloc | apply pw_below_drewN | apply below_drew1) | exact HB.out)⟩

-- NOT PRINTED: function 205 (bytealg_Compare)

/-! ### bytes_Compare: function 180 -/
theorem run_bytesOfC {w : World} {A : Option Addr} {l : List Int} {c : Nat} (hr : Kd.C (Kd.int .u8) w A l.length l) :
  (Extern.Bytes.bytesOf (.slice A l.length c)).run Tryd.prog w = .ok ⟨(Lib.bytesOf l).toArray⟩ w := by
 cases A with
 | none =>
  have : l = [] := by
   cases l with
   | nil => rfl
   | cons x t => obtain ⟨ad, e, _⟩ := Kd.at_int hr 0 (by omega) (by simp); cases e
  subst this
  rfl
 | some ad =>
  have := Lib.run_loadBytesX (P := Tryd.prog) w l ad .empty (fun j x hj => by
   have hjl : j < l.length := (List.getElem?_eq_some_iff.1 hj).1
   obtain ⟨ad', e, hx⟩ := Kd.at_int hr (j : Int) (by omega) (by omega)
   injection e with e
   subst e
   rw [rd, Int.toNat_natCast, List.getD_eq_getElem?_getD, hj] at hx
   exact hx)
  simpa [Extern.Bytes.bytesOf] using this
theorem cmp_eq_lists (xs ys : List UInt8) : Extern.BytealgCompare.cmp ⟨xs.toArray⟩ ⟨ys.toArray⟩ = Lib.compareBytes xs ys := by
 rw [← Lib.cmpL_eq]
 unfold Extern.BytealgCompare.cmp Lib.cmpL
 simp only [Lib.get!_eq]
 rfl
def bytes_Compare.f (l0 : List Int) (l1 : List Int) : Option (Int) := some (Lib.compareBytes (Lib.bytesOf l0) (Lib.bytesOf l1))
set_option maxHeartbeats 1000000 in
set_option maxRecDepth 100000 in
theorem bytes_Compare.calls (A0 : Option Addr) (c0 : Nat) (l0 : List Int) (A1 : Option Addr) (c1 : Nat) (l1 : List Int) (r : Int) (w : World) (hr0 : Kd.C (Kd.int .u8) w A0 l0.length l0) (hc0 : l0.length ≤ c0) (hr1 : Kd.C (Kd.int .u8) w A1 l1.length l1) (hc1 : l1.length ≤ c1) (h : bytes_Compare.f l0 l1 = some r) :
  Calls Tryd.prog 180 #[.slice A0 l0.length c0, .slice A1 l1.length c1] w fun e w' => e = .returned (.int .i64 r) ∧ Drawn0 w w' := by
 unfold bytes_Compare.f at h
 injection h with h
 have e : (Extern.BytealgCompare.compare #[.slice A0 l0.length c0, .slice A1 l1.length c1]).run Tryd.prog w = .ok (.int .i64 r) w := by
  show Sem.run Tryd.prog (do pure (goInt (Extern.BytealgCompare.cmp (← Extern.Bytes.bytesOf (.slice A0 l0.length c0)) (← Extern.Bytes.bytesOf (.slice A1 l1.length c1))))) w = _
  simp only [Sem.run_bind, run_bytesOfC hr0, run_bytesOfC hr1, Result.andThen_ok, Sem.run_pure, cmp_eq_lists, h]
  rfl
 have E := Aside0.mk e
 clear e h hr0 hr1
 go_enter Tryd.func180, Tryd.ntmps180
 go_wp2
 rw [run_callFunc_extern Tryd.func205 (by kernel_rfl) (by kernel_rfl) (by kernel_rfl) (e := Extern.BytealgCompare.compare) (by kernel_rfl), E.out]
 simp only [Result.andThen]
 rw [Oper.upon_value]
 go_wp2
 go_ret
 exact ⟨rfl, ⟨⟨0, rfl⟩⟩⟩

/-! ### impl_targetsOk: function 139 -/
def impl_targetsOk.bad (k : Nat) (a1 : Int) (x0 : List Int) (x1 : Int) (x2 : Int) : Option Bool :=
 if (x0.length : Int) < 1 then some true else if (x0.length : Int) > 60 then some true else (impl_wellFormed.f k x0).bind fun t => some (!t || (!decide (x1 = 0) && !decide (x1 = 1)) || decide (x2 < 0) || decide (x2 ≥ a1))
def impl_targetsOk.low (l0 : List (S120)) (i : Int) (x0 : List Int) : Bool := decide (i > 0) && decide (Lib.compareBytes (Lib.bytesOf (rd_T120 l0 (i - 1)).f0) (Lib.bytesOf x0) ≥ 0)
def impl_targetsOk.l : Nat → List (S120) → Int → Int → List (Int × Int) → Option Bool
 | 0, _, _, _, _ => none
 | k + 1, l0, a1, i, m => if i < (l0.length : Int) then (impl_targetsOk.bad k a1 (rd_T120 l0 i).f0 (rd_T120 l0 i).f1 (rd_T120 l0 i).f2).bind fun b => if b = true then some false else if impl_targetsOk.low l0 i (rd_T120 l0 i).f0 = true then some false else if (mget m (rd_T120 l0 i).f2).isSome = true then some false else impl_targetsOk.l k l0 a1 (i + 1) (((rd_T120 l0 i).f2, i) :: m) else some true
def impl_targetsOk.f (k : Nat) (l0 : List (S120)) (a1 : Int) : Option Bool := if (l0.length : Int) > 30 then some false else if a1 ≤ 4611686018427387904 then impl_targetsOk.l k l0 a1 0 [] else none
theorem impl_targetsOk.bad_mono (a1 : Int) (x0 : List Int) (x1 x2 : Int) (k : Nat) : LeO (impl_targetsOk.bad k a1 x0 x1 x2) (impl_targetsOk.bad (k + 1) a1 x0 x1 x2) := by
 unfold impl_targetsOk.bad
 refine LeO.ite (LeO.refl _) (LeO.ite (LeO.refl _) (LeO.bind (impl_wellFormed.mono _ _) fun _ => LeO.refl _))
theorem impl_targetsOk.bad_cell {k : Nat} {a1 : Int} {x0 : List Int} {x1 x2 : Int} (h : impl_targetsOk.bad k a1 x0 x1 x2 = some false) : 0 ≤ x2 ∧ x2 < a1 := by
 unfold impl_targetsOk.bad at h
 split at h
 ·cases h
 ·split at h
  ·cases h
  ·obtain ⟨t, _, h⟩ := Option.bind_eq_some_iff.mp h
   have h := Option.some.inj h
   simp only [Bool.or_eq_false_iff, decide_eq_false_iff_not] at h
   omega
theorem impl_targetsOk.wf {c : Int} (h0 : 0 ≤ c) (h1 : c ≤ 4611686018427387904) : (Lit.int .i64 c).wf = true := by
 have e0 : IntKind.min .i64 = -9223372036854775808 := by rfl
 have e1 : IntKind.max .i64 = 9223372036854775807 := by rfl
 simp only [Lit.wf, e0, e1, Bool.and_eq_true, decide_eq_true_eq]
 omega
theorem impl_targetsOk.mono_l : ∀ k l0 a1 i m, LeO (impl_targetsOk.l k l0 a1 i m) (impl_targetsOk.l (k + 1) l0 a1 i m)
 | 0, _, _, _, _ => fun r h => by simp [impl_targetsOk.l] at h
 | k + 1, l0, a1, i, m => by
  rw [impl_targetsOk.l, impl_targetsOk.l]
  exact LeO.ite (LeO.bind (impl_targetsOk.bad_mono _ _ _ _ _) fun _ => LeO.ite (LeO.refl _) (LeO.ite (LeO.refl _) (LeO.ite (LeO.refl _) (impl_targetsOk.mono_l k _ _ _ _)))) (LeO.refl _)
theorem impl_targetsOk.mono : ∀ a0 a1 k, LeO (impl_targetsOk.f k a0 a1) (impl_targetsOk.f (k + 1) a0 a1) := by
 intro a0 a1 k
 unfold impl_targetsOk.f
 exact LeO.ite (LeO.refl _) (LeO.ite (impl_targetsOk.mono_l k _ _ _ _) (LeO.refl _))
set_option maxHeartbeats 4000000 in
set_option maxRecDepth 100000 in
theorem impl_targetsOk.calls (k : Nat) (A0 : Option Addr) (c0 : Nat) (l0 : List (S120)) (a1 : Int) (r : Bool) (w : World) (hr0 : Kd.C k120 w A0 l0.length l0) (hc0 : l0.length ≤ c0) (hL : LaidW w) (h : impl_targetsOk.f k l0 a1 = some r) :
  Calls Tryd.prog 139 #[.slice A0 l0.length c0, .int .i64 a1] w fun e w' => e = .returned (.bool r) ∧ Below w.heap.size w w' := by
 have hu74 := Tryd.underlying120
 have HR0 := Aside0.mk hr0
 have HC0 := Aside0.mk hc0
 clear hr0 hc0
 have HLD := Aside0.mk hL
 clear hL
 have HB := Aside0.mk (Below.refl w.heap.size w)
 have H : (if (l0.length : Int) > 30 then some false else if a1 ≤ 4611686018427387904 then impl_targetsOk.l k l0 a1 0 [] else none) = some r := h
 clear h
 by_cases c3 : (l0.length : Int) > 30
 ·rw [if_pos c3] at H
  have c3b0 : decide (30 < (l0.length : Int)) = true := decide_eq_true c3
  obtain rfl := Option.some.inj H
  go_enter Tryd.func139, Tryd.ntmps139
  go_wp2
  go_ret
  exact ⟨rfl, HB.out⟩
 ·rw [if_neg c3] at H
  by_cases ca : a1 ≤ 4611686018427387904
  case neg => rw [if_neg ca] at H; cases H
  rw [if_pos ca] at H
  have HCA := Aside0.mk ca
  clear ca
  have c3b0 : decide (30 < (l0.length : Int)) = false := decide_eq_false c3
  have H' := Aside0.mk H
  clear H
  have L30 : (l0.length : Int) ≤ 30 := by omega
  clear c3
  have HL30 := Aside0.mk L30
  clear L30
  have hmm := @run_makeMap Tryd.prog
  go_enter Tryd.func139, Tryd.ntmps139
  go_wp2
  clear hmm
  go_loopg [16] k (fun kq v16 w' => ∃ (i : Int) (m : List (Int × Int)), v16 = .int .i64 i ∧ Aside0 (impl_targetsOk.l kq l0 a1 i m = some r) ∧ Aside0 (kq ≤ k) ∧ Aside0 (0 ≤ i ∧ i ≤ (l0.length : Int)) ∧ Aside0 (IntMap Tryd.prog 3 3 w' w.heap.size i.toNat m) ∧ Aside0 (Below w.heap.size w w'))
  case atStart => exact ⟨0, [], rfl, H', ⟨Nat.le_refl _⟩, ⟨by omega⟩, ⟨IntMap.made _ _ _ _⟩, ⟨below_alloc HB.out _⟩⟩
  case round =>
   clear H' HB
   obtain ⟨i, m, rfl, HA, HK1, HI, HM, HB⟩ := hrel
   cases gk with
   | zero => exact absurd HA.out (by simp [impl_targetsOk.l])
   | succ k1 =>
    have H := HA.out
    clear HA
    simp only [impl_targetsOk.l] at H
    by_cases c4 : i < (l0.length : Int)
    ·rw [if_pos c4] at H
     have c4b0 : decide (i < (l0.length : Int)) = true := decide_eq_true c4
     replace H := Option.bind_eq_some_iff.mp H
     obtain ⟨b, A130, H⟩ := H
     have A13 := Aside0.mk A130
     clear A130
     have H' := Aside0.mk H
     clear H
     have p133 : 0 ≤ (i : Int) := HI.out.1
     have q133 : i < (l0.length : Int) := c4
     clear c4
     obtain ⟨ad, An, cn, e133, hx0, hx1, hx2, hl133, hi133⟩ := at_T120 HR0.out i p133 q133
     cases e133
     replace hx0 := (HB.out.cell (World.block_lt_of_cell? w _ hx0)).trans hx0
     replace hx1 := (HB.out.cell (World.block_lt_of_cell? w _ hx1)).trans hx1
     replace hx2 := (HB.out.cell (World.block_lt_of_cell? w _ hx2)).trans hx2
     have HRn := Aside0.mk hi133
     have HCn := Aside0.mk hl133
     clear hi133 hl133
     obtain ⟨x1, ex1⟩ : ∃ x, x = (rd_T120 l0 i).f1 := ⟨_, rfl⟩
     rw [← ex1] at hx1 A13
     clear ex1
     replace p133 := eq_true p133
     replace q133 := eq_true q133
     go_upto_region 7 with (fail)
     have HB2 := Aside0.mk (below_alloc HB.out (.cells #[.slice An (rd_T120 l0 i).f0.length cn, .int .i64 x1, .int .i64 (rd_T120 l0 i).f2] 120 (0, 0)))
     have BK := Aside0.mk (blk_new wr (.cells #[.slice An (rd_T120 l0 i).f0.length cn, .int .i64 x1, .int .i64 (rd_T120 l0 i).f2] 120 (0, 0)))
     have HM2 := Aside0.mk (HM.out.alloc (.cells #[.slice An (rd_T120 l0 i).f0.length cn, .int .i64 x1, .int .i64 (rd_T120 l0 i).f2] 120 (0, 0)))
     go_cut [57] from 21 (fun v57 wc => v57 = .bool b ∧ Aside0 (wc.heap[wr.heap.size]? = some (.cells #[.slice An (rd_T120 l0 i).f0.length cn, .int .i64 x1, .int .i64 (rd_T120 l0 i).f2] 120 (0, 0))) ∧ Aside0 (IntMap Tryd.prog 3 3 wc w.heap.size i.toNat m) ∧ Aside0 (Below w.heap.size w wc))
     case first =>
      clear H'
      have A := A13.out
      clear A13
      unfold impl_targetsOk.bad at A
      by_cases c1 : ((rd_T120 l0 i).f0.length : Int) < 1
      ·rw [if_pos c1] at A
       obtain rfl := Option.some.inj A
       have c1b := decide_eq_true c1
       clear c1
       go_wp2
       go_meet
       case rel => exact ⟨rfl, BK, HM2, HB2⟩
      ·rw [if_neg c1] at A
       have c1b := decide_eq_false c1
       clear c1
       by_cases c2 : ((rd_T120 l0 i).f0.length : Int) > 60
       ·rw [if_pos c2] at A
        obtain rfl := Option.some.inj A
        have c2b : decide (60 < ((rd_T120 l0 i).f0.length : Int)) = true := decide_eq_true c2
        clear c2
        go_wp2
        go_meet
        case rel => exact ⟨rfl, BK, HM2, HB2⟩
       ·rw [if_neg c2] at A
        have c2b : decide (60 < ((rd_T120 l0 i).f0.length : Int)) = false := decide_eq_false c2
        clear c2
        obtain ⟨t, A0, A1⟩ := Option.bind_eq_some_iff.mp A
        have A0_ := Aside0.mk A0
        have E := Aside0.mk (Option.some.inj A1)
        clear A A0 A1
        cases t with
        | false =>
         go_wp2_with (go_at_call 108; (refine (impl_wellFormed.calls k1 _ _ (rd_T120 l0 i).f0 _ _ ?side1 ?side2 ?side3 A0_.out).mono ?_; (case side1 => exact Kd.C_below HRn.out HB2.out); (case side2 => exact HCn.out); (case side3 => exact LaidW.below HLD.out HB2.out); rintro e w17 ⟨rfl, hb⟩; have n0_ := Aside0.mk (blk_below BK.out hb); have n1_ := Aside0.mk (IntMap.below HM2.out hb); have n2_ := Aside0.mk (below_step HB2.out hb); clear BK HM2 HB2 hb; have BK := n0_; have HM2 := n1_; have HB2 := n2_; clear n0_ n1_ n2_; have hc0 : w17.cell? ⟨wr.heap.size, 0, none⟩ = some (.slice An (rd_T120 l0 i).f0.length cn) := (blk_cell BK.out 0).trans rfl; have hc1 : w17.cell? ⟨wr.heap.size, 1, none⟩ = some (.int .i64 x1) := (blk_cell BK.out 1).trans rfl; have hc2 : w17.cell? ⟨wr.heap.size, 2, none⟩ = some (.int .i64 (rd_T120 l0 i).f2) := (blk_cell BK.out 2).trans rfl))
         go_meet
         case rel => exact ⟨by rw [← E.out]; simp, BK, HM2, HB2⟩
        | true =>
         have FIN : (!true || (!decide (x1 = 0) && !decide (x1 = 1)) || decide ((rd_T120 l0 i).f2 < 0) || decide ((rd_T120 l0 i).f2 ≥ a1)) = b := E.out
         by_cases e0 : x1 = 0
         ·subst e0
          by_cases e2 : (rd_T120 l0 i).f2 < 0
          ·have e2b := decide_eq_true e2
           have EE := Aside0.mk e2
           clear e2
           go_wp2_with (go_at_call 108; (refine (impl_wellFormed.calls k1 _ _ (rd_T120 l0 i).f0 _ _ ?side1 ?side2 ?side3 A0_.out).mono ?_; (case side1 => exact Kd.C_below HRn.out HB2.out); (case side2 => exact HCn.out); (case side3 => exact LaidW.below HLD.out HB2.out); rintro e w17 ⟨rfl, hb⟩; have n0_ := Aside0.mk (blk_below BK.out hb); have n1_ := Aside0.mk (IntMap.below HM2.out hb); have n2_ := Aside0.mk (below_step HB2.out hb); clear BK HM2 HB2 hb; have BK := n0_; have HM2 := n1_; have HB2 := n2_; clear n0_ n1_ n2_; have hc0 : w17.cell? ⟨wr.heap.size, 0, none⟩ = some (.slice An (rd_T120 l0 i).f0.length cn) := (blk_cell BK.out 0).trans rfl; have hc1 : w17.cell? ⟨wr.heap.size, 1, none⟩ = some (.int .i64 0) := (blk_cell BK.out 1).trans rfl; have hc2 : w17.cell? ⟨wr.heap.size, 2, none⟩ = some (.int .i64 (rd_T120 l0 i).f2) := (blk_cell BK.out 2).trans rfl))
           go_meet
           case rel => exact ⟨by first | (rw [← FIN]; simp [EE.out]; done) | (rw [← FIN]; simp; have := EE.out; intro; omega), BK, HM2, HB2⟩
          ·have e2b := decide_eq_false e2
           have EE := Aside0.mk e2
           clear e2
           go_wp2_with (go_at_call 108; (refine (impl_wellFormed.calls k1 _ _ (rd_T120 l0 i).f0 _ _ ?side1 ?side2 ?side3 A0_.out).mono ?_; (case side1 => exact Kd.C_below HRn.out HB2.out); (case side2 => exact HCn.out); (case side3 => exact LaidW.below HLD.out HB2.out); rintro e w17 ⟨rfl, hb⟩; have n0_ := Aside0.mk (blk_below BK.out hb); have n1_ := Aside0.mk (IntMap.below HM2.out hb); have n2_ := Aside0.mk (below_step HB2.out hb); clear BK HM2 HB2 hb; have BK := n0_; have HM2 := n1_; have HB2 := n2_; clear n0_ n1_ n2_; have hc0 : w17.cell? ⟨wr.heap.size, 0, none⟩ = some (.slice An (rd_T120 l0 i).f0.length cn) := (blk_cell BK.out 0).trans rfl; have hc1 : w17.cell? ⟨wr.heap.size, 1, none⟩ = some (.int .i64 0) := (blk_cell BK.out 1).trans rfl; have hc2 : w17.cell? ⟨wr.heap.size, 2, none⟩ = some (.int .i64 (rd_T120 l0 i).f2) := (blk_cell BK.out 2).trans rfl))
           go_meet
           case rel => exact ⟨by first | (rw [← FIN]; simp [EE.out]; done) | (rw [← FIN]; simp; have := EE.out; intro; omega), BK, HM2, HB2⟩
         ·by_cases e1 : x1 = 1
          ·subst e1
           by_cases e2 : (rd_T120 l0 i).f2 < 0
           ·have e2b := decide_eq_true e2
            have EE := Aside0.mk e2
            clear e2 e0
            go_wp2_with (go_at_call 108; (refine (impl_wellFormed.calls k1 _ _ (rd_T120 l0 i).f0 _ _ ?side1 ?side2 ?side3 A0_.out).mono ?_; (case side1 => exact Kd.C_below HRn.out HB2.out); (case side2 => exact HCn.out); (case side3 => exact LaidW.below HLD.out HB2.out); rintro e w17 ⟨rfl, hb⟩; have n0_ := Aside0.mk (blk_below BK.out hb); have n1_ := Aside0.mk (IntMap.below HM2.out hb); have n2_ := Aside0.mk (below_step HB2.out hb); clear BK HM2 HB2 hb; have BK := n0_; have HM2 := n1_; have HB2 := n2_; clear n0_ n1_ n2_; have hc0 : w17.cell? ⟨wr.heap.size, 0, none⟩ = some (.slice An (rd_T120 l0 i).f0.length cn) := (blk_cell BK.out 0).trans rfl; have hc1 : w17.cell? ⟨wr.heap.size, 1, none⟩ = some (.int .i64 1) := (blk_cell BK.out 1).trans rfl; have hc2 : w17.cell? ⟨wr.heap.size, 2, none⟩ = some (.int .i64 (rd_T120 l0 i).f2) := (blk_cell BK.out 2).trans rfl))
            go_meet
            case rel => exact ⟨by first | (rw [← FIN]; simp [EE.out]; done) | (rw [← FIN]; simp; have := EE.out; intro; omega), BK, HM2, HB2⟩
           ·have e2b := decide_eq_false e2
            have EE := Aside0.mk e2
            clear e2 e0
            go_wp2_with (go_at_call 108; (refine (impl_wellFormed.calls k1 _ _ (rd_T120 l0 i).f0 _ _ ?side1 ?side2 ?side3 A0_.out).mono ?_; (case side1 => exact Kd.C_below HRn.out HB2.out); (case side2 => exact HCn.out); (case side3 => exact LaidW.below HLD.out HB2.out); rintro e w17 ⟨rfl, hb⟩; have n0_ := Aside0.mk (blk_below BK.out hb); have n1_ := Aside0.mk (IntMap.below HM2.out hb); have n2_ := Aside0.mk (below_step HB2.out hb); clear BK HM2 HB2 hb; have BK := n0_; have HM2 := n1_; have HB2 := n2_; clear n0_ n1_ n2_; have hc0 : w17.cell? ⟨wr.heap.size, 0, none⟩ = some (.slice An (rd_T120 l0 i).f0.length cn) := (blk_cell BK.out 0).trans rfl; have hc1 : w17.cell? ⟨wr.heap.size, 1, none⟩ = some (.int .i64 1) := (blk_cell BK.out 1).trans rfl; have hc2 : w17.cell? ⟨wr.heap.size, 2, none⟩ = some (.int .i64 (rd_T120 l0 i).f2) := (blk_cell BK.out 2).trans rfl))
            go_meet
            case rel => exact ⟨by first | (rw [← FIN]; simp [EE.out]; done) | (rw [← FIN]; simp; have := EE.out; intro; omega), BK, HM2, HB2⟩
          ·have f0 : (x1 == 0) = false := by simpa using e0
           have f1 : (x1 == 1) = false := by simpa using e1
           have EE := Aside0.mk (show _ ∧ _ from ⟨e0, e1⟩)
           have g0 : decide (x1 = 0) = false := decide_eq_false e0
           have g1 : decide (x1 = 1) = false := decide_eq_false e1
           go_wp2_with (go_at_call 108; (refine (impl_wellFormed.calls k1 _ _ (rd_T120 l0 i).f0 _ _ ?side1 ?side2 ?side3 A0_.out).mono ?_; (case side1 => exact Kd.C_below HRn.out HB2.out); (case side2 => exact HCn.out); (case side3 => exact LaidW.below HLD.out HB2.out); rintro e w17 ⟨rfl, hb⟩; have n0_ := Aside0.mk (blk_below BK.out hb); have n1_ := Aside0.mk (IntMap.below HM2.out hb); have n2_ := Aside0.mk (below_step HB2.out hb); clear BK HM2 HB2 hb; have BK := n0_; have HM2 := n1_; have HB2 := n2_; clear n0_ n1_ n2_; have hc0 : w17.cell? ⟨wr.heap.size, 0, none⟩ = some (.slice An (rd_T120 l0 i).f0.length cn) := (blk_cell BK.out 0).trans rfl; have hc1 : w17.cell? ⟨wr.heap.size, 1, none⟩ = some (.int .i64 x1) := (blk_cell BK.out 1).trans rfl; have hc2 : w17.cell? ⟨wr.heap.size, 2, none⟩ = some (.int .i64 (rd_T120 l0 i).f2) := (blk_cell BK.out 2).trans rfl))
           go_meet
           case rel => exact ⟨by first | (rw [← FIN]; simp [EE.out]; done) | (rw [← FIN]; simp; have := EE.out; intro; omega), BK, HM2, HB2⟩
     case rest =>
      clear HB BK HM HM2 HB2
      obtain ⟨rfl, BK, HM, HB⟩ := hcut
      have H := H'.out
      clear H'
      have hc0 : wc.cell? ⟨wr.heap.size, 0, none⟩ = some (.slice An (rd_T120 l0 i).f0.length cn) := (blk_cell BK.out 0).trans rfl
      have hc1 : wc.cell? ⟨wr.heap.size, 1, none⟩ = some (.int .i64 x1) := (blk_cell BK.out 1).trans rfl
      have hc2 : wc.cell? ⟨wr.heap.size, 2, none⟩ = some (.int .i64 (rd_T120 l0 i).f2) := (blk_cell BK.out 2).trans rfl
      cases b with
      | true =>
       clear A13
       rw [if_pos rfl] at H
       obtain rfl := Option.some.inj H
       go_wp2
       go_ret
       exact ⟨rfl, HB.out⟩
      | false =>
       rw [if_neg (by decide)] at H
       have HC := Aside0.mk (impl_targetsOk.bad_cell A13.out)
       clear A13
       have H' := Aside0.mk H
       clear H
       go_upto_region 9 with (fail)
       go_cut [71] from 58 (fun v71 wd => v71 = .bool (impl_targetsOk.low l0 i (rd_T120 l0 i).f0) ∧ Aside0 (wd.heap[wr.heap.size]? = some (.cells #[.slice An (rd_T120 l0 i).f0.length cn, .int .i64 x1, .int .i64 (rd_T120 l0 i).f2] 120 (0, 0))) ∧ Aside0 (IntMap Tryd.prog 3 3 wd w.heap.size i.toNat m) ∧ Aside0 (Below w.heap.size w wd))
       case first =>
        clear H'
        by_cases i0 : 0 < i
        ·have i0b := decide_eq_true i0
         obtain ⟨j, hj⟩ : ∃ j, j = i - 1 := ⟨_, rfl⟩
         have hjw : IntKind.i64.wrap (i - 1) = j := by rw [hj]; have := HI.out; have := HL30.out; simp only [IntKind.wrap_i64]; omega
         have hjw2 : wrap64 (i - 1) = j := by rw [hj]; have := HI.out; have := HL30.out; unfold wrap64; omega
         have hlow : impl_targetsOk.low l0 i (rd_T120 l0 i).f0 = decide (0 ≤ Lib.compareBytes (Lib.bytesOf (rd_T120 l0 j).f0) (Lib.bytesOf (rd_T120 l0 i).f0)) := by
          unfold impl_targetsOk.low
          rw [← hj, decide_eq_true (show i > 0 from i0)]
          rfl
         have HLOW := Aside0.mk hlow
         clear hlow
         have pj : 0 ≤ (j : Int) := by omega
         have qj : j < (l0.length : Int) := by have := HI.out; omega
         clear hj i0
         obtain ⟨ad', Aj, cj, ej, hxj0, hxj1, hxj2, hlj, hij⟩ := at_T120 HR0.out j pj qj
         cases ej
         replace hxj0 := (HB.out.cell (World.block_lt_of_cell? w _ hxj0)).trans hxj0
         have HRj := Aside0.mk hij
         have HCj := Aside0.mk hlj
         clear hij hlj hxj1 hxj2
         replace pj := eq_true pj
         replace qj := eq_true qj
         go_quiet ((go_at_call 180; exact Calls.quiet_of ((bytes_Compare.calls _ _ (rd_T120 l0 j).f0 _ _ (rd_T120 l0 i).f0 _ _ (Kd.C_drewN (Kd.C_below HRj.out HB.out) _) HCj.out (Kd.C_drewN (Kd.C_below HRn.out HB.out) _) HCn.out rfl).mono fun e w' h => ⟨h.1, h.2.out⟩)))
         go_wp2
         go_meet
         case rel => exact ⟨by rw [HLOW.out], BK, ⟨IntMap.drewN HM.out _⟩, ⟨pw_below_drewN HB.out _⟩⟩
        ·have i0b := decide_eq_false i0
         have hlow : impl_targetsOk.low l0 i (rd_T120 l0 i).f0 = false := by
          unfold impl_targetsOk.low
          rw [decide_eq_false (show ¬ i > 0 from i0)]
          rfl
         have HLOW := Aside0.mk hlow
         clear hlow i0
         go_quiet (fail)
         go_wp2
         go_meet
         case rel => exact ⟨by rw [HLOW.out], BK, ⟨IntMap.drewN HM.out _⟩, ⟨pw_below_drewN HB.out _⟩⟩
       case rest =>
        clear hc0 hc1 hc2 BK HM HB
        obtain ⟨rfl, BK, HM, HB⟩ := hcut
        have H := H'.out
        clear H'
        have hc0 : wc.cell? ⟨wr.heap.size, 0, none⟩ = some (.slice An (rd_T120 l0 i).f0.length cn) := (blk_cell BK.out 0).trans rfl
        have hc1 : wc.cell? ⟨wr.heap.size, 1, none⟩ = some (.int .i64 x1) := (blk_cell BK.out 1).trans rfl
        have hc2 : wc.cell? ⟨wr.heap.size, 2, none⟩ = some (.int .i64 (rd_T120 l0 i).f2) := (blk_cell BK.out 2).trans rfl
        generalize impl_targetsOk.low l0 i (rd_T120 l0 i).f0 = bl at H ⊢
        cases bl with
        | true =>
         rw [if_pos rfl] at H
         obtain rfl := Option.some.inj H
         go_wp2
         go_ret
         exact ⟨rfl, HB.out⟩
        | false =>
         rw [if_neg (by decide)] at H
         have W2 := Aside0.mk (impl_targetsOk.wf (c := (rd_T120 l0 i).f2) (by have := HC.out; omega) (by have := HC.out; have := HCA.out; omega))
         have zero3 : (zeroValue 3).run Tryd.prog wc = .ok (.int .i64 0) wc := by kernel_rfl
         have Z3 := Aside0.mk zero3
         clear zero3
         by_cases ct : (mget m (rd_T120 l0 i).f2).isSome = true
         ·rw [if_pos ct] at H
          obtain rfl := Option.some.inj H
          go_wp2_with (refine wpList_imap_look rfl (.tmp 73) (.tmp 75) rfl Tryd.underlying140 Tryd.underlying3 Tryd.underlying3 Z3.out HM.out rfl (rd_T120 l0 i).f2 rfl W2.out ?_)
          go_ret
          exact ⟨rfl, HB.out⟩
         ·rw [if_neg ct] at H
          have ct' : (mget m (rd_T120 l0 i).f2).isSome = false := by simpa using ct
          clear ct
          have H' := Aside0.mk H
          clear H
          go_wp2_with (first | (refine wpList_imap_look rfl (.tmp 73) (.tmp 75) rfl Tryd.underlying140 Tryd.underlying3 Tryd.underlying3 Z3.out HM.out rfl (rd_T120 l0 i).f2 rfl W2.out ?_) | (refine wpList_imap_put rfl (.tmp 80) (.tmp 82) (.tmp 83) rfl Tryd.underlying140 Tryd.underlying3 Tryd.underlying3 HM.out (by have := HI.out; have := HL30.out; simp only [maxLen]; omega) rfl (rd_T120 l0 i).f2 i rfl rfl W2.out (impl_targetsOk.wf HI.out.1 (by have := HI.out; have := HL30.out; omega)) ?_; intro w20 HM2 hg; have HM3 := Aside0.mk HM2; have HB3 := Aside0.mk (Below.grown HB.out hg HB.out.size (fun k hk => by injection hk with hk; omega)); clear HM HB HM2 hg BK))
          go_roundg k1
          case measure => have := HK1.out; omega
          case rel => exact ⟨i + 1, _, by have := HI.out; have := HL30.out; rw [show wrap64 (i + 1) = i + 1 by unfold wrap64; omega], H', ⟨by have := HK1.out; omega⟩, ⟨by have := HI.out; have := of_eq_true q133; omega⟩, ⟨by have := HI.out; rw [show (i + 1).toNat = i.toNat + 1 by omega]; exact HM3.out⟩, HB3⟩
    ·rw [if_neg c4] at H
     have c4b0 : decide (i < (l0.length : Int)) = false := decide_eq_false c4
     clear c4
     obtain rfl := Option.some.inj H
     go_wp2
     go_ret
     exact ⟨rfl, HB.out⟩

end Go.Proofs.YthbeplmihjhoeaaDoor.PFnExactWalk
