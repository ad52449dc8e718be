-- made by wip/tools/myprint.py (this session's own program, over the kit's printer)
import Derived.Test.YtiboccbaaphbhaaPFnExactReachx0
namespace Go.Proofs.Ytiboccbaaphbhaa.PFnExactReach
open Go.RowKit Go.Proofs.YtiboccbaaphbhaaW.PrintWords Go.Proofs.YtiboccbaaphbhaaW.PrintLast Go.Proofs.YtiboccbaaphbhaaW.PrintMore
attribute [local go_sem] max2_int min2_int max_two min_two max_three min_three max_four min_four   -- for this text's walks alone
set_option linter.unusedVariables false
set_option linter.unusedSimpArgs false

/-! ### spec_l5reach: function 33 -/
mutual
def spec_l5reach.l0 : Nat → List (S51) → List Int → List Bool → Int → Option (List Bool)
 | 0, _, _, _, _ => none
 | k + 1, x0, x2, x7, x8 => if x8 < (x2.length : Int) then (if 0 ≤ x8 then (if 0 ≤ (rd x2 x8) then (if (rd x2 x8) < (x7.length : Int) then (spec_l5reach.l0 k x0 x2 (x7.set ((rd x2 x8) : Int).toNat true) (wrap64 (x8 + 1))) else (none)) else (none)) else (none)) else (spec_l5reach.l1 k x0 x7)
def spec_l5reach.l1 : Nat → List (S51) → List Bool → Option (List Bool)
 | 0, _, _ => none
 | k + 1, x0, x7 => spec_l5reach.l2 k x0 x7 false 0
def spec_l5reach.l2 : Nat → List (S51) → List Bool → Bool → Int → Option (List Bool)
 | 0, _, _, _, _ => none
 | k + 1, x0, x7, x9, x10 => if x10 < (x0.length : Int) then (if 0 ≤ x10 then (if 0 ≤ ((rd_T51 x0 x10).f0) then (if ((rd_T51 x0 x10).f0) < (x7.length : Int) then (if rdOf false x7 ((rd_T51 x0 x10).f0) = true then (if 0 ≤ ((rd_T51 x0 x10).f1) then (if ((rd_T51 x0 x10).f1) < (x7.length : Int) then (if (rdOf false x7 ((rd_T51 x0 x10).f1) = true) then (spec_l5reach.l2 k x0 x7 x9 (wrap64 (x10 + 1))) else (spec_l5reach.l2 k x0 (x7.set (((rd_T51 x0 x10).f1) : Int).toNat true) true (wrap64 (x10 + 1)))) else (none)) else (none)) else (spec_l5reach.l2 k x0 x7 x9 (wrap64 (x10 + 1)))) else (none)) else (none)) else (none)) else (if x9 = true then (spec_l5reach.l1 k x0 x7) else (some x7))
end
def spec_l5reach.f (k : Nat) (l0 : List (S51)) (a1 : Int) (l2 : List Int) : Option (List Bool) := if 0 ≤ a1 then (if (a1 : Int).toNat ≤ 281474976710656 then (spec_l5reach.l0 k l0 l2 (List.replicate (a1 : Int).toNat false) 0) else (none)) else (none)
theorem spec_l5reach.mono_l : ∀ k, (∀ y0 y1 y2 y3, LeO (spec_l5reach.l0 k y0 y1 y2 y3) (spec_l5reach.l0 (k + 1) y0 y1 y2 y3)) ∧ (∀ y0 y1, LeO (spec_l5reach.l1 k y0 y1) (spec_l5reach.l1 (k + 1) y0 y1)) ∧ (∀ y0 y1 y2 y3, LeO (spec_l5reach.l2 k y0 y1 y2 y3) (spec_l5reach.l2 (k + 1) y0 y1 y2 y3))
 | 0 => ⟨fun _ _ _ _ r h => by simp [spec_l5reach.l0] at h, fun _ _ r h => by simp [spec_l5reach.l1] at h, fun _ _ _ _ r h => by simp [spec_l5reach.l2] at h⟩
 | k + 1 => by
  obtain ⟨ih0, ih1, ih2⟩ := spec_l5reach.mono_l k
  refine ⟨?_, ?_, ?_⟩
  ·intro y0 y1 y2 y3
   unfold spec_l5reach.l0
   exact zm
  ·intro y0 y1
   unfold spec_l5reach.l1
   exact zm
  ·intro y0 y1 y2 y3
   unfold spec_l5reach.l2
   exact zm
theorem spec_l5reach.mono : ∀ a0 a1 a2 k, LeO (spec_l5reach.f k a0 a1 a2) (spec_l5reach.f (k + 1) a0 a1 a2) := by
 intro a0 a1 a2 k
 obtain ⟨ih0, ih1, ih2⟩ := spec_l5reach.mono_l k
 unfold spec_l5reach.f
 exact zm
set_option maxHeartbeats 8000000 in
set_option maxRecDepth 100000 in
theorem spec_l5reach.calls (k : Nat) (A0 : Option Addr) (c0 : Nat) (l0 : List (S51)) (a1 : Int) (A2 : Option Addr) (c2 : Nat) (l2 : List Int) (r : List Bool) (w : World) (hr0 : Kd.C k51 w A0 l0.length l0) (hc0 : l0.length ≤ c0) (hr2 : Kd.C (Kd.int .i64) w A2 l2.length l2) (hc2 : l2.length ≤ c2) (h : spec_l5reach.f k l0 a1 l2 = some r) :
  Calls Try.prog 33 #[.slice A0 l0.length c0, .int .i64 a1, .slice A2 l2.length c2] w fun e w' => ∃ v0_ : Value, e = .returned (v0_) ∧ Kd.R Kd.bool 4 w' w.heap.size (fun _ => True) v0_ r ∧ Below w.heap.size w w' := by
 have HR0 := zA hr0
 have HC0 := zA hc0
 clear hr0 hc0
 have HR2 := zA hr2
 have HC2 := zA hc2
 clear hr2 hc2
 have HB := zA (Below.refl w.heap.size w)
 have H : (if 0 ≤ a1 then (if (a1 : Int).toNat ≤ 281474976710656 then (spec_l5reach.l0 k l0 l2 (List.replicate (a1 : Int).toNat false) 0) else (none)) else (none)) = some r := h
 clear h
 by_cases c4 : 0 ≤ a1
 ·rw [if_pos c4] at H
  have c4b0 := eq_true c4
  have c4b1 : decide (0 ≤ a1) = true := decide_eq_true c4
  clear c4
  by_cases c5 : (a1 : Int).toNat ≤ 281474976710656
  ·rw [if_pos c5] at H
   have c5b0 := eq_true c5
   have c5b1 : decide ((a1 : Int).toNat ≤ 281474976710656) = true := decide_eq_true c5
   clear c5
   obtain ⟨y164, hy164⟩ : ∃ y_ : List Bool, y_ = (List.replicate (a1 : Int).toNat false) := ⟨_, rfl⟩
   replace H : (spec_l5reach.l0 k l0 l2 y164 0) = some r := zh hy164
   have Ny164 := zA hy164
   clear hy164
   have H' := zA H
   clear H
   go_enter Try.func33, Try.ntmps33
   go_wp2_with (first | ((with_reducible refine gate_dst (N := 12) rfl ?_); refine Kd.R_make Kd.bool _ 4 rfl (N := 12) rfl 33 _ _ rfl a1 rfl rfl Try.underlying33 (.bool false) 1 info4 rfl (by decide) (by omega) false (ok := fun _ => True) (okp := fun _ => True) rfl (fun _ hk => hk) trivial (zd) (Nat.le_trans (Nat.mul_le_mul_right _ (zd : a1.toNat ≤ 281474976710656)) (by omega)) (Below.refl _ _) (Nat.le_refl _) ?_; intro v165 w6 ho7 hb hg_ hnew_; clear hg_ hnew_; (first | rw [← Ny164.out] at ho7 | (simp only [Int.reduceToNat] at ho7; rw [← Ny164.out] at ho7)); have n0_ := zA (Kd.R_lower ho7 (below_size z_)); have n1_ := zA (below_step z_ hb); clear HB; have HO166 := n0_; have HB := n1_; clear n0_ n1_; clear hb ho7))
   go_loopg [8] k (fun kq v8 w' => ∃ (x7_1 : List Bool) (x8_1 : Int), v8 = .int .i64 x8_1 ∧ Aside0 (spec_l5reach.l0 kq l0 l2 x7_1 x8_1 = some r) ∧ Aside0 (kq ≤ k) ∧ Aside0 (Kd.R Kd.bool 4 w' w.heap.size (fun _ => True) v165 x7_1) ∧ Aside0 (Below w.heap.size w w'))
   case atStart => exact ⟨(y164), (0), zr, H', ⟨Nat.le_refl _⟩, ⟨zR HO166.out⟩, ⟨z_⟩⟩
   case round =>
    clear H'
    (try clear c2); (try clear p2); (try clear c3); (try clear c4); (try clear c4b0); (try clear c4b1); (try clear c5); (try clear c5b0); (try clear c5b1)
    obtain ⟨x7_1, x8_1, rfl, HA, HK1, HO_7, HB⟩ := hrel
    cases gk with
    | zero => exact absurd HA.out (by simp [spec_l5reach.l0])
    | succ k1 =>
     have H := HA.out
     clear HA
     simp only [spec_l5reach.l0] at H
     by_cases c8 : x8_1 < (l2.length : Int)
     ·rw [if_pos c8] at H
      have c8b0 : decide (x8_1 < (l2.length : Int)) = true := decide_eq_true c8
      clear c8
      by_cases c9 : 0 ≤ x8_1
      ·rw [if_pos c9] at H
       have c9b0 : decide (0 ≤ x8_1) = true := decide_eq_true c9
       clear c9
       by_cases c10 : 0 ≤ (rd l2 x8_1)
       ·rw [if_pos c10] at H
        have c10b0 : decide (0 ≤ (rd l2 x8_1)) = true := decide_eq_true c10
        clear c10
        by_cases c11 : (rd l2 x8_1) < (x7_1.length : Int)
        ·rw [if_pos c11] at H
         have c11b0 : decide ((rd l2 x8_1) < (x7_1.length : Int)) = true := decide_eq_true c11
         clear c11
         obtain ⟨y168, hy168⟩ : ∃ y_ : List Bool, y_ = (x7_1.set ((rd l2 x8_1) : Int).toNat true) := ⟨_, rfl⟩
         replace H : (spec_l5reach.l0 k1 l0 l2 y168 (wrap64 (x8_1 + 1))) = some r := zh hy168
         have Ny168 := zA hy168
         clear hy168
         have H' := zA H
         clear H
         have p167 : 0 ≤ (x8_1 : Int) := zd
         have q167 : x8_1 < (l2.length : Int) := zd
         obtain ⟨ad167, e167, hx167_0⟩ := Kd.at_int HR2.out x8_1 p167 q167
         cases e167
         replace hx167_0 := zx HB.out hx167_0
         replace p167 := eq_true p167
         replace q167 := eq_true q167
         have p12 : 0 ≤ ((rd l2 x8_1) : Int) := zd
         have q12 : ((rd l2 x8_1) : Int) < ((x7_1.length : Int) : Int) := zd
         obtain ⟨go12, co12, eo12, gb12, gl12, cl12, HG12⟩ := Kd.R_form HO_7.out (by omega)
         (first | cases eo12 | (injection eo12 with ea_ en_ ec_; (first | subst ea_ | (injection ea_ with ea_; subst ea_)); subst ec_; clear en_))
         have GB12 := zA gb12
         have GG12 := zA HG12
         clear gb12 gl12 HG12
         obtain ⟨hx12_0, hf12_0⟩ := Kd.R_celln false HO_7.out ((rd l2 x8_1) : Int) p12 q12
         replace p12 := eq_true p12
         replace q12 := eq_true q12
         have HP13 := Kd.R_putg HO_7.out ((rd l2 x8_1) : Int) true
         go_wp2_with (first | ((with_reducible refine gate_store (t := 4) (p := 24) rfl ?_); refine store_event (t := 4) (p := 24) (v := ?vo_w14) (w1 := (wr.setCell ⟨go12, ((rd l2 x8_1) : Int).toNat, none⟩ (.bool true))) ?hg ?ho ?hn ?hr ?_; (case ho => rfl); (case hg => rfl); (case hn => rfl); (case hr => first | (go_simp; done) | (go_simp; rfl)); intro w14 hw; have hg : wr.grownBy w14 (some go12) := (by rw [hw]; exact HP13.2); have hp_ : Kd.R Kd.bool 4 w14 w.heap.size (fun _ => True) (.slice (some ⟨go12, 0, none⟩) x7_1.length co12) y168 := (by rw [hw, Ny168.out]; exact HP13.1); clear HP13; have n0_ := zA (hp_); have n1_ := zA ((by rw [hw]; exact below_set (HB.out) GB12.out : Below w.heap.size w w14)); clear HO_7 HB; have HO_7 := n0_; have HB := n1_; clear n0_ n1_; clear hg hw hp_))
         go_roundg k1
         case measure => have := HK1.out; omega
         case rel => exact ⟨(y168), (wrap64 (x8_1 + 1)), zr, H', ⟨by have := HK1.out; omega⟩, ⟨zR HO_7.out⟩, ⟨z_⟩⟩
        ·rw [if_neg c11] at H
         exact absurd H (by simp)
       ·rw [if_neg c10] at H
        exact absurd H (by simp)
      ·rw [if_neg c9] at H
       exact absurd H (by simp)
     ·rw [if_neg c8] at H
      have c8b0 : decide (x8_1 < (l2.length : Int)) = false := decide_eq_false c8
      clear c8
      have H' := zA H
      clear H
      go_wp2
      go_loopg [] k1 (fun kq w' => ∃ (x7_2 : List Bool), Aside0 (spec_l5reach.l1 kq l0 x7_2 = some r) ∧ Aside0 (kq ≤ k1) ∧ Aside0 (Kd.R Kd.bool 4 w' w.heap.size (fun _ => True) v165 x7_2) ∧ Aside0 (Below w.heap.size w w'))
      case atStart => exact ⟨(x7_1), H', ⟨Nat.le_refl _⟩, ⟨zR HO_7.out⟩, ⟨z_⟩⟩
      case round =>
       clear H'
       (try clear c1); (try clear p1); (try clear q1); (try clear hx1); (try clear c2); (try clear p2); (try clear c3); (try clear c4); (try clear c4b0); (try clear c4b1); (try clear c5); (try clear c5b0); (try clear c5b1); (try clear p6); (try clear c8); (try clear c8b0); (try clear c9); (try clear c9b0); (try clear c10); (try clear c10b0); (try clear c11); (try clear c11b0); (try clear p12); (try clear q12); (try clear hx12); (try clear hf12); (try clear hx12_0); (try clear hx167_0); (try clear p12); (try clear p167); (try clear p2); (try clear q12); (try clear q167)
       obtain ⟨x7_2, HA, HK2, HO_7, HB⟩ := hrel
       cases gk with
       | zero => exact absurd HA.out (by simp [spec_l5reach.l1])
       | succ k2 =>
        have H := HA.out
        clear HA
        simp only [spec_l5reach.l1] at H
        have H' := zA H
        clear H
        go_wp2
        go_loopg [9, 10] k2 (fun kq v9 v10 w' => ∃ (x7_3 : List Bool) (x9_3 : Bool) (x10_3 : Int), v9 = .bool x9_3 ∧ v10 = .int .i64 x10_3 ∧ Aside0 (spec_l5reach.l2 kq l0 x7_3 x9_3 x10_3 = some r) ∧ Aside0 (kq ≤ k2) ∧ Aside0 (Kd.R Kd.bool 4 w' w.heap.size (fun _ => True) v165 x7_3) ∧ Aside0 (Below w.heap.size w w'))
        case atStart => exact ⟨(x7_2), (false), (0), zr, zr, H', ⟨Nat.le_refl _⟩, ⟨zR HO_7.out⟩, ⟨z_⟩⟩
        case round =>
         clear H'
         (try clear c1); (try clear p1); (try clear q1); (try clear hx1); (try clear c2); (try clear p2); (try clear c3); (try clear c4); (try clear c4b0); (try clear c4b1); (try clear c5); (try clear c5b0); (try clear c5b1); (try clear p6); (try clear c8); (try clear c8b0); (try clear c9); (try clear c9b0); (try clear c10); (try clear c10b0); (try clear c11); (try clear c11b0); (try clear p12); (try clear q12); (try clear hx12); (try clear hf12); (try clear hx12_0); (try clear hx167_0); (try clear p1); (try clear p12); (try clear p167); (try clear p2); (try clear p6); (try clear q1); (try clear q12); (try clear q167)
         obtain ⟨x7_3, x9_3, x10_3, rfl, rfl, HA, HK3, HO_7, HB⟩ := hrel
         cases gk with
         | zero => exact absurd HA.out (by simp [spec_l5reach.l2])
         | succ k3 =>
          have H := HA.out
          clear HA
          simp only [spec_l5reach.l2] at H
          by_cases c15 : x10_3 < (l0.length : Int)
          ·rw [if_pos c15] at H
           have c15b0 : decide (x10_3 < (l0.length : Int)) = true := decide_eq_true c15
           clear c15
           by_cases c16 : 0 ≤ x10_3
           ·rw [if_pos c16] at H
            have c16b0 : decide (0 ≤ x10_3) = true := decide_eq_true c16
            clear c16
            by_cases c17 : 0 ≤ ((rd_T51 l0 x10_3).f0)
            ·rw [if_pos c17] at H
             have c17b0 : decide (0 ≤ ((rd_T51 l0 x10_3).f0)) = true := decide_eq_true c17
             clear c17
             by_cases c18 : ((rd_T51 l0 x10_3).f0) < (x7_3.length : Int)
             ·rw [if_pos c18] at H
              have c18b0 : decide (((rd_T51 l0 x10_3).f0) < (x7_3.length : Int)) = true := decide_eq_true c18
              clear c18
              obtain ⟨bq19, hbq19⟩ : ∃ b_ : Bool, b_ = (rdOf false x7_3 ((rd_T51 l0 x10_3).f0)) := ⟨_, rfl⟩
              replace H : (if bq19 = true then (if 0 ≤ ((rd_T51 l0 x10_3).f1) then (if ((rd_T51 l0 x10_3).f1) < (x7_3.length : Int) then (if (rdOf false x7_3 ((rd_T51 l0 x10_3).f1) = true) then (spec_l5reach.l2 k3 l0 x7_3 x9_3 (wrap64 (x10_3 + 1))) else (spec_l5reach.l2 k3 l0 (x7_3.set (((rd_T51 l0 x10_3).f1) : Int).toNat true) true (wrap64 (x10_3 + 1)))) else (none)) else (none)) else (spec_l5reach.l2 k3 l0 x7_3 x9_3 (wrap64 (x10_3 + 1)))) = some r := by rw [← hbq19] at H; exact H
              have Nbq19 := zA hbq19
              clear hbq19
              by_cases c20 : bq19 = true
              ·subst c20
               have H1 : (if 0 ≤ ((rd_T51 l0 x10_3).f1) then (if ((rd_T51 l0 x10_3).f1) < (x7_3.length : Int) then (if (rdOf false x7_3 ((rd_T51 l0 x10_3).f1) = true) then (spec_l5reach.l2 k3 l0 x7_3 x9_3 (wrap64 (x10_3 + 1))) else (spec_l5reach.l2 k3 l0 (x7_3.set (((rd_T51 l0 x10_3).f1) : Int).toNat true) true (wrap64 (x10_3 + 1)))) else (none)) else (none)) = some r := by rw [if_pos rfl] at H; exact H
               clear H
               have H := H1
               clear H1
               by_cases c21 : 0 ≤ ((rd_T51 l0 x10_3).f1)
               ·rw [if_pos c21] at H
                have c21b0 : decide (0 ≤ ((rd_T51 l0 x10_3).f1)) = true := decide_eq_true c21
                clear c21
                by_cases c22 : ((rd_T51 l0 x10_3).f1) < (x7_3.length : Int)
                ·rw [if_pos c22] at H
                 have c22b0 : decide (((rd_T51 l0 x10_3).f1) < (x7_3.length : Int)) = true := decide_eq_true c22
                 clear c22
                 obtain ⟨bq23, hbq23⟩ : ∃ b_ : Bool, b_ = (rdOf false x7_3 ((rd_T51 l0 x10_3).f1)) := ⟨_, rfl⟩
                 replace H : (if (bq23 = true) then (spec_l5reach.l2 k3 l0 x7_3 x9_3 (wrap64 (x10_3 + 1))) else (spec_l5reach.l2 k3 l0 (x7_3.set (((rd_T51 l0 x10_3).f1) : Int).toNat true) true (wrap64 (x10_3 + 1)))) = some r := by rw [← hbq23] at H; exact H
                 have Nbq23 := zA hbq23
                 clear hbq23
                 by_cases c24 : (bq23 = true)
                 ·subst c24
                  have H1 : (spec_l5reach.l2 k3 l0 x7_3 x9_3 (wrap64 (x10_3 + 1))) = some r := by rw [if_pos rfl] at H; exact H
                  clear H
                  have H := H1
                  clear H1
                  have H' := zA H
                  clear H
                  have p169 : 0 ≤ (x10_3 : Int) := zd
                  have q169 : x10_3 < (l0.length : Int) := zd
                  obtain ⟨ad169, e169, hx169_0, hx169_1, hx169_2, hx169_3⟩ := at_T51 HR0.out x10_3 p169 q169
                  cases e169
                  replace hx169_0 := zx HB.out hx169_0
                  replace hx169_1 := zx HB.out hx169_1
                  replace hx169_2 := zx HB.out hx169_2
                  replace hx169_3 := zx HB.out hx169_3
                  replace p169 := eq_true p169
                  replace q169 := eq_true q169
                  obtain ⟨Ao25, co25, eo25⟩ := Kd.R_slice HO_7.out
                  subst eo25
                  have p170 : 0 ≤ (((rd_T51 l0 x10_3).f0) : Int) := zd
                  have q170 : ((rd_T51 l0 x10_3).f0) < (x7_3.length : Int) := zd
                  obtain ⟨ad170, e170, hx170_0⟩ := Kd.at_bool (Kd.R_reads' HO_7.out).2.2 ((rd_T51 l0 x10_3).f0) p170 q170
                  (try rw [← Nbq19.out] at hx170_0)
                  (try rw [← Nbq23.out] at hx170_0)
                  cases e170
                  replace p170 := eq_true p170
                  replace q170 := eq_true q170
                  have p171 : 0 ≤ (x10_3 : Int) := zd
                  have q171 : x10_3 < (l0.length : Int) := zd
                  obtain ⟨ad171, e171, hx171_0, hx171_1, hx171_2, hx171_3⟩ := at_T51 HR0.out x10_3 p171 q171
                  obtain rfl : ad169 = ad171 := (by injection e171)
                  replace hx171_0 := zx HB.out hx171_0
                  replace hx171_1 := zx HB.out hx171_1
                  replace hx171_2 := zx HB.out hx171_2
                  replace hx171_3 := zx HB.out hx171_3
                  replace p171 := eq_true p171
                  replace q171 := eq_true q171
                  have p172 : 0 ≤ (((rd_T51 l0 x10_3).f1) : Int) := zd
                  have q172 : ((rd_T51 l0 x10_3).f1) < (x7_3.length : Int) := zd
                  obtain ⟨ad172, e172, hx172_0⟩ := Kd.at_bool (Kd.R_reads' HO_7.out).2.2 ((rd_T51 l0 x10_3).f1) p172 q172
                  (try rw [← Nbq19.out] at hx172_0)
                  (try rw [← Nbq23.out] at hx172_0)
                  obtain rfl : ad170 = ad172 := (by injection e172)
                  replace p172 := eq_true p172
                  replace q172 := eq_true q172
                  go_wp2
                  go_roundg k3
                  case measure => have := HK1.out; have := HK2.out; have := HK3.out; omega
                  case rel => exact ⟨(x7_3), (x9_3), (wrap64 (x10_3 + 1)), zr, zr, H', ⟨by have := HK1.out; have := HK2.out; have := HK3.out; omega⟩, ⟨zR HO_7.out⟩, ⟨z_⟩⟩
                 ·replace c24 := Bool.eq_false_iff.mpr c24
                  subst c24
                  have H1 : (spec_l5reach.l2 k3 l0 (x7_3.set (((rd_T51 l0 x10_3).f1) : Int).toNat true) true (wrap64 (x10_3 + 1))) = some r := by rw [if_neg (show ¬ (false = true) by decide)] at H; exact H
                  clear H
                  have H := H1
                  clear H1
                  obtain ⟨y174, hy174⟩ : ∃ y_ : List Bool, y_ = (x7_3.set (((rd_T51 l0 x10_3).f1) : Int).toNat true) := ⟨_, rfl⟩
                  replace H : (spec_l5reach.l2 k3 l0 y174 true (wrap64 (x10_3 + 1))) = some r := zh hy174
                  have Ny174 := zA hy174
                  clear hy174
                  have H' := zA H
                  clear H
                  have p169 : 0 ≤ (x10_3 : Int) := zd
                  have q169 : x10_3 < (l0.length : Int) := zd
                  obtain ⟨ad169, e169, hx169_0, hx169_1, hx169_2, hx169_3⟩ := at_T51 HR0.out x10_3 p169 q169
                  cases e169
                  replace hx169_0 := zx HB.out hx169_0
                  replace hx169_1 := zx HB.out hx169_1
                  replace hx169_2 := zx HB.out hx169_2
                  replace hx169_3 := zx HB.out hx169_3
                  replace p169 := eq_true p169
                  replace q169 := eq_true q169
                  obtain ⟨Ao27, co27, eo27⟩ := Kd.R_slice HO_7.out
                  subst eo27
                  have p170 : 0 ≤ (((rd_T51 l0 x10_3).f0) : Int) := zd
                  have q170 : ((rd_T51 l0 x10_3).f0) < (x7_3.length : Int) := zd
                  obtain ⟨ad170, e170, hx170_0⟩ := Kd.at_bool (Kd.R_reads' HO_7.out).2.2 ((rd_T51 l0 x10_3).f0) p170 q170
                  (try rw [← Nbq19.out] at hx170_0)
                  (try rw [← Nbq23.out] at hx170_0)
                  cases e170
                  replace p170 := eq_true p170
                  replace q170 := eq_true q170
                  have p171 : 0 ≤ (x10_3 : Int) := zd
                  have q171 : x10_3 < (l0.length : Int) := zd
                  obtain ⟨ad171, e171, hx171_0, hx171_1, hx171_2, hx171_3⟩ := at_T51 HR0.out x10_3 p171 q171
                  obtain rfl : ad169 = ad171 := (by injection e171)
                  replace hx171_0 := zx HB.out hx171_0
                  replace hx171_1 := zx HB.out hx171_1
                  replace hx171_2 := zx HB.out hx171_2
                  replace hx171_3 := zx HB.out hx171_3
                  replace p171 := eq_true p171
                  replace q171 := eq_true q171
                  have p172 : 0 ≤ (((rd_T51 l0 x10_3).f1) : Int) := zd
                  have q172 : ((rd_T51 l0 x10_3).f1) < (x7_3.length : Int) := zd
                  obtain ⟨ad172, e172, hx172_0⟩ := Kd.at_bool (Kd.R_reads' HO_7.out).2.2 ((rd_T51 l0 x10_3).f1) p172 q172
                  (try rw [← Nbq19.out] at hx172_0)
                  (try rw [← Nbq23.out] at hx172_0)
                  obtain rfl : ad170 = ad172 := (by injection e172)
                  replace p172 := eq_true p172
                  replace q172 := eq_true q172
                  have p173 : 0 ≤ (x10_3 : Int) := zd
                  have q173 : x10_3 < (l0.length : Int) := zd
                  obtain ⟨ad173, e173, hx173_0, hx173_1, hx173_2, hx173_3⟩ := at_T51 HR0.out x10_3 p173 q173
                  obtain rfl : ad169 = ad173 := (by injection e173)
                  replace hx173_0 := zx HB.out hx173_0
                  replace hx173_1 := zx HB.out hx173_1
                  replace hx173_2 := zx HB.out hx173_2
                  replace hx173_3 := zx HB.out hx173_3
                  replace p173 := eq_true p173
                  replace q173 := eq_true q173
                  have p26 : 0 ≤ (((rd_T51 l0 x10_3).f1) : Int) := zd
                  have q26 : (((rd_T51 l0 x10_3).f1) : Int) < ((x7_3.length : Int) : Int) := zd
                  obtain ⟨go26, co26, eo26, gb26, gl26, cl26, HG26⟩ := Kd.R_form HO_7.out (by omega)
                  (first | cases eo26 | (injection eo26 with ea_ en_ ec_; (first | subst ea_ | (injection ea_ with ea_; subst ea_)); subst ec_; clear en_))
                  have GB26 := zA gb26
                  have GG26 := zA HG26
                  clear gb26 gl26 HG26
                  (first | simp only [add_plain] at hx170_0 | skip)
                  (first | simp only [add_plain] at hx172_0 | skip)
                  obtain ⟨hx26_0, hf26_0⟩ := Kd.R_celln false HO_7.out (((rd_T51 l0 x10_3).f1) : Int) p26 q26
                  replace p26 := eq_true p26
                  replace q26 := eq_true q26
                  have HP28 := Kd.R_putg HO_7.out (((rd_T51 l0 x10_3).f1) : Int) true
                  go_wp2_with (first | ((with_reducible refine gate_store (t := 4) (p := 56) rfl ?_); refine store_event (t := 4) (p := 56) (v := ?vo_w29) (w1 := (wr.setCell ⟨go26, (((rd_T51 l0 x10_3).f1) : Int).toNat, none⟩ (.bool true))) ?hg ?ho ?hn ?hr ?_; (case ho => rfl); (case hg => rfl); (case hn => rfl); (case hr => first | (go_simp; done) | (go_simp; rfl)); intro w29 hw; have hg : wr.grownBy w29 (some go26) := (by rw [hw]; exact HP28.2); have hp_ : Kd.R Kd.bool 4 w29 w.heap.size (fun _ => True) (.slice (some ⟨go26, 0, none⟩) x7_3.length co27) y174 := (by rw [hw, Ny174.out]; exact HP28.1); clear HP28; have n0_ := zA (hp_); have n1_ := zA ((by rw [hw]; exact below_set (HB.out) GB26.out : Below w.heap.size w w29)); clear HO_7 HB; have HO_7 := n0_; have HB := n1_; clear n0_ n1_; clear hg hw hp_))
                  go_roundg k3
                  case measure => have := HK1.out; have := HK2.out; have := HK3.out; omega
                  case rel => exact ⟨(y174), (true), (wrap64 (x10_3 + 1)), zr, zr, H', ⟨by have := HK1.out; have := HK2.out; have := HK3.out; omega⟩, ⟨zR HO_7.out⟩, ⟨z_⟩⟩
                ·rw [if_neg c22] at H
                 exact absurd H (by simp)
               ·rw [if_neg c21] at H
                exact absurd H (by simp)
              ·replace c20 := Bool.eq_false_iff.mpr c20
               subst c20
               have H1 : (spec_l5reach.l2 k3 l0 x7_3 x9_3 (wrap64 (x10_3 + 1))) = some r := by rw [if_neg (show ¬ (false = true) by decide)] at H; exact H
               clear H
               have H := H1
               clear H1
               have H' := zA H
               clear H
               have p169 : 0 ≤ (x10_3 : Int) := zd
               have q169 : x10_3 < (l0.length : Int) := zd
               obtain ⟨ad169, e169, hx169_0, hx169_1, hx169_2, hx169_3⟩ := at_T51 HR0.out x10_3 p169 q169
               cases e169
               replace hx169_0 := zx HB.out hx169_0
               replace hx169_1 := zx HB.out hx169_1
               replace hx169_2 := zx HB.out hx169_2
               replace hx169_3 := zx HB.out hx169_3
               replace p169 := eq_true p169
               replace q169 := eq_true q169
               obtain ⟨Ao30, co30, eo30⟩ := Kd.R_slice HO_7.out
               subst eo30
               have p170 : 0 ≤ (((rd_T51 l0 x10_3).f0) : Int) := zd
               have q170 : ((rd_T51 l0 x10_3).f0) < (x7_3.length : Int) := zd
               obtain ⟨ad170, e170, hx170_0⟩ := Kd.at_bool (Kd.R_reads' HO_7.out).2.2 ((rd_T51 l0 x10_3).f0) p170 q170
               (try rw [← Nbq19.out] at hx170_0)
               cases e170
               replace p170 := eq_true p170
               replace q170 := eq_true q170
               go_wp2
               go_roundg k3
               case measure => have := HK1.out; have := HK2.out; have := HK3.out; omega
               case rel => exact ⟨(x7_3), (x9_3), (wrap64 (x10_3 + 1)), zr, zr, H', ⟨by have := HK1.out; have := HK2.out; have := HK3.out; omega⟩, ⟨zR HO_7.out⟩, ⟨z_⟩⟩
             ·rw [if_neg c18] at H
              exact absurd H (by simp)
            ·rw [if_neg c17] at H
             exact absurd H (by simp)
           ·rw [if_neg c16] at H
            exact absurd H (by simp)
          ·rw [if_neg c15] at H
           have c15b0 : decide (x10_3 < (l0.length : Int)) = false := decide_eq_false c15
           clear c15
           by_cases c31 : x9_3 = true
           ·subst c31
            have H1 : (spec_l5reach.l1 k3 l0 x7_3) = some r := by rw [if_pos rfl] at H; exact H
            clear H
            have H := H1
            clear H1
            have H' := zA H
            clear H
            go_wp2
            go_roundg k3
            case measure => have := HK1.out; have := HK2.out; have := HK3.out; omega
            case rel => exact ⟨(x7_3), H', ⟨by have := HK1.out; have := HK2.out; have := HK3.out; omega⟩, ⟨zR HO_7.out⟩, ⟨z_⟩⟩
           ·replace c31 := Bool.eq_false_iff.mpr c31
            subst c31
            have H1 : (some x7_3) = some r := by rw [if_neg (show ¬ (false = true) by decide)] at H; exact H
            clear H
            have H := H1
            clear H1
            obtain rfl := Option.some.inj H
            go_wp2
            go_ret
            exact ⟨_, ze, by (with_reducible repeat (first | apply Kd.R_alloc | apply Kd.R_drewN | apply Kd.R_drew)); exact HO_7.out, z_⟩
  ·rw [if_neg c5] at H
   exact absurd H (by simp)
 ·rw [if_neg c4] at H
  exact absurd H (by simp)

end Go.Proofs.Ytiboccbaaphbhaa.PFnExactReach
