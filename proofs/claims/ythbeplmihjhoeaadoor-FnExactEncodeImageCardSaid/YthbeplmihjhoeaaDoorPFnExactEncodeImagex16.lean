-- made by wip/tools/myprint.py (this session's own program, over the kit's printer)
import Derived.Test.YthbeplmihjhoeaaDoorPFnExactEncodeImagex0
import Derived.Test.YthbeplmihjhoeaaDoorPFnExactEncodeImagex14
import Derived.Test.YthbeplmihjhoeaaDoorPFnExactEncodeImagex15
namespace Go.Proofs.YthbeplmihjhoeaaDoor.PFnExactEncodeImage
open Go.RowKit Go.Proofs.YthbeplmihjhoeaaDoorW.PrintWords Go.Proofs.YthbeplmihjhoeaaDoorW.PrintLast Go.Proofs.YthbeplmihjhoeaaDoorW.PrintMore
attribute [local go_sem] max2_int min2_int max_two min_two max_three min_three max_four min_four   -- for this text's walks alone
set_option linter.unusedVariables false
set_option linter.unusedSimpArgs false

/-! ### impl_EncodeImage: function 32 -/
def impl_EncodeImage.putF (x : Int) : Nat → Int → List Int
 | 0, _ => []
 | d + 1, i => shr .i64 x (wrap64 (8 * i)) % 256 :: impl_EncodeImage.putF x d (i + 1)
def impl_EncodeImage.putL (n : Nat) : List Int → List Int
 | [] => []
 | x :: xs => impl_EncodeImage.putF x n 0 ++ impl_EncodeImage.putL n xs
theorem impl_EncodeImage.putL_drop (n : Nat) (l : List Int) (j : Int) (h0 : 0 ≤ j) (h1 : j < l.length) : impl_EncodeImage.putL n (l.drop j.toNat) = impl_EncodeImage.putF (rd l j) n 0 ++ impl_EncodeImage.putL n (l.drop (j + 1).toNat) := by
 rw [show (j + 1).toNat = j.toNat + 1 by omega, List.drop_eq_getElem_cons (by omega : j.toNat < l.length), impl_EncodeImage.putL]
 congr 2
 unfold rd
 rw [List.getD_eq_getElem?_getD, List.getElem?_eq_getElem (by omega : j.toNat < l.length)]; rfl
def impl_EncodeImage.T6 : Bool × List (List Nat × List Nat) := (true, [([], []), ([], []), ([1], [1]), ([2], [2]), ([3], [3]), ([], []), ([], []), ([6], [6]), ([5, 7], [5, 7]), ([8], [8]), ([9], [9]), ([4, 10], [4, 10]), ([0, 0, 1, 2, 3, 4, 5, 6, 7, 8, 9, 10, 11], [0]), ([12, 0, 1, 2, 3, 4, 5, 6, 7, 8, 9, 10, 11], [12]), ([13, 11, 11, 0, 1, 2, 3, 4, 5, 6, 7, 8, 9, 10, 11], [11, 13])])
def impl_EncodeImage.B6 : List Nat := [0, 0, 2, 6, 14, 0, 0, 64, 224, 480, 992, 2046, 4095, 8191, 16383]
theorem impl_EncodeImage.tab6 : rtab .any (opsOf Tryd.f90 6) = impl_EncodeImage.T6 := by kernel_rfl
theorem impl_EncodeImage.bits6 : waitsOk impl_EncodeImage.T6.2 impl_EncodeImage.B6 = true := by kernel_rfl
set_option maxHeartbeats 8000000 in
set_option maxRecDepth 100000 in
theorem impl_EncodeImage.put (n : Nat) (hn : n ≤ 8) (g : Nat) (u0 : Value) (xs : List Int) (A : Option Addr) (c : Nat) (list : List Int) (w0 w : World) (hg : w.heap[g]? = some (.cells #[u0] 117 (0, 0))) (hgb : w0.heap.size ≤ g) (hQ : MkQ w w0.heap.size u0 xs)
  (hl : ∀ W, Kept w W (fun k => k = g ∨ some k = u0.ownBlock) → Below w0.heap.size w0 W → Kd.C (Kd.int .i64) W A list.length list) (hB : Below w0.heap.size w0 w) (R : List Int) (hR : xs ++ impl_EncodeImage.putL n list = R) (hr : R.length ≤ 140737488355328) (hll : list.length ≤ 1048576) :
  Calls Tryd.prog 90 #[.pointer (some ⟨g, 0, none⟩), .int .i64 n, .slice A list.length c] w fun e w' => e = .returned (.tuple #[]) ∧ ∃ u', w'.heap[g]? = some (.cells #[u'] 117 (0, 0)) ∧ MkQ w' w0.heap.size u' R ∧ (u'.ownBlock = u0.ownBlock ∨ ∃ b, u'.ownBlock = some b ∧ w.heap.size ≤ b) ∧ Below w0.heap.size w0 w' ∧ Kept w w' (fun k => k = g ∨ some k = u0.ownBlock) := by
 have hu117 := Tryd.underlying117
 have NN := zA hn
 have HQ := zA hQ
 have HL := zA hl
 have HB := zA hB
 have HR := zA hR
 have RL := zA hr
 have LL := zA hll
 have BK := zA hg
 have GE := zA hgb
 have HS := zA (show u0.ownBlock = u0.ownBlock ∨ ∃ b, u0.ownBlock = some b ∧ w.heap.size ≤ b from .inl rfl)
 have HK := zA (Kept.refl w (fun k => k = g ∨ some k = u0.ownBlock))
 clear hn hQ hl hB hR hr hll hg hgb
 go_enter Tryd.func90, Tryd.ntmps90
 go_wp2
 go_loopg [11] list.length (fun kq v11 w' => ∃ (j : Int) (ys : List Int) (u : Value), v11 = .int .i64 j ∧ Aside0 (0 ≤ j ∧ (kq : Int) + j = list.length) ∧ Aside0 (ys ++ impl_EncodeImage.putL n (list.drop j.toNat) = R) ∧ Aside0 (MkQ w' w0.heap.size u ys) ∧ Aside0 (w'.heap[g]? = some (.cells #[u] 117 (0, 0))) ∧ Aside0 (u.ownBlock = u0.ownBlock ∨ ∃ b, u.ownBlock = some b ∧ w.heap.size ≤ b) ∧ Aside0 (Kept w w' (fun k => k = g ∨ some k = u0.ownBlock)) ∧ Aside0 (Below w0.heap.size w0 w'))
 case atStart => exact ⟨0, xs, u0, rfl, ⟨by omega, by omega⟩, HR, HQ, BK, ⟨.inl rfl⟩, HK, HB⟩
 case round =>
  clear HR HQ BK HS HK HB
  obtain ⟨j, ys, u, rfl, HI, HR, HQ, BK, HS, HK, HB⟩ := hrel
  by_cases c12 : j < (list.length : Int)
  ·have c12b : decide (j < (list.length : Int)) = true := decide_eq_true c12
   have p0 : 0 ≤ j := HI.out.1
   have hrd := impl_EncodeImage.putL_drop n list j p0 c12
   have HR2 := zA (show ys ++ impl_EncodeImage.putF (rd list j) n 0 ++ impl_EncodeImage.putL n (list.drop (j + 1).toNat) = R by rw [List.append_assoc, ← hrd]; exact HR.out)
   clear hrd HR
   obtain ⟨ad, eA, hx⟩ := Kd.at_int (HL.out wr HK.out HB.out) j p0 c12
   cases eA
   have J1 := zA c12
   replace p0 := eq_true p0
   replace c12 := eq_true c12
   cases gk with
   | zero => exact absurd HI.out.2 (by have := J1.out; omega)
   | succ k1 =>
    go_wp2
    go_loopg [16] n (fun kq v16 w' => ∃ (i : Int) (ys : List Int) (u : Value), v16 = .int .i64 i ∧ Aside0 (0 ≤ i ∧ (kq : Int) + i = n) ∧ Aside0 (ys ++ impl_EncodeImage.putF (rd list j) kq i ++ impl_EncodeImage.putL n (list.drop (j + 1).toNat) = R) ∧ Aside0 (MkQ w' w0.heap.size u ys) ∧ Aside0 (w'.heap[g]? = some (.cells #[u] 117 (0, 0))) ∧ Aside0 (u.ownBlock = u0.ownBlock ∨ ∃ b, u.ownBlock = some b ∧ w.heap.size ≤ b) ∧ Aside0 (Kept w w' (fun k => k = g ∨ some k = u0.ownBlock)) ∧ Aside0 (Below w0.heap.size w0 w'))
    case atStart => exact ⟨0, ys, u, rfl, ⟨by omega, by omega⟩, HR2, HQ, BK, HS, HK, HB⟩
    case round =>
     clear HR2 HQ BK HS HK HB hx p0 c12 c12b
     obtain ⟨i, ys, u, rfl, HI2, HR2, HQ, BK, HS, HK, HB⟩ := hrel
     by_cases c17 : i < (n : Int)
     ·have c17b : decide (i < (n : Int)) = true := decide_eq_true c17
      cases gk with
      | zero => exact absurd HI2.out.2 (by omega)
      | succ k2 =>
       obtain ⟨ji20, hji20⟩ : ∃ j_ : Int, wrap64 (8 * i) = j_ := ⟨_, rfl⟩
       obtain ⟨ji22, hji22⟩ : ∃ j_ : Int, shr .i64 (rd list j) ji20 = j_ := ⟨_, rfl⟩
       have HR3 := zA (show (ys ++ [ji22 % 256]) ++ impl_EncodeImage.putF (rd list j) k2 (i + 1) ++ impl_EncodeImage.putL n (list.drop (j + 1).toNat) = R by have := HR2.out; rw [impl_EncodeImage.putF, hji20, hji22] at this; simpa [List.append_assoc] using this)
       clear HR2
       have hji20w : (IntKind.i64.wrap (8 * i)) = ji20 := (i64_w _).trans hji20
       have c21 : 0 ≤ ji20 := by have := HI2.out; have := NN.out; rw [← hji20]; unfold wrap64; omega
       have c21b0 := eq_true c21
       have c21b1 : decide (0 ≤ ji20) = true := decide_eq_true c21
       clear c21
       have hji22_ : ((rd list j) / 2 ^ min (ji20).toNat 64) = ji22 := hji22
       have hji22z : (ji20) ≤ 64 → ((rd list j) / 2 ^ (ji20).toNat) = ji22 := shr_small hji22
       have YL := zA (show ys.length + 1 ≤ 140737488355328 by have := congrArg List.length HR3.out; have := RL.out; simp only [List.length_append, List.length_singleton] at *; omega)
       have C17 := zA c17
       clear c17
       obtain ⟨y353, hy353⟩ : ∃ y_ : List Int, y_ = (ys ++ [(ji22) % 256]) := ⟨_, rfl⟩
       have HR4 := zA (show y353 ++ impl_EncodeImage.putF (rd list j) k2 (i + 1) ++ impl_EncodeImage.putL n (list.drop (j + 1).toNat) = R by rw [hy353]; exact HR3.out)
       have Ny353 := zA hy353
       clear hy353 HR3
       try go_wp2
       have n1_ := zA (HQ.out.drew)
       have n3_ := zA (blk_drew BK.out)
       have n4_ := zA (below_drew1 HB.out)
       have n5_ := zA (HK.out.drew)
       clear HQ BK HB HK
       have HQ := n1_
       have BK := n3_
       have HB := n4_
       have HK := n5_
       clear n1_ n3_ n4_ n5_
       refine start_ (n := 15) (S := fun w' => w'.cell? ⟨g, 0, none⟩ = some u) (ds := [14]) #[false, false, false, false, false, false, false, false, false, false, false, false, false, false, false] (by kernel_rfl) rfl rfl ((blk_cell BK.out 0).trans rfl) (fun hHeld => ?_); refine with_tabW impl_EncodeImage.tab6 impl_EncodeImage.bits6 (fun HT_ HW_ => ?_)
       generalize wr.drew = w24 at HQ BK HB HK hHeld ⊢
       refine pure_ (i := 0) (N := some 19) (v := ?_) (a' := ?_) #[true, false, false, false, false, false, false, false, false, false, false, false, false, false, false] rfl rfl (any_of HT_.out (by kernel_rfl)) (fun _ _ _ h => h) (Or.inl ⟨by rfl, ?_⟩) ?_ ?_
       rotate_left
       ·intro w'
        go_simp
        with_reducible rfl
       rotate_left
       ·simp only [Act.put, List.setIfInBounds_toArray, List.set_cons_zero, List.set_cons_succ, i64_w, i32_w]
        rfl
       refine pure_ (i := 1) (N := some 20) (v := ?_) (a' := ?_) #[true, true, false, false, false, false, false, false, false, false, false, false, false, false, false] rfl rfl (any_of HT_.out (by kernel_rfl)) (fun _ _ _ h => h) (Or.inl ⟨by rfl, ?_⟩) ?_ ?_
       rotate_left
       ·intro w'
        go_simp
        with_reducible rfl
       rotate_left
       ·simp only [Act.put, List.setIfInBounds_toArray, List.set_cons_zero, List.set_cons_succ, i64_w, i32_w]
        rfl
       refine pure_ (i := 2) (N := some 21) (v := ?_) (a' := ?_) #[true, true, true, false, false, false, false, false, false, false, false, false, false, false, false] rfl rfl (any_of HT_.out (by kernel_rfl)) (fun _ _ _ h => h) (Or.inl ⟨by rfl, ?_⟩) ?_ ?_
       rotate_left
       ·intro w'
        go_simp
        with_reducible rfl
       rotate_left
       ·simp only [Act.put, List.setIfInBounds_toArray, List.set_cons_zero, List.set_cons_succ, i64_w, i32_w]
        rfl
       refine pure_ (i := 3) (N := some 22) (v := ?_) (a' := ?_) #[true, true, true, true, false, false, false, false, false, false, false, false, false, false, false] rfl rfl (any_of HT_.out (by kernel_rfl)) (fun _ _ _ h => h) (Or.inl ⟨by rfl, ?_⟩) ?_ ?_
       rotate_left
       ·intro w'
        go_simp
        with_reducible rfl
       rotate_left
       ·simp only [Act.put, List.setIfInBounds_toArray, List.set_cons_zero, List.set_cons_succ, i64_w, i32_w]
        rfl
       refine pure_ (i := 5) (N := some 24) (v := ?_) (a' := ?_) #[true, true, true, true, false, true, false, false, false, false, false, false, false, false, false] rfl rfl (any_of HT_.out (by kernel_rfl)) (fun _ _ _ h => h) (Or.inl ⟨by rfl, ?_⟩) ?_ ?_
       rotate_left
       ·intro w'
        go_simp
        with_reducible rfl
       rotate_left
       ·simp only [Act.put, List.setIfInBounds_toArray, List.set_cons_zero, List.set_cons_succ, i64_w, i32_w]
        rfl
       refine pure_ (i := 6) (N := some 25) (v := ?_) (a' := ?_) #[true, true, true, true, false, true, true, false, false, false, false, false, false, false, false] rfl rfl (any_of HT_.out (by kernel_rfl)) (fun _ _ _ h => h) (Or.inl ⟨by rfl, ?_⟩) ?_ ?_
       rotate_left
       ·intro w'
        go_simp
        with_reducible rfl
       rotate_left
       ·simp only [Act.put, List.setIfInBounds_toArray, List.set_cons_zero, List.set_cons_succ, i64_w, i32_w]
        rfl
       refine pure_ (i := 7) (N := some 26) (v := ?_) (a' := ?_) #[true, true, true, true, false, true, true, true, false, false, false, false, false, false, false] rfl rfl (any_of HT_.out (by kernel_rfl)) (fun _ _ _ h => h) (Or.inl ⟨by rfl, ?_⟩) ?_ ?_
       rotate_left
       ·intro w'
        go_simp
        with_reducible rfl
       rotate_left
       ·simp only [Act.put, List.setIfInBounds_toArray, List.set_cons_zero, List.set_cons_succ, i64_w, i32_w]
        rfl
       refine pure_ (i := 8) (N := some 27) (v := ?_) (a' := ?_) #[true, true, true, true, false, true, true, true, true, false, false, false, false, false, false] rfl rfl (any_of HT_.out (by kernel_rfl)) (fun _ _ _ h => h) (Or.inl ⟨by rfl, ?_⟩) ?_ ?_
       rotate_left
       ·intro w'
        go_simp
        with_reducible rfl
       rotate_left
       ·simp only [Act.put, List.setIfInBounds_toArray, List.set_cons_zero, List.set_cons_succ, i64_w, i32_w]
        rfl
       refine pure_ (i := 9) (N := some 28) (v := ?_) (a' := ?_) #[true, true, true, true, false, true, true, true, true, true, false, false, false, false, false] rfl rfl (any_of HT_.out (by kernel_rfl)) (fun _ _ _ h => h) (Or.inl ⟨by rfl, ?_⟩) ?_ ?_
       rotate_left
       ·intro w'
        go_simp
        with_reducible rfl
       rotate_left
       ·simp only [Act.put, List.setIfInBounds_toArray, List.set_cons_zero, List.set_cons_succ, i64_w, i32_w]
        rfl
       refine take_ (i := 4) (N := some 23) (v := ?_) (a' := ?_) #[true, true, true, true, true, true, true, true, true, true, false, false, false, false, false] rfl rfl (take_ofW HT_.out HW_.out (by kernel_rfl)) (fun _ _ _ h => h) (Or.inl ⟨by rfl, ?_⟩) hHeld ?_ ?_
       rotate_left
       ·intro w' s0
        go_simp
        with_reducible rfl
       rotate_left
       ·simp only [Act.put, List.setIfInBounds_toArray, List.set_cons_zero, List.set_cons_succ, i64_w, i32_w]
        rfl
       refine one_ (i := 10) (N := some 29) #[true, true, true, true, true, true, true, true, true, true, true, false, false, false, false] rfl rfl (one_of HT_.out (by kernel_rfl)) (by decide) (fun K hK => ?_)
       refine value_ (w1 := ?_) (v := ?_) (by rfl) rfl ?_ ?_
       rotate_left 2
       ·go_simp
        constructor
        ·rfl
        ·rfl
       refine hK.out _ _ ((blk_cell (blk_alloc BK.out _) 0).trans rfl) (fun hHeld => ?_)
       clear hK K
       refine norm_ (a' := ?_) ?_ ?_
       rotate_left
       ·show Act.put _ (some 29) _ = _
        simp only [Act.put, List.setIfInBounds_toArray, List.set_cons_zero, List.set_cons_succ, i64_w, i32_w]
        rfl
       refine one_ (i := 11) (N := some 30) #[true, true, true, true, true, true, true, true, true, true, true, true, false, false, false] rfl rfl (one_of HT_.out (by kernel_rfl)) (by decide) (fun K hK => ?_)
       refine MkQ.append_step (w0 := w0) w0.heap.size (by rfl) (.tmp 23) (.tmp 29) 54 rfl Tryd.underlying54 info5 u ys ((ji22) % 256) rfl rfl HQ.out HB.out (Nat.le_trans GE.out (Nat.le_of_lt (blk_lt BK.out))) YL.out ?_
       intro v354 w25 ho hb hg hat
       rw [← Ny353.out] at ho
       have n0_ := zA (blk_grown (g := g) (o := .cells #[u] 117 (0, 0)) BK.out hg (MkQ.ne HQ.out BK.out (by decide)))
       have n1_ := zA (Kept.of_grown hg HK.out (fun k hk => HS.out.elim (fun e => .inl (.inr (hk.symm.trans e))) (fun ⟨b, e, hb⟩ => .inr (by have := (Option.some.inj (hk.symm.trans e)); omega))))
       have n2_ := zA (show v354.ownBlock = u0.ownBlock ∨ ∃ b, v354.ownBlock = some b ∧ w.heap.size ≤ b from hat.elim (fun e => HS.out.elim (fun e' => .inl (e.trans e')) (fun ⟨b, e', hb⟩ => .inr ⟨b, e.trans e', hb⟩)) (fun ⟨b, e, hb⟩ => .inr ⟨b, e, Nat.le_trans HK.out.1 hb⟩))
       have n3_ := zA hb
       have n4_ := zA (MkQ.of ho)
       clear HQ BK HB HK HS
       have BK := n0_
       have HK := n1_
       have HS := n2_
       have HB := n3_
       have HQ := n4_
       clear n0_ n1_ n2_ n3_ n4_
       clear ho hb hg hat
       obtain ⟨Ao26, co26, eo26⟩ := MkQ.slice HQ.out
       subst eo26
       refine hK.out _ _ ((blk_cell BK.out 0).trans rfl) (fun hHeld => ?_)
       clear hK K
       refine norm_ (a' := ?_) ?_ ?_
       rotate_left
       ·show Act.put _ (some 30) _ = _
        simp only [Act.put, List.setIfInBounds_toArray, List.set_cons_zero, List.set_cons_succ, i64_w, i32_w]
        rfl
       refine pure_ (i := 12) (N := some 31) (v := ?_) (a' := ?_) #[true, true, true, true, true, true, true, true, true, true, true, true, true, false, false] rfl rfl (any_of HT_.out (by kernel_rfl)) (fun _ _ _ h => h) (Or.inl ⟨by rfl, ?_⟩) ?_ ?_
       rotate_left
       ·intro w'
        go_simp
        with_reducible rfl
       rotate_left
       ·simp only [Act.put, List.setIfInBounds_toArray, List.set_cons_zero, List.set_cons_succ, i64_w, i32_w]
        rfl
       refine pure_ (i := 13) (N := some 32) (v := ?_) (a' := ?_) #[true, true, true, true, true, true, true, true, true, true, true, true, true, true, false] rfl rfl (any_of HT_.out (by kernel_rfl)) (fun _ _ _ h => h) (Or.inl ⟨by rfl, ?_⟩) ?_ ?_
       rotate_left
       ·intro w'
        go_simp
        with_reducible rfl
       rotate_left
       ·simp only [Act.put, List.setIfInBounds_toArray, List.set_cons_zero, List.set_cons_succ, i64_w, i32_w]
        rfl
       refine last_ (i := 14) (N := none) #[true, true, true, true, true, true, true, true, true, true, true, true, true, true, true] rfl rfl (one_of HT_.out (by kernel_rfl)) (by decide) (fun K hK => ?_)
       have hs27 := zv BK.out 0 u
       have hfs27 := blk_frozen BK.out 0
       refine skip_ (w1 := ?_) (by rfl) rfl ?_ ?_
       rotate_left
       ·go_simp
        rfl
       refine hK.out _ _ ?_
       clear hK K
       refine done_ (done_of HT_.out (by kernel_rfl)) ?_
       try go_wp2
       go_roundg k2
       case measure => omega
       case rel => exact ⟨i + 1, y353, _, by have := HI2.out; have := NN.out; rw [show wrap64 (i + 1) = i + 1 by unfold wrap64; omega], ⟨by have := HI2.out; omega⟩, HR4, ⟨MkQ.far HQ.out BK.out (by decide) 0 _⟩, ⟨blk_put (cs := #[u]) BK.out 0 _ rfl⟩, HS, ⟨HK.out.setCell (.inl (.inl rfl)) _⟩, ⟨below_set HB.out GE.out⟩⟩
     ·have c17b : decide (i < (n : Int)) = false := decide_eq_false c17
      have e : ys ++ impl_EncodeImage.putL n (list.drop (j + 1).toNat) = R := by
       have := HR2.out
       rw [show gk = 0 by have := HI2.out; omega, impl_EncodeImage.putF, List.append_nil] at this
       exact this
      have HR := zA e
      clear e HR2 c17
      go_wp2
      go_roundg k1
      case measure => omega
      case rel => exact ⟨j + 1, ys, u, by have := HI.out; have := LL.out; rw [show wrap64 (j + 1) = j + 1 by unfold wrap64; omega], ⟨by have := HI.out; omega⟩, HR, HQ, BK, HS, HK, HB⟩
  ·have c12b : decide (j < (list.length : Int)) = false := decide_eq_false c12
   have e : ys = R := by
    have := HR.out
    rw [List.drop_eq_nil_of_le (by omega), impl_EncodeImage.putL, List.append_nil] at this
    exact this
   subst e
   clear c12
   go_wp2
   exact ⟨rfl, .tuple #[], results_none rfl _ _ _, rfl, u, BK.out, HQ.out, HS.out, HB.out, HK.out⟩
def impl_EncodeImage.tg (t : S120) : List Int := impl_EncodeImage.putL 1 [t.f1] ++ (impl_EncodeImage.putL 2 [t.f2] ++ (impl_EncodeImage.putL 1 [(t.f0.length : Int)] ++ t.f0))
def impl_EncodeImage.tgs : List (S120) → List Int
 | [] => []
 | t :: ts => impl_EncodeImage.tg t ++ impl_EncodeImage.tgs ts
theorem impl_EncodeImage.tgs_drop (l : List (S120)) (j : Int) (h0 : 0 ≤ j) (h1 : j < l.length) : impl_EncodeImage.tgs (l.drop j.toNat) = impl_EncodeImage.tg (rd_T120 l j) ++ impl_EncodeImage.tgs (l.drop (j + 1).toNat) := by
 rw [show (j + 1).toNat = j.toNat + 1 by omega, List.drop_eq_getElem_cons (by omega : j.toNat < l.length), impl_EncodeImage.tgs]
 congr 2
 unfold rd_T120
 rw [List.getD_eq_getElem?_getD, List.getElem?_eq_getElem (by omega : j.toNat < l.length)]; rfl
def impl_EncodeImage.row (xs : List (List Int)) (i : Int) : List Int := xs.getD i.toNat ([] : List Int)
theorem impl_EncodeImage.at_row {w : World} {A : Option Addr} {n : Nat} {xs : List (List Int)} (h : Kd.C (Kd.slice 3 (Kd.int .i64)) w A n xs) (i : Int) (h0 : 0 ≤ i) (h1 : i < n) : ∃ ad A0 c0, A = some ad ∧ w.cell? (ad.add i.toNat) = some (.slice A0 (impl_EncodeImage.row xs i).length c0) ∧ (impl_EncodeImage.row xs i).length ≤ c0 ∧ (Kd.int .i64).C w A0 (impl_EncodeImage.row xs i).length (impl_EncodeImage.row xs i) := by
 obtain ⟨ad, c, e, _, hK, hc0⟩ := Kd.C_get h ([] : List Int) i h0 h1
 have hc : ∀ j u, c[j]? = some u → w.cell? (ad.add (i.toNat * 1 + j)) = some u := hc0
 obtain ⟨A0, c0, rfl, l0, g0⟩ := hK
 exact ⟨ad, A0, c0, e, by have hq := hc 0 _ rfl; rwa [Nat.mul_one, Nat.add_zero] at hq, l0, g0⟩
theorem impl_EncodeImage.row_mem {xs : List (List Int)} {i : Int} (h0 : 0 ≤ i) (h1 : i < xs.length) : impl_EncodeImage.row xs i ∈ xs := by
 unfold impl_EncodeImage.row
 rw [List.getD_eq_getElem?_getD, List.getElem?_eq_getElem (by omega : i.toNat < xs.length)]
 exact List.getElem_mem _
def impl_EncodeImage.rows (k : Nat) (D H : List (List Int)) : Nat → Int → Option (List Int)
 | 0, _ => some []
 | d + 1, i => (impl_PackHops.f k (impl_EncodeImage.row H i)).bind fun p => (impl_EncodeImage.rows k D H d (i + 1)).bind fun rs => some (p.1 ++ (impl_EncodeImage.putL 2 (impl_EncodeImage.row D i) ++ rs))
theorem impl_EncodeImage.rows_mono (k : Nat) (D H : List (List Int)) : ∀ (d : Nat) (i : Int), LeO (impl_EncodeImage.rows k D H d i) (impl_EncodeImage.rows (k + 1) D H d i)
 | 0, _ => LeO.refl _
 | d + 1, i => LeO.bind (impl_PackHops.mono _ _) fun _ => LeO.bind (impl_EncodeImage.rows_mono k D H d (i + 1)) fun _ => LeO.refl _
def impl_EncodeImage.head (a0_0 a0_1 : Int) (l0_2 : List (S120)) : List Int := [87, 72, 76, 49] ++ impl_EncodeImage.putL 2 [a0_0, a0_1, (l0_2.length : Int)]
def impl_EncodeImage.ok (l0_2 : List (S120)) (l0_3 l0_4 : List (List Int)) : Prop := l0_2.length ≤ 1048576 ∧ l0_2.length ≤ l0_3.length ∧ l0_2.length ≤ l0_4.length ∧ ∀ x ∈ l0_3, x.length ≤ 1048576
instance (l0_2 : List (S120)) (l0_3 l0_4 : List (List Int)) : Decidable (impl_EncodeImage.ok l0_2 l0_3 l0_4) := by unfold impl_EncodeImage.ok; infer_instance
def impl_EncodeImage.f (k : Nat) (a0_0 : Int) (a0_1 : Int) (l0_2 : List (S120)) (l0_3 : List (List Int)) (l0_4 : List (List Int)) : Option (List Int) :=
 (impl_ValidTables.f k a0_0 a0_1 l0_2 l0_3 l0_4).bind fun t => if t = true then (if impl_EncodeImage.ok l0_2 l0_3 l0_4 then ((impl_EncodeImage.rows k l0_3 l0_4 l0_2.length 0).bind fun rs => (impl_Crc32.f k (impl_EncodeImage.head a0_0 a0_1 l0_2 ++ impl_EncodeImage.tgs l0_2 ++ rs)).bind fun c => if (impl_EncodeImage.head a0_0 a0_1 l0_2 ++ impl_EncodeImage.tgs l0_2 ++ rs ++ impl_EncodeImage.putL 4 [wrap64 c]).length ≤ 1000000000 then some (impl_EncodeImage.head a0_0 a0_1 l0_2 ++ impl_EncodeImage.tgs l0_2 ++ rs ++ impl_EncodeImage.putL 4 [wrap64 c]) else none) else none) else some []
theorem impl_EncodeImage.mono : ∀ a0 a1 a2 a3 a4 k, LeO (impl_EncodeImage.f k a0 a1 a2 a3 a4) (impl_EncodeImage.f (k + 1) a0 a1 a2 a3 a4) := by
 intro a0 a1 a2 a3 a4 k
 unfold impl_EncodeImage.f
 exact LeO.bind (impl_ValidTables.mono _ _ _ _ _ _) fun _ => LeO.ite (LeO.ite (LeO.bind (impl_EncodeImage.rows_mono _ _ _ _ _) fun _ => LeO.bind (impl_Crc32.mono _ _) fun _ => LeO.refl _) (LeO.refl _)) (LeO.refl _)
theorem impl_EncodeImage.typed {w : World} {base : Nat} {v : Value} {xs : List Int} (h : MkQ w base v xs) (k : Nat) (hk : some k = v.ownBlock) : ∃ cells fr, w.heap[k]? = some (.cells cells 5 fr) := by
 rcases h with h | ⟨b, rfl, _, _, hh⟩
 ·obtain ⟨cells, e⟩ := Kd.R_typed h k hk.symm
  exact ⟨cells, _, e⟩
 ·have : k = b := by simpa [Value.ownBlock] using hk
  subst this
  exact ⟨_, _, hh⟩
theorem impl_EncodeImage.kept_box {w W : World} {g k t base : Nat} {u : Value} {xs : List Int} {cs cs' : Array Value} (hb : w.heap[k]? = some (.cells cs t (0, 0))) (hg : w.heap[g]? = some (.cells cs' 117 (0, 0))) (hQ : MkQ w base u xs) (hk : Kept w W (fun k => k = g ∨ some k = u.ownBlock)) (h1 : t ≠ 117) (h2 : 5 ≠ t) : W.heap[k]? = some (.cells cs t (0, 0)) :=
 blk_kept hb hk (fun h => h.elim (fun e => blk_ne hb hg h1 e) (fun e => MkQ.ne hQ hb h2 e))
theorem impl_EncodeImage.kept_list {w W : World} {g b base n c : Nat} {ok : Nat → Prop} {u : Value} {A : Option Addr} {xs l : List Int} {cs : Array Value} (hl : Kd.R (Kd.int .i64) 3 w b ok (.slice A n c) l) (hg : w.heap[g]? = some (.cells cs 117 (0, 0))) (hQ : MkQ w base u xs) (hk : Kept w W (fun k => k = g ∨ some k = u.ownBlock)) : Kd.C (Kd.int .i64) W A l.length l := by
 have h2 := Kd.R_kept (Kd.R_tight rfl hl) hk (fun k h h' => h'.elim (fun e => Kd.R_ne hl hg (by decide) (e ▸ h)) (fun e => by
  obtain ⟨c1, e1⟩ := Kd.R_typed hl k h.symm
  obtain ⟨c2, f2, e2⟩ := impl_EncodeImage.typed hQ k e
  rw [e1] at e2
  simp at e2))
 obtain ⟨e, _, hC⟩ := Kd.R_reads' h2
 exact e ▸ hC
def impl_EncodeImage.T11 : Bool × List (List Nat × List Nat) := (true, [([], []), ([], []), ([1], [1]), ([2], [2]), ([3], [3]), ([], []), ([5], [5]), ([4, 6], [4, 6]), ([0, 0, 1, 2, 3, 4, 5, 6, 7], [0]), ([8, 0, 1, 2, 3, 4, 5, 6, 7], [8]), ([9, 7, 7, 0, 1, 2, 3, 4, 5, 6, 7], [7, 9])])
def impl_EncodeImage.B11 : List Nat := [0, 0, 2, 6, 14, 0, 32, 126, 255, 511, 1023]
theorem impl_EncodeImage.tab11 : rtab .any (opsOf Tryd.f32 11) = impl_EncodeImage.T11 := by kernel_rfl
theorem impl_EncodeImage.bits11 : waitsOk impl_EncodeImage.T11.2 impl_EncodeImage.B11 = true := by kernel_rfl
set_option maxHeartbeats 16000000 in
set_option maxRecDepth 100000 in
theorem impl_EncodeImage.calls (k : Nat) (a0_0 : Int) (a0_1 : Int) (A0_2 : Option Addr) (c0_2 : Nat) (l0_2 : List (S120)) (A0_3 : Option Addr) (c0_3 : Nat) (l0_3 : List (List Int)) (A0_4 : Option Addr) (c0_4 : Nat) (l0_4 : List (List Int)) (r : List Int) (w : World) (hr0_2 : Kd.C k120 w A0_2 l0_2.length l0_2) (hc0_2 : l0_2.length ≤ c0_2) (hr0_3 : Kd.C (Kd.slice 3 (Kd.int .i64)) w A0_3 l0_3.length l0_3) (hc0_3 : l0_3.length ≤ c0_3) (hr0_4 : Kd.C (Kd.slice 3 (Kd.int .i64)) w A0_4 l0_4.length l0_4) (hc0_4 : l0_4.length ≤ c0_4) (hL : LaidW w) (h : impl_EncodeImage.f k a0_0 a0_1 l0_2 l0_3 l0_4 = some r) :
  Calls Tryd.prog 32 #[.agg #[.int .i64 a0_0, .int .i64 a0_1, .slice A0_2 l0_2.length c0_2, .slice A0_3 l0_3.length c0_3, .slice A0_4 l0_4.length c0_4]] w fun e w' => ∃ v0_ : Value, e = .returned (v0_) ∧ Kd.R (Kd.int .u8) 5 w' w.heap.size (fun _ => True) v0_ r ∧ Below w.heap.size w w' := by
 have hu47 := Tryd.underlying47
 have hu117 := Tryd.underlying117
 have hu120 := Tryd.underlying120
 have HR0_2 := zA hr0_2
 have HC0_2 := zA hc0_2
 have HR0_3 := zA hr0_3
 have HC0_3 := zA hc0_3
 have HR0_4 := zA hr0_4
 have HC0_4 := zA hc0_4
 have HLD := zA hL
 clear hr0_2 hc0_2 hr0_3 hc0_3 hr0_4 hc0_4 hL
 have HB := zA (Below.refl w.heap.size w)
 have kc := fun (w : World) (C : Array Value) (n c : Nat) => Lib.run_convert_bytes_const (P := Tryd.prog) w 54 5 C n c Tryd.underlying54 Tryd.underlying5
 unfold impl_EncodeImage.f at h
 obtain ⟨t, A20, H⟩ := Option.bind_eq_some_iff.mp h
 clear h
 have A2 := zA A20
 clear A20
 cases t with
 | false =>
  obtain rfl := Option.some.inj H
  go_enter Tryd.func32, Tryd.ntmps32
  go_wp2_with (first | ((with_reducible refine gate_dst (N := 1) rfl ?_); refine box_event ?hg (N := 1) ?hd (cs := #[.int .i64 a0_0, .int .i64 a0_1, .slice A0_2 l0_2.length c0_2, .slice A0_3 l0_3.length c0_3, .slice A0_4 l0_4.length c0_4]) (t := 47) ?hr ?_; (case hd => rfl); (case hg => rfl); (case hr => first | (go_simp; done) | (go_simp; rfl)); intro gbT hg w4 hbox hb; have n0_ := zA (below_step z_ hb); have BT := zA hbox; have GT := zA ((by rw [hg]; exact (below_size z_) : w.heap.size ≤ gbT)); clear HB; have HB := n0_; clear n0_; clear hb hbox hg; obtain ⟨hcz5_0, hcz5_1, hcz5_2, hcz5_3, hcz5_4, hfz5_0, hfz5_1, hfz5_2, hfz5_3, hfz5_4⟩ := zh5 BT.out) | ((with_reducible refine gate_callee (f := 84) rfl ?_); refine goesL_ (some 10) rfl rfl Tryd.func84 (by kernel_rfl) rfl #[.agg #[.int .i64 a0_0, .int .i64 a0_1, .slice A0_2 l0_2.length c0_2, .slice A0_3 l0_3.length c0_3, .slice A0_4 l0_4.length c0_4]] rfl za ?_; (with_reducible refine (impl_ValidTables.calls k a0_0 a0_1 _ _ l0_2 _ _ l0_3 _ _ l0_4 false _ ?side1 ?side2 ?side3 ?side4 ?side5 ?side6 ?side7 A2.out).mono ?_); (case side1 => exact zc (Kd.C_below HR0_2.out HB.out)); (case side2 => exact HC0_2.out); (case side3 => exact zc (Kd.C_below HR0_3.out HB.out)); (case side4 => exact HC0_3.out); (case side5 => exact zc (Kd.C_below HR0_4.out HB.out)); (case side6 => exact HC0_4.out); (case side7 => exact LaidW.below HLD.out (zs GT.out)); rintro e w6 ⟨rfl, hb⟩; refine ⟨_, rfl, ?_⟩; have n0_ := zA (zB BT.out hb); have n1_ := zA (below_step (zs GT.out) hb); clear BT HB; have BT := n0_; have HB := n1_; clear n0_ n1_; (try clear hb)))
  go_ret
  exact ⟨_, ze, Kd.R_nil _ _ _ _ _, HB.out⟩
 | true =>
  rw [if_pos rfl] at H
  by_cases c3 : impl_EncodeImage.ok l0_2 l0_3 l0_4
  ·rw [if_pos c3] at H
   replace H := Option.bind_eq_some_iff.mp H
   obtain ⟨rs, A30, H⟩ := H
   replace H := Option.bind_eq_some_iff.mp H
   obtain ⟨cr, A40, H⟩ := H
   have A3 := zA A30
   clear A30
   by_cases c4 : (impl_EncodeImage.head a0_0 a0_1 l0_2 ++ impl_EncodeImage.tgs l0_2 ++ rs ++ impl_EncodeImage.putL 4 [wrap64 cr]).length ≤ 1000000000
   ·rw [if_pos c4] at H
    obtain rfl := Option.some.inj H
    clear H
    obtain ⟨hd, ehd⟩ : ∃ hd, hd = impl_EncodeImage.head a0_0 a0_1 l0_2 := ⟨_, rfl⟩
    rw [← ehd] at c4 A40 ⊢
    obtain ⟨B1, eB1⟩ : ∃ B1, B1 = hd ++ impl_EncodeImage.tgs l0_2 := ⟨_, rfl⟩
    rw [← eB1] at c4 A40 ⊢
    obtain ⟨B2, eB2⟩ : ∃ B2, B2 = B1 ++ rs := ⟨_, rfl⟩
    rw [← eB2] at c4 A40 ⊢
    have A4 := zA A40
    have EH := zA ehd
    have E1 := zA eB1
    have E2 := zA eB2
    have L4 := zA c4
    have OKD := zA c3
    have LB2 := zA (show B2.length ≤ 1000000000 by rw [List.length_append] at c4; omega)
    have LB1 := zA (show B1.length ≤ 1000000000 by have := LB2.out; rw [eB2, List.length_append] at this; omega)
    have LHD := zA (show hd.length ≤ 1000000000 by have := LB1.out; rw [eB1, List.length_append] at this; omega)
    have LH4 := zA (show 5 ≤ hd.length by rw [ehd]; simp [impl_EncodeImage.head, impl_EncodeImage.putL, impl_EncodeImage.putF])
    clear A40 ehd eB1 eB2 c4 c3
    go_enter Tryd.func32, Tryd.ntmps32
    go_wp2_with (first | ((with_reducible refine gate_dst (N := 1) rfl ?_); refine box_event ?hg (N := 1) ?hd (cs := #[.int .i64 a0_0, .int .i64 a0_1, .slice A0_2 l0_2.length c0_2, .slice A0_3 l0_3.length c0_3, .slice A0_4 l0_4.length c0_4]) (t := 47) ?hr ?_; (case hd => rfl); (case hg => rfl); (case hr => first | (go_simp; done) | (go_simp; rfl)); intro gbT hg w4 hbox hb; have n0_ := zA (below_step z_ hb); have BT := zA hbox; have GT := zA ((by rw [hg]; exact (below_size z_) : w.heap.size ≤ gbT)); clear HB; have HB := n0_; clear n0_; clear hb hbox hg; obtain ⟨hcz5_0, hcz5_1, hcz5_2, hcz5_3, hcz5_4, hfz5_0, hfz5_1, hfz5_2, hfz5_3, hfz5_4⟩ := zh5 BT.out) | ((with_reducible refine gate_callee (f := 84) rfl ?_); refine goesL_ (some 10) rfl rfl Tryd.func84 (by kernel_rfl) rfl #[.agg #[.int .i64 a0_0, .int .i64 a0_1, .slice A0_2 l0_2.length c0_2, .slice A0_3 l0_3.length c0_3, .slice A0_4 l0_4.length c0_4]] rfl za ?_; (with_reducible refine (impl_ValidTables.calls k a0_0 a0_1 _ _ l0_2 _ _ l0_3 _ _ l0_4 true _ ?side1 ?side2 ?side3 ?side4 ?side5 ?side6 ?side7 A2.out).mono ?_); (case side1 => exact zc (Kd.C_below HR0_2.out HB.out)); (case side2 => exact HC0_2.out); (case side3 => exact zc (Kd.C_below HR0_3.out HB.out)); (case side4 => exact HC0_3.out); (case side5 => exact zc (Kd.C_below HR0_4.out HB.out)); (case side6 => exact HC0_4.out); (case side7 => exact LaidW.below HLD.out (zs GT.out)); rintro e w6 ⟨rfl, hb⟩; refine ⟨_, rfl, ?_⟩; have n0_ := zA (zB BT.out hb); have n1_ := zA (below_step (zs GT.out) hb); clear BT HB; have BT := n0_; have HB := n1_; clear n0_ n1_; (try clear hb)) | ((with_reducible refine gate_dst (N := 15) rfl ?_); refine box_event ?hg (N := 15) ?hd (cs := #[.slice (some ⟨w6.heap.size, 0, none⟩) 4 4]) (t := 117) ?hr ?_; (case hd => rfl); (case hg => rfl); (case hr => first | (go_simp; done) | (go_simp; rfl)); intro gbW hg w8 hbox hb; have HQ := zA (MkQ.below (MkQ.const w6 (below_size HB.out) [87, 72, 76, 49] rfl) hb); have n0_ := zA (below_step (below_alloc HB.out _) hb); have n1_ := zA (blk_below (blk_alloc BT.out _) hb); have BW := zA hbox; have GW := zA ((by rw [hg]; exact (below_size (below_alloc HB.out _)) : w.heap.size ≤ gbW)); have NE := zA (blk_ne n1_.out hbox (by decide)); clear HB BT; have HB := n0_; have BT := n1_; clear n0_ n1_ hb hbox hg; have hne1 := NE.out; have hne2 := NE.out.symm; obtain ⟨hcy5_0, hcy5_1, hcy5_2, hcy5_3, hcy5_4, hfy5_0, hfy5_1, hfy5_2, hfy5_3, hfy5_4⟩ := zh5 BT.out) | ((with_reducible refine gate_dst (N := 24) rfl ?_); refine Kd.R_lit (Kd.int .i64) _ 3 ?hg (N := 24) ?hd (xs := ([a0_0, a0_1, (l0_2.length : Int)] : List Int)) (inner := [.int .i64 a0_0, .int .i64 a0_1, .int .i64 (l0_2.length : Int)]) (ok := fun _ => True) (okp := fun _ => True) ?hr ?hp (fun _ hk => hk) trivial (Below.refl _ _) (Nat.le_refl _) (by simp) ?_; (case hd => rfl); (case hg => rfl); (case hr => first | (go_simp; done) | (go_simp; rfl)); (case hp => exact (Reps.one (show Kd.M (Kd.int .i64) _ _ _ a0_0 [.int .i64 a0_0] from rfl) (Reps.one (show Kd.M (Kd.int .i64) _ _ _ a0_1 [.int .i64 a0_1] from rfl) (Reps.one (show Kd.M (Kd.int .i64) _ _ _ (l0_2.length : Int) [.int .i64 (l0_2.length : Int)] from rfl) (Reps.none _ _))))); intro vl w10 hol hb hg_ hnew_; clear hg_ hnew_; have HO_L := zA (Kd.R_lower hol (below_size HB.out)); have n0_ := zA (HQ.out.below hb); have n1_ := zA (zB BT.out hb); have n2_ := zA (zB BW.out hb); have n3_ := zA (below_step HB.out hb); clear HQ BT BW HB; have HQ := n0_; have BT := n1_; have BW := n2_; have HB := n3_; clear n0_ n1_ n2_ n3_; clear hb hol; obtain ⟨Al, cl, el⟩ := Kd.R_slice HO_L.out; subst el) | ((with_reducible refine gate_callee (f := 90) rfl ?_); refine goesL_ (some 25) rfl rfl Tryd.func90 (by kernel_rfl) rfl #[.pointer (some ⟨gbW, 0, none⟩), .int .i64 2, .slice Al 3 cl] rfl za ?_; (refine (impl_EncodeImage.put 2 (by decide) gbW _ _ _ _ [a0_0, a0_1, (l0_2.length : Int)] w _ (BW.out) GW.out (HQ.out) ?pl (HB.out) _ rfl ?pr ?pn).mono ?_); (case pl => exact fun W hk _ => impl_EncodeImage.kept_list HO_L.out BW.out HQ.out hk); (case pr => (have := LHD.out; rw [EH.out] at this; exact Nat.le_trans this (by decide))); (case pn => simp); rintro e w' ⟨rfl, u', hbw, hq, hub, hb, hk⟩; refine ⟨_, rfl, ?_⟩; have n0_ := zA (impl_EncodeImage.kept_box BT.out BW.out HQ.out hk (by decide) (by decide)); have n1_ := zA (hbw); have n2_ := zA (hq); have n3_ := zA (hb); clear BT BW HQ HB; have BT := n0_; have BW := n1_; have HQ := n2_; have HB := n3_; clear n0_ n1_ n2_ n3_; clear hub hk hbw hq hb; obtain ⟨hcb0, hcb1, hcb2, hcb3, hcb4, hfb0, hfb1, hfb2, hfb3, hfb4⟩ := zh5 BT.out))
    have hne1 := NE.out
    have HR := zA (MkQ.own HQ.out (by have := LH4.out; rw [EH.out] at this; unfold impl_EncodeImage.head at this; omega))
    have HF := zA (show [87, 72, 76, 49] ++ impl_EncodeImage.putL 2 [a0_0, a0_1, (l0_2.length : Int)] ++ impl_EncodeImage.tgs l0_2 = B1 by rw [E1.out, EH.out]; rfl)
    clear HQ
    go_loopg [29] l0_2.length (fun kq v29 w' => ∃ (i : Int) (ys : List Int) (u : Value), v29 = .int .i64 i ∧ Aside0 (0 ≤ i ∧ (kq : Int) + i = l0_2.length) ∧ Aside0 (ys ++ impl_EncodeImage.tgs (l0_2.drop i.toNat) = B1) ∧ Aside0 (5 ≤ ys.length) ∧ Aside0 (Kd.R (Kd.int .u8) 5 w' w.heap.size (fun _ => True) u ys) ∧ Aside0 (w'.heap[gbT]? = some (.cells #[.int .i64 a0_0, .int .i64 a0_1, .slice A0_2 l0_2.length c0_2, .slice A0_3 l0_3.length c0_3, .slice A0_4 l0_4.length c0_4] 47 (0, 0))) ∧ Aside0 (w'.heap[gbW]? = some (.cells #[u] 117 (0, 0))) ∧ Aside0 (Below w.heap.size w w'))
    case atStart => exact ⟨0, _, _, rfl, ⟨by omega, by omega⟩, HF, ⟨by have := LH4.out; rw [EH.out] at this; exact this⟩, HR, BT, BW, HB⟩
    case round =>
     clear HR BT BW HB HF HO_L hcb0 hcb1 hcb2 hcb3 hcb4 hfb0 hfb1 hfb2 hfb3 hfb4
     (try clear hcz5_0 hcz5_1 hcz5_2 hcz5_3 hcz5_4 hfz5_0 hfz5_1 hfz5_2 hfz5_3 hfz5_4)
     (try clear hcy5_0 hcy5_1 hcy5_2 hcy5_3 hcy5_4 hfy5_0 hfy5_1 hfy5_2 hfy5_3 hfy5_4)
     obtain ⟨i, ys, u, rfl, HI, HF, H5, HR, BT, BW, HB⟩ := hrel
     by_cases c30 : i < (l0_2.length : Int)
     ·have c30b : decide (i < (l0_2.length : Int)) = true := decide_eq_true c30
      have p356 : 0 ≤ i := HI.out.1
      have q356 := c30
      have hrd := impl_EncodeImage.tgs_drop l0_2 i p356 q356
      obtain ⟨ad356, A356_0, c356_0, e356, hx356_0, hx356_1, hx356_2, hl356_0, hi356_0⟩ := at_T120 HR0_2.out i p356 q356
      cases e356
      replace hx356_0 := zx HB.out hx356_0
      replace hx356_1 := zx HB.out hx356_1
      replace hx356_2 := zx HB.out hx356_2
      have HRN := zA hi356_0
      have HCN := zA hl356_0
      obtain ⟨y1, ey1⟩ : ∃ y1, y1 = ys ++ impl_EncodeImage.putL 1 [(rd_T120 l0_2 i).f1] := ⟨_, rfl⟩
      obtain ⟨y2, ey2⟩ : ∃ y2, y2 = y1 ++ impl_EncodeImage.putL 2 [(rd_T120 l0_2 i).f2] := ⟨_, rfl⟩
      obtain ⟨y3, ey3⟩ : ∃ y3, y3 = y2 ++ impl_EncodeImage.putL 1 [(((rd_T120 l0_2 i).f0).length : Int)] := ⟨_, rfl⟩
      obtain ⟨y4, ey4⟩ : ∃ y4, y4 = y3 ++ (rd_T120 l0_2 i).f0 := ⟨_, rfl⟩
      have HF4 := zA (show y4 ++ impl_EncodeImage.tgs (l0_2.drop (i + 1).toNat) = B1 by rw [ey4, ey3, ey2, ey1, ← HF.out, hrd, impl_EncodeImage.tg]; simp only [List.append_assoc])
      have lb := congrArg List.length HF4.out
      have lb1 := LB1.out
      have l5 := H5.out
      rw [List.length_append] at lb
      have l4 := congrArg List.length ey4
      have l3 := congrArg List.length ey3
      have l2 := congrArg List.length ey2
      have l1 := congrArg List.length ey1
      rw [List.length_append] at l4 l3 l2 l1
      have S1 := zA (show y1.length ≤ 140737488355328 ∧ y2.length ≤ 140737488355328 ∧ y3.length ≤ 140737488355328 ∧ 5 ≤ y3.length ∧ 5 ≤ y4.length ∧ (y3.length + ((rd_T120 l0_2 i).f0).length) * 1 ≤ 140737488355328 by omega)
      have Ey1 := zA ey1
      have Ey2 := zA ey2
      have Ey3 := zA ey3
      have Ey4 := zA ey4
      have J1 := zA c30
      have HQ := zA (MkQ.of HR.out)
      clear HR HF hrd hi356_0 hl356_0 lb lb1 l5 l4 l3 l2 l1 ey1 ey2 ey3 ey4 c30
      replace p356 := eq_true p356
      replace q356 := eq_true q356
      have hne2 := NE.out.symm
      cases gk with
      | zero => exact absurd HI.out.2 (by have := J1.out; omega)
      | succ k1 =>
       go_wp2_with (first | ((with_reducible refine gate_dst (N := 5) rfl ?_); refine box_event ?hg (N := 5) ?hd (cs := #[.slice none 0 0, .int .i64 0, .int .i64 0]) (t := 120) ?hr ?_; (case hd => rfl); (case hg => rfl); (case hr => first | (go_simp; done) | (go_simp; rfl)); intro gbE hg w33 hbox hb; have n0_ := zA (HQ.out.below hb); have n1_ := zA (blk_below BT.out hb); have n2_ := zA (blk_below BW.out hb); have n3_ := zA (below_step HB.out hb); have BE := zA hbox; have GEE := zA ((by rw [hg]; exact (below_size HB.out) : w.heap.size ≤ gbE)); have NBE := zA (show gbT ≠ gbE ∧ gbW ≠ gbE from ⟨(by rw [hg]; exact Nat.ne_of_lt (blk_lt BT.out)), (by rw [hg]; exact Nat.ne_of_lt (blk_lt BW.out))⟩); clear HQ BT BW HB; have HQ := n0_; have BT := n1_; have BW := n2_; have HB := n3_; clear n0_ n1_ n2_ n3_ hb hbox hg; have hnb34 := NBE.out.1; have hnc34 := NBE.out.1.symm; have hnb35 := NBE.out.2; have hnc35 := NBE.out.2.symm; obtain ⟨hcz36_0, hcz36_1, hcz36_2, hfz36_0, hfz36_1, hfz36_2⟩ := zh3 BE.out) | ((with_reducible refine gate_dst (N := 36) rfl ?_); refine Kd.R_lit (Kd.int .i64) _ 3 ?hg (N := 36) ?hd (xs := ([(rd_T120 l0_2 i).f1] : List Int)) (inner := [.int .i64 ((rd_T120 l0_2 i).f1)]) (ok := fun _ => True) (okp := fun _ => True) ?hr ?hp (fun _ hk => hk) trivial (Below.refl _ _) (Nat.le_refl _) (by simp) ?_; (case hd => rfl); (case hg => rfl); (case hr => first | (go_simp; done) | (go_simp; rfl)); (case hp => exact (Reps.one (show Kd.M (Kd.int .i64) _ _ _ (rd_T120 l0_2 i).f1 [.int .i64 ((rd_T120 l0_2 i).f1)] from rfl) (Reps.none _ _))); intro vl w37 hol hb hg_ hnew_; clear hg_ hnew_; have HO_L := zA (Kd.R_lower hol (below_size (zs GEE.out))); have n0_ := zA ((MkQ.far (MkQ.far (MkQ.far HQ.out BE.out (by decide) 0 _) (blk_set BE.out _ _) (by decide) 1 _) (blk_set (blk_set BE.out _ _) _ _) (by decide) 2 _).below hb); have n1_ := zA (blk_below (g := gbT) (o := .cells #[.int .i64 a0_0, .int .i64 a0_1, .slice (some ad356) l0_2.length c0_2, .slice A0_3 l0_3.length c0_3, .slice A0_4 l0_4.length c0_4] 47 (0, 0)) (zf BT.out NBE.out.1) hb); have n2_ := zA (blk_below (g := gbW) (o := .cells #[u] 117 (0, 0)) (zf BW.out NBE.out.2) hb); have n3_ := zA (blk_below (g := gbE) (o := .cells #[.slice A356_0 ((rd_T120 l0_2 i).f0).length c356_0, .int .i64 ((rd_T120 l0_2 i).f1), .int .i64 ((rd_T120 l0_2 i).f2)] 120 (0, 0)) (zq BE.out) hb); have n4_ := zA (below_step (zs GEE.out) hb); clear HQ BT BW BE HB; have HQ := n0_; have BT := n1_; have BW := n2_; have BE := n3_; have HB := n4_; clear n0_ n1_ n2_ n3_ n4_; clear hb hol; obtain ⟨Al, cl, el⟩ := Kd.R_slice HO_L.out; subst el) | ((with_reducible refine gate_callee (f := 90) rfl ?_); refine goesL_ (some 37) rfl rfl Tryd.func90 (by kernel_rfl) rfl #[.pointer (some ⟨gbW, 0, none⟩), .int .i64 1, .slice Al 1 cl] rfl za ?_; (refine (impl_EncodeImage.put 1 (by decide) gbW _ _ _ _ [(rd_T120 l0_2 i).f1] w _ (BW.out) GW.out (HQ.out) ?pl (HB.out) y1 Ey1.out.symm ?pr ?pn).mono ?_); (case pl => exact fun W hk _ => impl_EncodeImage.kept_list HO_L.out BW.out HQ.out hk); (case pr => exact S1.out.1); (case pn => simp); rintro e w' ⟨rfl, u', hbw, hq, hub, hb, hk⟩; refine ⟨_, rfl, ?_⟩; have n0_ := zA (impl_EncodeImage.kept_box BT.out BW.out HQ.out hk (by decide) (by decide)); have n1_ := zA (impl_EncodeImage.kept_box BE.out BW.out HQ.out hk (by decide) (by decide)); have n2_ := zA (hbw); have n3_ := zA (hq); have n4_ := zA (hb); clear BT BE BW HQ HB; have BT := n0_; have BE := n1_; have BW := n2_; have HQ := n3_; have HB := n4_; clear n0_ n1_ n2_ n3_ n4_; clear hub hk hbw hq hb; clear HO_L; obtain ⟨hcz36_0, hcz36_1, hcz36_2, hfz36_0, hfz36_1, hfz36_2⟩ := zh3 BE.out) | ((with_reducible refine gate_dst (N := 41) rfl ?_); refine Kd.R_lit (Kd.int .i64) _ 3 ?hg (N := 41) ?hd (xs := ([(rd_T120 l0_2 i).f2] : List Int)) (inner := [.int .i64 ((rd_T120 l0_2 i).f2)]) (ok := fun _ => True) (okp := fun _ => True) ?hr ?hp (fun _ hk => hk) trivial (Below.refl _ _) (Nat.le_refl _) (by simp) ?_; (case hd => rfl); (case hg => rfl); (case hr => first | (go_simp; done) | (go_simp; rfl)); (case hp => exact (Reps.one (show Kd.M (Kd.int .i64) _ _ _ (rd_T120 l0_2 i).f2 [.int .i64 ((rd_T120 l0_2 i).f2)] from rfl) (Reps.none _ _))); intro vl w41 hol hb hg_ hnew_; clear hg_ hnew_; have HO_L := zA (Kd.R_lower hol (below_size HB.out)); have n0_ := zA (HQ.out.below hb); have n1_ := zA (zB BT.out hb); have n2_ := zA (zB BW.out hb); have n3_ := zA (zB BE.out hb); have n4_ := zA (below_step HB.out hb); clear HQ BT BW BE HB; have HQ := n0_; have BT := n1_; have BW := n2_; have BE := n3_; have HB := n4_; clear n0_ n1_ n2_ n3_ n4_; clear hb hol; obtain ⟨Al, cl, el⟩ := Kd.R_slice HO_L.out; subst el) | ((with_reducible refine gate_callee (f := 90) rfl ?_); refine goesL_ (some 42) rfl rfl Tryd.func90 (by kernel_rfl) rfl #[.pointer (some ⟨gbW, 0, none⟩), .int .i64 2, .slice Al 1 cl] rfl za ?_; (refine (impl_EncodeImage.put 2 (by decide) gbW _ _ _ _ [(rd_T120 l0_2 i).f2] w _ (BW.out) GW.out (HQ.out) ?pl (HB.out) y2 Ey2.out.symm ?pr ?pn).mono ?_); (case pl => exact fun W hk _ => impl_EncodeImage.kept_list HO_L.out BW.out HQ.out hk); (case pr => exact S1.out.2.1); (case pn => simp); rintro e w' ⟨rfl, u', hbw, hq, hub, hb, hk⟩; refine ⟨_, rfl, ?_⟩; have n0_ := zA (impl_EncodeImage.kept_box BT.out BW.out HQ.out hk (by decide) (by decide)); have n1_ := zA (impl_EncodeImage.kept_box BE.out BW.out HQ.out hk (by decide) (by decide)); have n2_ := zA (hbw); have n3_ := zA (hq); have n4_ := zA (hb); clear BT BE BW HQ HB; have BT := n0_; have BE := n1_; have BW := n2_; have HQ := n3_; have HB := n4_; clear n0_ n1_ n2_ n3_ n4_; clear hub hk hbw hq hb; clear HO_L; obtain ⟨hcz36_0, hcz36_1, hcz36_2, hfz36_0, hfz36_1, hfz36_2⟩ := zh3 BE.out) | ((with_reducible refine gate_dst (N := 47) rfl ?_); refine Kd.R_lit (Kd.int .i64) _ 3 ?hg (N := 47) ?hd (xs := ([(((rd_T120 l0_2 i).f0).length : Int)] : List Int)) (inner := [.int .i64 ((((rd_T120 l0_2 i).f0).length : Int))]) (ok := fun _ => True) (okp := fun _ => True) ?hr ?hp (fun _ hk => hk) trivial (Below.refl _ _) (Nat.le_refl _) (by simp) ?_; (case hd => rfl); (case hg => rfl); (case hr => first | (go_simp; done) | (go_simp; rfl)); (case hp => exact (Reps.one (show Kd.M (Kd.int .i64) _ _ _ (((rd_T120 l0_2 i).f0).length : Int) [.int .i64 ((((rd_T120 l0_2 i).f0).length : Int))] from rfl) (Reps.none _ _))); intro vl w47 hol hb hg_ hnew_; clear hg_ hnew_; have HO_L := zA (Kd.R_lower hol (below_size HB.out)); have n0_ := zA (HQ.out.below hb); have n1_ := zA (zB BT.out hb); have n2_ := zA (zB BW.out hb); have n3_ := zA (zB BE.out hb); have n4_ := zA (below_step HB.out hb); clear HQ BT BW BE HB; have HQ := n0_; have BT := n1_; have BW := n2_; have BE := n3_; have HB := n4_; clear n0_ n1_ n2_ n3_ n4_; clear hb hol; obtain ⟨Al, cl, el⟩ := Kd.R_slice HO_L.out; subst el) | ((with_reducible refine gate_callee (f := 90) rfl ?_); refine goesL_ (some 48) rfl rfl Tryd.func90 (by kernel_rfl) rfl #[.pointer (some ⟨gbW, 0, none⟩), .int .i64 1, .slice Al 1 cl] rfl za ?_; (refine (impl_EncodeImage.put 1 (by decide) gbW _ _ _ _ [(((rd_T120 l0_2 i).f0).length : Int)] w _ (BW.out) GW.out (HQ.out) ?pl (HB.out) y3 Ey3.out.symm ?pr ?pn).mono ?_); (case pl => exact fun W hk _ => impl_EncodeImage.kept_list HO_L.out BW.out HQ.out hk); (case pr => exact S1.out.2.2.1); (case pn => simp); rintro e w' ⟨rfl, u', hbw, hq, hub, hb, hk⟩; refine ⟨_, rfl, ?_⟩; have n0_ := zA (impl_EncodeImage.kept_box BT.out BW.out HQ.out hk (by decide) (by decide)); have n1_ := zA (impl_EncodeImage.kept_box BE.out BW.out HQ.out hk (by decide) (by decide)); have n2_ := zA (hbw); have n3_ := zA (hq); have n4_ := zA (hb); clear BT BE BW HQ HB; have BT := n0_; have BE := n1_; have BW := n2_; have HQ := n3_; have HB := n4_; clear n0_ n1_ n2_ n3_ n4_; clear hub hk hbw hq hb; clear HO_L; obtain ⟨hcz36_0, hcz36_1, hcz36_2, hfz36_0, hfz36_1, hfz36_2⟩ := zh3 BE.out))
       have q3 : y3.length ≠ 4 := by have := S1.out.2.2.2.1; omega
       have HR := zA (MkQ.own HQ.out q3)
       clear HQ q3
       have n0_ := zA (Kd.R_drew HR.out)
       have n1_ := zA (blk_drew BT.out)
       have n2_ := zA (blk_drew BW.out)
       have n3_ := zA (blk_drew BE.out)
       have n4_ := zA (below_drew1 HB.out)
       clear HR BT BW BE HB
       have HR := n0_
       have BT := n1_
       have BW := n2_
       have BE := n3_
       have HB := n4_
       clear n0_ n1_ n2_ n3_ n4_
       refine start_ (n := 11) (S := fun w' => w'.cell? ⟨gbW, 0, none⟩ = some u' ∧ w'.cell? ⟨gbE, 0, none⟩ = some (.slice A356_0 ((rd_T120 l0_2 i).f0).length c356_0) ∧ w'.cell? ⟨gbE, 1, none⟩ = some (.int .i64 ((rd_T120 l0_2 i).f1)) ∧ w'.cell? ⟨gbE, 2, none⟩ = some (.int .i64 ((rd_T120 l0_2 i).f2))) (ds := [10]) #[false, false, false, false, false, false, false, false, false, false, false] (by kernel_rfl) rfl rfl ⟨(blk_cell BW.out 0).trans rfl, (blk_cell BE.out 0).trans rfl, (blk_cell BE.out 1).trans rfl, (blk_cell BE.out 2).trans rfl⟩ (fun hHeld => ?_); refine with_tabW impl_EncodeImage.tab11 impl_EncodeImage.bits11 (fun HT_ HW_ => ?_)
       generalize wr.drew = w89 at HR BT BW BE HB hHeld ⊢
       refine pure_ (i := 0) (N := some 49) (v := ?_) (a' := ?_) #[true, false, false, false, false, false, false, false, false, false, false] rfl rfl (any_of HT_.out (by kernel_rfl)) (fun _ _ _ h => h) (Or.inl ⟨by rfl, ?_⟩) ?_ ?_
       rotate_left
       ·intro w'
        go_simp
        with_reducible rfl
       rotate_left
       ·simp only [Act.put, List.setIfInBounds_toArray, List.set_cons_zero, List.set_cons_succ, i64_w, i32_w]
        rfl
       refine pure_ (i := 1) (N := some 50) (v := ?_) (a' := ?_) #[true, true, false, false, false, false, false, false, false, false, false] rfl rfl (any_of HT_.out (by kernel_rfl)) (fun _ _ _ h => h) (Or.inl ⟨by rfl, ?_⟩) ?_ ?_
       rotate_left
       ·intro w'
        go_simp
        with_reducible rfl
       rotate_left
       ·simp only [Act.put, List.setIfInBounds_toArray, List.set_cons_zero, List.set_cons_succ, i64_w, i32_w]
        rfl
       refine pure_ (i := 2) (N := some 51) (v := ?_) (a' := ?_) #[true, true, true, false, false, false, false, false, false, false, false] rfl rfl (any_of HT_.out (by kernel_rfl)) (fun _ _ _ h => h) (Or.inl ⟨by rfl, ?_⟩) ?_ ?_
       rotate_left
       ·intro w'
        go_simp
        with_reducible rfl
       rotate_left
       ·simp only [Act.put, List.setIfInBounds_toArray, List.set_cons_zero, List.set_cons_succ, i64_w, i32_w]
        rfl
       refine pure_ (i := 3) (N := some 52) (v := ?_) (a' := ?_) #[true, true, true, true, false, false, false, false, false, false, false] rfl rfl (any_of HT_.out (by kernel_rfl)) (fun _ _ _ h => h) (Or.inl ⟨by rfl, ?_⟩) ?_ ?_
       rotate_left
       ·intro w'
        go_simp
        with_reducible rfl
       rotate_left
       ·simp only [Act.put, List.setIfInBounds_toArray, List.set_cons_zero, List.set_cons_succ, i64_w, i32_w]
        rfl
       refine pure_ (i := 5) (N := some 54) (v := ?_) (a' := ?_) #[true, true, true, true, false, true, false, false, false, false, false] rfl rfl (any_of HT_.out (by kernel_rfl)) (fun _ _ _ h => h) (Or.inl ⟨by rfl, ?_⟩) ?_ ?_
       rotate_left
       ·intro w'
        go_simp
        with_reducible rfl
       rotate_left
       ·simp only [Act.put, List.setIfInBounds_toArray, List.set_cons_zero, List.set_cons_succ, i64_w, i32_w]
        rfl
       refine take_ (i := 4) (N := some 53) (v := ?_) (a' := ?_) #[true, true, true, true, true, true, false, false, false, false, false] rfl rfl (take_ofW HT_.out HW_.out (by kernel_rfl)) (fun _ _ _ h => h) (Or.inl ⟨by rfl, ?_⟩) hHeld ?_ ?_
       rotate_left
       ·rintro w' ⟨s0, s1, s2, s3⟩
        go_simp
        with_reducible rfl
       rotate_left
       ·simp only [Act.put, List.setIfInBounds_toArray, List.set_cons_zero, List.set_cons_succ, i64_w, i32_w]
        rfl
       refine take_ (i := 6) (N := some 55) (v := ?_) (a' := ?_) #[true, true, true, true, true, true, true, false, false, false, false] rfl rfl (take_ofW HT_.out HW_.out (by kernel_rfl)) (fun _ _ _ h => h) (Or.inl ⟨by rfl, ?_⟩) hHeld ?_ ?_
       rotate_left
       ·rintro w' ⟨s0, s1, s2, s3⟩
        go_simp
        with_reducible rfl
       rotate_left
       ·simp only [Act.put, List.setIfInBounds_toArray, List.set_cons_zero, List.set_cons_succ, i64_w, i32_w]
        rfl
       refine one_ (i := 7) (N := some 56) #[true, true, true, true, true, true, true, true, false, false, false] rfl rfl (one_of HT_.out (by kernel_rfl)) (by decide) (fun K hK => ?_)
       refine Kd.R_append_rows_step (Kd.int .u8) (w0 := w) w.heap.size (by rfl) (.tmp 53) (.tmp 55) 54 5 (.int .u8 0) 1 rfl Tryd.underlying54 info5 rfl (by decide) (by omega) u' y3 ((rd_T120 l0_2 i).f0) _ _ _ (fun _ => True) (fun _ => False) rfl rfl HR.out ?aR (fun _ _ h => h) (fun _ h => h.elim) (fun _ _ => trivial) HB.out (below_size HB.out) S1.out.2.2.2.2.2 ?_
       (case aR => exact Kd.C_below HRN.out HB.out)
       intro v376 w90 ho hb hg hat
       rw [← Ey4.out] at ho
       have n1_ := zA (blk_grown (g := gbT) (o := .cells #[.int .i64 a0_0, .int .i64 a0_1, .slice (some ad356) l0_2.length c0_2, .slice A0_3 l0_3.length c0_3, .slice A0_4 l0_4.length c0_4] 47 (0, 0)) BT.out hg (Kd.R_ne HR.out BT.out (by decide)))
       have n2_ := zA (blk_grown (g := gbW) (o := .cells #[u'] 117 (0, 0)) BW.out hg (Kd.R_ne HR.out BW.out (by decide)))
       have n3_ := zA (blk_grown (g := gbE) (o := .cells #[.slice A356_0 ((rd_T120 l0_2 i).f0).length c356_0, .int .i64 ((rd_T120 l0_2 i).f1), .int .i64 ((rd_T120 l0_2 i).f2)] 120 (0, 0)) BE.out hg (Kd.R_ne HR.out BE.out (by decide)))
       have n4_ := zA hb
       have n5_ := zA ho
       clear HR BT BW BE HB
       have BT := n1_
       have BW := n2_
       have BE := n3_
       have HB := n4_
       have HR := n5_
       clear n1_ n2_ n3_ n4_ n5_ ho hb hg hat
       obtain ⟨Ao91, co91, eo91⟩ := Kd.R_slice HR.out
       subst eo91
       refine hK.out _ _ ⟨(blk_cell BW.out 0).trans rfl, (blk_cell BE.out 0).trans rfl, (blk_cell BE.out 1).trans rfl, (blk_cell BE.out 2).trans rfl⟩ (fun hHeld => ?_)
       clear hK K
       refine norm_ (a' := ?_) ?_ ?_
       rotate_left
       ·show Act.put _ (some 56) _ = _
        simp only [Act.put, List.setIfInBounds_toArray, List.set_cons_zero, List.set_cons_succ, i64_w, i32_w]
        rfl
       refine pure_ (i := 8) (N := some 57) (v := ?_) (a' := ?_) #[true, true, true, true, true, true, true, true, true, false, false] rfl rfl (any_of HT_.out (by kernel_rfl)) (fun _ _ _ h => h) (Or.inl ⟨by rfl, ?_⟩) ?_ ?_
       rotate_left
       ·intro w'
        go_simp
        with_reducible rfl
       rotate_left
       ·simp only [Act.put, List.setIfInBounds_toArray, List.set_cons_zero, List.set_cons_succ, i64_w, i32_w]
        rfl
       refine pure_ (i := 9) (N := some 58) (v := ?_) (a' := ?_) #[true, true, true, true, true, true, true, true, true, true, false] rfl rfl (any_of HT_.out (by kernel_rfl)) (fun _ _ _ h => h) (Or.inl ⟨by rfl, ?_⟩) ?_ ?_
       rotate_left
       ·intro w'
        go_simp
        with_reducible rfl
       rotate_left
       ·simp only [Act.put, List.setIfInBounds_toArray, List.set_cons_zero, List.set_cons_succ, i64_w, i32_w]
        rfl
       refine last_ (i := 10) (N := none) #[true, true, true, true, true, true, true, true, true, true, true] rfl rfl (one_of HT_.out (by kernel_rfl)) (by decide) (fun K hK => ?_)
       have hs92 := zv BW.out 0 u'
       have hfs92 := blk_frozen BW.out 0
       have hns92_0 := NE.out
       have hns92_2 := NBE.out.2.symm
       have hms92_0 := NE.out.symm
       have hms92_2 := NBE.out.2
       refine skip_ (w1 := ?_) (by rfl) rfl ?_ ?_
       rotate_left
       ·go_simp
        rfl
       refine hK.out _ _ ?_
       clear hK K
       refine done_ (done_of HT_.out (by kernel_rfl)) ?_
       try go_wp2
       go_roundg k1
       case measure => omega
       case rel => exact ⟨i + 1, y4, _, by have := HI.out; have := OKD.out.1; have := J1.out; rw [show wrap64 (i + 1) = i + 1 by unfold wrap64; omega], ⟨by have := HI.out; omega⟩, HF4, ⟨S1.out.2.2.2.2.1⟩, ⟨Kd.R_mono (zK HR.out BW.out) (fun _ _ => trivial)⟩, ⟨blk_far BT.out NE.out _⟩, ⟨blk_put (cs := #[u']) BW.out 0 _ rfl⟩, ⟨below_set HB.out GW.out⟩⟩
     ·have c30b : decide (i < (l0_2.length : Int)) = false := decide_eq_false c30
      have e : ys = B1 := by
       have := HF.out
       rw [List.drop_eq_nil_of_le (by omega), impl_EncodeImage.tgs, List.append_nil] at this
       exact this
      subst e
      clear c30 HF
      have hne1 := NE.out
      have hne2 := NE.out.symm
      obtain ⟨hcb0, hcb1, hcb2, hcb3, hcb4, hfb0, hfb1, hfb2, hfb3, hfb4⟩ := zh5 BT.out
      go_wp2
      go_loopg [63] l0_2.length (fun kq v63 w' => ∃ (i : Int) (ys : List Int) (u : Value) (rs' : List Int), v63 = .int .i64 i ∧ Aside0 (0 ≤ i ∧ (kq : Int) + i = l0_2.length) ∧ Aside0 (impl_EncodeImage.rows k l0_3 l0_4 kq i = some rs' ∧ ys ++ rs' = B2) ∧ Aside0 (5 ≤ ys.length) ∧ Aside0 (Kd.R (Kd.int .u8) 5 w' w.heap.size (fun _ => True) u ys) ∧ Aside0 (w'.heap[gbT]? = some (.cells #[.int .i64 a0_0, .int .i64 a0_1, .slice A0_2 l0_2.length c0_2, .slice A0_3 l0_3.length c0_3, .slice A0_4 l0_4.length c0_4] 47 (0, 0))) ∧ Aside0 (w'.heap[gbW]? = some (.cells #[u] 117 (0, 0))) ∧ Aside0 (Below w.heap.size w w'))
      case atStart => exact ⟨0, ys, u, rs, rfl, ⟨by omega, by omega⟩, ⟨A3.out, E2.out.symm⟩, H5, HR, BT, BW, HB⟩
      case round =>
       clear HR BT BW HB H5 hcb0 hcb1 hcb2 hcb3 hcb4 hfb0 hfb1 hfb2 hfb3 hfb4 c30b HI
       rename_i i0_ u0_
       obtain ⟨i, zs, u, rs', rfl, HI, HF, H5, HR, BT, BW, HB⟩ := hrel
       by_cases c64 : i < (l0_2.length : Int)
       ·have c64b : decide (i < (l0_2.length : Int)) = true := decide_eq_true c64
        cases gk with
        | zero => exact absurd HI.out.2 (by omega)
        | succ k1 =>
         have hf := HF.out
         rw [impl_EncodeImage.rows] at hf
         obtain ⟨p, ap, hf2⟩ := Option.bind_eq_some_iff.mp hf.1
         obtain ⟨rs2, ar, hf3⟩ := Option.bind_eq_some_iff.mp hf2
         have e3 := Option.some.inj hf3
         have AP := zA ap
         have okd := OKD.out
         have okd1 : l0_2.length ≤ l0_3.length := okd.2.1
         have okd2 : l0_2.length ≤ l0_4.length := okd.2.2.1
         have hi := HI.out
         have p382 : 0 ≤ i := hi.1
         have q382 : i < (l0_4.length : Int) := by omega
         have q390 : i < (l0_3.length : Int) := by omega
         have hrm := okd.2.2.2 _ (impl_EncodeImage.row_mem p382 q390)
         obtain ⟨ad382, A382, c382, e382, hx382, hl382, hi382⟩ := impl_EncodeImage.at_row HR0_4.out i p382 q382
         cases e382
         obtain ⟨ad390, A390, c390, e390, hx390, hl390, hi390⟩ := impl_EncodeImage.at_row HR0_3.out i p382 q390
         cases e390
         have HX390 := zA hx390
         replace hx382 := zx HB.out hx382
         have HRH := zA hi382
         have HCH := zA hl382
         have HRD := zA hi390
         obtain ⟨y1, ey1⟩ : ∃ y1, y1 = zs ++ p.1 := ⟨_, rfl⟩
         obtain ⟨y2, ey2⟩ : ∃ y2, y2 = y1 ++ impl_EncodeImage.putL 2 (impl_EncodeImage.row l0_3 i) := ⟨_, rfl⟩
         have hB2 : y2 ++ rs2 = B2 := by rw [ey2, ey1, ← hf.2, ← e3]; simp only [List.append_assoc]
         have l2 := congrArg List.length ey2
         have l1 := congrArg List.length ey1
         have lb := congrArg List.length hB2
         rw [List.length_append] at l2 l1 lb
         have lb2 := LB2.out
         have h5 := H5.out
         have S1 := zA (show (zs.length + p.1.length) * 1 ≤ 140737488355328 ∧ y2.length ≤ 140737488355328 ∧ (impl_EncodeImage.row l0_3 i).length ≤ 1048576 ∧ 5 ≤ y2.length by omega)
         have J1 := zA (show i < (l0_2.length : Int) ∧ (l0_2.length : Int) ≤ 1048576 from ⟨c64, by have := okd.1; omega⟩)
         have HF := zA (show impl_EncodeImage.rows k l0_3 l0_4 k1 (i + 1) = some rs2 ∧ y2 ++ rs2 = B2 from ⟨ar, hB2⟩)
         have Ey1 := zA ey1
         have Ey2 := zA ey2
         clear hf hf2 hf3 e3 ap ar okd okd1 okd2 hi hrm hx390 hl382 hi382 hl390 hi390 hB2 l2 l1 lb lb2 h5 ey1 ey2 c64
         replace p382 := eq_true p382
         replace q382 := eq_true q382
         replace q390 := eq_true q390
         have hne1 := NE.out
         have hne2 := NE.out.symm
         obtain ⟨hcb0, hcb1, hcb2, hcb3, hcb4, hfb0, hfb1, hfb2, hfb3, hfb4⟩ := zh5 BT.out
         go_wp2_with (first | ((with_reducible refine gate_callee (f := 91) rfl ?_); refine goesL_ (some 72) rfl rfl Tryd.func91 (by kernel_rfl) rfl #[.slice A382 (impl_EncodeImage.row l0_4 i).length c382] rfl za ?_; (with_reducible refine (impl_PackHops.calls k _ _ (impl_EncodeImage.row l0_4 i) p.1 p.2 _ ?side1 ?side2 AP.out).mono ?_); (case side1 => exact Kd.C_below HRH.out HB.out); (case side2 => exact HCH.out); rintro e w103 ⟨v385, rfl, ho0, hb⟩; refine ⟨_, rfl, ?_⟩; have HO := zA (Kd.R_lower ho0 (below_size HB.out)); have n0_ := zA (Kd.R_below HR.out hb); have n1_ := zA (zB BT.out hb); have n2_ := zA (zB BW.out hb); have n3_ := zA (below_step HB.out hb); clear HR BT BW HB; have HR := n0_; have BT := n1_; have BW := n2_; have HB := n3_; clear n0_ n1_ n2_ n3_; clear hb ho0; obtain ⟨hcv0, hfv0⟩ := zh1 BW.out; obtain ⟨Ao, co, eo⟩ := Kd.R_slice HO.out; subst eo) | ((with_reducible refine gate_builtin (b := .append) (xs := #[.tmp 79, .tmp 80]) rfl ?_); at_builtin; refine Kd.R_append_rows (Kd.int .u8) (w0 := w) w.heap.size rfl (.tmp 79) (.tmp 80) 54 5 (.int .u8 0) 1 rfl Tryd.underlying54 info5 rfl (by decide) (by omega) u zs p.1 _ _ _ (fun _ => True) (fun _ => False) rfl rfl HR.out ?aR (fun _ _ h => h) (fun _ h => h.elim) (fun _ _ => trivial) HB.out (below_size HB.out) S1.out.1 ?_; (case aR => exact (Kd.R_reads' HO.out).2.2); intro v388 w105 ho hb hg hat; rw [← Ey1.out] at ho; have n0_ := zA (blk_grown (g := gbT) (o := .cells #[.int .i64 a0_0, .int .i64 a0_1, .slice A0_2 l0_2.length c0_2, .slice (some ad390) l0_3.length c0_3, .slice (some ad382) l0_4.length c0_4] 47 (0, 0)) BT.out hg (Kd.R_ne HR.out BT.out (by decide))); have n1_ := zA (blk_grown (g := gbW) (o := .cells #[u] 117 (0, 0)) BW.out hg (Kd.R_ne HR.out BW.out (by decide))); have n2_ := zA hb; have n3_ := zA ho; clear HR BT BW HB HO; have BT := n0_; have BW := n1_; have HB := n2_; have HR := n3_; clear n0_ n1_ n2_ n3_ ho hb hg hat; obtain ⟨Ao2, co2, eo2⟩ := Kd.R_slice HR.out; subst eo2; obtain ⟨hcw0, hfw0⟩ := zh1 BW.out; obtain ⟨hcc0, hcc1, hcc2, hcc3, hcc4, hfc0, hfc1, hfc2, hfc3, hfc4⟩ := zh5 BT.out; have hx39 := (zx (below_set HB.out GW.out) HX390.out : (w105.setCell ⟨gbW, 0, none⟩ (.slice Ao2 y1.length co2)).cell? _ = _)) | ((with_reducible refine gate_callee (f := 90) rfl ?_); refine goesL_ (some 90) rfl rfl Tryd.func90 (by kernel_rfl) rfl #[.pointer (some ⟨gbW, 0, none⟩), .int .i64 2, .slice A390 (impl_EncodeImage.row l0_3 i).length c390] rfl za ?_; (refine (impl_EncodeImage.put 2 (by decide) gbW _ _ _ _ (impl_EncodeImage.row l0_3 i) w _ (blk_put (cs := #[u]) BW.out 0 _ rfl) GW.out (MkQ.far (MkQ.of HR.out) BW.out (by decide) 0 _) ?pl (below_set HB.out GW.out) y2 Ey2.out.symm ?pr ?pn).mono ?_); (case pl => exact fun W _ hb => Kd.C_below HRD.out hb); (case pr => exact S1.out.2.1); (case pn => exact S1.out.2.2.1); rintro e w' ⟨rfl, u', hbw, hq, hub, hb, hk⟩; refine ⟨_, rfl, ?_⟩; have n0_ := zA (impl_EncodeImage.kept_box (blk_far BT.out NE.out _) (blk_put (cs := #[u]) BW.out 0 _ rfl) (MkQ.far (MkQ.of HR.out) BW.out (by decide) 0 _) hk (by decide) (by decide)); have n1_ := zA (hbw); have n2_ := zA (hq); have n3_ := zA (hb); clear BT BW HR HB; have BT := n0_; have BW := n1_; have HQ := n2_; have HB := n3_; clear n0_ n1_ n2_ n3_; clear hub hk hbw hq hb))
         have HR := zA (MkQ.own HQ.out (by have := S1.out.2.2.2; omega))
         go_roundg k1
         case measure => omega
         case rel => exact ⟨i + 1, y2, _, rs2, by have := HI.out; have := J1.out; rw [show wrap64 (i + 1) = i + 1 by unfold wrap64; omega], ⟨by have := HI.out; omega⟩, HF, ⟨S1.out.2.2.2⟩, HR, BT, BW, HB⟩
       ·have c64b : decide (i < (l0_2.length : Int)) = false := decide_eq_false c64
        have e : zs = B2 := by
         have := HF.out
         rw [show gk = 0 by have := HI.out; omega, impl_EncodeImage.rows] at this
         have e2 := Option.some.inj this.1
         rw [← this.2, ← e2, List.append_nil]
        subst e
        clear c64 HF
        have hne1 := NE.out
        have hne2 := NE.out.symm
        obtain ⟨hcv0, hfv0⟩ := zh1 BW.out
        obtain ⟨Ao, co, eo⟩ := Kd.R_slice HR.out
        subst eo
        go_wp2_with (first | ((with_reducible refine gate_callee (f := 92) rfl ?_); refine goesL_ (some 97) rfl rfl Tryd.func92 (by kernel_rfl) rfl #[.slice Ao zs.length co] rfl za ?_; (with_reducible refine (impl_Crc32.calls k _ _ zs cr _ ?side1 ?side2 A4.out).mono ?_); (case side1 => exact (Kd.R_reads' HR.out).2.2); (case side2 => exact (Kd.R_reads' HR.out).2.1); rintro e w' ⟨rfl, ⟨nd, rfl⟩⟩; refine ⟨_, rfl, ?_⟩) | ((with_reducible refine gate_dst (N := 99) rfl ?_); refine Kd.R_lit (Kd.int .i64) _ 3 ?hg (N := 99) ?hd (xs := ([(wrap64 cr)] : List Int)) (inner := [.int .i64 (wrap64 cr)]) (ok := fun _ => True) (okp := fun _ => True) ?hr ?hp (fun _ hk => hk) trivial (Below.refl _ _) (Nat.le_refl _) (by simp) ?_; (case hd => rfl); (case hg => rfl); (case hr => first | (go_simp; done) | (go_simp; rfl)); (case hp => exact (Reps.one (show Kd.M (Kd.int .i64) _ _ _ (wrap64 cr) [.int .i64 (wrap64 cr)] from rfl) (Reps.none _ _))); intro vl w126 hol hb hg_ hnew_; clear hg_ hnew_; have HO_L := zA (Kd.R_lower hol (below_size z_)); have n0_ := zA (MkQ.of (Kd.R_below (zR HR.out) hb)); have n1_ := zA (zB BW.out hb); have n2_ := zA (below_step z_ hb); clear HR BW HB; have HQ := n0_; have BW := n1_; have HB := n2_; clear n0_ n1_ n2_; clear hb hol; obtain ⟨Al, cl, el⟩ := Kd.R_slice HO_L.out; subst el) | ((with_reducible refine gate_callee (f := 90) rfl ?_); refine goesL_ (some 100) rfl rfl Tryd.func90 (by kernel_rfl) rfl #[.pointer (some ⟨gbW, 0, none⟩), .int .i64 4, .slice Al 1 cl] rfl za ?_; (refine (impl_EncodeImage.put 4 (by decide) gbW _ _ _ _ [wrap64 cr] w _ (BW.out) GW.out (HQ.out) ?pl (HB.out) _ rfl ?pr ?pn).mono ?_); (case pl => exact fun W hk _ => impl_EncodeImage.kept_list HO_L.out BW.out HQ.out hk); (case pr => exact Nat.le_trans L4.out (by decide)); (case pn => simp); rintro e w' ⟨rfl, u', hbw, hq, hub, hb, hk⟩; refine ⟨_, rfl, ?_⟩; have n0_ := zA (hbw); have n1_ := zA (hq); have n2_ := zA (hb); clear BW HQ HB; have BW := n0_; have HQ := n1_; have HB := n2_; clear n0_ n1_ n2_; clear hub hk hbw hq hb; clear HO_L; obtain ⟨hcv0, hfv0⟩ := zh1 BW.out))
        go_ret
        exact ⟨_, ze, MkQ.own HQ.out (by have := H5.out; rw [List.length_append]; omega), HB.out⟩
   ·rw [if_neg c4] at H; cases H
  ·rw [if_neg c3] at H; cases H

/-! ### laws_heldByteS: function 35 -/
def laws_heldByteS.l0 : Nat → List Int → Int → Int → Option (Int)
 | 0, _, _, _ => none
 | k + 1, x0, x1, x5 => if x5 < (x0.length : Int) then (if 0 ≤ x5 then (if (rd x0 x5) = ((x1) % 256) then (laws_heldByteS.l0 k x0 (wrap64 (x1 + 1)) (wrap64 (x5 + 1))) else (some (-1))) else (none)) else (some x1)
def laws_heldByteS.f (k : Nat) (l0 : List Int) (a1 : Int) : Option (Int) := laws_heldByteS.l0 k l0 a1 0
theorem laws_heldByteS.mono_l : ∀ k, (∀ y0 y1 y2, LeO (laws_heldByteS.l0 k y0 y1 y2) (laws_heldByteS.l0 (k + 1) y0 y1 y2))
 | 0 => fun _ _ _ r h => by simp [laws_heldByteS.l0] at h
 | k + 1 => by
  have ih0 := laws_heldByteS.mono_l k
  ·intro y0 y1 y2
   unfold laws_heldByteS.l0
   exact zm
theorem laws_heldByteS.mono : ∀ a0 a1 k, LeO (laws_heldByteS.f k a0 a1) (laws_heldByteS.f (k + 1) a0 a1) := by
 intro a0 a1 k
 have ih0 := laws_heldByteS.mono_l k
 unfold laws_heldByteS.f
 exact zm
set_option maxHeartbeats 8000000 in
set_option maxRecDepth 100000 in
theorem laws_heldByteS.calls (k : Nat) (A0 : Option Addr) (c0 : Nat) (l0 : List Int) (a1 : Int) (r : Int) (w : World) (hr0 : Kd.C (Kd.int .u8) w A0 l0.length l0) (hc0 : l0.length ≤ c0) (h : laws_heldByteS.f k l0 a1 = some r) :
  Calls Tryd.prog 35 #[.slice A0 l0.length c0, .int .i64 a1] w fun e w' => e = .returned (.int .i64 r) ∧ Drawn0 w w' := by
 have HR0 := zA hr0
 have HC0 := zA hc0
 clear hr0 hc0
 have H : (laws_heldByteS.l0 k l0 a1 0) = some r := h
 clear h
 have H' := zA H
 clear H
 go_enter Tryd.func35, Tryd.ntmps35
 go_wp2
 go_loopg [1, 5] k (fun kq v1 v5 w' => ∃ (x1_1 : Int) (x5_1 : Int), v1 = .int .i64 x1_1 ∧ v5 = .int .i64 x5_1 ∧ Aside0 (laws_heldByteS.l0 kq l0 x1_1 x5_1 = some r) ∧ Aside0 (kq ≤ k) ∧ Drawn0 w w')
 case atStart => exact ⟨(a1), (0), zr, zr, H', ⟨Nat.le_refl _⟩, by repeat (first | exact Drawn0.refl _ | apply Drawn0.step)⟩
 case round =>
  clear H'
  (try clear p2)
  obtain ⟨x1_1, x5_1, rfl, rfl, HA, HK1, ⟨m1, rfl⟩⟩ := hrel
  cases gk with
  | zero => exact absurd HA.out (by simp [laws_heldByteS.l0])
  | succ k1 =>
   have H := HA.out
   clear HA
   simp only [laws_heldByteS.l0] at H
   by_cases c3 : x5_1 < (l0.length : Int)
   ·rw [if_pos c3] at H
    have c3b0 : decide (x5_1 < (l0.length : Int)) = true := decide_eq_true c3
    clear c3
    by_cases c4 : 0 ≤ x5_1
    ·rw [if_pos c4] at H
     have c4b0 : decide (0 ≤ x5_1) = true := decide_eq_true c4
     clear c4
     by_cases c5 : (rd l0 x5_1) = ((x1_1) % 256)
     ·rw [if_pos c5] at H
      have c5b0 : ((rd l0 x5_1) == ((x1_1) % 256)) = true := beq_iff_eq.mpr c5
      have c5b1 : ((rd l0 x5_1) != ((x1_1) % 256)) = false := bne_eq_false_iff_eq.mpr c5
      clear c5
      have H' := zA H
      clear H
      have p343 : 0 ≤ (x5_1 : Int) := zd
      have q343 : x5_1 < (l0.length : Int) := zd
      obtain ⟨ad343, e343, hx343_0⟩ := Kd.at_int HR0.out x5_1 p343 q343
      cases e343
      replace p343 := eq_true p343
      replace q343 := eq_true q343
      go_wp2
      go_roundg k1
      case measure => have := HK1.out; omega
      case rel => exact ⟨(wrap64 (x1_1 + 1)), (wrap64 (x5_1 + 1)), zr, zr, H', ⟨by have := HK1.out; omega⟩, by repeat (first | exact Drawn0.refl _ | apply Drawn0.step)⟩
     ·rw [if_neg c5] at H
      have c5b0 : ((rd l0 x5_1) == ((x1_1) % 256)) = false := beq_eq_false_iff_ne.mpr c5
      have c5b1 : ((rd l0 x5_1) != ((x1_1) % 256)) = true := bne_iff_ne.mpr c5
      obtain rfl := Option.some.inj H
      have p343 : 0 ≤ (x5_1 : Int) := zd
      have q343 : x5_1 < (l0.length : Int) := zd
      obtain ⟨ad343, e343, hx343_0⟩ := Kd.at_int HR0.out x5_1 p343 q343
      cases e343
      replace p343 := eq_true p343
      replace q343 := eq_true q343
      go_wp2
      go_ret
      exact ⟨by first | rfl | (simp; done) | (simp [*]; done), by repeat (first | exact Drawn0.refl _ | apply Drawn0.step)⟩
    ·rw [if_neg c4] at H
     exact absurd H (by simp)
   ·rw [if_neg c3] at H
    have c3b0 : decide (x5_1 < (l0.length : Int)) = false := decide_eq_false c3
    clear c3
    obtain rfl := Option.some.inj H
    go_wp2
    go_ret
    exact ⟨by first | rfl | (simp; done) | (simp [*]; done), by repeat (first | exact Drawn0.refl _ | apply Drawn0.step)⟩

end Go.Proofs.YthbeplmihjhoeaaDoor.PFnExactEncodeImage
