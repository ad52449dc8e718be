-- made by wip/tools/myprint.py (this session's own program, over the kit's printer)
import Derived.Test.YtiboccbaaphbhaaPFnExactReachx0
import Derived.Test.YtiboccbaaphbhaaPFnExactReachx7
namespace Go.Proofs.Ytiboccbaaphbhaa.PFnExactReach
open Go.RowKit Go.Proofs.YtiboccbaaphbhaaW.PrintWords Go.Proofs.YtiboccbaaphbhaaW.PrintLast Go.Proofs.YtiboccbaaphbhaaW.PrintMore
attribute [local go_sem] max2_int min2_int max_two min_two max_three min_three max_four min_four   -- for this text's walks alone
set_option linter.unusedVariables false
set_option linter.unusedSimpArgs false

-- NOT PRINTED: function 47 (slices_IndexFunc_int_int)

-- NOT PRINTED: function 34 (slices_ContainsFunc_int_int)

-- NOT PRINTED: function 38 (impl_row_int_take)

/-! ### impl_Reach: function 16 -/
def impl_Reach.visit (c : Int) (s : List Bool × List Int) : Option (List Bool × List Int) :=
 if 0 ≤ c ∧ c < s.1.length then (if rdOf false s.1 c = true then some s else if s.2.length < 1000000 then some (s.1.set c.toNat true, s.2 ++ [c]) else none) else none
def impl_Reach.visits : List Int → List Bool × List Int → Option (List Bool × List Int)
 | [], s => some s
 | c :: cs, s => (impl_Reach.visit c s).bind (impl_Reach.visits cs)
def impl_Reach.bfs (st dst : List Int) : Nat → List Bool × List Int → Option (List Bool)
 | 0, _ => none
 | k + 1, (out, q) => match q with
  | [] => some out
  | c :: q => if 0 ≤ c ∧ c + 1 < st.length ∧ 0 ≤ rd st c ∧ rd st c ≤ rd st (c + 1) ∧ rd st (c + 1) ≤ dst.length then (impl_Reach.visits ((dst.take (rd st (c + 1)).toNat).drop (rd st c).toNat) (out, q)).bind (impl_Reach.bfs st dst k) else none
def impl_Reach.bad (n c : Int) : Bool := decide (c < 0) || decide (c ≥ n)
def impl_Reach.f (k : Nat) (a0_0 : Int) (l0_1 l0_2 l0_3 l0_4 l1 : List Int) : Option (List Bool × Int) :=
 (impl_ValidGraph.f k a0_0 l0_1 l0_2 l0_3 l0_4).bind fun t => if t = true then (if 1 ≤ a0_0 ∧ a0_0 ≤ 1000000 ∧ l0_1.length ≤ 100000000 ∧ l0_2.length ≤ 100000000 then (if (l1.length : Int) > a0_0 then some ([], 1) else if l1.any (impl_Reach.bad a0_0) = true then some ([], 1) else (impl_Reach.visits l1 (List.replicate a0_0.toNat false, [])).bind fun s => (impl_Reach.bfs l0_1 l0_2 (a0_0.toNat + 1) s).bind fun out => some (out, 0)) else none) else some ([], 1)
theorem impl_Reach.mono : ∀ a0 a1 a2 a3 a4 a5 k, LeO (impl_Reach.f k a0 a1 a2 a3 a4 a5) (impl_Reach.f (k + 1) a0 a1 a2 a3 a4 a5) := by
 intro a0 a1 a2 a3 a4 a5 k
 unfold impl_Reach.f
 exact LeO.bind (impl_ValidGraph.mono _ _ _ _ _ _) fun _ => LeO.refl _
theorem impl_Reach.out1 (c n : Int) (cs : Array Value) (gb : Nat) (w : World) (hg : w.heap[gb]? = some (.cells cs 26 (0, 0))) (h0 : cs[0]? = some (.int .i64 n)) :
  Calls Try.prog 35 #[.int .i64 c, .pointer (some ⟨gb, 0, none⟩)] w fun e w' => e = .returned (.bool (impl_Reach.bad n c)) ∧ w' = w := by
 have hu := Try.underlying26
 have hx := (blk_cell hg 0).trans h0
 clear hg h0
 unfold impl_Reach.bad
 by_cases c1 : c < 0
 ·have c1b : decide (c < 0) = true := decide_eq_true c1
  go_enter Try.func35, Try.ntmps35
  go_wp2
  go_ret
  exact ⟨by simp [c1], rfl⟩
 ·have c1b : decide (c < 0) = false := decide_eq_false c1
  by_cases c2 : n ≤ c
  ·have c2b : decide (n ≤ c) = true := decide_eq_true c2
   go_enter Try.func35, Try.ntmps35
   go_wp2
   go_ret
   exact ⟨by simp [c2], rfl⟩
  ·have c2b : decide (n ≤ c) = false := decide_eq_false c2
   go_enter Try.func35, Try.ntmps35
   go_wp2
   go_ret
   exact ⟨by simp [c1, c2], rfl⟩
theorem impl_Reach.drop_at (l : List Int) (i : Int) (h0 : 0 ≤ i) (h1 : i < l.length) : l.drop i.toNat = rd l i :: l.drop (i + 1).toNat := by
 rw [show (i + 1).toNat = i.toNat + 1 by omega, List.drop_eq_getElem_cons (by omega : i.toNat < l.length)]
 congr 1
 unfold rd
 rw [List.getD_eq_getElem?_getD, List.getElem?_eq_getElem (by omega : i.toNat < l.length)]; rfl
set_option maxHeartbeats 4000000 in
set_option maxRecDepth 100000 in
theorem impl_Reach.idx (A : Option Addr) (cc : Nat) (l : List Int) (n : Int) (cs : Array Value) (gb : Nat) (w : World) (hr : Kd.C (Kd.int .i64) w A l.length l) (hl : l.length ≤ 1000000) (hg : w.heap[gb]? = some (.cells cs 26 (0, 0))) (h0 : cs[0]? = some (.int .i64 n)) :
  Calls Try.prog 47 #[.slice A l.length cc, .func (.func 35) #[] #[.pointer (some ⟨gb, 0, none⟩)]] w fun e w' => (∃ i : Int, e = .returned (.int .i64 i) ∧ (decide (i ≥ 0)) = l.any (impl_Reach.bad n)) ∧ Below w.heap.size w w' := by
 have HR := zA hr
 have HL := zA hl
 have HG := zA hg
 have H0 := zA h0
 have HB := zA (Below.refl w.heap.size w)
 clear hr hl hg h0
 go_enter Try.func47, Try.ntmps47
 go_wp2
 go_loopg [8] l.length (fun kq v8 w' => ∃ (i : Int), v8 = .int .i64 i ∧ Aside0 (0 ≤ i ∧ (kq : Int) + i = l.length) ∧ Aside0 ((l.drop i.toNat).any (impl_Reach.bad n) = l.any (impl_Reach.bad n)) ∧ Aside0 (Below w.heap.size w w'))
 case atStart => exact ⟨0, rfl, ⟨by omega, by omega⟩, ⟨rfl⟩, HB⟩
 case round =>
  clear HB
  obtain ⟨i, rfl, HI, HA, HB⟩ := hrel
  by_cases c4 : i < (l.length : Int)
  ·have c4b : decide (i < (l.length : Int)) = true := decide_eq_true c4
   have p4 : 0 ≤ i := HI.out.1
   have ha := HA.out
   rw [impl_Reach.drop_at l i p4 c4, List.any_cons] at ha
   obtain ⟨ad, eA, hx⟩ := Kd.at_int (Kd.C_below HR.out HB.out) i p4 c4
   cases eA
   cases gk with
   | zero => exact absurd HI.out.2 (by omega)
   | succ k1 =>
    cases cb : impl_Reach.bad n (rd l i) with
    | true =>
     have HA2 := zA (show l.any (impl_Reach.bad n) = true by rw [← ha, cb]; rfl)
     have CB := zA cb
     have J1 := zA c4
     clear ha cb
     replace p4 := eq_true p4
     replace c4 := eq_true c4
     go_wp2_with (go_at_call 35; refine (impl_Reach.out1 (rd l i) n cs gb _ (blk_below HG.out HB.out) H0.out).mono ?_; rintro e w17 ⟨rfl, rfl⟩; rw [CB.out])
     go_ret
     exact ⟨⟨i, rfl, by rw [HA2.out]; exact decide_eq_true HI.out.1⟩, HB.out⟩
    | false =>
     have HA2 := zA (show (l.drop (i + 1).toNat).any (impl_Reach.bad n) = l.any (impl_Reach.bad n) by rw [← ha, cb]; rfl)
     have CB := zA cb
     have J1 := zA c4
     clear ha cb
     replace p4 := eq_true p4
     replace c4 := eq_true c4
     go_wp2_with (go_at_call 35; refine (impl_Reach.out1 (rd l i) n cs gb _ (blk_below HG.out HB.out) H0.out).mono ?_; rintro e w17 ⟨rfl, rfl⟩; rw [CB.out])
     go_roundg k1
     case measure => omega
     case rel => exact ⟨i + 1, by have := HI.out; have := HL.out; rw [show wrap64 (i + 1) = i + 1 by unfold wrap64; omega], ⟨by have := HI.out; omega⟩, HA2, HB⟩
  ·have c4b : decide (i < (l.length : Int)) = false := decide_eq_false c4
   have e : l.any (impl_Reach.bad n) = false := by
    rw [← HA.out, List.drop_eq_nil_of_le (by omega)]; rfl
   have E := zA e
   clear e c4
   go_wp2
   go_ret
   exact ⟨⟨-1, rfl, by rw [E.out]; rfl⟩, HB.out⟩
theorem impl_Reach.contains (A : Option Addr) (cc : Nat) (l : List Int) (n : Int) (cs : Array Value) (gb : Nat) (w : World) (hr : Kd.C (Kd.int .i64) w A l.length l) (hl : l.length ≤ 1000000) (hg : w.heap[gb]? = some (.cells cs 26 (0, 0))) (h0 : cs[0]? = some (.int .i64 n)) :
  Calls Try.prog 34 #[.slice A l.length cc, .func (.func 35) #[] #[.pointer (some ⟨gb, 0, none⟩)]] w fun e w' => e = .returned (.bool (l.any (impl_Reach.bad n))) ∧ Below w.heap.size w w' := by
 have K := zA (impl_Reach.idx A cc l n cs gb w hr hl hg h0)
 clear hr hl hg h0
 go_enter Try.func34, Try.ntmps34
 go_wp2_with (go_at_call 47; refine K.out.mono ?_; rintro e w' ⟨⟨i, rfl, hi⟩, hb⟩; have HB := zA hb; have HI := zA hi; clear hb hi)
 go_ret
 exact ⟨by rw [← HI.out]; rfl, HB.out⟩
def impl_Reach.ST (w0 W : World) (bG : Nat) (cs : Array Value) (b6 b7 gr : Nat) (s : List Bool × List Int) : Prop :=
 ∃ go co u, W.heap[b6]? = some (.cells #[.slice (some ⟨go, 0, none⟩) s.1.length co] 33 (0, 0)) ∧ W.heap[b7]? = some (.cells #[.pointer (some ⟨gr, 0, none⟩)] 58 (0, 0)) ∧ W.heap[gr]? = some (.cells #[u] 60 (0, 0)) ∧
  Kd.R Kd.bool 4 W w0.heap.size (fun _ => True) (.slice (some ⟨go, 0, none⟩) s.1.length co) s.1 ∧ Kd.Q (Kd.int .i64) 3 W w0.heap.size (fun _ => True) u s.2 ∧ Below w0.heap.size w0 W ∧ (w0.heap.size ≤ b6 ∧ w0.heap.size ≤ b7 ∧ w0.heap.size ≤ gr) ∧ W.heap[bG]? = some (.cells cs 26 (0, 0))
theorem impl_Reach.ST.below {w0 W W' : World} {bG : Nat} {cs : Array Value} {b6 b7 gr : Nat} {s : List Bool × List Int} (h : impl_Reach.ST w0 W bG cs b6 b7 gr s) (hb : Below W.heap.size W W') : impl_Reach.ST w0 W' bG cs b6 b7 gr s := by
 obtain ⟨go, co, u, h6, h7, hr, ho, hq, hB, hg, hG⟩ := h
 exact ⟨go, co, u, blk_below h6 hb, blk_below h7 hb, blk_below hr hb, Kd.R_below ho hb, Kd.Q_below hq hb, below_step hB hb, hg, blk_below hG hb⟩
set_option maxHeartbeats 4000000 in
set_option maxRecDepth 100000 in
theorem impl_Reach.vis (c : Int) (bG : Nat) (cs : Array Value) (b6 b7 gr : Nat) (s s' : List Bool × List Int) (w0 w : World) (hS : impl_Reach.ST w0 w bG cs b6 b7 gr s) (h : impl_Reach.visit c s = some s') :
  Calls Try.prog 36 #[.int .i64 c, .pointer (some ⟨b6, 0, none⟩), .pointer (some ⟨b7, 0, none⟩)] w fun e w' => e = .returned (.tuple #[]) ∧ impl_Reach.ST w0 w' bG cs b6 b7 gr s' := by
 have hu58 := Try.underlying58
 have hu60 := Try.underlying60
 unfold impl_Reach.visit at h
 by_cases hc : 0 ≤ c ∧ c < s.1.length
 ·rw [if_pos hc] at h
  obtain ⟨go, co, u, h6, h7, hr, ho, hq, hB, hg, hG⟩ := hS
  have H6 := zA h6
  have H7 := zA h7
  have HR := zA hr
  have HO := zA ho
  have HQ := zA hq
  have HB := zA hB
  have HG := zA hg
  have HGG := zA hG
  clear h6 h7 hr ho hq hB hg hG
  obtain ⟨hx, hf⟩ := Kd.R_celln false HO.out c hc.1 hc.2
  have p1 := eq_true hc.1
  have p2 := eq_true hc.2
  obtain ⟨hc6, hf6⟩ := zh1 H6.out
  have C := zA hc
  clear hc
  by_cases hm : rdOf false s.1 c = true
  ·rw [if_pos hm] at h
   obtain rfl := Option.some.inj h
   rw [hm] at hx
   clear hm
   go_enter Try.func36, Try.ntmps36
   go_wp2
   exact ⟨rfl, .tuple #[], results_none rfl _ _ _, rfl, go, co, u, H6.out, H7.out, HR.out, HO.out, HQ.out, HB.out, HG.out, HGG.out⟩
  ·rw [if_neg hm] at h
   by_cases hl : s.2.length < 1000000
   ·rw [if_pos hl] at h
    obtain rfl := Option.some.inj h
    have hm' : rdOf false s.1 c = false := by simpa using hm
    rw [hm'] at hx
    have HL := zA hl
    clear hm hm' hl h
    go_enter Try.func36, Try.ntmps36
    go_wp2_with (first | ((with_reducible refine gate_store (t := 4) (p := 11) rfl ?_); refine store_event (t := 4) (p := 11) (v := ?vo_w8) (w1 := (w.setCell ⟨go, c.toNat, none⟩ (.bool true))) ?hg ?ho ?hn ?hr ?_; (case ho => rfl); (case hg => rfl); (case hn => rfl); (case hr => first | (go_simp; done) | (go_simp; rfl)); intro w8 hw; have hgo := Kd.R_base HO.out go rfl; have e6 := Kd.R_ne HO.out H6.out (by decide); have e7 := Kd.R_ne HO.out H7.out (by decide); have er := Kd.R_ne HO.out HR.out (by decide); have eq := fun k (hk : u.ownBlock = some k) (hk2 : k = go) => (by obtain ⟨c1, q1⟩ := Kd.Q_typed HQ.out k hk; obtain ⟨c2, q2⟩ := Kd.R_typed HO.out go rfl; rw [hk2, q2] at q1; simp at q1 : False); have n0_ := zA (show w8.heap[b6]? = some (.cells #[.slice (some ⟨go, 0, none⟩) s.1.length co] 33 (0, 0)) from by rw [hw]; exact blk_far H6.out (fun e => e6 (by rw [e]; rfl)) _); have n1_ := zA (show w8.heap[b7]? = some (.cells #[.pointer (some ⟨gr, 0, none⟩)] 58 (0, 0)) from by rw [hw]; exact blk_far H7.out (fun e => e7 (by rw [e]; rfl)) _); have n2_ := zA (show w8.heap[gr]? = some (.cells #[u] 60 (0, 0)) from by rw [hw]; exact blk_far HR.out (fun e => er (by rw [e]; rfl)) _); have n3_ := zA (show Kd.R Kd.bool 4 w8 w0.heap.size (fun _ => True) (.slice (some ⟨go, 0, none⟩) s.1.length co) (s.1.set c.toNat true) from by rw [hw]; exact (Kd.R_putg HO.out c true).1); have n4_ := zA (show Kd.Q (Kd.int .i64) 3 w8 w0.heap.size (fun _ => True) u s.2 from by rw [hw]; exact Kd.Q_mono (Kd.Q_far (Kd.Q_tight rfl HQ.out) (fun k hk e => eq k hk.symm e) _) (fun _ _ => trivial)); have n5_ := zA (show Below w0.heap.size w0 w8 from by rw [hw]; exact below_set HB.out hgo); have eG := Kd.R_ne HO.out HGG.out (by decide); have n6_ := zA (show w8.heap[bG]? = some (.cells cs 26 (0, 0)) from by rw [hw]; exact blk_far HGG.out (fun e => eG (by rw [e]; rfl)) _); clear eG HGG; have HGG := n6_; clear n6_; clear hw hx hf hc6 hf6 hgo e6 e7 er eq H6 H7 HR HO HQ HB; have H6 := n0_; have H7 := n1_; have HR := n2_; have HO := n3_; have HQ := n4_; have HB := n5_; clear n0_ n1_ n2_ n3_ n4_ n5_; obtain ⟨hc7, hf7⟩ := zh1 H7.out; obtain ⟨hcr, hfr⟩ := zh1 HR.out) | ((with_reducible refine gate_builtin (b := .append) (xs := #[.tmp 8, .tmp 10]) rfl ?_); at_builtin; refine Kd.Q_append (Kd.int .i64) (w0 := w0) w0.heap.size rfl (.tmp 8) (.tmp 10) 22 3 (.int .i64 0) 8 rfl Try.underlying22 info3 rfl (by decide) (by omega) u s.2 c [.int .i64 c] (fun _ => True) (fun _ => False) rfl rfl rfl (fun _ h => h.elim) (fun _ _ => trivial) HQ.out HB.out (below_size HB.out) (by have := HL.out; omega) ?_; intro v1 w9 hq hb hgr hat; have eq := fun k (hk : u.ownBlock = some k) (hk2 : some k = (Value.slice (some ⟨go, 0, none⟩) s.1.length co).ownBlock) => (by obtain ⟨c1, q1⟩ := Kd.Q_typed HQ.out k hk; obtain ⟨c2, q2⟩ := Kd.R_typed HO.out k hk2.symm; rw [q2] at q1; simp at q1 : False); have n0_ := zA (blk_grown H6.out hgr (Kd.Q_ne HQ.out H6.out (by decide))); have n1_ := zA (blk_grown H7.out hgr (Kd.Q_ne HQ.out H7.out (by decide))); have n2_ := zA (blk_grown HR.out hgr (Kd.Q_ne HQ.out HR.out (by decide))); have n3_ := zA (Kd.R_grown2 HO.out rfl hgr (fun k hk e => eq k hk e)); have n4_ := zA (blk_grown HGG.out hgr (Kd.Q_ne HQ.out HGG.out (by decide))); clear HGG; have HGG := n4_; clear n4_; clear H6 H7 HR HO HQ HB eq hgr hat; have H6 := n0_; have H7 := n1_; have HR := n2_; have HO := n3_; have HQ := zA hq; have HB := zA hb; clear n0_ n1_ n2_ n3_ hq hb; obtain ⟨hcs, hfs⟩ := zh1 HR.out; obtain ⟨Av, cv, ev, _⟩ := Kd.Q_slice HQ.out; rw [List.length_append, List.length_singleton] at ev; subst ev) | (go_at_call 37; go_in) | ((with_reducible refine bodyPost_end (fn := Try.f37) (v := .tuple #[]) ?_ rfl ?_); (exact results_none rfl _ _ _); simp only []))
    have n6 := blk_ne H6.out HR.out (by decide)
    have n7 := blk_ne H7.out HR.out (by decide)
    exact ⟨rfl, .tuple #[], results_none rfl _ _ _, rfl, go, co, _, by (rw [List.length_set]; exact blk_far H6.out n6 _), blk_far H7.out n7 _, blk_put (cs := #[u]) HR.out 0 _ rfl, by (rw [List.length_set]; exact Kd.R_set HO.out HR.out (by decide) 0 _), Kd.Q_set HQ.out HR.out (by decide) 0 _, below_set HB.out HG.out.2.2, HG.out, blk_far HGG.out (blk_ne HGG.out HR.out (by decide)) _⟩
   ·rw [if_neg hl] at h; cases h
 ·rw [if_neg hc] at h; cases h
set_option maxHeartbeats 4000000 in
set_option maxRecDepth 100000 in
theorem impl_Reach.take0 (bG : Nat) (cs : Array Value) (b6 b7 gr : Nat) (out : List Bool) (w0 w : World) (hS : impl_Reach.ST w0 w bG cs b6 b7 gr (out, [])) :
  Calls Try.prog 38 #[.pointer (some ⟨gr, 0, none⟩)] w fun e w' => e = .returned (.tuple #[.int .i64 0, .bool false]) ∧ impl_Reach.ST w0 w' bG cs b6 b7 gr (out, []) := by
 have hu58 := Try.underlying58
 have hu60 := Try.underlying60
 obtain ⟨go, co, u, h6, h7, hr, ho, hq, hB, hg, hG⟩ := hS
 have H6 := zA h6
 have H7 := zA h7
 have HR := zA hr
 have HO := zA ho
 have HQ := zA hq
 have HB := zA hB
 have HG := zA hg
 have HGG := zA hG
 clear h6 h7 hr ho hq hB hg hG
 obtain ⟨Av, cv, ev, _⟩ := Kd.Q_slice HQ.out
 subst ev
 obtain ⟨hc6, hf6⟩ := zh1 HR.out
 go_enter Try.func38, Try.ntmps38
 go_wp2
 go_ret2
 exact ⟨rfl, go, co, _, H6.out, H7.out, HR.out, HO.out, HQ.out, HB.out, HG.out, HGG.out⟩
set_option maxHeartbeats 4000000 in
set_option maxRecDepth 100000 in
theorem impl_Reach.take1 (bG : Nat) (cs : Array Value) (b6 b7 gr : Nat) (out : List Bool) (c : Int) (q : List Int) (w0 w : World) (hS : impl_Reach.ST w0 w bG cs b6 b7 gr (out, c :: q)) :
  Calls Try.prog 38 #[.pointer (some ⟨gr, 0, none⟩)] w fun e w' => e = .returned (.tuple #[.int .i64 c, .bool true]) ∧ impl_Reach.ST w0 w' bG cs b6 b7 gr (out, q) := by
 have hu58 := Try.underlying58
 have hu60 := Try.underlying60
 obtain ⟨go, co, u, h6, h7, hr, ho, hq, hB, hg, hG⟩ := hS
 have H6 := zA h6
 have H7 := zA h7
 have HR := zA hr
 have HO := zA ho
 have HB := zA hB
 have HG := zA hg
 have HGG := zA hG
 have hql : ((out, c :: q) : List Bool × List Int).2.length = q.length + 1 := rfl
 obtain ⟨g, o, cap, ev, hge, hlt, cells, hcells⟩ := Kd.Q_form hq (by simp)
 subst ev
 obtain ⟨hx0, hf⟩ := Kd.Q_cell (0 : Int) hq 0 (by omega) (by simp)
 have hx : w.cell? ⟨g, o, none⟩ = some (.int .i64 c) := hx0
 have hcl : q.length + 1 ≤ cap := (Kd.Q_reads' hq).2.1
 have hd := Kd.Q_drop hq (k := 1) (by simp)
 obtain ⟨A', eA'⟩ : ∃ A', A' = (if cap = 1 then (some ⟨g, o, none⟩ : Option Addr) else (some ⟨g, o, none⟩ : Option Addr).map (·.add (1 * (Kd.int .i64).sz))) := ⟨_, rfl⟩
 rw [← eA'] at hd
 have hcut : ∀ W : World, (Instr.slice 22 (.slice (some ⟨g, o, none⟩) (q.length + 1) cap) (some (.int .i64 1)) none none).run Try.prog W = .ok (.slice A' q.length (cap - 1)) W := by
  intro W
  obtain ⟨i0, hi0, _, hsz, _⟩ := info_parts info3
  have hel : Program.elem Try.prog 22 = 3 := by simp [Program.elem, Try.underlying22]
  rw [run_slice_l W 22 (some ⟨g, o, none⟩) (q.length + 1) cap (by rw [hel]; exact Try.underlying22) .i64 1 (by omega) (by omega), hel, eA']
  simp [sizeOf, typeInfo, hi0, hsz, sliced, Result.andThen]
  rfl
 have HD := zA (show Kd.Q (Kd.int .i64) 3 w w0.heap.size (fun _ => True) (.slice A' q.length (cap - 1)) q from hd)
 clear h6 h7 hr ho hq hB hg hG hql hcells hx0 hd eA' hge hlt hf
 obtain ⟨hc6, hf6⟩ := zh1 HR.out
 have hlb : decide (((q.length + 1 : Nat) : Int) = 0) = false := decide_eq_false (by omega)
 go_enter Try.func38, Try.ntmps38
 go_wp2
 go_ret2
 have n6 := blk_ne H6.out HR.out (by decide)
 have n7 := blk_ne H7.out HR.out (by decide)
 exact ⟨rfl, go, co, _, blk_far H6.out n6 _, blk_far H7.out n7 _, blk_put (cs := #[.slice (some ⟨g, o, none⟩) (q.length + 1) cap]) HR.out 0 _ rfl, Kd.R_set HO.out HR.out (by decide) 0 _, Kd.Q_set HD.out HR.out (by decide) 0 _, below_set HB.out HG.out.2.2, HG.out, blk_far HGG.out (blk_ne HGG.out HR.out (by decide)) _⟩
theorem impl_Reach.take (bG : Nat) (cs : Array Value) (b6 b7 gr : Nat) (out : List Bool) (q : List Int) (w0 w : World) (hS : impl_Reach.ST w0 w bG cs b6 b7 gr (out, q)) :
  Calls Try.prog 38 #[.pointer (some ⟨gr, 0, none⟩)] w fun e w' => ∃ c ok q', e = .returned (.tuple #[.int .i64 c, .bool ok]) ∧ ((ok = true ∧ q = c :: q') ∨ (ok = false ∧ q = [])) ∧ impl_Reach.ST w0 w' bG cs b6 b7 gr (out, q') := by
 cases q with
 | nil => exact (impl_Reach.take0 bG cs b6 b7 gr out w0 w hS).mono fun e w' h => ⟨0, false, [], h.1, .inr ⟨rfl, rfl⟩, h.2⟩
 | cons c q => exact (impl_Reach.take1 bG cs b6 b7 gr out c q w0 w hS).mono fun e w' h => ⟨c, true, q, h.1, .inl ⟨rfl, rfl⟩, h.2⟩
theorem impl_Reach.visits_drop (l : List Int) (i : Int) (h0 : 0 ≤ i) (h1 : i < l.length) (s : List Bool × List Int) : impl_Reach.visits (l.drop i.toNat) s = (impl_Reach.visit (rd l i) s).bind (impl_Reach.visits (l.drop (i + 1).toNat)) := by
 rw [impl_Reach.drop_at l i h0 h1, impl_Reach.visits]
set_option maxHeartbeats 16000000 in
set_option maxRecDepth 100000 in
theorem impl_Reach.calls (k : Nat) (a0_0 : Int) (A0_1 : Option Addr) (c0_1 : Nat) (l0_1 : List Int) (A0_2 : Option Addr) (c0_2 : Nat) (l0_2 : List Int) (A0_3 : Option Addr) (c0_3 : Nat) (l0_3 : List Int) (A0_4 : Option Addr) (c0_4 : Nat) (l0_4 : List Int) (A1 : Option Addr) (c1 : Nat) (l1 : List Int) (r1 : List Bool) (r2 : Int) (w : World) (hr0_1 : Kd.C (Kd.int .i64) w A0_1 l0_1.length l0_1) (hc0_1 : l0_1.length ≤ c0_1) (hr0_2 : Kd.C (Kd.int .i64) w A0_2 l0_2.length l0_2) (hc0_2 : l0_2.length ≤ c0_2) (hr0_3 : Kd.C (Kd.int .i64) w A0_3 l0_3.length l0_3) (hc0_3 : l0_3.length ≤ c0_3) (hr0_4 : Kd.C (Kd.int .i64) w A0_4 l0_4.length l0_4) (hc0_4 : l0_4.length ≤ c0_4) (hr1 : Kd.C (Kd.int .i64) w A1 l1.length l1) (hc1 : l1.length ≤ c1) (h : impl_Reach.f k a0_0 l0_1 l0_2 l0_3 l0_4 l1 = some (r1, r2)) :
  Calls Try.prog 16 #[.agg #[.int .i64 a0_0, .slice A0_1 l0_1.length c0_1, .slice A0_2 l0_2.length c0_2, .slice A0_3 l0_3.length c0_3, .slice A0_4 l0_4.length c0_4], .slice A1 l1.length c1] w fun e w' => ∃ v0_ : Value, e = .returned (.tuple #[v0_, .int .i64 r2]) ∧ Kd.R Kd.bool 4 w' w.heap.size (fun _ => True) v0_ r1 ∧ Below w.heap.size w w' := by
 have hu26 := Try.underlying26
 have hu58 := Try.underlying58
 have hu60 := Try.underlying60
 have HR0_1 := zA hr0_1
 have HC0_1 := zA hc0_1
 have HR0_2 := zA hr0_2
 have HC0_2 := zA hc0_2
 have HR0_3 := zA hr0_3
 have HC0_3 := zA hc0_3
 have HR0_4 := zA hr0_4
 have HC0_4 := zA hc0_4
 have HR1 := zA hr1
 have HC1 := zA hc1
 clear hr0_1 hc0_1 hr0_2 hc0_2 hr0_3 hc0_3 hr0_4 hc0_4 hr1 hc1
 have HB := zA (Below.refl w.heap.size w)
 unfold impl_Reach.f at h
 obtain ⟨t, av, H⟩ := Option.bind_eq_some_iff.mp h
 clear h
 have AV := zA av
 clear av
 cases t with
 | false =>
  rw [if_neg (by decide)] at H
  injection H with H
  injection H with e1 e2
  subst e1 e2
  go_enter Try.func16, Try.ntmps16
  go_wp2_with (first | ((with_reducible refine gate_dst (N := 2) rfl ?_); refine box_event ?hg (N := 2) ?hd (cs := #[.int .i64 a0_0, .slice A0_1 l0_1.length c0_1, .slice A0_2 l0_2.length c0_2, .slice A0_3 l0_3.length c0_3, .slice A0_4 l0_4.length c0_4]) (t := 26) ?hr ?_; (case hd => rfl); (case hg => rfl); (case hr => first | (go_simp; done) | (go_simp; rfl)); intro gbG hg w4 hbox hb; have BG := zA hbox; have GG := zA ((by rw [hg]; exact (below_size z_) : w.heap.size ≤ gbG)); have n0_ := zA (below_step z_ hb); clear HB; have HB := n0_; clear n0_ hb hbox hg; obtain ⟨hc0, hc1, hc2, hc3, hc4, hf0, hf1, hf2, hf3, hf4⟩ := zh5 BG.out) | ((with_reducible refine gate_callee (f := 31) rfl ?_); refine goesL_ (some 16) rfl rfl Try.func31 (by kernel_rfl) rfl #[.agg #[.int .i64 a0_0, .slice A0_1 l0_1.length c0_1, .slice A0_2 l0_2.length c0_2, .slice A0_3 l0_3.length c0_3, .slice A0_4 l0_4.length c0_4]] rfl za ?_; (with_reducible refine (impl_ValidGraph.calls k a0_0 _ _ l0_1 _ _ l0_2 _ _ l0_3 _ _ l0_4 false _ ?s1 ?s2 ?s3 ?s4 ?s5 ?s6 ?s7 ?s8 AV.out).mono ?_); (case s1 => exact Kd.C_below HR0_1.out HB.out); (case s2 => exact HC0_1.out); (case s3 => exact Kd.C_below HR0_2.out HB.out); (case s4 => exact HC0_2.out); (case s5 => exact Kd.C_below HR0_3.out HB.out); (case s6 => exact HC0_3.out); (case s7 => exact Kd.C_below HR0_4.out HB.out); (case s8 => exact HC0_4.out); rintro e w6 ⟨rfl, hb⟩; refine ⟨_, rfl, ?_⟩; have n0_ := zA (blk_below BG.out hb); have n1_ := zA (below_step HB.out hb); clear BG HB; have BG := n0_; have HB := n1_; clear n0_ n1_; clear hb; obtain ⟨hd0, hd1, hd2, hd3, hd4, hg0, hg1, hg2, hg3, hg4⟩ := zh5 BG.out))
  go_ret2
  exact ⟨_, rfl, Kd.R_nil _ _ _ _ _, HB.out⟩
 | true =>
  rw [if_pos rfl] at H
  by_cases n1 : 1 ≤ a0_0 ∧ a0_0 ≤ 1000000 ∧ l0_1.length ≤ 100000000 ∧ l0_2.length ≤ 100000000
  ·rw [if_pos n1] at H
   have N1 := zA n1
   clear n1
   by_cases d1 : (l1.length : Int) > a0_0
   ·rw [if_pos d1] at H
    injection H with H
    injection H with e1 e2
    subst e1 e2
    have d1b : decide (a0_0 < (l1.length : Int)) = true := decide_eq_true d1
    clear d1
    go_enter Try.func16, Try.ntmps16
    go_wp2_with (first | ((with_reducible refine gate_dst (N := 2) rfl ?_); refine box_event ?hg (N := 2) ?hd (cs := #[.int .i64 a0_0, .slice A0_1 l0_1.length c0_1, .slice A0_2 l0_2.length c0_2, .slice A0_3 l0_3.length c0_3, .slice A0_4 l0_4.length c0_4]) (t := 26) ?hr ?_; (case hd => rfl); (case hg => rfl); (case hr => first | (go_simp; done) | (go_simp; rfl)); intro gbG hg w4 hbox hb; have BG := zA hbox; have GG := zA ((by rw [hg]; exact (below_size z_) : w.heap.size ≤ gbG)); have n0_ := zA (below_step z_ hb); clear HB; have HB := n0_; clear n0_ hb hbox hg; obtain ⟨hc0, hc1, hc2, hc3, hc4, hf0, hf1, hf2, hf3, hf4⟩ := zh5 BG.out) | ((with_reducible refine gate_callee (f := 31) rfl ?_); refine goesL_ (some 16) rfl rfl Try.func31 (by kernel_rfl) rfl #[.agg #[.int .i64 a0_0, .slice A0_1 l0_1.length c0_1, .slice A0_2 l0_2.length c0_2, .slice A0_3 l0_3.length c0_3, .slice A0_4 l0_4.length c0_4]] rfl za ?_; (with_reducible refine (impl_ValidGraph.calls k a0_0 _ _ l0_1 _ _ l0_2 _ _ l0_3 _ _ l0_4 true _ ?s1 ?s2 ?s3 ?s4 ?s5 ?s6 ?s7 ?s8 AV.out).mono ?_); (case s1 => exact Kd.C_below HR0_1.out HB.out); (case s2 => exact HC0_1.out); (case s3 => exact Kd.C_below HR0_2.out HB.out); (case s4 => exact HC0_2.out); (case s5 => exact Kd.C_below HR0_3.out HB.out); (case s6 => exact HC0_3.out); (case s7 => exact Kd.C_below HR0_4.out HB.out); (case s8 => exact HC0_4.out); rintro e w6 ⟨rfl, hb⟩; refine ⟨_, rfl, ?_⟩; have n0_ := zA (blk_below BG.out hb); have n1_ := zA (below_step HB.out hb); clear BG HB; have BG := n0_; have HB := n1_; clear n0_ n1_; clear hb; obtain ⟨hd0, hd1, hd2, hd3, hd4, hg0, hg1, hg2, hg3, hg4⟩ := zh5 BG.out))
    go_ret2
    exact ⟨_, rfl, Kd.R_nil _ _ _ _ _, HB.out⟩
   ·rw [if_neg d1] at H
    have d1b : decide (a0_0 < (l1.length : Int)) = false := decide_eq_false d1
    have HL1 := zA (show l1.length ≤ 1000000 by have := N1.out; omega)
    clear d1
    cases an : l1.any (impl_Reach.bad a0_0) with
    | true =>
     rw [an, if_pos rfl] at H
     injection H with H
     injection H with e1 e2
     subst e1 e2
     have AN := zA an
     clear an
     go_enter Try.func16, Try.ntmps16
     go_wp2_with (first | ((with_reducible refine gate_dst (N := 2) rfl ?_); refine box_event ?hg (N := 2) ?hd (cs := #[.int .i64 a0_0, .slice A0_1 l0_1.length c0_1, .slice A0_2 l0_2.length c0_2, .slice A0_3 l0_3.length c0_3, .slice A0_4 l0_4.length c0_4]) (t := 26) ?hr ?_; (case hd => rfl); (case hg => rfl); (case hr => first | (go_simp; done) | (go_simp; rfl)); intro gbG hg w4 hbox hb; have BG := zA hbox; have GG := zA ((by rw [hg]; exact (below_size z_) : w.heap.size ≤ gbG)); have n0_ := zA (below_step z_ hb); clear HB; have HB := n0_; clear n0_ hb hbox hg; obtain ⟨hc0, hc1, hc2, hc3, hc4, hf0, hf1, hf2, hf3, hf4⟩ := zh5 BG.out) | ((with_reducible refine gate_callee (f := 31) rfl ?_); refine goesL_ (some 16) rfl rfl Try.func31 (by kernel_rfl) rfl #[.agg #[.int .i64 a0_0, .slice A0_1 l0_1.length c0_1, .slice A0_2 l0_2.length c0_2, .slice A0_3 l0_3.length c0_3, .slice A0_4 l0_4.length c0_4]] rfl za ?_; (with_reducible refine (impl_ValidGraph.calls k a0_0 _ _ l0_1 _ _ l0_2 _ _ l0_3 _ _ l0_4 true _ ?s1 ?s2 ?s3 ?s4 ?s5 ?s6 ?s7 ?s8 AV.out).mono ?_); (case s1 => exact Kd.C_below HR0_1.out HB.out); (case s2 => exact HC0_1.out); (case s3 => exact Kd.C_below HR0_2.out HB.out); (case s4 => exact HC0_2.out); (case s5 => exact Kd.C_below HR0_3.out HB.out); (case s6 => exact HC0_3.out); (case s7 => exact Kd.C_below HR0_4.out HB.out); (case s8 => exact HC0_4.out); rintro e w6 ⟨rfl, hb⟩; refine ⟨_, rfl, ?_⟩; have n0_ := zA (blk_below BG.out hb); have n1_ := zA (below_step HB.out hb); clear BG HB; have BG := n0_; have HB := n1_; clear n0_ n1_; clear hb; obtain ⟨hd0, hd1, hd2, hd3, hd4, hg0, hg1, hg2, hg3, hg4⟩ := zh5 BG.out) | (go_at_call 34; refine (impl_Reach.contains _ _ l1 a0_0 #[.int .i64 a0_0, .slice A0_1 l0_1.length c0_1, .slice A0_2 l0_2.length c0_2, .slice A0_3 l0_3.length c0_3, .slice A0_4 l0_4.length c0_4] gbG _ (Kd.C_below HR1.out HB.out) HL1.out BG.out rfl).mono ?_; rintro e w7 ⟨rfl, hb⟩; rw [AN.out]; have n0_ := zA (blk_below BG.out hb); have n1_ := zA (below_step HB.out hb); clear BG HB; have BG := n0_; have HB := n1_; clear n0_ n1_; clear hb; obtain ⟨hd0, hd1, hd2, hd3, hd4, hg0, hg1, hg2, hg3, hg4⟩ := zh5 BG.out))
     go_ret2
     exact ⟨_, rfl, Kd.R_nil _ _ _ _ _, HB.out⟩
    | false =>
     rw [an, if_neg (by decide)] at H
     have AN := zA an
     clear an
     replace H := Option.bind_eq_some_iff.mp H
     obtain ⟨s, hv, H⟩ := H
     replace H := Option.bind_eq_some_iff.mp H
     obtain ⟨out, hb0, H⟩ := H
     injection H with H
     injection H with e1 e2
     subst e1 e2
     have HV := zA hv
     have HF := zA hb0
     clear hv hb0
     go_enter Try.func16, Try.ntmps16
     go_wp2_with (first | ((with_reducible refine gate_dst (N := 2) rfl ?_); refine box_event ?hg (N := 2) ?hd (cs := #[.int .i64 a0_0, .slice A0_1 l0_1.length c0_1, .slice A0_2 l0_2.length c0_2, .slice A0_3 l0_3.length c0_3, .slice A0_4 l0_4.length c0_4]) (t := 26) ?hr ?_; (case hd => rfl); (case hg => rfl); (case hr => first | (go_simp; done) | (go_simp; rfl)); intro gbG hg w4 hbox hb; have BG := zA hbox; have GG := zA ((by rw [hg]; exact (below_size z_) : w.heap.size ≤ gbG)); have n0_ := zA (below_step z_ hb); clear HB; have HB := n0_; clear n0_ hb hbox hg; obtain ⟨hc0, hc1, hc2, hc3, hc4, hf0, hf1, hf2, hf3, hf4⟩ := zh5 BG.out) | ((with_reducible refine gate_callee (f := 31) rfl ?_); refine goesL_ (some 16) rfl rfl Try.func31 (by kernel_rfl) rfl #[.agg #[.int .i64 a0_0, .slice A0_1 l0_1.length c0_1, .slice A0_2 l0_2.length c0_2, .slice A0_3 l0_3.length c0_3, .slice A0_4 l0_4.length c0_4]] rfl za ?_; (with_reducible refine (impl_ValidGraph.calls k a0_0 _ _ l0_1 _ _ l0_2 _ _ l0_3 _ _ l0_4 true _ ?s1 ?s2 ?s3 ?s4 ?s5 ?s6 ?s7 ?s8 AV.out).mono ?_); (case s1 => exact Kd.C_below HR0_1.out HB.out); (case s2 => exact HC0_1.out); (case s3 => exact Kd.C_below HR0_2.out HB.out); (case s4 => exact HC0_2.out); (case s5 => exact Kd.C_below HR0_3.out HB.out); (case s6 => exact HC0_3.out); (case s7 => exact Kd.C_below HR0_4.out HB.out); (case s8 => exact HC0_4.out); rintro e w6 ⟨rfl, hb⟩; refine ⟨_, rfl, ?_⟩; have n0_ := zA (blk_below BG.out hb); have n1_ := zA (below_step HB.out hb); clear BG HB; have BG := n0_; have HB := n1_; clear n0_ n1_; clear hb; obtain ⟨hd0, hd1, hd2, hd3, hd4, hg0, hg1, hg2, hg3, hg4⟩ := zh5 BG.out) | (go_at_call 34; refine (impl_Reach.contains _ _ l1 a0_0 #[.int .i64 a0_0, .slice A0_1 l0_1.length c0_1, .slice A0_2 l0_2.length c0_2, .slice A0_3 l0_3.length c0_3, .slice A0_4 l0_4.length c0_4] gbG _ (Kd.C_below HR1.out HB.out) HL1.out BG.out rfl).mono ?_; rintro e w7 ⟨rfl, hb⟩; rw [AN.out]; have n0_ := zA (blk_below BG.out hb); have n1_ := zA (below_step HB.out hb); clear BG HB; have BG := n0_; have HB := n1_; clear n0_ n1_; clear hb; obtain ⟨hd0, hd1, hd2, hd3, hd4, hg0, hg1, hg2, hg3, hg4⟩ := zh5 BG.out) | ((with_reducible refine gate_dst (N := 32) rfl ?_); refine Kd.R_make Kd.bool _ 4 rfl (N := 32) rfl 33 _ _ rfl a0_0 rfl rfl Try.underlying33 (.bool false) 1 info4 rfl (by decide) (by omega) false (ok := fun _ => True) (okp := fun _ => True) rfl (fun _ hk => hk) trivial (by have := N1.out; omega) (by have := N1.out; omega) (Below.refl _ _) (Nat.le_refl _) ?_; intro v8 w8 ho hb hg_ hnew_; clear hg_ hnew_; have HO := zA (Kd.R_lower ho (below_size HB.out)); have n0_ := zA (blk_below BG.out hb); have n1_ := zA (below_step HB.out hb); clear BG HB; have BG := n0_; have HB := n1_; clear n0_ n1_; clear hb ho; obtain ⟨go, co, ev, _, _, _, _⟩ := Kd.R_form HO.out (by rw [List.length_replicate]; have := N1.out; omega); rw [List.length_replicate] at ev; subst ev) | ((with_reducible refine gate_dst (N := 6) rfl ?_); refine box_event ?hg (N := 6) ?hd (cs := #[.slice none 0 0]) (t := 33) ?hr ?_; (case hd => rfl); (case hg => rfl); (case hr => first | (go_simp; done) | (go_simp; rfl)); intro b6 hg w9 hbox hb; have H6 := zA hbox; have G6 := zA ((by rw [hg]; exact (below_size HB.out) : w.heap.size ≤ b6)); have n0_ := zA (blk_below BG.out hb); have n1_ := zA (Kd.R_below HO.out hb); have n2_ := zA (below_step HB.out hb); clear BG HO HB; have BG := n0_; have HO := n1_; have HB := n2_; clear n0_ n1_ n2_; clear hb hbox hg; obtain ⟨hc6, hf6⟩ := zh1 H6.out) | ((with_reducible refine gate_dst (N := 34) rfl ?_); refine box_event ?hg (N := 34) ?hd (cs := #[.slice none 0 0]) (t := 60) ?hr ?_; (case hd => rfl); (case hg => rfl); (case hr => first | (go_simp; done) | (go_simp; rfl)); intro gr hg w10 hbox hb; have n9_ := zA (blk_below (blk_set H6.out 0 (.slice (some ⟨go, 0, none⟩) a0_0.toNat co)) hb); have HRR := zA hbox; have GR := zA ((by rw [hg]; exact (below_size (below_set HB.out G6.out)) : w.heap.size ≤ gr)); have n0_ := zA (blk_below (blk_far BG.out (blk_ne BG.out H6.out (by decide)) _) hb); have n1_ := zA (Kd.R_below (Kd.R_set HO.out H6.out (by decide) 0 (.slice (some ⟨go, 0, none⟩) a0_0.toNat co)) hb); have n2_ := zA (below_step (below_set HB.out G6.out) hb); clear BG HO HB; have BG := n0_; have HO := n1_; have HB := n2_; clear n0_ n1_ n2_; clear H6; have H6 := n9_; clear n9_ hb hbox hg) | ((with_reducible refine gate_dst (N := 7) rfl ?_); refine box_event ?hg (N := 7) ?hd (cs := #[.pointer none]) (t := 58) ?hr ?_; (case hd => rfl); (case hg => rfl); (case hr => first | (go_simp; done) | (go_simp; rfl)); intro b7 hg w11 hbox hb; have H7 := zA hbox; have G7 := zA ((by rw [hg]; exact (below_size HB.out) : w.heap.size ≤ b7)); have n0_ := zA (blk_below BG.out hb); have n1_ := zA (Kd.R_below HO.out hb); have n2_ := zA (blk_below H6.out hb); have n3_ := zA (blk_below HRR.out hb); have n4_ := zA (below_step HB.out hb); clear BG HO H6 HRR HB; have BG := n0_; have HO := n1_; have H6 := n2_; have HRR := n3_; have HB := n4_; clear n0_ n1_ n2_ n3_ n4_; clear hb hbox hg; obtain ⟨hc7, hf7⟩ := zh1 H7.out))
     have HS := zA (show impl_Reach.ST w (w11.setCell ⟨b7, 0, none⟩ (.pointer (some ⟨gr, 0, none⟩))) gbG #[.int .i64 a0_0, .slice A0_1 l0_1.length c0_1, .slice A0_2 l0_2.length c0_2, .slice A0_3 l0_3.length c0_3, .slice A0_4 l0_4.length c0_4] b6 b7 gr (List.replicate a0_0.toNat false, []) from ⟨go, co, .slice none 0 0, by (show _ = some (Obj.cells #[.slice (some ⟨go, 0, none⟩) (List.replicate a0_0.toNat false).length co] 33 (0, 0)); rw [List.length_replicate]; exact blk_far H6.out (blk_ne H6.out H7.out (by decide)) _), blk_put (cs := #[.pointer none]) H7.out 0 _ rfl, blk_far HRR.out (blk_ne HRR.out H7.out (by decide)) _, by (show Kd.R Kd.bool 4 _ _ _ (.slice (some ⟨go, 0, none⟩) (List.replicate a0_0.toNat false).length co) _; rw [List.length_replicate]; exact Kd.R_set HO.out H7.out (by decide) 0 _), Kd.Q_nil _ _ _ _ _, below_set HB.out G7.out, ⟨G6.out, G7.out, GR.out⟩, blk_far BG.out (blk_ne BG.out H7.out (by decide)) _⟩)
     have HV0 := zA (show impl_Reach.visits (l1.drop (0 : Int).toNat) (List.replicate a0_0.toNat false, []) = some s from HV.out)
     clear H6 H7 HRR HO BG HB HV hc0 hc1 hc2 hc3 hc4 hf0 hf1 hf2 hf3 hf4 hd0 hd1 hd2 hd3 hd4 hg0 hg1 hg2 hg3 hg4 hc6 hf6 hc7 hf7
     go_loopg [38] l1.length (fun kq v38 w' => ∃ (i : Int) (z : List Bool × List Int), v38 = .int .i64 i ∧ Aside0 (0 ≤ i ∧ (kq : Int) + i = l1.length) ∧ Aside0 (impl_Reach.visits (l1.drop i.toNat) z = some s) ∧ Aside0 (impl_Reach.ST w w' gbG #[.int .i64 a0_0, .slice A0_1 l0_1.length c0_1, .slice A0_2 l0_2.length c0_2, .slice A0_3 l0_3.length c0_3, .slice A0_4 l0_4.length c0_4] b6 b7 gr z))
     case atStart => exact ⟨0, _, rfl, ⟨by omega, by omega⟩, HV0, HS⟩
     case round =>
      clear HV0 HS
      obtain ⟨i, z, rfl, HI, HV, HS⟩ := hrel
      by_cases c39 : i < (l1.length : Int)
      ·have c39b : decide (i < (l1.length : Int)) = true := decide_eq_true c39
       have p39 : 0 ≤ i := HI.out.1
       have hv := HV.out
       rw [impl_Reach.visits_drop l1 i p39 c39] at hv
       obtain ⟨z', hz, hv2⟩ := Option.bind_eq_some_iff.mp hv
       have HZ := zA hz
       have HV2 := zA hv2
       obtain ⟨_, _, _, _, _, _, _, _, hB, _⟩ := HS.out
       obtain ⟨ad, eA, hx⟩ := Kd.at_int (Kd.C_below HR1.out hB) i p39 c39
       cases eA
       have J1 := zA c39
       clear hv hz hv2 hB HV
       obtain ⟨_, _, _, _, h7, _, _, _, _, _⟩ := HS.out
       obtain ⟨hc7, hf7⟩ := zh1 h7
       clear h7
       replace p39 := eq_true p39
       replace c39 := eq_true c39
       cases gk with
       | zero => exact absurd HI.out.2 (by have := J1.out; omega)
       | succ k1 =>
        go_wp2_with ((go_at_call 36; refine (impl_Reach.vis (rd l1 i) gbG _ b6 b7 gr z z' w _ HS.out HZ.out).mono ?_; rintro e w' ⟨rfl, hs⟩; have n0_ := zA hs; clear HS hs; have HS := n0_; clear n0_))
        go_roundg k1
        case measure => omega
        case rel => exact ⟨i + 1, z', by have := HI.out; have := HL1.out; rw [show wrap64 (i + 1) = i + 1 by unfold wrap64; omega], ⟨by have := HI.out; omega⟩, HV2, HS⟩
      ·have c39b : decide (i < (l1.length : Int)) = false := decide_eq_false c39
       have e : z = s := by
        have := HV.out
        rw [List.drop_eq_nil_of_le (by omega), impl_Reach.visits] at this
        exact Option.some.inj this
       subst e
       clear c39 HV
       obtain ⟨_, _, _, _, h7, _, _, _, _, _⟩ := HS.out
       obtain ⟨hc7, hf7⟩ := zh1 h7
       clear h7
       obtain ⟨o, q0⟩ := z
       go_wp2_with ((go_at_call 38; refine (impl_Reach.take gbG _ b6 b7 gr o q0 w _ HS.out).mono ?_; rintro e w' ⟨c, ok, q, rfl, hq, hs⟩; have n0_ := zA hs; have HQ := zA hq; clear HS hs hq; have HS := n0_; clear n0_))
       have HD := zA (show (ok = true ∧ impl_Reach.bfs l0_1 l0_2 (a0_0.toNat + 1) (o, c :: q) = some out) ∨ (ok = false ∧ o = out) from HQ.out.elim (fun h => .inl ⟨h.1, by rw [← h.2]; exact HF.out⟩) (fun h => .inr ⟨h.1, by have := HF.out; rw [h.2, impl_Reach.bfs] at this; exact Option.some.inj this⟩))
       clear HQ HF
       go_loopg [11, 12] (a0_0.toNat + 1) (fun kq v11 v12 w' => ∃ (c : Int) (ok : Bool) (o : List Bool) (q : List Int), v11 = .int .i64 c ∧ v12 = .bool ok ∧ Aside0 ((ok = true ∧ impl_Reach.bfs l0_1 l0_2 kq (o, c :: q) = some out) ∨ (ok = false ∧ o = out)) ∧ Aside0 (impl_Reach.ST w w' gbG #[.int .i64 a0_0, .slice A0_1 l0_1.length c0_1, .slice A0_2 l0_2.length c0_2, .slice A0_3 l0_3.length c0_3, .slice A0_4 l0_4.length c0_4] b6 b7 gr (o, q)))
       case atStart => exact ⟨c, ok, o, q, rfl, rfl, HD, HS⟩
       case round =>
        clear HD HS hc7 hf7
        rename_i c_ ok_ q_ _
        obtain ⟨c, ok, o, q, rfl, rfl, HD, HS⟩ := hrel
        cases ok with
        | false =>
         have e : o = out := by
          rcases HD.out with h | h
          ·exact absurd h.1 (by decide)
          ·exact h.2
         subst e
         obtain ⟨go, co, _, h6, _, _, ho, _, hB, _⟩ := HS.out
         have HO := zA ho
         have HB := zA hB
         obtain ⟨hc6, hf6⟩ := zh1 h6
         clear h6 ho hB HD
         go_wp2
         go_ret2
         exact ⟨_, rfl, HO.out, HB.out⟩
        | true =>
         have hb : impl_Reach.bfs l0_1 l0_2 gk (o, c :: q) = some out := by
          rcases HD.out with h | h
          ·exact h.2
          ·exact absurd h.1 (by decide)
         cases gk with
         | zero => exact absurd hb (by simp [impl_Reach.bfs])
         | succ k1 =>
          simp only [impl_Reach.bfs] at hb
          by_cases hg : 0 ≤ c ∧ c + 1 < l0_1.length ∧ 0 ≤ rd l0_1 c ∧ rd l0_1 c ≤ rd l0_1 (c + 1) ∧ rd l0_1 (c + 1) ≤ l0_2.length
          ·rw [if_pos hg] at hb
           obtain ⟨z', hz, hb2⟩ := Option.bind_eq_some_iff.mp hb
           have HZ := zA hz
           have HB2 := zA hb2
           clear hz hb2 hb HD
           obtain ⟨_, _, _, _, h7, _, _, _, hB, _, hG⟩ := HS.out
           obtain ⟨hc7, hf7⟩ := zh1 h7
           obtain ⟨hc0, hc1, hc2, hc3, hc4, hf0, hf1, hf2, hf3, hf4⟩ := zh5 hG
           obtain ⟨cn, ecn⟩ : ∃ cn, wrap64 (c + 1) = cn := ⟨_, rfl⟩
           obtain ⟨hg0, hg1, hg2, hg3, hg4⟩ := hg
           have ecn2 : cn = c + 1 := by
            have := N1.out
            rw [← ecn]; unfold wrap64; omega
           have hcw : IntKind.i64.wrap (c + 1) = cn := (i64_w _).trans ecn
           rw [← ecn2] at hg1 hg3 hg4 HZ
           obtain ⟨a, ea⟩ : ∃ a, a = rd l0_1 c := ⟨_, rfl⟩
           obtain ⟨b, eb⟩ : ∃ b, b = rd l0_1 cn := ⟨_, rfl⟩
           obtain ⟨ad, eA, hxa⟩ := Kd.at_int (Kd.C_below HR0_1.out hB) c hg0 (by omega)
           cases eA
           obtain ⟨ad2, eA2, hxb⟩ := Kd.at_int (Kd.C_below HR0_1.out hB) cn (by omega) hg1
           cases eA2
           rw [← ea] at hxa hg2 hg3 HZ
           rw [← eb] at hxb hg3 hg4 HZ
           have p1 : (0 ≤ c) = True := eq_true hg0
           have p2 : (c < (l0_1.length : Int)) = True := eq_true (by omega)
           have p3 : (0 ≤ cn) = True := eq_true (by omega)
           have p4 : (cn < (l0_1.length : Int)) = True := eq_true hg1
           obtain ⟨i0, hi0, _, hsz, _⟩ := info_parts info3
           obtain ⟨A', hcut, hrd, hlen⟩ := print_mid_int (k := .i64) 22 3 Try.underlying22 hi0 hsz A0_2 c0_2 l0_2 a b hg2 hg3 hg4 HC0_2.out
           obtain ⟨ns, ens⟩ : ∃ ns, ns = (l0_2.take b.toNat).drop a.toNat := ⟨_, rfl⟩
           rw [← ens] at hcut hrd hlen HZ
           have HNS := zA (show ∀ W, Below w.heap.size w W → Kd.C (Kd.int .i64) W A' ns.length ns from fun W hb => Kd.C_of_reads (h1 := fun _ => rfl) (hrd _ (Kd.reads_of_C (Kd.C_below HR0_2.out hb))))
           have NL := zA (show ns.length ≤ l0_2.length by rw [ens, List.length_drop, List.length_take]; omega)
           clear ens hrd hlen ea eb hg0 hg1 hg2 hg3 hg4 h7 hB hG hi0 hsz ecn ecn2
           go_wp2
           go_quiet (fail)
           go_wp2
           have n0_ := zA (impl_Reach.ST.below HS.out (pw_below_drewN (Below.refl _ _) nq))
           have HZ0 := zA (show impl_Reach.visits (ns.drop (0 : Int).toNat) (o, q) = some z' from HZ.out)
           clear HS HZ hc7 hf7 hc0 hc1 hc2 hc3 hc4 hf0 hf1 hf2 hf3 hf4 hxa hxb hcut hcw p1 p2 p3 p4
           have HS := n0_
           clear n0_
           go_loopg [72] ns.length (fun kq v72 w' => ∃ (i : Int) (z : List Bool × List Int), v72 = .int .i64 i ∧ Aside0 (0 ≤ i ∧ (kq : Int) + i = ns.length) ∧ Aside0 (impl_Reach.visits (ns.drop i.toNat) z = some z') ∧ Aside0 (impl_Reach.ST w w' gbG #[.int .i64 a0_0, .slice (some ad) l0_1.length c0_1, .slice A0_2 l0_2.length c0_2, .slice A0_3 l0_3.length c0_3, .slice A0_4 l0_4.length c0_4] b6 b7 gr z))
           case atStart => exact ⟨0, _, rfl, ⟨by omega, by omega⟩, HZ0, HS⟩
           case round =>
            clear HZ0 HS
            rename_i i_ _ _ _
            obtain ⟨i, z, rfl, HI, HV, HS⟩ := hrel
            by_cases c73 : i < (ns.length : Int)
            ·have c73b : decide (i < (ns.length : Int)) = true := decide_eq_true c73
             have p73 : 0 ≤ i := HI.out.1
             have hv := HV.out
             rw [impl_Reach.visits_drop ns i p73 c73] at hv
             obtain ⟨z2, hz, hv2⟩ := Option.bind_eq_some_iff.mp hv
             have HZ := zA hz
             have HV2 := zA hv2
             obtain ⟨_, _, _, _, h7, _, _, _, hB, _⟩ := HS.out
             obtain ⟨hc7, hf7⟩ := zh1 h7
             obtain ⟨ad3, eA, hx⟩ := Kd.at_int (HNS.out _ hB) i p73 c73
             cases eA
             have J1 := zA c73
             clear hv hz hv2 hB HV h7
             replace p73 := eq_true p73
             replace c73 := eq_true c73
             cases gk with
             | zero => exact absurd HI.out.2 (by have := J1.out; omega)
             | succ k2 =>
              go_wp2_with ((go_at_call 36; refine (impl_Reach.vis (rd ns i) gbG _ b6 b7 gr z z2 w _ HS.out HZ.out).mono ?_; rintro e w' ⟨rfl, hs⟩; have n0_ := zA hs; clear HS hs; have HS := n0_; clear n0_))
              go_roundg k2
              case measure => omega
              case rel => exact ⟨i + 1, z2, by have := HI.out; have := NL.out; have := N1.out; rw [show wrap64 (i + 1) = i + 1 by unfold wrap64; omega], ⟨by have := HI.out; omega⟩, HV2, HS⟩
            ·have c73b : decide (i < (ns.length : Int)) = false := decide_eq_false c73
             have e : z = z' := by
              have := HV.out
              rw [List.drop_eq_nil_of_le (by omega), impl_Reach.visits] at this
              exact Option.some.inj this
             subst e
             clear c73 HV
             obtain ⟨_, _, _, _, h7, _, _, _, _, _⟩ := HS.out
             obtain ⟨hc7, hf7⟩ := zh1 h7
             clear h7
             obtain ⟨o, q0⟩ := z
             go_wp2_with ((go_at_call 38; refine (impl_Reach.take gbG _ b6 b7 gr o q0 w _ HS.out).mono ?_; rintro e w' ⟨c, ok, q, rfl, hq, hs⟩; have n0_ := zA hs; have HQ := zA hq; clear HS hs hq; have HS := n0_; clear n0_))
             have HK := zA (show k1 ≠ 0 from fun e => by have := HB2.out; rw [e, impl_Reach.bfs] at this; cases this)
             have HD := zA (show (ok = true ∧ impl_Reach.bfs l0_1 l0_2 k1 (o, c :: q) = some out) ∨ (ok = false ∧ o = out) from HQ.out.elim (fun h => .inl ⟨h.1, by rw [← h.2]; exact HB2.out⟩) (fun h => .inr ⟨h.1, by have := HB2.out; rw [h.2, show k1 = (k1 - 1) + 1 from (by have := HK.out; omega), impl_Reach.bfs] at this; exact Option.some.inj this⟩))
             clear HQ HB2
             go_roundg k1
             case measure => omega
             case rel => exact ⟨c, ok, o, q, rfl, rfl, HD, HS⟩
          ·rw [if_neg hg] at hb; cases hb
  ·rw [if_neg n1] at H; cases H

/-! ### laws_eqBoolS: function 17 -/
def laws_eqBoolS.l0 : Nat → List Bool → List Bool → Int → Option (Bool)
 | 0, _, _, _ => none
 | k + 1, x0, x1, x5 => if x5 < (x0.length : Int) then (if 0 ≤ x5 then (if x5 < (x1.length : Int) then (if ((rdOf false x0 x5) != (rdOf false x1 x5)) = true then (some false) else (laws_eqBoolS.l0 k x0 x1 (wrap64 (x5 + 1)))) else (none)) else (none)) else (some true)
def laws_eqBoolS.f (k : Nat) (l0 : List Bool) (l1 : List Bool) : Option (Bool) := if (l0.length : Int) = (l1.length : Int) then (laws_eqBoolS.l0 k l0 l1 0) else (some false)
theorem laws_eqBoolS.mono_l : ∀ k, (∀ y0 y1 y2, LeO (laws_eqBoolS.l0 k y0 y1 y2) (laws_eqBoolS.l0 (k + 1) y0 y1 y2))
 | 0 => fun _ _ _ r h => by simp [laws_eqBoolS.l0] at h
 | k + 1 => by
  have ih0 := laws_eqBoolS.mono_l k
  ·intro y0 y1 y2
   unfold laws_eqBoolS.l0
   exact zm
theorem laws_eqBoolS.mono : ∀ a0 a1 k, LeO (laws_eqBoolS.f k a0 a1) (laws_eqBoolS.f (k + 1) a0 a1) := by
 intro a0 a1 k
 have ih0 := laws_eqBoolS.mono_l k
 unfold laws_eqBoolS.f
 exact zm
set_option maxHeartbeats 8000000 in
set_option maxRecDepth 100000 in
theorem laws_eqBoolS.calls (k : Nat) (A0 : Option Addr) (c0 : Nat) (l0 : List Bool) (A1 : Option Addr) (c1 : Nat) (l1 : List Bool) (r : Bool) (w : World) (hr0 : Kd.C Kd.bool w A0 l0.length l0) (hc0 : l0.length ≤ c0) (hr1 : Kd.C Kd.bool w A1 l1.length l1) (hc1 : l1.length ≤ c1) (h : laws_eqBoolS.f k l0 l1 = some r) :
  Calls Try.prog 17 #[.slice A0 l0.length c0, .slice A1 l1.length c1] w fun e w' => e = .returned (.bool r) ∧ Drawn0 w w' := by
 have HR0 := zA hr0
 have HC0 := zA hc0
 clear hr0 hc0
 have HR1 := zA hr1
 have HC1 := zA hc1
 clear hr1 hc1
 have H : (if (l0.length : Int) = (l1.length : Int) then (laws_eqBoolS.l0 k l0 l1 0) else (some false)) = some r := h
 clear h
 by_cases c3 : (l0.length : Int) = (l1.length : Int)
 ·rw [if_pos c3] at H
  have c3b0 : ((l0.length : Int) == (l1.length : Int)) = true := beq_iff_eq.mpr c3
  have c3b1 : ((l0.length : Int) != (l1.length : Int)) = false := bne_eq_false_iff_eq.mpr c3
  have c3b2 : (l0.length == l1.length) = true := by first | simpa using c3 | (simp at c3 ⊢; omega)
  clear c3
  have H' := zA H
  clear H
  go_enter Try.func17, Try.ntmps17
  go_wp2
  repeat (go_quiet (fail); try go_wp2)
  go_loopg [5] k (fun kq v5 w' => ∃ (x5_1 : Int), v5 = .int .i64 x5_1 ∧ Aside0 (laws_eqBoolS.l0 kq l0 l1 x5_1 = some r) ∧ Aside0 (kq ≤ k) ∧ Drawn0 w w')
  case atStart => exact ⟨(0), zr, H', ⟨Nat.le_refl _⟩, by repeat (first | exact Drawn0.refl _ | apply Drawn0.step)⟩
  case round =>
   clear H'
   (try clear c1); (try clear p2); (try clear c3); (try clear c3b0); (try clear c3b1); (try clear c3b2)
   obtain ⟨x5_1, rfl, HA, HK1, ⟨m1, rfl⟩⟩ := hrel
   cases gk with
   | zero => exact absurd HA.out (by simp [laws_eqBoolS.l0])
   | succ k1 =>
    have H := HA.out
    clear HA
    simp only [laws_eqBoolS.l0] at H
    by_cases c4 : x5_1 < (l0.length : Int)
    ·rw [if_pos c4] at H
     have c4b0 : decide (x5_1 < (l0.length : Int)) = true := decide_eq_true c4
     clear c4
     by_cases c5 : 0 ≤ x5_1
     ·rw [if_pos c5] at H
      have c5b0 : decide (0 ≤ x5_1) = true := decide_eq_true c5
      clear c5
      by_cases c6 : x5_1 < (l1.length : Int)
      ·rw [if_pos c6] at H
       have c6b0 : decide (x5_1 < (l1.length : Int)) = true := decide_eq_true c6
       clear c6
       by_cases c7 : ((rdOf false l0 x5_1) != (rdOf false l1 x5_1)) = true
       ·rw [if_pos c7] at H
        have c7b0 : ((rdOf false l0 x5_1) != (rdOf false l1 x5_1)) = true := c7
        (try (have c7b1 : decide ((rdOf false l0 x5_1) = (rdOf false l1 x5_1)) = false := by simpa using c7))
        (try (have c7b2 : ((rdOf false l0 x5_1) == (rdOf false l1 x5_1)) = false := by simpa using c7))
        (try (have c7b3 : ¬ ((rdOf false l0 x5_1) = (rdOf false l1 x5_1)) := by simpa using c7))
        clear c7
        obtain rfl := Option.some.inj H
        have p201 : 0 ≤ (x5_1 : Int) := zd
        have q201 : x5_1 < (l0.length : Int) := zd
        obtain ⟨ad201, e201, hx201_0⟩ := Kd.at_bool HR0.out x5_1 p201 q201
        cases e201
        replace p201 := eq_true p201
        replace q201 := eq_true q201
        have p202 : 0 ≤ (x5_1 : Int) := zd
        have q202 : x5_1 < (l1.length : Int) := zd
        obtain ⟨ad202, e202, hx202_0⟩ := Kd.at_bool HR1.out x5_1 p202 q202
        cases e202
        replace p202 := eq_true p202
        replace q202 := eq_true q202
        go_wp2
        repeat (go_quiet (fail); try go_wp2)
        go_ret
        exact ⟨by first | rfl | (simp; done) | (simp [*]; done), by repeat (first | exact Drawn0.refl _ | apply Drawn0.step)⟩
       ·rw [if_neg c7] at H
        have c7b0 : ((rdOf false l0 x5_1) != (rdOf false l1 x5_1)) = false := by simpa using c7
        (try (have c7b1 : decide ((rdOf false l0 x5_1) = (rdOf false l1 x5_1)) = true := by simpa using c7))
        (try (have c7b2 : ((rdOf false l0 x5_1) == (rdOf false l1 x5_1)) = true := by simpa using c7))
        clear c7
        have H' := zA H
        clear H
        have p201 : 0 ≤ (x5_1 : Int) := zd
        have q201 : x5_1 < (l0.length : Int) := zd
        obtain ⟨ad201, e201, hx201_0⟩ := Kd.at_bool HR0.out x5_1 p201 q201
        cases e201
        replace p201 := eq_true p201
        replace q201 := eq_true q201
        have p202 : 0 ≤ (x5_1 : Int) := zd
        have q202 : x5_1 < (l1.length : Int) := zd
        obtain ⟨ad202, e202, hx202_0⟩ := Kd.at_bool HR1.out x5_1 p202 q202
        cases e202
        replace p202 := eq_true p202
        replace q202 := eq_true q202
        go_wp2
        repeat (go_quiet (fail); try go_wp2)
        go_roundg k1
        case measure => have := HK1.out; omega
        case rel => exact ⟨(wrap64 (x5_1 + 1)), zr, H', ⟨by have := HK1.out; omega⟩, by repeat (first | exact Drawn0.refl _ | apply Drawn0.step)⟩
      ·rw [if_neg c6] at H
       exact absurd H (by simp)
     ·rw [if_neg c5] at H
      exact absurd H (by simp)
    ·rw [if_neg c4] at H
     have c4b0 : decide (x5_1 < (l0.length : Int)) = false := decide_eq_false c4
     clear c4
     obtain rfl := Option.some.inj H
     go_wp2
     repeat (go_quiet (fail); try go_wp2)
     go_ret
     exact ⟨by first | rfl | (simp; done) | (simp [*]; done), by repeat (first | exact Drawn0.refl _ | apply Drawn0.step)⟩
 ·rw [if_neg c3] at H
  have c3b0 : ((l0.length : Int) == (l1.length : Int)) = false := beq_eq_false_iff_ne.mpr c3
  have c3b1 : ((l0.length : Int) != (l1.length : Int)) = true := bne_iff_ne.mpr c3
  have c3b2 : (l0.length == l1.length) = false := by first | simpa using c3 | (simp at c3 ⊢; omega)
  obtain rfl := Option.some.inj H
  go_enter Try.func17, Try.ntmps17
  go_wp2
  repeat (go_quiet (fail); try go_wp2)
  go_ret
  exact ⟨by first | rfl | (simp; done) | (simp [*]; done), by repeat (first | exact Drawn0.refl _ | apply Drawn0.step)⟩

/-! ### laws_markBoolS: function 20 -/
def laws_markBoolS.l0 : Nat → List Bool → Int → Int → Option (Int × List Bool)
 | 0, _, _, _ => none
 | k + 1, x0, x1, x5 => if x5 < (x0.length : Int) then (if 0 ≤ x5 then (laws_markBoolS.l0 k (x0.set (x5 : Int).toNat ((Int.tmod x1 3) == 0)) (wrap64 (x1 + 1)) (wrap64 (x5 + 1))) else (none)) else (some (x1, x0))
def laws_markBoolS.f (k : Nat) (l0 : List Bool) (a1 : Int) : Option (Int × List Bool) := laws_markBoolS.l0 k l0 a1 0
theorem laws_markBoolS.mono_l : ∀ k, (∀ y0 y1 y2, LeO (laws_markBoolS.l0 k y0 y1 y2) (laws_markBoolS.l0 (k + 1) y0 y1 y2))
 | 0 => fun _ _ _ r h => by simp [laws_markBoolS.l0] at h
 | k + 1 => by
  have ih0 := laws_markBoolS.mono_l k
  ·intro y0 y1 y2
   unfold laws_markBoolS.l0
   exact zm
theorem laws_markBoolS.mono : ∀ a0 a1 k, LeO (laws_markBoolS.f k a0 a1) (laws_markBoolS.f (k + 1) a0 a1) := by
 intro a0 a1 k
 have ih0 := laws_markBoolS.mono_l k
 unfold laws_markBoolS.f
 exact zm
set_option maxHeartbeats 8000000 in
set_option maxRecDepth 100000 in
theorem laws_markBoolS.calls (k : Nat) (P0_ : Nat → Prop) (u9000_ : Value) (l0 : List Bool) (a1 : Int) (r1 : Int) (r2 : List Bool) (w0 w : World) (hB : Below w0.heap.size w0 w) (ho0 : Kd.R Kd.bool 4 w w0.heap.size P0_ u9000_ l0) (h : laws_markBoolS.f k l0 a1 = some (r1, r2)) :
  Calls Try.prog 20 #[u9000_, .int .i64 a1] w fun e w' => e = .returned (.int .i64 r1) ∧ Kd.R Kd.bool 4 w' w0.heap.size (fun k_ => (P0_ k_ ∨ w.heap.size ≤ k_)) u9000_ r2 ∧ Below w0.heap.size w0 w' ∧ Kept w w' (fun k_ => P0_ k_) := by
 have HO0 := zA (show Kd.R Kd.bool 4 w w0.heap.size (fun k_ => (P0_ k_ ∨ w.heap.size ≤ k_)) u9000_ l0 from Kd.R_mono ho0 (fun k_ hk => (.inl hk)))
 have HK := zA (Kept.refl w (fun k_ => P0_ k_))
 have HW0 := zA hB.size
 have HB := zA hB
 clear hB
 have H : (laws_markBoolS.l0 k l0 a1 0) = some (r1, r2) := h
 clear h
 have H' := zA H
 clear H
 go_enter Try.func20, Try.ntmps20
 go_wp2
 go_loopg [1, 5] k (fun kq v1 v5 w' => ∃ (x0_1 : List Bool) (x1_1 : Int) (x5_1 : Int), v1 = .int .i64 x1_1 ∧ v5 = .int .i64 x5_1 ∧ Aside0 (laws_markBoolS.l0 kq x0_1 x1_1 x5_1 = some (r1, r2)) ∧ Aside0 (kq ≤ k) ∧ Aside0 (Kd.R Kd.bool 4 w' w0.heap.size (fun k_ => (P0_ k_ ∨ w.heap.size ≤ k_)) u9000_ x0_1) ∧ Aside0 (Kept w w' (fun k_ => P0_ k_)) ∧ Aside0 (Below w0.heap.size w0 w'))
 case atStart => exact ⟨(l0), (a1), (0), zr, zr, H', ⟨Nat.le_refl _⟩, ⟨zR HO0.out⟩, ⟨by repeat (first | (with_reducible first | exact HK.out | apply Kept.alloc | apply Kept.drewN | apply Kept.drew) | exact HK.out)⟩, ⟨z_⟩⟩
 case round =>
  clear H'
  (try clear c2); (try clear p2)
  obtain ⟨x0_1, x1_1, x5_1, rfl, rfl, HA, HK1, HO_0, HK, HB⟩ := hrel
  cases gk with
  | zero => exact absurd HA.out (by simp [laws_markBoolS.l0])
  | succ k1 =>
   have H := HA.out
   clear HA
   simp only [laws_markBoolS.l0] at H
   by_cases c3 : x5_1 < (x0_1.length : Int)
   ·rw [if_pos c3] at H
    have c3b0 : decide (x5_1 < (x0_1.length : Int)) = true := decide_eq_true c3
    clear c3
    by_cases c4 : 0 ≤ x5_1
    ·rw [if_pos c4] at H
     have c4b0 : decide (0 ≤ x5_1) = true := decide_eq_true c4
     clear c4
     obtain ⟨y203, hy203⟩ : ∃ y_ : List Bool, y_ = (x0_1.set (x5_1 : Int).toNat ((Int.tmod x1_1 3) == 0)) := ⟨_, rfl⟩
     replace H : (laws_markBoolS.l0 k1 y203 (wrap64 (x1_1 + 1)) (wrap64 (x5_1 + 1))) = some (r1, r2) := zh hy203
     have Ny203 := zA hy203
     clear hy203
     have H' := zA H
     clear H
     obtain ⟨Ao6, co6, eo6⟩ := Kd.R_slice HO_0.out
     subst eo6
     have p5 : 0 ≤ (x5_1 : Int) := zd
     have q5 : (x5_1 : Int) < ((x0_1.length : Int) : Int) := zd
     obtain ⟨go5, co5, eo5, gb5, gl5, cl5, HG5⟩ := Kd.R_form HO_0.out (by omega)
     (first | cases eo5 | (injection eo5 with ea_ en_ ec_; (first | subst ea_ | (injection ea_ with ea_; subst ea_)); subst ec_; clear en_))
     have GB5 := zA gb5
     have GG5 := zA HG5
     clear gb5 gl5 HG5
     have HMgo5 := zA (show (P0_ go5 ∨ w.heap.size ≤ go5) from (HO_0.out.1 _ rfl))
     obtain ⟨hx5_0, hf5_0⟩ := Kd.R_celln false HO_0.out (x5_1 : Int) p5 q5
     replace p5 := eq_true p5
     replace q5 := eq_true q5
     have HP7 := Kd.R_putg HO_0.out (x5_1 : Int) ((Int.tmod x1_1 3) == 0)
     go_wp2_with (first | ((with_reducible refine gate_store (t := 4) (p := 17) rfl ?_); refine store_event (t := 4) (p := 17) (v := ?vo_w8) (w1 := (wr.setCell ⟨go5, (x5_1 : Int).toNat, none⟩ (.bool ((Int.tmod x1_1 3) == 0)))) ?hg ?ho ?hn ?hr ?_; (case ho => rfl); (case hg => rfl); (case hn => rfl); (case hr => first | (go_simp; done) | (go_simp; rfl)); intro w8 hw; have hg : wr.grownBy w8 (some go5) := (by rw [hw]; exact HP7.2); have hp_ : Kd.R Kd.bool 4 w8 w0.heap.size (fun k_ => (P0_ k_ ∨ w.heap.size ≤ k_)) (.slice (some ⟨go5, 0, none⟩) x0_1.length co6) y203 := (by rw [hw, Ny203.out]; exact HP7.1); clear HP7; have n0_ := zA (hp_); have n1_ := zA ((by rw [hw]; exact below_set (HB.out) GB5.out : Below w0.heap.size w0 w8)); have n2_ := zA (Kept.of_grown (S := (fun k_ => P0_ k_)) hg (by repeat (first | (with_reducible first | exact HK.out | apply Kept.alloc | apply Kept.drewN | apply Kept.drew) | exact HK.out)) (fun k_ e_ => (HO_0.out.1 k_ e_))); clear HO_0 HB HK; have HO_0 := n0_; have HB := n1_; have HK := n2_; clear n0_ n1_ n2_; clear hg hw hp_))
     go_roundg k1
     case measure => have := HK1.out; omega
     case rel => exact ⟨(y203), (wrap64 (x1_1 + 1)), (wrap64 (x5_1 + 1)), zr, zr, H', ⟨by have := HK1.out; omega⟩, ⟨zR HO_0.out⟩, ⟨by repeat (first | (with_reducible first | exact HK.out | apply Kept.alloc | apply Kept.drewN | apply Kept.drew) | exact HK.out)⟩, ⟨z_⟩⟩
    ·rw [if_neg c4] at H
     exact absurd H (by simp)
   ·rw [if_neg c3] at H
    have c3b0 : decide (x5_1 < (x0_1.length : Int)) = false := decide_eq_false c3
    clear c3
    simp only [Option.some.injEq, Prod.mk.injEq] at H
    obtain ⟨rfl, rfl⟩ := H
    obtain ⟨Ao9, co9, eo9⟩ := Kd.R_slice HO_0.out
    subst eo9
    go_wp2
    go_ret
    exact ⟨ze, by (with_reducible repeat (first | apply Kd.R_alloc | apply Kd.R_drewN | apply Kd.R_drew)); exact HO_0.out, z_, by repeat (first | (with_reducible first | exact HK.out | apply Kept.alloc | apply Kept.drewN | apply Kept.drew) | exact HK.out)⟩

/-! ### laws_heldBoolS: function 21 -/
def laws_heldBoolS.l0 : Nat → List Bool → Int → Int → Option (Int)
 | 0, _, _, _ => none
 | k + 1, x0, x1, x5 => if x5 < (x0.length : Int) then (if 0 ≤ x5 then (if ((rdOf false x0 x5) != ((Int.tmod x1 3) == 0)) = true then (some (-1)) else (laws_heldBoolS.l0 k x0 (wrap64 (x1 + 1)) (wrap64 (x5 + 1)))) else (none)) else (some x1)
def laws_heldBoolS.f (k : Nat) (l0 : List Bool) (a1 : Int) : Option (Int) := laws_heldBoolS.l0 k l0 a1 0
theorem laws_heldBoolS.mono_l : ∀ k, (∀ y0 y1 y2, LeO (laws_heldBoolS.l0 k y0 y1 y2) (laws_heldBoolS.l0 (k + 1) y0 y1 y2))
 | 0 => fun _ _ _ r h => by simp [laws_heldBoolS.l0] at h
 | k + 1 => by
  have ih0 := laws_heldBoolS.mono_l k
  ·intro y0 y1 y2
   unfold laws_heldBoolS.l0
   exact zm
theorem laws_heldBoolS.mono : ∀ a0 a1 k, LeO (laws_heldBoolS.f k a0 a1) (laws_heldBoolS.f (k + 1) a0 a1) := by
 intro a0 a1 k
 have ih0 := laws_heldBoolS.mono_l k
 unfold laws_heldBoolS.f
 exact zm
set_option maxHeartbeats 8000000 in
set_option maxRecDepth 100000 in
theorem laws_heldBoolS.calls (k : Nat) (A0 : Option Addr) (c0 : Nat) (l0 : List Bool) (a1 : Int) (r : Int) (w : World) (hr0 : Kd.C Kd.bool w A0 l0.length l0) (hc0 : l0.length ≤ c0) (h : laws_heldBoolS.f k l0 a1 = some r) :
  Calls Try.prog 21 #[.slice A0 l0.length c0, .int .i64 a1] w fun e w' => e = .returned (.int .i64 r) ∧ Drawn0 w w' := by
 have HR0 := zA hr0
 have HC0 := zA hc0
 clear hr0 hc0
 have H : (laws_heldBoolS.l0 k l0 a1 0) = some r := h
 clear h
 have H' := zA H
 clear H
 go_enter Try.func21, Try.ntmps21
 go_wp2
 go_loopg [1, 5] k (fun kq v1 v5 w' => ∃ (x1_1 : Int) (x5_1 : Int), v1 = .int .i64 x1_1 ∧ v5 = .int .i64 x5_1 ∧ Aside0 (laws_heldBoolS.l0 kq l0 x1_1 x5_1 = some r) ∧ Aside0 (kq ≤ k) ∧ Drawn0 w w')
 case atStart => exact ⟨(a1), (0), zr, zr, H', ⟨Nat.le_refl _⟩, by repeat (first | exact Drawn0.refl _ | apply Drawn0.step)⟩
 case round =>
  clear H'
  (try clear c2); (try clear p2)
  obtain ⟨x1_1, x5_1, rfl, rfl, HA, HK1, ⟨m1, rfl⟩⟩ := hrel
  cases gk with
  | zero => exact absurd HA.out (by simp [laws_heldBoolS.l0])
  | succ k1 =>
   have H := HA.out
   clear HA
   simp only [laws_heldBoolS.l0] at H
   by_cases c3 : x5_1 < (l0.length : Int)
   ·rw [if_pos c3] at H
    have c3b0 : decide (x5_1 < (l0.length : Int)) = true := decide_eq_true c3
    clear c3
    by_cases c4 : 0 ≤ x5_1
    ·rw [if_pos c4] at H
     have c4b0 : decide (0 ≤ x5_1) = true := decide_eq_true c4
     clear c4
     by_cases c5 : ((rdOf false l0 x5_1) != ((Int.tmod x1_1 3) == 0)) = true
     ·rw [if_pos c5] at H
      have c5b0 : ((rdOf false l0 x5_1) != ((Int.tmod x1_1 3) == 0)) = true := c5
      (try (have c5b1 : decide ((rdOf false l0 x5_1) = ((Int.tmod x1_1 3) == 0)) = false := by simpa using c5))
      (try (have c5b2 : ((rdOf false l0 x5_1) == ((Int.tmod x1_1 3) == 0)) = false := by simpa using c5))
      (try (have c5b3 : ¬ ((rdOf false l0 x5_1) = ((Int.tmod x1_1 3) == 0)) := by simpa using c5))
      clear c5
      obtain rfl := Option.some.inj H
      have p204 : 0 ≤ (x5_1 : Int) := zd
      have q204 : x5_1 < (l0.length : Int) := zd
      obtain ⟨ad204, e204, hx204_0⟩ := Kd.at_bool HR0.out x5_1 p204 q204
      cases e204
      replace p204 := eq_true p204
      replace q204 := eq_true q204
      go_wp2
      go_ret
      exact ⟨by first | rfl | (simp; done) | (simp [*]; done), by repeat (first | exact Drawn0.refl _ | apply Drawn0.step)⟩
     ·rw [if_neg c5] at H
      have c5b0 : ((rdOf false l0 x5_1) != ((Int.tmod x1_1 3) == 0)) = false := by simpa using c5
      (try (have c5b1 : decide ((rdOf false l0 x5_1) = ((Int.tmod x1_1 3) == 0)) = true := by simpa using c5))
      (try (have c5b2 : ((rdOf false l0 x5_1) == ((Int.tmod x1_1 3) == 0)) = true := by simpa using c5))
      clear c5
      have H' := zA H
      clear H
      have p204 : 0 ≤ (x5_1 : Int) := zd
      have q204 : x5_1 < (l0.length : Int) := zd
      obtain ⟨ad204, e204, hx204_0⟩ := Kd.at_bool HR0.out x5_1 p204 q204
      cases e204
      replace p204 := eq_true p204
      replace q204 := eq_true q204
      go_wp2
      go_roundg k1
      case measure => have := HK1.out; omega
      case rel => exact ⟨(wrap64 (x1_1 + 1)), (wrap64 (x5_1 + 1)), zr, zr, H', ⟨by have := HK1.out; omega⟩, by repeat (first | exact Drawn0.refl _ | apply Drawn0.step)⟩
    ·rw [if_neg c4] at H
     exact absurd H (by simp)
   ·rw [if_neg c3] at H
    have c3b0 : decide (x5_1 < (l0.length : Int)) = false := decide_eq_false c3
    clear c3
    obtain rfl := Option.some.inj H
    go_wp2
    go_ret
    exact ⟨by first | rfl | (simp; done) | (simp [*]; done), by repeat (first | exact Drawn0.refl _ | apply Drawn0.step)⟩

end Go.Proofs.Ytiboccbaaphbhaa.PFnExactReach
