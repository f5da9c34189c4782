/- What the Go functions spec_SpanDiv compute: for each a Lean function with the same answers, and the contract that the Go code comes to them; under the condition that the Lean function answers. The text was written by the print program of the kit, parted and joined anew, and turned in places by a small program of this session. -/
import Derived.Test.YtalaiianaepcoaaSBase
import Derived.Test.YtalaiianaepcoaaSA
import Derived.Test.YtalaiianaepcoaaSFspecl2Over
import Derived.Test.YtalaiianaepcoaaSFspecl2Four
import Derived.Test.YtalaiianaepcoaaSFspecl2Fit
namespace Go.Proofs.Ytalaiianaepcoaa.S
open Go.RowKit Go.Proofs.YtalaiianaepcoaaW.PrintWords Go.Proofs.YtalaiianaepcoaaW.PrintLast Go.Proofs.YtalaiianaepcoaaW.PrintMore
attribute [local go_sem] max2_int min2_int max_two min_two max_three min_three max_four min_four   -- for this text's walks alone
set_option linter.unusedVariables false
set_option linter.unusedSimpArgs false

/-! ### spec_SpanDiv: function 51 -/
def spec_SpanDiv.j0 : Nat → Bool → Int → Int → Int → Int → Option (Int × Int × Bool)
  | 0, _, _, _, _, _ => none
  | k + 1, x35, x634000, x634001, x635000, x635001 => if x35 = true then (some (0, 0, false)) else ((spec_l2Over.f x634000 x635000).bind fun bt638 => ((spec_l2Over.f x634000 x635001).bind fun bt640 => ((spec_l2Over.f x634001 x635000).bind fun bt642 => ((spec_l2Over.f x634001 x635001).bind fun bt644 => ((spec_l2Four.f bt638.1 bt640.1 bt642.1 bt644.1).bind fun bt646 => ((spec_l2Four.f bt638.2 bt640.2 bt642.2 bt644.2).bind fun bt648 => ((spec_l2Fit.f bt646.1 bt648.2).bind fun bt650 => (some (bt650.1, bt650.2.1, bt650.2.2)))))))))
def spec_SpanDiv.f (k : Nat) (a0_0 : Int) (a0_1 : Int) (a1_0 : Int) (a1_1 : Int) : Option (Int × Int × Bool) := (spec_SpanOk.f a0_0 a0_1).bind fun t636 => (if t636 = true then ((spec_SpanOk.f a1_0 a1_1).bind fun t637 => (if t637 = true then (if a1_0 ≤ 0 then (spec_SpanDiv.j0 k (decide (a1_1 ≥ 0)) a0_0 a0_1 a1_0 a1_1) else (spec_SpanDiv.j0 k false a0_0 a0_1 a1_0 a1_1)) else (spec_SpanDiv.j0 k true a0_0 a0_1 a1_0 a1_1))) else (spec_SpanDiv.j0 k true a0_0 a0_1 a1_0 a1_1))
theorem spec_SpanDiv.mono_l : ∀ k, (∀ y0 y1 y2 y3 y4, LeO (spec_SpanDiv.j0 k y0 y1 y2 y3 y4) (spec_SpanDiv.j0 (k + 1) y0 y1 y2 y3 y4))
  | 0 => fun _ _ _ _ _ r h => by simp [spec_SpanDiv.j0] at h
  | k + 1 => by
    have ih0 := spec_SpanDiv.mono_l k
    · intro y0 y1 y2 y3 y4
      unfold spec_SpanDiv.j0
      repeat' first
      | (with_reducible exact ih0 _ _ _ _ _)
      | (with_reducible exact LeO.refl _)
      | (with_reducible exact LeO.none _)
      | (with_reducible refine LeO.ite ?_ ?_)
      | (with_reducible refine LeO.bind ?_ (fun _ => ?_))
      | exact ih0 _ _ _ _ _
      | exact LeO.none _
      | refine LeO.ite ?_ ?_
      | refine LeO.bind ?_ (fun _ => ?_)
theorem spec_SpanDiv.mono : ∀ a0 a1 a2 a3 k, LeO (spec_SpanDiv.f k a0 a1 a2 a3) (spec_SpanDiv.f (k + 1) a0 a1 a2 a3) := by
  intro a0 a1 a2 a3 k
  have ih0 := spec_SpanDiv.mono_l k
  unfold spec_SpanDiv.f
  repeat' first
      | (with_reducible exact ih0 _ _ _ _ _)
      | (with_reducible exact LeO.refl _)
      | (with_reducible exact LeO.none _)
      | (with_reducible refine LeO.ite ?_ ?_)
      | (with_reducible refine LeO.bind ?_ (fun _ => ?_))
      | exact ih0 _ _ _ _ _
      | exact LeO.none _
      | refine LeO.ite ?_ ?_
      | refine LeO.bind ?_ (fun _ => ?_)
set_option maxHeartbeats 8000000 in
set_option maxRecDepth 100000 in
theorem spec_SpanDiv.calls (k : Nat) (a0_0 : Int) (a0_1 : Int) (a1_0 : Int) (a1_1 : Int) (r1 : Int) (r2 : Int) (r3 : Bool) (w : World) (h : spec_SpanDiv.f k a0_0 a0_1 a1_0 a1_1 = some (r1, r2, r3)) :
    Calls Try.prog 51 #[.agg #[.int .i64 a0_0, .int .i64 a0_1], .agg #[.int .i64 a1_0, .int .i64 a1_1]] w fun e w' => e = .returned (.tuple #[.agg #[.int .i64 r1, .int .i64 r2], .bool r3]) ∧ Below w.heap.size w w' := by
  have hu25 := Try.underlying25
  have HB := Aside0.mk (Below.refl w.heap.size w)
  have H : ((spec_SpanOk.f a0_0 a0_1).bind fun t636 => (if t636 = true then ((spec_SpanOk.f a1_0 a1_1).bind fun t637 => (if t637 = true then (if a1_0 ≤ 0 then (spec_SpanDiv.j0 k (decide (a1_1 ≥ 0)) a0_0 a0_1 a1_0 a1_1) else (spec_SpanDiv.j0 k false a0_0 a0_1 a1_0 a1_1)) else (spec_SpanDiv.j0 k true a0_0 a0_1 a1_0 a1_1))) else (spec_SpanDiv.j0 k true a0_0 a0_1 a1_0 a1_1))) = some (r1, r2, r3) := h
  clear h
  have HC3 := Aside0.mk H
  clear H
  go_enter Try.func51, Try.ntmps51
  go_upto_region 1 with (first | ((with_reducible refine gate_dst (N := 2) rfl ?_); refine box_event ?hg (N := 2) ?hd (cs := #[.int .i64 a0_0, .int .i64 a0_1]) (t := 25) ?hr ?_; (case hd => rfl); (case hg => rfl); (case hr => first | (go_simp; done) | (go_simp; rfl)); intro gb633 hg w4 hbox hb; have n0_ := Aside0.mk (below_step (by repeat (first | (with_reducible first | exact HB.out | apply below_alloc | apply pw_below_drewN | apply below_drew1) | exact HB.out)) hb); have n1_ := Aside0.mk (hbox); have n2_ := Aside0.mk ((by rw [hg]; exact (below_size (by repeat (first | (with_reducible first | exact HB.out | apply below_alloc | apply pw_below_drewN | apply below_drew1) | exact HB.out))) : w.heap.size ≤ gb633)); have n3_ := n2_; clear HB; have HB := n0_; have BK633 := n1_; have GW633 := n2_; have GE633 := n3_; clear n0_ n1_ n2_ n3_; clear hb hbox hg) | ((with_reducible refine gate_dst (N := 3) rfl ?_); refine box_event ?hg (N := 3) ?hd (cs := #[.int .i64 a1_0, .int .i64 a1_1]) (t := 25) ?hr ?_; (case hd => rfl); (case hg => rfl); (case hr => first | (go_simp; done) | (go_simp; rfl)); intro gb634 hg w5 hbox hb; have n0_ := Aside0.mk (blk_below (g := gb633) (o := .cells #[.int .i64 a0_0, .int .i64 a0_1] 25 (0, 0)) (by (with_reducible repeat (first | refine blk_drewN ?_ _ | refine blk_drew ?_ | refine blk_alloc ?_ _)); exact BK633.out) hb); have n1_ := Aside0.mk (below_step (by repeat (first | (with_reducible first | exact HB.out | apply below_alloc | apply pw_below_drewN | apply below_drew1 | refine below_set ?_ GE633.out) | exact HB.out)) hb); have n2_ := Aside0.mk (hbox); have n3_ := Aside0.mk ((by rw [hg]; exact (below_size (by repeat (first | (with_reducible first | exact HB.out | apply below_alloc | apply pw_below_drewN | apply below_drew1 | refine below_set ?_ GE633.out) | exact HB.out))) : w.heap.size ≤ gb634)); have n4_ := n3_; have n5_ := Aside0.mk ((by rw [hg]; exact Nat.ne_of_lt (blk_lt (g := gb633) (o := .cells #[.int .i64 a0_0, .int .i64 a0_1] 25 (0, 0)) (by (with_reducible repeat (first | refine blk_drewN ?_ _ | refine blk_drew ?_ | refine blk_alloc ?_ _)); exact BK633.out)) : gb633 ≠ gb634)); have n6_ := Aside0.mk n5_.out.symm; clear BK633; clear HB; have BK633 := n0_; have HB := n1_; have BK634 := n2_; have GW634 := n3_; have GE634 := n4_; have NB633_634 := n5_; have NB634_633 := n6_; clear n0_ n1_ n2_ n3_ n4_ n5_ n6_; clear hb hbox hg) | ((with_reducible refine gate_dst (N := 4) rfl ?_); refine box_event ?hg (N := 4) ?hd (cs := #[.int .i64 0, .int .i64 0]) (t := 25) ?hr ?_; (case hd => rfl); (case hg => rfl); (case hr => first | (go_simp; done) | (go_simp; rfl)); intro gb635 hg w6 hbox hb; have n0_ := Aside0.mk (blk_below (g := gb633) (o := .cells #[.int .i64 a0_0, .int .i64 a0_1] 25 (0, 0)) (by (with_reducible repeat (first | refine blk_drewN ?_ _ | refine blk_drew ?_ | refine blk_alloc ?_ _)); exact BK633.out) hb); have n1_ := Aside0.mk (blk_below (g := gb634) (o := .cells #[.int .i64 a1_0, .int .i64 a1_1] 25 (0, 0)) (by (with_reducible repeat (first | refine blk_drewN ?_ _ | refine blk_drew ?_ | refine blk_alloc ?_ _)); exact BK634.out) hb); have n2_ := Aside0.mk (below_step (by repeat (first | (with_reducible first | exact HB.out | apply below_alloc | apply pw_below_drewN | apply below_drew1 | refine below_set ?_ GE633.out | refine below_set ?_ GE634.out) | exact HB.out)) hb); have n3_ := Aside0.mk (hbox); have n4_ := Aside0.mk ((by rw [hg]; exact (below_size (by repeat (first | (with_reducible first | exact HB.out | apply below_alloc | apply pw_below_drewN | apply below_drew1 | refine below_set ?_ GE633.out | refine below_set ?_ GE634.out) | exact HB.out))) : w.heap.size ≤ gb635)); have n5_ := n4_; have n6_ := Aside0.mk ((by rw [hg]; exact Nat.ne_of_lt (blk_lt (g := gb633) (o := .cells #[.int .i64 a0_0, .int .i64 a0_1] 25 (0, 0)) (by (with_reducible repeat (first | refine blk_drewN ?_ _ | refine blk_drew ?_ | refine blk_alloc ?_ _)); exact BK633.out)) : gb633 ≠ gb635)); have n7_ := Aside0.mk n6_.out.symm; have n8_ := Aside0.mk ((by rw [hg]; exact Nat.ne_of_lt (blk_lt (g := gb634) (o := .cells #[.int .i64 a1_0, .int .i64 a1_1] 25 (0, 0)) (by (with_reducible repeat (first | refine blk_drewN ?_ _ | refine blk_drew ?_ | refine blk_alloc ?_ _)); exact BK634.out)) : gb634 ≠ gb635)); have n9_ := Aside0.mk n8_.out.symm; clear BK633; clear BK634; clear HB; have BK633 := n0_; have BK634 := n1_; have HB := n2_; have BK635 := n3_; have GW635 := n4_; have GE635 := n5_; have NB633_635 := n6_; have NB635_633 := n7_; have NB634_635 := n8_; have NB635_634 := n9_; clear n0_ n1_ n2_ n3_ n4_ n5_ n6_ n7_ n8_ n9_; clear hb hbox hg))
  (try simp only [Act.put, List.setIfInBounds_toArray, List.set_cons_zero, List.set_cons_succ])
  go_cut [35] (fun v35 wc => ∃ (kq : Nat) (x35_2 : Bool), v35 = .bool x35_2 ∧ Aside0 (spec_SpanDiv.j0 kq x35_2 a0_0 a0_1 a1_0 a1_1 = some (r1, r2, r3)) ∧ Aside0 (kq ≤ k) ∧ Aside0 (wc.heap[gb633]? = some (.cells #[.int .i64 a0_0, .int .i64 a0_1] 25 (0, 0))) ∧ Aside0 (wc.heap[gb634]? = some (.cells #[.int .i64 a1_0, .int .i64 a1_1] 25 (0, 0))) ∧ Aside0 (wc.heap[gb635]? = some (.cells #[.int .i64 0, .int .i64 0] 25 (0, 0))) ∧ Aside0 (Below w.heap.size w wc))
  case first =>
    have H := HC3.out
    clear HC3
    replace H := Option.bind_eq_some_iff.mp H
    obtain ⟨t636, A70, H⟩ := H
    replace H : (if t636 = true then ((spec_SpanOk.f a1_0 a1_1).bind fun t637 => (if t637 = true then (if a1_0 ≤ 0 then (spec_SpanDiv.j0 k (decide (a1_1 ≥ 0)) a0_0 a0_1 a1_0 a1_1) else (spec_SpanDiv.j0 k false a0_0 a0_1 a1_0 a1_1)) else (spec_SpanDiv.j0 k true a0_0 a0_1 a1_0 a1_1))) else (spec_SpanDiv.j0 k true a0_0 a0_1 a1_0 a1_1)) = some (r1, r2, r3) := H
    have A7 := Aside0.mk A70
    clear A70
    by_cases c8 : t636 = true
    · subst c8
      have H1 : ((spec_SpanOk.f a1_0 a1_1).bind fun t637 => (if t637 = true then (if a1_0 ≤ 0 then (spec_SpanDiv.j0 k (decide (a1_1 ≥ 0)) a0_0 a0_1 a1_0 a1_1) else (spec_SpanDiv.j0 k false a0_0 a0_1 a1_0 a1_1)) else (spec_SpanDiv.j0 k true a0_0 a0_1 a1_0 a1_1))) = some (r1, r2, r3) := by rw [if_pos rfl] at H; exact H
      clear H
      have H := H1
      clear H1
      replace H := Option.bind_eq_some_iff.mp H
      obtain ⟨t637, A90, H⟩ := H
      replace H : (if t637 = true then (if a1_0 ≤ 0 then (spec_SpanDiv.j0 k (decide (a1_1 ≥ 0)) a0_0 a0_1 a1_0 a1_1) else (spec_SpanDiv.j0 k false a0_0 a0_1 a1_0 a1_1)) else (spec_SpanDiv.j0 k true a0_0 a0_1 a1_0 a1_1)) = some (r1, r2, r3) := H
      have A9 := Aside0.mk A90
      clear A90
      by_cases c10 : t637 = true
      · subst c10
        have H1 : (if a1_0 ≤ 0 then (spec_SpanDiv.j0 k (decide (a1_1 ≥ 0)) a0_0 a0_1 a1_0 a1_1) else (spec_SpanDiv.j0 k false a0_0 a0_1 a1_0 a1_1)) = some (r1, r2, r3) := by rw [if_pos rfl] at H; exact H
        clear H
        have H := H1
        clear H1
        by_cases c11 : a1_0 ≤ 0
        · rw [if_pos c11] at H
          have c11b0 : decide (a1_0 ≤ 0) = true := decide_eq_true c11
          clear c11
          (first | rw [c11b0] | (simp only [i64_w, i32_w]; rw [c11b0]) | skip)
          have H' := Aside0.mk H
          clear H
          have hnb12 := NB633_634.out
          have hnc12 := NB634_633.out
          have hnb13 := NB633_635.out
          have hnc13 := NB635_633.out
          have hcz14_0 : w6.cell? ⟨gb633, 0, none⟩ = some (.int .i64 a0_0) := (blk_cell BK633.out 0).trans rfl
          have hcz14_1 : w6.cell? ⟨gb633, 1, none⟩ = some (.int .i64 a0_1) := (blk_cell BK633.out 1).trans rfl
          have hfz14_0 := blk_frozen BK633.out 0
          have hfz14_1 := blk_frozen BK633.out 1
          go_wp2_with (first | ((with_reducible refine gate_callee (f := 66) rfl ?_); refine goesL_ (some 19) rfl rfl Try.func66 (by kernel_rfl) rfl #[.agg #[.int .i64 a0_0, .int .i64 a0_1]] rfl (by (try simp only [List.map_toArray, List.map_cons, List.map_nil]); first | done | rfl | (simp only [List.length_drop, List.length_take]; rfl)) ?_; (with_reducible refine (spec_SpanOk.calls a0_0 a0_1 true _ A7.out).mono ?_); rintro e w15 ⟨rfl, hb⟩; refine ⟨_, rfl, ?_⟩; have n0_ := Aside0.mk (blk_below (g := gb633) (o := .cells #[.int .i64 a0_0, .int .i64 a0_1] 25 (0, 0)) (by (with_reducible repeat (first | refine blk_drewN ?_ _ | refine blk_drew ?_ | refine blk_alloc ?_ _)); exact BK633.out) hb); have n1_ := Aside0.mk (blk_below (g := gb634) (o := .cells #[.int .i64 a1_0, .int .i64 a1_1] 25 (0, 0)) (by (with_reducible repeat (first | refine blk_drewN ?_ _ | refine blk_drew ?_ | refine blk_alloc ?_ _)); exact BK634.out) hb); have n2_ := Aside0.mk (blk_below (g := gb635) (o := .cells #[.int .i64 0, .int .i64 0] 25 (0, 0)) (by (with_reducible repeat (first | refine blk_drewN ?_ _ | refine blk_drew ?_ | refine blk_alloc ?_ _)); exact BK635.out) hb); have n3_ := Aside0.mk (below_step (by repeat (first | (with_reducible first | exact HB.out | apply below_alloc | apply pw_below_drewN | apply below_drew1 | refine below_set ?_ GE633.out | refine below_set ?_ GE634.out | refine below_set ?_ GE635.out) | exact HB.out)) hb); clear BK633; clear BK634; clear BK635; clear HB; have BK633 := n0_; have BK634 := n1_; have BK635 := n2_; have HB := n3_; clear n0_ n1_ n2_ n3_; (try clear hb); (try clear hb2); (try clear hk); (try clear hi); have hnb16 := NB634_635.out; have hnc16 := NB635_634.out; have hcz17_0 : w15.cell? ⟨gb634, 0, none⟩ = some (.int .i64 a1_0) := (blk_cell BK634.out 0).trans rfl; have hcz17_1 : w15.cell? ⟨gb634, 1, none⟩ = some (.int .i64 a1_1) := (blk_cell BK634.out 1).trans rfl; have hfz17_0 := blk_frozen BK634.out 0; have hfz17_1 := blk_frozen BK634.out 1) | (go_at_call 66; (with_reducible refine (spec_SpanOk.calls a1_0 a1_1 true _ A9.out).mono ?_); rintro e w18 ⟨rfl, hb⟩; have n0_ := Aside0.mk (blk_below (g := gb633) (o := .cells #[.int .i64 a0_0, .int .i64 a0_1] 25 (0, 0)) (by (with_reducible repeat (first | refine blk_drewN ?_ _ | refine blk_drew ?_ | refine blk_alloc ?_ _)); exact BK633.out) hb); have n1_ := Aside0.mk (blk_below (g := gb634) (o := .cells #[.int .i64 a1_0, .int .i64 a1_1] 25 (0, 0)) (by (with_reducible repeat (first | refine blk_drewN ?_ _ | refine blk_drew ?_ | refine blk_alloc ?_ _)); exact BK634.out) hb); have n2_ := Aside0.mk (blk_below (g := gb635) (o := .cells #[.int .i64 0, .int .i64 0] 25 (0, 0)) (by (with_reducible repeat (first | refine blk_drewN ?_ _ | refine blk_drew ?_ | refine blk_alloc ?_ _)); exact BK635.out) hb); have n3_ := Aside0.mk (below_step (by repeat (first | (with_reducible first | exact HB.out | apply below_alloc | apply pw_below_drewN | apply below_drew1 | refine below_set ?_ GE633.out | refine below_set ?_ GE634.out | refine below_set ?_ GE635.out) | exact HB.out)) hb); clear BK633; clear BK634; clear BK635; clear HB; have BK633 := n0_; have BK634 := n1_; have BK635 := n2_; have HB := n3_; clear n0_ n1_ n2_ n3_; (try clear hb); (try clear hb2); (try clear hk); (try clear hi); have hcz19_0 : w18.cell? ⟨gb634, 0, none⟩ = some (.int .i64 a1_0) := (blk_cell BK634.out 0).trans rfl; have hcz19_1 : w18.cell? ⟨gb634, 1, none⟩ = some (.int .i64 a1_1) := (blk_cell BK634.out 1).trans rfl; have hfz19_0 := blk_frozen BK634.out 0; have hfz19_1 := blk_frozen BK634.out 1))
          go_meet
          case rel => exact ⟨_, (decide (a1_1 ≥ 0)), (by first | rfl | (simp; done) | (simp [*]; done)), H', ⟨by first | omega | exact Nat.le_refl _⟩, ⟨by (with_reducible repeat (first | refine blk_drewN ?_ _ | refine blk_drew ?_ | refine blk_alloc ?_ _)); exact BK633.out⟩, ⟨by (with_reducible repeat (first | refine blk_drewN ?_ _ | refine blk_drew ?_ | refine blk_alloc ?_ _)); exact BK634.out⟩, ⟨by (with_reducible repeat (first | refine blk_drewN ?_ _ | refine blk_drew ?_ | refine blk_alloc ?_ _)); exact BK635.out⟩, ⟨by repeat (first | (with_reducible first | exact HB.out | apply below_alloc | apply pw_below_drewN | apply below_drew1 | refine below_set ?_ GE633.out | refine below_set ?_ GE634.out | refine below_set ?_ GE635.out) | exact HB.out)⟩⟩
        · rw [if_neg c11] at H
          have c11b0 : decide (a1_0 ≤ 0) = false := decide_eq_false c11
          clear c11
          (first | rw [c11b0] | (simp only [i64_w, i32_w]; rw [c11b0]) | skip)
          have H' := Aside0.mk H
          clear H
          have hnb20 := NB633_634.out
          have hnc20 := NB634_633.out
          have hnb21 := NB633_635.out
          have hnc21 := NB635_633.out
          have hcz22_0 : w6.cell? ⟨gb633, 0, none⟩ = some (.int .i64 a0_0) := (blk_cell BK633.out 0).trans rfl
          have hcz22_1 : w6.cell? ⟨gb633, 1, none⟩ = some (.int .i64 a0_1) := (blk_cell BK633.out 1).trans rfl
          have hfz22_0 := blk_frozen BK633.out 0
          have hfz22_1 := blk_frozen BK633.out 1
          go_wp2_with (first | ((with_reducible refine gate_callee (f := 66) rfl ?_); refine goesL_ (some 19) rfl rfl Try.func66 (by kernel_rfl) rfl #[.agg #[.int .i64 a0_0, .int .i64 a0_1]] rfl (by (try simp only [List.map_toArray, List.map_cons, List.map_nil]); first | done | rfl | (simp only [List.length_drop, List.length_take]; rfl)) ?_; (with_reducible refine (spec_SpanOk.calls a0_0 a0_1 true _ A7.out).mono ?_); rintro e w23 ⟨rfl, hb⟩; refine ⟨_, rfl, ?_⟩; have n0_ := Aside0.mk (blk_below (g := gb633) (o := .cells #[.int .i64 a0_0, .int .i64 a0_1] 25 (0, 0)) (by (with_reducible repeat (first | refine blk_drewN ?_ _ | refine blk_drew ?_ | refine blk_alloc ?_ _)); exact BK633.out) hb); have n1_ := Aside0.mk (blk_below (g := gb634) (o := .cells #[.int .i64 a1_0, .int .i64 a1_1] 25 (0, 0)) (by (with_reducible repeat (first | refine blk_drewN ?_ _ | refine blk_drew ?_ | refine blk_alloc ?_ _)); exact BK634.out) hb); have n2_ := Aside0.mk (blk_below (g := gb635) (o := .cells #[.int .i64 0, .int .i64 0] 25 (0, 0)) (by (with_reducible repeat (first | refine blk_drewN ?_ _ | refine blk_drew ?_ | refine blk_alloc ?_ _)); exact BK635.out) hb); have n3_ := Aside0.mk (below_step (by repeat (first | (with_reducible first | exact HB.out | apply below_alloc | apply pw_below_drewN | apply below_drew1 | refine below_set ?_ GE633.out | refine below_set ?_ GE634.out | refine below_set ?_ GE635.out) | exact HB.out)) hb); clear BK633; clear BK634; clear BK635; clear HB; have BK633 := n0_; have BK634 := n1_; have BK635 := n2_; have HB := n3_; clear n0_ n1_ n2_ n3_; (try clear hb); (try clear hb2); (try clear hk); (try clear hi); have hnb24 := NB634_635.out; have hnc24 := NB635_634.out; have hcz25_0 : w23.cell? ⟨gb634, 0, none⟩ = some (.int .i64 a1_0) := (blk_cell BK634.out 0).trans rfl; have hcz25_1 : w23.cell? ⟨gb634, 1, none⟩ = some (.int .i64 a1_1) := (blk_cell BK634.out 1).trans rfl; have hfz25_0 := blk_frozen BK634.out 0; have hfz25_1 := blk_frozen BK634.out 1) | (go_at_call 66; (with_reducible refine (spec_SpanOk.calls a1_0 a1_1 true _ A9.out).mono ?_); rintro e w26 ⟨rfl, hb⟩; have n0_ := Aside0.mk (blk_below (g := gb633) (o := .cells #[.int .i64 a0_0, .int .i64 a0_1] 25 (0, 0)) (by (with_reducible repeat (first | refine blk_drewN ?_ _ | refine blk_drew ?_ | refine blk_alloc ?_ _)); exact BK633.out) hb); have n1_ := Aside0.mk (blk_below (g := gb634) (o := .cells #[.int .i64 a1_0, .int .i64 a1_1] 25 (0, 0)) (by (with_reducible repeat (first | refine blk_drewN ?_ _ | refine blk_drew ?_ | refine blk_alloc ?_ _)); exact BK634.out) hb); have n2_ := Aside0.mk (blk_below (g := gb635) (o := .cells #[.int .i64 0, .int .i64 0] 25 (0, 0)) (by (with_reducible repeat (first | refine blk_drewN ?_ _ | refine blk_drew ?_ | refine blk_alloc ?_ _)); exact BK635.out) hb); have n3_ := Aside0.mk (below_step (by repeat (first | (with_reducible first | exact HB.out | apply below_alloc | apply pw_below_drewN | apply below_drew1 | refine below_set ?_ GE633.out | refine below_set ?_ GE634.out | refine below_set ?_ GE635.out) | exact HB.out)) hb); clear BK633; clear BK634; clear BK635; clear HB; have BK633 := n0_; have BK634 := n1_; have BK635 := n2_; have HB := n3_; clear n0_ n1_ n2_ n3_; (try clear hb); (try clear hb2); (try clear hk); (try clear hi); have hcz27_0 : w26.cell? ⟨gb634, 0, none⟩ = some (.int .i64 a1_0) := (blk_cell BK634.out 0).trans rfl; have hcz27_1 : w26.cell? ⟨gb634, 1, none⟩ = some (.int .i64 a1_1) := (blk_cell BK634.out 1).trans rfl; have hfz27_0 := blk_frozen BK634.out 0; have hfz27_1 := blk_frozen BK634.out 1))
          go_meet
          case rel => exact ⟨_, (false), (by first | rfl | (simp; done) | (simp [*]; done)), H', ⟨by first | omega | exact Nat.le_refl _⟩, ⟨by (with_reducible repeat (first | refine blk_drewN ?_ _ | refine blk_drew ?_ | refine blk_alloc ?_ _)); exact BK633.out⟩, ⟨by (with_reducible repeat (first | refine blk_drewN ?_ _ | refine blk_drew ?_ | refine blk_alloc ?_ _)); exact BK634.out⟩, ⟨by (with_reducible repeat (first | refine blk_drewN ?_ _ | refine blk_drew ?_ | refine blk_alloc ?_ _)); exact BK635.out⟩, ⟨by repeat (first | (with_reducible first | exact HB.out | apply below_alloc | apply pw_below_drewN | apply below_drew1 | refine below_set ?_ GE633.out | refine below_set ?_ GE634.out | refine below_set ?_ GE635.out) | exact HB.out)⟩⟩
      · replace c10 := Bool.eq_false_iff.mpr c10
        subst c10
        have H1 : (spec_SpanDiv.j0 k true a0_0 a0_1 a1_0 a1_1) = some (r1, r2, r3) := by rw [if_neg (show ¬ (false = true) by decide)] at H; exact H
        clear H
        have H := H1
        clear H1
        have H' := Aside0.mk H
        clear H
        have hnb28 := NB633_634.out
        have hnc28 := NB634_633.out
        have hnb29 := NB633_635.out
        have hnc29 := NB635_633.out
        have hcz30_0 : w6.cell? ⟨gb633, 0, none⟩ = some (.int .i64 a0_0) := (blk_cell BK633.out 0).trans rfl
        have hcz30_1 : w6.cell? ⟨gb633, 1, none⟩ = some (.int .i64 a0_1) := (blk_cell BK633.out 1).trans rfl
        have hfz30_0 := blk_frozen BK633.out 0
        have hfz30_1 := blk_frozen BK633.out 1
        go_wp2_with (first | ((with_reducible refine gate_callee (f := 66) rfl ?_); refine goesL_ (some 19) rfl rfl Try.func66 (by kernel_rfl) rfl #[.agg #[.int .i64 a0_0, .int .i64 a0_1]] rfl (by (try simp only [List.map_toArray, List.map_cons, List.map_nil]); first | done | rfl | (simp only [List.length_drop, List.length_take]; rfl)) ?_; (with_reducible refine (spec_SpanOk.calls a0_0 a0_1 true _ A7.out).mono ?_); rintro e w31 ⟨rfl, hb⟩; refine ⟨_, rfl, ?_⟩; have n0_ := Aside0.mk (blk_below (g := gb633) (o := .cells #[.int .i64 a0_0, .int .i64 a0_1] 25 (0, 0)) (by (with_reducible repeat (first | refine blk_drewN ?_ _ | refine blk_drew ?_ | refine blk_alloc ?_ _)); exact BK633.out) hb); have n1_ := Aside0.mk (blk_below (g := gb634) (o := .cells #[.int .i64 a1_0, .int .i64 a1_1] 25 (0, 0)) (by (with_reducible repeat (first | refine blk_drewN ?_ _ | refine blk_drew ?_ | refine blk_alloc ?_ _)); exact BK634.out) hb); have n2_ := Aside0.mk (blk_below (g := gb635) (o := .cells #[.int .i64 0, .int .i64 0] 25 (0, 0)) (by (with_reducible repeat (first | refine blk_drewN ?_ _ | refine blk_drew ?_ | refine blk_alloc ?_ _)); exact BK635.out) hb); have n3_ := Aside0.mk (below_step (by repeat (first | (with_reducible first | exact HB.out | apply below_alloc | apply pw_below_drewN | apply below_drew1 | refine below_set ?_ GE633.out | refine below_set ?_ GE634.out | refine below_set ?_ GE635.out) | exact HB.out)) hb); clear BK633; clear BK634; clear BK635; clear HB; have BK633 := n0_; have BK634 := n1_; have BK635 := n2_; have HB := n3_; clear n0_ n1_ n2_ n3_; (try clear hb); (try clear hb2); (try clear hk); (try clear hi); have hnb32 := NB634_635.out; have hnc32 := NB635_634.out; have hcz33_0 : w31.cell? ⟨gb634, 0, none⟩ = some (.int .i64 a1_0) := (blk_cell BK634.out 0).trans rfl; have hcz33_1 : w31.cell? ⟨gb634, 1, none⟩ = some (.int .i64 a1_1) := (blk_cell BK634.out 1).trans rfl; have hfz33_0 := blk_frozen BK634.out 0; have hfz33_1 := blk_frozen BK634.out 1) | (go_at_call 66; (with_reducible refine (spec_SpanOk.calls a1_0 a1_1 false _ A9.out).mono ?_); rintro e w34 ⟨rfl, hb⟩; have n0_ := Aside0.mk (blk_below (g := gb633) (o := .cells #[.int .i64 a0_0, .int .i64 a0_1] 25 (0, 0)) (by (with_reducible repeat (first | refine blk_drewN ?_ _ | refine blk_drew ?_ | refine blk_alloc ?_ _)); exact BK633.out) hb); have n1_ := Aside0.mk (blk_below (g := gb634) (o := .cells #[.int .i64 a1_0, .int .i64 a1_1] 25 (0, 0)) (by (with_reducible repeat (first | refine blk_drewN ?_ _ | refine blk_drew ?_ | refine blk_alloc ?_ _)); exact BK634.out) hb); have n2_ := Aside0.mk (blk_below (g := gb635) (o := .cells #[.int .i64 0, .int .i64 0] 25 (0, 0)) (by (with_reducible repeat (first | refine blk_drewN ?_ _ | refine blk_drew ?_ | refine blk_alloc ?_ _)); exact BK635.out) hb); have n3_ := Aside0.mk (below_step (by repeat (first | (with_reducible first | exact HB.out | apply below_alloc | apply pw_below_drewN | apply below_drew1 | refine below_set ?_ GE633.out | refine below_set ?_ GE634.out | refine below_set ?_ GE635.out) | exact HB.out)) hb); clear BK633; clear BK634; clear BK635; clear HB; have BK633 := n0_; have BK634 := n1_; have BK635 := n2_; have HB := n3_; clear n0_ n1_ n2_ n3_; (try clear hb); (try clear hb2); (try clear hk); (try clear hi)))
        go_meet
        case rel => exact ⟨_, (true), (by first | rfl | (simp; done) | (simp [*]; done)), H', ⟨by first | omega | exact Nat.le_refl _⟩, ⟨by (with_reducible repeat (first | refine blk_drewN ?_ _ | refine blk_drew ?_ | refine blk_alloc ?_ _)); exact BK633.out⟩, ⟨by (with_reducible repeat (first | refine blk_drewN ?_ _ | refine blk_drew ?_ | refine blk_alloc ?_ _)); exact BK634.out⟩, ⟨by (with_reducible repeat (first | refine blk_drewN ?_ _ | refine blk_drew ?_ | refine blk_alloc ?_ _)); exact BK635.out⟩, ⟨by repeat (first | (with_reducible first | exact HB.out | apply below_alloc | apply pw_below_drewN | apply below_drew1 | refine below_set ?_ GE633.out | refine below_set ?_ GE634.out | refine below_set ?_ GE635.out) | exact HB.out)⟩⟩
    · replace c8 := Bool.eq_false_iff.mpr c8
      subst c8
      have H1 : (spec_SpanDiv.j0 k true a0_0 a0_1 a1_0 a1_1) = some (r1, r2, r3) := by rw [if_neg (show ¬ (false = true) by decide)] at H; exact H
      clear H
      have H := H1
      clear H1
      have H' := Aside0.mk H
      clear H
      have hnb35 := NB633_634.out
      have hnc35 := NB634_633.out
      have hnb36 := NB633_635.out
      have hnc36 := NB635_633.out
      have hcz37_0 : w6.cell? ⟨gb633, 0, none⟩ = some (.int .i64 a0_0) := (blk_cell BK633.out 0).trans rfl
      have hcz37_1 : w6.cell? ⟨gb633, 1, none⟩ = some (.int .i64 a0_1) := (blk_cell BK633.out 1).trans rfl
      have hfz37_0 := blk_frozen BK633.out 0
      have hfz37_1 := blk_frozen BK633.out 1
      go_wp2_with (first | ((with_reducible refine gate_callee (f := 66) rfl ?_); refine goesL_ (some 19) rfl rfl Try.func66 (by kernel_rfl) rfl #[.agg #[.int .i64 a0_0, .int .i64 a0_1]] rfl (by (try simp only [List.map_toArray, List.map_cons, List.map_nil]); first | done | rfl | (simp only [List.length_drop, List.length_take]; rfl)) ?_; (with_reducible refine (spec_SpanOk.calls a0_0 a0_1 false _ A7.out).mono ?_); rintro e w38 ⟨rfl, hb⟩; refine ⟨_, rfl, ?_⟩; have n0_ := Aside0.mk (blk_below (g := gb633) (o := .cells #[.int .i64 a0_0, .int .i64 a0_1] 25 (0, 0)) (by (with_reducible repeat (first | refine blk_drewN ?_ _ | refine blk_drew ?_ | refine blk_alloc ?_ _)); exact BK633.out) hb); have n1_ := Aside0.mk (blk_below (g := gb634) (o := .cells #[.int .i64 a1_0, .int .i64 a1_1] 25 (0, 0)) (by (with_reducible repeat (first | refine blk_drewN ?_ _ | refine blk_drew ?_ | refine blk_alloc ?_ _)); exact BK634.out) hb); have n2_ := Aside0.mk (blk_below (g := gb635) (o := .cells #[.int .i64 0, .int .i64 0] 25 (0, 0)) (by (with_reducible repeat (first | refine blk_drewN ?_ _ | refine blk_drew ?_ | refine blk_alloc ?_ _)); exact BK635.out) hb); have n3_ := Aside0.mk (below_step (by repeat (first | (with_reducible first | exact HB.out | apply below_alloc | apply pw_below_drewN | apply below_drew1 | refine below_set ?_ GE633.out | refine below_set ?_ GE634.out | refine below_set ?_ GE635.out) | exact HB.out)) hb); clear BK633; clear BK634; clear BK635; clear HB; have BK633 := n0_; have BK634 := n1_; have BK635 := n2_; have HB := n3_; clear n0_ n1_ n2_ n3_; (try clear hb); (try clear hb2); (try clear hk); (try clear hi)))
      go_meet
      case rel => exact ⟨_, (true), (by first | rfl | (simp; done) | (simp [*]; done)), H', ⟨by first | omega | exact Nat.le_refl _⟩, ⟨by (with_reducible repeat (first | refine blk_drewN ?_ _ | refine blk_drew ?_ | refine blk_alloc ?_ _)); exact BK633.out⟩, ⟨by (with_reducible repeat (first | refine blk_drewN ?_ _ | refine blk_drew ?_ | refine blk_alloc ?_ _)); exact BK634.out⟩, ⟨by (with_reducible repeat (first | refine blk_drewN ?_ _ | refine blk_drew ?_ | refine blk_alloc ?_ _)); exact BK635.out⟩, ⟨by repeat (first | (with_reducible first | exact HB.out | apply below_alloc | apply pw_below_drewN | apply below_drew1 | refine below_set ?_ GE633.out | refine below_set ?_ GE634.out | refine below_set ?_ GE635.out) | exact HB.out)⟩⟩
  case rest =>
    clear HC3
    try clear c1
    try clear c2
    try clear p2
    try clear c3
    try clear c5
    try clear c6
    try clear c8
    try clear c10
    try clear c11
    try clear c11b0
    try clear c12
    try clear c13
    try clear c16
    try clear c20
    try clear c21
    try clear c24
    try clear c28
    try clear c29
    try clear c32
    try clear c35
    try clear c36
    try clear hcz14_0
    try clear hcz14_1
    try clear hcz17_0
    try clear hcz17_1
    try clear hcz19_0
    try clear hcz19_1
    try clear hcz22_0
    try clear hcz22_1
    try clear hcz25_0
    try clear hcz25_1
    try clear hcz27_0
    try clear hcz27_1
    try clear hcz30_0
    try clear hcz30_1
    try clear hcz33_0
    try clear hcz33_1
    try clear hcz37_0
    try clear hcz37_1
    try clear hfz14_0
    try clear hfz14_1
    try clear hfz17_0
    try clear hfz17_1
    try clear hfz19_0
    try clear hfz19_1
    try clear hfz22_0
    try clear hfz22_1
    try clear hfz25_0
    try clear hfz25_1
    try clear hfz27_0
    try clear hfz27_1
    try clear hfz30_0
    try clear hfz30_1
    try clear hfz33_0
    try clear hfz33_1
    try clear hfz37_0
    try clear hfz37_1
    obtain ⟨kq, x35_2, rfl, HA, HJ2, BK633, BK634, BK635, HB⟩ := hcut
    cases kq with
    | zero => exact absurd HA.out (by simp [spec_SpanDiv.j0])
    | succ kj2 =>
      have H := HA.out
      clear HA
      simp only [spec_SpanDiv.j0] at H
      by_cases c39 : x35_2 = true
      · subst c39
        have H1 : (some (0, 0, false)) = some (r1, r2, r3) := by rw [if_pos rfl] at H; exact H
        clear H
        have H := H1
        clear H1
        simp only [Option.some.injEq, Prod.mk.injEq] at H
        obtain ⟨rfl, rfl, rfl⟩ := H
        have hnb40 := NB635_633.out
        have hnc40 := NB633_635.out
        have hnb41 := NB635_634.out
        have hnc41 := NB634_635.out
        have hcz42_0 : wc.cell? ⟨gb635, 0, none⟩ = some (.int .i64 0) := (blk_cell BK635.out 0).trans rfl
        have hcz42_1 : wc.cell? ⟨gb635, 1, none⟩ = some (.int .i64 0) := (blk_cell BK635.out 1).trans rfl
        have hfz42_0 := blk_frozen BK635.out 0
        have hfz42_1 := blk_frozen BK635.out 1
        go_wp2
        refine bodyPost_ret (results_ct rfl _ _ gb635 25 #[.int .i64 0, .int .i64 0] (0, 0) _ rfl (by (with_reducible repeat (first | refine blk_drewN ?_ _ | refine blk_drew ?_ | refine blk_alloc ?_ _)); refine blk_put (cs := #[.int .i64 0, .int .i64 0]) ?_ 1 _ rfl; (with_reducible repeat (first | refine blk_drewN ?_ _ | refine blk_drew ?_ | refine blk_alloc ?_ _)); refine blk_put (cs := #[.int .i64 0, .int .i64 0]) ?_ 0 _ rfl; (with_reducible repeat (first | refine blk_drewN ?_ _ | refine blk_drew ?_ | refine blk_alloc ?_ _)); exact BK635.out) Try.underlying25 rfl (by kernel_rfl)) rfl ?_
        exact ⟨by first | rfl | (simp [errW_none, errW_some] <;> rfl) | (simp [*, errW_none, errW_some] <;> rfl) | (exfalso; simp_all; done), by repeat (first | (with_reducible first | exact HB.out | apply below_alloc | apply pw_below_drewN | apply below_drew1 | refine below_set ?_ GE633.out | refine below_set ?_ GE634.out | refine below_set ?_ GE635.out) | exact HB.out)⟩
      · replace c39 := Bool.eq_false_iff.mpr c39
        subst c39
        have H1 : ((spec_l2Over.f a0_0 a1_0).bind fun bt638 => ((spec_l2Over.f a0_0 a1_1).bind fun bt640 => ((spec_l2Over.f a0_1 a1_0).bind fun bt642 => ((spec_l2Over.f a0_1 a1_1).bind fun bt644 => ((spec_l2Four.f bt638.1 bt640.1 bt642.1 bt644.1).bind fun bt646 => ((spec_l2Four.f bt638.2 bt640.2 bt642.2 bt644.2).bind fun bt648 => ((spec_l2Fit.f bt646.1 bt648.2).bind fun bt650 => (some (bt650.1, bt650.2.1, bt650.2.2))))))))) = some (r1, r2, r3) := by rw [if_neg (show ¬ (false = true) by decide)] at H; exact H
        clear H
        have H := H1
        clear H1
        replace H := Option.bind_eq_some_iff.mp H
        obtain ⟨⟨t638, t639⟩, A430, H⟩ := H
        replace H : ((spec_l2Over.f a0_0 a1_1).bind fun bt640 => ((spec_l2Over.f a0_1 a1_0).bind fun bt642 => ((spec_l2Over.f a0_1 a1_1).bind fun bt644 => ((spec_l2Four.f t638 bt640.1 bt642.1 bt644.1).bind fun bt646 => ((spec_l2Four.f t639 bt640.2 bt642.2 bt644.2).bind fun bt648 => ((spec_l2Fit.f bt646.1 bt648.2).bind fun bt650 => (some (bt650.1, bt650.2.1, bt650.2.2)))))))) = some (r1, r2, r3) := H
        have A43 := Aside0.mk A430
        clear A430
        replace H := Option.bind_eq_some_iff.mp H
        obtain ⟨⟨t640, t641⟩, A440, H⟩ := H
        replace H : ((spec_l2Over.f a0_1 a1_0).bind fun bt642 => ((spec_l2Over.f a0_1 a1_1).bind fun bt644 => ((spec_l2Four.f t638 t640 bt642.1 bt644.1).bind fun bt646 => ((spec_l2Four.f t639 t641 bt642.2 bt644.2).bind fun bt648 => ((spec_l2Fit.f bt646.1 bt648.2).bind fun bt650 => (some (bt650.1, bt650.2.1, bt650.2.2))))))) = some (r1, r2, r3) := H
        have A44 := Aside0.mk A440
        clear A440
        replace H := Option.bind_eq_some_iff.mp H
        obtain ⟨⟨t642, t643⟩, A450, H⟩ := H
        replace H : ((spec_l2Over.f a0_1 a1_1).bind fun bt644 => ((spec_l2Four.f t638 t640 t642 bt644.1).bind fun bt646 => ((spec_l2Four.f t639 t641 t643 bt644.2).bind fun bt648 => ((spec_l2Fit.f bt646.1 bt648.2).bind fun bt650 => (some (bt650.1, bt650.2.1, bt650.2.2)))))) = some (r1, r2, r3) := H
        have A45 := Aside0.mk A450
        clear A450
        replace H := Option.bind_eq_some_iff.mp H
        obtain ⟨⟨t644, t645⟩, A460, H⟩ := H
        replace H : ((spec_l2Four.f t638 t640 t642 t644).bind fun bt646 => ((spec_l2Four.f t639 t641 t643 t645).bind fun bt648 => ((spec_l2Fit.f bt646.1 bt648.2).bind fun bt650 => (some (bt650.1, bt650.2.1, bt650.2.2))))) = some (r1, r2, r3) := H
        have A46 := Aside0.mk A460
        clear A460
        replace H := Option.bind_eq_some_iff.mp H
        obtain ⟨⟨t646, t647⟩, A470, H⟩ := H
        replace H : ((spec_l2Four.f t639 t641 t643 t645).bind fun bt648 => ((spec_l2Fit.f t646 bt648.2).bind fun bt650 => (some (bt650.1, bt650.2.1, bt650.2.2)))) = some (r1, r2, r3) := H
        have A47 := Aside0.mk A470
        clear A470
        replace H := Option.bind_eq_some_iff.mp H
        obtain ⟨⟨t648, t649⟩, A480, H⟩ := H
        replace H : ((spec_l2Fit.f t646 t649).bind fun bt650 => (some (bt650.1, bt650.2.1, bt650.2.2))) = some (r1, r2, r3) := H
        have A48 := Aside0.mk A480
        clear A480
        replace H := Option.bind_eq_some_iff.mp H
        obtain ⟨⟨t650, t651, t652⟩, A490, H⟩ := H
        replace H : (some (t650, t651, t652)) = some (r1, r2, r3) := H
        have A49 := Aside0.mk A490
        clear A490
        simp only [Option.some.injEq, Prod.mk.injEq] at H
        obtain ⟨rfl, rfl, rfl⟩ := H
        have hnb50 := NB633_634.out
        have hnc50 := NB634_633.out
        have hnb51 := NB633_635.out
        have hnc51 := NB635_633.out
        have hcz52_0 : wc.cell? ⟨gb633, 0, none⟩ = some (.int .i64 a0_0) := (blk_cell BK633.out 0).trans rfl
        have hcz52_1 : wc.cell? ⟨gb633, 1, none⟩ = some (.int .i64 a0_1) := (blk_cell BK633.out 1).trans rfl
        have hfz52_0 := blk_frozen BK633.out 0
        have hfz52_1 := blk_frozen BK633.out 1
        have hnb53 := NB634_635.out
        have hnc53 := NB635_634.out
        have hcz54_0 : wc.cell? ⟨gb634, 0, none⟩ = some (.int .i64 a1_0) := (blk_cell BK634.out 0).trans rfl
        have hcz54_1 : wc.cell? ⟨gb634, 1, none⟩ = some (.int .i64 a1_1) := (blk_cell BK634.out 1).trans rfl
        have hfz54_0 := blk_frozen BK634.out 0
        have hfz54_1 := blk_frozen BK634.out 1
        go_wp2_with (first | ((with_reducible refine gate_callee (f := 67) rfl ?_); refine goesL_ (some 42) rfl rfl Try.func67 (by kernel_rfl) rfl #[.int .i64 a0_0, .int .i64 a1_0] rfl (by (try simp only [List.map_toArray, List.map_cons, List.map_nil]); first | done | rfl | (simp only [List.length_drop, List.length_take]; rfl)) ?_; (with_reducible refine (spec_l2Over.calls a0_0 a1_0 t638 t639 _ A43.out).mono ?_); rintro e w' ⟨rfl, ⟨nd, rfl⟩⟩; refine ⟨_, rfl, ?_⟩; (try (rw [drewN_self wc]; generalize hq_ : World.drewN wc _ = wc; have n0_ : Aside0 (wc.heap[gb633]? = some (.cells #[.int .i64 a0_0, .int .i64 a0_1] 25 (0, 0))) := ⟨by rw [← hq_]; exact (by (with_reducible repeat (first | refine blk_drewN ?_ _ | refine blk_drew ?_ | refine blk_alloc ?_ _)); exact BK633.out)⟩; have n1_ : Aside0 (wc.heap[gb634]? = some (.cells #[.int .i64 a1_0, .int .i64 a1_1] 25 (0, 0))) := ⟨by rw [← hq_]; exact (by (with_reducible repeat (first | refine blk_drewN ?_ _ | refine blk_drew ?_ | refine blk_alloc ?_ _)); exact BK634.out)⟩; have n2_ : Aside0 (wc.heap[gb635]? = some (.cells #[.int .i64 0, .int .i64 0] 25 (0, 0))) := ⟨by rw [← hq_]; exact (by (with_reducible repeat (first | refine blk_drewN ?_ _ | refine blk_drew ?_ | refine blk_alloc ?_ _)); exact BK635.out)⟩; have n3_ : Aside0 (Below w.heap.size w wc) := ⟨by rw [← hq_]; exact (by repeat (first | (with_reducible first | exact HB.out | apply below_alloc | apply pw_below_drewN | apply below_drew1 | refine below_set ?_ GE633.out | refine below_set ?_ GE634.out | refine below_set ?_ GE635.out) | exact HB.out))⟩; clear BK633 BK634 BK635 HB hq_; have BK633 := n0_; have BK634 := n1_; have BK635 := n2_; have HB := n3_; clear n0_ n1_ n2_ n3_; have hcq_gb633_0 : wc.cell? ⟨gb633, 0, none⟩ = some (.int .i64 a0_0) := (blk_cell BK633.out 0).trans rfl; have hfq_gb633_0 := blk_frozen BK633.out 0; have hcq_gb633_1 : wc.cell? ⟨gb633, 1, none⟩ = some (.int .i64 a0_1) := (blk_cell BK633.out 1).trans rfl; have hfq_gb633_1 := blk_frozen BK633.out 1; have hcq_gb634_0 : wc.cell? ⟨gb634, 0, none⟩ = some (.int .i64 a1_0) := (blk_cell BK634.out 0).trans rfl; have hfq_gb634_0 := blk_frozen BK634.out 0; have hcq_gb634_1 : wc.cell? ⟨gb634, 1, none⟩ = some (.int .i64 a1_1) := (blk_cell BK634.out 1).trans rfl; have hfq_gb634_1 := blk_frozen BK634.out 1; have hcq_gb635_0 : wc.cell? ⟨gb635, 0, none⟩ = some (.int .i64 0) := (blk_cell BK635.out 0).trans rfl; have hfq_gb635_0 := blk_frozen BK635.out 0; have hcq_gb635_1 : wc.cell? ⟨gb635, 1, none⟩ = some (.int .i64 0) := (blk_cell BK635.out 1).trans rfl; have hfq_gb635_1 := blk_frozen BK635.out 1))) | ((with_reducible refine gate_callee (f := 67) rfl ?_); refine goesL_ (some 50) rfl rfl Try.func67 (by kernel_rfl) rfl #[.int .i64 a0_0, .int .i64 a1_1] rfl (by (try simp only [List.map_toArray, List.map_cons, List.map_nil]); first | done | rfl | (simp only [List.length_drop, List.length_take]; rfl)) ?_; (with_reducible refine (spec_l2Over.calls a0_0 a1_1 t640 t641 _ A44.out).mono ?_); rintro e w' ⟨rfl, ⟨nd, rfl⟩⟩; refine ⟨_, rfl, ?_⟩; (try (rw [drewN_self wc]; generalize hq_ : World.drewN wc _ = wc; have n0_ : Aside0 (wc.heap[gb633]? = some (.cells #[.int .i64 a0_0, .int .i64 a0_1] 25 (0, 0))) := ⟨by rw [← hq_]; exact (by (with_reducible repeat (first | refine blk_drewN ?_ _ | refine blk_drew ?_ | refine blk_alloc ?_ _)); exact BK633.out)⟩; have n1_ : Aside0 (wc.heap[gb634]? = some (.cells #[.int .i64 a1_0, .int .i64 a1_1] 25 (0, 0))) := ⟨by rw [← hq_]; exact (by (with_reducible repeat (first | refine blk_drewN ?_ _ | refine blk_drew ?_ | refine blk_alloc ?_ _)); exact BK634.out)⟩; have n2_ : Aside0 (wc.heap[gb635]? = some (.cells #[.int .i64 0, .int .i64 0] 25 (0, 0))) := ⟨by rw [← hq_]; exact (by (with_reducible repeat (first | refine blk_drewN ?_ _ | refine blk_drew ?_ | refine blk_alloc ?_ _)); exact BK635.out)⟩; have n3_ : Aside0 (Below w.heap.size w wc) := ⟨by rw [← hq_]; exact (by repeat (first | (with_reducible first | exact HB.out | apply below_alloc | apply pw_below_drewN | apply below_drew1 | refine below_set ?_ GE633.out | refine below_set ?_ GE634.out | refine below_set ?_ GE635.out) | exact HB.out))⟩; clear BK633 BK634 BK635 HB hq_; have BK633 := n0_; have BK634 := n1_; have BK635 := n2_; have HB := n3_; clear n0_ n1_ n2_ n3_; have hcq_gb633_0 : wc.cell? ⟨gb633, 0, none⟩ = some (.int .i64 a0_0) := (blk_cell BK633.out 0).trans rfl; have hfq_gb633_0 := blk_frozen BK633.out 0; have hcq_gb633_1 : wc.cell? ⟨gb633, 1, none⟩ = some (.int .i64 a0_1) := (blk_cell BK633.out 1).trans rfl; have hfq_gb633_1 := blk_frozen BK633.out 1; have hcq_gb634_0 : wc.cell? ⟨gb634, 0, none⟩ = some (.int .i64 a1_0) := (blk_cell BK634.out 0).trans rfl; have hfq_gb634_0 := blk_frozen BK634.out 0; have hcq_gb634_1 : wc.cell? ⟨gb634, 1, none⟩ = some (.int .i64 a1_1) := (blk_cell BK634.out 1).trans rfl; have hfq_gb634_1 := blk_frozen BK634.out 1; have hcq_gb635_0 : wc.cell? ⟨gb635, 0, none⟩ = some (.int .i64 0) := (blk_cell BK635.out 0).trans rfl; have hfq_gb635_0 := blk_frozen BK635.out 0; have hcq_gb635_1 : wc.cell? ⟨gb635, 1, none⟩ = some (.int .i64 0) := (blk_cell BK635.out 1).trans rfl; have hfq_gb635_1 := blk_frozen BK635.out 1))) | ((with_reducible refine gate_callee (f := 67) rfl ?_); refine goesL_ (some 58) rfl rfl Try.func67 (by kernel_rfl) rfl #[.int .i64 a0_1, .int .i64 a1_0] rfl (by (try simp only [List.map_toArray, List.map_cons, List.map_nil]); first | done | rfl | (simp only [List.length_drop, List.length_take]; rfl)) ?_; (with_reducible refine (spec_l2Over.calls a0_1 a1_0 t642 t643 _ A45.out).mono ?_); rintro e w' ⟨rfl, ⟨nd, rfl⟩⟩; refine ⟨_, rfl, ?_⟩; (try (rw [drewN_self wc]; generalize hq_ : World.drewN wc _ = wc; have n0_ : Aside0 (wc.heap[gb633]? = some (.cells #[.int .i64 a0_0, .int .i64 a0_1] 25 (0, 0))) := ⟨by rw [← hq_]; exact (by (with_reducible repeat (first | refine blk_drewN ?_ _ | refine blk_drew ?_ | refine blk_alloc ?_ _)); exact BK633.out)⟩; have n1_ : Aside0 (wc.heap[gb634]? = some (.cells #[.int .i64 a1_0, .int .i64 a1_1] 25 (0, 0))) := ⟨by rw [← hq_]; exact (by (with_reducible repeat (first | refine blk_drewN ?_ _ | refine blk_drew ?_ | refine blk_alloc ?_ _)); exact BK634.out)⟩; have n2_ : Aside0 (wc.heap[gb635]? = some (.cells #[.int .i64 0, .int .i64 0] 25 (0, 0))) := ⟨by rw [← hq_]; exact (by (with_reducible repeat (first | refine blk_drewN ?_ _ | refine blk_drew ?_ | refine blk_alloc ?_ _)); exact BK635.out)⟩; have n3_ : Aside0 (Below w.heap.size w wc) := ⟨by rw [← hq_]; exact (by repeat (first | (with_reducible first | exact HB.out | apply below_alloc | apply pw_below_drewN | apply below_drew1 | refine below_set ?_ GE633.out | refine below_set ?_ GE634.out | refine below_set ?_ GE635.out) | exact HB.out))⟩; clear BK633 BK634 BK635 HB hq_; have BK633 := n0_; have BK634 := n1_; have BK635 := n2_; have HB := n3_; clear n0_ n1_ n2_ n3_; have hcq_gb633_0 : wc.cell? ⟨gb633, 0, none⟩ = some (.int .i64 a0_0) := (blk_cell BK633.out 0).trans rfl; have hfq_gb633_0 := blk_frozen BK633.out 0; have hcq_gb633_1 : wc.cell? ⟨gb633, 1, none⟩ = some (.int .i64 a0_1) := (blk_cell BK633.out 1).trans rfl; have hfq_gb633_1 := blk_frozen BK633.out 1; have hcq_gb634_0 : wc.cell? ⟨gb634, 0, none⟩ = some (.int .i64 a1_0) := (blk_cell BK634.out 0).trans rfl; have hfq_gb634_0 := blk_frozen BK634.out 0; have hcq_gb634_1 : wc.cell? ⟨gb634, 1, none⟩ = some (.int .i64 a1_1) := (blk_cell BK634.out 1).trans rfl; have hfq_gb634_1 := blk_frozen BK634.out 1; have hcq_gb635_0 : wc.cell? ⟨gb635, 0, none⟩ = some (.int .i64 0) := (blk_cell BK635.out 0).trans rfl; have hfq_gb635_0 := blk_frozen BK635.out 0; have hcq_gb635_1 : wc.cell? ⟨gb635, 1, none⟩ = some (.int .i64 0) := (blk_cell BK635.out 1).trans rfl; have hfq_gb635_1 := blk_frozen BK635.out 1))) | ((with_reducible refine gate_callee (f := 67) rfl ?_); refine goesL_ (some 66) rfl rfl Try.func67 (by kernel_rfl) rfl #[.int .i64 a0_1, .int .i64 a1_1] rfl (by (try simp only [List.map_toArray, List.map_cons, List.map_nil]); first | done | rfl | (simp only [List.length_drop, List.length_take]; rfl)) ?_; (with_reducible refine (spec_l2Over.calls a0_1 a1_1 t644 t645 _ A46.out).mono ?_); rintro e w' ⟨rfl, ⟨nd, rfl⟩⟩; refine ⟨_, rfl, ?_⟩; (try (rw [drewN_self wc]; generalize hq_ : World.drewN wc _ = wc; have n0_ : Aside0 (wc.heap[gb633]? = some (.cells #[.int .i64 a0_0, .int .i64 a0_1] 25 (0, 0))) := ⟨by rw [← hq_]; exact (by (with_reducible repeat (first | refine blk_drewN ?_ _ | refine blk_drew ?_ | refine blk_alloc ?_ _)); exact BK633.out)⟩; have n1_ : Aside0 (wc.heap[gb634]? = some (.cells #[.int .i64 a1_0, .int .i64 a1_1] 25 (0, 0))) := ⟨by rw [← hq_]; exact (by (with_reducible repeat (first | refine blk_drewN ?_ _ | refine blk_drew ?_ | refine blk_alloc ?_ _)); exact BK634.out)⟩; have n2_ : Aside0 (wc.heap[gb635]? = some (.cells #[.int .i64 0, .int .i64 0] 25 (0, 0))) := ⟨by rw [← hq_]; exact (by (with_reducible repeat (first | refine blk_drewN ?_ _ | refine blk_drew ?_ | refine blk_alloc ?_ _)); exact BK635.out)⟩; have n3_ : Aside0 (Below w.heap.size w wc) := ⟨by rw [← hq_]; exact (by repeat (first | (with_reducible first | exact HB.out | apply below_alloc | apply pw_below_drewN | apply below_drew1 | refine below_set ?_ GE633.out | refine below_set ?_ GE634.out | refine below_set ?_ GE635.out) | exact HB.out))⟩; clear BK633 BK634 BK635 HB hq_; have BK633 := n0_; have BK634 := n1_; have BK635 := n2_; have HB := n3_; clear n0_ n1_ n2_ n3_; have hcq_gb633_0 : wc.cell? ⟨gb633, 0, none⟩ = some (.int .i64 a0_0) := (blk_cell BK633.out 0).trans rfl; have hfq_gb633_0 := blk_frozen BK633.out 0; have hcq_gb633_1 : wc.cell? ⟨gb633, 1, none⟩ = some (.int .i64 a0_1) := (blk_cell BK633.out 1).trans rfl; have hfq_gb633_1 := blk_frozen BK633.out 1; have hcq_gb634_0 : wc.cell? ⟨gb634, 0, none⟩ = some (.int .i64 a1_0) := (blk_cell BK634.out 0).trans rfl; have hfq_gb634_0 := blk_frozen BK634.out 0; have hcq_gb634_1 : wc.cell? ⟨gb634, 1, none⟩ = some (.int .i64 a1_1) := (blk_cell BK634.out 1).trans rfl; have hfq_gb634_1 := blk_frozen BK634.out 1; have hcq_gb635_0 : wc.cell? ⟨gb635, 0, none⟩ = some (.int .i64 0) := (blk_cell BK635.out 0).trans rfl; have hfq_gb635_0 := blk_frozen BK635.out 0; have hcq_gb635_1 : wc.cell? ⟨gb635, 1, none⟩ = some (.int .i64 0) := (blk_cell BK635.out 1).trans rfl; have hfq_gb635_1 := blk_frozen BK635.out 1))) | ((with_reducible refine gate_callee (f := 68) rfl ?_); refine goesL_ (some 74) rfl rfl Try.func68 (by kernel_rfl) rfl #[.int .i64 t638, .int .i64 t640, .int .i64 t642, .int .i64 t644] rfl (by (try simp only [List.map_toArray, List.map_cons, List.map_nil]); first | done | rfl | (simp only [List.length_drop, List.length_take]; rfl)) ?_; (with_reducible refine (spec_l2Four.calls t638 t640 t642 t644 t646 t647 _ A47.out).mono ?_); rintro e w55 ⟨rfl, hb⟩; refine ⟨_, rfl, ?_⟩; have n0_ := Aside0.mk (blk_below (g := gb633) (o := .cells #[.int .i64 a0_0, .int .i64 a0_1] 25 (0, 0)) (by (with_reducible repeat (first | refine blk_drewN ?_ _ | refine blk_drew ?_ | refine blk_alloc ?_ _)); exact BK633.out) hb); have n1_ := Aside0.mk (blk_below (g := gb634) (o := .cells #[.int .i64 a1_0, .int .i64 a1_1] 25 (0, 0)) (by (with_reducible repeat (first | refine blk_drewN ?_ _ | refine blk_drew ?_ | refine blk_alloc ?_ _)); exact BK634.out) hb); have n2_ := Aside0.mk (blk_below (g := gb635) (o := .cells #[.int .i64 0, .int .i64 0] 25 (0, 0)) (by (with_reducible repeat (first | refine blk_drewN ?_ _ | refine blk_drew ?_ | refine blk_alloc ?_ _)); exact BK635.out) hb); have n3_ := Aside0.mk (below_step (by repeat (first | (with_reducible first | exact HB.out | apply below_alloc | apply pw_below_drewN | apply below_drew1 | refine below_set ?_ GE633.out | refine below_set ?_ GE634.out | refine below_set ?_ GE635.out) | exact HB.out)) hb); clear BK633; clear BK634; clear BK635; clear HB; have BK633 := n0_; have BK634 := n1_; have BK635 := n2_; have HB := n3_; clear n0_ n1_ n2_ n3_; (try clear hb); (try clear hb2); (try clear hk); (try clear hi)) | ((with_reducible refine gate_callee (f := 68) rfl ?_); refine goesL_ (some 82) rfl rfl Try.func68 (by kernel_rfl) rfl #[.int .i64 t639, .int .i64 t641, .int .i64 t643, .int .i64 t645] rfl (by (try simp only [List.map_toArray, List.map_cons, List.map_nil]); first | done | rfl | (simp only [List.length_drop, List.length_take]; rfl)) ?_; (with_reducible refine (spec_l2Four.calls t639 t641 t643 t645 t648 t649 _ A48.out).mono ?_); rintro e w56 ⟨rfl, hb⟩; refine ⟨_, rfl, ?_⟩; have n0_ := Aside0.mk (blk_below (g := gb633) (o := .cells #[.int .i64 a0_0, .int .i64 a0_1] 25 (0, 0)) (by (with_reducible repeat (first | refine blk_drewN ?_ _ | refine blk_drew ?_ | refine blk_alloc ?_ _)); exact BK633.out) hb); have n1_ := Aside0.mk (blk_below (g := gb634) (o := .cells #[.int .i64 a1_0, .int .i64 a1_1] 25 (0, 0)) (by (with_reducible repeat (first | refine blk_drewN ?_ _ | refine blk_drew ?_ | refine blk_alloc ?_ _)); exact BK634.out) hb); have n2_ := Aside0.mk (blk_below (g := gb635) (o := .cells #[.int .i64 0, .int .i64 0] 25 (0, 0)) (by (with_reducible repeat (first | refine blk_drewN ?_ _ | refine blk_drew ?_ | refine blk_alloc ?_ _)); exact BK635.out) hb); have n3_ := Aside0.mk (below_step (by repeat (first | (with_reducible first | exact HB.out | apply below_alloc | apply pw_below_drewN | apply below_drew1 | refine below_set ?_ GE633.out | refine below_set ?_ GE634.out | refine below_set ?_ GE635.out) | exact HB.out)) hb); clear BK633; clear BK634; clear BK635; clear HB; have BK633 := n0_; have BK634 := n1_; have BK635 := n2_; have HB := n3_; clear n0_ n1_ n2_ n3_; (try clear hb); (try clear hb2); (try clear hk); (try clear hi)) | ((with_reducible refine gate_callee (f := 69) rfl ?_); refine goesL_ (some 87) rfl rfl Try.func69 (by kernel_rfl) rfl #[.int .i64 t646, .int .i64 t649] rfl (by (try simp only [List.map_toArray, List.map_cons, List.map_nil]); first | done | rfl | (simp only [List.length_drop, List.length_take]; rfl)) ?_; (with_reducible refine (spec_l2Fit.calls t646 t649 t650 t651 t652 _ A49.out).mono ?_); rintro e w57 ⟨rfl, hb⟩; refine ⟨_, rfl, ?_⟩; have n0_ := Aside0.mk (blk_below (g := gb633) (o := .cells #[.int .i64 a0_0, .int .i64 a0_1] 25 (0, 0)) (by (with_reducible repeat (first | refine blk_drewN ?_ _ | refine blk_drew ?_ | refine blk_alloc ?_ _)); exact BK633.out) hb); have n1_ := Aside0.mk (blk_below (g := gb634) (o := .cells #[.int .i64 a1_0, .int .i64 a1_1] 25 (0, 0)) (by (with_reducible repeat (first | refine blk_drewN ?_ _ | refine blk_drew ?_ | refine blk_alloc ?_ _)); exact BK634.out) hb); have n2_ := Aside0.mk (blk_below (g := gb635) (o := .cells #[.int .i64 0, .int .i64 0] 25 (0, 0)) (by (with_reducible repeat (first | refine blk_drewN ?_ _ | refine blk_drew ?_ | refine blk_alloc ?_ _)); exact BK635.out) hb); have n3_ := Aside0.mk (below_step (by repeat (first | (with_reducible first | exact HB.out | apply below_alloc | apply pw_below_drewN | apply below_drew1 | refine below_set ?_ GE633.out | refine below_set ?_ GE634.out | refine below_set ?_ GE635.out) | exact HB.out)) hb); clear BK633; clear BK634; clear BK635; clear HB; have BK633 := n0_; have BK634 := n1_; have BK635 := n2_; have HB := n3_; clear n0_ n1_ n2_ n3_; (try clear hb); (try clear hb2); (try clear hk); (try clear hi); have hcz58_0 : w57.cell? ⟨gb635, 0, none⟩ = some (.int .i64 0) := (blk_cell BK635.out 0).trans rfl; have hcz58_1 : w57.cell? ⟨gb635, 1, none⟩ = some (.int .i64 0) := (blk_cell BK635.out 1).trans rfl; have hfz58_0 := blk_frozen BK635.out 0; have hfz58_1 := blk_frozen BK635.out 1))
        refine bodyPost_ret (results_ct rfl _ _ gb635 25 #[.int .i64 t650, .int .i64 t651] (0, 0) _ rfl (by (with_reducible repeat (first | refine blk_drewN ?_ _ | refine blk_drew ?_ | refine blk_alloc ?_ _)); refine blk_put (cs := #[.int .i64 t650, .int .i64 0]) ?_ 1 _ rfl; (with_reducible repeat (first | refine blk_drewN ?_ _ | refine blk_drew ?_ | refine blk_alloc ?_ _)); refine blk_put (cs := #[.int .i64 0, .int .i64 0]) ?_ 0 _ rfl; (with_reducible repeat (first | refine blk_drewN ?_ _ | refine blk_drew ?_ | refine blk_alloc ?_ _)); exact BK635.out) Try.underlying25 rfl (by kernel_rfl)) rfl ?_
        exact ⟨by first | rfl | (simp [errW_none, errW_some] <;> rfl) | (simp [*, errW_none, errW_some] <;> rfl) | (exfalso; simp_all; done), by repeat (first | (with_reducible first | exact HB.out | apply below_alloc | apply pw_below_drewN | apply below_drew1 | refine below_set ?_ GE633.out | refine below_set ?_ GE634.out | refine below_set ?_ GE635.out) | exact HB.out)⟩

end Go.Proofs.Ytalaiianaepcoaa.S
