/- What the Go functions spec_DrawSureRound compute: for each a Lean function with the same answers, and the contract that the Go code comes to them; under the condition that the Lean function answers. The text was written by the print program of the kit, parted and joined anew, and turned in places by a small program of this session. -/
import Derived.Test.YtfjfjabdgemalaaSBase
import Derived.Test.YtfjfjabdgemalaaSC
import Derived.Test.YtfjfjabdgemalaaSFspecl71Way
import Derived.Test.YtfjfjabdgemalaaSFspecl71Span
import Derived.Test.YtfjfjabdgemalaaSFspecl71Mild
namespace Go.Proofs.Ytfjfjabdgemalaa.S
open Go.RowKit Go.Proofs.YtfjfjabdgemalaaW.PrintWords Go.Proofs.YtfjfjabdgemalaaW.PrintLast Go.Proofs.YtfjfjabdgemalaaW.PrintMore
attribute [local go_sem] max2_int min2_int max_two min_two max_three min_three max_four min_four   -- for this text's walks alone
set_option linter.unusedVariables false
set_option linter.unusedSimpArgs false

/-! ### spec_DrawSureRound: function 32 -/
def spec_DrawSureRound.f (k : Nat) (l0 : List Int) : Option (Int × Int × Int × Int) := (spec_l6Open.f l0).bind fun bt435 => ((spec_l71Span.f k bt435.1 bt435.2).bind fun bt438 => ((spec_l6Rd_pick.f k bt435.1 bt438.2.2 3).bind fun bt442 => (if bt442.1 > 0 then ((spec_l71Mild.f k bt435.1 bt442.2).bind fun bt444 => ((some (([1, 10, 1000, 1000000, 100000000, 7, 1000000000, 0, 1000000001] : List Int) : List Int)).bind fun y447 => ((spec_l6Rd_pick.f k bt435.1 bt444.2.2 9).bind fun bt450 => (if 0 ≤ bt450.1 then (if bt450.1 < (y447.length : Int) then ((spec_l71Way.f k bt435.1 bt450.2).bind fun bt453 => (some (bt444.1, bt444.2.1, rd y447 bt450.1, bt453.1))) else (none)) else (none))))) else ((some (([1, 10, 1000, 1000000, 100000000, 7, 1000000000, 0, 1000000001] : List Int) : List Int)).bind fun y455 => ((spec_l6Rd_pick.f k bt435.1 bt442.2 9).bind fun bt458 => (if 0 ≤ bt458.1 then (if bt458.1 < (y455.length : Int) then ((spec_l71Way.f k bt435.1 bt458.2).bind fun bt461 => (some (bt438.1, bt438.2.1, rd y455 bt458.1, bt461.1))) else (none)) else (none)))))))
theorem spec_DrawSureRound.mono : ∀ a0 k, LeO (spec_DrawSureRound.f k a0) (spec_DrawSureRound.f (k + 1) a0) := by
  intro a0 k
  unfold spec_DrawSureRound.f
  repeat' first
      | (with_reducible exact spec_l6Rd_pick.mono _ _ _ _)
      | (with_reducible exact spec_l71Mild.mono _ _ _)
      | (with_reducible exact spec_l71Span.mono _ _ _)
      | (with_reducible exact spec_l71Way.mono _ _ _)
      | (with_reducible exact LeO.refl _)
      | (with_reducible exact LeO.none _)
      | (with_reducible refine LeO.ite ?_ ?_)
      | (with_reducible refine LeO.bind ?_ (fun _ => ?_))
      | exact spec_l6Rd_pick.mono _ _ _ _
      | exact spec_l71Mild.mono _ _ _
      | exact spec_l71Span.mono _ _ _
      | exact spec_l71Way.mono _ _ _
      | exact LeO.none _
      | refine LeO.ite ?_ ?_
      | refine LeO.bind ?_ (fun _ => ?_)
def spec_DrawSureRound.T5 : Bool × List (List Nat × List Nat) := (true, [([], []), ([], []), ([], []), ([2], [2]), ([1, 3], [1, 3]), ([4], [4]), ([], []), ([6, 3], [6]), ([0, 7, 0], [0]), ([5, 8, 0, 1, 2, 3, 4, 5, 8], [5]), ([7, 9, 0, 1, 2, 3, 4, 5, 6, 7, 8, 9], [7])])
def spec_DrawSureRound.B5 : List Nat := [0, 0, 0, 4, 14, 30, 0, 76, 205, 511, 1023]
theorem spec_DrawSureRound.tab5 : rtab .any (opsOf Try.f32 5) = spec_DrawSureRound.T5 := by kernel_rfl
theorem spec_DrawSureRound.bits5 : waitsOk spec_DrawSureRound.T5.2 spec_DrawSureRound.B5 = true := by kernel_rfl
set_option maxHeartbeats 8000000 in
set_option maxRecDepth 100000 in
theorem spec_DrawSureRound.calls (k : Nat) (A0 : Option Addr) (c0 : Nat) (l0 : List Int) (r1 : Int) (r2 : Int) (r3 : Int) (r4 : Int) (w : World) (hr0 : Kd.C (Kd.int .u8) w A0 l0.length l0) (hc0 : l0.length ≤ c0) (h : spec_DrawSureRound.f k l0 = some (r1, r2, r3, r4)) :
    Calls Try.prog 32 #[.slice A0 l0.length c0] w fun e w' => e = .returned (.tuple #[.agg #[.int .i64 r1, .int .i64 r2], .int .i64 r3, .int .i64 r4]) ∧ Below w.heap.size w w' := by
  have hu24 := Try.underlying24
  have HR0 := Aside0.mk hr0
  have HC0 := Aside0.mk hc0
  clear hr0 hc0
  have HB := Aside0.mk (Below.refl w.heap.size w)
  have H : ((spec_l6Open.f l0).bind fun bt435 => ((spec_l71Span.f k bt435.1 bt435.2).bind fun bt438 => ((spec_l6Rd_pick.f k bt435.1 bt438.2.2 3).bind fun bt442 => (if bt442.1 > 0 then ((spec_l71Mild.f k bt435.1 bt442.2).bind fun bt444 => ((some (([1, 10, 1000, 1000000, 100000000, 7, 1000000000, 0, 1000000001] : List Int) : List Int)).bind fun y447 => ((spec_l6Rd_pick.f k bt435.1 bt444.2.2 9).bind fun bt450 => (if 0 ≤ bt450.1 then (if bt450.1 < (y447.length : Int) then ((spec_l71Way.f k bt435.1 bt450.2).bind fun bt453 => (some (bt444.1, bt444.2.1, rd y447 bt450.1, bt453.1))) else (none)) else (none))))) else ((some (([1, 10, 1000, 1000000, 100000000, 7, 1000000000, 0, 1000000001] : List Int) : List Int)).bind fun y455 => ((spec_l6Rd_pick.f k bt435.1 bt442.2 9).bind fun bt458 => (if 0 ≤ bt458.1 then (if bt458.1 < (y455.length : Int) then ((spec_l71Way.f k bt435.1 bt458.2).bind fun bt461 => (some (bt438.1, bt438.2.1, rd y455 bt458.1, bt461.1))) else (none)) else (none)))))))) = some (r1, r2, r3, r4) := h
  clear h
  replace H := Option.bind_eq_some_iff.mp H
  obtain ⟨⟨t435, t436⟩, A20, H⟩ := H
  replace H : ((spec_l71Span.f k t435 t436).bind fun bt438 => ((spec_l6Rd_pick.f k t435 bt438.2.2 3).bind fun bt442 => (if bt442.1 > 0 then ((spec_l71Mild.f k t435 bt442.2).bind fun bt444 => ((some (([1, 10, 1000, 1000000, 100000000, 7, 1000000000, 0, 1000000001] : List Int) : List Int)).bind fun y447 => ((spec_l6Rd_pick.f k t435 bt444.2.2 9).bind fun bt450 => (if 0 ≤ bt450.1 then (if bt450.1 < (y447.length : Int) then ((spec_l71Way.f k t435 bt450.2).bind fun bt453 => (some (bt444.1, bt444.2.1, rd y447 bt450.1, bt453.1))) else (none)) else (none))))) else ((some (([1, 10, 1000, 1000000, 100000000, 7, 1000000000, 0, 1000000001] : List Int) : List Int)).bind fun y455 => ((spec_l6Rd_pick.f k t435 bt442.2 9).bind fun bt458 => (if 0 ≤ bt458.1 then (if bt458.1 < (y455.length : Int) then ((spec_l71Way.f k t435 bt458.2).bind fun bt461 => (some (bt438.1, bt438.2.1, rd y455 bt458.1, bt461.1))) else (none)) else (none))))))) = some (r1, r2, r3, r4) := H
  have A2 := Aside0.mk A20
  clear A20
  replace H := Option.bind_eq_some_iff.mp H
  obtain ⟨⟨t438, t439, t440⟩, A30, H⟩ := H
  replace H : ((spec_l6Rd_pick.f k t435 t440 3).bind fun bt442 => (if bt442.1 > 0 then ((spec_l71Mild.f k t435 bt442.2).bind fun bt444 => ((some (([1, 10, 1000, 1000000, 100000000, 7, 1000000000, 0, 1000000001] : List Int) : List Int)).bind fun y447 => ((spec_l6Rd_pick.f k t435 bt444.2.2 9).bind fun bt450 => (if 0 ≤ bt450.1 then (if bt450.1 < (y447.length : Int) then ((spec_l71Way.f k t435 bt450.2).bind fun bt453 => (some (bt444.1, bt444.2.1, rd y447 bt450.1, bt453.1))) else (none)) else (none))))) else ((some (([1, 10, 1000, 1000000, 100000000, 7, 1000000000, 0, 1000000001] : List Int) : List Int)).bind fun y455 => ((spec_l6Rd_pick.f k t435 bt442.2 9).bind fun bt458 => (if 0 ≤ bt458.1 then (if bt458.1 < (y455.length : Int) then ((spec_l71Way.f k t435 bt458.2).bind fun bt461 => (some (t438, t439, rd y455 bt458.1, bt461.1))) else (none)) else (none)))))) = some (r1, r2, r3, r4) := H
  have A3 := Aside0.mk A30
  clear A30
  replace H := Option.bind_eq_some_iff.mp H
  obtain ⟨⟨t442, t443⟩, A40, H⟩ := H
  replace H : (if t442 > 0 then ((spec_l71Mild.f k t435 t443).bind fun bt444 => ((some (([1, 10, 1000, 1000000, 100000000, 7, 1000000000, 0, 1000000001] : List Int) : List Int)).bind fun y447 => ((spec_l6Rd_pick.f k t435 bt444.2.2 9).bind fun bt450 => (if 0 ≤ bt450.1 then (if bt450.1 < (y447.length : Int) then ((spec_l71Way.f k t435 bt450.2).bind fun bt453 => (some (bt444.1, bt444.2.1, rd y447 bt450.1, bt453.1))) else (none)) else (none))))) else ((some (([1, 10, 1000, 1000000, 100000000, 7, 1000000000, 0, 1000000001] : List Int) : List Int)).bind fun y455 => ((spec_l6Rd_pick.f k t435 t443 9).bind fun bt458 => (if 0 ≤ bt458.1 then (if bt458.1 < (y455.length : Int) then ((spec_l71Way.f k t435 bt458.2).bind fun bt461 => (some (t438, t439, rd y455 bt458.1, bt461.1))) else (none)) else (none))))) = some (r1, r2, r3, r4) := H
  have A4 := Aside0.mk A40
  clear A40
  by_cases c5 : t442 > 0
  · rw [if_pos c5] at H
    have c5b0 : decide (0 < t442) = true := decide_eq_true c5
    clear c5
    replace H := Option.bind_eq_some_iff.mp H
    obtain ⟨⟨t444, t445, t446⟩, A60, H⟩ := H
    replace H : ((some (([1, 10, 1000, 1000000, 100000000, 7, 1000000000, 0, 1000000001] : List Int) : List Int)).bind fun y447 => ((spec_l6Rd_pick.f k t435 t446 9).bind fun bt450 => (if 0 ≤ bt450.1 then (if bt450.1 < (y447.length : Int) then ((spec_l71Way.f k t435 bt450.2).bind fun bt453 => (some (t444, t445, rd y447 bt450.1, bt453.1))) else (none)) else (none)))) = some (r1, r2, r3, r4) := H
    have A6 := Aside0.mk A60
    clear A60
    obtain ⟨y447, hy447⟩ : ∃ y_ : List Int, y_ = (([1, 10, 1000, 1000000, 100000000, 7, 1000000000, 0, 1000000001] : List Int)) := ⟨_, rfl⟩
    replace H : ((spec_l6Rd_pick.f k t435 t446 9).bind fun bt450 => (if 0 ≤ bt450.1 then (if bt450.1 < (y447.length : Int) then ((spec_l71Way.f k t435 bt450.2).bind fun bt453 => (some (t444, t445, rd y447 bt450.1, bt453.1))) else (none)) else (none))) = some (r1, r2, r3, r4) := by first | (rw [hy447]; with_reducible exact H) | (have H2_ := (Option.bind_some _ _).symm.trans H; rw [hy447]; with_reducible exact H2_) | (have H2_ := (Option.bind_some _ _).symm.trans H; with_reducible exact H2_) | with_reducible exact H | (rw [hy447]; exact H) | exact H
    have Ny447 := Aside0.mk hy447
    clear hy447
    replace H := Option.bind_eq_some_iff.mp H
    obtain ⟨⟨t450, t451⟩, A70, H⟩ := H
    replace H : (if 0 ≤ t450 then (if t450 < (y447.length : Int) then ((spec_l71Way.f k t435 t451).bind fun bt453 => (some (t444, t445, rd y447 t450, bt453.1))) else (none)) else (none)) = some (r1, r2, r3, r4) := H
    have A7 := Aside0.mk A70
    clear A70
    by_cases c8 : 0 ≤ t450
    · rw [if_pos c8] at H
      have c8b0 : decide (0 ≤ t450) = true := decide_eq_true c8
      clear c8
      by_cases c9 : t450 < (y447.length : Int)
      · rw [if_pos c9] at H
        have c9b0 : decide (t450 < (y447.length : Int)) = true := decide_eq_true c9
        clear c9
        replace H := Option.bind_eq_some_iff.mp H
        obtain ⟨⟨t453, t454⟩, A100, H⟩ := H
        replace H : (some (t444, t445, rd y447 t450, t453)) = some (r1, r2, r3, r4) := H
        have A10 := Aside0.mk A100
        clear A100
        simp only [Option.some.injEq, Prod.mk.injEq] at H
        obtain ⟨rfl, rfl, rfl, rfl⟩ := H
        go_enter Try.func32, Try.ntmps32
        try go_wp2_with (first | ((with_reducible refine gate_dst (N := 2) rfl ?_); refine box_event ?hg (N := 2) ?hd (cs := #[.int .i64 0, .int .i64 0]) (t := 24) ?hr ?_; (case hd => rfl); (case hg => rfl); (case hr => first | (go_simp; done) | (go_simp; rfl)); intro gb434 hg w11 hbox hb; have n0_ := Aside0.mk (below_step (by repeat (first | (with_reducible first | exact HB.out | apply below_alloc | apply pw_below_drewN | apply below_drew1) | exact HB.out)) hb); have n1_ := Aside0.mk (hbox); have n2_ := Aside0.mk ((by rw [hg]; exact (below_size (by repeat (first | (with_reducible first | exact HB.out | apply below_alloc | apply pw_below_drewN | apply below_drew1) | exact HB.out))) : w.heap.size ≤ gb434)); have n3_ := Aside0.mk ((by rw [hg]; exact (below_size (by repeat (first | (with_reducible first | exact HB.out | apply below_alloc | apply pw_below_drewN | apply below_drew1) | exact HB.out))) : w.heap.size ≤ gb434)); clear HB; have HB := n0_; have BK434 := n1_; have GW434 := n2_; have GE434 := n3_; clear n0_ n1_ n2_ n3_; clear hb hbox hg) | ((with_reducible refine gate_callee (f := 36) rfl ?_); refine goesL_ (some 8) rfl rfl Try.func36 (by kernel_rfl) rfl #[.slice A0 l0.length c0] rfl (by (try simp only [List.map_toArray, List.map_cons, List.map_nil]); first | done | rfl | (simp only [List.length_drop, List.length_take]; rfl)) ?_; (with_reducible refine (spec_l6Open.calls _ _ l0 t435 t436 w _ ?side1 ?side2 ?side3 A2.out).mono ?_); (case side1 => repeat (first | (with_reducible first | exact HB.out | apply below_alloc | apply pw_below_drewN | apply below_drew1 | refine below_set ?_ GE434.out) | exact HB.out)); (case side2 => exact HR0.out); (case side3 => exact HC0.out); rintro e w12 ⟨g437, rfl, hi, hb, hb2⟩; refine ⟨_, rfl, ?_⟩; have n0_ := Aside0.mk (blk_below (g := gb434) (o := .cells #[.int .i64 0, .int .i64 0] 24 (0, 0)) (by (with_reducible repeat (first | refine blk_drewN ?_ _ | refine blk_drew ?_ | refine blk_alloc ?_ _)); exact BK434.out) hb2); have n1_ := Aside0.mk (hb); have n2_ := Aside0.mk (hi); have n3_ := Aside0.mk (IsS72.ne_blk hi (blk_below (g := gb434) (o := .cells #[.int .i64 0, .int .i64 0] 24 (0, 0)) (by (with_reducible repeat (first | refine blk_drewN ?_ _ | refine blk_drew ?_ | refine blk_alloc ?_ _)); exact BK434.out) hb2) (by decide)); have n4_ := Aside0.mk (Ne.symm (IsS72.ne_blk hi (blk_below (g := gb434) (o := .cells #[.int .i64 0, .int .i64 0] 24 (0, 0)) (by (with_reducible repeat (first | refine blk_drewN ?_ _ | refine blk_drew ?_ | refine blk_alloc ?_ _)); exact BK434.out) hb2) (by decide))); clear BK434; clear HB; have BK434 := n0_; have HB := n1_; have HI437 := n2_; have NB437_434 := n3_; have NB434_437 := n4_; clear n0_ n1_ n2_ n3_ n4_; (try clear hb); (try clear hb2); (try clear hk); (try clear hi)) | ((with_reducible refine gate_callee (f := 38) rfl ?_); refine goesL_ (some 10) rfl rfl Try.func38 (by kernel_rfl) rfl #[.pointer (some ⟨g437, 0, none⟩)] rfl (by (try simp only [List.map_toArray, List.map_cons, List.map_nil]); first | done | rfl | (simp only [List.length_drop, List.length_take]; rfl)) ?_; (with_reducible refine (spec_l71Span.calls k g437 t435 t436 t438 t439 t440 w _ ?side1 ?side2 A3.out).mono ?_); (case side1 => repeat (first | (with_reducible first | exact HI437.out | apply IsS72.alloc | apply IsS72.drewN | apply IsS72.drew | apply IsS72.set_1 | refine IsS72.far ?_ NB437_434.out _) | exact HI437.out)); (case side2 => repeat (first | (with_reducible first | exact HB.out | apply below_alloc | apply pw_below_drewN | apply below_drew1 | refine below_set ?_ (IsS72.ge HI437.out) | refine below_set ?_ GE434.out) | exact HB.out)); rintro e w13 ⟨rfl, hi, hb, hk⟩; refine ⟨_, rfl, ?_⟩; have n0_ := Aside0.mk (KeepBut.blk hk (g' := gb434) (o := .cells #[.int .i64 0, .int .i64 0] 24 (0, 0)) (by (with_reducible repeat (first | refine blk_drewN ?_ _ | refine blk_drew ?_ | refine blk_alloc ?_ _)); exact BK434.out) NB434_437.out (by simp)); have n1_ := Aside0.mk (hb); have n2_ := Aside0.mk (hi); clear BK434; clear HB; clear HI437; have BK434 := n0_; have HB := n1_; have HI437 := n2_; clear n0_ n1_ n2_; (try clear hb); (try clear hb2); (try clear hk); (try clear hi)) | ((with_reducible refine gate_dst (N := 6) rfl ?_); refine box_event ?hg (N := 6) ?hd (cs := #[.int .i64 0, .int .i64 0]) (t := 24) ?hr ?_; (case hd => rfl); (case hg => rfl); (case hr => first | (go_simp; done) | (go_simp; rfl)); intro gb441 hg w14 hbox hb; have n0_ := Aside0.mk (blk_below (g := gb434) (o := .cells #[.int .i64 0, .int .i64 0] 24 (0, 0)) (by (with_reducible repeat (first | refine blk_drewN ?_ _ | refine blk_drew ?_ | refine blk_alloc ?_ _)); exact BK434.out) hb); have n1_ := Aside0.mk (IsS72.below (by repeat (first | (with_reducible first | exact HI437.out | apply IsS72.alloc | apply IsS72.drewN | apply IsS72.drew | apply IsS72.set_1 | refine IsS72.far ?_ NB437_434.out _) | exact HI437.out)) hb); have n2_ := Aside0.mk (below_step (by repeat (first | (with_reducible first | exact HB.out | apply below_alloc | apply pw_below_drewN | apply below_drew1 | refine below_set ?_ (IsS72.ge HI437.out) | refine below_set ?_ GE434.out) | exact HB.out)) hb); have n3_ := Aside0.mk (hbox); have n4_ := Aside0.mk ((by rw [hg]; exact (below_size (by repeat (first | (with_reducible first | exact HB.out | apply below_alloc | apply pw_below_drewN | apply below_drew1 | refine below_set ?_ (IsS72.ge HI437.out) | refine below_set ?_ GE434.out) | exact HB.out))) : w.heap.size ≤ gb441)); have n5_ := Aside0.mk ((by rw [hg]; exact (below_size (by repeat (first | (with_reducible first | exact HB.out | apply below_alloc | apply pw_below_drewN | apply below_drew1 | refine below_set ?_ (IsS72.ge HI437.out) | refine below_set ?_ GE434.out) | exact HB.out))) : w.heap.size ≤ gb441)); have n6_ := Aside0.mk ((by rw [hg]; exact Nat.ne_of_lt (blk_lt (g := gb434) (o := .cells #[.int .i64 0, .int .i64 0] 24 (0, 0)) (by (with_reducible repeat (first | refine blk_drewN ?_ _ | refine blk_drew ?_ | refine blk_alloc ?_ _)); exact BK434.out)) : gb434 ≠ gb441)); have n7_ := Aside0.mk ((by rw [hg]; exact Nat.ne_of_gt (blk_lt (g := gb434) (o := .cells #[.int .i64 0, .int .i64 0] 24 (0, 0)) (by (with_reducible repeat (first | refine blk_drewN ?_ _ | refine blk_drew ?_ | refine blk_alloc ?_ _)); exact BK434.out)) : gb441 ≠ gb434)); have n8_ := Aside0.mk ((by rw [hg]; exact Nat.ne_of_lt (IsS72.lt (show IsS72 w _ g437 t435 t440 from by repeat (first | (with_reducible first | exact HI437.out | apply IsS72.alloc | apply IsS72.drewN | apply IsS72.drew | apply IsS72.set_1 | refine IsS72.far ?_ NB437_434.out _) | exact HI437.out))) : g437 ≠ gb441)); have n9_ := Aside0.mk ((by rw [hg]; exact Nat.ne_of_gt (IsS72.lt (show IsS72 w _ g437 t435 t440 from by repeat (first | (with_reducible first | exact HI437.out | apply IsS72.alloc | apply IsS72.drewN | apply IsS72.drew | apply IsS72.set_1 | refine IsS72.far ?_ NB437_434.out _) | exact HI437.out))) : gb441 ≠ g437)); clear BK434; clear HI437; clear HB; have BK434 := n0_; have HI437 := n1_; have HB := n2_; have BK441 := n3_; have GW441 := n4_; have GE441 := n5_; have NB434_441 := n6_; have NB441_434 := n7_; have NB437_441 := n8_; have NB441_437 := n9_; clear n0_ n1_ n2_ n3_ n4_ n5_ n6_ n7_ n8_ n9_; clear hb hbox hg; have hnb15 := NB441_434.out; have hnc15 := NB434_441.out; have hnb16 := NB441_437.out; have hnc16 := NB437_441.out; have hcz17_0 : w14.cell? ⟨gb441, 0, none⟩ = some (.int .i64 0) := (blk_cell BK441.out 0).trans rfl; have hcz17_1 : w14.cell? ⟨gb441, 1, none⟩ = some (.int .i64 0) := (blk_cell BK441.out 1).trans rfl; have hfz17_0 := blk_frozen BK441.out 0; have hfz17_1 := blk_frozen BK441.out 1) | ((with_reducible refine gate_callee (f := 37) rfl ?_); refine goesL_ (some 12) rfl rfl Try.func37 (by kernel_rfl) rfl #[.pointer (some ⟨g437, 0, none⟩), .int .i64 3] rfl (by (try simp only [List.map_toArray, List.map_cons, List.map_nil]); first | done | rfl | (simp only [List.length_drop, List.length_take]; rfl)) ?_; (with_reducible refine (spec_l6Rd_pick.calls k g437 t435 t440 3 t442 t443 w _ ?side1 ?side2 A4.out).mono ?_); (case side1 => repeat (first | (with_reducible first | exact HI437.out | apply IsS72.alloc | apply IsS72.drewN | apply IsS72.drew | apply IsS72.set_1 | refine IsS72.far ?_ NB437_434.out _ | refine IsS72.far ?_ NB437_441.out _) | exact HI437.out)); (case side2 => repeat (first | (with_reducible first | exact HB.out | apply below_alloc | apply pw_below_drewN | apply below_drew1 | refine below_set ?_ (IsS72.ge HI437.out) | refine below_set ?_ GE434.out | refine below_set ?_ GE441.out) | exact HB.out)); rintro e w18 ⟨rfl, hi, hb, hk⟩; refine ⟨_, rfl, ?_⟩; have n0_ := Aside0.mk (KeepBut.blk hk (g' := gb434) (o := .cells #[.int .i64 0, .int .i64 0] 24 (0, 0)) (by (with_reducible repeat (first | refine blk_drewN ?_ _ | refine blk_drew ?_ | refine blk_alloc ?_ _)); refine blk_far ?_ NB434_441.out _; (with_reducible repeat (first | refine blk_drewN ?_ _ | refine blk_drew ?_ | refine blk_alloc ?_ _)); refine blk_far ?_ NB434_441.out _; (with_reducible repeat (first | refine blk_drewN ?_ _ | refine blk_drew ?_ | refine blk_alloc ?_ _)); exact BK434.out) NB434_437.out (by simp)); have n1_ := Aside0.mk (KeepBut.blk hk (g' := gb441) (o := .cells #[.int .i64 t438, .int .i64 t439] 24 (0, 0)) (by (with_reducible repeat (first | refine blk_drewN ?_ _ | refine blk_drew ?_ | refine blk_alloc ?_ _)); refine blk_put (cs := #[.int .i64 t438, .int .i64 0]) ?_ 1 _ rfl; (with_reducible repeat (first | refine blk_drewN ?_ _ | refine blk_drew ?_ | refine blk_alloc ?_ _)); refine blk_put (cs := #[.int .i64 0, .int .i64 0]) ?_ 0 _ rfl; (with_reducible repeat (first | refine blk_drewN ?_ _ | refine blk_drew ?_ | refine blk_alloc ?_ _)); exact BK441.out) NB441_437.out (by simp)); have n2_ := Aside0.mk (hb); have n3_ := Aside0.mk (hi); clear BK434; clear BK441; clear HB; clear HI437; have BK434 := n0_; have BK441 := n1_; have HB := n2_; have HI437 := n3_; clear n0_ n1_ n2_ n3_; (try clear hb); (try clear hb2); (try clear hk); (try clear hi)) | ((with_reducible refine gate_callee (f := 63) rfl ?_); refine goesL_ (some 15) rfl rfl Try.func63 (by kernel_rfl) rfl #[.pointer (some ⟨g437, 0, none⟩)] rfl (by (try simp only [List.map_toArray, List.map_cons, List.map_nil]); first | done | rfl | (simp only [List.length_drop, List.length_take]; rfl)) ?_; (with_reducible refine (spec_l71Mild.calls k g437 t435 t443 t444 t445 t446 w _ ?side1 ?side2 A6.out).mono ?_); (case side1 => repeat (first | (with_reducible first | exact HI437.out | apply IsS72.alloc | apply IsS72.drewN | apply IsS72.drew | apply IsS72.set_1 | refine IsS72.far ?_ NB437_434.out _ | refine IsS72.far ?_ NB437_441.out _) | exact HI437.out)); (case side2 => repeat (first | (with_reducible first | exact HB.out | apply below_alloc | apply pw_below_drewN | apply below_drew1 | refine below_set ?_ (IsS72.ge HI437.out) | refine below_set ?_ GE434.out | refine below_set ?_ GE441.out) | exact HB.out)); rintro e w19 ⟨rfl, hi, hb, hk⟩; refine ⟨_, rfl, ?_⟩; have n0_ := Aside0.mk (KeepBut.blk hk (g' := gb434) (o := .cells #[.int .i64 0, .int .i64 0] 24 (0, 0)) (by (with_reducible repeat (first | refine blk_drewN ?_ _ | refine blk_drew ?_ | refine blk_alloc ?_ _)); exact BK434.out) NB434_437.out (by simp)); have n1_ := Aside0.mk (KeepBut.blk hk (g' := gb441) (o := .cells #[.int .i64 t438, .int .i64 t439] 24 (0, 0)) (by (with_reducible repeat (first | refine blk_drewN ?_ _ | refine blk_drew ?_ | refine blk_alloc ?_ _)); exact BK441.out) NB441_437.out (by simp)); have n2_ := Aside0.mk (hb); have n3_ := Aside0.mk (hi); clear BK434; clear BK441; clear HB; clear HI437; have BK434 := n0_; have BK441 := n1_; have HB := n2_; have HI437 := n3_; clear n0_ n1_ n2_ n3_; (try clear hb); (try clear hb2); (try clear hk); (try clear hi); have hcz20_0 : w19.cell? ⟨gb441, 0, none⟩ = some (.int .i64 t438) := (blk_cell BK441.out 0).trans rfl; have hcz20_1 : w19.cell? ⟨gb441, 1, none⟩ = some (.int .i64 t439) := (blk_cell BK441.out 1).trans rfl; have hfz20_0 := blk_frozen BK441.out 0; have hfz20_1 := blk_frozen BK441.out 1))
        have pi452 : (0 ≤ (t450 : Int)) = True := eq_true (of_decide_eq_true (by first | (with_reducible assumption) | assumption))
        have qi452 : (t450 < (y447.length : Int)) = True := eq_true (of_decide_eq_true (by first | (with_reducible assumption) | assumption))
        have n0_ : Aside0 (((w19.setCell ⟨gb441, 0, none⟩ (.int .i64 t444)).setCell ⟨gb441, 1, none⟩ (.int .i64 t445)).heap[gb434]? = some (.cells #[.int .i64 0, .int .i64 0] 24 (0, 0))) := ⟨by (with_reducible repeat (first | refine blk_drewN ?_ _ | refine blk_drew ?_ | refine blk_alloc ?_ _)); refine blk_far ?_ NB434_441.out _; (with_reducible repeat (first | refine blk_drewN ?_ _ | refine blk_drew ?_ | refine blk_alloc ?_ _)); refine blk_far ?_ NB434_441.out _; (with_reducible repeat (first | refine blk_drewN ?_ _ | refine blk_drew ?_ | refine blk_alloc ?_ _)); exact BK434.out⟩
        have n1_ : Aside0 (((w19.setCell ⟨gb441, 0, none⟩ (.int .i64 t444)).setCell ⟨gb441, 1, none⟩ (.int .i64 t445)).heap[gb441]? = some (.cells #[.int .i64 t444, .int .i64 t445] 24 (0, 0))) := ⟨by (with_reducible repeat (first | refine blk_drewN ?_ _ | refine blk_drew ?_ | refine blk_alloc ?_ _)); refine blk_put (cs := #[.int .i64 t444, .int .i64 t439]) ?_ 1 _ rfl; (with_reducible repeat (first | refine blk_drewN ?_ _ | refine blk_drew ?_ | refine blk_alloc ?_ _)); refine blk_put (cs := #[.int .i64 t438, .int .i64 t439]) ?_ 0 _ rfl; (with_reducible repeat (first | refine blk_drewN ?_ _ | refine blk_drew ?_ | refine blk_alloc ?_ _)); exact BK441.out⟩
        have n2_ : Aside0 (IsS72 w ((w19.setCell ⟨gb441, 0, none⟩ (.int .i64 t444)).setCell ⟨gb441, 1, none⟩ (.int .i64 t445)) g437 t435 t446) := ⟨by repeat (first | (with_reducible first | exact HI437.out | apply IsS72.alloc | apply IsS72.drewN | apply IsS72.drew | apply IsS72.set_1 | refine IsS72.far ?_ NB437_434.out _ | refine IsS72.far ?_ NB437_441.out _) | exact HI437.out)⟩
        have n3_ : Aside0 (Below w.heap.size w ((w19.setCell ⟨gb441, 0, none⟩ (.int .i64 t444)).setCell ⟨gb441, 1, none⟩ (.int .i64 t445))) := ⟨by repeat (first | (with_reducible first | exact HB.out | apply below_alloc | apply pw_below_drewN | apply below_drew1 | refine below_set ?_ (IsS72.ge HI437.out) | refine below_set ?_ GE434.out | refine below_set ?_ GE441.out) | exact HB.out)⟩
        (try clear BK434)
        (try clear BK441)
        (try clear HI437)
        (try clear HB)
        generalize ((w19.setCell ⟨gb441, 0, none⟩ (.int .i64 t444)).setCell ⟨gb441, 1, none⟩ (.int .i64 t445)) = w21 at n0_ n1_ n2_ n3_ ⊢
        have BK434 := n0_
        have BK441 := n1_
        have HI437 := n2_
        have HB := n3_
        clear n0_ n1_ n2_ n3_
        have n0_ := Aside0.mk (blk_drew BK434.out)
        have n1_ := Aside0.mk (blk_drew BK441.out)
        have n2_ := Aside0.mk (IsS72.drew HI437.out)
        have n3_ := Aside0.mk (below_drew1 HB.out)
        clear BK434
        clear BK441
        clear HI437
        clear HB
        have BK434 := n0_
        have BK441 := n1_
        have HI437 := n2_
        have HB := n3_
        clear n0_ n1_ n2_ n3_
        refine start_ (n := 11) (S := fun w' => True) (ds := []) #[false, false, false, false, false, false, false, false, false, false, false] (by kernel_rfl) rfl rfl trivial (fun hHeld => ?_); refine with_tabW spec_DrawSureRound.tab5 spec_DrawSureRound.bits5 (fun HT_ HW_ => ?_)
        generalize w21.drew = w22 at BK434 BK441 HI437 HB hHeld ⊢
        refine pure_ (i := 2) (N := some 18) (v := ?_) (a' := ?_) #[false, false, true, false, false, false, false, false, false, false, false] rfl rfl (any_of HT_.out (by kernel_rfl)) (fun _ _ _ h => h) (Or.inl ⟨by rfl, ?_⟩) ?_ ?_
        rotate_left
        · intro w'
          go_simp
          with_reducible rfl
        rotate_left
        · simp only [Act.put, List.setIfInBounds_toArray, List.set_cons_zero, List.set_cons_succ, i64_w, i32_w]
          rfl
        refine pure_ (i := 6) (N := some 22) (v := ?_) (a' := ?_) #[false, false, true, false, false, false, true, false, false, false, false] rfl rfl (any_of HT_.out (by kernel_rfl)) (fun _ _ _ h => h) (Or.inl ⟨by rfl, ?_⟩) ?_ ?_
        rotate_left
        · intro w'
          go_simp
          with_reducible rfl
        rotate_left
        · simp only [Act.put, List.setIfInBounds_toArray, List.set_cons_zero, List.set_cons_succ, i64_w, i32_w]
          rfl
        refine inv_at [0, 1, 3, 4, 5, 7, 8, 9, 10] (fun a0_ b a w' => ∃ (v448 : Value) (adz_v448 : Addr) (m4_ : Value), a = putSel a0_ b [(0, 16, .agg #[.int .i64 t444, .int .i64 t445]), (1, 17, v448), (3, 19, .int .i64 t450), (4, 20, m4_), (5, 21, .int .i64 (rd y447 t450)), (7, 23, .int .i64 t453), (9, 3, .int .i64 (rd y447 t450)), (10, 4, .int .i64 t453)] ∧ (b 8 = false → w'.heap[gb434]? = some (.cells #[.int .i64 0, .int .i64 0] 24 (0, 0))) ∧ (w'.heap[gb441]? = some (.cells #[.int .i64 t444, .int .i64 t445] 24 (0, 0))) ∧ (b 3 = false → IsS72 w w' g437 t435 t446) ∧ (Below w.heap.size w w') ∧ (b 1 = true → Kd.R (Kd.int .i64) 3 w' w.heap.size (fun _ => True) v448 y447) ∧ (b 1 = true → ∃ c_, (v448 : Value) = .slice (some adz_v448) y447.length c_) ∧ (b 3 = true → b 7 = false → IsS72 w w' g437 t435 t451) ∧ (b 7 = true → IsS72 w w' g437 t435 t454) ∧ (b 8 = true → w'.heap[gb434]? = some (.cells #[.int .i64 t444, .int .i64 t445] 24 (0, 0))) ∧ (b 4 = true → (m4_ : Value) = .pointer (some (adz_v448.add (t450).toNat)))) HT_.out HW_.out (by kernel_rfl) (by kernel_rfl) ?_ ?_ ?_
        · exact ⟨.bool false, ⟨0, 0, none⟩, .bool false, by simp only [putSel, Bool.false_eq_true, if_false], fun _ => BK434.out, BK441.out, fun _ => HI437.out, HB.out, fun h_ => absurd h_ (by decide), fun h_ => absurd h_ (by decide), fun h_ => absurd h_ (by decide), fun h_ => absurd h_ (by decide), fun h_ => absurd h_ (by decide), fun h_ => absurd h_ (by decide)⟩
        · skip
          clear BK434 BK441 HB HI437
          refine steps_cons ?_ ?_
          · rintro b a w' ⟨v448, adz_v448, m4_, ha, Q_BK434, Q_BK441, Q_HI437, Q_HB, Q_HO449, Q_HA_HO449, Q_HI437_e3, Q_HI437_e7, Q_BK434_e8, Q_X4_⟩ hb_ hon hoff
            refine ⟨_, rfl, fun K hK => ?_⟩
            have e6 : a.tmps[6]? = some (.pointer (some ⟨gb441, 0, none⟩)) := by rw [ha]; exact (putSel_off rfl).trans rfl
            replace ha := Aside0.mk ha
            have BK434 := Aside0.mk (Q_BK434 (hoff 8 (by kernel_rfl)))
            have BK441 := Aside0.mk Q_BK441
            have HB := Aside0.mk Q_HB
            have hc0_ : w'.cell? ⟨gb441, 0, none⟩ = some (.int .i64 t444) := (blk_cell BK441.out 0).trans rfl
            have hc1_ : w'.cell? ⟨gb441, 1, none⟩ = some (.int .i64 t445) := (blk_cell BK441.out 1).trans rfl
            refine value_ (w1 := w') (v := .agg #[.int .i64 t444, .int .i64 t445]) (by rfl) rfl ?_ ?_
            · go_simp
              (try simp only [i64_w])
              try rfl
            refine hK.out _ _ ⟨v448, adz_v448, m4_, (by rw [ha.out]; exact putSel_upk 0 hb_ rfl rfl rfl), Q_BK434, Q_BK441, Q_HI437, Q_HB, Q_HO449, Q_HA_HO449, Q_HI437_e3, Q_HI437_e7, fun h0_ => absurd ((hoff 8 (by kernel_rfl)).symm.trans h0_) (by decide), Q_X4_⟩
          refine steps_cons ?_ ?_
          · rintro b a w' ⟨v448, adz_v448, m4_, ha, Q_BK434, Q_BK441, Q_HI437, Q_HB, Q_HO449, Q_HA_HO449, Q_HI437_e3, Q_HI437_e7, Q_BK434_e8, Q_X4_⟩ hb_ hon hoff
            refine ⟨_, rfl, fun K hK => ?_⟩
            replace ha := Aside0.mk ha
            have BK441 := Aside0.mk Q_BK441
            have HB := Aside0.mk Q_HB
            refine Kd.R_lit_step (Kd.int .i64) _ 3 ?hg (N := 17) ?hd (xs := ([1, 10, 1000, 1000000, 100000000, 7, 1000000000, 0, 1000000001] : List Int)) (inner := [.int .i64 1, .int .i64 10, .int .i64 1000, .int .i64 1000000, .int .i64 100000000, .int .i64 7, .int .i64 1000000000, .int .i64 0, .int .i64 1000000001]) (ok := fun _ => True) (okp := fun _ => True) ?hr ?hp (fun _ hk => hk) trivial (Below.refl _ _) (Nat.le_refl _) (by simp) ?_; (case hd => rfl); (case hg => rfl); (case hr => first | (go_simp; done) | (go_simp; rfl)); (case hp => exact (Reps.one (show Kd.M (Kd.int .i64) _ _ _ 1 [.int .i64 1] from rfl) (Reps.one (show Kd.M (Kd.int .i64) _ _ _ 10 [.int .i64 10] from rfl) (Reps.one (show Kd.M (Kd.int .i64) _ _ _ 1000 [.int .i64 1000] from rfl) (Reps.one (show Kd.M (Kd.int .i64) _ _ _ 1000000 [.int .i64 1000000] from rfl) (Reps.one (show Kd.M (Kd.int .i64) _ _ _ 100000000 [.int .i64 100000000] from rfl) (Reps.one (show Kd.M (Kd.int .i64) _ _ _ 7 [.int .i64 7] from rfl) (Reps.one (show Kd.M (Kd.int .i64) _ _ _ 1000000000 [.int .i64 1000000000] from rfl) (Reps.one (show Kd.M (Kd.int .i64) _ _ _ 0 [.int .i64 0] from rfl) (Reps.one (show Kd.M (Kd.int .i64) _ _ _ 1000000001 [.int .i64 1000000001] from rfl) (Reps.none _ _)))))))))))
            intro v448 w23 ho24 hb hg_ hnew_
            clear hg_ hnew_
            (first | rw [← Ny447.out] at ho24 | (simp only [Int.reduceToNat] at ho24; rw [← Ny447.out] at ho24))
            have n0_ := Aside0.mk (Kd.R_lower ho24 (below_size (by repeat (first | (with_reducible first | exact HB.out | apply below_alloc | apply pw_below_drewN | apply below_drew1 | refine below_set ?_ GE434.out | refine below_set ?_ GE441.out) | exact HB.out))))
            have n3_ := Aside0.mk (blk_below (g := gb441) (o := .cells #[.int .i64 t444, .int .i64 t445] 24 (0, 0)) (by (with_reducible repeat (first | refine blk_drewN ?_ _ | refine blk_drew ?_ | refine blk_alloc ?_ _)); exact BK441.out) hb)
            have n4_ := Aside0.mk (below_step (by repeat (first | (with_reducible first | exact HB.out | apply below_alloc | apply pw_below_drewN | apply below_drew1 | refine below_set ?_ GE434.out | refine below_set ?_ GE441.out) | exact HB.out)) hb)
            have z_BK434 := fun (h0_ : b 8 = false) => (show w23.heap[gb434]? = some (.cells #[.int .i64 0, .int .i64 0] 24 (0, 0)) from by first | exact (blk_below (g := gb434) (o := .cells #[.int .i64 0, .int .i64 0] 24 (0, 0)) (by (with_reducible repeat (first | refine blk_drewN ?_ _ | refine blk_drew ?_ | refine blk_alloc ?_ _)); exact (Q_BK434 h0_)) hb))
            have z_HI437 := fun (h0_ : b 3 = false) => (show IsS72 w w23 g437 t435 t446 from by first | exact (IsS72.below (by repeat (first | (with_reducible first | exact (Q_HI437 h0_) | apply IsS72.alloc | apply IsS72.drewN | apply IsS72.drew | apply IsS72.set_1 | refine IsS72.far ?_ NB437_434.out _ | refine IsS72.far ?_ NB437_441.out _) | exact (Q_HI437 h0_))) hb))
            have z_HI437_e3 := fun (h0_ : b 3 = true) (h1_ : b 7 = false) => (show IsS72 w w23 g437 t435 t451 from by first | exact (IsS72.below (by repeat (first | (with_reducible first | exact (Q_HI437_e3 h0_ h1_) | apply IsS72.alloc | apply IsS72.drewN | apply IsS72.drew | apply IsS72.set_1 | refine IsS72.far ?_ NB437_434.out _ | refine IsS72.far ?_ NB437_441.out _) | exact (Q_HI437_e3 h0_ h1_))) hb))
            have z_HI437_e7 := fun (h0_ : b 7 = true) => (show IsS72 w w23 g437 t435 t454 from by first | exact (IsS72.below (by repeat (first | (with_reducible first | exact (Q_HI437_e7 h0_) | apply IsS72.alloc | apply IsS72.drewN | apply IsS72.drew | apply IsS72.set_1 | refine IsS72.far ?_ NB437_434.out _ | refine IsS72.far ?_ NB437_441.out _) | exact (Q_HI437_e7 h0_))) hb))
            have z_BK434_e8 := fun (h0_ : b 8 = true) => (show w23.heap[gb434]? = some (.cells #[.int .i64 t444, .int .i64 t445] 24 (0, 0)) from by first | exact (blk_below (g := gb434) (o := .cells #[.int .i64 t444, .int .i64 t445] 24 (0, 0)) (by (with_reducible repeat (first | refine blk_drewN ?_ _ | refine blk_drew ?_ | refine blk_alloc ?_ _)); exact (Q_BK434_e8 h0_)) hb))
            clear BK441
            clear HB
            have HO449 := n0_
            have BK441 := n3_
            have HB := n4_
            clear n0_ n3_ n4_
            clear hb ho24
            obtain ⟨Ao25, co25, eo25⟩ := Kd.R_slice HO449.out
            subst eo25
            obtain ⟨ado25, fo25, _⟩ := Kd.at_int (Kd.R_reads' HO449.out).2.2 0 (by decide) (by rw [Ny447.out]; simp)
            cases fo25
            refine hK.out _ _ ⟨.slice (some ado25) y447.length co25, ado25, m4_, (by rw [ha.out]; exact putSel_upk 1 hb_ rfl rfl rfl), z_BK434, (by (with_reducible repeat (first | refine blk_drewN ?_ _ | refine blk_drew ?_ | refine blk_alloc ?_ _)); exact BK441.out), z_HI437, (by repeat (first | (with_reducible first | exact HB.out | apply below_alloc | apply pw_below_drewN | apply below_drew1 | refine below_set ?_ GE434.out | refine below_set ?_ GE441.out) | exact HB.out)), fun _ => (by (with_reducible repeat (first | apply Kd.R_alloc | apply Kd.R_drewN | apply Kd.R_drew)); exact HO449.out), fun _ => ⟨_, rfl⟩, z_HI437_e3, z_HI437_e7, z_BK434_e8, fun h0_ => absurd ((hoff 4 (by kernel_rfl)).symm.trans h0_) (by decide)⟩
          refine steps_cons ?_ ?_
          · rintro b a w' ⟨v448, adz_v448, m4_, ha, Q_BK434, Q_BK441, Q_HI437, Q_HB, Q_HO449, Q_HA_HO449, Q_HI437_e3, Q_HI437_e7, Q_BK434_e8, Q_X4_⟩ hb_ hon hoff
            refine ⟨_, rfl, fun K hK => ?_⟩
            have e18 : a.tmps[18]? = some (.pointer (some ⟨g437, 0, none⟩)) := by rw [ha]; exact (putSel_off rfl).trans rfl
            replace ha := Aside0.mk ha
            have BK434 := Aside0.mk (Q_BK434 (hoff 8 (by kernel_rfl)))
            have BK441 := Aside0.mk Q_BK441
            have HI437 := Aside0.mk (Q_HI437 hb_)
            have HB := Aside0.mk Q_HB
            refine goes_ Try.func37 (by kernel_rfl) rfl #[.pointer (some ⟨g437, 0, none⟩), .int .i64 9] (by rfl) rfl rfl (by first | (simp only [List.map_toArray, List.map_cons, List.map_nil, Act.eval, Array.getD_eq_getD_getElem?, Option.getD_some, e18]; done) | (simp only [List.map_toArray, List.map_cons, List.map_nil, Act.eval, Array.getD_eq_getD_getElem?, Option.getD_some, e18]; rfl)) ?_
            with_reducible refine (spec_l6Rd_pick.calls k g437 t435 t446 9 t450 t451 w _ ?side1 ?side2 A7.out).mono ?_
            (case side1 => repeat (first | (with_reducible first | exact HI437.out | apply IsS72.alloc | apply IsS72.drewN | apply IsS72.drew | apply IsS72.set_1 | refine IsS72.far ?_ NB437_434.out _ | refine IsS72.far ?_ NB437_441.out _) | exact HI437.out))
            (case side2 => repeat (first | (with_reducible first | exact HB.out | apply below_alloc | apply pw_below_drewN | apply below_drew1 | refine below_set ?_ (IsS72.ge HI437.out) | refine below_set ?_ GE434.out | refine below_set ?_ GE441.out) | exact HB.out))
            rintro e w23 ⟨rfl, hi, hb, hk⟩
            refine ⟨_, rfl, ?_⟩
            have n0_ := Aside0.mk (KeepBut.blk hk (g' := gb434) (o := .cells #[.int .i64 0, .int .i64 0] 24 (0, 0)) (by (with_reducible repeat (first | refine blk_drewN ?_ _ | refine blk_drew ?_ | refine blk_alloc ?_ _)); exact BK434.out) NB434_437.out (by simp))
            have n1_ := Aside0.mk (KeepBut.blk hk (g' := gb441) (o := .cells #[.int .i64 t444, .int .i64 t445] 24 (0, 0)) (by (with_reducible repeat (first | refine blk_drewN ?_ _ | refine blk_drew ?_ | refine blk_alloc ?_ _)); exact BK441.out) NB441_437.out (by simp))
            have n2_ := Aside0.mk (hb)
            have n3_ := Aside0.mk (hi)
            have z_HO449 := fun (h0_ : b 1 = true) => (show Kd.R (Kd.int .i64) 3 w23 w.heap.size (fun _ => True) v448 y447 from by first | exact (Kd.R_mono (Kd.R_keep (IsS72.apart (show IsS72 w _ g437 t435 t446 from by repeat (first | (with_reducible first | exact HI437.out | apply IsS72.alloc | apply IsS72.drewN | apply IsS72.drew | apply IsS72.set_1 | refine IsS72.far ?_ NB437_434.out _ | refine IsS72.far ?_ NB437_441.out _) | exact HI437.out)) (by (with_reducible repeat (first | apply Kd.R_alloc | apply Kd.R_drewN | apply Kd.R_drew)); exact (Q_HO449 h0_)) (by decide)) hk (fun _ h => h.2)) (fun _ h => h.1)) | exact Kd.R_mono (Kd.R_mono (Kd.R_keep (IsS72.apart (show IsS72 w _ g437 t435 t446 from by repeat (first | (with_reducible first | exact HI437.out | apply IsS72.alloc | apply IsS72.drewN | apply IsS72.drew | apply IsS72.set_1 | refine IsS72.far ?_ NB437_434.out _ | refine IsS72.far ?_ NB437_441.out _) | exact HI437.out)) (by (with_reducible repeat (first | apply Kd.R_alloc | apply Kd.R_drewN | apply Kd.R_drew)); exact (Q_HO449 h0_)) (by decide)) hk (fun _ h => h.2)) (fun _ h => h.1)) (fun _ h_ => by first | trivial | exact h_ | exact h_.1))
            clear BK434
            clear BK441
            clear HB
            clear HI437
            have BK434 := n0_
            have BK441 := n1_
            have HB := n2_
            have HI437 := n3_
            clear n0_ n1_ n2_ n3_
            (try clear hb)
            (try clear hb2)
            (try clear hk)
            (try clear hi)
            refine hK.out _ _ ⟨v448, adz_v448, m4_, (by rw [ha.out]; exact putSel_upk 2 hb_ rfl rfl rfl), fun _ => (by (with_reducible repeat (first | refine blk_drewN ?_ _ | refine blk_drew ?_ | refine blk_alloc ?_ _)); exact BK434.out), (by (with_reducible repeat (first | refine blk_drewN ?_ _ | refine blk_drew ?_ | refine blk_alloc ?_ _)); exact BK441.out), fun h0_ => absurd ((up_self b 3).symm.trans h0_) (by decide), (by repeat (first | (with_reducible first | exact HB.out | apply below_alloc | apply pw_below_drewN | apply below_drew1 | refine below_set ?_ (IsS72.ge HI437.out) | refine below_set ?_ GE434.out | refine below_set ?_ GE441.out) | exact HB.out)), z_HO449, Q_HA_HO449, fun _ _ => (by repeat (first | (with_reducible first | exact HI437.out | apply IsS72.alloc | apply IsS72.drewN | apply IsS72.drew | apply IsS72.set_1 | refine IsS72.far ?_ NB437_434.out _ | refine IsS72.far ?_ NB437_441.out _) | exact HI437.out)), fun h0_ => absurd ((hoff 7 (by kernel_rfl)).symm.trans h0_) (by decide), fun h0_ => absurd ((hoff 8 (by kernel_rfl)).symm.trans h0_) (by decide), fun h0_ => absurd ((hoff 4 (by kernel_rfl)).symm.trans h0_) (by decide)⟩
          refine steps_cons ?_ ?_
          · rintro b a w' ⟨v448, adz_v448, m4_, ha, Q_BK434, Q_BK441, Q_HI437, Q_HB, Q_HO449, Q_HA_HO449, Q_HI437_e3, Q_HI437_e7, Q_BK434_e8, Q_X4_⟩ hb_ hon hoff
            refine ⟨_, rfl, fun K hK => ?_⟩
            have e17 : a.tmps[17]? = some (v448) := by rw [ha]; exact putSel_on (e := (1, 17, v448)) 1 rfl rfl (hon 1 (by kernel_rfl)) rfl
            have e19 : a.tmps[19]? = some (.int .i64 t450) := by rw [ha]; exact putSel_on (e := (3, 19, .int .i64 t450)) 2 rfl rfl (hon 3 (by kernel_rfl)) rfl
            replace ha := Aside0.mk ha
            have BK441 := Aside0.mk Q_BK441
            have HB := Aside0.mk Q_HB
            have HO449 := Aside0.mk (Q_HO449 (hon 1 (by kernel_rfl)))
            have HA_HO449 := Aside0.mk (Q_HA_HO449 (hon 1 (by kernel_rfl)))
            obtain ⟨c_, hv_⟩ := HA_HO449.out
            rw [hv_] at e17
            refine value_ (w1 := w') (v := .pointer (some (adz_v448.add (t450).toNat))) (by rfl) rfl ?_ ?_
            · go_simp
              (try simp only [i64_w])
              try rfl
            refine hK.out _ _ ⟨v448, adz_v448, (.pointer (some (adz_v448.add (t450).toNat))), (by rw [ha.out]; exact putSel_upk 3 hb_ rfl rfl rfl), Q_BK434, Q_BK441, fun h0_ => absurd ((hon 3 (by kernel_rfl)).symm.trans h0_) (by decide), Q_HB, Q_HO449, Q_HA_HO449, Q_HI437_e3, Q_HI437_e7, Q_BK434_e8, fun _ => rfl⟩
          refine steps_cons ?_ ?_
          · rintro b a w' ⟨v448, adz_v448, m4_, ha, Q_BK434, Q_BK441, Q_HI437, Q_HB, Q_HO449, Q_HA_HO449, Q_HI437_e3, Q_HI437_e7, Q_BK434_e8, Q_X4_⟩ hb_ hon hoff
            refine ⟨_, rfl, fun K hK => ?_⟩
            have e20 : a.tmps[20]? = some (m4_) := by rw [ha]; exact putSel_on (e := (4, 20, m4_)) 3 rfl rfl (hon 4 (by kernel_rfl)) rfl
            rw [Q_X4_ (hon 4 (by kernel_rfl))] at e20
            replace ha := Aside0.mk ha
            have BK441 := Aside0.mk Q_BK441
            have HB := Aside0.mk Q_HB
            have HO449 := Aside0.mk (Q_HO449 (hon 1 (by kernel_rfl)))
            have HA_HO449 := Aside0.mk (Q_HA_HO449 (hon 1 (by kernel_rfl)))
            obtain ⟨c_, hv_⟩ := HA_HO449.out
            have hF_ := HO449.out
            rw [hv_] at hF_
            obtain ⟨ad_, ea_, hx_⟩ := Kd.at_int (Kd.R_reads' hF_).2.2 t450 (of_eq_true pi452) (of_eq_true qi452)
            cases ea_
            refine value_ (w1 := w') (v := .int .i64 (rd y447 t450)) (by rfl) rfl ?_ ?_
            · go_simp
              (try simp only [i64_w])
              try rfl
            refine hK.out _ _ ⟨v448, adz_v448, m4_, (by rw [ha.out]; exact putSel_upk 4 hb_ rfl rfl rfl), Q_BK434, Q_BK441, fun h0_ => absurd ((hon 3 (by kernel_rfl)).symm.trans h0_) (by decide), Q_HB, Q_HO449, Q_HA_HO449, Q_HI437_e3, Q_HI437_e7, Q_BK434_e8, Q_X4_⟩
          refine steps_cons ?_ ?_
          · rintro b a w' ⟨v448, adz_v448, m4_, ha, Q_BK434, Q_BK441, Q_HI437, Q_HB, Q_HO449, Q_HA_HO449, Q_HI437_e3, Q_HI437_e7, Q_BK434_e8, Q_X4_⟩ hb_ hon hoff
            refine ⟨_, rfl, fun K hK => ?_⟩
            have e22 : a.tmps[22]? = some (.pointer (some ⟨g437, 0, none⟩)) := by rw [ha]; exact (putSel_off rfl).trans rfl
            replace ha := Aside0.mk ha
            have BK434 := Aside0.mk (Q_BK434 (hoff 8 (by kernel_rfl)))
            have BK441 := Aside0.mk Q_BK441
            have HB := Aside0.mk Q_HB
            have HI437 := Aside0.mk (Q_HI437_e3 (hon 3 (by kernel_rfl)) hb_)
            refine goes_ Try.func56 (by kernel_rfl) rfl #[.pointer (some ⟨g437, 0, none⟩)] (by rfl) rfl rfl (by first | (simp only [List.map_toArray, List.map_cons, List.map_nil, Act.eval, Array.getD_eq_getD_getElem?, Option.getD_some, e22]; done) | (simp only [List.map_toArray, List.map_cons, List.map_nil, Act.eval, Array.getD_eq_getD_getElem?, Option.getD_some, e22]; rfl)) ?_
            with_reducible refine (spec_l71Way.calls k g437 t435 t451 t453 t454 w _ ?side1 ?side2 A10.out).mono ?_
            (case side1 => repeat (first | (with_reducible first | exact HI437.out | apply IsS72.alloc | apply IsS72.drewN | apply IsS72.drew | apply IsS72.set_1 | refine IsS72.far ?_ NB437_434.out _ | refine IsS72.far ?_ NB437_441.out _) | exact HI437.out))
            (case side2 => repeat (first | (with_reducible first | exact HB.out | apply below_alloc | apply pw_below_drewN | apply below_drew1 | refine below_set ?_ (IsS72.ge HI437.out) | refine below_set ?_ GE434.out | refine below_set ?_ GE441.out) | exact HB.out))
            rintro e w25 ⟨rfl, hi, hb, hk⟩
            refine ⟨_, rfl, ?_⟩
            have n0_ := Aside0.mk (KeepBut.blk hk (g' := gb434) (o := .cells #[.int .i64 0, .int .i64 0] 24 (0, 0)) (by (with_reducible repeat (first | refine blk_drewN ?_ _ | refine blk_drew ?_ | refine blk_alloc ?_ _)); exact BK434.out) NB434_437.out (by simp))
            have n1_ := Aside0.mk (KeepBut.blk hk (g' := gb441) (o := .cells #[.int .i64 t444, .int .i64 t445] 24 (0, 0)) (by (with_reducible repeat (first | refine blk_drewN ?_ _ | refine blk_drew ?_ | refine blk_alloc ?_ _)); exact BK441.out) NB441_437.out (by simp))
            have n2_ := Aside0.mk (hb)
            have n3_ := Aside0.mk (hi)
            have z_HO449 := fun (h0_ : b 1 = true) => (show Kd.R (Kd.int .i64) 3 w25 w.heap.size (fun _ => True) v448 y447 from by first | exact (Kd.R_mono (Kd.R_keep (IsS72.apart (show IsS72 w _ g437 t435 t451 from by repeat (first | (with_reducible first | exact HI437.out | apply IsS72.alloc | apply IsS72.drewN | apply IsS72.drew | apply IsS72.set_1 | refine IsS72.far ?_ NB437_434.out _ | refine IsS72.far ?_ NB437_441.out _) | exact HI437.out)) (by (with_reducible repeat (first | apply Kd.R_alloc | apply Kd.R_drewN | apply Kd.R_drew)); exact (Q_HO449 h0_)) (by decide)) hk (fun _ h => h.2)) (fun _ h => h.1)) | exact Kd.R_mono (Kd.R_mono (Kd.R_keep (IsS72.apart (show IsS72 w _ g437 t435 t451 from by repeat (first | (with_reducible first | exact HI437.out | apply IsS72.alloc | apply IsS72.drewN | apply IsS72.drew | apply IsS72.set_1 | refine IsS72.far ?_ NB437_434.out _ | refine IsS72.far ?_ NB437_441.out _) | exact HI437.out)) (by (with_reducible repeat (first | apply Kd.R_alloc | apply Kd.R_drewN | apply Kd.R_drew)); exact (Q_HO449 h0_)) (by decide)) hk (fun _ h => h.2)) (fun _ h => h.1)) (fun _ h_ => by first | trivial | exact h_ | exact h_.1))
            clear BK434
            clear BK441
            clear HB
            clear HI437
            have BK434 := n0_
            have BK441 := n1_
            have HB := n2_
            have HI437 := n3_
            clear n0_ n1_ n2_ n3_
            (try clear hb)
            (try clear hb2)
            (try clear hk)
            (try clear hi)
            refine hK.out _ _ ⟨v448, adz_v448, m4_, (by rw [ha.out]; exact putSel_upk 5 hb_ rfl rfl rfl), fun _ => (by (with_reducible repeat (first | refine blk_drewN ?_ _ | refine blk_drew ?_ | refine blk_alloc ?_ _)); exact BK434.out), (by (with_reducible repeat (first | refine blk_drewN ?_ _ | refine blk_drew ?_ | refine blk_alloc ?_ _)); exact BK441.out), fun h0_ => absurd ((hon 3 (by kernel_rfl)).symm.trans h0_) (by decide), (by repeat (first | (with_reducible first | exact HB.out | apply below_alloc | apply pw_below_drewN | apply below_drew1 | refine below_set ?_ (IsS72.ge HI437.out) | refine below_set ?_ GE434.out | refine below_set ?_ GE441.out) | exact HB.out)), z_HO449, Q_HA_HO449, fun _ h1_ => absurd ((up_self b 7).symm.trans h1_) (by decide), fun _ => (by repeat (first | (with_reducible first | exact HI437.out | apply IsS72.alloc | apply IsS72.drewN | apply IsS72.drew | apply IsS72.set_1 | refine IsS72.far ?_ NB437_434.out _ | refine IsS72.far ?_ NB437_441.out _) | exact HI437.out)), fun h0_ => absurd ((hoff 8 (by kernel_rfl)).symm.trans h0_) (by decide), Q_X4_⟩
          refine steps_cons ?_ ?_
          · rintro b a w' ⟨v448, adz_v448, m4_, ha, Q_BK434, Q_BK441, Q_HI437, Q_HB, Q_HO449, Q_HA_HO449, Q_HI437_e3, Q_HI437_e7, Q_BK434_e8, Q_X4_⟩ hb_ hon hoff
            refine ⟨_, rfl, fun K hK => ?_⟩
            have e2 : a.tmps[2]? = some (.pointer (some ⟨gb434, 0, none⟩)) := by rw [ha]; exact (putSel_off rfl).trans rfl
            have e16 : a.tmps[16]? = some (.agg #[.int .i64 t444, .int .i64 t445]) := by rw [ha]; exact putSel_on (e := (0, 16, .agg #[.int .i64 t444, .int .i64 t445])) 0 rfl rfl (hon 0 (by kernel_rfl)) rfl
            replace ha := Aside0.mk ha
            have BK434 := Aside0.mk (Q_BK434 hb_)
            have BK441 := Aside0.mk Q_BK441
            have HB := Aside0.mk Q_HB
            have HI437 := Aside0.mk (Q_HI437_e7 (hon 7 (by kernel_rfl)))
            have hs26 : w'.cell? ⟨gb434, 0, none⟩ = some (.int .i64 0) := (blk_cell BK434.out 0).trans rfl
            have hfs26 := blk_frozen BK434.out 0
            have hns26_1 := NB441_434.out
            have hms26_1 := NB434_441.out
            have hs27 : w'.cell? ⟨gb434, 1, none⟩ = some (.int .i64 0) := (blk_cell BK434.out 1).trans rfl
            have hfs27 := blk_frozen BK434.out 1
            have hns27_1 := NB441_434.out
            have hms27_1 := NB434_441.out
            refine skip_ (w1 := ?_) (by rfl) rfl ?_ ?_
            rotate_left
            · go_simp
              rfl
            refine hK.out _ _ ⟨v448, adz_v448, m4_, (by rw [ha.out]; exact putSel_none (v := undef) rfl), fun h0_ => absurd ((up_self b 8).symm.trans h0_) (by decide), (by (with_reducible repeat (first | refine blk_drewN ?_ _ | refine blk_drew ?_ | refine blk_alloc ?_ _)); refine blk_far ?_ NB441_434.out _; (with_reducible repeat (first | refine blk_drewN ?_ _ | refine blk_drew ?_ | refine blk_alloc ?_ _)); refine blk_far ?_ NB441_434.out _; (with_reducible repeat (first | refine blk_drewN ?_ _ | refine blk_drew ?_ | refine blk_alloc ?_ _)); exact BK441.out), fun h0_ => absurd ((hon 3 (by kernel_rfl)).symm.trans h0_) (by decide), (by repeat (first | (with_reducible first | exact HB.out | apply below_alloc | apply pw_below_drewN | apply below_drew1 | refine below_set ?_ (IsS72.ge HI437.out) | refine below_set ?_ GE434.out | refine below_set ?_ GE441.out) | exact HB.out)), fun h0_ => (by (with_reducible repeat (first | apply Kd.R_alloc | apply Kd.R_drewN | apply Kd.R_drew)); exact Kd.R_mono (Kd.R_far (p := ⟨gb434, 1, none⟩) (Kd.R_far (p := ⟨gb434, 0, none⟩) (Kd.R_types (Q_HO449 h0_) BK434.out (by decide)) (fun _ hk => hk.2) (.int .i64 t444)) (fun _ hk => hk.2) (.int .i64 t445)) (fun _ hk => trivial)), Q_HA_HO449, fun _ h1_ => absurd ((hon 7 (by kernel_rfl)).symm.trans h1_) (by decide), fun _ => (by repeat (first | (with_reducible first | exact HI437.out | apply IsS72.alloc | apply IsS72.drewN | apply IsS72.drew | apply IsS72.set_1 | refine IsS72.far ?_ NB437_434.out _ | refine IsS72.far ?_ NB437_441.out _) | exact HI437.out)), fun _ => (by (with_reducible repeat (first | refine blk_drewN ?_ _ | refine blk_drew ?_ | refine blk_alloc ?_ _)); refine blk_put (cs := #[.int .i64 t444, .int .i64 0]) ?_ 1 _ rfl; (with_reducible repeat (first | refine blk_drewN ?_ _ | refine blk_drew ?_ | refine blk_alloc ?_ _)); refine blk_put (cs := #[.int .i64 0, .int .i64 0]) ?_ 0 _ rfl; (with_reducible repeat (first | refine blk_drewN ?_ _ | refine blk_drew ?_ | refine blk_alloc ?_ _)); exact BK434.out), Q_X4_⟩
          refine steps_cons ?_ ?_
          · rintro b a w' ⟨v448, adz_v448, m4_, ha, Q_BK434, Q_BK441, Q_HI437, Q_HB, Q_HO449, Q_HA_HO449, Q_HI437_e3, Q_HI437_e7, Q_BK434_e8, Q_X4_⟩ hb_ hon hoff
            refine ⟨_, rfl, fun K hK => ?_⟩
            have e21 : a.tmps[21]? = some (.int .i64 (rd y447 t450)) := by rw [ha]; exact putSel_on (e := (5, 21, .int .i64 (rd y447 t450))) 4 rfl rfl (hon 5 (by kernel_rfl)) rfl
            replace ha := Aside0.mk ha
            have BK441 := Aside0.mk Q_BK441
            have HB := Aside0.mk Q_HB
            have HO449 := Aside0.mk (Q_HO449 (hon 1 (by kernel_rfl)))
            have HA_HO449 := Aside0.mk (Q_HA_HO449 (hon 1 (by kernel_rfl)))
            have HI437 := Aside0.mk (Q_HI437_e7 (hon 7 (by kernel_rfl)))
            have BK434 := Aside0.mk (Q_BK434_e8 (hon 8 (by kernel_rfl)))
            refine value_ (w1 := w') (v := .int .i64 (rd y447 t450)) (by rfl) rfl ?_ ?_
            · go_simp
              (try simp only [i64_w])
              try rfl
            refine hK.out _ _ ⟨v448, adz_v448, m4_, (by rw [ha.out]; exact putSel_upk 6 hb_ rfl rfl rfl), fun h0_ => absurd ((hon 8 (by kernel_rfl)).symm.trans h0_) (by decide), Q_BK441, fun h0_ => absurd ((hon 3 (by kernel_rfl)).symm.trans h0_) (by decide), Q_HB, Q_HO449, Q_HA_HO449, fun _ h1_ => absurd ((hon 7 (by kernel_rfl)).symm.trans h1_) (by decide), Q_HI437_e7, Q_BK434_e8, Q_X4_⟩
          refine steps_cons ?_ ?_
          · rintro b a w' ⟨v448, adz_v448, m4_, ha, Q_BK434, Q_BK441, Q_HI437, Q_HB, Q_HO449, Q_HA_HO449, Q_HI437_e3, Q_HI437_e7, Q_BK434_e8, Q_X4_⟩ hb_ hon hoff
            refine ⟨_, rfl, fun K hK => ?_⟩
            have e23 : a.tmps[23]? = some (.int .i64 t453) := by rw [ha]; exact putSel_on (e := (7, 23, .int .i64 t453)) 5 rfl rfl (hon 7 (by kernel_rfl)) rfl
            replace ha := Aside0.mk ha
            have BK441 := Aside0.mk Q_BK441
            have HB := Aside0.mk Q_HB
            have HO449 := Aside0.mk (Q_HO449 (hon 1 (by kernel_rfl)))
            have HA_HO449 := Aside0.mk (Q_HA_HO449 (hon 1 (by kernel_rfl)))
            have HI437 := Aside0.mk (Q_HI437_e7 (hon 7 (by kernel_rfl)))
            have BK434 := Aside0.mk (Q_BK434_e8 (hon 8 (by kernel_rfl)))
            refine value_ (w1 := w') (v := .int .i64 t453) (by rfl) rfl ?_ ?_
            · go_simp
              (try simp only [i64_w])
              try rfl
            refine hK.out _ _ ⟨v448, adz_v448, m4_, (by rw [ha.out]; exact putSel_upk 7 hb_ rfl rfl rfl), fun h0_ => absurd ((hon 8 (by kernel_rfl)).symm.trans h0_) (by decide), Q_BK441, fun h0_ => absurd ((hon 3 (by kernel_rfl)).symm.trans h0_) (by decide), Q_HB, Q_HO449, Q_HA_HO449, fun _ h1_ => absurd ((hon 7 (by kernel_rfl)).symm.trans h1_) (by decide), Q_HI437_e7, Q_BK434_e8, Q_X4_⟩
          exact steps_nil
        rintro b a w30 hall ⟨v448, adz_v448, m4_, ha, Q_BK434, Q_BK441, Q_HI437, Q_HB, Q_HO449, Q_HA_HO449, Q_HI437_e3, Q_HI437_e7, Q_BK434_e8, Q_X4_⟩
        clear BK434 BK441 HB HI437
        have hb0_ := hall 0 (by kernel_rfl)
        have hb1_ := hall 1 (by kernel_rfl)
        have hb3_ := hall 3 (by kernel_rfl)
        have hb4_ := hall 4 (by kernel_rfl)
        have hb5_ := hall 5 (by kernel_rfl)
        have hb7_ := hall 7 (by kernel_rfl)
        have hb8_ := hall 8 (by kernel_rfl)
        have hb9_ := hall 9 (by kernel_rfl)
        have hb10_ := hall 10 (by kernel_rfl)
        subst ha
        obtain rfl := Q_X4_ hb4_
        simp only [putSel, hb0_, hb1_, hb3_, hb4_, hb5_, hb7_, hb8_, hb9_, hb10_, if_true, Act.put, List.setIfInBounds_toArray, List.set_cons_zero, List.set_cons_succ]
        clear Q_BK434
        have BK441 := Aside0.mk Q_BK441
        clear Q_BK441
        clear Q_HI437
        have HB := Aside0.mk Q_HB
        clear Q_HB
        have HO449 := Aside0.mk (Q_HO449 hb1_)
        clear Q_HO449
        have HA_HO449 := Aside0.mk (Q_HA_HO449 hb1_)
        clear Q_HA_HO449
        clear Q_HI437_e3
        have HI437 := Aside0.mk (Q_HI437_e7 hb7_)
        clear Q_HI437_e7
        have BK434 := Aside0.mk (Q_BK434_e8 hb8_)
        clear Q_BK434_e8
        clear hall hb0_ hb1_ hb3_ hb4_ hb5_ hb7_ hb8_ hb9_ hb10_
        obtain ⟨co31, eo31⟩ := HA_HO449.out
        clear HA_HO449
        subst eo31
        try go_wp2
        refine bodyPost_ret (results_ctt rfl _ _ gb434 24 #[.int .i64 t444, .int .i64 t445] (0, 0) _ rfl (by (with_reducible repeat (first | refine blk_drewN ?_ _ | refine blk_drew ?_ | refine blk_alloc ?_ _)); exact BK434.out) Try.underlying24 rfl (by kernel_rfl)) rfl ?_
        exact ⟨by first | rfl | (simp [errW_none, errW_some] <;> rfl) | (simp [*, errW_none, errW_some] <;> rfl), by repeat (first | (with_reducible first | exact HB.out | apply below_alloc | apply pw_below_drewN | apply below_drew1 | refine below_set ?_ (IsS72.ge HI437.out) | refine below_set ?_ GE434.out | refine below_set ?_ GE441.out) | exact HB.out)⟩
      · rw [if_neg c9] at H
        exact absurd H (by simp)
    · rw [if_neg c8] at H
      exact absurd H (by simp)
  · rw [if_neg c5] at H
    have c5b0 : decide (0 < t442) = false := decide_eq_false c5
    clear c5
    obtain ⟨y455, hy455⟩ : ∃ y_ : List Int, y_ = (([1, 10, 1000, 1000000, 100000000, 7, 1000000000, 0, 1000000001] : List Int)) := ⟨_, rfl⟩
    replace H : ((spec_l6Rd_pick.f k t435 t443 9).bind fun bt458 => (if 0 ≤ bt458.1 then (if bt458.1 < (y455.length : Int) then ((spec_l71Way.f k t435 bt458.2).bind fun bt461 => (some (t438, t439, rd y455 bt458.1, bt461.1))) else (none)) else (none))) = some (r1, r2, r3, r4) := by first | (rw [hy455]; with_reducible exact H) | (have H2_ := (Option.bind_some _ _).symm.trans H; rw [hy455]; with_reducible exact H2_) | (have H2_ := (Option.bind_some _ _).symm.trans H; with_reducible exact H2_) | with_reducible exact H | (rw [hy455]; exact H) | exact H
    have Ny455 := Aside0.mk hy455
    clear hy455
    replace H := Option.bind_eq_some_iff.mp H
    obtain ⟨⟨t458, t459⟩, A320, H⟩ := H
    replace H : (if 0 ≤ t458 then (if t458 < (y455.length : Int) then ((spec_l71Way.f k t435 t459).bind fun bt461 => (some (t438, t439, rd y455 t458, bt461.1))) else (none)) else (none)) = some (r1, r2, r3, r4) := H
    have A32 := Aside0.mk A320
    clear A320
    by_cases c33 : 0 ≤ t458
    · rw [if_pos c33] at H
      have c33b0 : decide (0 ≤ t458) = true := decide_eq_true c33
      clear c33
      by_cases c34 : t458 < (y455.length : Int)
      · rw [if_pos c34] at H
        have c34b0 : decide (t458 < (y455.length : Int)) = true := decide_eq_true c34
        clear c34
        replace H := Option.bind_eq_some_iff.mp H
        obtain ⟨⟨t461, t462⟩, A350, H⟩ := H
        replace H : (some (t438, t439, rd y455 t458, t461)) = some (r1, r2, r3, r4) := H
        have A35 := Aside0.mk A350
        clear A350
        simp only [Option.some.injEq, Prod.mk.injEq] at H
        obtain ⟨rfl, rfl, rfl, rfl⟩ := H
        go_enter Try.func32, Try.ntmps32
        try go_wp2_with (first | ((with_reducible refine gate_dst (N := 2) rfl ?_); refine box_event ?hg (N := 2) ?hd (cs := #[.int .i64 0, .int .i64 0]) (t := 24) ?hr ?_; (case hd => rfl); (case hg => rfl); (case hr => first | (go_simp; done) | (go_simp; rfl)); intro gb434 hg w36 hbox hb; have n0_ := Aside0.mk (below_step (by repeat (first | (with_reducible first | exact HB.out | apply below_alloc | apply pw_below_drewN | apply below_drew1) | exact HB.out)) hb); have n1_ := Aside0.mk (hbox); have n2_ := Aside0.mk ((by rw [hg]; exact (below_size (by repeat (first | (with_reducible first | exact HB.out | apply below_alloc | apply pw_below_drewN | apply below_drew1) | exact HB.out))) : w.heap.size ≤ gb434)); have n3_ := Aside0.mk ((by rw [hg]; exact (below_size (by repeat (first | (with_reducible first | exact HB.out | apply below_alloc | apply pw_below_drewN | apply below_drew1) | exact HB.out))) : w.heap.size ≤ gb434)); clear HB; have HB := n0_; have BK434 := n1_; have GW434 := n2_; have GE434 := n3_; clear n0_ n1_ n2_ n3_; clear hb hbox hg) | ((with_reducible refine gate_callee (f := 36) rfl ?_); refine goesL_ (some 8) rfl rfl Try.func36 (by kernel_rfl) rfl #[.slice A0 l0.length c0] rfl (by (try simp only [List.map_toArray, List.map_cons, List.map_nil]); first | done | rfl | (simp only [List.length_drop, List.length_take]; rfl)) ?_; (with_reducible refine (spec_l6Open.calls _ _ l0 t435 t436 w _ ?side1 ?side2 ?side3 A2.out).mono ?_); (case side1 => repeat (first | (with_reducible first | exact HB.out | apply below_alloc | apply pw_below_drewN | apply below_drew1 | refine below_set ?_ GE434.out) | exact HB.out)); (case side2 => exact HR0.out); (case side3 => exact HC0.out); rintro e w37 ⟨g437, rfl, hi, hb, hb2⟩; refine ⟨_, rfl, ?_⟩; have n0_ := Aside0.mk (blk_below (g := gb434) (o := .cells #[.int .i64 0, .int .i64 0] 24 (0, 0)) (by (with_reducible repeat (first | refine blk_drewN ?_ _ | refine blk_drew ?_ | refine blk_alloc ?_ _)); exact BK434.out) hb2); have n1_ := Aside0.mk (hb); have n2_ := Aside0.mk (hi); have n3_ := Aside0.mk (IsS72.ne_blk hi (blk_below (g := gb434) (o := .cells #[.int .i64 0, .int .i64 0] 24 (0, 0)) (by (with_reducible repeat (first | refine blk_drewN ?_ _ | refine blk_drew ?_ | refine blk_alloc ?_ _)); exact BK434.out) hb2) (by decide)); have n4_ := Aside0.mk (Ne.symm (IsS72.ne_blk hi (blk_below (g := gb434) (o := .cells #[.int .i64 0, .int .i64 0] 24 (0, 0)) (by (with_reducible repeat (first | refine blk_drewN ?_ _ | refine blk_drew ?_ | refine blk_alloc ?_ _)); exact BK434.out) hb2) (by decide))); clear BK434; clear HB; have BK434 := n0_; have HB := n1_; have HI437 := n2_; have NB437_434 := n3_; have NB434_437 := n4_; clear n0_ n1_ n2_ n3_ n4_; (try clear hb); (try clear hb2); (try clear hk); (try clear hi)) | ((with_reducible refine gate_callee (f := 38) rfl ?_); refine goesL_ (some 10) rfl rfl Try.func38 (by kernel_rfl) rfl #[.pointer (some ⟨g437, 0, none⟩)] rfl (by (try simp only [List.map_toArray, List.map_cons, List.map_nil]); first | done | rfl | (simp only [List.length_drop, List.length_take]; rfl)) ?_; (with_reducible refine (spec_l71Span.calls k g437 t435 t436 t438 t439 t440 w _ ?side1 ?side2 A3.out).mono ?_); (case side1 => repeat (first | (with_reducible first | exact HI437.out | apply IsS72.alloc | apply IsS72.drewN | apply IsS72.drew | apply IsS72.set_1 | refine IsS72.far ?_ NB437_434.out _) | exact HI437.out)); (case side2 => repeat (first | (with_reducible first | exact HB.out | apply below_alloc | apply pw_below_drewN | apply below_drew1 | refine below_set ?_ (IsS72.ge HI437.out) | refine below_set ?_ GE434.out) | exact HB.out)); rintro e w38 ⟨rfl, hi, hb, hk⟩; refine ⟨_, rfl, ?_⟩; have n0_ := Aside0.mk (KeepBut.blk hk (g' := gb434) (o := .cells #[.int .i64 0, .int .i64 0] 24 (0, 0)) (by (with_reducible repeat (first | refine blk_drewN ?_ _ | refine blk_drew ?_ | refine blk_alloc ?_ _)); exact BK434.out) NB434_437.out (by simp)); have n1_ := Aside0.mk (hb); have n2_ := Aside0.mk (hi); clear BK434; clear HB; clear HI437; have BK434 := n0_; have HB := n1_; have HI437 := n2_; clear n0_ n1_ n2_; (try clear hb); (try clear hb2); (try clear hk); (try clear hi)) | ((with_reducible refine gate_dst (N := 6) rfl ?_); refine box_event ?hg (N := 6) ?hd (cs := #[.int .i64 0, .int .i64 0]) (t := 24) ?hr ?_; (case hd => rfl); (case hg => rfl); (case hr => first | (go_simp; done) | (go_simp; rfl)); intro gb441 hg w39 hbox hb; have n0_ := Aside0.mk (blk_below (g := gb434) (o := .cells #[.int .i64 0, .int .i64 0] 24 (0, 0)) (by (with_reducible repeat (first | refine blk_drewN ?_ _ | refine blk_drew ?_ | refine blk_alloc ?_ _)); exact BK434.out) hb); have n1_ := Aside0.mk (IsS72.below (by repeat (first | (with_reducible first | exact HI437.out | apply IsS72.alloc | apply IsS72.drewN | apply IsS72.drew | apply IsS72.set_1 | refine IsS72.far ?_ NB437_434.out _) | exact HI437.out)) hb); have n2_ := Aside0.mk (below_step (by repeat (first | (with_reducible first | exact HB.out | apply below_alloc | apply pw_below_drewN | apply below_drew1 | refine below_set ?_ (IsS72.ge HI437.out) | refine below_set ?_ GE434.out) | exact HB.out)) hb); have n3_ := Aside0.mk (hbox); have n4_ := Aside0.mk ((by rw [hg]; exact (below_size (by repeat (first | (with_reducible first | exact HB.out | apply below_alloc | apply pw_below_drewN | apply below_drew1 | refine below_set ?_ (IsS72.ge HI437.out) | refine below_set ?_ GE434.out) | exact HB.out))) : w.heap.size ≤ gb441)); have n5_ := Aside0.mk ((by rw [hg]; exact (below_size (by repeat (first | (with_reducible first | exact HB.out | apply below_alloc | apply pw_below_drewN | apply below_drew1 | refine below_set ?_ (IsS72.ge HI437.out) | refine below_set ?_ GE434.out) | exact HB.out))) : w.heap.size ≤ gb441)); have n6_ := Aside0.mk ((by rw [hg]; exact Nat.ne_of_lt (blk_lt (g := gb434) (o := .cells #[.int .i64 0, .int .i64 0] 24 (0, 0)) (by (with_reducible repeat (first | refine blk_drewN ?_ _ | refine blk_drew ?_ | refine blk_alloc ?_ _)); exact BK434.out)) : gb434 ≠ gb441)); have n7_ := Aside0.mk ((by rw [hg]; exact Nat.ne_of_gt (blk_lt (g := gb434) (o := .cells #[.int .i64 0, .int .i64 0] 24 (0, 0)) (by (with_reducible repeat (first | refine blk_drewN ?_ _ | refine blk_drew ?_ | refine blk_alloc ?_ _)); exact BK434.out)) : gb441 ≠ gb434)); have n8_ := Aside0.mk ((by rw [hg]; exact Nat.ne_of_lt (IsS72.lt (show IsS72 w _ g437 t435 t440 from by repeat (first | (with_reducible first | exact HI437.out | apply IsS72.alloc | apply IsS72.drewN | apply IsS72.drew | apply IsS72.set_1 | refine IsS72.far ?_ NB437_434.out _) | exact HI437.out))) : g437 ≠ gb441)); have n9_ := Aside0.mk ((by rw [hg]; exact Nat.ne_of_gt (IsS72.lt (show IsS72 w _ g437 t435 t440 from by repeat (first | (with_reducible first | exact HI437.out | apply IsS72.alloc | apply IsS72.drewN | apply IsS72.drew | apply IsS72.set_1 | refine IsS72.far ?_ NB437_434.out _) | exact HI437.out))) : gb441 ≠ g437)); clear BK434; clear HI437; clear HB; have BK434 := n0_; have HI437 := n1_; have HB := n2_; have BK441 := n3_; have GW441 := n4_; have GE441 := n5_; have NB434_441 := n6_; have NB441_434 := n7_; have NB437_441 := n8_; have NB441_437 := n9_; clear n0_ n1_ n2_ n3_ n4_ n5_ n6_ n7_ n8_ n9_; clear hb hbox hg; have hnb40 := NB441_434.out; have hnc40 := NB434_441.out; have hnb41 := NB441_437.out; have hnc41 := NB437_441.out; have hcz42_0 : w39.cell? ⟨gb441, 0, none⟩ = some (.int .i64 0) := (blk_cell BK441.out 0).trans rfl; have hcz42_1 : w39.cell? ⟨gb441, 1, none⟩ = some (.int .i64 0) := (blk_cell BK441.out 1).trans rfl; have hfz42_0 := blk_frozen BK441.out 0; have hfz42_1 := blk_frozen BK441.out 1) | ((with_reducible refine gate_callee (f := 37) rfl ?_); refine goesL_ (some 12) rfl rfl Try.func37 (by kernel_rfl) rfl #[.pointer (some ⟨g437, 0, none⟩), .int .i64 3] rfl (by (try simp only [List.map_toArray, List.map_cons, List.map_nil]); first | done | rfl | (simp only [List.length_drop, List.length_take]; rfl)) ?_; (with_reducible refine (spec_l6Rd_pick.calls k g437 t435 t440 3 t442 t443 w _ ?side1 ?side2 A4.out).mono ?_); (case side1 => repeat (first | (with_reducible first | exact HI437.out | apply IsS72.alloc | apply IsS72.drewN | apply IsS72.drew | apply IsS72.set_1 | refine IsS72.far ?_ NB437_434.out _ | refine IsS72.far ?_ NB437_441.out _) | exact HI437.out)); (case side2 => repeat (first | (with_reducible first | exact HB.out | apply below_alloc | apply pw_below_drewN | apply below_drew1 | refine below_set ?_ (IsS72.ge HI437.out) | refine below_set ?_ GE434.out | refine below_set ?_ GE441.out) | exact HB.out)); rintro e w43 ⟨rfl, hi, hb, hk⟩; refine ⟨_, rfl, ?_⟩; have n0_ := Aside0.mk (KeepBut.blk hk (g' := gb434) (o := .cells #[.int .i64 0, .int .i64 0] 24 (0, 0)) (by (with_reducible repeat (first | refine blk_drewN ?_ _ | refine blk_drew ?_ | refine blk_alloc ?_ _)); refine blk_far ?_ NB434_441.out _; (with_reducible repeat (first | refine blk_drewN ?_ _ | refine blk_drew ?_ | refine blk_alloc ?_ _)); refine blk_far ?_ NB434_441.out _; (with_reducible repeat (first | refine blk_drewN ?_ _ | refine blk_drew ?_ | refine blk_alloc ?_ _)); exact BK434.out) NB434_437.out (by simp)); have n1_ := Aside0.mk (KeepBut.blk hk (g' := gb441) (o := .cells #[.int .i64 t438, .int .i64 t439] 24 (0, 0)) (by (with_reducible repeat (first | refine blk_drewN ?_ _ | refine blk_drew ?_ | refine blk_alloc ?_ _)); refine blk_put (cs := #[.int .i64 t438, .int .i64 0]) ?_ 1 _ rfl; (with_reducible repeat (first | refine blk_drewN ?_ _ | refine blk_drew ?_ | refine blk_alloc ?_ _)); refine blk_put (cs := #[.int .i64 0, .int .i64 0]) ?_ 0 _ rfl; (with_reducible repeat (first | refine blk_drewN ?_ _ | refine blk_drew ?_ | refine blk_alloc ?_ _)); exact BK441.out) NB441_437.out (by simp)); have n2_ := Aside0.mk (hb); have n3_ := Aside0.mk (hi); clear BK434; clear BK441; clear HB; clear HI437; have BK434 := n0_; have BK441 := n1_; have HB := n2_; have HI437 := n3_; clear n0_ n1_ n2_ n3_; (try clear hb); (try clear hb2); (try clear hk); (try clear hi)))
        have pi460 : (0 ≤ (t458 : Int)) = True := eq_true (of_decide_eq_true (by first | (with_reducible assumption) | assumption))
        have qi460 : (t458 < (y455.length : Int)) = True := eq_true (of_decide_eq_true (by first | (with_reducible assumption) | assumption))
        have n0_ := Aside0.mk (blk_drew BK434.out)
        have n1_ := Aside0.mk (blk_drew BK441.out)
        have n2_ := Aside0.mk (IsS72.drew HI437.out)
        have n3_ := Aside0.mk (below_drew1 HB.out)
        clear BK434
        clear BK441
        clear HI437
        clear HB
        have BK434 := n0_
        have BK441 := n1_
        have HI437 := n2_
        have HB := n3_
        clear n0_ n1_ n2_ n3_
        refine start_ (n := 11) (S := fun w' => True) (ds := []) #[false, false, false, false, false, false, false, false, false, false, false] (by kernel_rfl) rfl rfl trivial (fun hHeld => ?_); refine with_tabW spec_DrawSureRound.tab5 spec_DrawSureRound.bits5 (fun HT_ HW_ => ?_)
        generalize w43.drew = w44 at BK434 BK441 HI437 HB hHeld ⊢
        refine pure_ (i := 2) (N := some 18) (v := ?_) (a' := ?_) #[false, false, true, false, false, false, false, false, false, false, false] rfl rfl (any_of HT_.out (by kernel_rfl)) (fun _ _ _ h => h) (Or.inl ⟨by rfl, ?_⟩) ?_ ?_
        rotate_left
        · intro w'
          go_simp
          with_reducible rfl
        rotate_left
        · simp only [Act.put, List.setIfInBounds_toArray, List.set_cons_zero, List.set_cons_succ, i64_w, i32_w]
          rfl
        refine pure_ (i := 6) (N := some 22) (v := ?_) (a' := ?_) #[false, false, true, false, false, false, true, false, false, false, false] rfl rfl (any_of HT_.out (by kernel_rfl)) (fun _ _ _ h => h) (Or.inl ⟨by rfl, ?_⟩) ?_ ?_
        rotate_left
        · intro w'
          go_simp
          with_reducible rfl
        rotate_left
        · simp only [Act.put, List.setIfInBounds_toArray, List.set_cons_zero, List.set_cons_succ, i64_w, i32_w]
          rfl
        refine inv_at [0, 1, 3, 4, 5, 7, 8, 9, 10] (fun a0_ b a w' => ∃ (v456 : Value) (adz_v456 : Addr) (m4_ : Value), a = putSel a0_ b [(0, 16, .agg #[.int .i64 t438, .int .i64 t439]), (1, 17, v456), (3, 19, .int .i64 t458), (4, 20, m4_), (5, 21, .int .i64 (rd y455 t458)), (7, 23, .int .i64 t461), (9, 3, .int .i64 (rd y455 t458)), (10, 4, .int .i64 t461)] ∧ (b 8 = false → w'.heap[gb434]? = some (.cells #[.int .i64 0, .int .i64 0] 24 (0, 0))) ∧ (w'.heap[gb441]? = some (.cells #[.int .i64 t438, .int .i64 t439] 24 (0, 0))) ∧ (b 3 = false → IsS72 w w' g437 t435 t443) ∧ (Below w.heap.size w w') ∧ (b 1 = true → Kd.R (Kd.int .i64) 3 w' w.heap.size (fun _ => True) v456 y455) ∧ (b 1 = true → ∃ c_, (v456 : Value) = .slice (some adz_v456) y455.length c_) ∧ (b 3 = true → b 7 = false → IsS72 w w' g437 t435 t459) ∧ (b 7 = true → IsS72 w w' g437 t435 t462) ∧ (b 8 = true → w'.heap[gb434]? = some (.cells #[.int .i64 t438, .int .i64 t439] 24 (0, 0))) ∧ (b 4 = true → (m4_ : Value) = .pointer (some (adz_v456.add (t458).toNat)))) HT_.out HW_.out (by kernel_rfl) (by kernel_rfl) ?_ ?_ ?_
        · exact ⟨.bool false, ⟨0, 0, none⟩, .bool false, by simp only [putSel, Bool.false_eq_true, if_false], fun _ => BK434.out, BK441.out, fun _ => HI437.out, HB.out, fun h_ => absurd h_ (by decide), fun h_ => absurd h_ (by decide), fun h_ => absurd h_ (by decide), fun h_ => absurd h_ (by decide), fun h_ => absurd h_ (by decide), fun h_ => absurd h_ (by decide)⟩
        · skip
          clear BK434 BK441 HB HI437
          refine steps_cons ?_ ?_
          · rintro b a w' ⟨v456, adz_v456, m4_, ha, Q_BK434, Q_BK441, Q_HI437, Q_HB, Q_HO457, Q_HA_HO457, Q_HI437_e3, Q_HI437_e7, Q_BK434_e8, Q_X4_⟩ hb_ hon hoff
            refine ⟨_, rfl, fun K hK => ?_⟩
            have e6 : a.tmps[6]? = some (.pointer (some ⟨gb441, 0, none⟩)) := by rw [ha]; exact (putSel_off rfl).trans rfl
            replace ha := Aside0.mk ha
            have BK434 := Aside0.mk (Q_BK434 (hoff 8 (by kernel_rfl)))
            have BK441 := Aside0.mk Q_BK441
            have HB := Aside0.mk Q_HB
            have hc0_ : w'.cell? ⟨gb441, 0, none⟩ = some (.int .i64 t438) := (blk_cell BK441.out 0).trans rfl
            have hc1_ : w'.cell? ⟨gb441, 1, none⟩ = some (.int .i64 t439) := (blk_cell BK441.out 1).trans rfl
            refine value_ (w1 := w') (v := .agg #[.int .i64 t438, .int .i64 t439]) (by rfl) rfl ?_ ?_
            · go_simp
              (try simp only [i64_w])
              try rfl
            refine hK.out _ _ ⟨v456, adz_v456, m4_, (by rw [ha.out]; exact putSel_upk 0 hb_ rfl rfl rfl), Q_BK434, Q_BK441, Q_HI437, Q_HB, Q_HO457, Q_HA_HO457, Q_HI437_e3, Q_HI437_e7, fun h0_ => absurd ((hoff 8 (by kernel_rfl)).symm.trans h0_) (by decide), Q_X4_⟩
          refine steps_cons ?_ ?_
          · rintro b a w' ⟨v456, adz_v456, m4_, ha, Q_BK434, Q_BK441, Q_HI437, Q_HB, Q_HO457, Q_HA_HO457, Q_HI437_e3, Q_HI437_e7, Q_BK434_e8, Q_X4_⟩ hb_ hon hoff
            refine ⟨_, rfl, fun K hK => ?_⟩
            replace ha := Aside0.mk ha
            have BK441 := Aside0.mk Q_BK441
            have HB := Aside0.mk Q_HB
            refine Kd.R_lit_step (Kd.int .i64) _ 3 ?hg (N := 17) ?hd (xs := ([1, 10, 1000, 1000000, 100000000, 7, 1000000000, 0, 1000000001] : List Int)) (inner := [.int .i64 1, .int .i64 10, .int .i64 1000, .int .i64 1000000, .int .i64 100000000, .int .i64 7, .int .i64 1000000000, .int .i64 0, .int .i64 1000000001]) (ok := fun _ => True) (okp := fun _ => True) ?hr ?hp (fun _ hk => hk) trivial (Below.refl _ _) (Nat.le_refl _) (by simp) ?_; (case hd => rfl); (case hg => rfl); (case hr => first | (go_simp; done) | (go_simp; rfl)); (case hp => exact (Reps.one (show Kd.M (Kd.int .i64) _ _ _ 1 [.int .i64 1] from rfl) (Reps.one (show Kd.M (Kd.int .i64) _ _ _ 10 [.int .i64 10] from rfl) (Reps.one (show Kd.M (Kd.int .i64) _ _ _ 1000 [.int .i64 1000] from rfl) (Reps.one (show Kd.M (Kd.int .i64) _ _ _ 1000000 [.int .i64 1000000] from rfl) (Reps.one (show Kd.M (Kd.int .i64) _ _ _ 100000000 [.int .i64 100000000] from rfl) (Reps.one (show Kd.M (Kd.int .i64) _ _ _ 7 [.int .i64 7] from rfl) (Reps.one (show Kd.M (Kd.int .i64) _ _ _ 1000000000 [.int .i64 1000000000] from rfl) (Reps.one (show Kd.M (Kd.int .i64) _ _ _ 0 [.int .i64 0] from rfl) (Reps.one (show Kd.M (Kd.int .i64) _ _ _ 1000000001 [.int .i64 1000000001] from rfl) (Reps.none _ _)))))))))))
            intro v456 w45 ho46 hb hg_ hnew_
            clear hg_ hnew_
            (first | rw [← Ny455.out] at ho46 | (simp only [Int.reduceToNat] at ho46; rw [← Ny455.out] at ho46))
            have n0_ := Aside0.mk (Kd.R_lower ho46 (below_size (by repeat (first | (with_reducible first | exact HB.out | apply below_alloc | apply pw_below_drewN | apply below_drew1 | refine below_set ?_ GE434.out | refine below_set ?_ GE441.out) | exact HB.out))))
            have n3_ := Aside0.mk (blk_below (g := gb441) (o := .cells #[.int .i64 t438, .int .i64 t439] 24 (0, 0)) (by (with_reducible repeat (first | refine blk_drewN ?_ _ | refine blk_drew ?_ | refine blk_alloc ?_ _)); exact BK441.out) hb)
            have n4_ := Aside0.mk (below_step (by repeat (first | (with_reducible first | exact HB.out | apply below_alloc | apply pw_below_drewN | apply below_drew1 | refine below_set ?_ GE434.out | refine below_set ?_ GE441.out) | exact HB.out)) hb)
            have z_BK434 := fun (h0_ : b 8 = false) => (show w45.heap[gb434]? = some (.cells #[.int .i64 0, .int .i64 0] 24 (0, 0)) from by first | exact (blk_below (g := gb434) (o := .cells #[.int .i64 0, .int .i64 0] 24 (0, 0)) (by (with_reducible repeat (first | refine blk_drewN ?_ _ | refine blk_drew ?_ | refine blk_alloc ?_ _)); exact (Q_BK434 h0_)) hb))
            have z_HI437 := fun (h0_ : b 3 = false) => (show IsS72 w w45 g437 t435 t443 from by first | exact (IsS72.below (by repeat (first | (with_reducible first | exact (Q_HI437 h0_) | apply IsS72.alloc | apply IsS72.drewN | apply IsS72.drew | apply IsS72.set_1 | refine IsS72.far ?_ NB437_434.out _ | refine IsS72.far ?_ NB437_441.out _) | exact (Q_HI437 h0_))) hb))
            have z_HI437_e3 := fun (h0_ : b 3 = true) (h1_ : b 7 = false) => (show IsS72 w w45 g437 t435 t459 from by first | exact (IsS72.below (by repeat (first | (with_reducible first | exact (Q_HI437_e3 h0_ h1_) | apply IsS72.alloc | apply IsS72.drewN | apply IsS72.drew | apply IsS72.set_1 | refine IsS72.far ?_ NB437_434.out _ | refine IsS72.far ?_ NB437_441.out _) | exact (Q_HI437_e3 h0_ h1_))) hb))
            have z_HI437_e7 := fun (h0_ : b 7 = true) => (show IsS72 w w45 g437 t435 t462 from by first | exact (IsS72.below (by repeat (first | (with_reducible first | exact (Q_HI437_e7 h0_) | apply IsS72.alloc | apply IsS72.drewN | apply IsS72.drew | apply IsS72.set_1 | refine IsS72.far ?_ NB437_434.out _ | refine IsS72.far ?_ NB437_441.out _) | exact (Q_HI437_e7 h0_))) hb))
            have z_BK434_e8 := fun (h0_ : b 8 = true) => (show w45.heap[gb434]? = some (.cells #[.int .i64 t438, .int .i64 t439] 24 (0, 0)) from by first | exact (blk_below (g := gb434) (o := .cells #[.int .i64 t438, .int .i64 t439] 24 (0, 0)) (by (with_reducible repeat (first | refine blk_drewN ?_ _ | refine blk_drew ?_ | refine blk_alloc ?_ _)); exact (Q_BK434_e8 h0_)) hb))
            clear BK441
            clear HB
            have HO457 := n0_
            have BK441 := n3_
            have HB := n4_
            clear n0_ n3_ n4_
            clear hb ho46
            obtain ⟨Ao47, co47, eo47⟩ := Kd.R_slice HO457.out
            subst eo47
            obtain ⟨ado47, fo47, _⟩ := Kd.at_int (Kd.R_reads' HO457.out).2.2 0 (by decide) (by rw [Ny455.out]; simp)
            cases fo47
            refine hK.out _ _ ⟨.slice (some ado47) y455.length co47, ado47, m4_, (by rw [ha.out]; exact putSel_upk 1 hb_ rfl rfl rfl), z_BK434, (by (with_reducible repeat (first | refine blk_drewN ?_ _ | refine blk_drew ?_ | refine blk_alloc ?_ _)); exact BK441.out), z_HI437, (by repeat (first | (with_reducible first | exact HB.out | apply below_alloc | apply pw_below_drewN | apply below_drew1 | refine below_set ?_ GE434.out | refine below_set ?_ GE441.out) | exact HB.out)), fun _ => (by (with_reducible repeat (first | apply Kd.R_alloc | apply Kd.R_drewN | apply Kd.R_drew)); exact HO457.out), fun _ => ⟨_, rfl⟩, z_HI437_e3, z_HI437_e7, z_BK434_e8, fun h0_ => absurd ((hoff 4 (by kernel_rfl)).symm.trans h0_) (by decide)⟩
          refine steps_cons ?_ ?_
          · rintro b a w' ⟨v456, adz_v456, m4_, ha, Q_BK434, Q_BK441, Q_HI437, Q_HB, Q_HO457, Q_HA_HO457, Q_HI437_e3, Q_HI437_e7, Q_BK434_e8, Q_X4_⟩ hb_ hon hoff
            refine ⟨_, rfl, fun K hK => ?_⟩
            have e18 : a.tmps[18]? = some (.pointer (some ⟨g437, 0, none⟩)) := by rw [ha]; exact (putSel_off rfl).trans rfl
            replace ha := Aside0.mk ha
            have BK434 := Aside0.mk (Q_BK434 (hoff 8 (by kernel_rfl)))
            have BK441 := Aside0.mk Q_BK441
            have HI437 := Aside0.mk (Q_HI437 hb_)
            have HB := Aside0.mk Q_HB
            refine goes_ Try.func37 (by kernel_rfl) rfl #[.pointer (some ⟨g437, 0, none⟩), .int .i64 9] (by rfl) rfl rfl (by first | (simp only [List.map_toArray, List.map_cons, List.map_nil, Act.eval, Array.getD_eq_getD_getElem?, Option.getD_some, e18]; done) | (simp only [List.map_toArray, List.map_cons, List.map_nil, Act.eval, Array.getD_eq_getD_getElem?, Option.getD_some, e18]; rfl)) ?_
            with_reducible refine (spec_l6Rd_pick.calls k g437 t435 t443 9 t458 t459 w _ ?side1 ?side2 A32.out).mono ?_
            (case side1 => repeat (first | (with_reducible first | exact HI437.out | apply IsS72.alloc | apply IsS72.drewN | apply IsS72.drew | apply IsS72.set_1 | refine IsS72.far ?_ NB437_434.out _ | refine IsS72.far ?_ NB437_441.out _) | exact HI437.out))
            (case side2 => repeat (first | (with_reducible first | exact HB.out | apply below_alloc | apply pw_below_drewN | apply below_drew1 | refine below_set ?_ (IsS72.ge HI437.out) | refine below_set ?_ GE434.out | refine below_set ?_ GE441.out) | exact HB.out))
            rintro e w45 ⟨rfl, hi, hb, hk⟩
            refine ⟨_, rfl, ?_⟩
            have n0_ := Aside0.mk (KeepBut.blk hk (g' := gb434) (o := .cells #[.int .i64 0, .int .i64 0] 24 (0, 0)) (by (with_reducible repeat (first | refine blk_drewN ?_ _ | refine blk_drew ?_ | refine blk_alloc ?_ _)); exact BK434.out) NB434_437.out (by simp))
            have n1_ := Aside0.mk (KeepBut.blk hk (g' := gb441) (o := .cells #[.int .i64 t438, .int .i64 t439] 24 (0, 0)) (by (with_reducible repeat (first | refine blk_drewN ?_ _ | refine blk_drew ?_ | refine blk_alloc ?_ _)); exact BK441.out) NB441_437.out (by simp))
            have n2_ := Aside0.mk (hb)
            have n3_ := Aside0.mk (hi)
            have z_HO457 := fun (h0_ : b 1 = true) => (show Kd.R (Kd.int .i64) 3 w45 w.heap.size (fun _ => True) v456 y455 from by first | exact (Kd.R_mono (Kd.R_keep (IsS72.apart (show IsS72 w _ g437 t435 t443 from by repeat (first | (with_reducible first | exact HI437.out | apply IsS72.alloc | apply IsS72.drewN | apply IsS72.drew | apply IsS72.set_1 | refine IsS72.far ?_ NB437_434.out _ | refine IsS72.far ?_ NB437_441.out _) | exact HI437.out)) (by (with_reducible repeat (first | apply Kd.R_alloc | apply Kd.R_drewN | apply Kd.R_drew)); exact (Q_HO457 h0_)) (by decide)) hk (fun _ h => h.2)) (fun _ h => h.1)) | exact Kd.R_mono (Kd.R_mono (Kd.R_keep (IsS72.apart (show IsS72 w _ g437 t435 t443 from by repeat (first | (with_reducible first | exact HI437.out | apply IsS72.alloc | apply IsS72.drewN | apply IsS72.drew | apply IsS72.set_1 | refine IsS72.far ?_ NB437_434.out _ | refine IsS72.far ?_ NB437_441.out _) | exact HI437.out)) (by (with_reducible repeat (first | apply Kd.R_alloc | apply Kd.R_drewN | apply Kd.R_drew)); exact (Q_HO457 h0_)) (by decide)) hk (fun _ h => h.2)) (fun _ h => h.1)) (fun _ h_ => by first | trivial | exact h_ | exact h_.1))
            clear BK434
            clear BK441
            clear HB
            clear HI437
            have BK434 := n0_
            have BK441 := n1_
            have HB := n2_
            have HI437 := n3_
            clear n0_ n1_ n2_ n3_
            (try clear hb)
            (try clear hb2)
            (try clear hk)
            (try clear hi)
            refine hK.out _ _ ⟨v456, adz_v456, m4_, (by rw [ha.out]; exact putSel_upk 2 hb_ rfl rfl rfl), fun _ => (by (with_reducible repeat (first | refine blk_drewN ?_ _ | refine blk_drew ?_ | refine blk_alloc ?_ _)); exact BK434.out), (by (with_reducible repeat (first | refine blk_drewN ?_ _ | refine blk_drew ?_ | refine blk_alloc ?_ _)); exact BK441.out), fun h0_ => absurd ((up_self b 3).symm.trans h0_) (by decide), (by repeat (first | (with_reducible first | exact HB.out | apply below_alloc | apply pw_below_drewN | apply below_drew1 | refine below_set ?_ (IsS72.ge HI437.out) | refine below_set ?_ GE434.out | refine below_set ?_ GE441.out) | exact HB.out)), z_HO457, Q_HA_HO457, fun _ _ => (by repeat (first | (with_reducible first | exact HI437.out | apply IsS72.alloc | apply IsS72.drewN | apply IsS72.drew | apply IsS72.set_1 | refine IsS72.far ?_ NB437_434.out _ | refine IsS72.far ?_ NB437_441.out _) | exact HI437.out)), fun h0_ => absurd ((hoff 7 (by kernel_rfl)).symm.trans h0_) (by decide), fun h0_ => absurd ((hoff 8 (by kernel_rfl)).symm.trans h0_) (by decide), fun h0_ => absurd ((hoff 4 (by kernel_rfl)).symm.trans h0_) (by decide)⟩
          refine steps_cons ?_ ?_
          · rintro b a w' ⟨v456, adz_v456, m4_, ha, Q_BK434, Q_BK441, Q_HI437, Q_HB, Q_HO457, Q_HA_HO457, Q_HI437_e3, Q_HI437_e7, Q_BK434_e8, Q_X4_⟩ hb_ hon hoff
            refine ⟨_, rfl, fun K hK => ?_⟩
            have e17 : a.tmps[17]? = some (v456) := by rw [ha]; exact putSel_on (e := (1, 17, v456)) 1 rfl rfl (hon 1 (by kernel_rfl)) rfl
            have e19 : a.tmps[19]? = some (.int .i64 t458) := by rw [ha]; exact putSel_on (e := (3, 19, .int .i64 t458)) 2 rfl rfl (hon 3 (by kernel_rfl)) rfl
            replace ha := Aside0.mk ha
            have BK441 := Aside0.mk Q_BK441
            have HB := Aside0.mk Q_HB
            have HO457 := Aside0.mk (Q_HO457 (hon 1 (by kernel_rfl)))
            have HA_HO457 := Aside0.mk (Q_HA_HO457 (hon 1 (by kernel_rfl)))
            obtain ⟨c_, hv_⟩ := HA_HO457.out
            rw [hv_] at e17
            refine value_ (w1 := w') (v := .pointer (some (adz_v456.add (t458).toNat))) (by rfl) rfl ?_ ?_
            · go_simp
              (try simp only [i64_w])
              try rfl
            refine hK.out _ _ ⟨v456, adz_v456, (.pointer (some (adz_v456.add (t458).toNat))), (by rw [ha.out]; exact putSel_upk 3 hb_ rfl rfl rfl), Q_BK434, Q_BK441, fun h0_ => absurd ((hon 3 (by kernel_rfl)).symm.trans h0_) (by decide), Q_HB, Q_HO457, Q_HA_HO457, Q_HI437_e3, Q_HI437_e7, Q_BK434_e8, fun _ => rfl⟩
          refine steps_cons ?_ ?_
          · rintro b a w' ⟨v456, adz_v456, m4_, ha, Q_BK434, Q_BK441, Q_HI437, Q_HB, Q_HO457, Q_HA_HO457, Q_HI437_e3, Q_HI437_e7, Q_BK434_e8, Q_X4_⟩ hb_ hon hoff
            refine ⟨_, rfl, fun K hK => ?_⟩
            have e20 : a.tmps[20]? = some (m4_) := by rw [ha]; exact putSel_on (e := (4, 20, m4_)) 3 rfl rfl (hon 4 (by kernel_rfl)) rfl
            rw [Q_X4_ (hon 4 (by kernel_rfl))] at e20
            replace ha := Aside0.mk ha
            have BK441 := Aside0.mk Q_BK441
            have HB := Aside0.mk Q_HB
            have HO457 := Aside0.mk (Q_HO457 (hon 1 (by kernel_rfl)))
            have HA_HO457 := Aside0.mk (Q_HA_HO457 (hon 1 (by kernel_rfl)))
            obtain ⟨c_, hv_⟩ := HA_HO457.out
            have hF_ := HO457.out
            rw [hv_] at hF_
            obtain ⟨ad_, ea_, hx_⟩ := Kd.at_int (Kd.R_reads' hF_).2.2 t458 (of_eq_true pi460) (of_eq_true qi460)
            cases ea_
            refine value_ (w1 := w') (v := .int .i64 (rd y455 t458)) (by rfl) rfl ?_ ?_
            · go_simp
              (try simp only [i64_w])
              try rfl
            refine hK.out _ _ ⟨v456, adz_v456, m4_, (by rw [ha.out]; exact putSel_upk 4 hb_ rfl rfl rfl), Q_BK434, Q_BK441, fun h0_ => absurd ((hon 3 (by kernel_rfl)).symm.trans h0_) (by decide), Q_HB, Q_HO457, Q_HA_HO457, Q_HI437_e3, Q_HI437_e7, Q_BK434_e8, Q_X4_⟩
          refine steps_cons ?_ ?_
          · rintro b a w' ⟨v456, adz_v456, m4_, ha, Q_BK434, Q_BK441, Q_HI437, Q_HB, Q_HO457, Q_HA_HO457, Q_HI437_e3, Q_HI437_e7, Q_BK434_e8, Q_X4_⟩ hb_ hon hoff
            refine ⟨_, rfl, fun K hK => ?_⟩
            have e22 : a.tmps[22]? = some (.pointer (some ⟨g437, 0, none⟩)) := by rw [ha]; exact (putSel_off rfl).trans rfl
            replace ha := Aside0.mk ha
            have BK434 := Aside0.mk (Q_BK434 (hoff 8 (by kernel_rfl)))
            have BK441 := Aside0.mk Q_BK441
            have HB := Aside0.mk Q_HB
            have HI437 := Aside0.mk (Q_HI437_e3 (hon 3 (by kernel_rfl)) hb_)
            refine goes_ Try.func56 (by kernel_rfl) rfl #[.pointer (some ⟨g437, 0, none⟩)] (by rfl) rfl rfl (by first | (simp only [List.map_toArray, List.map_cons, List.map_nil, Act.eval, Array.getD_eq_getD_getElem?, Option.getD_some, e22]; done) | (simp only [List.map_toArray, List.map_cons, List.map_nil, Act.eval, Array.getD_eq_getD_getElem?, Option.getD_some, e22]; rfl)) ?_
            with_reducible refine (spec_l71Way.calls k g437 t435 t459 t461 t462 w _ ?side1 ?side2 A35.out).mono ?_
            (case side1 => repeat (first | (with_reducible first | exact HI437.out | apply IsS72.alloc | apply IsS72.drewN | apply IsS72.drew | apply IsS72.set_1 | refine IsS72.far ?_ NB437_434.out _ | refine IsS72.far ?_ NB437_441.out _) | exact HI437.out))
            (case side2 => repeat (first | (with_reducible first | exact HB.out | apply below_alloc | apply pw_below_drewN | apply below_drew1 | refine below_set ?_ (IsS72.ge HI437.out) | refine below_set ?_ GE434.out | refine below_set ?_ GE441.out) | exact HB.out))
            rintro e w47 ⟨rfl, hi, hb, hk⟩
            refine ⟨_, rfl, ?_⟩
            have n0_ := Aside0.mk (KeepBut.blk hk (g' := gb434) (o := .cells #[.int .i64 0, .int .i64 0] 24 (0, 0)) (by (with_reducible repeat (first | refine blk_drewN ?_ _ | refine blk_drew ?_ | refine blk_alloc ?_ _)); exact BK434.out) NB434_437.out (by simp))
            have n1_ := Aside0.mk (KeepBut.blk hk (g' := gb441) (o := .cells #[.int .i64 t438, .int .i64 t439] 24 (0, 0)) (by (with_reducible repeat (first | refine blk_drewN ?_ _ | refine blk_drew ?_ | refine blk_alloc ?_ _)); exact BK441.out) NB441_437.out (by simp))
            have n2_ := Aside0.mk (hb)
            have n3_ := Aside0.mk (hi)
            have z_HO457 := fun (h0_ : b 1 = true) => (show Kd.R (Kd.int .i64) 3 w47 w.heap.size (fun _ => True) v456 y455 from by first | exact (Kd.R_mono (Kd.R_keep (IsS72.apart (show IsS72 w _ g437 t435 t459 from by repeat (first | (with_reducible first | exact HI437.out | apply IsS72.alloc | apply IsS72.drewN | apply IsS72.drew | apply IsS72.set_1 | refine IsS72.far ?_ NB437_434.out _ | refine IsS72.far ?_ NB437_441.out _) | exact HI437.out)) (by (with_reducible repeat (first | apply Kd.R_alloc | apply Kd.R_drewN | apply Kd.R_drew)); exact (Q_HO457 h0_)) (by decide)) hk (fun _ h => h.2)) (fun _ h => h.1)) | exact Kd.R_mono (Kd.R_mono (Kd.R_keep (IsS72.apart (show IsS72 w _ g437 t435 t459 from by repeat (first | (with_reducible first | exact HI437.out | apply IsS72.alloc | apply IsS72.drewN | apply IsS72.drew | apply IsS72.set_1 | refine IsS72.far ?_ NB437_434.out _ | refine IsS72.far ?_ NB437_441.out _) | exact HI437.out)) (by (with_reducible repeat (first | apply Kd.R_alloc | apply Kd.R_drewN | apply Kd.R_drew)); exact (Q_HO457 h0_)) (by decide)) hk (fun _ h => h.2)) (fun _ h => h.1)) (fun _ h_ => by first | trivial | exact h_ | exact h_.1))
            clear BK434
            clear BK441
            clear HB
            clear HI437
            have BK434 := n0_
            have BK441 := n1_
            have HB := n2_
            have HI437 := n3_
            clear n0_ n1_ n2_ n3_
            (try clear hb)
            (try clear hb2)
            (try clear hk)
            (try clear hi)
            refine hK.out _ _ ⟨v456, adz_v456, m4_, (by rw [ha.out]; exact putSel_upk 5 hb_ rfl rfl rfl), fun _ => (by (with_reducible repeat (first | refine blk_drewN ?_ _ | refine blk_drew ?_ | refine blk_alloc ?_ _)); exact BK434.out), (by (with_reducible repeat (first | refine blk_drewN ?_ _ | refine blk_drew ?_ | refine blk_alloc ?_ _)); exact BK441.out), fun h0_ => absurd ((hon 3 (by kernel_rfl)).symm.trans h0_) (by decide), (by repeat (first | (with_reducible first | exact HB.out | apply below_alloc | apply pw_below_drewN | apply below_drew1 | refine below_set ?_ (IsS72.ge HI437.out) | refine below_set ?_ GE434.out | refine below_set ?_ GE441.out) | exact HB.out)), z_HO457, Q_HA_HO457, fun _ h1_ => absurd ((up_self b 7).symm.trans h1_) (by decide), fun _ => (by repeat (first | (with_reducible first | exact HI437.out | apply IsS72.alloc | apply IsS72.drewN | apply IsS72.drew | apply IsS72.set_1 | refine IsS72.far ?_ NB437_434.out _ | refine IsS72.far ?_ NB437_441.out _) | exact HI437.out)), fun h0_ => absurd ((hoff 8 (by kernel_rfl)).symm.trans h0_) (by decide), Q_X4_⟩
          refine steps_cons ?_ ?_
          · rintro b a w' ⟨v456, adz_v456, m4_, ha, Q_BK434, Q_BK441, Q_HI437, Q_HB, Q_HO457, Q_HA_HO457, Q_HI437_e3, Q_HI437_e7, Q_BK434_e8, Q_X4_⟩ hb_ hon hoff
            refine ⟨_, rfl, fun K hK => ?_⟩
            have e2 : a.tmps[2]? = some (.pointer (some ⟨gb434, 0, none⟩)) := by rw [ha]; exact (putSel_off rfl).trans rfl
            have e16 : a.tmps[16]? = some (.agg #[.int .i64 t438, .int .i64 t439]) := by rw [ha]; exact putSel_on (e := (0, 16, .agg #[.int .i64 t438, .int .i64 t439])) 0 rfl rfl (hon 0 (by kernel_rfl)) rfl
            replace ha := Aside0.mk ha
            have BK434 := Aside0.mk (Q_BK434 hb_)
            have BK441 := Aside0.mk Q_BK441
            have HB := Aside0.mk Q_HB
            have HI437 := Aside0.mk (Q_HI437_e7 (hon 7 (by kernel_rfl)))
            have hs48 : w'.cell? ⟨gb434, 0, none⟩ = some (.int .i64 0) := (blk_cell BK434.out 0).trans rfl
            have hfs48 := blk_frozen BK434.out 0
            have hns48_1 := NB441_434.out
            have hms48_1 := NB434_441.out
            have hs49 : w'.cell? ⟨gb434, 1, none⟩ = some (.int .i64 0) := (blk_cell BK434.out 1).trans rfl
            have hfs49 := blk_frozen BK434.out 1
            have hns49_1 := NB441_434.out
            have hms49_1 := NB434_441.out
            refine skip_ (w1 := ?_) (by rfl) rfl ?_ ?_
            rotate_left
            · go_simp
              rfl
            refine hK.out _ _ ⟨v456, adz_v456, m4_, (by rw [ha.out]; exact putSel_none (v := undef) rfl), fun h0_ => absurd ((up_self b 8).symm.trans h0_) (by decide), (by (with_reducible repeat (first | refine blk_drewN ?_ _ | refine blk_drew ?_ | refine blk_alloc ?_ _)); refine blk_far ?_ NB441_434.out _; (with_reducible repeat (first | refine blk_drewN ?_ _ | refine blk_drew ?_ | refine blk_alloc ?_ _)); refine blk_far ?_ NB441_434.out _; (with_reducible repeat (first | refine blk_drewN ?_ _ | refine blk_drew ?_ | refine blk_alloc ?_ _)); exact BK441.out), fun h0_ => absurd ((hon 3 (by kernel_rfl)).symm.trans h0_) (by decide), (by repeat (first | (with_reducible first | exact HB.out | apply below_alloc | apply pw_below_drewN | apply below_drew1 | refine below_set ?_ (IsS72.ge HI437.out) | refine below_set ?_ GE434.out | refine below_set ?_ GE441.out) | exact HB.out)), fun h0_ => (by (with_reducible repeat (first | apply Kd.R_alloc | apply Kd.R_drewN | apply Kd.R_drew)); exact Kd.R_mono (Kd.R_far (p := ⟨gb434, 1, none⟩) (Kd.R_far (p := ⟨gb434, 0, none⟩) (Kd.R_types (Q_HO457 h0_) BK434.out (by decide)) (fun _ hk => hk.2) (.int .i64 t438)) (fun _ hk => hk.2) (.int .i64 t439)) (fun _ hk => trivial)), Q_HA_HO457, fun _ h1_ => absurd ((hon 7 (by kernel_rfl)).symm.trans h1_) (by decide), fun _ => (by repeat (first | (with_reducible first | exact HI437.out | apply IsS72.alloc | apply IsS72.drewN | apply IsS72.drew | apply IsS72.set_1 | refine IsS72.far ?_ NB437_434.out _ | refine IsS72.far ?_ NB437_441.out _) | exact HI437.out)), fun _ => (by (with_reducible repeat (first | refine blk_drewN ?_ _ | refine blk_drew ?_ | refine blk_alloc ?_ _)); refine blk_put (cs := #[.int .i64 t438, .int .i64 0]) ?_ 1 _ rfl; (with_reducible repeat (first | refine blk_drewN ?_ _ | refine blk_drew ?_ | refine blk_alloc ?_ _)); refine blk_put (cs := #[.int .i64 0, .int .i64 0]) ?_ 0 _ rfl; (with_reducible repeat (first | refine blk_drewN ?_ _ | refine blk_drew ?_ | refine blk_alloc ?_ _)); exact BK434.out), Q_X4_⟩
          refine steps_cons ?_ ?_
          · rintro b a w' ⟨v456, adz_v456, m4_, ha, Q_BK434, Q_BK441, Q_HI437, Q_HB, Q_HO457, Q_HA_HO457, Q_HI437_e3, Q_HI437_e7, Q_BK434_e8, Q_X4_⟩ hb_ hon hoff
            refine ⟨_, rfl, fun K hK => ?_⟩
            have e21 : a.tmps[21]? = some (.int .i64 (rd y455 t458)) := by rw [ha]; exact putSel_on (e := (5, 21, .int .i64 (rd y455 t458))) 4 rfl rfl (hon 5 (by kernel_rfl)) rfl
            replace ha := Aside0.mk ha
            have BK441 := Aside0.mk Q_BK441
            have HB := Aside0.mk Q_HB
            have HO457 := Aside0.mk (Q_HO457 (hon 1 (by kernel_rfl)))
            have HA_HO457 := Aside0.mk (Q_HA_HO457 (hon 1 (by kernel_rfl)))
            have HI437 := Aside0.mk (Q_HI437_e7 (hon 7 (by kernel_rfl)))
            have BK434 := Aside0.mk (Q_BK434_e8 (hon 8 (by kernel_rfl)))
            refine value_ (w1 := w') (v := .int .i64 (rd y455 t458)) (by rfl) rfl ?_ ?_
            · go_simp
              (try simp only [i64_w])
              try rfl
            refine hK.out _ _ ⟨v456, adz_v456, m4_, (by rw [ha.out]; exact putSel_upk 6 hb_ rfl rfl rfl), fun h0_ => absurd ((hon 8 (by kernel_rfl)).symm.trans h0_) (by decide), Q_BK441, fun h0_ => absurd ((hon 3 (by kernel_rfl)).symm.trans h0_) (by decide), Q_HB, Q_HO457, Q_HA_HO457, fun _ h1_ => absurd ((hon 7 (by kernel_rfl)).symm.trans h1_) (by decide), Q_HI437_e7, Q_BK434_e8, Q_X4_⟩
          refine steps_cons ?_ ?_
          · rintro b a w' ⟨v456, adz_v456, m4_, ha, Q_BK434, Q_BK441, Q_HI437, Q_HB, Q_HO457, Q_HA_HO457, Q_HI437_e3, Q_HI437_e7, Q_BK434_e8, Q_X4_⟩ hb_ hon hoff
            refine ⟨_, rfl, fun K hK => ?_⟩
            have e23 : a.tmps[23]? = some (.int .i64 t461) := by rw [ha]; exact putSel_on (e := (7, 23, .int .i64 t461)) 5 rfl rfl (hon 7 (by kernel_rfl)) rfl
            replace ha := Aside0.mk ha
            have BK441 := Aside0.mk Q_BK441
            have HB := Aside0.mk Q_HB
            have HO457 := Aside0.mk (Q_HO457 (hon 1 (by kernel_rfl)))
            have HA_HO457 := Aside0.mk (Q_HA_HO457 (hon 1 (by kernel_rfl)))
            have HI437 := Aside0.mk (Q_HI437_e7 (hon 7 (by kernel_rfl)))
            have BK434 := Aside0.mk (Q_BK434_e8 (hon 8 (by kernel_rfl)))
            refine value_ (w1 := w') (v := .int .i64 t461) (by rfl) rfl ?_ ?_
            · go_simp
              (try simp only [i64_w])
              try rfl
            refine hK.out _ _ ⟨v456, adz_v456, m4_, (by rw [ha.out]; exact putSel_upk 7 hb_ rfl rfl rfl), fun h0_ => absurd ((hon 8 (by kernel_rfl)).symm.trans h0_) (by decide), Q_BK441, fun h0_ => absurd ((hon 3 (by kernel_rfl)).symm.trans h0_) (by decide), Q_HB, Q_HO457, Q_HA_HO457, fun _ h1_ => absurd ((hon 7 (by kernel_rfl)).symm.trans h1_) (by decide), Q_HI437_e7, Q_BK434_e8, Q_X4_⟩
          exact steps_nil
        rintro b a w52 hall ⟨v456, adz_v456, m4_, ha, Q_BK434, Q_BK441, Q_HI437, Q_HB, Q_HO457, Q_HA_HO457, Q_HI437_e3, Q_HI437_e7, Q_BK434_e8, Q_X4_⟩
        clear BK434 BK441 HB HI437
        have hb0_ := hall 0 (by kernel_rfl)
        have hb1_ := hall 1 (by kernel_rfl)
        have hb3_ := hall 3 (by kernel_rfl)
        have hb4_ := hall 4 (by kernel_rfl)
        have hb5_ := hall 5 (by kernel_rfl)
        have hb7_ := hall 7 (by kernel_rfl)
        have hb8_ := hall 8 (by kernel_rfl)
        have hb9_ := hall 9 (by kernel_rfl)
        have hb10_ := hall 10 (by kernel_rfl)
        subst ha
        obtain rfl := Q_X4_ hb4_
        simp only [putSel, hb0_, hb1_, hb3_, hb4_, hb5_, hb7_, hb8_, hb9_, hb10_, if_true, Act.put, List.setIfInBounds_toArray, List.set_cons_zero, List.set_cons_succ]
        clear Q_BK434
        have BK441 := Aside0.mk Q_BK441
        clear Q_BK441
        clear Q_HI437
        have HB := Aside0.mk Q_HB
        clear Q_HB
        have HO457 := Aside0.mk (Q_HO457 hb1_)
        clear Q_HO457
        have HA_HO457 := Aside0.mk (Q_HA_HO457 hb1_)
        clear Q_HA_HO457
        clear Q_HI437_e3
        have HI437 := Aside0.mk (Q_HI437_e7 hb7_)
        clear Q_HI437_e7
        have BK434 := Aside0.mk (Q_BK434_e8 hb8_)
        clear Q_BK434_e8
        clear hall hb0_ hb1_ hb3_ hb4_ hb5_ hb7_ hb8_ hb9_ hb10_
        obtain ⟨co53, eo53⟩ := HA_HO457.out
        clear HA_HO457
        subst eo53
        try go_wp2
        refine bodyPost_ret (results_ctt rfl _ _ gb434 24 #[.int .i64 t438, .int .i64 t439] (0, 0) _ rfl (by (with_reducible repeat (first | refine blk_drewN ?_ _ | refine blk_drew ?_ | refine blk_alloc ?_ _)); exact BK434.out) Try.underlying24 rfl (by kernel_rfl)) rfl ?_
        exact ⟨by first | rfl | (simp [errW_none, errW_some] <;> rfl) | (simp [*, errW_none, errW_some] <;> rfl), by repeat (first | (with_reducible first | exact HB.out | apply below_alloc | apply pw_below_drewN | apply below_drew1 | refine below_set ?_ (IsS72.ge HI437.out) | refine below_set ?_ GE434.out | refine below_set ?_ GE441.out) | exact HB.out)⟩
      · rw [if_neg c34] at H
        exact absurd H (by simp)
    · rw [if_neg c33] at H
      exact absurd H (by simp)

end Go.Proofs.Ytfjfjabdgemalaa.S
