/- What the Go functions spec_DrawFanRound compute: for each a Lean function with the same answers, and the contract that the Go code comes to them; under the condition that the Lean function answers. The text was written by the print program of the kit, parted and joined anew, and turned in places by a small program of this session. -/
import Derived.Test.YtfjfjabdgemalaaSBase
import Derived.Test.YtfjfjabdgemalaaSC
import Derived.Test.YtfjfjabdgemalaaSFspecl71Fan
import Derived.Test.YtfjfjabdgemalaaSFspecl71Way
namespace Go.Proofs.Ytfjfjabdgemalaa.S
open Go.RowKit Go.Proofs.YtfjfjabdgemalaaW.PrintWords Go.Proofs.YtfjfjabdgemalaaW.PrintLast Go.Proofs.YtfjfjabdgemalaaW.PrintMore
attribute [local go_sem] max2_int min2_int max_two min_two max_three min_three max_four min_four   -- for this text's walks alone
set_option linter.unusedVariables false
set_option linter.unusedSimpArgs false

/-! ### spec_DrawFanRound: function 28 -/
def spec_DrawFanRound.f (k : Nat) (l0 : List Int) : Option (Int × Int × Int × Int) := (spec_l6Open.f l0).bind fun bt348 => ((spec_l71Fan.f k bt348.1 bt348.2).bind fun bt351 => ((some (([1, 10, 100, 6000, 360000, 129600000, 0, 129600001] : List Int) : List Int)).bind fun y354 => ((spec_l6Rd_pick.f k bt348.1 bt351.2.2 8).bind fun bt357 => (if 0 ≤ bt357.1 then (if bt357.1 < (y354.length : Int) then ((spec_l71Way.f k bt348.1 bt357.2).bind fun bt360 => (some (bt351.1, bt351.2.1, rd y354 bt357.1, bt360.1))) else (none)) else (none)))))
theorem spec_DrawFanRound.mono : ∀ a0 k, LeO (spec_DrawFanRound.f k a0) (spec_DrawFanRound.f (k + 1) a0) := by
  intro a0 k
  unfold spec_DrawFanRound.f
  repeat' first
      | (with_reducible exact spec_l6Rd_pick.mono _ _ _ _)
      | (with_reducible exact spec_l71Fan.mono _ _ _)
      | (with_reducible exact spec_l71Way.mono _ _ _)
      | (with_reducible exact LeO.refl _)
      | (with_reducible exact LeO.none _)
      | (with_reducible refine LeO.ite ?_ ?_)
      | (with_reducible refine LeO.bind ?_ (fun _ => ?_))
      | exact spec_l6Rd_pick.mono _ _ _ _
      | exact spec_l71Fan.mono _ _ _
      | exact spec_l71Way.mono _ _ _
      | exact LeO.none _
      | refine LeO.ite ?_ ?_
      | refine LeO.bind ?_ (fun _ => ?_)
def spec_DrawFanRound.T2 : Bool × List (List Nat × List Nat) := (true, [([], []), ([0], [0]), ([], []), ([], []), ([3, 1], [3]), ([2, 4], [2, 4]), ([5], [5]), ([], []), ([7, 4], [7]), ([1, 8, 0, 1], [1]), ([6, 9, 0, 1, 2, 3, 4, 5, 6, 9], [6]), ([8, 10, 0, 1, 2, 3, 4, 5, 6, 7, 8, 9, 10], [8])])
def spec_DrawFanRound.B2 : List Nat := [0, 1, 0, 0, 11, 31, 63, 0, 155, 411, 1023, 2047]
theorem spec_DrawFanRound.tab2 : rtab .any (opsOf Try.f28 2) = spec_DrawFanRound.T2 := by kernel_rfl
theorem spec_DrawFanRound.bits2 : waitsOk spec_DrawFanRound.T2.2 spec_DrawFanRound.B2 = true := by kernel_rfl
set_option maxHeartbeats 8000000 in
set_option maxRecDepth 100000 in
theorem spec_DrawFanRound.calls (k : Nat) (A0 : Option Addr) (c0 : Nat) (l0 : List Int) (r1 : Int) (r2 : Int) (r3 : Int) (r4 : Int) (w : World) (hr0 : Kd.C (Kd.int .u8) w A0 l0.length l0) (hc0 : l0.length ≤ c0) (h : spec_DrawFanRound.f k l0 = some (r1, r2, r3, r4)) :
    Calls Try.prog 28 #[.slice A0 l0.length c0] w fun e w' => e = .returned (.tuple #[.agg #[.int .i64 r1, .int .i64 r2], .int .i64 r3, .int .i64 r4]) ∧ Below w.heap.size w w' := by
  have hu45 := Try.underlying45
  have HR0 := Aside0.mk hr0
  have HC0 := Aside0.mk hc0
  clear hr0 hc0
  have HB := Aside0.mk (Below.refl w.heap.size w)
  have H : ((spec_l6Open.f l0).bind fun bt348 => ((spec_l71Fan.f k bt348.1 bt348.2).bind fun bt351 => ((some (([1, 10, 100, 6000, 360000, 129600000, 0, 129600001] : List Int) : List Int)).bind fun y354 => ((spec_l6Rd_pick.f k bt348.1 bt351.2.2 8).bind fun bt357 => (if 0 ≤ bt357.1 then (if bt357.1 < (y354.length : Int) then ((spec_l71Way.f k bt348.1 bt357.2).bind fun bt360 => (some (bt351.1, bt351.2.1, rd y354 bt357.1, bt360.1))) else (none)) else (none)))))) = some (r1, r2, r3, r4) := h
  clear h
  replace H := Option.bind_eq_some_iff.mp H
  obtain ⟨⟨t348, t349⟩, A20, H⟩ := H
  replace H : ((spec_l71Fan.f k t348 t349).bind fun bt351 => ((some (([1, 10, 100, 6000, 360000, 129600000, 0, 129600001] : List Int) : List Int)).bind fun y354 => ((spec_l6Rd_pick.f k t348 bt351.2.2 8).bind fun bt357 => (if 0 ≤ bt357.1 then (if bt357.1 < (y354.length : Int) then ((spec_l71Way.f k t348 bt357.2).bind fun bt360 => (some (bt351.1, bt351.2.1, rd y354 bt357.1, bt360.1))) else (none)) else (none))))) = some (r1, r2, r3, r4) := H
  have A2 := Aside0.mk A20
  clear A20
  replace H := Option.bind_eq_some_iff.mp H
  obtain ⟨⟨t351, t352, t353⟩, A30, H⟩ := H
  replace H : ((some (([1, 10, 100, 6000, 360000, 129600000, 0, 129600001] : List Int) : List Int)).bind fun y354 => ((spec_l6Rd_pick.f k t348 t353 8).bind fun bt357 => (if 0 ≤ bt357.1 then (if bt357.1 < (y354.length : Int) then ((spec_l71Way.f k t348 bt357.2).bind fun bt360 => (some (t351, t352, rd y354 bt357.1, bt360.1))) else (none)) else (none)))) = some (r1, r2, r3, r4) := H
  have A3 := Aside0.mk A30
  clear A30
  obtain ⟨y354, hy354⟩ : ∃ y_ : List Int, y_ = (([1, 10, 100, 6000, 360000, 129600000, 0, 129600001] : List Int)) := ⟨_, rfl⟩
  replace H : ((spec_l6Rd_pick.f k t348 t353 8).bind fun bt357 => (if 0 ≤ bt357.1 then (if bt357.1 < (y354.length : Int) then ((spec_l71Way.f k t348 bt357.2).bind fun bt360 => (some (t351, t352, rd y354 bt357.1, bt360.1))) else (none)) else (none))) = some (r1, r2, r3, r4) := by first | (rw [hy354]; with_reducible exact H) | (have H2_ := (Option.bind_some _ _).symm.trans H; rw [hy354]; with_reducible exact H2_) | (have H2_ := (Option.bind_some _ _).symm.trans H; with_reducible exact H2_) | with_reducible exact H | (rw [hy354]; exact H) | exact H
  have Ny354 := Aside0.mk hy354
  clear hy354
  replace H := Option.bind_eq_some_iff.mp H
  obtain ⟨⟨t357, t358⟩, A40, H⟩ := H
  replace H : (if 0 ≤ t357 then (if t357 < (y354.length : Int) then ((spec_l71Way.f k t348 t358).bind fun bt360 => (some (t351, t352, rd y354 t357, bt360.1))) else (none)) else (none)) = some (r1, r2, r3, r4) := H
  have A4 := Aside0.mk A40
  clear A40
  by_cases c5 : 0 ≤ t357
  · rw [if_pos c5] at H
    have c5b0 : decide (0 ≤ t357) = true := decide_eq_true c5
    clear c5
    by_cases c6 : t357 < (y354.length : Int)
    · rw [if_pos c6] at H
      have c6b0 : decide (t357 < (y354.length : Int)) = true := decide_eq_true c6
      clear c6
      replace H := Option.bind_eq_some_iff.mp H
      obtain ⟨⟨t360, t361⟩, A70, H⟩ := H
      replace H : (some (t351, t352, rd y354 t357, t360)) = some (r1, r2, r3, r4) := H
      have A7 := Aside0.mk A70
      clear A70
      simp only [Option.some.injEq, Prod.mk.injEq] at H
      obtain ⟨rfl, rfl, rfl, rfl⟩ := H
      go_enter Try.func28, Try.ntmps28
      try go_wp2_with (first | ((with_reducible refine gate_dst (N := 2) rfl ?_); refine box_event ?hg (N := 2) ?hd (cs := #[.int .i64 0, .int .i64 0]) (t := 45) ?hr ?_; (case hd => rfl); (case hg => rfl); (case hr => first | (go_simp; done) | (go_simp; rfl)); intro gb347 hg w8 hbox hb; have n0_ := Aside0.mk (below_step (by repeat (first | (with_reducible first | exact HB.out | apply below_alloc | apply pw_below_drewN | apply below_drew1) | exact HB.out)) hb); have n1_ := Aside0.mk (hbox); have n2_ := Aside0.mk ((by rw [hg]; exact (below_size (by repeat (first | (with_reducible first | exact HB.out | apply below_alloc | apply pw_below_drewN | apply below_drew1) | exact HB.out))) : w.heap.size ≤ gb347)); have n3_ := Aside0.mk ((by rw [hg]; exact (below_size (by repeat (first | (with_reducible first | exact HB.out | apply below_alloc | apply pw_below_drewN | apply below_drew1) | exact HB.out))) : w.heap.size ≤ gb347)); clear HB; have HB := n0_; have BK347 := n1_; have GW347 := n2_; have GE347 := n3_; clear n0_ n1_ n2_ n3_; clear hb hbox hg) | ((with_reducible refine gate_callee (f := 36) rfl ?_); refine goesL_ (some 7) rfl rfl Try.func36 (by kernel_rfl) rfl #[.slice A0 l0.length c0] rfl (by (try simp only [List.map_toArray, List.map_cons, List.map_nil]); first | done | rfl | (simp only [List.length_drop, List.length_take]; rfl)) ?_; (with_reducible refine (spec_l6Open.calls _ _ l0 t348 t349 w _ ?side1 ?side2 ?side3 A2.out).mono ?_); (case side1 => repeat (first | (with_reducible first | exact HB.out | apply below_alloc | apply pw_below_drewN | apply below_drew1 | refine below_set ?_ GE347.out) | exact HB.out)); (case side2 => exact HR0.out); (case side3 => exact HC0.out); rintro e w9 ⟨g350, rfl, hi, hb, hb2⟩; refine ⟨_, rfl, ?_⟩; have n0_ := Aside0.mk (blk_below (g := gb347) (o := .cells #[.int .i64 0, .int .i64 0] 45 (0, 0)) (by (with_reducible repeat (first | refine blk_drewN ?_ _ | refine blk_drew ?_ | refine blk_alloc ?_ _)); exact BK347.out) hb2); have n1_ := Aside0.mk (hb); have n2_ := Aside0.mk (hi); have n3_ := Aside0.mk (IsS72.ne_blk hi (blk_below (g := gb347) (o := .cells #[.int .i64 0, .int .i64 0] 45 (0, 0)) (by (with_reducible repeat (first | refine blk_drewN ?_ _ | refine blk_drew ?_ | refine blk_alloc ?_ _)); exact BK347.out) hb2) (by decide)); have n4_ := Aside0.mk (Ne.symm (IsS72.ne_blk hi (blk_below (g := gb347) (o := .cells #[.int .i64 0, .int .i64 0] 45 (0, 0)) (by (with_reducible repeat (first | refine blk_drewN ?_ _ | refine blk_drew ?_ | refine blk_alloc ?_ _)); exact BK347.out) hb2) (by decide))); clear BK347; clear HB; have BK347 := n0_; have HB := n1_; have HI350 := n2_; have NB350_347 := n3_; have NB347_350 := n4_; clear n0_ n1_ n2_ n3_ n4_; (try clear hb); (try clear hb2); (try clear hk); (try clear hi)))
      have pi359 : (0 ≤ (t357 : Int)) = True := eq_true (of_decide_eq_true (by first | (with_reducible assumption) | assumption))
      have qi359 : (t357 < (y354.length : Int)) = True := eq_true (of_decide_eq_true (by first | (with_reducible assumption) | assumption))
      have n0_ := Aside0.mk (blk_drew BK347.out)
      have n1_ := Aside0.mk (IsS72.drew HI350.out)
      have n2_ := Aside0.mk (below_drew1 HB.out)
      clear BK347
      clear HI350
      clear HB
      have BK347 := n0_
      have HI350 := n1_
      have HB := n2_
      clear n0_ n1_ n2_
      refine start_ (n := 12) (S := fun w' => True) (ds := []) #[false, false, false, false, false, false, false, false, false, false, false, false] (by kernel_rfl) rfl rfl trivial (fun hHeld => ?_); refine with_tabW spec_DrawFanRound.tab2 spec_DrawFanRound.bits2 (fun HT_ HW_ => ?_)
      generalize w9.drew = w10 at BK347 HI350 HB hHeld ⊢
      refine pure_ (i := 0) (N := some 8) (v := ?_) (a' := ?_) #[true, false, false, false, false, false, false, false, false, false, false, false] rfl rfl (any_of HT_.out (by kernel_rfl)) (fun _ _ _ h => h) (Or.inl ⟨by rfl, ?_⟩) ?_ ?_
      rotate_left
      · intro w'
        go_simp
        with_reducible rfl
      rotate_left
      · simp only [Act.put, List.setIfInBounds_toArray, List.set_cons_zero, List.set_cons_succ, i64_w, i32_w]
        rfl
      refine pure_ (i := 3) (N := some 11) (v := ?_) (a' := ?_) #[true, false, false, true, false, false, false, false, false, false, false, false] rfl rfl (any_of HT_.out (by kernel_rfl)) (fun _ _ _ h => h) (Or.inl ⟨by rfl, ?_⟩) ?_ ?_
      rotate_left
      · intro w'
        go_simp
        with_reducible rfl
      rotate_left
      · simp only [Act.put, List.setIfInBounds_toArray, List.set_cons_zero, List.set_cons_succ, i64_w, i32_w]
        rfl
      refine pure_ (i := 7) (N := some 15) (v := ?_) (a' := ?_) #[true, false, false, true, false, false, false, true, false, false, false, false] rfl rfl (any_of HT_.out (by kernel_rfl)) (fun _ _ _ h => h) (Or.inl ⟨by rfl, ?_⟩) ?_ ?_
      rotate_left
      · intro w'
        go_simp
        with_reducible rfl
      rotate_left
      · simp only [Act.put, List.setIfInBounds_toArray, List.set_cons_zero, List.set_cons_succ, i64_w, i32_w]
        rfl
      refine inv_at [1, 2, 4, 5, 6, 8, 9, 10, 11] (fun a0_ b a w' => ∃ (v355 : Value) (adz_v355 : Addr) (m5_ : Value), a = putSel a0_ b [(1, 9, .agg #[.int .i64 t351, .int .i64 t352]), (2, 10, v355), (4, 12, .int .i64 t357), (5, 13, m5_), (6, 14, .int .i64 (rd y354 t357)), (8, 16, .int .i64 t360), (10, 3, .int .i64 (rd y354 t357)), (11, 4, .int .i64 t360)] ∧ (b 9 = false → w'.heap[gb347]? = some (.cells #[.int .i64 0, .int .i64 0] 45 (0, 0))) ∧ (b 1 = false → IsS72 w w' g350 t348 t349) ∧ (Below w.heap.size w w') ∧ (b 1 = true → b 4 = false → IsS72 w w' g350 t348 t353) ∧ (b 2 = true → Kd.R (Kd.int .i64) 3 w' w.heap.size (fun _ => True) v355 y354) ∧ (b 2 = true → ∃ c_, (v355 : Value) = .slice (some adz_v355) y354.length c_) ∧ (b 4 = true → b 8 = false → IsS72 w w' g350 t348 t358) ∧ (b 8 = true → IsS72 w w' g350 t348 t361) ∧ (b 9 = true → w'.heap[gb347]? = some (.cells #[.int .i64 t351, .int .i64 t352] 45 (0, 0))) ∧ (b 5 = true → (m5_ : Value) = .pointer (some (adz_v355.add (t357).toNat)))) HT_.out HW_.out (by kernel_rfl) (by kernel_rfl) ?_ ?_ ?_
      · exact ⟨.bool false, ⟨0, 0, none⟩, .bool false, by simp only [putSel, Bool.false_eq_true, if_false], fun _ => BK347.out, fun _ => HI350.out, HB.out, fun h_ => absurd h_ (by decide), fun h_ => absurd h_ (by decide), fun h_ => absurd h_ (by decide), fun h_ => absurd h_ (by decide), fun h_ => absurd h_ (by decide), fun h_ => absurd h_ (by decide), fun h_ => absurd h_ (by decide)⟩
      · skip
        clear BK347 HB HI350
        refine steps_cons ?_ ?_
        · rintro b a w' ⟨v355, adz_v355, m5_, ha, Q_BK347, Q_HI350, Q_HB, Q_HI350_e1, Q_HO356, Q_HA_HO356, Q_HI350_e4, Q_HI350_e8, Q_BK347_e9, Q_X5_⟩ hb_ hon hoff
          refine ⟨_, rfl, fun K hK => ?_⟩
          have e8 : a.tmps[8]? = some (.pointer (some ⟨g350, 0, none⟩)) := by rw [ha]; exact (putSel_off rfl).trans rfl
          replace ha := Aside0.mk ha
          have BK347 := Aside0.mk (Q_BK347 (hoff 9 (by kernel_rfl)))
          have HI350 := Aside0.mk (Q_HI350 hb_)
          have HB := Aside0.mk Q_HB
          refine goes_ Try.func55 (by kernel_rfl) rfl #[.pointer (some ⟨g350, 0, none⟩)] (by rfl) rfl rfl (by first | (simp only [List.map_toArray, List.map_cons, List.map_nil, Act.eval, Array.getD_eq_getD_getElem?, Option.getD_some, e8]; done) | (simp only [List.map_toArray, List.map_cons, List.map_nil, Act.eval, Array.getD_eq_getD_getElem?, Option.getD_some, e8]; rfl)) ?_
          with_reducible refine (spec_l71Fan.calls k g350 t348 t349 t351 t352 t353 w _ ?side1 ?side2 A3.out).mono ?_
          (case side1 => repeat (first | (with_reducible first | exact HI350.out | apply IsS72.alloc | apply IsS72.drewN | apply IsS72.drew | apply IsS72.set_1 | refine IsS72.far ?_ NB350_347.out _) | exact HI350.out))
          (case side2 => repeat (first | (with_reducible first | exact HB.out | apply below_alloc | apply pw_below_drewN | apply below_drew1 | refine below_set ?_ (IsS72.ge HI350.out) | refine below_set ?_ GE347.out) | exact HB.out))
          rintro e w11 ⟨rfl, hi, hb, hk⟩
          refine ⟨_, rfl, ?_⟩
          have n0_ := Aside0.mk (KeepBut.blk hk (g' := gb347) (o := .cells #[.int .i64 0, .int .i64 0] 45 (0, 0)) (by (with_reducible repeat (first | refine blk_drewN ?_ _ | refine blk_drew ?_ | refine blk_alloc ?_ _)); exact BK347.out) NB347_350.out (by simp))
          have n1_ := Aside0.mk (hb)
          have n2_ := Aside0.mk (hi)
          have z_HO356 := fun (h0_ : b 2 = true) => (show Kd.R (Kd.int .i64) 3 w11 w.heap.size (fun _ => True) v355 y354 from by first | exact (Kd.R_mono (Kd.R_keep (IsS72.apart (show IsS72 w _ g350 t348 t349 from by repeat (first | (with_reducible first | exact HI350.out | apply IsS72.alloc | apply IsS72.drewN | apply IsS72.drew | apply IsS72.set_1 | refine IsS72.far ?_ NB350_347.out _) | exact HI350.out)) (by (with_reducible repeat (first | apply Kd.R_alloc | apply Kd.R_drewN | apply Kd.R_drew)); exact (Q_HO356 h0_)) (by decide)) hk (fun _ h => h.2)) (fun _ h => h.1)) | exact Kd.R_mono (Kd.R_mono (Kd.R_keep (IsS72.apart (show IsS72 w _ g350 t348 t349 from by repeat (first | (with_reducible first | exact HI350.out | apply IsS72.alloc | apply IsS72.drewN | apply IsS72.drew | apply IsS72.set_1 | refine IsS72.far ?_ NB350_347.out _) | exact HI350.out)) (by (with_reducible repeat (first | apply Kd.R_alloc | apply Kd.R_drewN | apply Kd.R_drew)); exact (Q_HO356 h0_)) (by decide)) hk (fun _ h => h.2)) (fun _ h => h.1)) (fun _ h_ => by first | trivial | exact h_ | exact h_.1))
          clear BK347
          clear HB
          clear HI350
          have BK347 := n0_
          have HB := n1_
          have HI350 := n2_
          clear n0_ n1_ n2_
          (try clear hb)
          (try clear hb2)
          (try clear hk)
          (try clear hi)
          refine hK.out _ _ ⟨v355, adz_v355, m5_, (by rw [ha.out]; exact putSel_upk 0 hb_ rfl rfl rfl), fun _ => (by (with_reducible repeat (first | refine blk_drewN ?_ _ | refine blk_drew ?_ | refine blk_alloc ?_ _)); exact BK347.out), fun h0_ => absurd ((up_self b 1).symm.trans h0_) (by decide), (by repeat (first | (with_reducible first | exact HB.out | apply below_alloc | apply pw_below_drewN | apply below_drew1 | refine below_set ?_ (IsS72.ge HI350.out) | refine below_set ?_ GE347.out) | exact HB.out)), fun _ _ => (by repeat (first | (with_reducible first | exact HI350.out | apply IsS72.alloc | apply IsS72.drewN | apply IsS72.drew | apply IsS72.set_1 | refine IsS72.far ?_ NB350_347.out _) | exact HI350.out)), z_HO356, Q_HA_HO356, fun h0_ _ => absurd ((hoff 4 (by kernel_rfl)).symm.trans h0_) (by decide), fun h0_ => absurd ((hoff 8 (by kernel_rfl)).symm.trans h0_) (by decide), fun h0_ => absurd ((hoff 9 (by kernel_rfl)).symm.trans h0_) (by decide), fun h0_ => absurd ((hoff 5 (by kernel_rfl)).symm.trans h0_) (by decide)⟩
        refine steps_cons ?_ ?_
        · rintro b a w' ⟨v355, adz_v355, m5_, ha, Q_BK347, Q_HI350, Q_HB, Q_HI350_e1, Q_HO356, Q_HA_HO356, Q_HI350_e4, Q_HI350_e8, Q_BK347_e9, Q_X5_⟩ hb_ hon hoff
          refine ⟨_, rfl, fun K hK => ?_⟩
          replace ha := Aside0.mk ha
          have HB := Aside0.mk Q_HB
          refine Kd.R_lit_step (Kd.int .i64) _ 3 ?hg (N := 10) ?hd (xs := ([1, 10, 100, 6000, 360000, 129600000, 0, 129600001] : List Int)) (inner := [.int .i64 1, .int .i64 10, .int .i64 100, .int .i64 6000, .int .i64 360000, .int .i64 129600000, .int .i64 0, .int .i64 129600001]) (ok := fun _ => True) (okp := fun _ => True) ?hr ?hp (fun _ hk => hk) trivial (Below.refl _ _) (Nat.le_refl _) (by simp) ?_; (case hd => rfl); (case hg => rfl); (case hr => first | (go_simp; done) | (go_simp; rfl)); (case hp => exact (Reps.one (show Kd.M (Kd.int .i64) _ _ _ 1 [.int .i64 1] from rfl) (Reps.one (show Kd.M (Kd.int .i64) _ _ _ 10 [.int .i64 10] from rfl) (Reps.one (show Kd.M (Kd.int .i64) _ _ _ 100 [.int .i64 100] from rfl) (Reps.one (show Kd.M (Kd.int .i64) _ _ _ 6000 [.int .i64 6000] from rfl) (Reps.one (show Kd.M (Kd.int .i64) _ _ _ 360000 [.int .i64 360000] from rfl) (Reps.one (show Kd.M (Kd.int .i64) _ _ _ 129600000 [.int .i64 129600000] from rfl) (Reps.one (show Kd.M (Kd.int .i64) _ _ _ 0 [.int .i64 0] from rfl) (Reps.one (show Kd.M (Kd.int .i64) _ _ _ 129600001 [.int .i64 129600001] from rfl) (Reps.none _ _))))))))))
          intro v355 w11 ho12 hb hg_ hnew_
          clear hg_ hnew_
          (first | rw [← Ny354.out] at ho12 | (simp only [Int.reduceToNat] at ho12; rw [← Ny354.out] at ho12))
          have n0_ := Aside0.mk (Kd.R_lower ho12 (below_size (by repeat (first | (with_reducible first | exact HB.out | apply below_alloc | apply pw_below_drewN | apply below_drew1 | refine below_set ?_ GE347.out) | exact HB.out))))
          have n3_ := Aside0.mk (below_step (by repeat (first | (with_reducible first | exact HB.out | apply below_alloc | apply pw_below_drewN | apply below_drew1 | refine below_set ?_ GE347.out) | exact HB.out)) hb)
          have z_BK347 := fun (h0_ : b 9 = false) => (show w11.heap[gb347]? = some (.cells #[.int .i64 0, .int .i64 0] 45 (0, 0)) from by first | exact (blk_below (g := gb347) (o := .cells #[.int .i64 0, .int .i64 0] 45 (0, 0)) (by (with_reducible repeat (first | refine blk_drewN ?_ _ | refine blk_drew ?_ | refine blk_alloc ?_ _)); exact (Q_BK347 h0_)) hb))
          have z_HI350 := fun (h0_ : b 1 = false) => (show IsS72 w w11 g350 t348 t349 from by first | exact (IsS72.below (by repeat (first | (with_reducible first | exact (Q_HI350 h0_) | apply IsS72.alloc | apply IsS72.drewN | apply IsS72.drew | apply IsS72.set_1 | refine IsS72.far ?_ NB350_347.out _) | exact (Q_HI350 h0_))) hb))
          have z_HI350_e1 := fun (h0_ : b 1 = true) (h1_ : b 4 = false) => (show IsS72 w w11 g350 t348 t353 from by first | exact (IsS72.below (by repeat (first | (with_reducible first | exact (Q_HI350_e1 h0_ h1_) | apply IsS72.alloc | apply IsS72.drewN | apply IsS72.drew | apply IsS72.set_1 | refine IsS72.far ?_ NB350_347.out _) | exact (Q_HI350_e1 h0_ h1_))) hb))
          have z_HI350_e4 := fun (h0_ : b 4 = true) (h1_ : b 8 = false) => (show IsS72 w w11 g350 t348 t358 from by first | exact (IsS72.below (by repeat (first | (with_reducible first | exact (Q_HI350_e4 h0_ h1_) | apply IsS72.alloc | apply IsS72.drewN | apply IsS72.drew | apply IsS72.set_1 | refine IsS72.far ?_ NB350_347.out _) | exact (Q_HI350_e4 h0_ h1_))) hb))
          have z_HI350_e8 := fun (h0_ : b 8 = true) => (show IsS72 w w11 g350 t348 t361 from by first | exact (IsS72.below (by repeat (first | (with_reducible first | exact (Q_HI350_e8 h0_) | apply IsS72.alloc | apply IsS72.drewN | apply IsS72.drew | apply IsS72.set_1 | refine IsS72.far ?_ NB350_347.out _) | exact (Q_HI350_e8 h0_))) hb))
          have z_BK347_e9 := fun (h0_ : b 9 = true) => (show w11.heap[gb347]? = some (.cells #[.int .i64 t351, .int .i64 t352] 45 (0, 0)) from by first | exact (blk_below (g := gb347) (o := .cells #[.int .i64 t351, .int .i64 t352] 45 (0, 0)) (by (with_reducible repeat (first | refine blk_drewN ?_ _ | refine blk_drew ?_ | refine blk_alloc ?_ _)); exact (Q_BK347_e9 h0_)) hb))
          clear HB
          have HO356 := n0_
          have HB := n3_
          clear n0_ n3_
          clear hb ho12
          obtain ⟨Ao13, co13, eo13⟩ := Kd.R_slice HO356.out
          subst eo13
          obtain ⟨ado13, fo13, _⟩ := Kd.at_int (Kd.R_reads' HO356.out).2.2 0 (by decide) (by rw [Ny354.out]; simp)
          cases fo13
          refine hK.out _ _ ⟨.slice (some ado13) y354.length co13, ado13, m5_, (by rw [ha.out]; exact putSel_upk 1 hb_ rfl rfl rfl), z_BK347, z_HI350, (by repeat (first | (with_reducible first | exact HB.out | apply below_alloc | apply pw_below_drewN | apply below_drew1 | refine below_set ?_ GE347.out) | exact HB.out)), z_HI350_e1, fun _ => (by (with_reducible repeat (first | apply Kd.R_alloc | apply Kd.R_drewN | apply Kd.R_drew)); exact HO356.out), fun _ => ⟨_, rfl⟩, z_HI350_e4, z_HI350_e8, z_BK347_e9, fun h0_ => absurd ((hoff 5 (by kernel_rfl)).symm.trans h0_) (by decide)⟩
        refine steps_cons ?_ ?_
        · rintro b a w' ⟨v355, adz_v355, m5_, ha, Q_BK347, Q_HI350, Q_HB, Q_HI350_e1, Q_HO356, Q_HA_HO356, Q_HI350_e4, Q_HI350_e8, Q_BK347_e9, Q_X5_⟩ hb_ hon hoff
          refine ⟨_, rfl, fun K hK => ?_⟩
          have e11 : a.tmps[11]? = some (.pointer (some ⟨g350, 0, none⟩)) := by rw [ha]; exact (putSel_off rfl).trans rfl
          replace ha := Aside0.mk ha
          have BK347 := Aside0.mk (Q_BK347 (hoff 9 (by kernel_rfl)))
          have HB := Aside0.mk Q_HB
          have HI350 := Aside0.mk (Q_HI350_e1 (hon 1 (by kernel_rfl)) hb_)
          refine goes_ Try.func37 (by kernel_rfl) rfl #[.pointer (some ⟨g350, 0, none⟩), .int .i64 8] (by rfl) rfl rfl (by first | (simp only [List.map_toArray, List.map_cons, List.map_nil, Act.eval, Array.getD_eq_getD_getElem?, Option.getD_some, e11]; done) | (simp only [List.map_toArray, List.map_cons, List.map_nil, Act.eval, Array.getD_eq_getD_getElem?, Option.getD_some, e11]; rfl)) ?_
          with_reducible refine (spec_l6Rd_pick.calls k g350 t348 t353 8 t357 t358 w _ ?side1 ?side2 A4.out).mono ?_
          (case side1 => repeat (first | (with_reducible first | exact HI350.out | apply IsS72.alloc | apply IsS72.drewN | apply IsS72.drew | apply IsS72.set_1 | refine IsS72.far ?_ NB350_347.out _) | exact HI350.out))
          (case side2 => repeat (first | (with_reducible first | exact HB.out | apply below_alloc | apply pw_below_drewN | apply below_drew1 | refine below_set ?_ (IsS72.ge HI350.out) | refine below_set ?_ GE347.out) | exact HB.out))
          rintro e w13 ⟨rfl, hi, hb, hk⟩
          refine ⟨_, rfl, ?_⟩
          have n0_ := Aside0.mk (KeepBut.blk hk (g' := gb347) (o := .cells #[.int .i64 0, .int .i64 0] 45 (0, 0)) (by (with_reducible repeat (first | refine blk_drewN ?_ _ | refine blk_drew ?_ | refine blk_alloc ?_ _)); exact BK347.out) NB347_350.out (by simp))
          have n1_ := Aside0.mk (hb)
          have n2_ := Aside0.mk (hi)
          have z_HO356 := fun (h0_ : b 2 = true) => (show Kd.R (Kd.int .i64) 3 w13 w.heap.size (fun _ => True) v355 y354 from by first | exact (Kd.R_mono (Kd.R_keep (IsS72.apart (show IsS72 w _ g350 t348 t353 from by repeat (first | (with_reducible first | exact HI350.out | apply IsS72.alloc | apply IsS72.drewN | apply IsS72.drew | apply IsS72.set_1 | refine IsS72.far ?_ NB350_347.out _) | exact HI350.out)) (by (with_reducible repeat (first | apply Kd.R_alloc | apply Kd.R_drewN | apply Kd.R_drew)); exact (Q_HO356 h0_)) (by decide)) hk (fun _ h => h.2)) (fun _ h => h.1)) | exact Kd.R_mono (Kd.R_mono (Kd.R_keep (IsS72.apart (show IsS72 w _ g350 t348 t353 from by repeat (first | (with_reducible first | exact HI350.out | apply IsS72.alloc | apply IsS72.drewN | apply IsS72.drew | apply IsS72.set_1 | refine IsS72.far ?_ NB350_347.out _) | exact HI350.out)) (by (with_reducible repeat (first | apply Kd.R_alloc | apply Kd.R_drewN | apply Kd.R_drew)); exact (Q_HO356 h0_)) (by decide)) hk (fun _ h => h.2)) (fun _ h => h.1)) (fun _ h_ => by first | trivial | exact h_ | exact h_.1))
          clear BK347
          clear HB
          clear HI350
          have BK347 := n0_
          have HB := n1_
          have HI350 := n2_
          clear n0_ n1_ n2_
          (try clear hb)
          (try clear hb2)
          (try clear hk)
          (try clear hi)
          refine hK.out _ _ ⟨v355, adz_v355, m5_, (by rw [ha.out]; exact putSel_upk 2 hb_ rfl rfl rfl), fun _ => (by (with_reducible repeat (first | refine blk_drewN ?_ _ | refine blk_drew ?_ | refine blk_alloc ?_ _)); exact BK347.out), fun h0_ => absurd ((hon 1 (by kernel_rfl)).symm.trans h0_) (by decide), (by repeat (first | (with_reducible first | exact HB.out | apply below_alloc | apply pw_below_drewN | apply below_drew1 | refine below_set ?_ (IsS72.ge HI350.out) | refine below_set ?_ GE347.out) | exact HB.out)), fun _ h1_ => absurd ((up_self b 4).symm.trans h1_) (by decide), z_HO356, Q_HA_HO356, fun _ _ => (by repeat (first | (with_reducible first | exact HI350.out | apply IsS72.alloc | apply IsS72.drewN | apply IsS72.drew | apply IsS72.set_1 | refine IsS72.far ?_ NB350_347.out _) | exact HI350.out)), fun h0_ => absurd ((hoff 8 (by kernel_rfl)).symm.trans h0_) (by decide), fun h0_ => absurd ((hoff 9 (by kernel_rfl)).symm.trans h0_) (by decide), fun h0_ => absurd ((hoff 5 (by kernel_rfl)).symm.trans h0_) (by decide)⟩
        refine steps_cons ?_ ?_
        · rintro b a w' ⟨v355, adz_v355, m5_, ha, Q_BK347, Q_HI350, Q_HB, Q_HI350_e1, Q_HO356, Q_HA_HO356, Q_HI350_e4, Q_HI350_e8, Q_BK347_e9, Q_X5_⟩ hb_ hon hoff
          refine ⟨_, rfl, fun K hK => ?_⟩
          have e10 : a.tmps[10]? = some (v355) := by rw [ha]; exact putSel_on (e := (2, 10, v355)) 1 rfl rfl (hon 2 (by kernel_rfl)) rfl
          have e12 : a.tmps[12]? = some (.int .i64 t357) := by rw [ha]; exact putSel_on (e := (4, 12, .int .i64 t357)) 2 rfl rfl (hon 4 (by kernel_rfl)) rfl
          replace ha := Aside0.mk ha
          have HB := Aside0.mk Q_HB
          have HO356 := Aside0.mk (Q_HO356 (hon 2 (by kernel_rfl)))
          have HA_HO356 := Aside0.mk (Q_HA_HO356 (hon 2 (by kernel_rfl)))
          obtain ⟨c_, hv_⟩ := HA_HO356.out
          rw [hv_] at e10
          refine value_ (w1 := w') (v := .pointer (some (adz_v355.add (t357).toNat))) (by rfl) rfl ?_ ?_
          · go_simp
            (try simp only [i64_w])
            try rfl
          refine hK.out _ _ ⟨v355, adz_v355, (.pointer (some (adz_v355.add (t357).toNat))), (by rw [ha.out]; exact putSel_upk 3 hb_ rfl rfl rfl), Q_BK347, fun h0_ => absurd ((hon 1 (by kernel_rfl)).symm.trans h0_) (by decide), Q_HB, fun _ h1_ => absurd ((hon 4 (by kernel_rfl)).symm.trans h1_) (by decide), Q_HO356, Q_HA_HO356, Q_HI350_e4, Q_HI350_e8, Q_BK347_e9, fun _ => rfl⟩
        refine steps_cons ?_ ?_
        · rintro b a w' ⟨v355, adz_v355, m5_, ha, Q_BK347, Q_HI350, Q_HB, Q_HI350_e1, Q_HO356, Q_HA_HO356, Q_HI350_e4, Q_HI350_e8, Q_BK347_e9, Q_X5_⟩ hb_ hon hoff
          refine ⟨_, rfl, fun K hK => ?_⟩
          have e13 : a.tmps[13]? = some (m5_) := by rw [ha]; exact putSel_on (e := (5, 13, m5_)) 3 rfl rfl (hon 5 (by kernel_rfl)) rfl
          rw [Q_X5_ (hon 5 (by kernel_rfl))] at e13
          replace ha := Aside0.mk ha
          have HB := Aside0.mk Q_HB
          have HO356 := Aside0.mk (Q_HO356 (hon 2 (by kernel_rfl)))
          have HA_HO356 := Aside0.mk (Q_HA_HO356 (hon 2 (by kernel_rfl)))
          obtain ⟨c_, hv_⟩ := HA_HO356.out
          have hF_ := HO356.out
          rw [hv_] at hF_
          obtain ⟨ad_, ea_, hx_⟩ := Kd.at_int (Kd.R_reads' hF_).2.2 t357 (of_eq_true pi359) (of_eq_true qi359)
          cases ea_
          refine value_ (w1 := w') (v := .int .i64 (rd y354 t357)) (by rfl) rfl ?_ ?_
          · go_simp
            (try simp only [i64_w])
            try rfl
          refine hK.out _ _ ⟨v355, adz_v355, m5_, (by rw [ha.out]; exact putSel_upk 4 hb_ rfl rfl rfl), Q_BK347, fun h0_ => absurd ((hon 1 (by kernel_rfl)).symm.trans h0_) (by decide), Q_HB, fun _ h1_ => absurd ((hon 4 (by kernel_rfl)).symm.trans h1_) (by decide), Q_HO356, Q_HA_HO356, Q_HI350_e4, Q_HI350_e8, Q_BK347_e9, Q_X5_⟩
        refine steps_cons ?_ ?_
        · rintro b a w' ⟨v355, adz_v355, m5_, ha, Q_BK347, Q_HI350, Q_HB, Q_HI350_e1, Q_HO356, Q_HA_HO356, Q_HI350_e4, Q_HI350_e8, Q_BK347_e9, Q_X5_⟩ hb_ hon hoff
          refine ⟨_, rfl, fun K hK => ?_⟩
          have e15 : a.tmps[15]? = some (.pointer (some ⟨g350, 0, none⟩)) := by rw [ha]; exact (putSel_off rfl).trans rfl
          replace ha := Aside0.mk ha
          have BK347 := Aside0.mk (Q_BK347 (hoff 9 (by kernel_rfl)))
          have HB := Aside0.mk Q_HB
          have HI350 := Aside0.mk (Q_HI350_e4 (hon 4 (by kernel_rfl)) hb_)
          refine goes_ Try.func56 (by kernel_rfl) rfl #[.pointer (some ⟨g350, 0, none⟩)] (by rfl) rfl rfl (by first | (simp only [List.map_toArray, List.map_cons, List.map_nil, Act.eval, Array.getD_eq_getD_getElem?, Option.getD_some, e15]; done) | (simp only [List.map_toArray, List.map_cons, List.map_nil, Act.eval, Array.getD_eq_getD_getElem?, Option.getD_some, e15]; rfl)) ?_
          with_reducible refine (spec_l71Way.calls k g350 t348 t358 t360 t361 w _ ?side1 ?side2 A7.out).mono ?_
          (case side1 => repeat (first | (with_reducible first | exact HI350.out | apply IsS72.alloc | apply IsS72.drewN | apply IsS72.drew | apply IsS72.set_1 | refine IsS72.far ?_ NB350_347.out _) | exact HI350.out))
          (case side2 => repeat (first | (with_reducible first | exact HB.out | apply below_alloc | apply pw_below_drewN | apply below_drew1 | refine below_set ?_ (IsS72.ge HI350.out) | refine below_set ?_ GE347.out) | exact HB.out))
          rintro e w14 ⟨rfl, hi, hb, hk⟩
          refine ⟨_, rfl, ?_⟩
          have n0_ := Aside0.mk (KeepBut.blk hk (g' := gb347) (o := .cells #[.int .i64 0, .int .i64 0] 45 (0, 0)) (by (with_reducible repeat (first | refine blk_drewN ?_ _ | refine blk_drew ?_ | refine blk_alloc ?_ _)); exact BK347.out) NB347_350.out (by simp))
          have n1_ := Aside0.mk (hb)
          have n2_ := Aside0.mk (hi)
          have z_HO356 := fun (h0_ : b 2 = true) => (show Kd.R (Kd.int .i64) 3 w14 w.heap.size (fun _ => True) v355 y354 from by first | exact (Kd.R_mono (Kd.R_keep (IsS72.apart (show IsS72 w _ g350 t348 t358 from by repeat (first | (with_reducible first | exact HI350.out | apply IsS72.alloc | apply IsS72.drewN | apply IsS72.drew | apply IsS72.set_1 | refine IsS72.far ?_ NB350_347.out _) | exact HI350.out)) (by (with_reducible repeat (first | apply Kd.R_alloc | apply Kd.R_drewN | apply Kd.R_drew)); exact (Q_HO356 h0_)) (by decide)) hk (fun _ h => h.2)) (fun _ h => h.1)) | exact Kd.R_mono (Kd.R_mono (Kd.R_keep (IsS72.apart (show IsS72 w _ g350 t348 t358 from by repeat (first | (with_reducible first | exact HI350.out | apply IsS72.alloc | apply IsS72.drewN | apply IsS72.drew | apply IsS72.set_1 | refine IsS72.far ?_ NB350_347.out _) | exact HI350.out)) (by (with_reducible repeat (first | apply Kd.R_alloc | apply Kd.R_drewN | apply Kd.R_drew)); exact (Q_HO356 h0_)) (by decide)) hk (fun _ h => h.2)) (fun _ h => h.1)) (fun _ h_ => by first | trivial | exact h_ | exact h_.1))
          clear BK347
          clear HB
          clear HI350
          have BK347 := n0_
          have HB := n1_
          have HI350 := n2_
          clear n0_ n1_ n2_
          (try clear hb)
          (try clear hb2)
          (try clear hk)
          (try clear hi)
          refine hK.out _ _ ⟨v355, adz_v355, m5_, (by rw [ha.out]; exact putSel_upk 5 hb_ rfl rfl rfl), fun _ => (by (with_reducible repeat (first | refine blk_drewN ?_ _ | refine blk_drew ?_ | refine blk_alloc ?_ _)); exact BK347.out), fun h0_ => absurd ((hon 1 (by kernel_rfl)).symm.trans h0_) (by decide), (by repeat (first | (with_reducible first | exact HB.out | apply below_alloc | apply pw_below_drewN | apply below_drew1 | refine below_set ?_ (IsS72.ge HI350.out) | refine below_set ?_ GE347.out) | exact HB.out)), fun _ h1_ => absurd ((hon 4 (by kernel_rfl)).symm.trans h1_) (by decide), z_HO356, Q_HA_HO356, fun _ h1_ => absurd ((up_self b 8).symm.trans h1_) (by decide), fun _ => (by repeat (first | (with_reducible first | exact HI350.out | apply IsS72.alloc | apply IsS72.drewN | apply IsS72.drew | apply IsS72.set_1 | refine IsS72.far ?_ NB350_347.out _) | exact HI350.out)), fun h0_ => absurd ((hoff 9 (by kernel_rfl)).symm.trans h0_) (by decide), Q_X5_⟩
        refine steps_cons ?_ ?_
        · rintro b a w' ⟨v355, adz_v355, m5_, ha, Q_BK347, Q_HI350, Q_HB, Q_HI350_e1, Q_HO356, Q_HA_HO356, Q_HI350_e4, Q_HI350_e8, Q_BK347_e9, Q_X5_⟩ hb_ hon hoff
          refine ⟨_, rfl, fun K hK => ?_⟩
          have e2 : a.tmps[2]? = some (.pointer (some ⟨gb347, 0, none⟩)) := by rw [ha]; exact (putSel_off rfl).trans rfl
          have e9 : a.tmps[9]? = some (.agg #[.int .i64 t351, .int .i64 t352]) := by rw [ha]; exact putSel_on (e := (1, 9, .agg #[.int .i64 t351, .int .i64 t352])) 0 rfl rfl (hon 1 (by kernel_rfl)) rfl
          replace ha := Aside0.mk ha
          have BK347 := Aside0.mk (Q_BK347 hb_)
          have HB := Aside0.mk Q_HB
          have HI350 := Aside0.mk (Q_HI350_e8 (hon 8 (by kernel_rfl)))
          have hs15 : w'.cell? ⟨gb347, 0, none⟩ = some (.int .i64 0) := (blk_cell BK347.out 0).trans rfl
          have hfs15 := blk_frozen BK347.out 0
          have hs16 : w'.cell? ⟨gb347, 1, none⟩ = some (.int .i64 0) := (blk_cell BK347.out 1).trans rfl
          have hfs16 := blk_frozen BK347.out 1
          refine skip_ (w1 := ?_) (by rfl) rfl ?_ ?_
          rotate_left
          · go_simp
            rfl
          refine hK.out _ _ ⟨v355, adz_v355, m5_, (by rw [ha.out]; exact putSel_none (v := undef) rfl), fun h0_ => absurd ((up_self b 9).symm.trans h0_) (by decide), fun h0_ => absurd ((hon 1 (by kernel_rfl)).symm.trans h0_) (by decide), (by repeat (first | (with_reducible first | exact HB.out | apply below_alloc | apply pw_below_drewN | apply below_drew1 | refine below_set ?_ (IsS72.ge HI350.out) | refine below_set ?_ GE347.out) | exact HB.out)), fun _ h1_ => absurd ((hon 4 (by kernel_rfl)).symm.trans h1_) (by decide), fun h0_ => (by (with_reducible repeat (first | apply Kd.R_alloc | apply Kd.R_drewN | apply Kd.R_drew)); exact Kd.R_mono (Kd.R_far (p := ⟨gb347, 1, none⟩) (Kd.R_far (p := ⟨gb347, 0, none⟩) (Kd.R_types (Q_HO356 h0_) BK347.out (by decide)) (fun _ hk => hk.2) (.int .i64 t351)) (fun _ hk => hk.2) (.int .i64 t352)) (fun _ hk => trivial)), Q_HA_HO356, fun _ h1_ => absurd ((hon 8 (by kernel_rfl)).symm.trans h1_) (by decide), fun _ => (by repeat (first | (with_reducible first | exact HI350.out | apply IsS72.alloc | apply IsS72.drewN | apply IsS72.drew | apply IsS72.set_1 | refine IsS72.far ?_ NB350_347.out _) | exact HI350.out)), fun _ => (by (with_reducible repeat (first | refine blk_drewN ?_ _ | refine blk_drew ?_ | refine blk_alloc ?_ _)); refine blk_put (cs := #[.int .i64 t351, .int .i64 0]) ?_ 1 _ rfl; (with_reducible repeat (first | refine blk_drewN ?_ _ | refine blk_drew ?_ | refine blk_alloc ?_ _)); refine blk_put (cs := #[.int .i64 0, .int .i64 0]) ?_ 0 _ rfl; (with_reducible repeat (first | refine blk_drewN ?_ _ | refine blk_drew ?_ | refine blk_alloc ?_ _)); exact BK347.out), Q_X5_⟩
        refine steps_cons ?_ ?_
        · rintro b a w' ⟨v355, adz_v355, m5_, ha, Q_BK347, Q_HI350, Q_HB, Q_HI350_e1, Q_HO356, Q_HA_HO356, Q_HI350_e4, Q_HI350_e8, Q_BK347_e9, Q_X5_⟩ hb_ hon hoff
          refine ⟨_, rfl, fun K hK => ?_⟩
          have e14 : a.tmps[14]? = some (.int .i64 (rd y354 t357)) := by rw [ha]; exact putSel_on (e := (6, 14, .int .i64 (rd y354 t357))) 4 rfl rfl (hon 6 (by kernel_rfl)) rfl
          replace ha := Aside0.mk ha
          have HB := Aside0.mk Q_HB
          have HO356 := Aside0.mk (Q_HO356 (hon 2 (by kernel_rfl)))
          have HA_HO356 := Aside0.mk (Q_HA_HO356 (hon 2 (by kernel_rfl)))
          have HI350 := Aside0.mk (Q_HI350_e8 (hon 8 (by kernel_rfl)))
          have BK347 := Aside0.mk (Q_BK347_e9 (hon 9 (by kernel_rfl)))
          refine value_ (w1 := w') (v := .int .i64 (rd y354 t357)) (by rfl) rfl ?_ ?_
          · go_simp
            (try simp only [i64_w])
            try rfl
          refine hK.out _ _ ⟨v355, adz_v355, m5_, (by rw [ha.out]; exact putSel_upk 6 hb_ rfl rfl rfl), fun h0_ => absurd ((hon 9 (by kernel_rfl)).symm.trans h0_) (by decide), fun h0_ => absurd ((hon 1 (by kernel_rfl)).symm.trans h0_) (by decide), Q_HB, fun _ h1_ => absurd ((hon 4 (by kernel_rfl)).symm.trans h1_) (by decide), Q_HO356, Q_HA_HO356, fun _ h1_ => absurd ((hon 8 (by kernel_rfl)).symm.trans h1_) (by decide), Q_HI350_e8, Q_BK347_e9, Q_X5_⟩
        refine steps_cons ?_ ?_
        · rintro b a w' ⟨v355, adz_v355, m5_, ha, Q_BK347, Q_HI350, Q_HB, Q_HI350_e1, Q_HO356, Q_HA_HO356, Q_HI350_e4, Q_HI350_e8, Q_BK347_e9, Q_X5_⟩ hb_ hon hoff
          refine ⟨_, rfl, fun K hK => ?_⟩
          have e16 : a.tmps[16]? = some (.int .i64 t360) := by rw [ha]; exact putSel_on (e := (8, 16, .int .i64 t360)) 5 rfl rfl (hon 8 (by kernel_rfl)) rfl
          replace ha := Aside0.mk ha
          have HB := Aside0.mk Q_HB
          have HO356 := Aside0.mk (Q_HO356 (hon 2 (by kernel_rfl)))
          have HA_HO356 := Aside0.mk (Q_HA_HO356 (hon 2 (by kernel_rfl)))
          have HI350 := Aside0.mk (Q_HI350_e8 (hon 8 (by kernel_rfl)))
          have BK347 := Aside0.mk (Q_BK347_e9 (hon 9 (by kernel_rfl)))
          refine value_ (w1 := w') (v := .int .i64 t360) (by rfl) rfl ?_ ?_
          · go_simp
            (try simp only [i64_w])
            try rfl
          refine hK.out _ _ ⟨v355, adz_v355, m5_, (by rw [ha.out]; exact putSel_upk 7 hb_ rfl rfl rfl), fun h0_ => absurd ((hon 9 (by kernel_rfl)).symm.trans h0_) (by decide), fun h0_ => absurd ((hon 1 (by kernel_rfl)).symm.trans h0_) (by decide), Q_HB, fun _ h1_ => absurd ((hon 4 (by kernel_rfl)).symm.trans h1_) (by decide), Q_HO356, Q_HA_HO356, fun _ h1_ => absurd ((hon 8 (by kernel_rfl)).symm.trans h1_) (by decide), Q_HI350_e8, Q_BK347_e9, Q_X5_⟩
        exact steps_nil
      rintro b a w19 hall ⟨v355, adz_v355, m5_, ha, Q_BK347, Q_HI350, Q_HB, Q_HI350_e1, Q_HO356, Q_HA_HO356, Q_HI350_e4, Q_HI350_e8, Q_BK347_e9, Q_X5_⟩
      clear BK347 HB HI350
      have hb1_ := hall 1 (by kernel_rfl)
      have hb2_ := hall 2 (by kernel_rfl)
      have hb4_ := hall 4 (by kernel_rfl)
      have hb5_ := hall 5 (by kernel_rfl)
      have hb6_ := hall 6 (by kernel_rfl)
      have hb8_ := hall 8 (by kernel_rfl)
      have hb9_ := hall 9 (by kernel_rfl)
      have hb10_ := hall 10 (by kernel_rfl)
      have hb11_ := hall 11 (by kernel_rfl)
      subst ha
      obtain rfl := Q_X5_ hb5_
      simp only [putSel, hb1_, hb2_, hb4_, hb5_, hb6_, hb8_, hb9_, hb10_, hb11_, if_true, Act.put, List.setIfInBounds_toArray, List.set_cons_zero, List.set_cons_succ]
      clear Q_BK347
      clear Q_HI350
      have HB := Aside0.mk Q_HB
      clear Q_HB
      clear Q_HI350_e1
      have HO356 := Aside0.mk (Q_HO356 hb2_)
      clear Q_HO356
      have HA_HO356 := Aside0.mk (Q_HA_HO356 hb2_)
      clear Q_HA_HO356
      clear Q_HI350_e4
      have HI350 := Aside0.mk (Q_HI350_e8 hb8_)
      clear Q_HI350_e8
      have BK347 := Aside0.mk (Q_BK347_e9 hb9_)
      clear Q_BK347_e9
      clear hall hb1_ hb2_ hb4_ hb5_ hb6_ hb8_ hb9_ hb10_ hb11_
      obtain ⟨co20, eo20⟩ := HA_HO356.out
      clear HA_HO356
      subst eo20
      try go_wp2
      refine bodyPost_ret (results_ctt rfl _ _ gb347 45 #[.int .i64 t351, .int .i64 t352] (0, 0) _ rfl (by (with_reducible repeat (first | refine blk_drewN ?_ _ | refine blk_drew ?_ | refine blk_alloc ?_ _)); exact BK347.out) Try.underlying45 rfl (by kernel_rfl)) rfl ?_
      exact ⟨by first | rfl | (simp [errW_none, errW_some] <;> rfl) | (simp [*, errW_none, errW_some] <;> rfl), by repeat (first | (with_reducible first | exact HB.out | apply below_alloc | apply pw_below_drewN | apply below_drew1 | refine below_set ?_ (IsS72.ge HI350.out) | refine below_set ?_ GE347.out) | exact HB.out)⟩
    · rw [if_neg c6] at H
      exact absurd H (by simp)
  · rw [if_neg c5] at H
    exact absurd H (by simp)

end Go.Proofs.Ytfjfjabdgemalaa.S
