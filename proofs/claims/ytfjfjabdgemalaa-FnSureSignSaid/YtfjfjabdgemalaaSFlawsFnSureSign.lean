/- What the Go functions laws_FnSureSign compute: for each a Lean function with the same answers, and the contract that the Go code comes to them; under the condition that the Lean function answers. The text was written by the print program of the kit, parted and joined anew, and turned in places by a small program of this session. -/
import Derived.Test.YtfjfjabdgemalaaSBase
import Derived.Test.YtfjfjabdgemalaaSB
import Derived.Test.YtfjfjabdgemalaaSFlawslgPick
import Derived.Test.YtfjfjabdgemalaaSFspecDrawSureSign
import Derived.Test.YtfjfjabdgemalaaSFspecSureSign
import Derived.Test.YtfjfjabdgemalaaSFimplSureSign
namespace Go.Proofs.Ytfjfjabdgemalaa.S
open Go.RowKit Go.Proofs.YtfjfjabdgemalaaW.PrintWords Go.Proofs.YtfjfjabdgemalaaW.PrintLast Go.Proofs.YtfjfjabdgemalaaW.PrintMore
attribute [local go_sem] max2_int min2_int max_two min_two max_three min_three max_four min_four   -- for this text's walks alone
set_option linter.unusedVariables false
set_option linter.unusedSimpArgs false

/-! ### laws_FnSureSign: function 3 -/
mutual
def laws_FnSureSign.j0 : Nat → List Int → List Int → Bool → Option (Bool)
  | 0, _, _, _ => none
  | k + 1, x0, x1, x20 => if x20 = true then (some true) else ((spec_DrawSureSign.f k x0).bind fun bt518 => ((spec_SureSign.f bt518.1 bt518.2).bind fun bt521 => ((impl_SureSign.f bt518.1 bt518.2).bind fun bt523 => (if (bt523.2 != bt521.2) = true then (laws_FnSureSign.j1 k x1 bt521.1 bt521.2 bt523.1 bt523.2 true bt518.1 bt518.2) else (if bt523.1 = bt521.1 then (laws_FnSureSign.j1 k x1 bt521.1 bt521.2 bt523.1 bt523.2 (!bt523.2) bt518.1 bt518.2) else (laws_FnSureSign.j1 k x1 bt521.1 bt521.2 bt523.1 bt523.2 true bt518.1 bt518.2))))))
def laws_FnSureSign.j1 : Nat → List Int → Int → Bool → Int → Bool → Bool → Int → Int → Option (Bool)
  | 0, _, _, _, _, _, _, _, _ => none
  | k + 1, x1, x6, x7, x8, x9, x44, x521000, x521001 => if x44 = true then (if (x9 == x7) = true then (some (x8 == x6)) else (some false)) else ((laws_lgPick.f x521000 x521001 x1).bind fun t525 => ((impl_SpanNeg.f x521000 x521001).bind fun bt526 => ((impl_SureSign.f bt526.1 bt526.2).bind fun bt528 => (if bt528.2 = true then (if bt528.1 = (wrap64 (-x8)) then (if ((decide (x8 > 0)) == (decide (t525 > 0))) = true then (some ((decide (x8 < 0)) == (decide (t525 < 0)))) else (some false)) else (some false)) else (some false)))))
end
def laws_FnSureSign.f (k : Nat) (l0 : List Int) (l1 : List Int) : Option (Bool) := if (l0.length : Int) > 1048576 then (laws_FnSureSign.j0 k l0 l1 true) else (laws_FnSureSign.j0 k l0 l1 (decide ((l1.length : Int) > 1048576)))
theorem laws_FnSureSign.mono_l : ∀ k, (∀ y0 y1 y2, LeO (laws_FnSureSign.j0 k y0 y1 y2) (laws_FnSureSign.j0 (k + 1) y0 y1 y2)) ∧ (∀ y0 y1 y2 y3 y4 y5 y6 y7, LeO (laws_FnSureSign.j1 k y0 y1 y2 y3 y4 y5 y6 y7) (laws_FnSureSign.j1 (k + 1) y0 y1 y2 y3 y4 y5 y6 y7))
  | 0 => ⟨fun _ _ _ r h => by simp [laws_FnSureSign.j0] at h, fun _ _ _ _ _ _ _ _ r h => by simp [laws_FnSureSign.j1] at h⟩
  | k + 1 => by
    obtain ⟨ih0, ih1⟩ := laws_FnSureSign.mono_l k
    refine ⟨?_, ?_⟩
    · intro y0 y1 y2
      unfold laws_FnSureSign.j0
      repeat' first
      | (with_reducible exact ih0 _ _ _)
      | (with_reducible exact ih1 _ _ _ _ _ _ _ _)
      | (with_reducible exact spec_DrawSureSign.mono _ _)
      | (with_reducible exact LeO.refl _)
      | (with_reducible exact LeO.none _)
      | (with_reducible refine LeO.ite ?_ ?_)
      | (with_reducible refine LeO.bind ?_ (fun _ => ?_))
      | exact ih0 _ _ _
      | exact ih1 _ _ _ _ _ _ _ _
      | exact spec_DrawSureSign.mono _ _
      | exact LeO.none _
      | refine LeO.ite ?_ ?_
      | refine LeO.bind ?_ (fun _ => ?_)
    · intro y0 y1 y2 y3 y4 y5 y6 y7
      unfold laws_FnSureSign.j1
      repeat' first
      | (with_reducible exact ih0 _ _ _)
      | (with_reducible exact ih1 _ _ _ _ _ _ _ _)
      | (with_reducible exact spec_DrawSureSign.mono _ _)
      | (with_reducible exact LeO.refl _)
      | (with_reducible exact LeO.none _)
      | (with_reducible refine LeO.ite ?_ ?_)
      | (with_reducible refine LeO.bind ?_ (fun _ => ?_))
      | exact ih0 _ _ _
      | exact ih1 _ _ _ _ _ _ _ _
      | exact spec_DrawSureSign.mono _ _
      | exact LeO.none _
      | refine LeO.ite ?_ ?_
      | refine LeO.bind ?_ (fun _ => ?_)
theorem laws_FnSureSign.mono : ∀ a0 a1 k, LeO (laws_FnSureSign.f k a0 a1) (laws_FnSureSign.f (k + 1) a0 a1) := by
  intro a0 a1 k
  obtain ⟨ih0, ih1⟩ := laws_FnSureSign.mono_l k
  unfold laws_FnSureSign.f
  repeat' first
      | (with_reducible exact ih0 _ _ _)
      | (with_reducible exact ih1 _ _ _ _ _ _ _ _)
      | (with_reducible exact spec_DrawSureSign.mono _ _)
      | (with_reducible exact LeO.refl _)
      | (with_reducible exact LeO.none _)
      | (with_reducible refine LeO.ite ?_ ?_)
      | (with_reducible refine LeO.bind ?_ (fun _ => ?_))
      | exact ih0 _ _ _
      | exact ih1 _ _ _ _ _ _ _ _
      | exact spec_DrawSureSign.mono _ _
      | exact LeO.none _
      | refine LeO.ite ?_ ?_
      | refine LeO.bind ?_ (fun _ => ?_)
set_option maxHeartbeats 8000000 in
set_option maxRecDepth 100000 in
theorem laws_FnSureSign.calls (k : Nat) (A0 : Option Addr) (c0 : Nat) (l0 : List Int) (A1 : Option Addr) (c1 : Nat) (l1 : List Int) (r : Bool) (w : World) (hr0 : Kd.C (Kd.int .u8) w A0 l0.length l0) (hc0 : l0.length ≤ c0) (hr1 : Kd.C (Kd.int .u8) w A1 l1.length l1) (hc1 : l1.length ≤ c1) (h : laws_FnSureSign.f k l0 l1 = some r) :
    Calls Try.prog 3 #[.slice A0 l0.length c0, .slice A1 l1.length c1] w fun e w' => e = .returned (.bool r) ∧ Below w.heap.size w w' := by
  have hu24 := Try.underlying24
  have HR0 := Aside0.mk hr0
  have HC0 := Aside0.mk hc0
  clear hr0 hc0
  have HR1 := Aside0.mk hr1
  have HC1 := Aside0.mk hc1
  clear hr1 hc1
  have HB := Aside0.mk (Below.refl w.heap.size w)
  have H : (if (l0.length : Int) > 1048576 then (laws_FnSureSign.j0 k l0 l1 true) else (laws_FnSureSign.j0 k l0 l1 (decide ((l1.length : Int) > 1048576)))) = some r := h
  clear h
  have HC3 := Aside0.mk H
  clear H
  go_enter Try.func3, Try.ntmps3
  go_upto_region 1 with (fail)
  go_cut [20] (fun v20 wc => ∃ (kq : Nat) (x20_2 : Bool), v20 = .bool x20_2 ∧ Aside0 (laws_FnSureSign.j0 kq l0 l1 x20_2 = some r) ∧ Aside0 (kq ≤ k) ∧ Aside0 (Below w.heap.size w wc))
  case first =>
    have H := HC3.out
    clear HC3
    by_cases c4 : (l0.length : Int) > 1048576
    · rw [if_pos c4] at H
      have c4b0 : decide (1048576 < (l0.length : Int)) = true := decide_eq_true c4
      have c4b1 : decide (1048576 < l0.length) = true := decide_eq_true (by omega)
      clear c4
      (first | rw [c4b0] | (simp only [i64_w, i32_w]; rw [c4b0]) | skip)
      have H' := Aside0.mk H
      clear H
      go_wp2
      go_meet
      case rel => exact ⟨_, (true), (by first | rfl | (simp; done) | (simp [*]; done)), H', ⟨by first | omega | exact Nat.le_refl _⟩, ⟨by repeat (first | (with_reducible first | exact HB.out | apply below_alloc | apply pw_below_drewN | apply below_drew1) | exact HB.out)⟩⟩
    · rw [if_neg c4] at H
      have c4b0 : decide (1048576 < (l0.length : Int)) = false := decide_eq_false c4
      have c4b1 : decide (1048576 < l0.length) = false := decide_eq_false (by omega)
      clear c4
      (first | rw [c4b0] | (simp only [i64_w, i32_w]; rw [c4b0]) | skip)
      have H' := Aside0.mk H
      clear H
      go_wp2
      go_meet
      case rel => exact ⟨_, (decide ((l1.length : Int) > 1048576)), (by first | rfl | (simp; done) | (simp [*]; done)), H', ⟨by first | omega | exact Nat.le_refl _⟩, ⟨by repeat (first | (with_reducible first | exact HB.out | apply below_alloc | apply pw_below_drewN | apply below_drew1) | exact HB.out)⟩⟩
  case rest =>
    clear HC3
    try clear c1
    try clear p2
    try clear c3
    try clear c4
    try clear c4b0
    try clear c4b1
    obtain ⟨kq, x20_2, rfl, HA, HJ2, HB⟩ := hcut
    cases kq with
    | zero => exact absurd HA.out (by simp [laws_FnSureSign.j0])
    | succ kj2 =>
      have H := HA.out
      clear HA
      simp only [laws_FnSureSign.j0] at H
      by_cases c5 : x20_2 = true
      · subst c5
        have H1 : (some true) = some r := by rw [if_pos rfl] at H; exact H
        clear H
        have H := H1
        clear H1
        obtain rfl := Option.some.inj H
        go_wp2
        go_ret
        exact ⟨by first | rfl | (simp [errW_none, errW_some] <;> rfl) | (simp [*, errW_none, errW_some] <;> rfl), by repeat (first | (with_reducible first | exact HB.out | apply below_alloc | apply pw_below_drewN | apply below_drew1) | exact HB.out)⟩
      · replace c5 := Bool.eq_false_iff.mpr c5
        subst c5
        have H1 : ((spec_DrawSureSign.f kj2 l0).bind fun bt518 => ((spec_SureSign.f bt518.1 bt518.2).bind fun bt521 => ((impl_SureSign.f bt518.1 bt518.2).bind fun bt523 => (if (bt523.2 != bt521.2) = true then (laws_FnSureSign.j1 kj2 l1 bt521.1 bt521.2 bt523.1 bt523.2 true bt518.1 bt518.2) else (if bt523.1 = bt521.1 then (laws_FnSureSign.j1 kj2 l1 bt521.1 bt521.2 bt523.1 bt523.2 (!bt523.2) bt518.1 bt518.2) else (laws_FnSureSign.j1 kj2 l1 bt521.1 bt521.2 bt523.1 bt523.2 true bt518.1 bt518.2)))))) = some r := by rw [if_neg (show ¬ (false = true) by decide)] at H; exact H
        clear H
        have H := H1
        clear H1
        replace H := Option.bind_eq_some_iff.mp H
        obtain ⟨⟨t518, t519⟩, A60, H⟩ := H
        replace H : ((spec_SureSign.f t518 t519).bind fun bt521 => ((impl_SureSign.f t518 t519).bind fun bt523 => (if (bt523.2 != bt521.2) = true then (laws_FnSureSign.j1 kj2 l1 bt521.1 bt521.2 bt523.1 bt523.2 true t518 t519) else (if bt523.1 = bt521.1 then (laws_FnSureSign.j1 kj2 l1 bt521.1 bt521.2 bt523.1 bt523.2 (!bt523.2) t518 t519) else (laws_FnSureSign.j1 kj2 l1 bt521.1 bt521.2 bt523.1 bt523.2 true t518 t519))))) = some r := H
        have A6 := Aside0.mk A60
        clear A60
        replace H := Option.bind_eq_some_iff.mp H
        obtain ⟨⟨t521, t522⟩, A70, H⟩ := H
        replace H : ((impl_SureSign.f t518 t519).bind fun bt523 => (if (bt523.2 != t522) = true then (laws_FnSureSign.j1 kj2 l1 t521 t522 bt523.1 bt523.2 true t518 t519) else (if bt523.1 = t521 then (laws_FnSureSign.j1 kj2 l1 t521 t522 bt523.1 bt523.2 (!bt523.2) t518 t519) else (laws_FnSureSign.j1 kj2 l1 t521 t522 bt523.1 bt523.2 true t518 t519)))) = some r := H
        have A7 := Aside0.mk A70
        clear A70
        replace H := Option.bind_eq_some_iff.mp H
        obtain ⟨⟨t523, t524⟩, A80, H⟩ := H
        replace H : (if (t524 != t522) = true then (laws_FnSureSign.j1 kj2 l1 t521 t522 t523 t524 true t518 t519) else (if t523 = t521 then (laws_FnSureSign.j1 kj2 l1 t521 t522 t523 t524 (!t524) t518 t519) else (laws_FnSureSign.j1 kj2 l1 t521 t522 t523 t524 true t518 t519))) = some r := H
        have A8 := Aside0.mk A80
        clear A80
        have HC9 := Aside0.mk H
        clear H
        go_upto_region 6 with (first | ((with_reducible refine gate_callee (f := 12) rfl ?_); refine goesL_ (some 22) rfl rfl Try.func12 (by kernel_rfl) rfl #[.slice A0 l0.length c0] rfl (by (try simp only [List.map_toArray, List.map_cons, List.map_nil]); first | done | rfl | (simp only [List.length_drop, List.length_take]; rfl)) ?_; (with_reducible refine (spec_DrawSureSign.calls kj2 _ _ l0 t518 t519 _ ?side1 ?side2 A6.out).mono ?_); (case side1 => repeat (first | exact (Kd.C_below HR0.out HB.out) | (with_reducible refine Kd.C_alloc ?_ _) | (with_reducible refine Kd.C_drewN ?_ _) | (with_reducible refine Kd.C_drew ?_))); (case side2 => exact HC0.out); rintro e w10 ⟨rfl, hb⟩; refine ⟨_, rfl, ?_⟩; have n0_ := Aside0.mk (below_step (by repeat (first | (with_reducible first | exact HB.out | apply below_alloc | apply pw_below_drewN | apply below_drew1) | exact HB.out)) hb); clear HB; have HB := n0_; clear n0_; (try clear hb); (try clear hb2); (try clear hk); (try clear hi)) | ((with_reducible refine gate_dst (N := 5) rfl ?_); (try (refine gate_guard (by rfl) ?_; dsimp only)); refine box_event ?hg (N := 5) ?hd (cs := #[.int .i64 0, .int .i64 0]) (t := 24) ?hr ?_; (case hd => rfl); (case hg => rfl); (case hr => first | (go_simp; done) | (go_simp; rfl)); intro gb520 hg w11 hbox hb; have n0_ := Aside0.mk (below_step (by repeat (first | (with_reducible first | exact HB.out | apply below_alloc | apply pw_below_drewN | apply below_drew1) | exact HB.out)) hb); have n1_ := Aside0.mk (hbox); have n2_ := Aside0.mk ((by rw [hg]; exact (below_size (by repeat (first | (with_reducible first | exact HB.out | apply below_alloc | apply pw_below_drewN | apply below_drew1) | exact HB.out))) : w.heap.size ≤ gb520)); have n3_ := Aside0.mk ((by rw [hg]; exact (below_size (by repeat (first | (with_reducible first | exact HB.out | apply below_alloc | apply pw_below_drewN | apply below_drew1) | exact HB.out))) : w.heap.size ≤ gb520)); clear HB; have HB := n0_; have BK520 := n1_; have GW520 := n2_; have GE520 := n3_; clear n0_ n1_ n2_ n3_; clear hb hbox hg; have hcz12_0 : w11.cell? ⟨gb520, 0, none⟩ = some (.int .i64 0) := (blk_cell BK520.out 0).trans rfl; have hcz12_1 : w11.cell? ⟨gb520, 1, none⟩ = some (.int .i64 0) := (blk_cell BK520.out 1).trans rfl; have hfz12_0 := blk_frozen BK520.out 0; have hfz12_1 := blk_frozen BK520.out 1) | ((with_reducible refine gate_callee (f := 13) rfl ?_); refine goesL_ (some 25) rfl rfl Try.func13 (by kernel_rfl) rfl #[.agg #[.int .i64 t518, .int .i64 t519]] rfl (by (try simp only [List.map_toArray, List.map_cons, List.map_nil]); first | done | rfl | (simp only [List.length_drop, List.length_take]; rfl)) ?_; (with_reducible refine (spec_SureSign.calls t518 t519 t521 t522 _ A7.out).mono ?_); rintro e w13 ⟨rfl, hb⟩; refine ⟨_, rfl, ?_⟩; have n0_ := Aside0.mk (blk_below (g := gb520) (o := .cells #[.int .i64 t518, .int .i64 t519] 24 (0, 0)) (by (with_reducible repeat (first | refine blk_drewN ?_ _ | refine blk_drew ?_ | refine blk_alloc ?_ _)); refine blk_put (cs := #[.int .i64 t518, .int .i64 0]) ?_ 1 _ rfl; (with_reducible repeat (first | refine blk_drewN ?_ _ | refine blk_drew ?_ | refine blk_alloc ?_ _)); refine blk_put (cs := #[.int .i64 0, .int .i64 0]) ?_ 0 _ rfl; (with_reducible repeat (first | refine blk_drewN ?_ _ | refine blk_drew ?_ | refine blk_alloc ?_ _)); exact BK520.out) hb); have n1_ := Aside0.mk (below_step (by repeat (first | (with_reducible first | exact HB.out | apply below_alloc | apply pw_below_drewN | apply below_drew1 | refine below_set ?_ GE520.out) | exact HB.out)) hb); clear BK520; clear HB; have BK520 := n0_; have HB := n1_; clear n0_ n1_; (try clear hb); (try clear hb2); (try clear hk); (try clear hi); have hcz14_0 : w13.cell? ⟨gb520, 0, none⟩ = some (.int .i64 t518) := (blk_cell BK520.out 0).trans rfl; have hcz14_1 : w13.cell? ⟨gb520, 1, none⟩ = some (.int .i64 t519) := (blk_cell BK520.out 1).trans rfl; have hfz14_0 := blk_frozen BK520.out 0; have hfz14_1 := blk_frozen BK520.out 1) | ((with_reducible refine gate_callee (f := 14) rfl ?_); refine goesL_ (some 30) rfl rfl Try.func14 (by kernel_rfl) rfl #[.agg #[.int .i64 t518, .int .i64 t519]] rfl (by (try simp only [List.map_toArray, List.map_cons, List.map_nil]); first | done | rfl | (simp only [List.length_drop, List.length_take]; rfl)) ?_; (with_reducible refine (impl_SureSign.calls t518 t519 t523 t524 _ A8.out).mono ?_); rintro e w15 ⟨rfl, hb⟩; refine ⟨_, rfl, ?_⟩; have n0_ := Aside0.mk (blk_below (g := gb520) (o := .cells #[.int .i64 t518, .int .i64 t519] 24 (0, 0)) (by (with_reducible repeat (first | refine blk_drewN ?_ _ | refine blk_drew ?_ | refine blk_alloc ?_ _)); exact BK520.out) hb); have n1_ := Aside0.mk (below_step (by repeat (first | (with_reducible first | exact HB.out | apply below_alloc | apply pw_below_drewN | apply below_drew1 | refine below_set ?_ GE520.out) | exact HB.out)) hb); clear BK520; clear HB; have BK520 := n0_; have HB := n1_; clear n0_ n1_; (try clear hb); (try clear hb2); (try clear hk); (try clear hi)))
        (try simp only [Act.put, List.setIfInBounds_toArray, List.set_cons_zero, List.set_cons_succ])
        go_cut [44] (fun v44 wc => ∃ (kq : Nat) (x44_8 : Bool), v44 = .bool x44_8 ∧ Aside0 (laws_FnSureSign.j1 kq l1 t521 t522 t523 t524 x44_8 t518 t519 = some r) ∧ Aside0 (kq ≤ kj2) ∧ Aside0 (wc.heap[gb520]? = some (.cells #[.int .i64 t518, .int .i64 t519] 24 (0, 0))) ∧ Aside0 (Below w.heap.size w wc))
        case first =>
          have H := HC9.out
          clear HC9
          by_cases c16 : (t524 != t522) = true
          · rw [if_pos c16] at H
            have c16b0 : (t524 != t522) = true := c16
            (try (have c16b1 : decide (t524 = t522) = false := by simpa using c16))
            (try (have c16b2 : (t524 == t522) = false := by simpa using c16))
            (try (have c16b3 : ¬ (t524 = t522) := by simpa using c16))
            clear c16
            (first | rw [c16b0] | (simp only [i64_w, i32_w]; rw [c16b0]) | skip)
            have H' := Aside0.mk H
            clear H
            go_wp2
            go_meet
            case rel => exact ⟨_, (true), (by first | rfl | (simp; done) | (simp [*]; done)), H', ⟨by have := HJ2.out; first | omega | exact Nat.le_refl _⟩, ⟨by (with_reducible repeat (first | refine blk_drewN ?_ _ | refine blk_drew ?_ | refine blk_alloc ?_ _)); exact BK520.out⟩, ⟨by repeat (first | (with_reducible first | exact HB.out | apply below_alloc | apply pw_below_drewN | apply below_drew1 | refine below_set ?_ GE520.out) | exact HB.out)⟩⟩
          · rw [if_neg c16] at H
            have c16b0 : (t524 != t522) = false := by simpa using c16
            (try (have c16b1 : decide (t524 = t522) = true := by simpa using c16))
            (try (have c16b2 : (t524 == t522) = true := by simpa using c16))
            clear c16
            (first | rw [c16b0] | (simp only [i64_w, i32_w]; rw [c16b0]) | skip)
            by_cases c17 : t523 = t521
            · rw [if_pos c17] at H
              have c17b0 : (t523 == t521) = true := beq_iff_eq.mpr c17
              have c17b1 : (t523 != t521) = false := bne_eq_false_iff_eq.mpr c17
              clear c17
              have H' := Aside0.mk H
              clear H
              go_wp2
              go_meet
              case rel => exact ⟨_, (!t524), (by first | rfl | (simp; done) | (simp [*]; done)), H', ⟨by have := HJ2.out; first | omega | exact Nat.le_refl _⟩, ⟨by (with_reducible repeat (first | refine blk_drewN ?_ _ | refine blk_drew ?_ | refine blk_alloc ?_ _)); exact BK520.out⟩, ⟨by repeat (first | (with_reducible first | exact HB.out | apply below_alloc | apply pw_below_drewN | apply below_drew1 | refine below_set ?_ GE520.out) | exact HB.out)⟩⟩
            · rw [if_neg c17] at H
              have c17b0 : (t523 == t521) = false := beq_eq_false_iff_ne.mpr c17
              have c17b1 : (t523 != t521) = true := bne_iff_ne.mpr c17
              have H' := Aside0.mk H
              clear H
              go_wp2
              go_meet
              case rel => exact ⟨_, (true), (by first | rfl | (simp; done) | (simp [*]; done)), H', ⟨by have := HJ2.out; first | omega | exact Nat.le_refl _⟩, ⟨by (with_reducible repeat (first | refine blk_drewN ?_ _ | refine blk_drew ?_ | refine blk_alloc ?_ _)); exact BK520.out⟩, ⟨by repeat (first | (with_reducible first | exact HB.out | apply below_alloc | apply pw_below_drewN | apply below_drew1 | refine below_set ?_ GE520.out) | exact HB.out)⟩⟩
        case rest =>
          clear HC9
          try clear c1
          try clear p2
          try clear c3
          try clear c4
          try clear c4b0
          try clear c4b1
          try clear c5
          try clear c12
          try clear c13
          try clear c14
          try clear c16
          try clear c16b0
          try clear c16b1
          try clear c16b2
          try clear c17
          try clear c17b0
          try clear c17b1
          try clear hcz12_0
          try clear hcz12_1
          try clear hcz14_0
          try clear hcz14_1
          try clear hfz12_0
          try clear hfz12_1
          try clear hfz14_0
          try clear hfz14_1
          try clear p2
          obtain ⟨kq, x44_8, rfl, HA, HJ8, BK520, HB⟩ := hcut
          cases kq with
          | zero => exact absurd HA.out (by simp [laws_FnSureSign.j1])
          | succ kj8 =>
            have H := HA.out
            clear HA
            simp only [laws_FnSureSign.j1] at H
            by_cases c18 : x44_8 = true
            · subst c18
              have H1 : (if (t524 == t522) = true then (some (t523 == t521)) else (some false)) = some r := by rw [if_pos rfl] at H; exact H
              clear H
              have H := H1
              clear H1
              by_cases c19 : (t524 == t522) = true
              · rw [if_pos c19] at H
                have c19b0 : (t524 == t522) = true := c19
                (try (have c19b1 : decide (t524 = t522) = true := by simpa using c19))
                (try (have c19b2 : (t524 == t522) = true := by simpa using c19))
                clear c19
                obtain rfl := Option.some.inj H
                go_wp2
                go_ret
                exact ⟨by first | rfl | (simp [errW_none, errW_some] <;> rfl) | (simp [*, errW_none, errW_some] <;> rfl), by repeat (first | (with_reducible first | exact HB.out | apply below_alloc | apply pw_below_drewN | apply below_drew1 | refine below_set ?_ GE520.out) | exact HB.out)⟩
              · rw [if_neg c19] at H
                have c19b0 : (t524 == t522) = false := by simpa using c19
                (try (have c19b1 : decide (t524 = t522) = false := by simpa using c19))
                (try (have c19b2 : (t524 == t522) = false := by simpa using c19))
                (try (have c19b3 : ¬ (t524 = t522) := by simpa using c19))
                clear c19
                obtain rfl := Option.some.inj H
                go_wp2
                go_ret
                exact ⟨by first | rfl | (simp [errW_none, errW_some] <;> rfl) | (simp [*, errW_none, errW_some] <;> rfl), by repeat (first | (with_reducible first | exact HB.out | apply below_alloc | apply pw_below_drewN | apply below_drew1 | refine below_set ?_ GE520.out) | exact HB.out)⟩
            · replace c18 := Bool.eq_false_iff.mpr c18
              subst c18
              have H1 : ((laws_lgPick.f t518 t519 l1).bind fun t525 => ((impl_SpanNeg.f t518 t519).bind fun bt526 => ((impl_SureSign.f bt526.1 bt526.2).bind fun bt528 => (if bt528.2 = true then (if bt528.1 = (wrap64 (-t523)) then (if ((decide (t523 > 0)) == (decide (t525 > 0))) = true then (some ((decide (t523 < 0)) == (decide (t525 < 0)))) else (some false)) else (some false)) else (some false))))) = some r := by rw [if_neg (show ¬ (false = true) by decide)] at H; exact H
              clear H
              have H := H1
              clear H1
              replace H := Option.bind_eq_some_iff.mp H
              obtain ⟨t525, A200, H⟩ := H
              replace H : ((impl_SpanNeg.f t518 t519).bind fun bt526 => ((impl_SureSign.f bt526.1 bt526.2).bind fun bt528 => (if bt528.2 = true then (if bt528.1 = (wrap64 (-t523)) then (if ((decide (t523 > 0)) == (decide (t525 > 0))) = true then (some ((decide (t523 < 0)) == (decide (t525 < 0)))) else (some false)) else (some false)) else (some false)))) = some r := H
              have A20 := Aside0.mk A200
              clear A200
              replace H := Option.bind_eq_some_iff.mp H
              obtain ⟨⟨t526, t527⟩, A210, H⟩ := H
              replace H : ((impl_SureSign.f t526 t527).bind fun bt528 => (if bt528.2 = true then (if bt528.1 = (wrap64 (-t523)) then (if ((decide (t523 > 0)) == (decide (t525 > 0))) = true then (some ((decide (t523 < 0)) == (decide (t525 < 0)))) else (some false)) else (some false)) else (some false))) = some r := H
              have A21 := Aside0.mk A210
              clear A210
              replace H := Option.bind_eq_some_iff.mp H
              obtain ⟨⟨t528, t529⟩, A220, H⟩ := H
              replace H : (if t529 = true then (if t528 = (wrap64 (-t523)) then (if ((decide (t523 > 0)) == (decide (t525 > 0))) = true then (some ((decide (t523 < 0)) == (decide (t525 < 0)))) else (some false)) else (some false)) else (some false)) = some r := H
              have A22 := Aside0.mk A220
              clear A220
              by_cases c23 : t529 = true
              · subst c23
                have H1 : (if t528 = (wrap64 (-t523)) then (if ((decide (t523 > 0)) == (decide (t525 > 0))) = true then (some ((decide (t523 < 0)) == (decide (t525 < 0)))) else (some false)) else (some false)) = some r := by rw [if_pos rfl] at H; exact H
                clear H
                have H := H1
                clear H1
                by_cases c24 : t528 = (wrap64 (-t523))
                · rw [if_pos c24] at H
                  have c24b0 : (t528 == (wrap64 (-t523))) = true := beq_iff_eq.mpr c24
                  have c24b1 : (t528 != (wrap64 (-t523))) = false := bne_eq_false_iff_eq.mpr c24
                  clear c24
                  by_cases c25 : ((decide (t523 > 0)) == (decide (t525 > 0))) = true
                  · rw [if_pos c25] at H
                    have c25b0 : ((decide (t523 > 0)) == (decide (t525 > 0))) = true := c25
                    (try (have c25b1 : decide ((decide (t523 > 0)) = (decide (t525 > 0))) = true := by simpa using c25))
                    (try (have c25b2 : ((decide (t523 > 0)) == (decide (t525 > 0))) = true := by simpa using c25))
                    clear c25
                    obtain rfl := Option.some.inj H
                    have hcz26_0 : wc.cell? ⟨gb520, 0, none⟩ = some (.int .i64 t518) := (blk_cell BK520.out 0).trans rfl
                    have hcz26_1 : wc.cell? ⟨gb520, 1, none⟩ = some (.int .i64 t519) := (blk_cell BK520.out 1).trans rfl
                    have hfz26_0 := blk_frozen BK520.out 0
                    have hfz26_1 := blk_frozen BK520.out 1
                    go_wp2_with (first | ((with_reducible refine gate_callee (f := 15) rfl ?_); refine goesL_ (some 55) rfl rfl Try.func15 (by kernel_rfl) rfl #[.agg #[.int .i64 t518, .int .i64 t519], .slice A1 l1.length c1] rfl (by (try simp only [List.map_toArray, List.map_cons, List.map_nil]); first | done | rfl | (simp only [List.length_drop, List.length_take]; rfl)) ?_; (with_reducible refine (laws_lgPick.calls t518 t519 _ _ l1 t525 _ ?side1 ?side2 A20.out).mono ?_); (case side1 => repeat (first | exact (Kd.C_below HR1.out HB.out) | (with_reducible refine Kd.C_alloc ?_ _) | (with_reducible refine Kd.C_drewN ?_ _) | (with_reducible refine Kd.C_drew ?_))); (case side2 => exact HC1.out); rintro e w27 ⟨rfl, hb⟩; refine ⟨_, rfl, ?_⟩; have n0_ := Aside0.mk (blk_below (g := gb520) (o := .cells #[.int .i64 t518, .int .i64 t519] 24 (0, 0)) (by (with_reducible repeat (first | refine blk_drewN ?_ _ | refine blk_drew ?_ | refine blk_alloc ?_ _)); exact BK520.out) hb); have n1_ := Aside0.mk (below_step (by repeat (first | (with_reducible first | exact HB.out | apply below_alloc | apply pw_below_drewN | apply below_drew1 | refine below_set ?_ GE520.out) | exact HB.out)) hb); clear BK520; clear HB; have BK520 := n0_; have HB := n1_; clear n0_ n1_; (try clear hb); (try clear hb2); (try clear hk); (try clear hi); have hcz28_0 : w27.cell? ⟨gb520, 0, none⟩ = some (.int .i64 t518) := (blk_cell BK520.out 0).trans rfl; have hcz28_1 : w27.cell? ⟨gb520, 1, none⟩ = some (.int .i64 t519) := (blk_cell BK520.out 1).trans rfl; have hfz28_0 := blk_frozen BK520.out 0; have hfz28_1 := blk_frozen BK520.out 1) | ((with_reducible refine gate_callee (f := 16) rfl ?_); refine goesL_ (some 58) rfl rfl Try.func16 (by kernel_rfl) rfl #[.agg #[.int .i64 t518, .int .i64 t519]] rfl (by (try simp only [List.map_toArray, List.map_cons, List.map_nil]); first | done | rfl | (simp only [List.length_drop, List.length_take]; rfl)) ?_; (with_reducible refine (impl_SpanNeg.calls t518 t519 t526 t527 _ A21.out).mono ?_); rintro e w29 ⟨rfl, hb⟩; refine ⟨_, rfl, ?_⟩; have n0_ := Aside0.mk (blk_below (g := gb520) (o := .cells #[.int .i64 t518, .int .i64 t519] 24 (0, 0)) (by (with_reducible repeat (first | refine blk_drewN ?_ _ | refine blk_drew ?_ | refine blk_alloc ?_ _)); exact BK520.out) hb); have n1_ := Aside0.mk (below_step (by repeat (first | (with_reducible first | exact HB.out | apply below_alloc | apply pw_below_drewN | apply below_drew1 | refine below_set ?_ GE520.out) | exact HB.out)) hb); clear BK520; clear HB; have BK520 := n0_; have HB := n1_; clear n0_ n1_; (try clear hb); (try clear hb2); (try clear hk); (try clear hi)) | ((with_reducible refine gate_callee (f := 14) rfl ?_); refine goesL_ (some 59) rfl rfl Try.func14 (by kernel_rfl) rfl #[.agg #[.int .i64 t526, .int .i64 t527]] rfl (by (try simp only [List.map_toArray, List.map_cons, List.map_nil]); first | done | rfl | (simp only [List.length_drop, List.length_take]; rfl)) ?_; (with_reducible refine (impl_SureSign.calls t526 t527 t528 true _ A22.out).mono ?_); rintro e w30 ⟨rfl, hb⟩; refine ⟨_, rfl, ?_⟩; have n0_ := Aside0.mk (blk_below (g := gb520) (o := .cells #[.int .i64 t518, .int .i64 t519] 24 (0, 0)) (by (with_reducible repeat (first | refine blk_drewN ?_ _ | refine blk_drew ?_ | refine blk_alloc ?_ _)); exact BK520.out) hb); have n1_ := Aside0.mk (below_step (by repeat (first | (with_reducible first | exact HB.out | apply below_alloc | apply pw_below_drewN | apply below_drew1 | refine below_set ?_ GE520.out) | exact HB.out)) hb); clear BK520; clear HB; have BK520 := n0_; have HB := n1_; clear n0_ n1_; (try clear hb); (try clear hb2); (try clear hk); (try clear hi)))
                    go_ret
                    exact ⟨by first | rfl | (simp [errW_none, errW_some] <;> rfl) | (simp [*, errW_none, errW_some] <;> rfl), by repeat (first | (with_reducible first | exact HB.out | apply below_alloc | apply pw_below_drewN | apply below_drew1 | refine below_set ?_ GE520.out) | exact HB.out)⟩
                  · rw [if_neg c25] at H
                    have c25b0 : ((decide (t523 > 0)) == (decide (t525 > 0))) = false := by simpa using c25
                    (try (have c25b1 : decide ((decide (t523 > 0)) = (decide (t525 > 0))) = false := by simpa using c25))
                    (try (have c25b2 : ((decide (t523 > 0)) == (decide (t525 > 0))) = false := by simpa using c25))
                    (try (have c25b3 : ¬ ((decide (t523 > 0)) = (decide (t525 > 0))) := by simpa using c25))
                    clear c25
                    obtain rfl := Option.some.inj H
                    have hcz31_0 : wc.cell? ⟨gb520, 0, none⟩ = some (.int .i64 t518) := (blk_cell BK520.out 0).trans rfl
                    have hcz31_1 : wc.cell? ⟨gb520, 1, none⟩ = some (.int .i64 t519) := (blk_cell BK520.out 1).trans rfl
                    have hfz31_0 := blk_frozen BK520.out 0
                    have hfz31_1 := blk_frozen BK520.out 1
                    go_wp2_with (first | ((with_reducible refine gate_callee (f := 15) rfl ?_); refine goesL_ (some 55) rfl rfl Try.func15 (by kernel_rfl) rfl #[.agg #[.int .i64 t518, .int .i64 t519], .slice A1 l1.length c1] rfl (by (try simp only [List.map_toArray, List.map_cons, List.map_nil]); first | done | rfl | (simp only [List.length_drop, List.length_take]; rfl)) ?_; (with_reducible refine (laws_lgPick.calls t518 t519 _ _ l1 t525 _ ?side1 ?side2 A20.out).mono ?_); (case side1 => repeat (first | exact (Kd.C_below HR1.out HB.out) | (with_reducible refine Kd.C_alloc ?_ _) | (with_reducible refine Kd.C_drewN ?_ _) | (with_reducible refine Kd.C_drew ?_))); (case side2 => exact HC1.out); rintro e w32 ⟨rfl, hb⟩; refine ⟨_, rfl, ?_⟩; have n0_ := Aside0.mk (blk_below (g := gb520) (o := .cells #[.int .i64 t518, .int .i64 t519] 24 (0, 0)) (by (with_reducible repeat (first | refine blk_drewN ?_ _ | refine blk_drew ?_ | refine blk_alloc ?_ _)); exact BK520.out) hb); have n1_ := Aside0.mk (below_step (by repeat (first | (with_reducible first | exact HB.out | apply below_alloc | apply pw_below_drewN | apply below_drew1 | refine below_set ?_ GE520.out) | exact HB.out)) hb); clear BK520; clear HB; have BK520 := n0_; have HB := n1_; clear n0_ n1_; (try clear hb); (try clear hb2); (try clear hk); (try clear hi); have hcz33_0 : w32.cell? ⟨gb520, 0, none⟩ = some (.int .i64 t518) := (blk_cell BK520.out 0).trans rfl; have hcz33_1 : w32.cell? ⟨gb520, 1, none⟩ = some (.int .i64 t519) := (blk_cell BK520.out 1).trans rfl; have hfz33_0 := blk_frozen BK520.out 0; have hfz33_1 := blk_frozen BK520.out 1) | ((with_reducible refine gate_callee (f := 16) rfl ?_); refine goesL_ (some 58) rfl rfl Try.func16 (by kernel_rfl) rfl #[.agg #[.int .i64 t518, .int .i64 t519]] rfl (by (try simp only [List.map_toArray, List.map_cons, List.map_nil]); first | done | rfl | (simp only [List.length_drop, List.length_take]; rfl)) ?_; (with_reducible refine (impl_SpanNeg.calls t518 t519 t526 t527 _ A21.out).mono ?_); rintro e w34 ⟨rfl, hb⟩; refine ⟨_, rfl, ?_⟩; have n0_ := Aside0.mk (blk_below (g := gb520) (o := .cells #[.int .i64 t518, .int .i64 t519] 24 (0, 0)) (by (with_reducible repeat (first | refine blk_drewN ?_ _ | refine blk_drew ?_ | refine blk_alloc ?_ _)); exact BK520.out) hb); have n1_ := Aside0.mk (below_step (by repeat (first | (with_reducible first | exact HB.out | apply below_alloc | apply pw_below_drewN | apply below_drew1 | refine below_set ?_ GE520.out) | exact HB.out)) hb); clear BK520; clear HB; have BK520 := n0_; have HB := n1_; clear n0_ n1_; (try clear hb); (try clear hb2); (try clear hk); (try clear hi)) | ((with_reducible refine gate_callee (f := 14) rfl ?_); refine goesL_ (some 59) rfl rfl Try.func14 (by kernel_rfl) rfl #[.agg #[.int .i64 t526, .int .i64 t527]] rfl (by (try simp only [List.map_toArray, List.map_cons, List.map_nil]); first | done | rfl | (simp only [List.length_drop, List.length_take]; rfl)) ?_; (with_reducible refine (impl_SureSign.calls t526 t527 t528 true _ A22.out).mono ?_); rintro e w35 ⟨rfl, hb⟩; refine ⟨_, rfl, ?_⟩; have n0_ := Aside0.mk (blk_below (g := gb520) (o := .cells #[.int .i64 t518, .int .i64 t519] 24 (0, 0)) (by (with_reducible repeat (first | refine blk_drewN ?_ _ | refine blk_drew ?_ | refine blk_alloc ?_ _)); exact BK520.out) hb); have n1_ := Aside0.mk (below_step (by repeat (first | (with_reducible first | exact HB.out | apply below_alloc | apply pw_below_drewN | apply below_drew1 | refine below_set ?_ GE520.out) | exact HB.out)) hb); clear BK520; clear HB; have BK520 := n0_; have HB := n1_; clear n0_ n1_; (try clear hb); (try clear hb2); (try clear hk); (try clear hi)))
                    go_ret
                    exact ⟨by first | rfl | (simp [errW_none, errW_some] <;> rfl) | (simp [*, errW_none, errW_some] <;> rfl), by repeat (first | (with_reducible first | exact HB.out | apply below_alloc | apply pw_below_drewN | apply below_drew1 | refine below_set ?_ GE520.out) | exact HB.out)⟩
                · rw [if_neg c24] at H
                  have c24b0 : (t528 == (wrap64 (-t523))) = false := beq_eq_false_iff_ne.mpr c24
                  have c24b1 : (t528 != (wrap64 (-t523))) = true := bne_iff_ne.mpr c24
                  obtain rfl := Option.some.inj H
                  have hcz36_0 : wc.cell? ⟨gb520, 0, none⟩ = some (.int .i64 t518) := (blk_cell BK520.out 0).trans rfl
                  have hcz36_1 : wc.cell? ⟨gb520, 1, none⟩ = some (.int .i64 t519) := (blk_cell BK520.out 1).trans rfl
                  have hfz36_0 := blk_frozen BK520.out 0
                  have hfz36_1 := blk_frozen BK520.out 1
                  go_wp2_with (first | ((with_reducible refine gate_callee (f := 15) rfl ?_); refine goesL_ (some 55) rfl rfl Try.func15 (by kernel_rfl) rfl #[.agg #[.int .i64 t518, .int .i64 t519], .slice A1 l1.length c1] rfl (by (try simp only [List.map_toArray, List.map_cons, List.map_nil]); first | done | rfl | (simp only [List.length_drop, List.length_take]; rfl)) ?_; (with_reducible refine (laws_lgPick.calls t518 t519 _ _ l1 t525 _ ?side1 ?side2 A20.out).mono ?_); (case side1 => repeat (first | exact (Kd.C_below HR1.out HB.out) | (with_reducible refine Kd.C_alloc ?_ _) | (with_reducible refine Kd.C_drewN ?_ _) | (with_reducible refine Kd.C_drew ?_))); (case side2 => exact HC1.out); rintro e w37 ⟨rfl, hb⟩; refine ⟨_, rfl, ?_⟩; have n0_ := Aside0.mk (blk_below (g := gb520) (o := .cells #[.int .i64 t518, .int .i64 t519] 24 (0, 0)) (by (with_reducible repeat (first | refine blk_drewN ?_ _ | refine blk_drew ?_ | refine blk_alloc ?_ _)); exact BK520.out) hb); have n1_ := Aside0.mk (below_step (by repeat (first | (with_reducible first | exact HB.out | apply below_alloc | apply pw_below_drewN | apply below_drew1 | refine below_set ?_ GE520.out) | exact HB.out)) hb); clear BK520; clear HB; have BK520 := n0_; have HB := n1_; clear n0_ n1_; (try clear hb); (try clear hb2); (try clear hk); (try clear hi); have hcz38_0 : w37.cell? ⟨gb520, 0, none⟩ = some (.int .i64 t518) := (blk_cell BK520.out 0).trans rfl; have hcz38_1 : w37.cell? ⟨gb520, 1, none⟩ = some (.int .i64 t519) := (blk_cell BK520.out 1).trans rfl; have hfz38_0 := blk_frozen BK520.out 0; have hfz38_1 := blk_frozen BK520.out 1) | ((with_reducible refine gate_callee (f := 16) rfl ?_); refine goesL_ (some 58) rfl rfl Try.func16 (by kernel_rfl) rfl #[.agg #[.int .i64 t518, .int .i64 t519]] rfl (by (try simp only [List.map_toArray, List.map_cons, List.map_nil]); first | done | rfl | (simp only [List.length_drop, List.length_take]; rfl)) ?_; (with_reducible refine (impl_SpanNeg.calls t518 t519 t526 t527 _ A21.out).mono ?_); rintro e w39 ⟨rfl, hb⟩; refine ⟨_, rfl, ?_⟩; have n0_ := Aside0.mk (blk_below (g := gb520) (o := .cells #[.int .i64 t518, .int .i64 t519] 24 (0, 0)) (by (with_reducible repeat (first | refine blk_drewN ?_ _ | refine blk_drew ?_ | refine blk_alloc ?_ _)); exact BK520.out) hb); have n1_ := Aside0.mk (below_step (by repeat (first | (with_reducible first | exact HB.out | apply below_alloc | apply pw_below_drewN | apply below_drew1 | refine below_set ?_ GE520.out) | exact HB.out)) hb); clear BK520; clear HB; have BK520 := n0_; have HB := n1_; clear n0_ n1_; (try clear hb); (try clear hb2); (try clear hk); (try clear hi)) | ((with_reducible refine gate_callee (f := 14) rfl ?_); refine goesL_ (some 59) rfl rfl Try.func14 (by kernel_rfl) rfl #[.agg #[.int .i64 t526, .int .i64 t527]] rfl (by (try simp only [List.map_toArray, List.map_cons, List.map_nil]); first | done | rfl | (simp only [List.length_drop, List.length_take]; rfl)) ?_; (with_reducible refine (impl_SureSign.calls t526 t527 t528 true _ A22.out).mono ?_); rintro e w40 ⟨rfl, hb⟩; refine ⟨_, rfl, ?_⟩; have n0_ := Aside0.mk (blk_below (g := gb520) (o := .cells #[.int .i64 t518, .int .i64 t519] 24 (0, 0)) (by (with_reducible repeat (first | refine blk_drewN ?_ _ | refine blk_drew ?_ | refine blk_alloc ?_ _)); exact BK520.out) hb); have n1_ := Aside0.mk (below_step (by repeat (first | (with_reducible first | exact HB.out | apply below_alloc | apply pw_below_drewN | apply below_drew1 | refine below_set ?_ GE520.out) | exact HB.out)) hb); clear BK520; clear HB; have BK520 := n0_; have HB := n1_; clear n0_ n1_; (try clear hb); (try clear hb2); (try clear hk); (try clear hi)))
                  go_ret
                  exact ⟨by first | rfl | (simp [errW_none, errW_some] <;> rfl) | (simp [*, errW_none, errW_some] <;> rfl), by repeat (first | (with_reducible first | exact HB.out | apply below_alloc | apply pw_below_drewN | apply below_drew1 | refine below_set ?_ GE520.out) | exact HB.out)⟩
              · replace c23 := Bool.eq_false_iff.mpr c23
                subst c23
                have H1 : (some false) = some r := by rw [if_neg (show ¬ (false = true) by decide)] at H; exact H
                clear H
                have H := H1
                clear H1
                obtain rfl := Option.some.inj H
                have hcz41_0 : wc.cell? ⟨gb520, 0, none⟩ = some (.int .i64 t518) := (blk_cell BK520.out 0).trans rfl
                have hcz41_1 : wc.cell? ⟨gb520, 1, none⟩ = some (.int .i64 t519) := (blk_cell BK520.out 1).trans rfl
                have hfz41_0 := blk_frozen BK520.out 0
                have hfz41_1 := blk_frozen BK520.out 1
                go_wp2_with (first | ((with_reducible refine gate_callee (f := 15) rfl ?_); refine goesL_ (some 55) rfl rfl Try.func15 (by kernel_rfl) rfl #[.agg #[.int .i64 t518, .int .i64 t519], .slice A1 l1.length c1] rfl (by (try simp only [List.map_toArray, List.map_cons, List.map_nil]); first | done | rfl | (simp only [List.length_drop, List.length_take]; rfl)) ?_; (with_reducible refine (laws_lgPick.calls t518 t519 _ _ l1 t525 _ ?side1 ?side2 A20.out).mono ?_); (case side1 => repeat (first | exact (Kd.C_below HR1.out HB.out) | (with_reducible refine Kd.C_alloc ?_ _) | (with_reducible refine Kd.C_drewN ?_ _) | (with_reducible refine Kd.C_drew ?_))); (case side2 => exact HC1.out); rintro e w42 ⟨rfl, hb⟩; refine ⟨_, rfl, ?_⟩; have n0_ := Aside0.mk (blk_below (g := gb520) (o := .cells #[.int .i64 t518, .int .i64 t519] 24 (0, 0)) (by (with_reducible repeat (first | refine blk_drewN ?_ _ | refine blk_drew ?_ | refine blk_alloc ?_ _)); exact BK520.out) hb); have n1_ := Aside0.mk (below_step (by repeat (first | (with_reducible first | exact HB.out | apply below_alloc | apply pw_below_drewN | apply below_drew1 | refine below_set ?_ GE520.out) | exact HB.out)) hb); clear BK520; clear HB; have BK520 := n0_; have HB := n1_; clear n0_ n1_; (try clear hb); (try clear hb2); (try clear hk); (try clear hi); have hcz43_0 : w42.cell? ⟨gb520, 0, none⟩ = some (.int .i64 t518) := (blk_cell BK520.out 0).trans rfl; have hcz43_1 : w42.cell? ⟨gb520, 1, none⟩ = some (.int .i64 t519) := (blk_cell BK520.out 1).trans rfl; have hfz43_0 := blk_frozen BK520.out 0; have hfz43_1 := blk_frozen BK520.out 1) | ((with_reducible refine gate_callee (f := 16) rfl ?_); refine goesL_ (some 58) rfl rfl Try.func16 (by kernel_rfl) rfl #[.agg #[.int .i64 t518, .int .i64 t519]] rfl (by (try simp only [List.map_toArray, List.map_cons, List.map_nil]); first | done | rfl | (simp only [List.length_drop, List.length_take]; rfl)) ?_; (with_reducible refine (impl_SpanNeg.calls t518 t519 t526 t527 _ A21.out).mono ?_); rintro e w44 ⟨rfl, hb⟩; refine ⟨_, rfl, ?_⟩; have n0_ := Aside0.mk (blk_below (g := gb520) (o := .cells #[.int .i64 t518, .int .i64 t519] 24 (0, 0)) (by (with_reducible repeat (first | refine blk_drewN ?_ _ | refine blk_drew ?_ | refine blk_alloc ?_ _)); exact BK520.out) hb); have n1_ := Aside0.mk (below_step (by repeat (first | (with_reducible first | exact HB.out | apply below_alloc | apply pw_below_drewN | apply below_drew1 | refine below_set ?_ GE520.out) | exact HB.out)) hb); clear BK520; clear HB; have BK520 := n0_; have HB := n1_; clear n0_ n1_; (try clear hb); (try clear hb2); (try clear hk); (try clear hi)) | ((with_reducible refine gate_callee (f := 14) rfl ?_); refine goesL_ (some 59) rfl rfl Try.func14 (by kernel_rfl) rfl #[.agg #[.int .i64 t526, .int .i64 t527]] rfl (by (try simp only [List.map_toArray, List.map_cons, List.map_nil]); first | done | rfl | (simp only [List.length_drop, List.length_take]; rfl)) ?_; (with_reducible refine (impl_SureSign.calls t526 t527 t528 false _ A22.out).mono ?_); rintro e w45 ⟨rfl, hb⟩; refine ⟨_, rfl, ?_⟩; have n0_ := Aside0.mk (blk_below (g := gb520) (o := .cells #[.int .i64 t518, .int .i64 t519] 24 (0, 0)) (by (with_reducible repeat (first | refine blk_drewN ?_ _ | refine blk_drew ?_ | refine blk_alloc ?_ _)); exact BK520.out) hb); have n1_ := Aside0.mk (below_step (by repeat (first | (with_reducible first | exact HB.out | apply below_alloc | apply pw_below_drewN | apply below_drew1 | refine below_set ?_ GE520.out) | exact HB.out)) hb); clear BK520; clear HB; have BK520 := n0_; have HB := n1_; clear n0_ n1_; (try clear hb); (try clear hb2); (try clear hk); (try clear hi)))
                go_ret
                exact ⟨by first | rfl | (simp [errW_none, errW_some] <;> rfl) | (simp [*, errW_none, errW_some] <;> rfl), by repeat (first | (with_reducible first | exact HB.out | apply below_alloc | apply pw_below_drewN | apply below_drew1 | refine below_set ?_ GE520.out) | exact HB.out)⟩

/-- THE ONE PURE STATEMENT of laws_FnSureSign: yours. -/
def laws_FnSureSign.Pure : Prop := ∀ (l0 : List Int) (l1 : List Int), l0.length ≤ maxLen → l0.length * 1 ≤ 140737488351232 → (∀ x ∈ l0, (Lit.int .u8 x).wf = true) → l1.length ≤ maxLen → l1.length * 1 ≤ 140737488351232 → (∀ x ∈ l1, (Lit.int .u8 x).wf = true) → ∃ k, laws_FnSureSign.f k l0 l1 = some true
theorem laws_FnSureSign.walk (P : laws_FnSureSign.Pure) (a0 : Option Addr) (len0 cap0 : Nat) (z0 : List Int) (a1 : Option Addr) (len1 cap1 : Nat) (z1 : List Int) (w : World) (w0 : (a0 = none ∧ len0 = 0 ∧ cap0 = 0 ∧ z0 = []) ∨ ∃ x, a0 = some x ∧ len0 ≤ cap0 ∧ cap0 ≤ maxLen ∧ z0.length = cap0 ∧ (∀ i, i < z0.length → w.cell? (x.add i) = some (.int .u8 (z0.getD i 0))) ∧ ∀ n ∈ z0, (Lit.int .u8 n).wf = true) (y0 : len0 * 1 ≤ 140737488351232) (w1 : (a1 = none ∧ len1 = 0 ∧ cap1 = 0 ∧ z1 = []) ∨ ∃ x, a1 = some x ∧ len1 ≤ cap1 ∧ cap1 ≤ maxLen ∧ z1.length = cap1 ∧ (∀ i, i < z1.length → w.cell? (x.add i) = some (.int .u8 (z1.getD i 0))) ∧ ∀ n ∈ z1, (Lit.int .u8 n).wf = true) (y1 : len1 * 1 ≤ 140737488351232) :
    Calls Try.prog 3 #[.slice a0 len0 cap0, .slice a1 len1 cap1] w fun e w' => e = .returned (.bool true) ∧ Below w.heap.size w w' := by
  obtain ⟨l0, rfl, hr0, hm0, hw0, hc0⟩ := ReadsInt.ofRowC w0
  obtain ⟨l1, rfl, hr1, hm1, hw1, hc1⟩ := ReadsInt.ofRowC w1
  obtain ⟨k, h⟩ := P l0 l1 hm0 y0 hw0 hm1 y1 hw1
  refine (laws_FnSureSign.calls k _ _ l0 _ _ l1 true w (Kd.C_of_reads (d := (0 : Int)) (h1 := fun _ => rfl) hr0) hc0 (Kd.C_of_reads (d := (0 : Int)) (h1 := fun _ => rfl) hr1) hc1 h).mono ?_
  rintro e w' ⟨rfl, hd⟩
  exact ⟨rfl, hd⟩

end Go.Proofs.Ytfjfjabdgemalaa.S
