/- What the Go functions spec_l2Over compute: for each a Lean function with the same answers, and the contract that the Go code comes to them; under the condition that the Lean function answers. The text was written by the print program of the kit, parted and joined anew, and turned in places by a small program of this session. -/
import Derived.Test.YtalaiianaepcoaaSBase
import Derived.Test.YtalaiianaepcoaaSA
namespace Go.Proofs.Ytalaiianaepcoaa.S
open Go.RowKit Go.Proofs.YtalaiianaepcoaaW.PrintWords Go.Proofs.YtalaiianaepcoaaW.PrintLast Go.Proofs.YtalaiianaepcoaaW.PrintMore
attribute [local go_sem] max2_int min2_int max_two min_two max_three min_three max_four min_four   -- for this text's walks alone
set_option linter.unusedVariables false
set_option linter.unusedSimpArgs false

/-! ### spec_l2Over: function 67 -/
def spec_l2Over.f (a0 : Int) (a1 : Int) : Option (Int × Int) := if a1 < 0 then ((spec_l1Down.f (wrap64 ((wrap64 (-a0)) * 1000000000)) (wrap64 (-a1))).bind fun t626 => ((spec_l1Up.f (wrap64 ((wrap64 (-a0)) * 1000000000)) (wrap64 (-a1))).bind fun t627 => (some (t626, t627)))) else ((spec_l1Down.f (wrap64 (a0 * 1000000000)) a1).bind fun t628 => ((spec_l1Up.f (wrap64 (a0 * 1000000000)) a1).bind fun t629 => (some (t628, t629))))
set_option maxHeartbeats 8000000 in
set_option maxRecDepth 100000 in
theorem spec_l2Over.calls (a0 : Int) (a1 : Int) (r1 : Int) (r2 : Int) (w : World) (h : spec_l2Over.f a0 a1 = some (r1, r2)) :
    Calls Try.prog 67 #[.int .i64 a0, .int .i64 a1] w fun e w' => e = .returned (.tuple #[.int .i64 r1, .int .i64 r2]) ∧ Drawn0 w w' := by
  have H : (if a1 < 0 then ((spec_l1Down.f (wrap64 ((wrap64 (-a0)) * 1000000000)) (wrap64 (-a1))).bind fun t626 => ((spec_l1Up.f (wrap64 ((wrap64 (-a0)) * 1000000000)) (wrap64 (-a1))).bind fun t627 => (some (t626, t627)))) else ((spec_l1Down.f (wrap64 (a0 * 1000000000)) a1).bind fun t628 => ((spec_l1Up.f (wrap64 (a0 * 1000000000)) a1).bind fun t629 => (some (t628, t629))))) = some (r1, r2) := h
  clear h
  by_cases c3 : a1 < 0
  · rw [if_pos c3] at H
    have c3b0 : decide (a1 < 0) = true := decide_eq_true c3
    clear c3
    replace H := Option.bind_eq_some_iff.mp H
    obtain ⟨t626, A40, H⟩ := H
    replace H : ((spec_l1Up.f (wrap64 ((wrap64 (-a0)) * 1000000000)) (wrap64 (-a1))).bind fun t627 => (some (t626, t627))) = some (r1, r2) := H
    have A4 := Aside0.mk A40
    clear A40
    replace H := Option.bind_eq_some_iff.mp H
    obtain ⟨t627, A50, H⟩ := H
    replace H : (some (t626, t627)) = some (r1, r2) := H
    have A5 := Aside0.mk A50
    clear A50
    simp only [Option.some.injEq, Prod.mk.injEq] at H
    obtain ⟨rfl, rfl⟩ := H
    go_enter Try.func67, Try.ntmps67
    go_wp2_with (first | ((with_reducible refine gate_callee (f := 60) rfl ?_); refine goesL_ (some 15) rfl rfl Try.func60 (by kernel_rfl) rfl #[.int .i64 (wrap64 ((wrap64 (-a0)) * 1000000000)), .int .i64 (wrap64 (-a1))] rfl (by (try simp only [List.map_toArray, List.map_cons, List.map_nil]); first | done | rfl | (simp only [List.length_drop, List.length_take]; rfl)) ?_; (with_reducible refine (spec_l1Down.calls (wrap64 ((wrap64 (-a0)) * 1000000000)) (wrap64 (-a1)) t626 _ A4.out).mono ?_); rintro e w' ⟨rfl, ⟨nd, rfl⟩⟩; refine ⟨_, rfl, ?_⟩) | ((with_reducible refine gate_callee (f := 70) rfl ?_); refine goesL_ (some 19) rfl rfl Try.func70 (by kernel_rfl) rfl #[.int .i64 (wrap64 ((wrap64 (-a0)) * 1000000000)), .int .i64 (wrap64 (-a1))] rfl (by (try simp only [List.map_toArray, List.map_cons, List.map_nil]); first | done | rfl | (simp only [List.length_drop, List.length_take]; rfl)) ?_; (with_reducible refine (spec_l1Up.calls (wrap64 ((wrap64 (-a0)) * 1000000000)) (wrap64 (-a1)) t627 _ A5.out).mono ?_); rintro e w' ⟨rfl, ⟨nd, rfl⟩⟩; refine ⟨_, rfl, ?_⟩))
    go_ret2
    exact ⟨by first | rfl | (simp; done) | (simp [*]; done), by repeat (first | exact Drawn0.refl _ | apply Drawn0.step)⟩
  · rw [if_neg c3] at H
    have c3b0 : decide (a1 < 0) = false := decide_eq_false c3
    clear c3
    replace H := Option.bind_eq_some_iff.mp H
    obtain ⟨t628, A60, H⟩ := H
    replace H : ((spec_l1Up.f (wrap64 (a0 * 1000000000)) a1).bind fun t629 => (some (t628, t629))) = some (r1, r2) := H
    have A6 := Aside0.mk A60
    clear A60
    replace H := Option.bind_eq_some_iff.mp H
    obtain ⟨t629, A70, H⟩ := H
    replace H : (some (t628, t629)) = some (r1, r2) := H
    have A7 := Aside0.mk A70
    clear A70
    simp only [Option.some.injEq, Prod.mk.injEq] at H
    obtain ⟨rfl, rfl⟩ := H
    go_enter Try.func67, Try.ntmps67
    go_wp2_with (first | ((with_reducible refine gate_callee (f := 60) rfl ?_); refine goesL_ (some 15) rfl rfl Try.func60 (by kernel_rfl) rfl #[.int .i64 (wrap64 (a0 * 1000000000)), .int .i64 a1] rfl (by (try simp only [List.map_toArray, List.map_cons, List.map_nil]); first | done | rfl | (simp only [List.length_drop, List.length_take]; rfl)) ?_; (with_reducible refine (spec_l1Down.calls (wrap64 (a0 * 1000000000)) a1 t628 _ A6.out).mono ?_); rintro e w' ⟨rfl, ⟨nd, rfl⟩⟩; refine ⟨_, rfl, ?_⟩) | ((with_reducible refine gate_callee (f := 70) rfl ?_); refine goesL_ (some 19) rfl rfl Try.func70 (by kernel_rfl) rfl #[.int .i64 (wrap64 (a0 * 1000000000)), .int .i64 a1] rfl (by (try simp only [List.map_toArray, List.map_cons, List.map_nil]); first | done | rfl | (simp only [List.length_drop, List.length_take]; rfl)) ?_; (with_reducible refine (spec_l1Up.calls (wrap64 (a0 * 1000000000)) a1 t629 _ A7.out).mono ?_); rintro e w' ⟨rfl, ⟨nd, rfl⟩⟩; refine ⟨_, rfl, ?_⟩))
    go_ret2
    exact ⟨by first | rfl | (simp; done) | (simp [*]; done), by repeat (first | exact Drawn0.refl _ | apply Drawn0.step)⟩

end Go.Proofs.Ytalaiianaepcoaa.S
