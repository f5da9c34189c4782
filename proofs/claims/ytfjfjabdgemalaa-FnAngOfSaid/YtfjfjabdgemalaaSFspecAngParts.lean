/- What the Go functions spec_AngParts compute: for each a Lean function with the same answers, and the contract that the Go code comes to them; under the condition that the Lean function answers. The text was written by the print program of the kit, parted and joined anew, and turned in places by a small program of this session. -/
import Derived.Test.YtfjfjabdgemalaaSBase
import Derived.Test.YtfjfjabdgemalaaSA
namespace Go.Proofs.Ytfjfjabdgemalaa.S
open Go.RowKit Go.Proofs.YtfjfjabdgemalaaW.PrintWords Go.Proofs.YtfjfjabdgemalaaW.PrintLast Go.Proofs.YtfjfjabdgemalaaW.PrintMore
attribute [local go_sem] max2_int min2_int max_two min_two max_three min_three max_four min_four   -- for this text's walks alone
set_option linter.unusedVariables false
set_option linter.unusedSimpArgs false

/-! ### spec_AngParts: function 45 -/
def spec_AngParts.f (a0 : Int) : Option (Bool × Int × Int × Int × Int × Bool) := (spec_l6In.f a0 (-129600000) 129600000).bind fun t183 => (if t183 = true then (if a0 < 0 then (some (decide (a0 < 0), wrap64 (Int.tdiv (wrap64 (-a0)) 360000), wrap64 (Int.tdiv (Int.tmod (wrap64 (-a0)) 360000) 6000), wrap64 (Int.tdiv (Int.tmod (wrap64 (-a0)) 6000) 100), Int.tmod (wrap64 (-a0)) 100, true)) else (some (decide (a0 < 0), wrap64 (Int.tdiv a0 360000), wrap64 (Int.tdiv (Int.tmod a0 360000) 6000), wrap64 (Int.tdiv (Int.tmod a0 6000) 100), Int.tmod a0 100, true))) else (some (false, 0, 0, 0, 0, false)))
set_option maxHeartbeats 1000000 in
set_option maxRecDepth 100000 in
theorem spec_AngParts.calls (a0 : Int) (r1 : Bool) (r2 : Int) (r3 : Int) (r4 : Int) (r5 : Int) (r6 : Bool) (w : World) (h : spec_AngParts.f a0 = some (r1, r2, r3, r4, r5, r6)) :
    Calls Try.prog 45 #[.int .i64 a0] w fun e w' => e = .returned (.tuple #[.agg #[.bool r1, .int .i64 r2, .int .i64 r3, .int .i64 r4, .int .i64 r5], .bool r6]) ∧ Below w.heap.size w w' := by
  unfold spec_AngParts.f at h
  cases e : spec_l6In.f a0 (-129600000) 129600000 with
  | none => rw [e] at h; simp at h
  | some b =>
    rw [e] at h
    have A2 := Aside0.mk e
    have HB := Aside0.mk (Below.refl w.heap.size w)
    clear e
    cases b with
    | false =>
      simp at h
      obtain ⟨rfl, rfl, rfl, rfl, rfl, rfl⟩ := h
      go_enter Try.func45, Try.ntmps45
      go_wp2_with (first | ((with_reducible refine gate_callee (f := 47) rfl ?_); refine goesL_ (some 6) rfl rfl Try.func47 (by kernel_rfl) rfl #[.int .i64 a0, .int .i64 (-129600000), .int .i64 129600000] rfl (by (try simp only [List.map_toArray, List.map_cons, List.map_nil]); first | done | rfl) ?_; (with_reducible refine (spec_l6In.calls a0 (-129600000) 129600000 false _ A2.out).mono ?_); rintro e w' ⟨rfl, ⟨nd, rfl⟩⟩; refine ⟨_, rfl, ?_⟩))
      refine bodyPost_ret (v := .tuple #[.agg #[.bool false, .int .i64 0, .int .i64 0, .int .i64 0, .int .i64 0], .bool false]) (by simp [results, Try.results45, go_sem]) rfl ⟨rfl, ?_⟩
      repeat (with_reducible first | exact HB.out | apply below_alloc | apply pw_below_drewN | apply below_drew1 | refine below_set ?_ (Nat.le_refl _))
    | true =>
      simp only [Option.bind_some, if_true] at h
      by_cases c : a0 < 0
      · rw [if_pos c] at h
        have cb : decide (a0 < 0) = true := decide_eq_true c
        simp only [Option.some.injEq, Prod.mk.injEq] at h
        obtain ⟨rfl, rfl, rfl, rfl, rfl, rfl⟩ := h
        go_enter Try.func45, Try.ntmps45
        go_wp2_with (first | ((with_reducible refine gate_callee (f := 47) rfl ?_); refine goesL_ (some 6) rfl rfl Try.func47 (by kernel_rfl) rfl #[.int .i64 a0, .int .i64 (-129600000), .int .i64 129600000] rfl (by (try simp only [List.map_toArray, List.map_cons, List.map_nil]); first | done | rfl) ?_; (with_reducible refine (spec_l6In.calls a0 (-129600000) 129600000 true _ A2.out).mono ?_); rintro e w' ⟨rfl, ⟨nd, rfl⟩⟩; refine ⟨_, rfl, ?_⟩))
        refine bodyPost_ret (v := .tuple #[.agg #[.bool true, .int .i64 (wrap64 (Int.tdiv (wrap64 (-a0)) 360000)), .int .i64 (wrap64 (Int.tdiv (Int.tmod (wrap64 (-a0)) 360000) 6000)), .int .i64 (wrap64 (Int.tdiv (Int.tmod (wrap64 (-a0)) 6000) 100)), .int .i64 (Int.tmod (wrap64 (-a0)) 100)], .bool true]) (by simp [results, Try.results45, go_sem]) rfl ⟨by simp [cb], ?_⟩
        repeat (with_reducible first | exact HB.out | apply below_alloc | apply pw_below_drewN | apply below_drew1 | refine below_set ?_ (Nat.le_refl _))
      · rw [if_neg c] at h
        have cb : decide (a0 < 0) = false := decide_eq_false c
        simp only [Option.some.injEq, Prod.mk.injEq] at h
        obtain ⟨rfl, rfl, rfl, rfl, rfl, rfl⟩ := h
        have c0 : 0 ≤ a0 := by omega
        have c1 : a0 ≤ 129600000 := by
          have x := A2.out
          unfold spec_l6In.f at x
          split at x
          · simp at x; exact x
          · simp at x
        have m0 := Int.emod_nonneg a0 (show (360000 : Int) ≠ 0 by decide)
        have m1 := Int.emod_nonneg a0 (show (6000 : Int) ≠ 0 by decide)
        have E1 : wrap64 (Int.tdiv a0 360000) = a0 / 360000 := by rw [Int.tdiv_eq_ediv_of_nonneg c0]; unfold wrap64; omega
        have E2 : wrap64 (Int.tdiv (Int.tmod a0 360000) 6000) = a0 % 360000 / 6000 := by rw [Int.tmod_eq_emod_of_nonneg c0, Int.tdiv_eq_ediv_of_nonneg m0]; unfold wrap64; omega
        have E3 : wrap64 (Int.tdiv (Int.tmod a0 6000) 100) = a0 % 6000 / 100 := by rw [Int.tmod_eq_emod_of_nonneg c0, Int.tdiv_eq_ediv_of_nonneg m1]; unfold wrap64; omega
        have E4 : Int.tmod a0 100 = a0 % 100 := Int.tmod_eq_emod_of_nonneg c0
        rw [E1, E2, E3, E4]
        clear E1 E2 E3 E4 m0 m1 c
        go_enter Try.func45, Try.ntmps45
        go_wp2_with (first | ((with_reducible refine gate_callee (f := 47) rfl ?_); refine goesL_ (some 6) rfl rfl Try.func47 (by kernel_rfl) rfl #[.int .i64 a0, .int .i64 (-129600000), .int .i64 129600000] rfl (by (try simp only [List.map_toArray, List.map_cons, List.map_nil]); first | done | rfl) ?_; (with_reducible refine (spec_l6In.calls a0 (-129600000) 129600000 true _ A2.out).mono ?_); rintro e w' ⟨rfl, ⟨nd, rfl⟩⟩; refine ⟨_, rfl, ?_⟩))
        refine bodyPost_ret (v := .tuple #[.agg #[.bool false, .int .i64 (a0 / 360000), .int .i64 (a0 % 360000 / 6000), .int .i64 (a0 % 6000 / 100), .int .i64 (a0 % 100)], .bool true]) (by simp [results, Try.results45, go_sem]) rfl ⟨by simp [cb], ?_⟩
        repeat (with_reducible first | exact HB.out | apply below_alloc | apply pw_below_drewN | apply below_drew1 | refine below_set ?_ (Nat.le_refl _))
end Go.Proofs.Ytfjfjabdgemalaa.S
