/- What the Go function impl.halve computes when it is handed a question: the halving of two angles by that question; under the condition that both angles lie within a quarter of a turn either way, in order, and that the question answers there and leaves what lay there. -/
import Derived.Test.YtmncignfkpkcjaaSBase
import Derived.Test.YtmncignfkpkcjaaSB
import Derived.Test.YtmncignfkpkcjaaAlA
namespace Go.Proofs.Ytmncignfkpkcjaa.S
open Go.RowKit AlMath Go.Proofs.YtmncignfkpkcjaaW.PrintWords Go.Proofs.YtmncignfkpkcjaaW.PrintLast Go.Proofs.YtmncignfkpkcjaaW.PrintMore
set_option linter.unusedVariables false
set_option linter.unusedSimpArgs false

/-- what is asked of a question: in every world in which all that lay in w lies as it lay, it answers, and leaves such a world. -/
def Asked (g : Nat) (lb : Array Value) (q : Int → Bool) (w : World) : Prop :=
  ∀ (W : World) (a : Int), -32400000 ≤ a → a ≤ 32400000 → Below w.heap.size w W → Calls Try.prog g (#[.int .i64 a] ++ lb) W fun e w' => e = .returned (.bool (q a)) ∧ Below W.heap.size W w'

theorem Asked.later {g : Nat} {lb : Array Value} {q : Int → Bool} {w W : World} (h : Asked g lb q w) (hb : Below w.heap.size w W) : Asked g lb q W :=
  fun W' a h0 h1 hb' => h W' a h0 h1 (hb.trans (hb'.mono hb.size))

set_option maxHeartbeats 4000000 in
set_option maxRecDepth 100000 in
theorem impl_halve.calls (g : Nat) (lb : Array Value) (eg : ∀ args w, (callFunc g args).run Try.prog w = .ok (.enter g args) w) (q : Int → Bool) (w : World) (hp : Asked g lb q w)
    (dn : ∀ a : Int, -64800000 ≤ a → a ≤ 64800000 → impl_down.f a 2 = some (a / 2))
    (lo hi : Int) (h0 : -32400000 ≤ lo) (h1 : lo ≤ hi) (h2 : hi ≤ 32400000) (n : Nat) (hn : hi - lo ≤ 2 ^ n) :
    Calls Try.prog 67 #[.int .i64 lo, .int .i64 hi, .func (.func g) #[] lb] w fun e w' => e = .returned (.tuple #[.int .i64 (halveL q n lo hi).1, .int .i64 (halveL q n lo hi).2]) ∧ Below w.heap.size w w' := by
  go_enter Try.func67, Try.ntmps67
  go_wp2
  go_loopg [0, 1] n (fun gg v0 v1 wr => ∃ lo' hi' : Int, v0 = .int .i64 lo' ∧ v1 = .int .i64 hi' ∧ Aside0 (-32400000 ≤ lo' ∧ lo' ≤ hi' ∧ hi' ≤ 32400000) ∧ Aside0 (hi' - lo' ≤ 2 ^ gg) ∧ Aside0 (halveL q gg lo' hi' = halveL q n lo hi) ∧ Aside0 (Below w.heap.size w wr))
  case atStart => exact ⟨lo, hi, rfl, rfl, ⟨⟨h0, h1, h2⟩⟩, ⟨hn⟩, ⟨rfl⟩, ⟨Below.refl _ _⟩⟩
  case round =>
    obtain ⟨lo', hi', rfl, rfl, ⟨b0, b1, b2⟩, HN, HE, HB⟩ := hrel
    clear h0 h1 h2 hn
    by_cases c : hi' - lo' > 1
    · cases gk with
      | zero => exact absurd HN.out (by rw [Int.pow_zero]; omega)
      | succ k =>
        have HN' := Aside0.mk (show hi' - lo' ≤ 2 ^ k * 2 by have := HN.out; rw [Int.pow_succ] at this; exact this)
        clear HN
        have HN := HN'
        clear HN'
        have D := Aside0.mk (dn (lo' + hi') (by omega) (by omega))
        have m0 : -32400000 ≤ (lo' + hi') / 2 := by omega
        have m1 : (lo' + hi') / 2 ≤ 32400000 := by omega
        have hcall := Aside0.mk (fun (W : World) (hb : Below w.heap.size w W) => hp W ((lo' + hi') / 2) m0 m1 hb)
        have e := halveL_go q k lo' hi' c
        rw [HE.out] at e
        cases hq : q ((lo' + hi') / 2) with
        | true =>
          rw [hq] at hcall e
          have E := Aside0.mk e
          clear e hq HE
          go_wp2_with (go_at_call 64; refine (impl_down.calls (lo' + hi') 2 ((lo' + hi') / 2) _ D.out).mono ?_; rintro e w' ⟨rfl, ⟨nd, rfl⟩⟩)
          refine (hcall.out _ (pw_below_drewN HB.out nd)).mono ?_
          rintro e w' ⟨rfl, hb'⟩
          have HB' := Aside0.mk ((pw_below_drewN HB.out nd).trans (hb'.mono (pw_below_drewN HB.out nd).size))
          clear hb' hcall
          go_wp2
          go_roundg k
          case measure => exact Nat.lt_succ_self _
          case rel => exact ⟨(lo' + hi') / 2, hi', rfl, rfl, ⟨by omega, by omega, by omega⟩, ⟨by have := HN.out; generalize (2 : Int) ^ k = P at *; omega⟩, ⟨by have := E.out; simp at this; exact this.symm⟩, HB'⟩
        | false =>
          rw [hq] at hcall e
          have E := Aside0.mk e
          clear e hq HE
          go_wp2_with (go_at_call 64; refine (impl_down.calls (lo' + hi') 2 ((lo' + hi') / 2) _ D.out).mono ?_; rintro e w' ⟨rfl, ⟨nd, rfl⟩⟩)
          refine (hcall.out _ (pw_below_drewN HB.out nd)).mono ?_
          rintro e w' ⟨rfl, hb'⟩
          have HB' := Aside0.mk ((pw_below_drewN HB.out nd).trans (hb'.mono (pw_below_drewN HB.out nd).size))
          clear hb' hcall
          go_wp2
          go_roundg k
          case measure => exact Nat.lt_succ_self _
          case rel => exact ⟨lo', (lo' + hi') / 2, rfl, rfl, ⟨by omega, by omega, by omega⟩, ⟨by have := HN.out; generalize (2 : Int) ^ k = P at *; omega⟩, ⟨by have := E.out; simp at this; exact this.symm⟩, HB'⟩
    · have e := halveL_end q gk lo' hi' c
      rw [HE.out] at e
      have E := Aside0.mk e
      clear e HE HN
      go_wp2
      repeat (go_quiet (fail); try go_wp2)
      go_ret2
      exact ⟨by rw [E.out]; rfl, by repeat (first | exact HB.out | apply pw_below_drewN | apply below_drew1)⟩
end Go.Proofs.Ytmncignfkpkcjaa.S
