/- The statement FnExactAngOf of this seat is proved here: whatever the input, the law returns true, and its arguments read as before. -/
import Derived.Test.YtdjlmfcnopbljaaRows
import Derived.Test.YtdjlmfcnopbljaaSFlawsFnExactAngOf
import Derived.Test.YtdjlmfcnopbljaaPureFnExactAngOf
import Derived.WalkKit
import Derived.ProofKit
import Derived.OpenShut
import Derived.ShutString
import Derived.ChangeOld
import Derived.Below
import Derived.SizedLaws
import Derived.Lib.SmallJoins
namespace Go.Proofs.Ytdjlmfcnopbljaa.fnExactAngOf
open Go.ChangeShapes Go.WideShapes Go.ChangeAt Go.RowKit Go.Joins
open Go.ChangeMaps (open_string shut_string)
set_option linter.unusedVariables false
theorem own : ownKnob Try.prog.godebug = none := by kernel_rfl

theorem array5 {α : Type} {cs : Array α} (h : cs.size = 5) : ∃ c0 c1 c2 c3 c4, cs = #[c0, c1, c2, c3, c4] := by
  obtain ⟨l⟩ := cs
  match l, h with
  | [c0, c1, c2, c3, c4], _ => exact ⟨c0, c1, c2, c3, c4, rfl⟩
theorem list5 {α : Type} {l : List α} (h : l.length = 5) : ∃ c0 c1 c2 c3 c4, l = [c0, c1, c2, c3, c4] := by
  match l, h with
  | [c0, c1, c2, c3, c4], _ => exact ⟨c0, c1, c2, c3, c4, rfl⟩
theorem cells_int : Try.prog.cellsOf 3 = 1 := by kernel_rfl
theorem cells_bool : Try.prog.cellsOf 4 = 1 := by kernel_rfl
theorem cells_ang : Try.prog.cellsOf 32 = 5 := by kernel_rfl
section
variable {H : Type} {enc : TypeId × Value → H} {w : World} {base : Nat} {spare : Nat → Bool} {held : Bool}
theorem ang_open {fuel : Nat} {c0 c1 c2 c3 c4 : Value} {x : DataW H × List MemPlace} (h : DataW.trod enc Try.prog w base spare held fuel 32 (Value.cells (.agg #[c0, c1, c2, c3, c4])).toList = some x) :
    ∃ (y0 y1 y2 y3 y4 : DataW H × List MemPlace) (n : Nat), x = (.agg [y0.1, y1.1, y2.1, y3.1, y4.1], y0.2 ++ (y1.2 ++ (y2.2 ++ (y3.2 ++ y4.2)))) ∧
      DataW.trod enc Try.prog w base spare held n 4 [c0] = some y0 ∧ DataW.trod enc Try.prog w base spare held n 3 [c1] = some y1 ∧ DataW.trod enc Try.prog w base spare held n 3 [c2] = some y2 ∧
      DataW.trod enc Try.prog w base spare held n 3 [c3] = some y3 ∧ DataW.trod enc Try.prog w base spare held n 3 [c4] = some y4 := by
  obtain ⟨xs, n, _, rfl, _, hlen, hf⟩ := DataW.trod_struct Try.underlying32 h
  obtain ⟨y0, y1, y2, y3, y4, rfl⟩ := list5 hlen
  exact ⟨y0, y1, y2, y3, y4, n, by simp, by simpa [Value.cells, cells_bool] using hf 0 _ rfl, by simpa [Value.cells, cells_int] using hf 1 _ rfl, by simpa [Value.cells, cells_int] using hf 2 _ rfl, by simpa [Value.cells, cells_int] using hf 3 _ rfl, by simpa [Value.cells, cells_int] using hf 4 _ rfl⟩
theorem ang_shut {b0 : Bool} {b1 b2 b3 b4 : Int} (k1 : (Lit.int .i64 b1).wf = true) (k2 : (Lit.int .i64 b2).wf = true) (k3 : (Lit.int .i64 b3).wf = true) (k4 : (Lit.int .i64 b4).wf = true) :
    DataW.Trod enc Try.prog w base spare held 32 (.agg #[.bool b0, .int .i64 b1, .int .i64 b2, .int .i64 b3, .int .i64 b4]) (.agg [.lit (.bool b0), .lit (.int .i64 b1), .lit (.int .i64 b2), .lit (.int .i64 b3), .lit (.int .i64 b4)]) [] := by
  have ts := trod_struct_mk (enc := enc) (w := w) (base := base) (spare := spare) (held := held) (n := 1) (cs := [.bool b0, .int .i64 b1, .int .i64 b2, .int .i64 b3, .int .i64 b4]) (xs := [(.lit (.bool b0), []), (.lit (.int .i64 b1), []), (.lit (.int .i64 b2), []), (.lit (.int .i64 b3), []), (.lit (.int .i64 b4), [])]) Try.underlying32 (by simp [cells_ang])
    (by simp [DataW.trod, cells_bool, cells_int, Try.underlying3, Try.underlying4, k1, k2, k3, k4])
  exact ⟨_, by simpa [Value.cells] using ts⟩
end
set_option maxRecDepth 100000 in
theorem lifted (os : Os) (started : os.Started) (H : Type) (enc : TypeId × Value → H) :
    ReturnsInHanded {} Try.checked os 5 .any (Rows.fnExactAngOfSpec.pre6 enc Try.prog Try.f5 Rows.fnExactAngOfRow.domain false) (Rows.fnExactAngOfSpec.post enc Try.prog Try.f5 false true false false) := by
  refine returnsInHanded_of_change_sized (C := Try.checked) own started (by kernel_rfl) Try.func5
    (ChangeSpec.witness6 (enc := enc) (C := Try.checked) false ⟨#[], #[.agg #[.bool false, .int .i64 0, .int .i64 0, .int .i64 0, .int .i64 0]], []⟩ 8 (by kernel_rfl) (by kernel_rfl) (by kernel_rfl) (by kernel_rfl)) ?_
  intro W base args ds gs before hval0 hW hcnd hsz0 _
  have hval : ∀ (j : Nat) t v, Try.f5.params[j]? = some t → args[j]? = some v → Value.okWide Try.prog W .any base t v := hval0
  have hW' := hW
  obtain ⟨p, q, hA0, hV, rfl, hfz, hnd⟩ := hW
  have hA : DataW.TrodAll enc Try.prog W 0 (fun _ => true) true Try.f5.params.toList args.toList ds p := hA0
  rw [Try.params5] at hA hval
  obtain ⟨v0, vs0, d0, ds0, p0, q0, hargs, rfl, rfl, h0, r0⟩ := trodAll_cons hA
  obtain ⟨rfl, rfl, rfl⟩ := trodAll_nil r0
  obtain rfl : args = #[v0] := by cases args; simp_all
  obtain ⟨rfl, rfl⟩ := trodVars_none hV
  obtain ⟨cs, rfl, hsz5⟩ := okWide_struct Try.underlying32 (hval 0 32 v0 rfl rfl)
  obtain ⟨c0, c1, c2, c3, c4, rfl⟩ := array5 (hsz5.trans (by kernel_rfl : Try.prog.cellsOf 32 = 5))
  obtain ⟨fuel, hf⟩ := h0
  obtain ⟨y0, y1, y2, y3, y4, m, hx, hy0, hy1, hy2, hy3, hy4⟩ := ang_open hf
  obtain ⟨b0, e0, rfl⟩ := DataW.trod_bool Try.underlying4 hy0
  obtain ⟨b1, e1, rfl, k1⟩ := DataW.trod_int Try.underlying3 hy1
  obtain ⟨b2, e2, rfl, k2⟩ := DataW.trod_int Try.underlying3 hy2
  obtain ⟨b3, e3, rfl, k3⟩ := DataW.trod_int Try.underlying3 hy3
  obtain ⟨b4, e4, rfl, k4⟩ := DataW.trod_int Try.underlying3 hy4
  simp at e0 e1 e2 e3 e4
  subst e0 e1 e2 e3 e4
  simp only [Prod.mk.injEq] at hx
  obtain ⟨rfl, rfl⟩ := hx
  have structReads : ∀ (W' : World) (sp : Nat → Bool), DataW.Trod enc Try.prog W' 0 sp true 32 (.agg #[.bool b0, .int .i64 b1, .int .i64 b2, .int .i64 b3, .int .i64 b4]) (.agg [.lit (.bool b0), .lit (.int .i64 b1), .lit (.int .i64 b2), .lit (.int .i64 b3), .lit (.int .i64 b4)]) [] := fun W' sp => ang_shut k1 k2 k3 k4
  clear hA0 hval0 hsz0
  have walked : Calls Try.prog 5 #[.agg #[.bool b0, .int .i64 b1, .int .i64 b2, .int .i64 b3, .int .i64 b4]] W fun e w' => e = .returned (.bool true) ∧ Below W.heap.size W w' := by
    obtain ⟨k, h⟩ := PureFnExactAngOf.FnExactAngOf b0 b1 b2 b3 b4 k1 k2 k3 k4
    refine (S.laws_FnExactAngOf.calls k b0 b1 b2 b3 b4 true W h).mono ?_
    rintro e w' ⟨rfl, hd⟩
    exact ⟨rfl, hd⟩
  refine walked.mono fun e W' ⟨he, bel⟩ => ?_
  subst he
  exact ⟨_, rfl, _, _, _, [], _, [], hW', trodAll_mk1 (shut_bool Try.underlying4 _), (trodAll_cons_mk (structReads _ _) trodAll_mk0), rfl, bel.frame _, fun h => by cases h⟩
theorem over : Rows.fnExactAngOfRow.holds Try.pinned (OpenSpec.ofChange Rows.fnExactAngOfSpec) :=
  OpenClaim.holds_of_wide 5 Try.f5 rfl rfl rfl rfl rfl rfl rfl ⟨rfl, rfl, rfl, rfl, rfl⟩ rfl rfl rfl rfl rfl (by kernel_rfl) Try.func5 (by kernel_rfl)
    (of_decide_eq_true (by kernel_rfl)) (by unfold Func.isWrapper; first | (rw [if_pos (by decide +kernel)]; kernel_rfl) | (rw [if_neg (by decide +kernel)]; exact ⟨rfl, rfl⟩))
    (fun os started H enc _ => lifted os started H enc)
theorem proved : Rows.FnExactAngOfSaid := over
#print axioms proved
end Go.Proofs.Ytdjlmfcnopbljaa.fnExactAngOf
namespace Go.Proofs.Ytdjlmfcnopbljaa
/-- The row, under a short name, for the claim. -/
theorem fnExactAngOf_holds : Rows.FnExactAngOfSaid := fnExactAngOf.proved
end Go.Proofs.Ytdjlmfcnopbljaa
