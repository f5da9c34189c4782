/- What the Go functions impl.sineBack, impl.SineBack and impl.CosBack compute: both ends of the halving by the sine's ends; under the condition that the sine answers. -/
import Derived.Test.YtmncignfkpkcjaaSBase
import Derived.Test.YtmncignfkpkcjaaSB
import Derived.Test.YtmncignfkpkcjaaSE
import Derived.Test.YtmncignfkpkcjaaSHalve
import Derived.Test.YtmncignfkpkcjaaSClos
import Derived.Test.YtmncignfkpkcjaaSFimplisPart
namespace Go.Proofs.Ytmncignfkpkcjaa.S
open Go.RowKit AlMath Go.Proofs.YtmncignfkpkcjaaW.PrintWords Go.Proofs.YtmncignfkpkcjaaW.PrintLast Go.Proofs.YtmncignfkpkcjaaW.PrintMore
set_option linter.unusedVariables false
set_option linter.unusedSimpArgs false

theorem asked68 (k : Nat) (num : Int) (F : Int → Int × Int) (hF : ∀ a, -32400000 ≤ a → a ≤ 32400000 → impl_sine.f k (wrap64 (2 * a)) = some (F a)) (w : World) (B : Nat) (hB : B < w.heap.size) (hc : w.cell? ⟨B, 0, none⟩ = some (.int .i64 num)) :
    Asked 68 #[.pointer (some ⟨B, 0, none⟩)] (fun a => decide ((F a).2 ≤ num)) w := fun W a h0 h1 hb =>
  c68.calls k num a (F a).1 (F a).2 W B (hF a h0 h1) (Nat.lt_of_lt_of_le hB hb.size) ((hb.cell (p := ⟨B, 0, none⟩) hB).trans hc)
theorem asked69 (k : Nat) (num : Int) (F : Int → Int × Int) (hF : ∀ a, -32400000 ≤ a → a ≤ 32400000 → impl_sine.f k (wrap64 (2 * a)) = some (F a)) (w : World) (B : Nat) (hB : B < w.heap.size) (hc : w.cell? ⟨B, 0, none⟩ = some (.int .i64 num)) :
    Asked 69 #[.pointer (some ⟨B, 0, none⟩)] (fun a => decide ((F a).1 < num)) w := fun W a h0 h1 hb =>
  c69.calls k num a (F a).1 (F a).2 W B (hF a h0 h1) (Nat.lt_of_lt_of_le hB hb.size) ((hb.cell (p := ⟨B, 0, none⟩) hB).trans hc)

theorem halved68 (k : Nat) (num : Int) (F : Int → Int × Int) (hF : ∀ a, -32400000 ≤ a → a ≤ 32400000 → impl_sine.f k (wrap64 (2 * a)) = some (F a)) (dn : ∀ a : Int, -64800000 ≤ a → a ≤ 64800000 → impl_down.f a 2 = some (a / 2))
    (n : Nat) (hn : (64800000 : Int) ≤ 2 ^ n) (w : World) (B : Nat) (hb : w.heap[B]? = some (.cells #[.int .i64 num] 3 (0, 0))) :
    Calls Try.prog 67 #[.int .i64 (-32400000), .int .i64 32400000, .func (.func 68) #[] #[.pointer (some ⟨B, 0, none⟩)]] w fun e w' => e = .returned (.tuple #[.int .i64 (halveL (fun a => decide ((F a).2 ≤ num)) n (-32400000) 32400000).1, .int .i64 (halveL (fun a => decide ((F a).2 ≤ num)) n (-32400000) 32400000).2]) ∧ Below w.heap.size w w' :=
  impl_halve.calls 68 #[.pointer (some ⟨B, 0, none⟩)] (fun args w => enters_ Try.func68 (by kernel_rfl) rfl args w) _ w (asked68 k num F hF w B (blk_lt hb) ((blk_cell hb 0).trans rfl)) dn (-32400000) 32400000 (by decide) (by decide) (by decide) n (by omega)
theorem halved69 (k : Nat) (num : Int) (F : Int → Int × Int) (hF : ∀ a, -32400000 ≤ a → a ≤ 32400000 → impl_sine.f k (wrap64 (2 * a)) = some (F a)) (dn : ∀ a : Int, -64800000 ≤ a → a ≤ 64800000 → impl_down.f a 2 = some (a / 2))
    (n : Nat) (hn : (64800000 : Int) ≤ 2 ^ n) (w : World) (B : Nat) (hb : w.heap[B]? = some (.cells #[.int .i64 num] 3 (0, 0))) :
    Calls Try.prog 67 #[.int .i64 (-32400000), .int .i64 32400000, .func (.func 69) #[] #[.pointer (some ⟨B, 0, none⟩)]] w fun e w' => e = .returned (.tuple #[.int .i64 (halveL (fun a => decide ((F a).1 < num)) n (-32400000) 32400000).1, .int .i64 (halveL (fun a => decide ((F a).1 < num)) n (-32400000) 32400000).2]) ∧ Below w.heap.size w w' :=
  impl_halve.calls 69 #[.pointer (some ⟨B, 0, none⟩)] (fun args w => enters_ Try.func69 (by kernel_rfl) rfl args w) _ w (asked69 k num F hF w B (blk_lt hb) ((blk_cell hb 0).trans rfl)) dn (-32400000) 32400000 (by decide) (by decide) (by decide) n (by omega)

set_option maxHeartbeats 8000000 in
set_option maxRecDepth 100000 in
theorem impl_sineBack.calls (k : Nat) (num : Int) (F : Int → Int × Int) (hF : ∀ a, -32400000 ≤ a → a ≤ 32400000 → impl_sine.f k (wrap64 (2 * a)) = some (F a)) (dn : ∀ a : Int, -64800000 ≤ a → a ≤ 64800000 → impl_down.f a 2 = some (a / 2))
    (n : Nat) (hn : (64800000 : Int) ≤ 2 ^ n) (w : World) :
    Calls Try.prog 43 #[.int .i64 num] w fun e w' => e = .returned (.agg #[.int .i64 (halveL (fun a => decide ((F a).2 ≤ num)) n (-32400000) 32400000).1, .int .i64 (halveL (fun a => decide ((F a).1 < num)) n (-32400000) 32400000).2]) ∧ Below w.heap.size w w' := by
  have hmf : ∀ (fn : Fn) (first cap : Array Value) (w : World), (Instr.makeFunc fn first cap).run Try.prog w = .ok (.func fn first cap) w := fun _ _ _ _ => rfl
  have hu28 := Try.underlying28
  have h68 := Aside0.mk (fun w B hb => halved68 k num F hF dn n hn w B hb)
  have h69 := Aside0.mk (fun w B hb => halved69 k num F hF dn n hn w B hb)
  clear hF dn
  generalize halveL (fun a => decide ((F a).2 ≤ num)) n (-32400000) 32400000 = p at *
  generalize halveL (fun a => decide ((F a).1 < num)) n (-32400000) 32400000 = q at *
  obtain ⟨p1, p2⟩ := p
  obtain ⟨q1, q2⟩ := q
  have HB := Aside0.mk (Below.refl w.heap.size w)
  go_enter Try.func43, Try.ntmps43
  go_wp2_with (first
    | ((with_reducible refine gate_dst (N := 1) rfl ?_); refine box_event ?hg (N := 1) ?hd (cs := #[.int .i64 num]) (t := 3) ?hr ?_; (case hd => rfl); (case hg => rfl); (case hr => first | (go_simp; done) | (go_simp; rfl)); intro g1 hg w1 hbox hb; have n0_ := Aside0.mk (below_step HB.out hb); have n1_ := Aside0.mk hbox; have n2_ : Aside0 (w.heap.size ≤ g1) := ⟨by rw [hg]; exact below_size HB.out⟩; clear HB hb hbox hg; have HB := n0_; have BK1 := n1_; have GE1 := n2_; clear n0_ n1_ n2_)
    | ((with_reducible refine gate_dst (N := 2) rfl ?_); refine box_event ?hg (N := 2) ?hd (cs := #[.int .i64 0, .int .i64 0]) (t := 28) ?hr ?_; (case hd => rfl); (case hg => rfl); (case hr => first | (go_simp; done) | (go_simp; rfl)); intro g2 hg w2 hbox hb; have n0_ := Aside0.mk (below_step HB.out hb); have n1_ := Aside0.mk hbox; have n2_ : Aside0 (w.heap.size ≤ g2) := ⟨by rw [hg]; exact below_size HB.out⟩; have n3_ := Aside0.mk (blk_below BK1.out hb); have n4_ : Aside0 (g1 ≠ g2) := ⟨by rw [hg]; exact Nat.ne_of_lt (blk_lt BK1.out)⟩; clear HB hb hbox hg BK1; have HB := n0_; have BK2 := n1_; have GE2 := n2_; have BK1 := n3_; have NE := n4_; clear n0_ n1_ n2_ n3_ n4_)
    | (go_at_call 67; (with_reducible refine (h68.out _ g1 BK1.out).mono ?_); rintro e w3 ⟨rfl, hb⟩; have n0_ := Aside0.mk (below_step HB.out hb); have n1_ := Aside0.mk (blk_below BK1.out hb); have n2_ := Aside0.mk (blk_below BK2.out hb); clear HB BK1 BK2 hb; have HB := n0_; have BK1 := n1_; have BK2 := n2_; clear n0_ n1_ n2_)
    | (go_at_call 67; (with_reducible refine (h69.out _ g1 BK1.out).mono ?_); rintro e w4 ⟨rfl, hb⟩; have n0_ := Aside0.mk (below_step HB.out hb); have n1_ := Aside0.mk (blk_below BK1.out hb); have n2_ := Aside0.mk (blk_below BK2.out hb); clear HB BK1 BK2 hb; have HB := n0_; have BK1 := n1_; have BK2 := n2_; clear n0_ n1_ n2_; have hz0 : w4.cell? ⟨g2, 0, none⟩ = some (.int .i64 0) := (blk_cell BK2.out 0).trans rfl; have hz1 : w4.cell? ⟨g2, 1, none⟩ = some (.int .i64 0) := (blk_cell BK2.out 1).trans rfl; have hf0 := blk_frozen BK2.out 0; have hf1 := blk_frozen BK2.out 1))
  refine bodyPost_ret (results_cell_row rfl _ _ g2 28 #[.int .i64 p1, .int .i64 q2] (0, 0) _ rfl (by refine blk_put (cs := #[.int .i64 p1, .int .i64 0]) ?_ 1 _ rfl; refine blk_put (cs := #[.int .i64 0, .int .i64 0]) ?_ 0 _ rfl; exact BK2.out) Try.underlying28 rfl (by kernel_rfl)) rfl ?_
  exact ⟨rfl, below_set (below_set HB.out GE2.out) GE2.out⟩

set_option maxHeartbeats 8000000 in
set_option maxRecDepth 100000 in
theorem impl_SineBack.calls_no (num : Int) (hp : impl_isPart.f num = some false) (w : World) :
    Calls Try.prog 23 #[.int .i64 num] w fun e w' => e = .returned (.tuple #[.agg #[.int .i64 0, .int .i64 0], .bool false]) ∧ Below w.heap.size w w' := by
  have hu28 := Try.underlying28
  have hP := Aside0.mk hp
  clear hp
  have HB := Aside0.mk (Below.refl w.heap.size w)
  go_enter Try.func23, Try.ntmps23
  go_wp2_with (first | ((with_reducible refine gate_dst (N := 2) rfl ?_); refine box_event ?hg (N := 2) ?hd (cs := #[.int .i64 0, .int .i64 0]) (t := 28) ?hr ?_; (case hd => rfl); (case hg => rfl); (case hr => first | (go_simp; done) | (go_simp; rfl)); intro g1 hg w1 hbox hb; have n0_ := Aside0.mk (below_step (by repeat (first | exact HB.out | apply below_alloc | apply pw_below_drewN | apply below_drew1 | exact below_set ?_ GEg1.out)) hb); have n1_ := Aside0.mk hbox; have n2_ : Aside0 (w.heap.size ≤ g1) := ⟨by rw [hg]; exact below_size (by repeat (first | exact HB.out | apply below_alloc | apply pw_below_drewN | apply below_drew1))⟩; clear HB hb hbox hg; have HB := n0_; have BKg1 := n1_; have GEg1 := n2_; clear n0_ n1_ n2_) | (go_at_call 42; (with_reducible refine (impl_isPart.calls num false _ hP.out).mono ?_); rintro e w' ⟨rfl, ⟨nd, rfl⟩⟩; have n0_ := Aside0.mk (pw_below_drewN HB.out nd); have n1_ := Aside0.mk (blk_drewN BKg1.out nd); clear HB BKg1; have HB := n0_; have BKg1 := n1_; clear n0_ n1_; have hz0 := (blk_cell BKg1.out 0).trans (show _ = some (Value.int .i64 0) from rfl); have hz1 := (blk_cell BKg1.out 1).trans (show _ = some (Value.int .i64 0) from rfl); have hf0 := blk_frozen BKg1.out 0; have hf1 := blk_frozen BKg1.out 1))
  refine bodyPost_ret (results_ct rfl _ _ g1 28 #[.int .i64 0, .int .i64 0] (0, 0) _ rfl (by refine blk_put (cs := #[.int .i64 0, .int .i64 0]) ?_ 1 _ rfl; refine blk_put (cs := #[.int .i64 0, .int .i64 0]) ?_ 0 _ rfl; exact BKg1.out) Try.underlying28 rfl (by kernel_rfl)) rfl ?_
  exact ⟨rfl, below_set (below_set HB.out GEg1.out) GEg1.out⟩

set_option maxHeartbeats 8000000 in
set_option maxRecDepth 100000 in
theorem impl_SineBack.calls_yes (num p q : Int) (hp : impl_isPart.f num = some true) (hS : ∀ w : World, Calls Try.prog 43 #[.int .i64 num] w fun e w' => e = .returned (.agg #[.int .i64 p, .int .i64 q]) ∧ Below w.heap.size w w') (w : World) :
    Calls Try.prog 23 #[.int .i64 num] w fun e w' => e = .returned (.tuple #[.agg #[.int .i64 p, .int .i64 q], .bool true]) ∧ Below w.heap.size w w' := by
  have hu28 := Try.underlying28
  have hP := Aside0.mk hp
  clear hp
  have hS := Aside0.mk hS
  have HB := Aside0.mk (Below.refl w.heap.size w)
  go_enter Try.func23, Try.ntmps23
  go_wp2_with (first | ((with_reducible refine gate_dst (N := 2) rfl ?_); refine box_event ?hg (N := 2) ?hd (cs := #[.int .i64 0, .int .i64 0]) (t := 28) ?hr ?_; (case hd => rfl); (case hg => rfl); (case hr => first | (go_simp; done) | (go_simp; rfl)); intro g1 hg w1 hbox hb; have n0_ := Aside0.mk (below_step (by repeat (first | exact HB.out | apply below_alloc | apply pw_below_drewN | apply below_drew1 | exact below_set ?_ GEg1.out)) hb); have n1_ := Aside0.mk hbox; have n2_ : Aside0 (w.heap.size ≤ g1) := ⟨by rw [hg]; exact below_size (by repeat (first | exact HB.out | apply below_alloc | apply pw_below_drewN | apply below_drew1))⟩; clear HB hb hbox hg; have HB := n0_; have BKg1 := n1_; have GEg1 := n2_; clear n0_ n1_ n2_) | (go_at_call 42; (with_reducible refine (impl_isPart.calls num true _ hP.out).mono ?_); rintro e w' ⟨rfl, ⟨nd, rfl⟩⟩; have n0_ := Aside0.mk (pw_below_drewN HB.out nd); have n1_ := Aside0.mk (blk_drewN BKg1.out nd); clear HB BKg1; have HB := n0_; have BKg1 := n1_; clear n0_ n1_) | (go_at_call 43; (with_reducible refine (hS.out _).mono ?_); rintro e w3 ⟨rfl, hb⟩; have n0_ := Aside0.mk (below_step HB.out hb); have n1_ := Aside0.mk (blk_below BKg1.out hb); clear HB BKg1 hb; have HB := n0_; have BKg1 := n1_; clear n0_ n1_; have hz0 := (blk_cell BKg1.out 0).trans (show _ = some (Value.int .i64 0) from rfl); have hz1 := (blk_cell BKg1.out 1).trans (show _ = some (Value.int .i64 0) from rfl); have hf0 := blk_frozen BKg1.out 0; have hf1 := blk_frozen BKg1.out 1))
  refine bodyPost_ret (results_ct rfl _ _ g1 28 #[.int .i64 p, .int .i64 q] (0, 0) _ rfl (by refine blk_put (cs := #[.int .i64 p, .int .i64 0]) ?_ 1 _ rfl; refine blk_put (cs := #[.int .i64 0, .int .i64 0]) ?_ 0 _ rfl; exact BKg1.out) Try.underlying28 rfl (by kernel_rfl)) rfl ?_
  exact ⟨rfl, below_set (below_set HB.out GEg1.out) GEg1.out⟩

set_option maxHeartbeats 8000000 in
set_option maxRecDepth 100000 in
theorem impl_CosBack.calls_no (num : Int) (hp : impl_isPart.f num = some false) (w : World) :
    Calls Try.prog 26 #[.int .i64 num] w fun e w' => e = .returned (.tuple #[.agg #[.int .i64 0, .int .i64 0], .bool false]) ∧ Below w.heap.size w w' := by
  have hu28 := Try.underlying28
  have hP := Aside0.mk hp
  clear hp
  have HB := Aside0.mk (Below.refl w.heap.size w)
  go_enter Try.func26, Try.ntmps26
  go_wp2_with (first | ((with_reducible refine gate_dst (N := 2) rfl ?_); refine box_event ?hg (N := 2) ?hd (cs := #[.int .i64 0, .int .i64 0]) (t := 28) ?hr ?_; (case hd => rfl); (case hg => rfl); (case hr => first | (go_simp; done) | (go_simp; rfl)); intro g1 hg w1 hbox hb; have n0_ := Aside0.mk (below_step (by repeat (first | exact HB.out | apply below_alloc | apply pw_below_drewN | apply below_drew1 | exact below_set ?_ GEg1.out)) hb); have n1_ := Aside0.mk hbox; have n2_ : Aside0 (w.heap.size ≤ g1) := ⟨by rw [hg]; exact below_size (by repeat (first | exact HB.out | apply below_alloc | apply pw_below_drewN | apply below_drew1))⟩; clear HB hb hbox hg; have HB := n0_; have BKg1 := n1_; have GEg1 := n2_; clear n0_ n1_ n2_) | (go_at_call 42; (with_reducible refine (impl_isPart.calls num false _ hP.out).mono ?_); rintro e w' ⟨rfl, ⟨nd, rfl⟩⟩; have n0_ := Aside0.mk (pw_below_drewN HB.out nd); have n1_ := Aside0.mk (blk_drewN BKg1.out nd); clear HB BKg1; have HB := n0_; have BKg1 := n1_; clear n0_ n1_; have hz0 := (blk_cell BKg1.out 0).trans (show _ = some (Value.int .i64 0) from rfl); have hz1 := (blk_cell BKg1.out 1).trans (show _ = some (Value.int .i64 0) from rfl); have hf0 := blk_frozen BKg1.out 0; have hf1 := blk_frozen BKg1.out 1))
  refine bodyPost_ret (results_ct rfl _ _ g1 28 #[.int .i64 0, .int .i64 0] (0, 0) _ rfl (by refine blk_put (cs := #[.int .i64 0, .int .i64 0]) ?_ 1 _ rfl; refine blk_put (cs := #[.int .i64 0, .int .i64 0]) ?_ 0 _ rfl; exact BKg1.out) Try.underlying28 rfl (by kernel_rfl)) rfl ?_
  exact ⟨rfl, below_set (below_set HB.out GEg1.out) GEg1.out⟩

set_option maxHeartbeats 8000000 in
set_option maxRecDepth 100000 in
theorem impl_CosBack.calls_yes (num p q : Int) (hp : impl_isPart.f num = some true) (hS : ∀ w : World, Calls Try.prog 43 #[.int .i64 num] w fun e w' => e = .returned (.agg #[.int .i64 p, .int .i64 q]) ∧ Below w.heap.size w w') (w : World) :
    Calls Try.prog 26 #[.int .i64 num] w fun e w' => e = .returned (.tuple #[.agg #[.int .i64 (wrap64 (32400000 - q)), .int .i64 (wrap64 (32400000 - p))], .bool true]) ∧ Below w.heap.size w w' := by
  have hu28 := Try.underlying28
  have hP := Aside0.mk hp
  clear hp
  have hS := Aside0.mk hS
  have HB := Aside0.mk (Below.refl w.heap.size w)
  go_enter Try.func26, Try.ntmps26
  go_wp2_with (first | ((with_reducible refine gate_dst (N := 2) rfl ?_); refine box_event ?hg (N := 2) ?hd (cs := #[.int .i64 0, .int .i64 0]) (t := 28) ?hr ?_; (case hd => rfl); (case hg => rfl); (case hr => first | (go_simp; done) | (go_simp; rfl)); intro g1 hg w1 hbox hb; have n0_ := Aside0.mk (below_step (by repeat (first | exact HB.out | apply below_alloc | apply pw_below_drewN | apply below_drew1 | exact below_set ?_ GEg1.out)) hb); have n1_ := Aside0.mk hbox; have n2_ : Aside0 (w.heap.size ≤ g1) := ⟨by rw [hg]; exact below_size (by repeat (first | exact HB.out | apply below_alloc | apply pw_below_drewN | apply below_drew1))⟩; clear HB hb hbox hg; have HB := n0_; have BKg1 := n1_; have GEg1 := n2_; clear n0_ n1_ n2_) | (go_at_call 42; (with_reducible refine (impl_isPart.calls num true _ hP.out).mono ?_); rintro e w' ⟨rfl, ⟨nd, rfl⟩⟩; have n0_ := Aside0.mk (pw_below_drewN HB.out nd); have n1_ := Aside0.mk (blk_drewN BKg1.out nd); clear HB BKg1; have HB := n0_; have BKg1 := n1_; clear n0_ n1_) | (go_at_call 43; (with_reducible refine (hS.out _).mono ?_); rintro e w3 ⟨rfl, hb⟩; have n0_ := Aside0.mk (below_step HB.out hb); have n1_ := Aside0.mk (blk_below BKg1.out hb); clear HB BKg1 hb; have HB := n0_; have BKg1 := n1_; clear n0_ n1_) | ((with_reducible refine gate_dst (N := 4) rfl ?_); refine box_event ?hg (N := 4) ?hd (cs := #[.int .i64 0, .int .i64 0]) (t := 28) ?hr ?_; (case hd => rfl); (case hg => rfl); (case hr => first | (go_simp; done) | (go_simp; rfl)); intro g2 hg w2 hbox hb; have n0_ := Aside0.mk (below_step (by repeat (first | exact HB.out | apply below_alloc | apply pw_below_drewN | apply below_drew1 | exact below_set ?_ GEg2.out)) hb); have n1_ := Aside0.mk hbox; have n2_ : Aside0 (w.heap.size ≤ g2) := ⟨by rw [hg]; exact below_size (by repeat (first | exact HB.out | apply below_alloc | apply pw_below_drewN | apply below_drew1))⟩; have n3_ := Aside0.mk (blk_below BKg1.out hb); have n4_ : Aside0 (g1 ≠ g2) := ⟨by rw [hg]; exact Nat.ne_of_lt (blk_lt BKg1.out)⟩; clear HB hb hbox hg BKg1; have HB := n0_; have BKg2 := n1_; have GEg2 := n2_; have BKg1 := n3_; have NEg1_g2 := n4_; clear n0_ n1_ n2_ n3_ n4_; have hnb := NEg1_g2.out; have hnc := NEg1_g2.out.symm; have hz0 := (blk_cell BKg1.out 0).trans (show _ = some (Value.int .i64 0) from rfl); have hz1 := (blk_cell BKg1.out 1).trans (show _ = some (Value.int .i64 0) from rfl); have hf0 := blk_frozen BKg1.out 0; have hf1 := blk_frozen BKg1.out 1; have hy0 := (blk_cell BKg2.out 0).trans (show _ = some (Value.int .i64 0) from rfl); have hy1 := (blk_cell BKg2.out 1).trans (show _ = some (Value.int .i64 0) from rfl); have hh0 := blk_frozen BKg2.out 0; have hh1 := blk_frozen BKg2.out 1))
  refine bodyPost_ret (results_ct rfl _ _ g1 28 #[.int .i64 (wrap64 (32400000 - q)), .int .i64 (wrap64 (32400000 - p))] (0, 0) _ rfl (by refine blk_put (cs := #[.int .i64 (wrap64 (32400000 - q)), .int .i64 0]) ?_ 1 _ rfl; refine blk_put (cs := #[.int .i64 0, .int .i64 0]) ?_ 0 _ rfl; refine blk_far ?_ NEg1_g2.out _; refine blk_far ?_ NEg1_g2.out _; exact BKg1.out) Try.underlying28 rfl (by kernel_rfl)) rfl ?_
  exact ⟨rfl, below_set (below_set (below_set (below_set HB.out GEg2.out) GEg2.out) GEg1.out) GEg1.out⟩
end Go.Proofs.Ytmncignfkpkcjaa.S
