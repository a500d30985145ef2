/- Several texts of this session in one: X9, X10, X15, X16, X21, X22, X24. -/
import Derived.Test.YtgkbeejkbhhjkaaMFnExactQueueAt0
import Derived.Test.YtgkbeejkbhhjkaaMFnExactQueueAt1
import Derived.Test.YtgkbeejkbhhjkaaMFnExactQueueAt2
/- What the functions of the program come to, and that they do: written by this session's program wip/xprint.py out of the translation; parts named extern are typed by hand. -/
namespace Go.Proofs.Ytgkbeejkbhhjkaa.X
open Go.RowKit Go.Proofs.YtgkbeejkbhhjkaaW.PrintWords Go.Proofs.YtgkbeejkbhhjkaaW.PrintLast Go.Proofs.YtgkbeejkbhhjkaaW.PrintMore
attribute [local go_sem] max2_int min2_int max_two min_two max_three min_three max_four min_four   -- for this text's walks alone
set_option linter.unusedVariables false
set_option linter.unusedSimpArgs false

/-! ### laws_eqMessage: function 53 -/
def laws_eqMessage.f (a0_0 : Int) (a0_1 : Int) (a0_2 : Int) (a1_0 : Int) (a1_1 : Int) (a1_2 : Int) : Option (Bool) := if a0_0 = a1_0 then (if a0_1 = a1_1 then (if a0_2 = a1_2 then (some true) else (some false)) else (some false)) else (some false)
set_option maxHeartbeats 8000000 in
set_option maxRecDepth 100000 in
theorem laws_eqMessage.calls (a0_0 : Int) (a0_1 : Int) (a0_2 : Int) (a1_0 : Int) (a1_1 : Int) (a1_2 : Int) (r : Bool) (w : World) (h : laws_eqMessage.f a0_0 a0_1 a0_2 a1_0 a1_1 a1_2 = some r) :
    Calls Try.prog 53 #[.agg #[.int .i64 a0_0, .int .i64 a0_1, .int .i64 a0_2], .agg #[.int .i64 a1_0, .int .i64 a1_1, .int .i64 a1_2]] w fun e w' => e = .returned (.bool r) ∧ Below w.heap.size w w' := by
  have hu30 := Try.underlying30
  have HB := Aside0.mk (Below.refl w.heap.size w)
  have H : (if a0_0 = a1_0 then (if a0_1 = a1_1 then (if a0_2 = a1_2 then (some true) else (some false)) else (some false)) else (some false)) = some r := h
  clear h
  by_cases c3 : a0_0 = a1_0
  · rw [if_pos c3] at H
    have c3b0 : (a0_0 == a1_0) = true := beq_iff_eq.mpr c3
    have c3b1 : (a0_0 != a1_0) = false := bne_eq_false_iff_eq.mpr c3
    clear c3
    by_cases c4 : a0_1 = a1_1
    · rw [if_pos c4] at H
      have c4b0 : (a0_1 == a1_1) = true := beq_iff_eq.mpr c4
      have c4b1 : (a0_1 != a1_1) = false := bne_eq_false_iff_eq.mpr c4
      clear c4
      by_cases c5 : a0_2 = a1_2
      · rw [if_pos c5] at H
        have c5b0 : (a0_2 == a1_2) = true := beq_iff_eq.mpr c5
        have c5b1 : (a0_2 != a1_2) = false := bne_eq_false_iff_eq.mpr c5
        clear c5
        obtain rfl := Option.some.inj H
        go_enter Try.func53, Try.ntmps53
        go_wp2_with (first | ((with_reducible refine gate_dst (N := 2) rfl ?_); refine box_event ?hg (N := 2) ?hd (cs := #[.int .i64 a0_0, .int .i64 a0_1, .int .i64 a0_2]) (t := 30) ?hr ?_; (case hd => rfl); (case hg => rfl); (case hr => first | (go_simp; done) | (go_simp; rfl)); intro gb176 hg w6 hbox hb; have n0_ := Aside0.mk (below_step (by repeat (first | (with_reducible first | exact HB.out | apply below_alloc | apply pw_below_drewN | apply below_drew1) | exact HB.out)) hb); have n1_ := Aside0.mk (hbox); have n2_ := Aside0.mk ((by rw [hg]; exact (below_size (by repeat (first | (with_reducible first | exact HB.out | apply below_alloc | apply pw_below_drewN | apply below_drew1) | exact HB.out))) : w.heap.size ≤ gb176)); have n3_ := Aside0.mk ((by rw [hg]; exact (below_size (by repeat (first | (with_reducible first | exact HB.out | apply below_alloc | apply pw_below_drewN | apply below_drew1) | exact HB.out))) : w.heap.size ≤ gb176)); clear HB; have HB := n0_; have BK176 := n1_; have GW176 := n2_; have GE176 := n3_; clear n0_ n1_ n2_ n3_; clear hb hbox hg) | ((with_reducible refine gate_dst (N := 3) rfl ?_); refine box_event ?hg (N := 3) ?hd (cs := #[.int .i64 a1_0, .int .i64 a1_1, .int .i64 a1_2]) (t := 30) ?hr ?_; (case hd => rfl); (case hg => rfl); (case hr => first | (go_simp; done) | (go_simp; rfl)); intro gb177 hg w7 hbox hb; have n0_ := Aside0.mk (blk_below (g := gb176) (o := .cells #[.int .i64 a0_0, .int .i64 a0_1, .int .i64 a0_2] 30 (0, 0)) (by (with_reducible repeat (first | refine blk_drewN ?_ _ | refine blk_drew ?_ | refine blk_alloc ?_ _)); exact BK176.out) hb); have n1_ := Aside0.mk (below_step (by repeat (first | (with_reducible first | exact HB.out | apply below_alloc | apply pw_below_drewN | apply below_drew1 | refine below_set ?_ GE176.out) | exact HB.out)) hb); have n2_ := Aside0.mk (hbox); have n3_ := Aside0.mk ((by rw [hg]; exact (below_size (by repeat (first | (with_reducible first | exact HB.out | apply below_alloc | apply pw_below_drewN | apply below_drew1 | refine below_set ?_ GE176.out) | exact HB.out))) : w.heap.size ≤ gb177)); have n4_ := Aside0.mk ((by rw [hg]; exact (below_size (by repeat (first | (with_reducible first | exact HB.out | apply below_alloc | apply pw_below_drewN | apply below_drew1 | refine below_set ?_ GE176.out) | exact HB.out))) : w.heap.size ≤ gb177)); have n5_ := Aside0.mk ((by rw [hg]; exact Nat.ne_of_lt (blk_lt (g := gb176) (o := .cells #[.int .i64 a0_0, .int .i64 a0_1, .int .i64 a0_2] 30 (0, 0)) (by (with_reducible repeat (first | refine blk_drewN ?_ _ | refine blk_drew ?_ | refine blk_alloc ?_ _)); exact BK176.out)) : gb176 ≠ gb177)); have n6_ := Aside0.mk ((by rw [hg]; exact Nat.ne_of_gt (blk_lt (g := gb176) (o := .cells #[.int .i64 a0_0, .int .i64 a0_1, .int .i64 a0_2] 30 (0, 0)) (by (with_reducible repeat (first | refine blk_drewN ?_ _ | refine blk_drew ?_ | refine blk_alloc ?_ _)); exact BK176.out)) : gb177 ≠ gb176)); clear BK176; clear HB; have BK176 := n0_; have HB := n1_; have BK177 := n2_; have GW177 := n3_; have GE177 := n4_; have NB176_177 := n5_; have NB177_176 := n6_; clear n0_ n1_ n2_ n3_ n4_ n5_ n6_; clear hb hbox hg; have hnb8 := NB176_177.out; have hnc8 := NB177_176.out; have hcz9_0 : w7.cell? ⟨gb176, 0, none⟩ = some (.int .i64 a0_0) := (blk_cell BK176.out 0).trans rfl; have hcz9_1 : w7.cell? ⟨gb176, 1, none⟩ = some (.int .i64 a0_1) := (blk_cell BK176.out 1).trans rfl; have hcz9_2 : w7.cell? ⟨gb176, 2, none⟩ = some (.int .i64 a0_2) := (blk_cell BK176.out 2).trans rfl; have hfz9_0 := blk_frozen BK176.out 0; have hfz9_1 := blk_frozen BK176.out 1; have hfz9_2 := blk_frozen BK176.out 2; have hcz10_0 : w7.cell? ⟨gb177, 0, none⟩ = some (.int .i64 a1_0) := (blk_cell BK177.out 0).trans rfl; have hcz10_1 : w7.cell? ⟨gb177, 1, none⟩ = some (.int .i64 a1_1) := (blk_cell BK177.out 1).trans rfl; have hcz10_2 : w7.cell? ⟨gb177, 2, none⟩ = some (.int .i64 a1_2) := (blk_cell BK177.out 2).trans rfl; have hfz10_0 := blk_frozen BK177.out 0; have hfz10_1 := blk_frozen BK177.out 1; have hfz10_2 := blk_frozen BK177.out 2))
        go_ret
        exact ⟨by first | rfl | (simp [errW_none, errW_some] <;> rfl) | (simp [*, errW_none, errW_some] <;> rfl), by repeat (first | (with_reducible first | exact HB.out | apply below_alloc | apply pw_below_drewN | apply below_drew1 | refine below_set ?_ GE176.out | refine below_set ?_ GE177.out) | exact HB.out)⟩
      · rw [if_neg c5] at H
        have c5b0 : (a0_2 == a1_2) = false := beq_eq_false_iff_ne.mpr c5
        have c5b1 : (a0_2 != a1_2) = true := bne_iff_ne.mpr c5
        obtain rfl := Option.some.inj H
        go_enter Try.func53, Try.ntmps53
        go_wp2_with (first | ((with_reducible refine gate_dst (N := 2) rfl ?_); refine box_event ?hg (N := 2) ?hd (cs := #[.int .i64 a0_0, .int .i64 a0_1, .int .i64 a0_2]) (t := 30) ?hr ?_; (case hd => rfl); (case hg => rfl); (case hr => first | (go_simp; done) | (go_simp; rfl)); intro gb176 hg w11 hbox hb; have n0_ := Aside0.mk (below_step (by repeat (first | (with_reducible first | exact HB.out | apply below_alloc | apply pw_below_drewN | apply below_drew1) | exact HB.out)) hb); have n1_ := Aside0.mk (hbox); have n2_ := Aside0.mk ((by rw [hg]; exact (below_size (by repeat (first | (with_reducible first | exact HB.out | apply below_alloc | apply pw_below_drewN | apply below_drew1) | exact HB.out))) : w.heap.size ≤ gb176)); have n3_ := Aside0.mk ((by rw [hg]; exact (below_size (by repeat (first | (with_reducible first | exact HB.out | apply below_alloc | apply pw_below_drewN | apply below_drew1) | exact HB.out))) : w.heap.size ≤ gb176)); clear HB; have HB := n0_; have BK176 := n1_; have GW176 := n2_; have GE176 := n3_; clear n0_ n1_ n2_ n3_; clear hb hbox hg) | ((with_reducible refine gate_dst (N := 3) rfl ?_); refine box_event ?hg (N := 3) ?hd (cs := #[.int .i64 a1_0, .int .i64 a1_1, .int .i64 a1_2]) (t := 30) ?hr ?_; (case hd => rfl); (case hg => rfl); (case hr => first | (go_simp; done) | (go_simp; rfl)); intro gb177 hg w12 hbox hb; have n0_ := Aside0.mk (blk_below (g := gb176) (o := .cells #[.int .i64 a0_0, .int .i64 a0_1, .int .i64 a0_2] 30 (0, 0)) (by (with_reducible repeat (first | refine blk_drewN ?_ _ | refine blk_drew ?_ | refine blk_alloc ?_ _)); exact BK176.out) hb); have n1_ := Aside0.mk (below_step (by repeat (first | (with_reducible first | exact HB.out | apply below_alloc | apply pw_below_drewN | apply below_drew1 | refine below_set ?_ GE176.out) | exact HB.out)) hb); have n2_ := Aside0.mk (hbox); have n3_ := Aside0.mk ((by rw [hg]; exact (below_size (by repeat (first | (with_reducible first | exact HB.out | apply below_alloc | apply pw_below_drewN | apply below_drew1 | refine below_set ?_ GE176.out) | exact HB.out))) : w.heap.size ≤ gb177)); have n4_ := Aside0.mk ((by rw [hg]; exact (below_size (by repeat (first | (with_reducible first | exact HB.out | apply below_alloc | apply pw_below_drewN | apply below_drew1 | refine below_set ?_ GE176.out) | exact HB.out))) : w.heap.size ≤ gb177)); have n5_ := Aside0.mk ((by rw [hg]; exact Nat.ne_of_lt (blk_lt (g := gb176) (o := .cells #[.int .i64 a0_0, .int .i64 a0_1, .int .i64 a0_2] 30 (0, 0)) (by (with_reducible repeat (first | refine blk_drewN ?_ _ | refine blk_drew ?_ | refine blk_alloc ?_ _)); exact BK176.out)) : gb176 ≠ gb177)); have n6_ := Aside0.mk ((by rw [hg]; exact Nat.ne_of_gt (blk_lt (g := gb176) (o := .cells #[.int .i64 a0_0, .int .i64 a0_1, .int .i64 a0_2] 30 (0, 0)) (by (with_reducible repeat (first | refine blk_drewN ?_ _ | refine blk_drew ?_ | refine blk_alloc ?_ _)); exact BK176.out)) : gb177 ≠ gb176)); clear BK176; clear HB; have BK176 := n0_; have HB := n1_; have BK177 := n2_; have GW177 := n3_; have GE177 := n4_; have NB176_177 := n5_; have NB177_176 := n6_; clear n0_ n1_ n2_ n3_ n4_ n5_ n6_; clear hb hbox hg; have hnb13 := NB176_177.out; have hnc13 := NB177_176.out; have hcz14_0 : w12.cell? ⟨gb176, 0, none⟩ = some (.int .i64 a0_0) := (blk_cell BK176.out 0).trans rfl; have hcz14_1 : w12.cell? ⟨gb176, 1, none⟩ = some (.int .i64 a0_1) := (blk_cell BK176.out 1).trans rfl; have hcz14_2 : w12.cell? ⟨gb176, 2, none⟩ = some (.int .i64 a0_2) := (blk_cell BK176.out 2).trans rfl; have hfz14_0 := blk_frozen BK176.out 0; have hfz14_1 := blk_frozen BK176.out 1; have hfz14_2 := blk_frozen BK176.out 2; have hcz15_0 : w12.cell? ⟨gb177, 0, none⟩ = some (.int .i64 a1_0) := (blk_cell BK177.out 0).trans rfl; have hcz15_1 : w12.cell? ⟨gb177, 1, none⟩ = some (.int .i64 a1_1) := (blk_cell BK177.out 1).trans rfl; have hcz15_2 : w12.cell? ⟨gb177, 2, none⟩ = some (.int .i64 a1_2) := (blk_cell BK177.out 2).trans rfl; have hfz15_0 := blk_frozen BK177.out 0; have hfz15_1 := blk_frozen BK177.out 1; have hfz15_2 := blk_frozen BK177.out 2))
        go_ret
        exact ⟨by first | rfl | (simp [errW_none, errW_some] <;> rfl) | (simp [*, errW_none, errW_some] <;> rfl), by repeat (first | (with_reducible first | exact HB.out | apply below_alloc | apply pw_below_drewN | apply below_drew1 | refine below_set ?_ GE176.out | refine below_set ?_ GE177.out) | exact HB.out)⟩
    · rw [if_neg c4] at H
      have c4b0 : (a0_1 == a1_1) = false := beq_eq_false_iff_ne.mpr c4
      have c4b1 : (a0_1 != a1_1) = true := bne_iff_ne.mpr c4
      obtain rfl := Option.some.inj H
      go_enter Try.func53, Try.ntmps53
      go_wp2_with (first | ((with_reducible refine gate_dst (N := 2) rfl ?_); refine box_event ?hg (N := 2) ?hd (cs := #[.int .i64 a0_0, .int .i64 a0_1, .int .i64 a0_2]) (t := 30) ?hr ?_; (case hd => rfl); (case hg => rfl); (case hr => first | (go_simp; done) | (go_simp; rfl)); intro gb176 hg w16 hbox hb; have n0_ := Aside0.mk (below_step (by repeat (first | (with_reducible first | exact HB.out | apply below_alloc | apply pw_below_drewN | apply below_drew1) | exact HB.out)) hb); have n1_ := Aside0.mk (hbox); have n2_ := Aside0.mk ((by rw [hg]; exact (below_size (by repeat (first | (with_reducible first | exact HB.out | apply below_alloc | apply pw_below_drewN | apply below_drew1) | exact HB.out))) : w.heap.size ≤ gb176)); have n3_ := Aside0.mk ((by rw [hg]; exact (below_size (by repeat (first | (with_reducible first | exact HB.out | apply below_alloc | apply pw_below_drewN | apply below_drew1) | exact HB.out))) : w.heap.size ≤ gb176)); clear HB; have HB := n0_; have BK176 := n1_; have GW176 := n2_; have GE176 := n3_; clear n0_ n1_ n2_ n3_; clear hb hbox hg) | ((with_reducible refine gate_dst (N := 3) rfl ?_); refine box_event ?hg (N := 3) ?hd (cs := #[.int .i64 a1_0, .int .i64 a1_1, .int .i64 a1_2]) (t := 30) ?hr ?_; (case hd => rfl); (case hg => rfl); (case hr => first | (go_simp; done) | (go_simp; rfl)); intro gb177 hg w17 hbox hb; have n0_ := Aside0.mk (blk_below (g := gb176) (o := .cells #[.int .i64 a0_0, .int .i64 a0_1, .int .i64 a0_2] 30 (0, 0)) (by (with_reducible repeat (first | refine blk_drewN ?_ _ | refine blk_drew ?_ | refine blk_alloc ?_ _)); exact BK176.out) hb); have n1_ := Aside0.mk (below_step (by repeat (first | (with_reducible first | exact HB.out | apply below_alloc | apply pw_below_drewN | apply below_drew1 | refine below_set ?_ GE176.out) | exact HB.out)) hb); have n2_ := Aside0.mk (hbox); have n3_ := Aside0.mk ((by rw [hg]; exact (below_size (by repeat (first | (with_reducible first | exact HB.out | apply below_alloc | apply pw_below_drewN | apply below_drew1 | refine below_set ?_ GE176.out) | exact HB.out))) : w.heap.size ≤ gb177)); have n4_ := Aside0.mk ((by rw [hg]; exact (below_size (by repeat (first | (with_reducible first | exact HB.out | apply below_alloc | apply pw_below_drewN | apply below_drew1 | refine below_set ?_ GE176.out) | exact HB.out))) : w.heap.size ≤ gb177)); have n5_ := Aside0.mk ((by rw [hg]; exact Nat.ne_of_lt (blk_lt (g := gb176) (o := .cells #[.int .i64 a0_0, .int .i64 a0_1, .int .i64 a0_2] 30 (0, 0)) (by (with_reducible repeat (first | refine blk_drewN ?_ _ | refine blk_drew ?_ | refine blk_alloc ?_ _)); exact BK176.out)) : gb176 ≠ gb177)); have n6_ := Aside0.mk ((by rw [hg]; exact Nat.ne_of_gt (blk_lt (g := gb176) (o := .cells #[.int .i64 a0_0, .int .i64 a0_1, .int .i64 a0_2] 30 (0, 0)) (by (with_reducible repeat (first | refine blk_drewN ?_ _ | refine blk_drew ?_ | refine blk_alloc ?_ _)); exact BK176.out)) : gb177 ≠ gb176)); clear BK176; clear HB; have BK176 := n0_; have HB := n1_; have BK177 := n2_; have GW177 := n3_; have GE177 := n4_; have NB176_177 := n5_; have NB177_176 := n6_; clear n0_ n1_ n2_ n3_ n4_ n5_ n6_; clear hb hbox hg; have hnb18 := NB176_177.out; have hnc18 := NB177_176.out; have hcz19_0 : w17.cell? ⟨gb176, 0, none⟩ = some (.int .i64 a0_0) := (blk_cell BK176.out 0).trans rfl; have hcz19_1 : w17.cell? ⟨gb176, 1, none⟩ = some (.int .i64 a0_1) := (blk_cell BK176.out 1).trans rfl; have hcz19_2 : w17.cell? ⟨gb176, 2, none⟩ = some (.int .i64 a0_2) := (blk_cell BK176.out 2).trans rfl; have hfz19_0 := blk_frozen BK176.out 0; have hfz19_1 := blk_frozen BK176.out 1; have hfz19_2 := blk_frozen BK176.out 2; have hcz20_0 : w17.cell? ⟨gb177, 0, none⟩ = some (.int .i64 a1_0) := (blk_cell BK177.out 0).trans rfl; have hcz20_1 : w17.cell? ⟨gb177, 1, none⟩ = some (.int .i64 a1_1) := (blk_cell BK177.out 1).trans rfl; have hcz20_2 : w17.cell? ⟨gb177, 2, none⟩ = some (.int .i64 a1_2) := (blk_cell BK177.out 2).trans rfl; have hfz20_0 := blk_frozen BK177.out 0; have hfz20_1 := blk_frozen BK177.out 1; have hfz20_2 := blk_frozen BK177.out 2))
      go_ret
      exact ⟨by first | rfl | (simp [errW_none, errW_some] <;> rfl) | (simp [*, errW_none, errW_some] <;> rfl), by repeat (first | (with_reducible first | exact HB.out | apply below_alloc | apply pw_below_drewN | apply below_drew1 | refine below_set ?_ GE176.out | refine below_set ?_ GE177.out) | exact HB.out)⟩
  · rw [if_neg c3] at H
    have c3b0 : (a0_0 == a1_0) = false := beq_eq_false_iff_ne.mpr c3
    have c3b1 : (a0_0 != a1_0) = true := bne_iff_ne.mpr c3
    obtain rfl := Option.some.inj H
    go_enter Try.func53, Try.ntmps53
    go_wp2_with (first | ((with_reducible refine gate_dst (N := 2) rfl ?_); refine box_event ?hg (N := 2) ?hd (cs := #[.int .i64 a0_0, .int .i64 a0_1, .int .i64 a0_2]) (t := 30) ?hr ?_; (case hd => rfl); (case hg => rfl); (case hr => first | (go_simp; done) | (go_simp; rfl)); intro gb176 hg w21 hbox hb; have n0_ := Aside0.mk (below_step (by repeat (first | (with_reducible first | exact HB.out | apply below_alloc | apply pw_below_drewN | apply below_drew1) | exact HB.out)) hb); have n1_ := Aside0.mk (hbox); have n2_ := Aside0.mk ((by rw [hg]; exact (below_size (by repeat (first | (with_reducible first | exact HB.out | apply below_alloc | apply pw_below_drewN | apply below_drew1) | exact HB.out))) : w.heap.size ≤ gb176)); have n3_ := Aside0.mk ((by rw [hg]; exact (below_size (by repeat (first | (with_reducible first | exact HB.out | apply below_alloc | apply pw_below_drewN | apply below_drew1) | exact HB.out))) : w.heap.size ≤ gb176)); clear HB; have HB := n0_; have BK176 := n1_; have GW176 := n2_; have GE176 := n3_; clear n0_ n1_ n2_ n3_; clear hb hbox hg) | ((with_reducible refine gate_dst (N := 3) rfl ?_); refine box_event ?hg (N := 3) ?hd (cs := #[.int .i64 a1_0, .int .i64 a1_1, .int .i64 a1_2]) (t := 30) ?hr ?_; (case hd => rfl); (case hg => rfl); (case hr => first | (go_simp; done) | (go_simp; rfl)); intro gb177 hg w22 hbox hb; have n0_ := Aside0.mk (blk_below (g := gb176) (o := .cells #[.int .i64 a0_0, .int .i64 a0_1, .int .i64 a0_2] 30 (0, 0)) (by (with_reducible repeat (first | refine blk_drewN ?_ _ | refine blk_drew ?_ | refine blk_alloc ?_ _)); exact BK176.out) hb); have n1_ := Aside0.mk (below_step (by repeat (first | (with_reducible first | exact HB.out | apply below_alloc | apply pw_below_drewN | apply below_drew1 | refine below_set ?_ GE176.out) | exact HB.out)) hb); have n2_ := Aside0.mk (hbox); have n3_ := Aside0.mk ((by rw [hg]; exact (below_size (by repeat (first | (with_reducible first | exact HB.out | apply below_alloc | apply pw_below_drewN | apply below_drew1 | refine below_set ?_ GE176.out) | exact HB.out))) : w.heap.size ≤ gb177)); have n4_ := Aside0.mk ((by rw [hg]; exact (below_size (by repeat (first | (with_reducible first | exact HB.out | apply below_alloc | apply pw_below_drewN | apply below_drew1 | refine below_set ?_ GE176.out) | exact HB.out))) : w.heap.size ≤ gb177)); have n5_ := Aside0.mk ((by rw [hg]; exact Nat.ne_of_lt (blk_lt (g := gb176) (o := .cells #[.int .i64 a0_0, .int .i64 a0_1, .int .i64 a0_2] 30 (0, 0)) (by (with_reducible repeat (first | refine blk_drewN ?_ _ | refine blk_drew ?_ | refine blk_alloc ?_ _)); exact BK176.out)) : gb176 ≠ gb177)); have n6_ := Aside0.mk ((by rw [hg]; exact Nat.ne_of_gt (blk_lt (g := gb176) (o := .cells #[.int .i64 a0_0, .int .i64 a0_1, .int .i64 a0_2] 30 (0, 0)) (by (with_reducible repeat (first | refine blk_drewN ?_ _ | refine blk_drew ?_ | refine blk_alloc ?_ _)); exact BK176.out)) : gb177 ≠ gb176)); clear BK176; clear HB; have BK176 := n0_; have HB := n1_; have BK177 := n2_; have GW177 := n3_; have GE177 := n4_; have NB176_177 := n5_; have NB177_176 := n6_; clear n0_ n1_ n2_ n3_ n4_ n5_ n6_; clear hb hbox hg; have hnb23 := NB176_177.out; have hnc23 := NB177_176.out; have hcz24_0 : w22.cell? ⟨gb176, 0, none⟩ = some (.int .i64 a0_0) := (blk_cell BK176.out 0).trans rfl; have hcz24_1 : w22.cell? ⟨gb176, 1, none⟩ = some (.int .i64 a0_1) := (blk_cell BK176.out 1).trans rfl; have hcz24_2 : w22.cell? ⟨gb176, 2, none⟩ = some (.int .i64 a0_2) := (blk_cell BK176.out 2).trans rfl; have hfz24_0 := blk_frozen BK176.out 0; have hfz24_1 := blk_frozen BK176.out 1; have hfz24_2 := blk_frozen BK176.out 2; have hcz25_0 : w22.cell? ⟨gb177, 0, none⟩ = some (.int .i64 a1_0) := (blk_cell BK177.out 0).trans rfl; have hcz25_1 : w22.cell? ⟨gb177, 1, none⟩ = some (.int .i64 a1_1) := (blk_cell BK177.out 1).trans rfl; have hcz25_2 : w22.cell? ⟨gb177, 2, none⟩ = some (.int .i64 a1_2) := (blk_cell BK177.out 2).trans rfl; have hfz25_0 := blk_frozen BK177.out 0; have hfz25_1 := blk_frozen BK177.out 1; have hfz25_2 := blk_frozen BK177.out 2))
    go_ret
    exact ⟨by first | rfl | (simp [errW_none, errW_some] <;> rfl) | (simp [*, errW_none, errW_some] <;> rfl), by repeat (first | (with_reducible first | exact HB.out | apply below_alloc | apply pw_below_drewN | apply below_drew1 | refine below_set ?_ GE176.out | refine below_set ?_ GE177.out) | exact HB.out)⟩

end Go.Proofs.Ytgkbeejkbhhjkaa.X

/- What the functions of the program come to, and that they do: written by this session's program wip/xprint.py out of the translation; parts named extern are typed by hand. -/
namespace Go.Proofs.Ytgkbeejkbhhjkaa.X
open Go.RowKit Go.Proofs.YtgkbeejkbhhjkaaW.PrintWords Go.Proofs.YtgkbeejkbhhjkaaW.PrintLast Go.Proofs.YtgkbeejkbhhjkaaW.PrintMore
attribute [local go_sem] max2_int min2_int max_two min_two max_three min_three max_four min_four   -- for this text's walks alone
set_option linter.unusedVariables false
set_option linter.unusedSimpArgs false

/-! ### laws_eqMessageS: function 22 -/
def laws_eqMessageS.l0 : Nat → List (S30) → List (S30) → Int → Option (Bool)
  | 0, _, _, _ => none
  | k + 1, x0, x1, x5 => if x5 < (x0.length : Int) then (if 0 ≤ x5 then (if x5 < (x1.length : Int) then ((laws_eqMessage.f ((rd_T30 x0 x5).f0) ((rd_T30 x0 x5).f1) ((rd_T30 x0 x5).f2) ((rd_T30 x1 x5).f0) ((rd_T30 x1 x5).f1) ((rd_T30 x1 x5).f2)).bind fun t180 => (if t180 = true then (laws_eqMessageS.l0 k x0 x1 (wrap64 (x5 + 1))) else (some false))) else (none)) else (none)) else (some true)
def laws_eqMessageS.f (k : Nat) (l0 : List (S30)) (l1 : List (S30)) : Option (Bool) := if (l0.length : Int) = (l1.length : Int) then (laws_eqMessageS.l0 k l0 l1 0) else (some false)
def laws_eqMessageS.T6 : Bool × List (List Nat × List Nat) := (true, [([], []), ([], []), ([0, 1], [0, 1]), ([2], [2]), ([], []), ([], []), ([4, 5], [4, 5]), ([6], [6]), ([3, 7], [3, 7]), ([8], [8])])
def laws_eqMessageS.B6 : List Nat := [0, 0, 3, 7, 0, 0, 48, 112, 255, 511]
theorem laws_eqMessageS.tab6 : rtab .any (opsOf Try.f22 6) = laws_eqMessageS.T6 := by kernel_rfl
theorem laws_eqMessageS.bits6 : waitsOk laws_eqMessageS.T6.2 laws_eqMessageS.B6 = true := by kernel_rfl
set_option maxHeartbeats 8000000 in
set_option maxRecDepth 100000 in
theorem laws_eqMessageS.calls (k : Nat) (A0 : Option Addr) (c0 : Nat) (l0 : List (S30)) (A1 : Option Addr) (c1 : Nat) (l1 : List (S30)) (r : Bool) (w : World) (hr0 : Kd.C k30 w A0 l0.length l0) (hc0 : l0.length ≤ c0) (hr1 : Kd.C k30 w A1 l1.length l1) (hc1 : l1.length ≤ c1) (h : laws_eqMessageS.f k l0 l1 = some r) :
    Calls Try.prog 22 #[.slice A0 l0.length c0, .slice A1 l1.length c1] w fun e w' => e = .returned (.bool r) ∧ Below w.heap.size w w' := by
  have hu30 := Try.underlying30
  have HR0 := Aside0.mk hr0
  have HC0 := Aside0.mk hc0
  clear hr0 hc0
  have HR1 := Aside0.mk hr1
  have HC1 := Aside0.mk hc1
  clear hr1 hc1
  have HB := Aside0.mk (Below.refl w.heap.size w)
  have H : (if (l0.length : Int) = (l1.length : Int) then (laws_eqMessageS.l0 k l0 l1 0) else (some false)) = some r := h
  clear h
  by_cases c3 : (l0.length : Int) = (l1.length : Int)
  · rw [if_pos c3] at H
    have c3b0 : ((l0.length : Int) == (l1.length : Int)) = true := beq_iff_eq.mpr c3
    have c3b1 : ((l0.length : Int) != (l1.length : Int)) = false := bne_eq_false_iff_eq.mpr c3
    have c3b2 : (l0.length == l1.length) = true := by first | simpa using c3 | (simp at c3 ⊢; omega)
    clear c3
    have H' := Aside0.mk H
    clear H
    go_enter Try.func22, Try.ntmps22
    go_wp2
    go_loopg [5] k (fun kq v5 w' => ∃ (x5_1 : Int), v5 = .int .i64 x5_1 ∧ Aside0 (laws_eqMessageS.l0 kq l0 l1 x5_1 = some r) ∧ Aside0 (kq ≤ k) ∧ Aside0 (Below w.heap.size w w'))
    case atStart => exact ⟨(0), (by first | rfl | (simp; done) | (simp [*]; done)), H', ⟨Nat.le_refl _⟩, ⟨by repeat (first | (with_reducible first | exact HB.out | apply below_alloc | apply pw_below_drewN | apply below_drew1) | exact HB.out)⟩⟩
    case round =>
      clear H'
      try clear c1
      try clear c2
      try clear p2
      try clear c3
      try clear c3b0
      try clear c3b1
      try clear c3b2
      obtain ⟨x5_1, rfl, HA, HK1, HB⟩ := hrel
      cases gk with
      | zero => exact absurd HA.out (by simp [laws_eqMessageS.l0])
      | succ k1 =>
        have H := HA.out
        clear HA
        simp only [laws_eqMessageS.l0] at H
        by_cases c4 : x5_1 < (l0.length : Int)
        · rw [if_pos c4] at H
          have c4b0 : decide (x5_1 < (l0.length : Int)) = true := decide_eq_true c4
          clear c4
          by_cases c5 : 0 ≤ x5_1
          · rw [if_pos c5] at H
            have c5b0 : decide (0 ≤ x5_1) = true := decide_eq_true c5
            clear c5
            by_cases c6 : x5_1 < (l1.length : Int)
            · rw [if_pos c6] at H
              have c6b0 : decide (x5_1 < (l1.length : Int)) = true := decide_eq_true c6
              clear c6
              replace H := Option.bind_eq_some_iff.mp H
              obtain ⟨t180, A70, H⟩ := H
              replace H : (if t180 = true then (laws_eqMessageS.l0 k1 l0 l1 (wrap64 (x5_1 + 1))) else (some false)) = some r := H
              have A7 := Aside0.mk A70
              clear A70
              by_cases c8 : t180 = true
              · subst c8
                have H1 : (laws_eqMessageS.l0 k1 l0 l1 (wrap64 (x5_1 + 1))) = some r := by rw [if_pos rfl] at H; exact H
                clear H
                have H := H1
                clear H1
                have H' := Aside0.mk H
                clear H
                try go_wp2
                have n0_ := Aside0.mk (below_drew1 HB.out)
                clear HB
                have HB := n0_
                clear n0_
                have p178 : 0 ≤ (x5_1 : Int) := of_decide_eq_true (by first | (with_reducible assumption) | assumption)
                have q178 : x5_1 < (l0.length : Int) := of_decide_eq_true (by first | (with_reducible assumption) | assumption)
                obtain ⟨ad178, e178, hx178_0, hx178_1, hx178_2⟩ := at_T30 HR0.out x5_1 p178 q178
                have hw178_2 := hx178_2
                have hw178_1 := hx178_1
                have hw178_0 := hx178_0
                cases e178
                replace hx178_0 := (HB.out.cell (World.block_lt_of_cell? w _ hx178_0)).trans hx178_0
                replace hx178_1 := (HB.out.cell (World.block_lt_of_cell? w _ hx178_1)).trans hx178_1
                replace hx178_2 := (HB.out.cell (World.block_lt_of_cell? w _ hx178_2)).trans hx178_2
                replace p178 := eq_true p178
                replace q178 := eq_true q178
                have p179 : 0 ≤ (x5_1 : Int) := of_decide_eq_true (by first | (with_reducible assumption) | assumption)
                have q179 : x5_1 < (l1.length : Int) := of_decide_eq_true (by first | (with_reducible assumption) | assumption)
                obtain ⟨ad179, e179, hx179_0, hx179_1, hx179_2⟩ := at_T30 HR1.out x5_1 p179 q179
                have hw179_2 := hx179_2
                have hw179_1 := hx179_1
                have hw179_0 := hx179_0
                cases e179
                replace hx179_0 := (HB.out.cell (World.block_lt_of_cell? w _ hx179_0)).trans hx179_0
                replace hx179_1 := (HB.out.cell (World.block_lt_of_cell? w _ hx179_1)).trans hx179_1
                replace hx179_2 := (HB.out.cell (World.block_lt_of_cell? w _ hx179_2)).trans hx179_2
                replace p179 := eq_true p179
                replace q179 := eq_true q179
                refine start_ (n := 10) (S := fun w' => w'.cell? (ad178.add ((x5_1).toNat * 3)) = some (.int .i64 ((rd_T30 l0 x5_1).f0)) ∧ w'.cell? ⟨(ad178.add ((x5_1).toNat * 3)).block, (ad178.add ((x5_1).toNat * 3)).off + 1, none⟩ = some (.int .i64 ((rd_T30 l0 x5_1).f1)) ∧ w'.cell? ⟨(ad178.add ((x5_1).toNat * 3)).block, (ad178.add ((x5_1).toNat * 3)).off + 2, none⟩ = some (.int .i64 ((rd_T30 l0 x5_1).f2)) ∧ w'.cell? (ad179.add ((x5_1).toNat * 3)) = some (.int .i64 ((rd_T30 l1 x5_1).f0)) ∧ w'.cell? ⟨(ad179.add ((x5_1).toNat * 3)).block, (ad179.add ((x5_1).toNat * 3)).off + 1, none⟩ = some (.int .i64 ((rd_T30 l1 x5_1).f1)) ∧ w'.cell? ⟨(ad179.add ((x5_1).toNat * 3)).block, (ad179.add ((x5_1).toNat * 3)).off + 2, none⟩ = some (.int .i64 ((rd_T30 l1 x5_1).f2))) (ds := []) #[false, false, false, false, false, false, false, false, false, false] (by kernel_rfl) rfl rfl ⟨((HB.out.cell (World.block_lt_of_cell? w _ hw178_0)).trans hw178_0), ((HB.out.cell (World.block_lt_of_cell? w _ hw178_1)).trans hw178_1), ((HB.out.cell (World.block_lt_of_cell? w _ hw178_2)).trans hw178_2), ((HB.out.cell (World.block_lt_of_cell? w _ hw179_0)).trans hw179_0), ((HB.out.cell (World.block_lt_of_cell? w _ hw179_1)).trans hw179_1), ((HB.out.cell (World.block_lt_of_cell? w _ hw179_2)).trans hw179_2)⟩ (fun hHeld => ?_); refine with_tabW laws_eqMessageS.tab6 laws_eqMessageS.bits6 (fun HT_ HW_ => ?_)
                generalize wr.drew = w9 at HB hx178_0 hx178_1 hx178_2 hx179_0 hx179_1 hx179_2 hHeld ⊢
                refine pure_ (i := 0) (N := some 17) (v := ?_) (a' := ?_) #[true, false, false, false, false, false, false, false, false, false] rfl rfl (any_of HT_.out (by kernel_rfl)) (fun _ _ _ h => h) (Or.inl ⟨by rfl, ?_⟩) ?_ ?_
                rotate_left
                · intro w'
                  go_simp
                  with_reducible rfl
                rotate_left
                · simp only [Act.put, List.setIfInBounds_toArray, List.set_cons_zero, List.set_cons_succ, i64_w, i32_w]
                  rfl
                refine pure_ (i := 1) (N := some 18) (v := ?_) (a' := ?_) #[true, true, false, false, false, false, false, false, false, false] rfl rfl (any_of HT_.out (by kernel_rfl)) (fun _ _ _ h => h) (Or.inl ⟨by rfl, ?_⟩) ?_ ?_
                rotate_left
                · intro w'
                  go_simp
                  with_reducible rfl
                rotate_left
                · simp only [Act.put, List.setIfInBounds_toArray, List.set_cons_zero, List.set_cons_succ, i64_w, i32_w]
                  rfl
                refine pure_ (i := 2) (N := some 19) (v := ?_) (a' := ?_) #[true, true, true, false, false, false, false, false, false, false] rfl rfl (any_of HT_.out (by kernel_rfl)) (fun _ _ _ h => h) (Or.inl ⟨by rfl, ?_⟩) ?_ ?_
                rotate_left
                · intro w'
                  go_simp
                  with_reducible rfl
                rotate_left
                · simp only [Act.put, List.setIfInBounds_toArray, List.set_cons_zero, List.set_cons_succ, i64_w, i32_w]
                  rfl
                refine pure_ (i := 4) (N := some 21) (v := ?_) (a' := ?_) #[true, true, true, false, true, false, false, false, false, false] rfl rfl (any_of HT_.out (by kernel_rfl)) (fun _ _ _ h => h) (Or.inl ⟨by rfl, ?_⟩) ?_ ?_
                rotate_left
                · intro w'
                  go_simp
                  with_reducible rfl
                rotate_left
                · simp only [Act.put, List.setIfInBounds_toArray, List.set_cons_zero, List.set_cons_succ, i64_w, i32_w]
                  rfl
                refine pure_ (i := 5) (N := some 22) (v := ?_) (a' := ?_) #[true, true, true, false, true, true, false, false, false, false] rfl rfl (any_of HT_.out (by kernel_rfl)) (fun _ _ _ h => h) (Or.inl ⟨by rfl, ?_⟩) ?_ ?_
                rotate_left
                · intro w'
                  go_simp
                  with_reducible rfl
                rotate_left
                · simp only [Act.put, List.setIfInBounds_toArray, List.set_cons_zero, List.set_cons_succ, i64_w, i32_w]
                  rfl
                refine pure_ (i := 6) (N := some 23) (v := ?_) (a' := ?_) #[true, true, true, false, true, true, true, false, false, false] rfl rfl (any_of HT_.out (by kernel_rfl)) (fun _ _ _ h => h) (Or.inl ⟨by rfl, ?_⟩) ?_ ?_
                rotate_left
                · intro w'
                  go_simp
                  with_reducible rfl
                rotate_left
                · simp only [Act.put, List.setIfInBounds_toArray, List.set_cons_zero, List.set_cons_succ, i64_w, i32_w]
                  rfl
                refine take_ (i := 3) (N := some 20) (v := ?_) (a' := ?_) #[true, true, true, true, true, true, true, false, false, false] rfl rfl (take_ofW HT_.out HW_.out (by kernel_rfl)) (fun _ _ _ h => h) (Or.inl ⟨by rfl, ?_⟩) hHeld ?_ ?_
                rotate_left
                · rintro w' ⟨s0, s1, s2, s3, s4, s5⟩
                  go_simp
                  with_reducible rfl
                rotate_left
                · simp only [Act.put, List.setIfInBounds_toArray, List.set_cons_zero, List.set_cons_succ, i64_w, i32_w]
                  rfl
                refine take_ (i := 7) (N := some 24) (v := ?_) (a' := ?_) #[true, true, true, true, true, true, true, true, false, false] rfl rfl (take_ofW HT_.out HW_.out (by kernel_rfl)) (fun _ _ _ h => h) (Or.inl ⟨by rfl, ?_⟩) hHeld ?_ ?_
                rotate_left
                · rintro w' ⟨s0, s1, s2, s3, s4, s5⟩
                  go_simp
                  with_reducible rfl
                rotate_left
                · simp only [Act.put, List.setIfInBounds_toArray, List.set_cons_zero, List.set_cons_succ, i64_w, i32_w]
                  rfl
                refine one_ (i := 8) (N := some 25) #[true, true, true, true, true, true, true, true, true, false] rfl rfl (one_of HT_.out (by kernel_rfl)) (by decide) (fun K hK => ?_)
                refine goes_ Try.func53 (by kernel_rfl) rfl #[.agg #[.int .i64 ((rd_T30 l0 x5_1).f0), .int .i64 ((rd_T30 l0 x5_1).f1), .int .i64 ((rd_T30 l0 x5_1).f2)], .agg #[.int .i64 ((rd_T30 l1 x5_1).f0), .int .i64 ((rd_T30 l1 x5_1).f1), .int .i64 ((rd_T30 l1 x5_1).f2)]] (by rfl) rfl rfl (by (try simp only [List.map_toArray, List.map_cons, List.map_nil]); first | done | rfl | (simp only [List.length_drop, List.length_take]; rfl)) ?_
                with_reducible refine (laws_eqMessage.calls ((rd_T30 l0 x5_1).f0) ((rd_T30 l0 x5_1).f1) ((rd_T30 l0 x5_1).f2) ((rd_T30 l1 x5_1).f0) ((rd_T30 l1 x5_1).f1) ((rd_T30 l1 x5_1).f2) true _ A7.out).mono ?_
                rintro e w10 ⟨rfl, hb⟩
                refine ⟨_, rfl, ?_⟩
                have n0_ := Aside0.mk (below_step (by repeat (first | (with_reducible first | exact HB.out | apply below_alloc | apply pw_below_drewN | apply below_drew1) | exact HB.out)) hb)
                clear HB
                have HB := n0_
                clear n0_
                (try clear hb)
                (try clear hb2)
                (try clear hk)
                (try clear hi)
                refine hK.out _ _ ⟨((HB.out.cell (World.block_lt_of_cell? w _ hw178_0)).trans hw178_0), ((HB.out.cell (World.block_lt_of_cell? w _ hw178_1)).trans hw178_1), ((HB.out.cell (World.block_lt_of_cell? w _ hw178_2)).trans hw178_2), ((HB.out.cell (World.block_lt_of_cell? w _ hw179_0)).trans hw179_0), ((HB.out.cell (World.block_lt_of_cell? w _ hw179_1)).trans hw179_1), ((HB.out.cell (World.block_lt_of_cell? w _ hw179_2)).trans hw179_2)⟩ (fun hHeld => ?_)
                clear hK K
                refine norm_ (a' := ?_) ?_ ?_
                rotate_left
                · show Act.put _ (some 25) _ = _
                  simp only [Act.put, List.setIfInBounds_toArray, List.set_cons_zero, List.set_cons_succ, i64_w, i32_w]
                  rfl
                refine pure_ (i := 9) (N := some 26) (v := ?_) (a' := ?_) #[true, true, true, true, true, true, true, true, true, true] rfl rfl (any_of HT_.out (by kernel_rfl)) (fun _ _ _ h => h) (Or.inl ⟨by rfl, ?_⟩) ?_ ?_
                rotate_left
                · intro w'
                  go_simp
                  with_reducible rfl
                rotate_left
                · simp only [Act.put, List.setIfInBounds_toArray, List.set_cons_zero, List.set_cons_succ, i64_w, i32_w]
                  rfl
                refine done_ (done_of HT_.out (by kernel_rfl)) ?_
                try go_wp2
                go_roundg k1
                case measure => have := HK1.out; omega
                case rel => exact ⟨(wrap64 (x5_1 + 1)), (by first | rfl | (simp; done) | (simp [*]; done)), H', ⟨by have := HK1.out; omega⟩, ⟨by repeat (first | (with_reducible first | exact HB.out | apply below_alloc | apply pw_below_drewN | apply below_drew1) | exact HB.out)⟩⟩
              · replace c8 := Bool.eq_false_iff.mpr c8
                subst c8
                have H1 : (some false) = some r := by rw [if_neg (show ¬ (false = true) by decide)] at H; exact H
                clear H
                have H := H1
                clear H1
                obtain rfl := Option.some.inj H
                try go_wp2
                have n0_ := Aside0.mk (below_drew1 HB.out)
                clear HB
                have HB := n0_
                clear n0_
                have p178 : 0 ≤ (x5_1 : Int) := of_decide_eq_true (by first | (with_reducible assumption) | assumption)
                have q178 : x5_1 < (l0.length : Int) := of_decide_eq_true (by first | (with_reducible assumption) | assumption)
                obtain ⟨ad178, e178, hx178_0, hx178_1, hx178_2⟩ := at_T30 HR0.out x5_1 p178 q178
                have hw178_2 := hx178_2
                have hw178_1 := hx178_1
                have hw178_0 := hx178_0
                cases e178
                replace hx178_0 := (HB.out.cell (World.block_lt_of_cell? w _ hx178_0)).trans hx178_0
                replace hx178_1 := (HB.out.cell (World.block_lt_of_cell? w _ hx178_1)).trans hx178_1
                replace hx178_2 := (HB.out.cell (World.block_lt_of_cell? w _ hx178_2)).trans hx178_2
                replace p178 := eq_true p178
                replace q178 := eq_true q178
                have p179 : 0 ≤ (x5_1 : Int) := of_decide_eq_true (by first | (with_reducible assumption) | assumption)
                have q179 : x5_1 < (l1.length : Int) := of_decide_eq_true (by first | (with_reducible assumption) | assumption)
                obtain ⟨ad179, e179, hx179_0, hx179_1, hx179_2⟩ := at_T30 HR1.out x5_1 p179 q179
                have hw179_2 := hx179_2
                have hw179_1 := hx179_1
                have hw179_0 := hx179_0
                cases e179
                replace hx179_0 := (HB.out.cell (World.block_lt_of_cell? w _ hx179_0)).trans hx179_0
                replace hx179_1 := (HB.out.cell (World.block_lt_of_cell? w _ hx179_1)).trans hx179_1
                replace hx179_2 := (HB.out.cell (World.block_lt_of_cell? w _ hx179_2)).trans hx179_2
                replace p179 := eq_true p179
                replace q179 := eq_true q179
                refine start_ (n := 10) (S := fun w' => w'.cell? (ad178.add ((x5_1).toNat * 3)) = some (.int .i64 ((rd_T30 l0 x5_1).f0)) ∧ w'.cell? ⟨(ad178.add ((x5_1).toNat * 3)).block, (ad178.add ((x5_1).toNat * 3)).off + 1, none⟩ = some (.int .i64 ((rd_T30 l0 x5_1).f1)) ∧ w'.cell? ⟨(ad178.add ((x5_1).toNat * 3)).block, (ad178.add ((x5_1).toNat * 3)).off + 2, none⟩ = some (.int .i64 ((rd_T30 l0 x5_1).f2)) ∧ w'.cell? (ad179.add ((x5_1).toNat * 3)) = some (.int .i64 ((rd_T30 l1 x5_1).f0)) ∧ w'.cell? ⟨(ad179.add ((x5_1).toNat * 3)).block, (ad179.add ((x5_1).toNat * 3)).off + 1, none⟩ = some (.int .i64 ((rd_T30 l1 x5_1).f1)) ∧ w'.cell? ⟨(ad179.add ((x5_1).toNat * 3)).block, (ad179.add ((x5_1).toNat * 3)).off + 2, none⟩ = some (.int .i64 ((rd_T30 l1 x5_1).f2))) (ds := []) #[false, false, false, false, false, false, false, false, false, false] (by kernel_rfl) rfl rfl ⟨((HB.out.cell (World.block_lt_of_cell? w _ hw178_0)).trans hw178_0), ((HB.out.cell (World.block_lt_of_cell? w _ hw178_1)).trans hw178_1), ((HB.out.cell (World.block_lt_of_cell? w _ hw178_2)).trans hw178_2), ((HB.out.cell (World.block_lt_of_cell? w _ hw179_0)).trans hw179_0), ((HB.out.cell (World.block_lt_of_cell? w _ hw179_1)).trans hw179_1), ((HB.out.cell (World.block_lt_of_cell? w _ hw179_2)).trans hw179_2)⟩ (fun hHeld => ?_); refine with_tabW laws_eqMessageS.tab6 laws_eqMessageS.bits6 (fun HT_ HW_ => ?_)
                generalize wr.drew = w11 at HB hx178_0 hx178_1 hx178_2 hx179_0 hx179_1 hx179_2 hHeld ⊢
                refine pure_ (i := 0) (N := some 17) (v := ?_) (a' := ?_) #[true, false, false, false, false, false, false, false, false, false] rfl rfl (any_of HT_.out (by kernel_rfl)) (fun _ _ _ h => h) (Or.inl ⟨by rfl, ?_⟩) ?_ ?_
                rotate_left
                · intro w'
                  go_simp
                  with_reducible rfl
                rotate_left
                · simp only [Act.put, List.setIfInBounds_toArray, List.set_cons_zero, List.set_cons_succ, i64_w, i32_w]
                  rfl
                refine pure_ (i := 1) (N := some 18) (v := ?_) (a' := ?_) #[true, true, false, false, false, false, false, false, false, false] rfl rfl (any_of HT_.out (by kernel_rfl)) (fun _ _ _ h => h) (Or.inl ⟨by rfl, ?_⟩) ?_ ?_
                rotate_left
                · intro w'
                  go_simp
                  with_reducible rfl
                rotate_left
                · simp only [Act.put, List.setIfInBounds_toArray, List.set_cons_zero, List.set_cons_succ, i64_w, i32_w]
                  rfl
                refine pure_ (i := 2) (N := some 19) (v := ?_) (a' := ?_) #[true, true, true, false, false, false, false, false, false, false] rfl rfl (any_of HT_.out (by kernel_rfl)) (fun _ _ _ h => h) (Or.inl ⟨by rfl, ?_⟩) ?_ ?_
                rotate_left
                · intro w'
                  go_simp
                  with_reducible rfl
                rotate_left
                · simp only [Act.put, List.setIfInBounds_toArray, List.set_cons_zero, List.set_cons_succ, i64_w, i32_w]
                  rfl
                refine pure_ (i := 4) (N := some 21) (v := ?_) (a' := ?_) #[true, true, true, false, true, false, false, false, false, false] rfl rfl (any_of HT_.out (by kernel_rfl)) (fun _ _ _ h => h) (Or.inl ⟨by rfl, ?_⟩) ?_ ?_
                rotate_left
                · intro w'
                  go_simp
                  with_reducible rfl
                rotate_left
                · simp only [Act.put, List.setIfInBounds_toArray, List.set_cons_zero, List.set_cons_succ, i64_w, i32_w]
                  rfl
                refine pure_ (i := 5) (N := some 22) (v := ?_) (a' := ?_) #[true, true, true, false, true, true, false, false, false, false] rfl rfl (any_of HT_.out (by kernel_rfl)) (fun _ _ _ h => h) (Or.inl ⟨by rfl, ?_⟩) ?_ ?_
                rotate_left
                · intro w'
                  go_simp
                  with_reducible rfl
                rotate_left
                · simp only [Act.put, List.setIfInBounds_toArray, List.set_cons_zero, List.set_cons_succ, i64_w, i32_w]
                  rfl
                refine pure_ (i := 6) (N := some 23) (v := ?_) (a' := ?_) #[true, true, true, false, true, true, true, false, false, false] rfl rfl (any_of HT_.out (by kernel_rfl)) (fun _ _ _ h => h) (Or.inl ⟨by rfl, ?_⟩) ?_ ?_
                rotate_left
                · intro w'
                  go_simp
                  with_reducible rfl
                rotate_left
                · simp only [Act.put, List.setIfInBounds_toArray, List.set_cons_zero, List.set_cons_succ, i64_w, i32_w]
                  rfl
                refine take_ (i := 3) (N := some 20) (v := ?_) (a' := ?_) #[true, true, true, true, true, true, true, false, false, false] rfl rfl (take_ofW HT_.out HW_.out (by kernel_rfl)) (fun _ _ _ h => h) (Or.inl ⟨by rfl, ?_⟩) hHeld ?_ ?_
                rotate_left
                · rintro w' ⟨s0, s1, s2, s3, s4, s5⟩
                  go_simp
                  with_reducible rfl
                rotate_left
                · simp only [Act.put, List.setIfInBounds_toArray, List.set_cons_zero, List.set_cons_succ, i64_w, i32_w]
                  rfl
                refine take_ (i := 7) (N := some 24) (v := ?_) (a' := ?_) #[true, true, true, true, true, true, true, true, false, false] rfl rfl (take_ofW HT_.out HW_.out (by kernel_rfl)) (fun _ _ _ h => h) (Or.inl ⟨by rfl, ?_⟩) hHeld ?_ ?_
                rotate_left
                · rintro w' ⟨s0, s1, s2, s3, s4, s5⟩
                  go_simp
                  with_reducible rfl
                rotate_left
                · simp only [Act.put, List.setIfInBounds_toArray, List.set_cons_zero, List.set_cons_succ, i64_w, i32_w]
                  rfl
                refine one_ (i := 8) (N := some 25) #[true, true, true, true, true, true, true, true, true, false] rfl rfl (one_of HT_.out (by kernel_rfl)) (by decide) (fun K hK => ?_)
                refine goes_ Try.func53 (by kernel_rfl) rfl #[.agg #[.int .i64 ((rd_T30 l0 x5_1).f0), .int .i64 ((rd_T30 l0 x5_1).f1), .int .i64 ((rd_T30 l0 x5_1).f2)], .agg #[.int .i64 ((rd_T30 l1 x5_1).f0), .int .i64 ((rd_T30 l1 x5_1).f1), .int .i64 ((rd_T30 l1 x5_1).f2)]] (by rfl) rfl rfl (by (try simp only [List.map_toArray, List.map_cons, List.map_nil]); first | done | rfl | (simp only [List.length_drop, List.length_take]; rfl)) ?_
                with_reducible refine (laws_eqMessage.calls ((rd_T30 l0 x5_1).f0) ((rd_T30 l0 x5_1).f1) ((rd_T30 l0 x5_1).f2) ((rd_T30 l1 x5_1).f0) ((rd_T30 l1 x5_1).f1) ((rd_T30 l1 x5_1).f2) false _ A7.out).mono ?_
                rintro e w12 ⟨rfl, hb⟩
                refine ⟨_, rfl, ?_⟩
                have n0_ := Aside0.mk (below_step (by repeat (first | (with_reducible first | exact HB.out | apply below_alloc | apply pw_below_drewN | apply below_drew1) | exact HB.out)) hb)
                clear HB
                have HB := n0_
                clear n0_
                (try clear hb)
                (try clear hb2)
                (try clear hk)
                (try clear hi)
                refine hK.out _ _ ⟨((HB.out.cell (World.block_lt_of_cell? w _ hw178_0)).trans hw178_0), ((HB.out.cell (World.block_lt_of_cell? w _ hw178_1)).trans hw178_1), ((HB.out.cell (World.block_lt_of_cell? w _ hw178_2)).trans hw178_2), ((HB.out.cell (World.block_lt_of_cell? w _ hw179_0)).trans hw179_0), ((HB.out.cell (World.block_lt_of_cell? w _ hw179_1)).trans hw179_1), ((HB.out.cell (World.block_lt_of_cell? w _ hw179_2)).trans hw179_2)⟩ (fun hHeld => ?_)
                clear hK K
                refine norm_ (a' := ?_) ?_ ?_
                rotate_left
                · show Act.put _ (some 25) _ = _
                  simp only [Act.put, List.setIfInBounds_toArray, List.set_cons_zero, List.set_cons_succ, i64_w, i32_w]
                  rfl
                refine pure_ (i := 9) (N := some 26) (v := ?_) (a' := ?_) #[true, true, true, true, true, true, true, true, true, true] rfl rfl (any_of HT_.out (by kernel_rfl)) (fun _ _ _ h => h) (Or.inl ⟨by rfl, ?_⟩) ?_ ?_
                rotate_left
                · intro w'
                  go_simp
                  with_reducible rfl
                rotate_left
                · simp only [Act.put, List.setIfInBounds_toArray, List.set_cons_zero, List.set_cons_succ, i64_w, i32_w]
                  rfl
                refine done_ (done_of HT_.out (by kernel_rfl)) ?_
                try go_wp2
                go_ret
                exact ⟨by first | rfl | (simp [errW_none, errW_some] <;> rfl) | (simp [*, errW_none, errW_some] <;> rfl), by repeat (first | (with_reducible first | exact HB.out | apply below_alloc | apply pw_below_drewN | apply below_drew1) | exact HB.out)⟩
            · rw [if_neg c6] at H
              exact absurd H (by simp)
          · rw [if_neg c5] at H
            exact absurd H (by simp)
        · rw [if_neg c4] at H
          have c4b0 : decide (x5_1 < (l0.length : Int)) = false := decide_eq_false c4
          clear c4
          obtain rfl := Option.some.inj H
          go_wp2
          go_ret
          exact ⟨by first | rfl | (simp [errW_none, errW_some] <;> rfl) | (simp [*, errW_none, errW_some] <;> rfl), by repeat (first | (with_reducible first | exact HB.out | apply below_alloc | apply pw_below_drewN | apply below_drew1) | exact HB.out)⟩
  · rw [if_neg c3] at H
    have c3b0 : ((l0.length : Int) == (l1.length : Int)) = false := beq_eq_false_iff_ne.mpr c3
    have c3b1 : ((l0.length : Int) != (l1.length : Int)) = true := bne_iff_ne.mpr c3
    have c3b2 : (l0.length == l1.length) = false := by first | simpa using c3 | (simp at c3 ⊢; omega)
    obtain rfl := Option.some.inj H
    go_enter Try.func22, Try.ntmps22
    go_wp2
    go_ret
    exact ⟨by first | rfl | (simp [errW_none, errW_some] <;> rfl) | (simp [*, errW_none, errW_some] <;> rfl), by repeat (first | (with_reducible first | exact HB.out | apply below_alloc | apply pw_below_drewN | apply below_drew1) | exact HB.out)⟩

end Go.Proofs.Ytgkbeejkbhhjkaa.X

/- What the functions of the program come to, and that they do: written by this session's program wip/xprint.py out of the translation; parts named extern are typed by hand. -/
namespace Go.Proofs.Ytgkbeejkbhhjkaa.X
open Go.RowKit Go.Proofs.YtgkbeejkbhhjkaaW.PrintWords Go.Proofs.YtgkbeejkbhhjkaaW.PrintLast Go.Proofs.YtgkbeejkbhhjkaaW.PrintMore
attribute [local go_sem] max2_int min2_int max_two min_two max_three min_three max_four min_four   -- for this text's walks alone
set_option linter.unusedVariables false
set_option linter.unusedSimpArgs false
end Go.Proofs.Ytgkbeejkbhhjkaa.X

/- What the functions of the program come to, and that they do: written by this session's program wip/xprint.py out of the translation; parts named extern are typed by hand. -/
namespace Go.Proofs.Ytgkbeejkbhhjkaa.X
open Go.RowKit Go.Proofs.YtgkbeejkbhhjkaaW.PrintWords Go.Proofs.YtgkbeejkbhhjkaaW.PrintLast Go.Proofs.YtgkbeejkbhhjkaaW.PrintMore
attribute [local go_sem] max2_int min2_int max_two min_two max_three min_three max_four min_four   -- for this text's walks alone
set_option linter.unusedVariables false
set_option linter.unusedSimpArgs false

/-! ### laws_markMessageS: function 27 -/
def laws_markMessageS.l0 : Nat → List (S30) → Int → Int → Option (Int × (List (S30)))
  | 0, _, _, _ => none
  | k + 1, x0, x1, x5 => if x5 < (x0.length : Int) then (if 0 ≤ x5 then ((some (x0.set (x5 : Int).toNat (⟨x1, (rd_T30 x0 x5).f1, (rd_T30 x0 x5).f2⟩ : S30) : List (S30))).bind fun y250 => ((some (y250.set (x5 : Int).toNat (⟨(rd_T30 y250 x5).f0, wrap64 (x1 + 1), (rd_T30 y250 x5).f2⟩ : S30) : List (S30))).bind fun y251 => (laws_markMessageS.l0 k (y251.set (x5 : Int).toNat (⟨(rd_T30 y251 x5).f0, (rd_T30 y251 x5).f1, wrap64 ((wrap64 (x1 + 1)) + 1)⟩ : S30)) (wrap64 ((wrap64 ((wrap64 (x1 + 1)) + 1)) + 1)) (wrap64 (x5 + 1))))) else (none)) else (some (x1, x0))
def laws_markMessageS.f (k : Nat) (l0 : List (S30)) (a1 : Int) : Option (Int × (List (S30))) := laws_markMessageS.l0 k l0 a1 0
set_option maxHeartbeats 8000000 in
set_option maxRecDepth 100000 in
theorem laws_markMessageS.calls (k : Nat) (P0_ : Nat → Prop) (u9000_ : Value) (l0 : List (S30)) (a1 : Int) (r1 : Int) (r2 : List (S30)) (w0 w : World) (hB : Below w0.heap.size w0 w) (ho0 : Kd.R k30 30 w w0.heap.size P0_ u9000_ l0) (h : laws_markMessageS.f k l0 a1 = some (r1, r2)) :
    Calls Try.prog 27 #[u9000_, .int .i64 a1] w fun e w' => e = .returned (.int .i64 r1) ∧ Kd.R k30 30 w' w0.heap.size (fun k_ => (P0_ k_ ∨ w.heap.size ≤ k_)) u9000_ r2 ∧ Below w0.heap.size w0 w' ∧ Kept w w' (fun k_ => P0_ k_) := by
  have HO0 := Aside0.mk (show Kd.R k30 30 w w0.heap.size (fun k_ => (P0_ k_ ∨ w.heap.size ≤ k_)) u9000_ l0 from Kd.R_mono ho0 (fun k_ hk => (.inl hk)))
  have HK := Aside0.mk (Kept.refl w (fun k_ => P0_ k_))
  have HW0 := Aside0.mk hB.size
  have HB := Aside0.mk hB
  clear hB
  have H : (laws_markMessageS.l0 k l0 a1 0) = some (r1, r2) := h
  clear h
  have H' := Aside0.mk H
  clear H
  go_enter Try.func27, Try.ntmps27
  go_wp2
  go_loopg [1, 5] k (fun kq v1 v5 w' => ∃ (x0_1 : List (S30)) (x1_1 : Int) (x5_1 : Int), v1 = .int .i64 x1_1 ∧ v5 = .int .i64 x5_1 ∧ Aside0 (laws_markMessageS.l0 kq x0_1 x1_1 x5_1 = some (r1, r2)) ∧ Aside0 (kq ≤ k) ∧ Aside0 (Kd.R k30 30 w' w0.heap.size (fun k_ => (P0_ k_ ∨ w.heap.size ≤ k_)) u9000_ x0_1) ∧ Aside0 (Kept w w' (fun k_ => P0_ k_)) ∧ Aside0 (Below w0.heap.size w0 w'))
  case atStart => exact ⟨(l0), (a1), (0), (by first | rfl | (simp; done) | (simp [*]; done)), (by first | rfl | (simp; done) | (simp [*]; done)), H', ⟨Nat.le_refl _⟩, ⟨by (with_reducible repeat (first | apply Kd.R_alloc | apply Kd.R_drewN | apply Kd.R_drew)); exact HO0.out⟩, ⟨by repeat (first | (with_reducible first | exact HK.out | apply Kept.alloc | apply Kept.drewN | apply Kept.drew) | exact HK.out)⟩, ⟨by repeat (first | (with_reducible first | exact HB.out | apply below_alloc | apply pw_below_drewN | apply below_drew1) | exact HB.out)⟩⟩
  case round =>
    clear H'
    try clear c2
    try clear p2
    obtain ⟨x0_1, x1_1, x5_1, rfl, rfl, HA, HK1, HO_0, HK, HB⟩ := hrel
    cases gk with
    | zero => exact absurd HA.out (by simp [laws_markMessageS.l0])
    | succ k1 =>
      have H := HA.out
      clear HA
      simp only [laws_markMessageS.l0] at H
      by_cases c3 : x5_1 < (x0_1.length : Int)
      · rw [if_pos c3] at H
        have c3b0 : decide (x5_1 < (x0_1.length : Int)) = true := decide_eq_true c3
        clear c3
        by_cases c4 : 0 ≤ x5_1
        · rw [if_pos c4] at H
          have c4b0 : decide (0 ≤ x5_1) = true := decide_eq_true c4
          clear c4
          obtain ⟨y250, hy250⟩ : ∃ y_ : List (S30), y_ = (x0_1.set (x5_1 : Int).toNat (⟨x1_1, (rd_T30 x0_1 x5_1).f1, (rd_T30 x0_1 x5_1).f2⟩ : S30)) := ⟨_, rfl⟩
          replace H : ((some (y250.set (x5_1 : Int).toNat (⟨(rd_T30 y250 x5_1).f0, wrap64 (x1_1 + 1), (rd_T30 y250 x5_1).f2⟩ : S30) : List (S30))).bind fun y251 => (laws_markMessageS.l0 k1 (y251.set (x5_1 : Int).toNat (⟨(rd_T30 y251 x5_1).f0, (rd_T30 y251 x5_1).f1, wrap64 ((wrap64 (x1_1 + 1)) + 1)⟩ : S30)) (wrap64 ((wrap64 ((wrap64 (x1_1 + 1)) + 1)) + 1)) (wrap64 (x5_1 + 1)))) = some (r1, r2) := by first | (rw [hy250]; with_reducible exact H) | (have H2_ := (Option.bind_some _ _).symm.trans H; rw [hy250]; with_reducible exact H2_) | (have H2_ := (Option.bind_some _ _).symm.trans H; with_reducible exact H2_) | with_reducible exact H | (rw [hy250]; exact H) | exact H
          have Ny250 := Aside0.mk hy250
          clear hy250
          obtain ⟨y251, hy251⟩ : ∃ y_ : List (S30), y_ = (y250.set (x5_1 : Int).toNat (⟨(rd_T30 y250 x5_1).f0, wrap64 (x1_1 + 1), (rd_T30 y250 x5_1).f2⟩ : S30)) := ⟨_, rfl⟩
          replace H : (laws_markMessageS.l0 k1 (y251.set (x5_1 : Int).toNat (⟨(rd_T30 y251 x5_1).f0, (rd_T30 y251 x5_1).f1, wrap64 ((wrap64 (x1_1 + 1)) + 1)⟩ : S30)) (wrap64 ((wrap64 ((wrap64 (x1_1 + 1)) + 1)) + 1)) (wrap64 (x5_1 + 1))) = some (r1, r2) := by first | (rw [hy251]; with_reducible exact H) | (have H2_ := (Option.bind_some _ _).symm.trans H; rw [hy251]; with_reducible exact H2_) | (have H2_ := (Option.bind_some _ _).symm.trans H; with_reducible exact H2_) | with_reducible exact H | (rw [hy251]; exact H) | exact H
          have Ny251 := Aside0.mk hy251
          clear hy251
          obtain ⟨y252, hy252⟩ : ∃ y_ : List (S30), y_ = (y251.set (x5_1 : Int).toNat (⟨(rd_T30 y251 x5_1).f0, (rd_T30 y251 x5_1).f1, wrap64 ((wrap64 (x1_1 + 1)) + 1)⟩ : S30)) := ⟨_, rfl⟩
          replace H : (laws_markMessageS.l0 k1 y252 (wrap64 ((wrap64 ((wrap64 (x1_1 + 1)) + 1)) + 1)) (wrap64 (x5_1 + 1))) = some (r1, r2) := by first | (rw [hy252]; with_reducible exact H) | (have H2_ := (Option.bind_some _ _).symm.trans H; rw [hy252]; with_reducible exact H2_) | (have H2_ := (Option.bind_some _ _).symm.trans H; with_reducible exact H2_) | with_reducible exact H | (rw [hy252]; exact H) | exact H
          have Ny252 := Aside0.mk hy252
          clear hy252
          have H' := Aside0.mk H
          clear H
          obtain ⟨Ao8, co8, eo8⟩ := Kd.R_slice HO_0.out
          subst eo8
          have p5 : 0 ≤ (x5_1 : Int) := of_decide_eq_true (by first | (with_reducible assumption) | assumption)
          have q5 : (x5_1 : Int) < ((x0_1.length : Int) : Int) := of_decide_eq_true (by first | (with_reducible assumption) | assumption)
          obtain ⟨go5, co5, eo5, gb5, gl5, cl5, HG5⟩ := Kd.R_form HO_0.out (by omega)
          (first | cases eo5 | (injection eo5 with ea_ en_ ec_; (first | subst ea_ | (injection ea_ with ea_; subst ea_)); subst ec_; clear en_))
          have GB5 := Aside0.mk gb5
          have GG5 := Aside0.mk HG5
          clear gb5 gl5 HG5
          have HMgo5 := Aside0.mk (show (P0_ go5 ∨ w.heap.size ≤ go5) from (HO_0.out.1 _ rfl))
          obtain ⟨ce5, hcl5, hM5, hcc5, hfr5⟩ := Kd.R_elem HO_0.out z30 (x5_1 : Int) p5 q5
          obtain rfl := k30_openM hM5
          have hx5_0 : wr.cell? ⟨go5, (x5_1 : Int).toNat * 3, none⟩ = some (.int .i64 ((rd_T30 x0_1 x5_1).f0)) := hcc5 0 _ rfl
          have hx5_1 : wr.cell? ⟨go5, (x5_1 : Int).toNat * 3 + 1, none⟩ = some (.int .i64 ((rd_T30 x0_1 x5_1).f1)) := hcc5 1 _ rfl
          have hx5_2 : wr.cell? ⟨go5, (x5_1 : Int).toNat * 3 + 2, none⟩ = some (.int .i64 ((rd_T30 x0_1 x5_1).f2)) := hcc5 2 _ rfl
          have hf5_0 : wr.frozen? ⟨go5, (x5_1 : Int).toNat * 3, none⟩ = false := hfr5 0
          have hf5_1 : wr.frozen? ⟨go5, (x5_1 : Int).toNat * 3 + 1, none⟩ = false := hfr5 1
          have hf5_2 : wr.frozen? ⟨go5, (x5_1 : Int).toNat * 3 + 2, none⟩ = false := hfr5 2
          clear hcl5 hcc5 hfr5 hM5
          replace p5 := eq_true p5
          replace q5 := eq_true q5
          have HX9 := Aside0.mk (show Kd.R k30 30 wr w0.heap.size (fun k_ => (P0_ k_ ∨ w.heap.size ≤ k_)) (.slice (some ⟨go5, 0, none⟩) x0_1.length co8) x0_1 from (by (with_reducible repeat (first | apply Kd.R_alloc | apply Kd.R_drewN | apply Kd.R_drew)); exact HO_0.out))
          obtain ⟨ce9, hcl9, hM9, hcc9, hfr9⟩ := Kd.R_elem HX9.out z30 (x5_1 : Int) (of_decide_eq_true (by first | (with_reducible assumption) | assumption)) (by have h_ : (x5_1 : Int) < ((x0_1.length : Int) : Int) := of_decide_eq_true (by first | (with_reducible assumption) | assumption); first | exact h_ | (have e_ := (Kd.R_reads' HO_0.out).1; omega) | simpa using h_)
          obtain rfl := k30_openM hM9
          have HP9 := Kd.R_seg HX9.out (x5_1 : Int) (of_decide_eq_true (by first | (with_reducible assumption) | assumption)) (by have h_ : (x5_1 : Int) < ((x0_1.length : Int) : Int) := of_decide_eq_true (by first | (with_reducible assumption) | assumption); first | exact h_ | (have e_ := (Kd.R_reads' HO_0.out).1; omega) | simpa using h_) (seg := [.int .i64 x1_1]) (j := 0) hcl9 hcc9 (show 1 ≤ 3 from by decide) (x' := (⟨x1_1, (rd_T30 x0_1 x5_1).f1, (rd_T30 x0_1 x5_1).f2⟩ : S30)) (k30_mkM _ _ _ (⟨x1_1, (rd_T30 x0_1 x5_1).f1, (rd_T30 x0_1 x5_1).f2⟩ : S30) ) (fun _ hk => hk)
          have hx9_0 := hcc9 0 _ rfl
          (try simp only [show (k30).sz = 3 from rfl, Nat.mul_one, Nat.add_zero] at hx9_0)
          have hf9_0 := hfr9 0
          (try simp only [show (k30).sz = 3 from rfl, Nat.mul_one, Nat.add_zero] at hf9_0)
          clear hcl9 hcc9 hfr9 hM9
          go_wp2_with (first | ((with_reducible refine gate_store (t := 3) (p := 16) rfl ?_); refine store_event (t := 3) (p := 16) (v := ?vo_w10) (w1 := (wr.setCell ⟨go5, (x5_1 : Int).toNat * 3, none⟩ (.int .i64 x1_1))) ?hg ?ho ?hn ?hr ?_; (case ho => rfl); (case hg => rfl); (case hn => rfl); (case hr => first | (go_simp; done) | (go_simp; rfl)); intro w10 hw; have hg : wr.grownBy w10 (some go5) := (by rw [hw]; exact HP9.2); have hp_ : Kd.R k30 30 w10 w0.heap.size (fun k_ => (P0_ k_ ∨ w.heap.size ≤ k_)) (.slice (some ⟨go5, 0, none⟩) x0_1.length co8) y250 := (by rw [hw, Ny250.out]; exact HP9.1); clear HP9; have n0_ := Aside0.mk (hp_); have n1_ := Aside0.mk ((by rw [hw]; exact below_set (HB.out) GB5.out : Below w0.heap.size w0 w10)); have n2_ := Aside0.mk (Kept.of_grown (S := (fun k_ => P0_ k_)) hg (by repeat (first | (with_reducible first | exact HK.out | apply Kept.alloc | apply Kept.drewN | apply Kept.drew) | exact HK.out)) (fun k_ e_ => (HO_0.out.1 k_ e_))); clear HO_0; clear HB; clear HK; have HO_0 := n0_; have HB := n1_; have HK := n2_; clear n0_ n1_ n2_; clear hg hw hp_; have p6 : 0 ≤ (x5_1 : Int) := of_decide_eq_true (by first | (with_reducible assumption) | assumption); have q6 : (x5_1 : Int) < ((x0_1.length : Int) : Int) := of_decide_eq_true (by first | (with_reducible assumption) | assumption); obtain ⟨ce6, hcl6, hM6, hcc6, hfr6⟩ := Kd.R_elem HO_0.out z30 (x5_1 : Int) p6 q6; obtain rfl := k30_openM hM6; have hx6_0 : w10.cell? ⟨go5, (x5_1 : Int).toNat * 3, none⟩ = some (.int .i64 ((rd_T30 y250 x5_1).f0)) := hcc6 0 _ rfl; have hx6_1 : w10.cell? ⟨go5, (x5_1 : Int).toNat * 3 + 1, none⟩ = some (.int .i64 ((rd_T30 y250 x5_1).f1)) := hcc6 1 _ rfl; have hx6_2 : w10.cell? ⟨go5, (x5_1 : Int).toNat * 3 + 2, none⟩ = some (.int .i64 ((rd_T30 y250 x5_1).f2)) := hcc6 2 _ rfl; have hf6_0 : w10.frozen? ⟨go5, (x5_1 : Int).toNat * 3, none⟩ = false := hfr6 0; have hf6_1 : w10.frozen? ⟨go5, (x5_1 : Int).toNat * 3 + 1, none⟩ = false := hfr6 1; have hf6_2 : w10.frozen? ⟨go5, (x5_1 : Int).toNat * 3 + 2, none⟩ = false := hfr6 2; clear hcl6 hcc6 hfr6 hM6; replace p6 := eq_true p6; replace q6 := eq_true q6; have HX11 := Aside0.mk (show Kd.R k30 30 w10 w0.heap.size (fun k_ => (P0_ k_ ∨ w.heap.size ≤ k_)) (.slice (some ⟨go5, 0, none⟩) x0_1.length co8) y250 from (by (with_reducible repeat (first | apply Kd.R_alloc | apply Kd.R_drewN | apply Kd.R_drew)); exact HO_0.out)); obtain ⟨ce11, hcl11, hM11, hcc11, hfr11⟩ := Kd.R_elem HX11.out z30 (x5_1 : Int) (of_decide_eq_true (by first | (with_reducible assumption) | assumption)) (by have h_ : (x5_1 : Int) < ((x0_1.length : Int) : Int) := of_decide_eq_true (by first | (with_reducible assumption) | assumption); first | exact h_ | (have e_ := (Kd.R_reads' HO_0.out).1; omega) | simpa using h_); obtain rfl := k30_openM hM11; have HP11 := Kd.R_seg HX11.out (x5_1 : Int) (of_decide_eq_true (by first | (with_reducible assumption) | assumption)) (by have h_ : (x5_1 : Int) < ((x0_1.length : Int) : Int) := of_decide_eq_true (by first | (with_reducible assumption) | assumption); first | exact h_ | (have e_ := (Kd.R_reads' HO_0.out).1; omega) | simpa using h_) (seg := [.int .i64 (wrap64 (x1_1 + 1))]) (j := 1) hcl11 hcc11 (show 2 ≤ 3 from by decide) (x' := (⟨(rd_T30 y250 x5_1).f0, wrap64 (x1_1 + 1), (rd_T30 y250 x5_1).f2⟩ : S30)) (k30_mkM _ _ _ (⟨(rd_T30 y250 x5_1).f0, wrap64 (x1_1 + 1), (rd_T30 y250 x5_1).f2⟩ : S30) ) (fun _ hk => hk); have hx11_1 := hcc11 1 _ rfl; (try simp only [show (k30).sz = 3 from rfl, Nat.mul_one, Nat.add_zero] at hx11_1); have hf11_1 := hfr11 1; (try simp only [show (k30).sz = 3 from rfl, Nat.mul_one, Nat.add_zero] at hf11_1); clear hcl11 hcc11 hfr11 hM11) | ((with_reducible refine gate_store (t := 3) (p := 23) rfl ?_); refine store_event (t := 3) (p := 23) (v := ?vo_w12) (w1 := (w10.setCell ⟨go5, (x5_1 : Int).toNat * 3 + 1, none⟩ (.int .i64 (wrap64 (x1_1 + 1))))) ?hg ?ho ?hn ?hr ?_; (case ho => rfl); (case hg => rfl); (case hn => rfl); (case hr => first | (go_simp; done) | (go_simp; rfl)); intro w12 hw; have hg : w10.grownBy w12 (some go5) := (by rw [hw]; exact HP11.2); have hp_ : Kd.R k30 30 w12 w0.heap.size (fun k_ => (P0_ k_ ∨ w.heap.size ≤ k_)) (.slice (some ⟨go5, 0, none⟩) x0_1.length co8) y251 := (by rw [hw, Ny251.out]; exact HP11.1); clear HP11; have n0_ := Aside0.mk (hp_); have n1_ := Aside0.mk ((by rw [hw]; exact below_set (HB.out) GB5.out : Below w0.heap.size w0 w12)); have n2_ := Aside0.mk (Kept.of_grown (S := (fun k_ => P0_ k_)) hg (by repeat (first | (with_reducible first | exact HK.out | apply Kept.alloc | apply Kept.drewN | apply Kept.drew) | exact HK.out)) (fun k_ e_ => (HO_0.out.1 k_ e_))); clear HO_0; clear HB; clear HK; have HO_0 := n0_; have HB := n1_; have HK := n2_; clear n0_ n1_ n2_; clear hg hw hp_; have p7 : 0 ≤ (x5_1 : Int) := of_decide_eq_true (by first | (with_reducible assumption) | assumption); have q7 : (x5_1 : Int) < ((x0_1.length : Int) : Int) := of_decide_eq_true (by first | (with_reducible assumption) | assumption); obtain ⟨ce7, hcl7, hM7, hcc7, hfr7⟩ := Kd.R_elem HO_0.out z30 (x5_1 : Int) p7 q7; obtain rfl := k30_openM hM7; have hx7_0 : w12.cell? ⟨go5, (x5_1 : Int).toNat * 3, none⟩ = some (.int .i64 ((rd_T30 y251 x5_1).f0)) := hcc7 0 _ rfl; have hx7_1 : w12.cell? ⟨go5, (x5_1 : Int).toNat * 3 + 1, none⟩ = some (.int .i64 ((rd_T30 y251 x5_1).f1)) := hcc7 1 _ rfl; have hx7_2 : w12.cell? ⟨go5, (x5_1 : Int).toNat * 3 + 2, none⟩ = some (.int .i64 ((rd_T30 y251 x5_1).f2)) := hcc7 2 _ rfl; have hf7_0 : w12.frozen? ⟨go5, (x5_1 : Int).toNat * 3, none⟩ = false := hfr7 0; have hf7_1 : w12.frozen? ⟨go5, (x5_1 : Int).toNat * 3 + 1, none⟩ = false := hfr7 1; have hf7_2 : w12.frozen? ⟨go5, (x5_1 : Int).toNat * 3 + 2, none⟩ = false := hfr7 2; clear hcl7 hcc7 hfr7 hM7; replace p7 := eq_true p7; replace q7 := eq_true q7; have HX13 := Aside0.mk (show Kd.R k30 30 w12 w0.heap.size (fun k_ => (P0_ k_ ∨ w.heap.size ≤ k_)) (.slice (some ⟨go5, 0, none⟩) x0_1.length co8) y251 from (by (with_reducible repeat (first | apply Kd.R_alloc | apply Kd.R_drewN | apply Kd.R_drew)); exact HO_0.out)); obtain ⟨ce13, hcl13, hM13, hcc13, hfr13⟩ := Kd.R_elem HX13.out z30 (x5_1 : Int) (of_decide_eq_true (by first | (with_reducible assumption) | assumption)) (by have h_ : (x5_1 : Int) < ((x0_1.length : Int) : Int) := of_decide_eq_true (by first | (with_reducible assumption) | assumption); first | exact h_ | (have e_ := (Kd.R_reads' HO_0.out).1; omega) | simpa using h_); obtain rfl := k30_openM hM13; have HP13 := Kd.R_seg HX13.out (x5_1 : Int) (of_decide_eq_true (by first | (with_reducible assumption) | assumption)) (by have h_ : (x5_1 : Int) < ((x0_1.length : Int) : Int) := of_decide_eq_true (by first | (with_reducible assumption) | assumption); first | exact h_ | (have e_ := (Kd.R_reads' HO_0.out).1; omega) | simpa using h_) (seg := [.int .i64 (wrap64 ((wrap64 (x1_1 + 1)) + 1))]) (j := 2) hcl13 hcc13 (show 3 ≤ 3 from by decide) (x' := (⟨(rd_T30 y251 x5_1).f0, (rd_T30 y251 x5_1).f1, wrap64 ((wrap64 (x1_1 + 1)) + 1)⟩ : S30)) (k30_mkM _ _ _ (⟨(rd_T30 y251 x5_1).f0, (rd_T30 y251 x5_1).f1, wrap64 ((wrap64 (x1_1 + 1)) + 1)⟩ : S30) ) (fun _ hk => hk); have hx13_2 := hcc13 2 _ rfl; (try simp only [show (k30).sz = 3 from rfl, Nat.mul_one, Nat.add_zero] at hx13_2); have hf13_2 := hfr13 2; (try simp only [show (k30).sz = 3 from rfl, Nat.mul_one, Nat.add_zero] at hf13_2); clear hcl13 hcc13 hfr13 hM13) | ((with_reducible refine gate_store (t := 3) (p := 30) rfl ?_); refine store_event (t := 3) (p := 30) (v := ?vo_w14) (w1 := (w12.setCell ⟨go5, (x5_1 : Int).toNat * 3 + 2, none⟩ (.int .i64 (wrap64 ((wrap64 (x1_1 + 1)) + 1))))) ?hg ?ho ?hn ?hr ?_; (case ho => rfl); (case hg => rfl); (case hn => rfl); (case hr => first | (go_simp; done) | (go_simp; rfl)); intro w14 hw; have hg : w12.grownBy w14 (some go5) := (by rw [hw]; exact HP13.2); have hp_ : Kd.R k30 30 w14 w0.heap.size (fun k_ => (P0_ k_ ∨ w.heap.size ≤ k_)) (.slice (some ⟨go5, 0, none⟩) x0_1.length co8) y252 := (by rw [hw, Ny252.out]; exact HP13.1); clear HP13; have n0_ := Aside0.mk (hp_); have n1_ := Aside0.mk ((by rw [hw]; exact below_set (HB.out) GB5.out : Below w0.heap.size w0 w14)); have n2_ := Aside0.mk (Kept.of_grown (S := (fun k_ => P0_ k_)) hg (by repeat (first | (with_reducible first | exact HK.out | apply Kept.alloc | apply Kept.drewN | apply Kept.drew) | exact HK.out)) (fun k_ e_ => (HO_0.out.1 k_ e_))); clear HO_0; clear HB; clear HK; have HO_0 := n0_; have HB := n1_; have HK := n2_; clear n0_ n1_ n2_; clear hg hw hp_))
          go_roundg k1
          case measure => have := HK1.out; omega
          case rel => exact ⟨(y252), (wrap64 ((wrap64 ((wrap64 (x1_1 + 1)) + 1)) + 1)), (wrap64 (x5_1 + 1)), (by first | rfl | (simp; done) | (simp [*]; done)), (by first | rfl | (simp; done) | (simp [*]; done)), H', ⟨by have := HK1.out; omega⟩, ⟨by (with_reducible repeat (first | apply Kd.R_alloc | apply Kd.R_drewN | apply Kd.R_drew)); exact HO_0.out⟩, ⟨by repeat (first | (with_reducible first | exact HK.out | apply Kept.alloc | apply Kept.drewN | apply Kept.drew) | exact HK.out)⟩, ⟨by repeat (first | (with_reducible first | exact HB.out | apply below_alloc | apply pw_below_drewN | apply below_drew1) | exact HB.out)⟩⟩
        · rw [if_neg c4] at H
          exact absurd H (by simp)
      · rw [if_neg c3] at H
        have c3b0 : decide (x5_1 < (x0_1.length : Int)) = false := decide_eq_false c3
        clear c3
        simp only [Option.some.injEq, Prod.mk.injEq] at H
        obtain ⟨rfl, rfl⟩ := H
        obtain ⟨Ao15, co15, eo15⟩ := Kd.R_slice HO_0.out
        subst eo15
        go_wp2
        go_ret
        exact ⟨by first | rfl | (simp [errW_none, errW_some] <;> rfl) | (simp [*, errW_none, errW_some] <;> rfl), by (with_reducible repeat (first | apply Kd.R_alloc | apply Kd.R_drewN | apply Kd.R_drew)); exact HO_0.out, by repeat (first | (with_reducible first | exact HB.out | apply below_alloc | apply pw_below_drewN | apply below_drew1) | exact HB.out), by repeat (first | (with_reducible first | exact HK.out | apply Kept.alloc | apply Kept.drewN | apply Kept.drew) | exact HK.out)⟩

end Go.Proofs.Ytgkbeejkbhhjkaa.X

/- What the functions of the program come to, and that they do: written by this session's program wip/xprint.py out of the translation; parts named extern are typed by hand. -/
namespace Go.Proofs.Ytgkbeejkbhhjkaa.X
open Go.RowKit Go.Proofs.YtgkbeejkbhhjkaaW.PrintWords Go.Proofs.YtgkbeejkbhhjkaaW.PrintLast Go.Proofs.YtgkbeejkbhhjkaaW.PrintMore
attribute [local go_sem] max2_int min2_int max_two min_two max_three min_three max_four min_four   -- for this text's walks alone
set_option linter.unusedVariables false
set_option linter.unusedSimpArgs false

/-! ### laws_eqIntS: function 31 -/
def laws_eqIntS.l0 : Nat → List Int → List Int → Int → Option (Bool)
  | 0, _, _, _ => none
  | k + 1, x0, x1, x5 => if x5 < (x0.length : Int) then (if 0 ≤ x5 then (if x5 < (x1.length : Int) then (if (rd x0 x5) = (rd x1 x5) then (laws_eqIntS.l0 k x0 x1 (wrap64 (x5 + 1))) else (some false)) else (none)) else (none)) else (some true)
def laws_eqIntS.f (k : Nat) (l0 : List Int) (l1 : List Int) : Option (Bool) := if (l0.length : Int) = (l1.length : Int) then (laws_eqIntS.l0 k l0 l1 0) else (some false)
set_option maxHeartbeats 8000000 in
set_option maxRecDepth 100000 in
theorem laws_eqIntS.calls (k : Nat) (A0 : Option Addr) (c0 : Nat) (l0 : List Int) (A1 : Option Addr) (c1 : Nat) (l1 : List Int) (r : Bool) (w : World) (hr0 : Kd.C (Kd.int .i64) w A0 l0.length l0) (hc0 : l0.length ≤ c0) (hr1 : Kd.C (Kd.int .i64) w A1 l1.length l1) (hc1 : l1.length ≤ c1) (h : laws_eqIntS.f k l0 l1 = some r) :
    Calls Try.prog 31 #[.slice A0 l0.length c0, .slice A1 l1.length c1] w fun e w' => e = .returned (.bool r) ∧ Drawn0 w w' := by
  have HR0 := Aside0.mk hr0
  have HC0 := Aside0.mk hc0
  clear hr0 hc0
  have HR1 := Aside0.mk hr1
  have HC1 := Aside0.mk hc1
  clear hr1 hc1
  have H : (if (l0.length : Int) = (l1.length : Int) then (laws_eqIntS.l0 k l0 l1 0) else (some false)) = some r := h
  clear h
  by_cases c3 : (l0.length : Int) = (l1.length : Int)
  · rw [if_pos c3] at H
    have c3b0 : ((l0.length : Int) == (l1.length : Int)) = true := beq_iff_eq.mpr c3
    have c3b1 : ((l0.length : Int) != (l1.length : Int)) = false := bne_eq_false_iff_eq.mpr c3
    have c3b2 : (l0.length == l1.length) = true := by first | simpa using c3 | (simp at c3 ⊢; omega)
    clear c3
    have H' := Aside0.mk H
    clear H
    go_enter Try.func31, Try.ntmps31
    go_wp2
    repeat (go_quiet (fail); try go_wp2)
    go_loopg [5] k (fun kq v5 w' => ∃ (x5_1 : Int), v5 = .int .i64 x5_1 ∧ Aside0 (laws_eqIntS.l0 kq l0 l1 x5_1 = some r) ∧ Aside0 (kq ≤ k) ∧ Drawn0 w w')
    case atStart => exact ⟨(0), (by first | rfl | (simp; done) | (simp [*]; done)), H', ⟨Nat.le_refl _⟩, by repeat (first | exact Drawn0.refl _ | apply Drawn0.step)⟩
    case round =>
      clear H'
      try clear c1
      try clear p2
      try clear c3
      try clear c3b0
      try clear c3b1
      try clear c3b2
      obtain ⟨x5_1, rfl, HA, HK1, ⟨m1, rfl⟩⟩ := hrel
      cases gk with
      | zero => exact absurd HA.out (by simp [laws_eqIntS.l0])
      | succ k1 =>
        have H := HA.out
        clear HA
        simp only [laws_eqIntS.l0] at H
        by_cases c4 : x5_1 < (l0.length : Int)
        · rw [if_pos c4] at H
          have c4b0 : decide (x5_1 < (l0.length : Int)) = true := decide_eq_true c4
          clear c4
          by_cases c5 : 0 ≤ x5_1
          · rw [if_pos c5] at H
            have c5b0 : decide (0 ≤ x5_1) = true := decide_eq_true c5
            clear c5
            by_cases c6 : x5_1 < (l1.length : Int)
            · rw [if_pos c6] at H
              have c6b0 : decide (x5_1 < (l1.length : Int)) = true := decide_eq_true c6
              clear c6
              by_cases c7 : (rd l0 x5_1) = (rd l1 x5_1)
              · rw [if_pos c7] at H
                have c7b0 : ((rd l0 x5_1) == (rd l1 x5_1)) = true := beq_iff_eq.mpr c7
                have c7b1 : ((rd l0 x5_1) != (rd l1 x5_1)) = false := bne_eq_false_iff_eq.mpr c7
                clear c7
                have H' := Aside0.mk H
                clear H
                have p316 : 0 ≤ (x5_1 : Int) := of_decide_eq_true (by first | (with_reducible assumption) | assumption)
                have q316 : x5_1 < (l0.length : Int) := of_decide_eq_true (by first | (with_reducible assumption) | assumption)
                obtain ⟨ad316, e316, hx316_0⟩ := Kd.at_int HR0.out x5_1 p316 q316
                cases e316
                replace p316 := eq_true p316
                replace q316 := eq_true q316
                have p317 : 0 ≤ (x5_1 : Int) := of_decide_eq_true (by first | (with_reducible assumption) | assumption)
                have q317 : x5_1 < (l1.length : Int) := of_decide_eq_true (by first | (with_reducible assumption) | assumption)
                obtain ⟨ad317, e317, hx317_0⟩ := Kd.at_int HR1.out x5_1 p317 q317
                cases e317
                replace p317 := eq_true p317
                replace q317 := eq_true q317
                go_wp2
                repeat (go_quiet (fail); try go_wp2)
                go_roundg k1
                case measure => have := HK1.out; omega
                case rel => exact ⟨(wrap64 (x5_1 + 1)), (by first | rfl | (simp; done) | (simp [*]; done)), H', ⟨by have := HK1.out; omega⟩, by repeat (first | exact Drawn0.refl _ | apply Drawn0.step)⟩
              · rw [if_neg c7] at H
                have c7b0 : ((rd l0 x5_1) == (rd l1 x5_1)) = false := beq_eq_false_iff_ne.mpr c7
                have c7b1 : ((rd l0 x5_1) != (rd l1 x5_1)) = true := bne_iff_ne.mpr c7
                obtain rfl := Option.some.inj H
                have p316 : 0 ≤ (x5_1 : Int) := of_decide_eq_true (by first | (with_reducible assumption) | assumption)
                have q316 : x5_1 < (l0.length : Int) := of_decide_eq_true (by first | (with_reducible assumption) | assumption)
                obtain ⟨ad316, e316, hx316_0⟩ := Kd.at_int HR0.out x5_1 p316 q316
                cases e316
                replace p316 := eq_true p316
                replace q316 := eq_true q316
                have p317 : 0 ≤ (x5_1 : Int) := of_decide_eq_true (by first | (with_reducible assumption) | assumption)
                have q317 : x5_1 < (l1.length : Int) := of_decide_eq_true (by first | (with_reducible assumption) | assumption)
                obtain ⟨ad317, e317, hx317_0⟩ := Kd.at_int HR1.out x5_1 p317 q317
                cases e317
                replace p317 := eq_true p317
                replace q317 := eq_true q317
                go_wp2
                repeat (go_quiet (fail); try go_wp2)
                go_ret
                exact ⟨by first | rfl | (simp; done) | (simp [*]; done), by repeat (first | exact Drawn0.refl _ | apply Drawn0.step)⟩
            · rw [if_neg c6] at H
              exact absurd H (by simp)
          · rw [if_neg c5] at H
            exact absurd H (by simp)
        · rw [if_neg c4] at H
          have c4b0 : decide (x5_1 < (l0.length : Int)) = false := decide_eq_false c4
          clear c4
          obtain rfl := Option.some.inj H
          go_wp2
          repeat (go_quiet (fail); try go_wp2)
          go_ret
          exact ⟨by first | rfl | (simp; done) | (simp [*]; done), by repeat (first | exact Drawn0.refl _ | apply Drawn0.step)⟩
  · rw [if_neg c3] at H
    have c3b0 : ((l0.length : Int) == (l1.length : Int)) = false := beq_eq_false_iff_ne.mpr c3
    have c3b1 : ((l0.length : Int) != (l1.length : Int)) = true := bne_iff_ne.mpr c3
    have c3b2 : (l0.length == l1.length) = false := by first | simpa using c3 | (simp at c3 ⊢; omega)
    obtain rfl := Option.some.inj H
    go_enter Try.func31, Try.ntmps31
    go_wp2
    repeat (go_quiet (fail); try go_wp2)
    go_ret
    exact ⟨by first | rfl | (simp; done) | (simp [*]; done), by repeat (first | exact Drawn0.refl _ | apply Drawn0.step)⟩

end Go.Proofs.Ytgkbeejkbhhjkaa.X

/- What the functions of the program come to, and that they do: written by this session's program wip/xprint.py out of the translation; parts named extern are typed by hand. -/
namespace Go.Proofs.Ytgkbeejkbhhjkaa.X
open Go.RowKit Go.Proofs.YtgkbeejkbhhjkaaW.PrintWords Go.Proofs.YtgkbeejkbhhjkaaW.PrintLast Go.Proofs.YtgkbeejkbhhjkaaW.PrintMore
attribute [local go_sem] max2_int min2_int max_two min_two max_three min_three max_four min_four   -- for this text's walks alone
set_option linter.unusedVariables false
set_option linter.unusedSimpArgs false

/-! ### laws_markIntS: function 32 -/
def laws_markIntS.l0 : Nat → List Int → Int → Int → Option (Int × List Int)
  | 0, _, _, _ => none
  | k + 1, x0, x1, x5 => if x5 < (x0.length : Int) then (if 0 ≤ x5 then (laws_markIntS.l0 k (x0.set (x5 : Int).toNat x1) (wrap64 (x1 + 1)) (wrap64 (x5 + 1))) else (none)) else (some (x1, x0))
def laws_markIntS.f (k : Nat) (l0 : List Int) (a1 : Int) : Option (Int × List Int) := laws_markIntS.l0 k l0 a1 0
set_option maxHeartbeats 8000000 in
set_option maxRecDepth 100000 in
theorem laws_markIntS.calls (k : Nat) (P0_ : Nat → Prop) (u9000_ : Value) (l0 : List Int) (a1 : Int) (r1 : Int) (r2 : List Int) (w0 w : World) (hB : Below w0.heap.size w0 w) (ho0 : Kd.R (Kd.int .i64) 3 w w0.heap.size P0_ u9000_ l0) (h : laws_markIntS.f k l0 a1 = some (r1, r2)) :
    Calls Try.prog 32 #[u9000_, .int .i64 a1] w fun e w' => e = .returned (.int .i64 r1) ∧ Kd.R (Kd.int .i64) 3 w' w0.heap.size (fun k_ => (P0_ k_ ∨ w.heap.size ≤ k_)) u9000_ r2 ∧ Below w0.heap.size w0 w' ∧ Kept w w' (fun k_ => P0_ k_) := by
  have HO0 := Aside0.mk (show Kd.R (Kd.int .i64) 3 w w0.heap.size (fun k_ => (P0_ k_ ∨ w.heap.size ≤ k_)) u9000_ l0 from Kd.R_mono ho0 (fun k_ hk => (.inl hk)))
  have HK := Aside0.mk (Kept.refl w (fun k_ => P0_ k_))
  have HW0 := Aside0.mk hB.size
  have HB := Aside0.mk hB
  clear hB
  have H : (laws_markIntS.l0 k l0 a1 0) = some (r1, r2) := h
  clear h
  have H' := Aside0.mk H
  clear H
  go_enter Try.func32, Try.ntmps32
  go_wp2
  go_loopg [1, 5] k (fun kq v1 v5 w' => ∃ (x0_1 : List Int) (x1_1 : Int) (x5_1 : Int), v1 = .int .i64 x1_1 ∧ v5 = .int .i64 x5_1 ∧ Aside0 (laws_markIntS.l0 kq x0_1 x1_1 x5_1 = some (r1, r2)) ∧ Aside0 (kq ≤ k) ∧ Aside0 (Kd.R (Kd.int .i64) 3 w' w0.heap.size (fun k_ => (P0_ k_ ∨ w.heap.size ≤ k_)) u9000_ x0_1) ∧ Aside0 (Kept w w' (fun k_ => P0_ k_)) ∧ Aside0 (Below w0.heap.size w0 w'))
  case atStart => exact ⟨(l0), (a1), (0), (by first | rfl | (simp; done) | (simp [*]; done)), (by first | rfl | (simp; done) | (simp [*]; done)), H', ⟨Nat.le_refl _⟩, ⟨by (with_reducible repeat (first | apply Kd.R_alloc | apply Kd.R_drewN | apply Kd.R_drew)); exact HO0.out⟩, ⟨by repeat (first | (with_reducible first | exact HK.out | apply Kept.alloc | apply Kept.drewN | apply Kept.drew) | exact HK.out)⟩, ⟨by repeat (first | (with_reducible first | exact HB.out | apply below_alloc | apply pw_below_drewN | apply below_drew1) | exact HB.out)⟩⟩
  case round =>
    clear H'
    try clear p2
    obtain ⟨x0_1, x1_1, x5_1, rfl, rfl, HA, HK1, HO_0, HK, HB⟩ := hrel
    cases gk with
    | zero => exact absurd HA.out (by simp [laws_markIntS.l0])
    | succ k1 =>
      have H := HA.out
      clear HA
      simp only [laws_markIntS.l0] at H
      by_cases c3 : x5_1 < (x0_1.length : Int)
      · rw [if_pos c3] at H
        have c3b0 : decide (x5_1 < (x0_1.length : Int)) = true := decide_eq_true c3
        clear c3
        by_cases c4 : 0 ≤ x5_1
        · rw [if_pos c4] at H
          have c4b0 : decide (0 ≤ x5_1) = true := decide_eq_true c4
          clear c4
          obtain ⟨y318, hy318⟩ : ∃ y_ : List Int, y_ = (x0_1.set (x5_1 : Int).toNat x1_1) := ⟨_, rfl⟩
          replace H : (laws_markIntS.l0 k1 y318 (wrap64 (x1_1 + 1)) (wrap64 (x5_1 + 1))) = some (r1, r2) := by first | (rw [hy318]; with_reducible exact H) | (have H2_ := (Option.bind_some _ _).symm.trans H; rw [hy318]; with_reducible exact H2_) | (have H2_ := (Option.bind_some _ _).symm.trans H; with_reducible exact H2_) | with_reducible exact H | (rw [hy318]; exact H) | exact H
          have Ny318 := Aside0.mk hy318
          clear hy318
          have H' := Aside0.mk H
          clear H
          obtain ⟨Ao6, co6, eo6⟩ := Kd.R_slice HO_0.out
          subst eo6
          have p5 : 0 ≤ (x5_1 : Int) := of_decide_eq_true (by first | (with_reducible assumption) | assumption)
          have q5 : (x5_1 : Int) < ((x0_1.length : Int) : Int) := of_decide_eq_true (by first | (with_reducible assumption) | assumption)
          obtain ⟨go5, co5, eo5, gb5, gl5, cl5, HG5⟩ := Kd.R_form HO_0.out (by omega)
          (first | cases eo5 | (injection eo5 with ea_ en_ ec_; (first | subst ea_ | (injection ea_ with ea_; subst ea_)); subst ec_; clear en_))
          have GB5 := Aside0.mk gb5
          have GG5 := Aside0.mk HG5
          clear gb5 gl5 HG5
          have HMgo5 := Aside0.mk (show (P0_ go5 ∨ w.heap.size ≤ go5) from (HO_0.out.1 _ rfl))
          obtain ⟨hx5_0, hf5_0⟩ := Kd.R_celln 0 HO_0.out (x5_1 : Int) p5 q5
          replace p5 := eq_true p5
          replace q5 := eq_true q5
          have HP7 := Kd.R_putg HO_0.out (x5_1 : Int) x1_1
          go_wp2_with (first | ((with_reducible refine gate_store (t := 3) (p := 15) rfl ?_); refine store_event (t := 3) (p := 15) (v := ?vo_w8) (w1 := (wr.setCell ⟨go5, (x5_1 : Int).toNat, none⟩ (.int .i64 x1_1))) ?hg ?ho ?hn ?hr ?_; (case ho => rfl); (case hg => rfl); (case hn => rfl); (case hr => first | (go_simp; done) | (go_simp; rfl)); intro w8 hw; have hg : wr.grownBy w8 (some go5) := (by rw [hw]; exact HP7.2); have hp_ : Kd.R (Kd.int .i64) 3 w8 w0.heap.size (fun k_ => (P0_ k_ ∨ w.heap.size ≤ k_)) (.slice (some ⟨go5, 0, none⟩) x0_1.length co6) y318 := (by rw [hw, Ny318.out]; exact HP7.1); clear HP7; have n0_ := Aside0.mk (hp_); have n1_ := Aside0.mk ((by rw [hw]; exact below_set (HB.out) GB5.out : Below w0.heap.size w0 w8)); have n2_ := Aside0.mk (Kept.of_grown (S := (fun k_ => P0_ k_)) hg (by repeat (first | (with_reducible first | exact HK.out | apply Kept.alloc | apply Kept.drewN | apply Kept.drew) | exact HK.out)) (fun k_ e_ => (HO_0.out.1 k_ e_))); clear HO_0; clear HB; clear HK; have HO_0 := n0_; have HB := n1_; have HK := n2_; clear n0_ n1_ n2_; clear hg hw hp_))
          go_roundg k1
          case measure => have := HK1.out; omega
          case rel => exact ⟨(y318), (wrap64 (x1_1 + 1)), (wrap64 (x5_1 + 1)), (by first | rfl | (simp; done) | (simp [*]; done)), (by first | rfl | (simp; done) | (simp [*]; done)), H', ⟨by have := HK1.out; omega⟩, ⟨by (with_reducible repeat (first | apply Kd.R_alloc | apply Kd.R_drewN | apply Kd.R_drew)); exact HO_0.out⟩, ⟨by repeat (first | (with_reducible first | exact HK.out | apply Kept.alloc | apply Kept.drewN | apply Kept.drew) | exact HK.out)⟩, ⟨by repeat (first | (with_reducible first | exact HB.out | apply below_alloc | apply pw_below_drewN | apply below_drew1) | exact HB.out)⟩⟩
        · rw [if_neg c4] at H
          exact absurd H (by simp)
      · rw [if_neg c3] at H
        have c3b0 : decide (x5_1 < (x0_1.length : Int)) = false := decide_eq_false c3
        clear c3
        simp only [Option.some.injEq, Prod.mk.injEq] at H
        obtain ⟨rfl, rfl⟩ := H
        obtain ⟨Ao9, co9, eo9⟩ := Kd.R_slice HO_0.out
        subst eo9
        go_wp2
        go_ret
        exact ⟨by first | rfl | (simp [errW_none, errW_some] <;> rfl) | (simp [*, errW_none, errW_some] <;> rfl), by (with_reducible repeat (first | apply Kd.R_alloc | apply Kd.R_drewN | apply Kd.R_drew)); exact HO_0.out, by repeat (first | (with_reducible first | exact HB.out | apply below_alloc | apply pw_below_drewN | apply below_drew1) | exact HB.out), by repeat (first | (with_reducible first | exact HK.out | apply Kept.alloc | apply Kept.drewN | apply Kept.drew) | exact HK.out)⟩

/-! ### laws_heldIntS: function 33 -/
def laws_heldIntS.l0 : Nat → List Int → Int → Int → Option (Int)
  | 0, _, _, _ => none
  | k + 1, x0, x1, x5 => if x5 < (x0.length : Int) then (if 0 ≤ x5 then (if (rd x0 x5) = x1 then (laws_heldIntS.l0 k x0 (wrap64 (x1 + 1)) (wrap64 (x5 + 1))) else (some (-1))) else (none)) else (some x1)
def laws_heldIntS.f (k : Nat) (l0 : List Int) (a1 : Int) : Option (Int) := laws_heldIntS.l0 k l0 a1 0
set_option maxHeartbeats 8000000 in
set_option maxRecDepth 100000 in
theorem laws_heldIntS.calls (k : Nat) (A0 : Option Addr) (c0 : Nat) (l0 : List Int) (a1 : Int) (r : Int) (w : World) (hr0 : Kd.C (Kd.int .i64) w A0 l0.length l0) (hc0 : l0.length ≤ c0) (h : laws_heldIntS.f k l0 a1 = some r) :
    Calls Try.prog 33 #[.slice A0 l0.length c0, .int .i64 a1] w fun e w' => e = .returned (.int .i64 r) ∧ Drawn0 w w' := by
  have HR0 := Aside0.mk hr0
  have HC0 := Aside0.mk hc0
  clear hr0 hc0
  have H : (laws_heldIntS.l0 k l0 a1 0) = some r := h
  clear h
  have H' := Aside0.mk H
  clear H
  go_enter Try.func33, Try.ntmps33
  go_wp2
  go_loopg [1, 5] k (fun kq v1 v5 w' => ∃ (x1_1 : Int) (x5_1 : Int), v1 = .int .i64 x1_1 ∧ v5 = .int .i64 x5_1 ∧ Aside0 (laws_heldIntS.l0 kq l0 x1_1 x5_1 = some r) ∧ Aside0 (kq ≤ k) ∧ Drawn0 w w')
  case atStart => exact ⟨(a1), (0), (by first | rfl | (simp; done) | (simp [*]; done)), (by first | rfl | (simp; done) | (simp [*]; done)), H', ⟨Nat.le_refl _⟩, by repeat (first | exact Drawn0.refl _ | apply Drawn0.step)⟩
  case round =>
    clear H'
    try clear p2
    obtain ⟨x1_1, x5_1, rfl, rfl, HA, HK1, ⟨m1, rfl⟩⟩ := hrel
    cases gk with
    | zero => exact absurd HA.out (by simp [laws_heldIntS.l0])
    | succ k1 =>
      have H := HA.out
      clear HA
      simp only [laws_heldIntS.l0] at H
      by_cases c3 : x5_1 < (l0.length : Int)
      · rw [if_pos c3] at H
        have c3b0 : decide (x5_1 < (l0.length : Int)) = true := decide_eq_true c3
        clear c3
        by_cases c4 : 0 ≤ x5_1
        · rw [if_pos c4] at H
          have c4b0 : decide (0 ≤ x5_1) = true := decide_eq_true c4
          clear c4
          by_cases c5 : (rd l0 x5_1) = x1_1
          · rw [if_pos c5] at H
            have c5b0 : ((rd l0 x5_1) == x1_1) = true := beq_iff_eq.mpr c5
            have c5b1 : ((rd l0 x5_1) != x1_1) = false := bne_eq_false_iff_eq.mpr c5
            clear c5
            have H' := Aside0.mk H
            clear H
            have p319 : 0 ≤ (x5_1 : Int) := of_decide_eq_true (by first | (with_reducible assumption) | assumption)
            have q319 : x5_1 < (l0.length : Int) := of_decide_eq_true (by first | (with_reducible assumption) | assumption)
            obtain ⟨ad319, e319, hx319_0⟩ := Kd.at_int HR0.out x5_1 p319 q319
            cases e319
            replace p319 := eq_true p319
            replace q319 := eq_true q319
            go_wp2
            go_roundg k1
            case measure => have := HK1.out; omega
            case rel => exact ⟨(wrap64 (x1_1 + 1)), (wrap64 (x5_1 + 1)), (by first | rfl | (simp; done) | (simp [*]; done)), (by first | rfl | (simp; done) | (simp [*]; done)), H', ⟨by have := HK1.out; omega⟩, by repeat (first | exact Drawn0.refl _ | apply Drawn0.step)⟩
          · rw [if_neg c5] at H
            have c5b0 : ((rd l0 x5_1) == x1_1) = false := beq_eq_false_iff_ne.mpr c5
            have c5b1 : ((rd l0 x5_1) != x1_1) = true := bne_iff_ne.mpr c5
            obtain rfl := Option.some.inj H
            have p319 : 0 ≤ (x5_1 : Int) := of_decide_eq_true (by first | (with_reducible assumption) | assumption)
            have q319 : x5_1 < (l0.length : Int) := of_decide_eq_true (by first | (with_reducible assumption) | assumption)
            obtain ⟨ad319, e319, hx319_0⟩ := Kd.at_int HR0.out x5_1 p319 q319
            cases e319
            replace p319 := eq_true p319
            replace q319 := eq_true q319
            go_wp2
            go_ret
            exact ⟨by first | rfl | (simp; done) | (simp [*]; done), by repeat (first | exact Drawn0.refl _ | apply Drawn0.step)⟩
        · rw [if_neg c4] at H
          exact absurd H (by simp)
      · rw [if_neg c3] at H
        have c3b0 : decide (x5_1 < (l0.length : Int)) = false := decide_eq_false c3
        clear c3
        obtain rfl := Option.some.inj H
        go_wp2
        go_ret
        exact ⟨by first | rfl | (simp; done) | (simp [*]; done), by repeat (first | exact Drawn0.refl _ | apply Drawn0.step)⟩

end Go.Proofs.Ytgkbeejkbhhjkaa.X

/- What the functions of the program come to, and that they do: written by this session's program wip/xprint.py out of the translation; parts named extern are typed by hand. -/
namespace Go.Proofs.Ytgkbeejkbhhjkaa.X
open Go.RowKit Go.Proofs.YtgkbeejkbhhjkaaW.PrintWords Go.Proofs.YtgkbeejkbhhjkaaW.PrintLast Go.Proofs.YtgkbeejkbhhjkaaW.PrintMore
attribute [local go_sem] max2_int min2_int max_two min_two max_three min_three max_four min_four   -- for this text's walks alone
set_option linter.unusedVariables false
set_option linter.unusedSimpArgs false

/-! ### spec_slNew: function 57 -/
/- EXTERN, by hand (wip/hand/slotall.py): slot rings: what a station does, the rings' states; the reference's ring at first. -/
/-- Slots, the ticks of filling, the ticks of reading. -/
abbrev SlSt := List Int × List Int × List Int
section
variable (J : List S30) (fah : Bool) (t : Int)
def slWaits (filled : List Int) (at_ : Int) (i : Nat) : Bool := decide ((rd_T30 J (i : Int)).f1 = at_) && (decide ((rd_T30 J (i : Int)).f0 ≤ t) && decide (rd filled (i : Int) < 0))
/-- The first message of a station that waits, of the first m ones; -1 if there is none. -/
def slNext (filled : List Int) (at_ : Int) : Nat → Int
  | 0 => -1
  | m + 1 => if 0 ≤ slNext filled at_ m then slNext filled at_ m else if slWaits J t filled at_ m = true then (m : Int) else -1
def slHit (read : List Int) (at_ v : Int) : Bool := decide (0 < v) && (decide ((rd_T30 J (v - 1)).f2 = at_) && decide (rd read (v - 1) < 0))
def slHome (read : List Int) (at_ v : Int) : Bool := decide (0 < v) && (fah && (decide ((rd_T30 J (v - 1)).f1 = at_) && (slHit J read at_ v || decide (0 ≤ rd read (v - 1)))))
def slLeft (read : List Int) (at_ v : Int) : Int := if slHome J fah read at_ v = true ∨ (slHit J read at_ v = true ∧ fah = false) then 0 else v
def slFill (filled read : List Int) (at_ v : Int) : Int := if 0 < slLeft J fah read at_ v ∨ slHome J fah read at_ v = true then -1 else slNext J t filled at_ J.length
/-- What the station at_ does with slot k. -/
def slOne (k : Nat) (at_ : Int) (s : SlSt) : SlSt :=
  (s.1.set k (if 0 ≤ slFill J fah t s.2.1 s.2.2 at_ (rd s.1 (k : Int)) then slFill J fah t s.2.1 s.2.2 at_ (rd s.1 (k : Int)) + 1 else slLeft J fah s.2.2 at_ (rd s.1 (k : Int))),
   if 0 ≤ slFill J fah t s.2.1 s.2.2 at_ (rd s.1 (k : Int)) then s.2.1.set (slFill J fah t s.2.1 s.2.2 at_ (rd s.1 (k : Int))).toNat t else s.2.1,
   if slHit J s.2.2 at_ (rd s.1 (k : Int)) = true then s.2.2.set (rd s.1 (k : Int) - 1).toNat t else s.2.2)
end
/-- No message lies in two slots; one that lies in a slot has been filled in; the rows are as long as they should be. -/
def SlInv (n m : Nat) (s : SlSt) : Prop := s.1.length = n ∧ s.2.1.length = m ∧ s.2.2.length = m ∧ (∀ k : Nat, k < n → 0 ≤ rd s.1 (k : Int) ∧ rd s.1 (k : Int) ≤ (m : Int)) ∧
  (∀ k k' : Nat, k < n → k' < n → k ≠ k' → 0 < rd s.1 (k : Int) → rd s.1 (k : Int) ≠ rd s.1 (k' : Int)) ∧ (∀ k : Nat, k < n → 0 < rd s.1 (k : Int) → 0 ≤ rd s.2.1 (rd s.1 (k : Int) - 1))
theorem slNext_in {J : List S30} {t at_ : Int} {filled : List Int} : ∀ m, 0 ≤ slNext J t filled at_ m → ∃ i : Nat, slNext J t filled at_ m = (i : Int) ∧ i < m ∧ slWaits J t filled at_ i = true
  | 0, h => by simp [slNext] at h
  | m + 1, h => by
    unfold slNext at h ⊢
    by_cases h1 : 0 ≤ slNext J t filled at_ m
    · rw [if_pos h1]
      obtain ⟨i, h2, h3, h4⟩ := slNext_in m h1
      exact ⟨i, h2, by omega, h4⟩
    · rw [if_neg h1] at h ⊢
      by_cases h2 : slWaits J t filled at_ m = true
      · rw [if_pos h2]
        exact ⟨m, rfl, by omega, h2⟩
      · rw [if_neg h2] at h
        omega
theorem slNext_congr {J : List S30} {t at_ : Int} {f1 f2 : List Int} (h : ∀ i : Nat, (rd_T30 J (i : Int)).f1 = at_ → rd f1 (i : Int) = rd f2 (i : Int)) : ∀ m, slNext J t f1 at_ m = slNext J t f2 at_ m
  | 0 => rfl
  | m + 1 => by
    unfold slNext
    rw [slNext_congr h m]
    have : slWaits J t f1 at_ m = slWaits J t f2 at_ m := by
      unfold slWaits
      by_cases h1 : (rd_T30 J (m : Int)).f1 = at_
      · rw [h m h1]
      · simp [h1]
    rw [this]
theorem rd_set_ne (l : List Int) (i j : Nat) (v : Int) (h : i ≠ j) : rd (l.set i v) (j : Int) = rd l (j : Int) := by
  simp [rd, List.getD_eq_getElem?_getD, List.getElem?_set_ne h]
theorem rd_set_eq (l : List Int) (i : Nat) (v : Int) (h : i < l.length) : rd (l.set i v) (i : Int) = v := by
  simp [rd, List.getD_eq_getElem?_getD, h]
theorem rd_set_nei (l : List Int) (i : Nat) (x v : Int) (hx : 0 ≤ x) (h : (i : Int) ≠ x) : rd (l.set i v) x = rd l x := by
  obtain ⟨j, rfl⟩ := Int.eq_ofNat_of_zero_le hx
  exact rd_set_ne l i j v (by omega)
section
variable {J : List S30} {fah : Bool} {t : Int}
theorem slHit_pos {read : List Int} {at_ v : Int} (h : slHit J read at_ v = true) : 0 < v := by
  unfold slHit at h
  simp only [Bool.and_eq_true, decide_eq_true_eq] at h
  exact h.1
theorem slHit_congr {r1 r2 : List Int} {at_ v : Int} (h : 0 < v → rd r1 (v - 1) = rd r2 (v - 1)) : slHit J r1 at_ v = slHit J r2 at_ v := by
  unfold slHit
  by_cases hv : 0 < v
  · rw [h hv]
  · simp [hv]
theorem slHome_congr {r1 r2 : List Int} {at_ v : Int} (h : 0 < v → rd r1 (v - 1) = rd r2 (v - 1)) : slHome J fah r1 at_ v = slHome J fah r2 at_ v := by
  unfold slHome
  rw [slHit_congr h]
  by_cases hv : 0 < v
  · rw [h hv]
  · simp [hv]
theorem slLeft_congr {r1 r2 : List Int} {at_ v : Int} (h : 0 < v → rd r1 (v - 1) = rd r2 (v - 1)) : slLeft J fah r1 at_ v = slLeft J fah r2 at_ v := by
  unfold slLeft
  rw [slHome_congr h, slHit_congr h]
theorem slFill_congr {f1 f2 r1 r2 : List Int} {at_ v : Int} (hf : ∀ i : Nat, (rd_T30 J (i : Int)).f1 = at_ → rd f1 (i : Int) = rd f2 (i : Int)) (h : 0 < v → rd r1 (v - 1) = rd r2 (v - 1)) : slFill J fah t f1 r1 at_ v = slFill J fah t f2 r2 at_ v := by
  unfold slFill
  rw [slLeft_congr h, slHome_congr h, slNext_congr hf]
theorem slFill_in {filled read : List Int} {at_ v : Int} (h : 0 ≤ slFill J fah t filled read at_ v) : ∃ i : Nat, slFill J fah t filled read at_ v = (i : Int) ∧ i < J.length ∧ slWaits J t filled at_ i = true := by
  unfold slFill at h ⊢
  by_cases c : 0 < slLeft J fah read at_ v ∨ slHome J fah read at_ v = true
  · rw [if_pos c] at h; omega
  · rw [if_neg c] at h ⊢
    exact slNext_in J.length h
/-- What lies at other stations and slots is as it was. -/
theorem slOne_other {n : Nat} {k k' : Nat} {a a' : Int} {s : SlSt} (hi : SlInv n J.length s) (hk : k < n) (hk' : k' < n) (hkk : k ≠ k') (haa : a ≠ a') :
    rd (slOne J fah t k a s).1 (k' : Int) = rd s.1 (k' : Int) ∧ (∀ i : Nat, (rd_T30 J (i : Int)).f1 = a' → rd (slOne J fah t k a s).2.1 (i : Int) = rd s.2.1 (i : Int)) ∧ (0 < rd s.1 (k' : Int) → rd (slOne J fah t k a s).2.2 (rd s.1 (k' : Int) - 1) = rd s.2.2 (rd s.1 (k' : Int) - 1)) := by
  obtain ⟨h1, h2, h3, h4, h5, h6⟩ := hi
  refine ⟨rd_set_ne _ _ _ _ hkk, fun i hfi => ?_, fun hv => ?_⟩
  · show rd (if 0 ≤ slFill J fah t s.2.1 s.2.2 a (rd s.1 (k : Int)) then _ else _) (i : Int) = _
    by_cases c : 0 ≤ slFill J fah t s.2.1 s.2.2 a (rd s.1 (k : Int))
    · rw [if_pos c]
      obtain ⟨j, hj1, hj2, hj3⟩ := slFill_in c
      rw [hj1, Int.toNat_natCast]
      refine rd_set_ne _ _ _ _ ?_
      rintro rfl
      unfold slWaits at hj3
      simp only [Bool.and_eq_true, decide_eq_true_eq] at hj3
      exact haa (hj3.1.symm.trans hfi)
    · rw [if_neg c]
  · show rd (if slHit J s.2.2 a (rd s.1 (k : Int)) = true then _ else _) (rd s.1 (k' : Int) - 1) = _
    by_cases c : slHit J s.2.2 a (rd s.1 (k : Int)) = true
    · rw [if_pos c]
      have hp := slHit_pos c
      have hne := h5 k k' hk hk' hkk hp
      exact rd_set_nei _ _ _ _ (by omega) (by omega)
    · rw [if_neg c]
theorem slOne_comm {n : Nat} {k k' : Nat} {a a' : Int} {s : SlSt} (hi : SlInv n J.length s) (hk : k < n) (hk' : k' < n) (hkk : k ≠ k') (haa : a ≠ a') :
    slOne J fah t k' a' (slOne J fah t k a s) = slOne J fah t k a (slOne J fah t k' a' s) := by
  obtain ⟨p1, p2, p3⟩ := slOne_other (J := J) (fah := fah) (t := t) hi hk hk' hkk haa
  obtain ⟨q1, q2, q3⟩ := slOne_other (J := J) (fah := fah) (t := t) hi hk' hk (Ne.symm hkk) (Ne.symm haa)
  have e1 : slFill J fah t (slOne J fah t k a s).2.1 (slOne J fah t k a s).2.2 a' (rd (slOne J fah t k a s).1 (k' : Int)) = slFill J fah t s.2.1 s.2.2 a' (rd s.1 (k' : Int)) := by rw [p1]; exact slFill_congr p2 p3
  have e2 : slLeft J fah (slOne J fah t k a s).2.2 a' (rd (slOne J fah t k a s).1 (k' : Int)) = slLeft J fah s.2.2 a' (rd s.1 (k' : Int)) := by rw [p1]; exact slLeft_congr p3
  have e3 : slHit J (slOne J fah t k a s).2.2 a' (rd (slOne J fah t k a s).1 (k' : Int)) = slHit J s.2.2 a' (rd s.1 (k' : Int)) := by rw [p1]; exact slHit_congr p3
  have g1 : slFill J fah t (slOne J fah t k' a' s).2.1 (slOne J fah t k' a' s).2.2 a (rd (slOne J fah t k' a' s).1 (k : Int)) = slFill J fah t s.2.1 s.2.2 a (rd s.1 (k : Int)) := by rw [q1]; exact slFill_congr q2 q3
  have g2 : slLeft J fah (slOne J fah t k' a' s).2.2 a (rd (slOne J fah t k' a' s).1 (k : Int)) = slLeft J fah s.2.2 a (rd s.1 (k : Int)) := by rw [q1]; exact slLeft_congr q3
  have g3 : slHit J (slOne J fah t k' a' s).2.2 a (rd (slOne J fah t k' a' s).1 (k : Int)) = slHit J s.2.2 a (rd s.1 (k : Int)) := by rw [q1]; exact slHit_congr q3
  obtain ⟨h1, h2, h3, h4, h5, h6⟩ := hi
  refine Prod.ext ?_ (Prod.ext ?_ ?_)
  · show (slOne J fah t k a s).1.set k' (if 0 ≤ slFill J fah t (slOne J fah t k a s).2.1 (slOne J fah t k a s).2.2 a' (rd (slOne J fah t k a s).1 (k' : Int)) then _ else _) = (slOne J fah t k' a' s).1.set k (if 0 ≤ slFill J fah t (slOne J fah t k' a' s).2.1 (slOne J fah t k' a' s).2.2 a (rd (slOne J fah t k' a' s).1 (k : Int)) then _ else _)
    rw [e1, e2, g1, g2]
    exact List.set_comm _ _ hkk
  · show (if 0 ≤ slFill J fah t (slOne J fah t k a s).2.1 (slOne J fah t k a s).2.2 a' (rd (slOne J fah t k a s).1 (k' : Int)) then _ else _) = (if 0 ≤ slFill J fah t (slOne J fah t k' a' s).2.1 (slOne J fah t k' a' s).2.2 a (rd (slOne J fah t k' a' s).1 (k : Int)) then _ else _)
    rw [e1, g1]
    show (if _ then List.set (if 0 ≤ slFill J fah t s.2.1 s.2.2 a (rd s.1 (k : Int)) then _ else _) _ _ else (if 0 ≤ slFill J fah t s.2.1 s.2.2 a (rd s.1 (k : Int)) then _ else _)) = (if _ then List.set (if 0 ≤ slFill J fah t s.2.1 s.2.2 a' (rd s.1 (k' : Int)) then _ else _) _ _ else (if 0 ≤ slFill J fah t s.2.1 s.2.2 a' (rd s.1 (k' : Int)) then _ else _))
    by_cases c : 0 ≤ slFill J fah t s.2.1 s.2.2 a (rd s.1 (k : Int)) <;> by_cases c' : 0 ≤ slFill J fah t s.2.1 s.2.2 a' (rd s.1 (k' : Int))
    · simp only [if_pos c, if_pos c']
      obtain ⟨j, hj1, hj2, hj3⟩ := slFill_in c
      obtain ⟨j', hj1', hj2', hj3'⟩ := slFill_in c'
      refine List.set_comm _ _ ?_
      rw [hj1, hj1', Int.toNat_natCast, Int.toNat_natCast]
      rintro rfl
      unfold slWaits at hj3 hj3'
      simp only [Bool.and_eq_true, decide_eq_true_eq] at hj3 hj3'
      exact haa (hj3.1.symm.trans hj3'.1)
    · simp only [if_pos c, if_neg c']
    · simp only [if_neg c, if_pos c']
    · simp only [if_neg c, if_neg c']
  · show (if slHit J (slOne J fah t k a s).2.2 a' (rd (slOne J fah t k a s).1 (k' : Int)) = true then _ else _) = (if slHit J (slOne J fah t k' a' s).2.2 a (rd (slOne J fah t k' a' s).1 (k : Int)) = true then _ else _)
    rw [e3, g3, p1, q1]
    show (if _ then List.set (if slHit J s.2.2 a (rd s.1 (k : Int)) = true then _ else _) _ _ else (if slHit J s.2.2 a (rd s.1 (k : Int)) = true then _ else _)) = (if _ then List.set (if slHit J s.2.2 a' (rd s.1 (k' : Int)) = true then _ else _) _ _ else (if slHit J s.2.2 a' (rd s.1 (k' : Int)) = true then _ else _))
    by_cases c : slHit J s.2.2 a (rd s.1 (k : Int)) = true <;> by_cases c' : slHit J s.2.2 a' (rd s.1 (k' : Int)) = true
    · simp only [if_pos c, if_pos c']
      have hp := slHit_pos c
      have hp' := slHit_pos c'
      have hne := h5 k k' hk hk' hkk hp
      exact List.set_comm _ _ (by omega)
    · simp only [if_pos c, if_neg c']
    · simp only [if_neg c, if_pos c']
    · simp only [if_neg c, if_neg c']
theorem slOne_inv {n : Nat} {k : Nat} {a : Int} {s : SlSt} (ht : 0 ≤ t) (hi : SlInv n J.length s) (hk : k < n) : SlInv n J.length (slOne J fah t k a s) := by
  obtain ⟨h1, h2, h3, h4, h5, h6⟩ := hi
  have hl1 : (slOne J fah t k a s).1.length = n := by show (List.set _ _ _).length = n; rw [List.length_set]; exact h1
  have hl2 : (slOne J fah t k a s).2.1.length = J.length := by
    show (if _ then _ else _ : List Int).length = _
    split
    · rw [List.length_set]; exact h2
    · exact h2
  have hl3 : (slOne J fah t k a s).2.2.length = J.length := by
    show (if _ then _ else _ : List Int).length = _
    split
    · rw [List.length_set]; exact h3
    · exact h3
  have hsame : ∀ k', k' ≠ k → rd (slOne J fah t k a s).1 (k' : Int) = rd s.1 (k' : Int) := fun k' hne => rd_set_ne _ _ _ _ (Ne.symm hne)
  have hv := h4 k hk
  by_cases c : 0 ≤ slFill J fah t s.2.1 s.2.2 a (rd s.1 (k : Int))
  · obtain ⟨i, hi1, hi2, hi3⟩ := slFill_in c
    unfold slWaits at hi3
    simp only [Bool.and_eq_true, decide_eq_true_eq] at hi3
    have hnew : rd (slOne J fah t k a s).1 (k : Int) = (i : Int) + 1 := by
      show rd (List.set _ _ (if _ then _ else _)) (k : Int) = _
      rw [if_pos c, rd_set_eq _ _ _ (by omega), hi1]
    have hfil : (slOne J fah t k a s).2.1 = s.2.1.set i t := by
      show (if _ then _ else _ : List Int) = _
      rw [if_pos c, hi1, Int.toNat_natCast]
    have hfi : ∀ x : Int, 0 ≤ x → 0 ≤ rd s.2.1 x → 0 ≤ rd (s.2.1.set i t) x := fun x hx0 hx => by
      by_cases e : (i : Int) = x
      · rw [← e, rd_set_eq _ _ _ (by omega)]; exact ht
      · rw [rd_set_nei _ _ _ _ hx0 e]; exact hx
    have hno : ∀ k' : Nat, k' < n → rd s.1 (k' : Int) ≠ (i : Int) + 1 := fun k' hk' e => by
      have := h6 k' hk' (by omega)
      rw [e, show (i : Int) + 1 - 1 = (i : Int) by omega] at this
      omega
    refine ⟨hl1, hl2, hl3, fun k' hk' => ?_, fun k1 k2 hk1 hk2 hne hp => ?_, fun k' hk' hp => ?_⟩
    · by_cases e : k' = k
      · rw [e, hnew]; omega
      · rw [hsame k' e]; exact h4 k' hk'
    · by_cases e1 : k1 = k
      · have e2 : k2 ≠ k := fun e => hne (e1.trans e.symm)
        rw [e1, hnew, hsame k2 e2]
        exact Ne.symm (hno k2 hk2)
      · by_cases e2 : k2 = k
        · rw [e2, hnew, hsame k1 e1]
          exact hno k1 hk1
        · rw [hsame k1 e1] at hp ⊢
          rw [hsame k2 e2]
          exact h5 k1 k2 hk1 hk2 hne hp
    · rw [hfil]
      by_cases e : k' = k
      · rw [e, hnew, show (i : Int) + 1 - 1 = (i : Int) by omega, rd_set_eq _ _ _ (by omega)]
        exact ht
      · rw [hsame k' e] at hp ⊢
        exact hfi _ (by omega) (h6 k' hk' hp)
  · have hnew : rd (slOne J fah t k a s).1 (k : Int) = slLeft J fah s.2.2 a (rd s.1 (k : Int)) := by
      show rd (List.set _ _ (if _ then _ else _)) (k : Int) = _
      rw [if_neg c, rd_set_eq _ _ _ (by omega)]
    have hleft : slLeft J fah s.2.2 a (rd s.1 (k : Int)) = 0 ∨ slLeft J fah s.2.2 a (rd s.1 (k : Int)) = rd s.1 (k : Int) := by
      unfold slLeft
      split
      · exact .inl rfl
      · exact .inr rfl
    have hfil : (slOne J fah t k a s).2.1 = s.2.1 := by
      show (if _ then _ else _ : List Int) = _
      rw [if_neg c]
    refine ⟨hl1, hl2, hl3, fun k' hk' => ?_, fun k1 k2 hk1 hk2 hne hp => ?_, fun k' hk' hp => ?_⟩
    · by_cases e : k' = k
      · rw [e, hnew]; omega
      · rw [hsame k' e]; exact h4 k' hk'
    · by_cases e1 : k1 = k
      · have e2 : k2 ≠ k := fun e => hne (e1.trans e.symm)
        rw [e1, hnew] at hp ⊢
        rw [hsame k2 e2]
        have := h5 k k2 hk hk2 (Ne.symm e2) (by omega)
        omega
      · by_cases e2 : k2 = k
        · rw [hsame k1 e1] at hp ⊢
          rw [e2, hnew]
          have := h5 k1 k hk1 hk e1 hp
          omega
        · rw [hsame k1 e1] at hp ⊢
          rw [hsame k2 e2]
          exact h5 k1 k2 hk1 hk2 hne hp
    · rw [hfil]
      by_cases e : k' = k
      · rw [e, hnew] at hp ⊢
        rcases hleft with h | h
        · omega
        · rw [h] at hp ⊢; exact h6 k hk hp
      · rw [hsame k' e] at hp ⊢
        exact h6 k' hk' hp
end

/-- The slots ahead of m have been seen to. -/
def slTo (J : List (S30)) (fah : Bool) (t : Int) (n : Nat) (s : SlSt) : Nat → SlSt
  | 0 => s
  | m + 1 => slOne J fah t m (Int.tmod ((m : Int) + t) (n : Int)) (slTo J fah t n s m)
theorem slTo_len (J : List (S30)) (fah : Bool) (t : Int) (n : Nat) (s : SlSt) : ∀ m, (slTo J fah t n s m).1.length = s.1.length
  | 0 => rfl
  | m + 1 => by
    show (List.set _ _ _).length = _
    rw [List.length_set]
    exact slTo_len J fah t n s m
theorem slTo_inv {J : List (S30)} {fah : Bool} {t : Int} {n : Nat} {s : SlSt} (ht : 0 ≤ t) (h : SlInv n J.length s) : ∀ m, m ≤ n → SlInv n J.length (slTo J fah t n s m)
  | 0, _ => h
  | m + 1, hm => slOne_inv ht (slTo_inv ht h m (by omega)) (by omega)
/-- A ring with free slots. -/
def slInit (n m : Nat) : SlSt := (List.replicate n 0, List.replicate m (-1), List.replicate m (-1))
theorem rd_rep (n : Nat) (x : Int) (k : Nat) (h : k < n) : rd (List.replicate n x) (k : Int) = x := by simp [rd, List.getD_eq_getElem?_getD, h]
theorem slInit_inv (n m : Nat) : SlInv n m (slInit n m) := by
  refine ⟨by simp [slInit], by simp [slInit], by simp [slInit], fun k hk => ?_, fun k k' hk _ _ hp => ?_, fun k hk hp => ?_⟩
  · show 0 ≤ rd (List.replicate n 0) (k : Int) ∧ rd (List.replicate n 0) (k : Int) ≤ _
    rw [rd_rep n 0 k hk]; omega
  · rw [show rd (slInit n m).1 (k : Int) = 0 from rd_rep n 0 k hk] at hp; omega
  · rw [show rd (slInit n m).1 (k : Int) = 0 from rd_rep n 0 k hk] at hp; omega
/-- The ring behind so many ticks. -/
def slRunTo (J : List (S30)) (fah : Bool) (n : Nat) : Nat → SlSt
  | 0 => slInit n J.length
  | t + 1 => slTo J fah (t : Int) n (slRunTo J fah n t) n
theorem slRunTo_inv (J : List (S30)) (fah : Bool) (n : Nat) : ∀ t, SlInv n J.length (slRunTo J fah n t)
  | 0 => slInit_inv n J.length
  | t + 1 => slTo_inv (by omega) (slRunTo_inv J fah n t) n (Nat.le_refl _)
theorem wrapS {x : Int} (h1 : -9223372036854775808 ≤ x) (h2 : x ≤ 9223372036854775807) : wrap64 x = x := by unfold wrap64; omega
theorem slNext_lt (J : List (S30)) (t : Int) (fi : List Int) (a : Int) : ∀ m, 0 ≤ slNext J t fi a m → slNext J t fi a m < (m : Int)
  | 0, h => by simp [slNext] at h
  | m + 1, h => by
    unfold slNext at h ⊢
    by_cases c : 0 ≤ slNext J t fi a m
    · rw [if_pos c]
      have := slNext_lt J t fi a m c
      omega
    · rw [if_neg c] at h ⊢
      split <;> omega
/-- Is the slot freed, and what the rows hold then. -/
def slFreed (J : List (S30)) (fah : Bool) (re : List Int) (a v : Int) : Bool := slHome J fah re a v || (slHit J re a v && !fah)
def slRe (J : List (S30)) (t : Int) (re : List Int) (a v : Int) : List Int := if slHit J re a v = true then re.set (v - 1).toNat t else re
theorem slLeft_eq (J : List (S30)) (fah : Bool) (re : List Int) (a v : Int) : slLeft J fah re a v = if slFreed J fah re a v = true then 0 else v := by
  unfold slLeft slFreed
  have : (slHome J fah re a v = true ∨ (slHit J re a v = true ∧ fah = false)) ↔ (slHome J fah re a v || (slHit J re a v && !fah)) = true := by
    simp only [Bool.or_eq_true, Bool.and_eq_true, Bool.not_eq_true']
  by_cases h : slHome J fah re a v = true ∨ (slHit J re a v = true ∧ fah = false)
  · rw [if_pos h, if_pos (this.1 h)]
  · rw [if_neg h, if_neg (fun e => h (this.2 e))]
/-- A full slot: what its message says. -/
theorem slHit_at (J : List (S30)) (re : List Int) (a : Int) (j : Nat) : slHit J re a ((j : Int) + 1) = (decide ((rd_T30 J (j : Int)).f2 = a) && decide (rd re (j : Int) < 0)) := by
  unfold slHit
  rw [show (j : Int) + 1 - 1 = (j : Int) by omega, show decide (0 < (j : Int) + 1) = true from decide_eq_true (by omega), Bool.true_and]
theorem slHome_at (J : List (S30)) (fah : Bool) (t : Int) (ht : 0 ≤ t) (re : List Int) (a : Int) (j : Nat) (hj : j < re.length) : slHome J fah re a ((j : Int) + 1) = (fah && (decide ((rd_T30 J (j : Int)).f1 = a) && decide (0 ≤ rd (slRe J t re a ((j : Int) + 1)) (j : Int)))) := by
  unfold slHome slRe
  rw [show (j : Int) + 1 - 1 = (j : Int) by omega, show decide (0 < (j : Int) + 1) = true from decide_eq_true (by omega), Bool.true_and]
  by_cases h : slHit J re a ((j : Int) + 1) = true
  · rw [if_pos h, h, Int.toNat_natCast, rd_set_eq _ _ _ hj, Bool.true_or, decide_eq_true ht]
  · rw [if_neg h, Bool.eq_false_iff.mpr h, Bool.false_or]
theorem slOne_cont {J : List (S30)} {fah : Bool} {t : Int} {m : Nat} {a v : Int} {sl fi re : List Int} (hv : rd sl (m : Int) = v) (h : slFill J fah t fi re a v < 0) : slOne J fah t m a (sl, fi, re) = (sl.set m (slLeft J fah re a v), fi, slRe J t re a v) := by
  unfold slOne slRe
  dsimp only
  rw [hv, if_neg (by omega), if_neg (by omega)]
theorem slOne_fill {J : List (S30)} {fah : Bool} {t : Int} {m i : Nat} {a v : Int} {sl fi re : List Int} (hv : rd sl (m : Int) = v) (h : slFill J fah t fi re a v = (i : Int)) : slOne J fah t m a (sl, fi, re) = ((sl.set m (slLeft J fah re a v)).set m ((i : Int) + 1), fi.set i t, slRe J t re a v) := by
  unfold slOne slRe
  dsimp only
  rw [hv, h, if_pos (by omega), if_pos (by omega), List.set_set, Int.toNat_natCast]
theorem slFill_cont {J : List (S30)} {fah : Bool} {t : Int} {a v : Int} {fi re : List Int} (h : (decide (0 < slLeft J fah re a v) || slHome J fah re a v) = true) : slFill J fah t fi re a v = -1 := by
  unfold slFill
  rw [if_pos (by simpa using h)]
theorem slFill_next {J : List (S30)} {fah : Bool} {t : Int} {a v : Int} {fi re : List Int} (h : (decide (0 < slLeft J fah re a v) || slHome J fah re a v) = false) : slFill J fah t fi re a v = slNext J t fi a J.length := by
  unfold slFill
  rw [if_neg (by simpa using h)]
theorem slFreed_home (J : List (S30)) (fah : Bool) (re : List Int) (a v : Int) : (slFreed J fah re a v && fah) = slHome J fah re a v := by
  unfold slFreed slHome
  cases fah <;> simp
theorem slRe_len (J : List (S30)) (t : Int) (re : List Int) (a v : Int) : (slRe J t re a v).length = re.length := by unfold slRe; split <;> simp
theorem next_hit {J : List (S30)} {t a : Int} {fi : List Int} {i : Nat} (h0 : slNext J t fi a i = -1) (w : slWaits J t fi a i = true) (hi : i < J.length) : slNext J t fi a J.length = (i : Int) := by
  have e1 : slNext J t fi a (i + 1) = (i : Int) := by rw [slNext, h0, if_neg (by omega), if_pos w]
  have : ∀ e, slNext J t fi a (i + 1 + e) = (i : Int) := by
    intro e
    induction e with
    | zero => exact e1
    | succ e ih => rw [← Nat.add_assoc, slNext, ih, if_pos (by omega)]
  have h9 := this (J.length - (i + 1))
  rwa [show i + 1 + (J.length - (i + 1)) = J.length by omega] at h9
theorem next_miss {J : List (S30)} {t a : Int} {fi : List Int} {i : Nat} (h0 : slNext J t fi a i = -1) (w : slWaits J t fi a i = false) : slNext J t fi a (i + 1) = -1 := by rw [slNext, h0, if_neg (by omega), if_neg (by rw [w]; simp)]
def IsR (w0 W : World) (g : Nat) (n : Int) (fah : Bool) (msgs : List (S30)) (sl fi re : List Int) : Prop :=
  ∃ A0 c0, ∃ v1 v2 v3 : Value, W.heap[g]? = some (.cells #[.int .i64 n, .bool fah, .slice A0 msgs.length c0, v1, v2, v3] 68 (0, 0)) ∧ w0.heap.size ≤ g ∧ Kd.C k30 w0 A0 msgs.length msgs ∧ Kd.R (Kd.int .i64) 3 W w0.heap.size (fun k_ => k_ ≠ g ∧ some k_ ≠ v2.ownBlock ∧ some k_ ≠ v3.ownBlock) v1 sl ∧ Kd.R (Kd.int .i64) 3 W w0.heap.size (fun k_ => k_ ≠ g ∧ some k_ ≠ v1.ownBlock ∧ some k_ ≠ v3.ownBlock) v2 fi ∧ Kd.R (Kd.int .i64) 3 W w0.heap.size (fun k_ => k_ ≠ g ∧ some k_ ≠ v1.ownBlock ∧ some k_ ≠ v2.ownBlock) v3 re
theorem IsR.below {w0 W : World} {g : Nat} {n : Int} {fah : Bool} {msgs : List (S30)} {sl fi re : List Int} (h : IsR w0 W g n fah msgs sl fi re) {w1 : World} (hb : Below W.heap.size W w1) : IsR w0 w1 g n fah msgs sl fi re := by
  obtain ⟨A0, c0, v1, v2, v3, h1, h2, h3, h4, h5, h6⟩ := h
  exact ⟨A0, c0, v1, v2, v3, blk_below h1 hb, h2, h3, Kd.R_below h4 hb, Kd.R_below h5 hb, Kd.R_below h6 hb⟩
theorem IsR.drewN {w0 W : World} {g : Nat} {n : Int} {fah : Bool} {msgs : List (S30)} {sl fi re : List Int} (h : IsR w0 W g n fah msgs sl fi re) (m : Nat) : IsR w0 (W.drewN m) g n fah msgs sl fi re := h
theorem IsR.drew {w0 W : World} {g : Nat} {n : Int} {fah : Bool} {msgs : List (S30)} {sl fi re : List Int} (h : IsR w0 W g n fah msgs sl fi re) : IsR w0 W.drew g n fah msgs sl fi re := h
theorem IsR.lt {w0 W : World} {g : Nat} {n : Int} {fah : Bool} {msgs : List (S30)} {sl fi re : List Int} (h : IsR w0 W g n fah msgs sl fi re) : g < W.heap.size := by
  obtain ⟨A0, c0, v1, v2, v3, h1, _⟩ := h
  exact blk_lt h1
theorem IsR.row1 {w0 W : World} {g : Nat} {n : Int} {fah : Bool} {msgs : List (S30)} {sl fi re : List Int} (h : IsR w0 W g n fah msgs sl fi re) (hp : 0 < sl.length) :
    ∃ A0 c0, ∃ v1 v2 v3 : Value, ∃ r c, v1 = .slice (some ⟨r, 0, none⟩) sl.length c ∧ W.heap[g]? = some (.cells #[.int .i64 n, .bool fah, .slice A0 msgs.length c0, v1, v2, v3] 68 (0, 0)) ∧ Kd.C k30 w0 A0 msgs.length msgs ∧ w0.heap.size ≤ r ∧ (∃ cells, W.heap[r]? = some (.cells cells 3 (0, 0))) ∧ (∀ i : Nat, i < sl.length → W.cell? ⟨r, i, none⟩ = some (.int .i64 (rd sl (i : Int)))) ∧ (∀ i : Nat, W.frozen? ⟨r, i, none⟩ = false) ∧
      ∀ (i : Nat) (x : Int), IsR w0 (W.setCell ⟨r, i, none⟩ (.int .i64 x)) g n fah msgs (sl.set i x) fi re := by
  obtain ⟨A0, c0, v1, v2, v3, h1, h2, h3, h4, h5, h6⟩ := h
  obtain ⟨r, c, e, hb, hl, ⟨cells, hce⟩⟩ := Kd.R_form h4 hp
  have hne := h4.1 r (by rw [e]; rfl)
  have hown : v1.ownBlock = some r := by rw [e]; rfl
  have hrow := h4
  rw [e] at hrow
  refine ⟨A0, c0, v1, v2, v3, r, c, e, h1, h3, hb, ⟨cells, hce⟩, fun i hi => ?_, fun i => blk_frozen hce i, fun i x => ?_⟩
  · obtain ⟨ad, e5, hx⟩ := Kd.at_int (Kd.R_reads' hrow).2.2 (i : Int) (by omega) (by omega)
    cases e5
    rw [Int.toNat_natCast] at hx
    have h9 : (⟨r, 0, none⟩ : Addr).add i = ⟨r, i, none⟩ := by cases i <;> simp [Addr.add]
    rw [h9] at hx
    exact hx
  · have h9 := Kd.R_putn hrow (i : Int) x
    rw [Int.toNat_natCast, ← e] at h9
    exact ⟨A0, c0, v1, v2, v3, blk_far h1 (Ne.symm hne.1) _, h2, h3, h9, Kd.R_far (p := ⟨r, i, none⟩) h5 (fun k_ hk_ e_ => hk_.2.1 (by rw [e_]; exact hown.symm)) _, Kd.R_far (p := ⟨r, i, none⟩) h6 (fun k_ hk_ e_ => hk_.2.1 (by rw [e_]; exact hown.symm)) _⟩
theorem IsR.row2 {w0 W : World} {g : Nat} {n : Int} {fah : Bool} {msgs : List (S30)} {sl fi re : List Int} (h : IsR w0 W g n fah msgs sl fi re) (hp : 0 < fi.length) :
    ∃ A0 c0, ∃ v1 v2 v3 : Value, ∃ r c, v2 = .slice (some ⟨r, 0, none⟩) fi.length c ∧ W.heap[g]? = some (.cells #[.int .i64 n, .bool fah, .slice A0 msgs.length c0, v1, v2, v3] 68 (0, 0)) ∧ Kd.C k30 w0 A0 msgs.length msgs ∧ w0.heap.size ≤ r ∧ (∃ cells, W.heap[r]? = some (.cells cells 3 (0, 0))) ∧ (∀ i : Nat, i < fi.length → W.cell? ⟨r, i, none⟩ = some (.int .i64 (rd fi (i : Int)))) ∧ (∀ i : Nat, W.frozen? ⟨r, i, none⟩ = false) ∧
      ∀ (i : Nat) (x : Int), IsR w0 (W.setCell ⟨r, i, none⟩ (.int .i64 x)) g n fah msgs sl (fi.set i x) re := by
  obtain ⟨A0, c0, v1, v2, v3, h1, h2, h3, h4, h5, h6⟩ := h
  obtain ⟨r, c, e, hb, hl, ⟨cells, hce⟩⟩ := Kd.R_form h5 hp
  have hne := h5.1 r (by rw [e]; rfl)
  have hown : v2.ownBlock = some r := by rw [e]; rfl
  have hrow := h5
  rw [e] at hrow
  refine ⟨A0, c0, v1, v2, v3, r, c, e, h1, h3, hb, ⟨cells, hce⟩, fun i hi => ?_, fun i => blk_frozen hce i, fun i x => ?_⟩
  · obtain ⟨ad, e5, hx⟩ := Kd.at_int (Kd.R_reads' hrow).2.2 (i : Int) (by omega) (by omega)
    cases e5
    rw [Int.toNat_natCast] at hx
    have h9 : (⟨r, 0, none⟩ : Addr).add i = ⟨r, i, none⟩ := by cases i <;> simp [Addr.add]
    rw [h9] at hx
    exact hx
  · have h9 := Kd.R_putn hrow (i : Int) x
    rw [Int.toNat_natCast, ← e] at h9
    exact ⟨A0, c0, v1, v2, v3, blk_far h1 (Ne.symm hne.1) _, h2, h3, Kd.R_far (p := ⟨r, i, none⟩) h4 (fun k_ hk_ e_ => hk_.2.1 (by rw [e_]; exact hown.symm)) _, h9, Kd.R_far (p := ⟨r, i, none⟩) h6 (fun k_ hk_ e_ => hk_.2.2 (by rw [e_]; exact hown.symm)) _⟩
theorem IsR.row3 {w0 W : World} {g : Nat} {n : Int} {fah : Bool} {msgs : List (S30)} {sl fi re : List Int} (h : IsR w0 W g n fah msgs sl fi re) (hp : 0 < re.length) :
    ∃ A0 c0, ∃ v1 v2 v3 : Value, ∃ r c, v3 = .slice (some ⟨r, 0, none⟩) re.length c ∧ W.heap[g]? = some (.cells #[.int .i64 n, .bool fah, .slice A0 msgs.length c0, v1, v2, v3] 68 (0, 0)) ∧ Kd.C k30 w0 A0 msgs.length msgs ∧ w0.heap.size ≤ r ∧ (∃ cells, W.heap[r]? = some (.cells cells 3 (0, 0))) ∧ (∀ i : Nat, i < re.length → W.cell? ⟨r, i, none⟩ = some (.int .i64 (rd re (i : Int)))) ∧ (∀ i : Nat, W.frozen? ⟨r, i, none⟩ = false) ∧
      ∀ (i : Nat) (x : Int), IsR w0 (W.setCell ⟨r, i, none⟩ (.int .i64 x)) g n fah msgs sl fi (re.set i x) := by
  obtain ⟨A0, c0, v1, v2, v3, h1, h2, h3, h4, h5, h6⟩ := h
  obtain ⟨r, c, e, hb, hl, ⟨cells, hce⟩⟩ := Kd.R_form h6 hp
  have hne := h6.1 r (by rw [e]; rfl)
  have hown : v3.ownBlock = some r := by rw [e]; rfl
  have hrow := h6
  rw [e] at hrow
  refine ⟨A0, c0, v1, v2, v3, r, c, e, h1, h3, hb, ⟨cells, hce⟩, fun i hi => ?_, fun i => blk_frozen hce i, fun i x => ?_⟩
  · obtain ⟨ad, e5, hx⟩ := Kd.at_int (Kd.R_reads' hrow).2.2 (i : Int) (by omega) (by omega)
    cases e5
    rw [Int.toNat_natCast] at hx
    have h9 : (⟨r, 0, none⟩ : Addr).add i = ⟨r, i, none⟩ := by cases i <;> simp [Addr.add]
    rw [h9] at hx
    exact hx
  · have h9 := Kd.R_putn hrow (i : Int) x
    rw [Int.toNat_natCast, ← e] at h9
    exact ⟨A0, c0, v1, v2, v3, blk_far h1 (Ne.symm hne.1) _, h2, h3, Kd.R_far (p := ⟨r, i, none⟩) h4 (fun k_ hk_ e_ => hk_.2.2 (by rw [e_]; exact hown.symm)) _, Kd.R_far (p := ⟨r, i, none⟩) h5 (fun k_ hk_ e_ => hk_.2.2 (by rw [e_]; exact hown.symm)) _, h9⟩
def IsT (w0 W : World) (g : Nat) (n : Int) (fah : Bool) (tick : Int) (msgs : List (S30)) (sl fi re : List Int) : Prop :=
  ∃ A0 c0, ∃ v1 v2 v3 : Value, W.heap[g]? = some (.cells #[.int .i64 n, .bool fah, .slice A0 msgs.length c0, .int .i64 tick, v1, v2, v3] 73 (0, 0)) ∧ w0.heap.size ≤ g ∧ Kd.C k30 w0 A0 msgs.length msgs ∧ Kd.R (Kd.int .i64) 3 W w0.heap.size (fun k_ => k_ ≠ g ∧ some k_ ≠ v2.ownBlock ∧ some k_ ≠ v3.ownBlock) v1 sl ∧ Kd.R (Kd.int .i64) 3 W w0.heap.size (fun k_ => k_ ≠ g ∧ some k_ ≠ v1.ownBlock ∧ some k_ ≠ v3.ownBlock) v2 fi ∧ Kd.R (Kd.int .i64) 3 W w0.heap.size (fun k_ => k_ ≠ g ∧ some k_ ≠ v1.ownBlock ∧ some k_ ≠ v2.ownBlock) v3 re
theorem IsT.below {w0 W : World} {g : Nat} {n : Int} {fah : Bool} {tick : Int} {msgs : List (S30)} {sl fi re : List Int} (h : IsT w0 W g n fah tick msgs sl fi re) {w1 : World} (hb : Below W.heap.size W w1) : IsT w0 w1 g n fah tick msgs sl fi re := by
  obtain ⟨A0, c0, v1, v2, v3, h1, h2, h3, h4, h5, h6⟩ := h
  exact ⟨A0, c0, v1, v2, v3, blk_below h1 hb, h2, h3, Kd.R_below h4 hb, Kd.R_below h5 hb, Kd.R_below h6 hb⟩
theorem IsT.drewN {w0 W : World} {g : Nat} {n : Int} {fah : Bool} {tick : Int} {msgs : List (S30)} {sl fi re : List Int} (h : IsT w0 W g n fah tick msgs sl fi re) (m : Nat) : IsT w0 (W.drewN m) g n fah tick msgs sl fi re := h
theorem IsT.drew {w0 W : World} {g : Nat} {n : Int} {fah : Bool} {tick : Int} {msgs : List (S30)} {sl fi re : List Int} (h : IsT w0 W g n fah tick msgs sl fi re) : IsT w0 W.drew g n fah tick msgs sl fi re := h
theorem IsT.lt {w0 W : World} {g : Nat} {n : Int} {fah : Bool} {tick : Int} {msgs : List (S30)} {sl fi re : List Int} (h : IsT w0 W g n fah tick msgs sl fi re) : g < W.heap.size := by
  obtain ⟨A0, c0, v1, v2, v3, h1, _⟩ := h
  exact blk_lt h1
theorem IsT.row1 {w0 W : World} {g : Nat} {n : Int} {fah : Bool} {tick : Int} {msgs : List (S30)} {sl fi re : List Int} (h : IsT w0 W g n fah tick msgs sl fi re) (hp : 0 < sl.length) :
    ∃ A0 c0, ∃ v1 v2 v3 : Value, ∃ r c, v1 = .slice (some ⟨r, 0, none⟩) sl.length c ∧ W.heap[g]? = some (.cells #[.int .i64 n, .bool fah, .slice A0 msgs.length c0, .int .i64 tick, v1, v2, v3] 73 (0, 0)) ∧ Kd.C k30 w0 A0 msgs.length msgs ∧ w0.heap.size ≤ r ∧ (∃ cells, W.heap[r]? = some (.cells cells 3 (0, 0))) ∧ (∀ i : Nat, i < sl.length → W.cell? ⟨r, i, none⟩ = some (.int .i64 (rd sl (i : Int)))) ∧ (∀ i : Nat, W.frozen? ⟨r, i, none⟩ = false) ∧
      ∀ (i : Nat) (x : Int), IsT w0 (W.setCell ⟨r, i, none⟩ (.int .i64 x)) g n fah tick msgs (sl.set i x) fi re := by
  obtain ⟨A0, c0, v1, v2, v3, h1, h2, h3, h4, h5, h6⟩ := h
  obtain ⟨r, c, e, hb, hl, ⟨cells, hce⟩⟩ := Kd.R_form h4 hp
  have hne := h4.1 r (by rw [e]; rfl)
  have hown : v1.ownBlock = some r := by rw [e]; rfl
  have hrow := h4
  rw [e] at hrow
  refine ⟨A0, c0, v1, v2, v3, r, c, e, h1, h3, hb, ⟨cells, hce⟩, fun i hi => ?_, fun i => blk_frozen hce i, fun i x => ?_⟩
  · obtain ⟨ad, e5, hx⟩ := Kd.at_int (Kd.R_reads' hrow).2.2 (i : Int) (by omega) (by omega)
    cases e5
    rw [Int.toNat_natCast] at hx
    have h9 : (⟨r, 0, none⟩ : Addr).add i = ⟨r, i, none⟩ := by cases i <;> simp [Addr.add]
    rw [h9] at hx
    exact hx
  · have h9 := Kd.R_putn hrow (i : Int) x
    rw [Int.toNat_natCast, ← e] at h9
    exact ⟨A0, c0, v1, v2, v3, blk_far h1 (Ne.symm hne.1) _, h2, h3, h9, Kd.R_far (p := ⟨r, i, none⟩) h5 (fun k_ hk_ e_ => hk_.2.1 (by rw [e_]; exact hown.symm)) _, Kd.R_far (p := ⟨r, i, none⟩) h6 (fun k_ hk_ e_ => hk_.2.1 (by rw [e_]; exact hown.symm)) _⟩
theorem IsT.row2 {w0 W : World} {g : Nat} {n : Int} {fah : Bool} {tick : Int} {msgs : List (S30)} {sl fi re : List Int} (h : IsT w0 W g n fah tick msgs sl fi re) (hp : 0 < fi.length) :
    ∃ A0 c0, ∃ v1 v2 v3 : Value, ∃ r c, v2 = .slice (some ⟨r, 0, none⟩) fi.length c ∧ W.heap[g]? = some (.cells #[.int .i64 n, .bool fah, .slice A0 msgs.length c0, .int .i64 tick, v1, v2, v3] 73 (0, 0)) ∧ Kd.C k30 w0 A0 msgs.length msgs ∧ w0.heap.size ≤ r ∧ (∃ cells, W.heap[r]? = some (.cells cells 3 (0, 0))) ∧ (∀ i : Nat, i < fi.length → W.cell? ⟨r, i, none⟩ = some (.int .i64 (rd fi (i : Int)))) ∧ (∀ i : Nat, W.frozen? ⟨r, i, none⟩ = false) ∧
      ∀ (i : Nat) (x : Int), IsT w0 (W.setCell ⟨r, i, none⟩ (.int .i64 x)) g n fah tick msgs sl (fi.set i x) re := by
  obtain ⟨A0, c0, v1, v2, v3, h1, h2, h3, h4, h5, h6⟩ := h
  obtain ⟨r, c, e, hb, hl, ⟨cells, hce⟩⟩ := Kd.R_form h5 hp
  have hne := h5.1 r (by rw [e]; rfl)
  have hown : v2.ownBlock = some r := by rw [e]; rfl
  have hrow := h5
  rw [e] at hrow
  refine ⟨A0, c0, v1, v2, v3, r, c, e, h1, h3, hb, ⟨cells, hce⟩, fun i hi => ?_, fun i => blk_frozen hce i, fun i x => ?_⟩
  · obtain ⟨ad, e5, hx⟩ := Kd.at_int (Kd.R_reads' hrow).2.2 (i : Int) (by omega) (by omega)
    cases e5
    rw [Int.toNat_natCast] at hx
    have h9 : (⟨r, 0, none⟩ : Addr).add i = ⟨r, i, none⟩ := by cases i <;> simp [Addr.add]
    rw [h9] at hx
    exact hx
  · have h9 := Kd.R_putn hrow (i : Int) x
    rw [Int.toNat_natCast, ← e] at h9
    exact ⟨A0, c0, v1, v2, v3, blk_far h1 (Ne.symm hne.1) _, h2, h3, Kd.R_far (p := ⟨r, i, none⟩) h4 (fun k_ hk_ e_ => hk_.2.1 (by rw [e_]; exact hown.symm)) _, h9, Kd.R_far (p := ⟨r, i, none⟩) h6 (fun k_ hk_ e_ => hk_.2.2 (by rw [e_]; exact hown.symm)) _⟩
theorem IsT.row3 {w0 W : World} {g : Nat} {n : Int} {fah : Bool} {tick : Int} {msgs : List (S30)} {sl fi re : List Int} (h : IsT w0 W g n fah tick msgs sl fi re) (hp : 0 < re.length) :
    ∃ A0 c0, ∃ v1 v2 v3 : Value, ∃ r c, v3 = .slice (some ⟨r, 0, none⟩) re.length c ∧ W.heap[g]? = some (.cells #[.int .i64 n, .bool fah, .slice A0 msgs.length c0, .int .i64 tick, v1, v2, v3] 73 (0, 0)) ∧ Kd.C k30 w0 A0 msgs.length msgs ∧ w0.heap.size ≤ r ∧ (∃ cells, W.heap[r]? = some (.cells cells 3 (0, 0))) ∧ (∀ i : Nat, i < re.length → W.cell? ⟨r, i, none⟩ = some (.int .i64 (rd re (i : Int)))) ∧ (∀ i : Nat, W.frozen? ⟨r, i, none⟩ = false) ∧
      ∀ (i : Nat) (x : Int), IsT w0 (W.setCell ⟨r, i, none⟩ (.int .i64 x)) g n fah tick msgs sl fi (re.set i x) := by
  obtain ⟨A0, c0, v1, v2, v3, h1, h2, h3, h4, h5, h6⟩ := h
  obtain ⟨r, c, e, hb, hl, ⟨cells, hce⟩⟩ := Kd.R_form h6 hp
  have hne := h6.1 r (by rw [e]; rfl)
  have hown : v3.ownBlock = some r := by rw [e]; rfl
  have hrow := h6
  rw [e] at hrow
  refine ⟨A0, c0, v1, v2, v3, r, c, e, h1, h3, hb, ⟨cells, hce⟩, fun i hi => ?_, fun i => blk_frozen hce i, fun i x => ?_⟩
  · obtain ⟨ad, e5, hx⟩ := Kd.at_int (Kd.R_reads' hrow).2.2 (i : Int) (by omega) (by omega)
    cases e5
    rw [Int.toNat_natCast] at hx
    have h9 : (⟨r, 0, none⟩ : Addr).add i = ⟨r, i, none⟩ := by cases i <;> simp [Addr.add]
    rw [h9] at hx
    exact hx
  · have h9 := Kd.R_putn hrow (i : Int) x
    rw [Int.toNat_natCast, ← e] at h9
    exact ⟨A0, c0, v1, v2, v3, blk_far h1 (Ne.symm hne.1) _, h2, h3, Kd.R_far (p := ⟨r, i, none⟩) h4 (fun k_ hk_ e_ => hk_.2.2 (by rw [e_]; exact hown.symm)) _, Kd.R_far (p := ⟨r, i, none⟩) h5 (fun k_ hk_ e_ => hk_.2.2 (by rw [e_]; exact hown.symm)) _, h9⟩
theorem IsT.tick1 {w0 W : World} {g : Nat} {n : Int} {fah : Bool} {tick : Int} {msgs : List (S30)} {sl fi re : List Int} (h : IsT w0 W g n fah tick msgs sl fi re) (x : Int) : IsT w0 (W.setCell ⟨g, 3, none⟩ (.int .i64 x)) g n fah x msgs sl fi re := by
  obtain ⟨A0, c0, v1, v2, v3, h1, h2, h3, h4, h5, h6⟩ := h
  exact ⟨A0, c0, v1, v2, v3, by simpa using blk_set h1 3 (.int .i64 x), h2, h3, Kd.R_far (p := ⟨g, 3, none⟩) h4 (fun _ hk => hk.1) _, Kd.R_far (p := ⟨g, 3, none⟩) h5 (fun _ hk => hk.1) _, Kd.R_far (p := ⟨g, 3, none⟩) h6 (fun _ hk => hk.1) _⟩
theorem IsR.fresh2 {w0 W : World} {g : Nat} {n : Int} {fah : Bool} {A0 : Option Addr} {m c0 : Nat} {v1 v2 v3 : Value} {sl re : List Int} (h1 : W.heap[g]? = some (.cells #[.int .i64 n, .bool fah, .slice A0 m c0, v1, v2, v3] 68 (0, 0))) (h4 : Kd.R (Kd.int .i64) 3 W w0.heap.size (fun k_ => k_ ≠ g ∧ some k_ ≠ v2.ownBlock ∧ some k_ ≠ v3.ownBlock) v1 sl) (h6 : Kd.R (Kd.int .i64) 3 W w0.heap.size (fun k_ => k_ ≠ g ∧ some k_ ≠ v1.ownBlock ∧ some k_ ≠ v2.ownBlock) v3 re) : ∀ k_, W.heap.size ≤ k_ → (fun k_ => k_ ≠ g ∧ some k_ ≠ v1.ownBlock ∧ some k_ ≠ v3.ownBlock) k_ := by
  intro k_ hk_
  have l1 := blk_lt h1
  obtain ⟨in1, ho1⟩ := Kd.R_own h4
  obtain ⟨in3, ho3⟩ := Kd.R_own h6
  exact ⟨by omega, fun e_ => by have := own_lt ho1 k_ e_.symm; omega, fun e_ => by have := own_lt ho3 k_ e_.symm; omega⟩
theorem IsR.app2 {w0 W w1 : World} {g : Nat} {n : Int} {fah : Bool} {A0 : Option Addr} {c0 : Nat} {J : List (S30)} {v1 v2 v3 v' : Value} {sl fi re : List Int} {y : Int} (h1 : W.heap[g]? = some (.cells #[.int .i64 n, .bool fah, .slice A0 J.length c0, v1, v2, v3] 68 (0, 0))) (h2 : w0.heap.size ≤ g) (h3 : Kd.C k30 w0 A0 J.length J) (h4 : Kd.R (Kd.int .i64) 3 W w0.heap.size (fun k_ => k_ ≠ g ∧ some k_ ≠ v2.ownBlock ∧ some k_ ≠ v3.ownBlock) v1 sl) (h5 : Kd.R (Kd.int .i64) 3 W w0.heap.size (fun k_ => k_ ≠ g ∧ some k_ ≠ v1.ownBlock ∧ some k_ ≠ v3.ownBlock) v2 fi) (h6 : Kd.R (Kd.int .i64) 3 W w0.heap.size (fun k_ => k_ ≠ g ∧ some k_ ≠ v1.ownBlock ∧ some k_ ≠ v2.ownBlock) v3 re)
    (hR : Kd.R (Kd.int .i64) 3 w1 w0.heap.size (fun k_ => k_ ≠ g ∧ some k_ ≠ v1.ownBlock ∧ some k_ ≠ v3.ownBlock) v' (fi ++ [y])) (hg : W.grownBy w1 v2.ownBlock) (hat : v'.ownBlock = v2.ownBlock ∨ ∃ b, v'.ownBlock = some b ∧ W.heap.size ≤ b) : IsR w0 (w1.setCell ⟨g, 4, none⟩ v') g n fah J sl (fi ++ [y]) re := by
  have hgo : some g ≠ v2.ownBlock := fun e_ => (h5.1 g e_.symm).1 rfl
  have hne : ∀ k_, k_ < W.heap.size → some k_ ≠ v2.ownBlock → some k_ ≠ v'.ownBlock := by
    intro k_ hk_ hn_ e_
    rcases hat with ha | ⟨b, hb, hle⟩
    · exact hn_ (e_.trans ha)
    · rw [hb] at e_
      cases e_
      omega
  have hb := blk_set (blk_grown h1 hg hgo) 4 v'
  exact ⟨A0, c0, v1, v', v3, by simpa using hb, h2, h3, Kd.R_mono (Kd.R_far (p := ⟨g, 4, none⟩) (Kd.R_grown (Kd.R_bound h4) hg (fun k_ hk_ => hk_.1.2.1)) (fun k_ hk_ => hk_.1.1) _) (fun k_ hk_ => ⟨hk_.1.1, hne k_ hk_.2.2.1 hk_.1.2.1, hk_.1.2.2⟩), Kd.R_far (p := ⟨g, 4, none⟩) hR (fun k_ hk_ => hk_.1) _, Kd.R_mono (Kd.R_far (p := ⟨g, 4, none⟩) (Kd.R_grown (Kd.R_bound h6) hg (fun k_ hk_ => hk_.1.2.2)) (fun k_ hk_ => hk_.1.1) _) (fun k_ hk_ => ⟨hk_.1.1, hk_.1.2.1, hne k_ hk_.2.2.1 hk_.1.2.2⟩)⟩
theorem IsR.fresh3 {w0 W : World} {g : Nat} {n : Int} {fah : Bool} {A0 : Option Addr} {m c0 : Nat} {v1 v2 v3 : Value} {sl fi : List Int} (h1 : W.heap[g]? = some (.cells #[.int .i64 n, .bool fah, .slice A0 m c0, v1, v2, v3] 68 (0, 0))) (h4 : Kd.R (Kd.int .i64) 3 W w0.heap.size (fun k_ => k_ ≠ g ∧ some k_ ≠ v2.ownBlock ∧ some k_ ≠ v3.ownBlock) v1 sl) (h5 : Kd.R (Kd.int .i64) 3 W w0.heap.size (fun k_ => k_ ≠ g ∧ some k_ ≠ v1.ownBlock ∧ some k_ ≠ v3.ownBlock) v2 fi) : ∀ k_, W.heap.size ≤ k_ → (fun k_ => k_ ≠ g ∧ some k_ ≠ v1.ownBlock ∧ some k_ ≠ v2.ownBlock) k_ := by
  intro k_ hk_
  have l1 := blk_lt h1
  obtain ⟨in1, ho1⟩ := Kd.R_own h4
  obtain ⟨in2, ho2⟩ := Kd.R_own h5
  exact ⟨by omega, fun e_ => by have := own_lt ho1 k_ e_.symm; omega, fun e_ => by have := own_lt ho2 k_ e_.symm; omega⟩
theorem IsR.app3 {w0 W w1 : World} {g : Nat} {n : Int} {fah : Bool} {A0 : Option Addr} {c0 : Nat} {J : List (S30)} {v1 v2 v3 v' : Value} {sl fi re : List Int} {y : Int} (h1 : W.heap[g]? = some (.cells #[.int .i64 n, .bool fah, .slice A0 J.length c0, v1, v2, v3] 68 (0, 0))) (h2 : w0.heap.size ≤ g) (h3 : Kd.C k30 w0 A0 J.length J) (h4 : Kd.R (Kd.int .i64) 3 W w0.heap.size (fun k_ => k_ ≠ g ∧ some k_ ≠ v2.ownBlock ∧ some k_ ≠ v3.ownBlock) v1 sl) (h5 : Kd.R (Kd.int .i64) 3 W w0.heap.size (fun k_ => k_ ≠ g ∧ some k_ ≠ v1.ownBlock ∧ some k_ ≠ v3.ownBlock) v2 fi) (h6 : Kd.R (Kd.int .i64) 3 W w0.heap.size (fun k_ => k_ ≠ g ∧ some k_ ≠ v1.ownBlock ∧ some k_ ≠ v2.ownBlock) v3 re)
    (hR : Kd.R (Kd.int .i64) 3 w1 w0.heap.size (fun k_ => k_ ≠ g ∧ some k_ ≠ v1.ownBlock ∧ some k_ ≠ v2.ownBlock) v' (re ++ [y])) (hg : W.grownBy w1 v3.ownBlock) (hat : v'.ownBlock = v3.ownBlock ∨ ∃ b, v'.ownBlock = some b ∧ W.heap.size ≤ b) : IsR w0 (w1.setCell ⟨g, 5, none⟩ v') g n fah J sl fi (re ++ [y]) := by
  have hgo : some g ≠ v3.ownBlock := fun e_ => (h6.1 g e_.symm).1 rfl
  have hne : ∀ k_, k_ < W.heap.size → some k_ ≠ v3.ownBlock → some k_ ≠ v'.ownBlock := by
    intro k_ hk_ hn_ e_
    rcases hat with ha | ⟨b, hb, hle⟩
    · exact hn_ (e_.trans ha)
    · rw [hb] at e_
      cases e_
      omega
  have hb := blk_set (blk_grown h1 hg hgo) 5 v'
  exact ⟨A0, c0, v1, v2, v', by simpa using hb, h2, h3, Kd.R_mono (Kd.R_far (p := ⟨g, 5, none⟩) (Kd.R_grown (Kd.R_bound h4) hg (fun k_ hk_ => hk_.1.2.2)) (fun k_ hk_ => hk_.1.1) _) (fun k_ hk_ => ⟨hk_.1.1, hk_.1.2.1, hne k_ hk_.2.2.1 hk_.1.2.2⟩), Kd.R_mono (Kd.R_far (p := ⟨g, 5, none⟩) (Kd.R_grown (Kd.R_bound h5) hg (fun k_ hk_ => hk_.1.2.2)) (fun k_ hk_ => hk_.1.1) _) (fun k_ hk_ => ⟨hk_.1.1, hk_.1.2.1, hne k_ hk_.2.2.1 hk_.1.2.2⟩), Kd.R_far (p := ⟨g, 5, none⟩) hR (fun k_ hk_ => hk_.1) _⟩
theorem IsR.new {w0 w3 : World} {A0 : Option Addr} {c0 n : Nat} {fah : Bool} {J : List (S30)} (hC : Kd.C k30 w0 A0 J.length J) (hn : n ≤ 100) (hB : Below w0.heap.size w0 w3) : IsR w0 ((w3.alloc (.cells (madeCells #[.int .i64 0] n) 3)).alloc (.cells #[.int .i64 (n : Int), .bool fah, .slice A0 J.length c0, .slice (some ⟨w3.heap.size, 0, none⟩) n n, .slice none 0 0, .slice none 0 0] 68)).drew (w3.heap.size + 1) (n : Int) fah J (List.replicate n 0) [] [] := by
  have hsz : (w3.alloc (.cells (madeCells #[.int .i64 0] n) 3)).heap.size = w3.heap.size + 1 := by simp
  have ho := own_made w3 w0.heap.size 3 .i64 n (below_size hB) (by omega)
  have hr : Kd.R (Kd.int .i64) 3 (w3.alloc (.cells (madeCells #[.int .i64 0] n) 3)) w0.heap.size (fun k_ => k_ ≠ w3.heap.size + 1 ∧ some k_ ≠ (Value.slice none 0 0).ownBlock ∧ some k_ ≠ (Value.slice none 0 0).ownBlock) (.slice (some ⟨w3.heap.size, 0, none⟩) n n) (List.replicate n 0) := Kd.R_of_own (h1 := fun _ => rfl) (by rw [List.length_replicate]; exact ho) (fun k hk => by cases hk; exact ⟨by show w3.heap.size ≠ w3.heap.size + 1; omega, by simp [Value.ownBlock], by simp [Value.ownBlock]⟩)
  refine ⟨A0, c0, _, _, _, ?_, ?_, hC, Kd.R_drew (Kd.R_alloc hr _), Kd.R_nil _ _ _ _ _, Kd.R_nil _ _ _ _ _⟩
  · have h9 := heap_alloc_new (w3.alloc (.cells (madeCells #[.int .i64 0] n) 3)) (.cells #[.int .i64 (n : Int), .bool fah, .slice A0 J.length c0, .slice (some ⟨w3.heap.size, 0, none⟩) n n, .slice none 0 0, .slice none 0 0] 68)
    rw [hsz] at h9
    exact h9
  · have := below_size hB
    omega
set_option maxHeartbeats 16000000 in
set_option maxRecDepth 100000 in
theorem slNew_calls (A0 : Option Addr) (c0 n : Nat) (fah : Bool) (J : List (S30)) (w0 w : World) (hC : Kd.C k30 w0 A0 J.length J) (hB : Below w0.heap.size w0 w) (hn : 2 ≤ n ∧ n ≤ 12) (hj : J.length ≤ 20) :
    Calls Try.prog 57 #[.agg #[.int .i64 (n : Int), .bool fah], .slice A0 J.length c0] w fun e w' => ∃ g, e = .returned (.pointer (some ⟨g, 0, none⟩)) ∧ IsR w0 w' g (n : Int) fah J (slInit n J.length).1 (slInit n J.length).2.1 (slInit n J.length).2.2 ∧ Below w0.heap.size w0 w' := by
  have HC := Aside0.mk hC
  have HB := Aside0.mk hB
  have HN := Aside0.mk hn
  have HJ := Aside0.mk hj
  have hmk := print_make (P := Try.prog) 46 3 .i64 8 Try.underlying46 info3 (by omega) n (by omega)
  clear hC hB hn hj
  go_enter Try.func57, Try.ntmps57
  go_upto_region 1 with (first | ((with_reducible refine gate_dst (N := 2) rfl ?_); refine box_event ?hg (N := 2) ?hd (cs := #[.int .i64 (n : Int), .bool fah]) (t := 28) ?hr ?_; (case hd => rfl); (case hg => rfl); (case hr => first | (go_simp; done) | (go_simp; rfl)); intro b hg w3 hbox hb; have HB3 := Aside0.mk (below_step (by repeat (first | (with_reducible first | exact HB.out | apply below_alloc | apply pw_below_drewN | apply below_drew1) | exact HB.out)) hb); clear HB; have HB := HB3; clear HB3; have hk0 : w3.cell? ⟨b, 0, none⟩ = some (.int .i64 (n : Int)) := (blk_cell hbox 0).trans rfl; have hk1 : w3.cell? ⟨b, 1, none⟩ = some (.bool fah) := (blk_cell hbox 1).trans rfl; have hn0 := World.new_ne w3 ⟨b, 0, none⟩ hk0; have hn1 := World.new_ne w3 ⟨b, 1, none⟩ hk1; clear hg hb hbox))
  go_cut [5] (fun v5 wc => ∃ g, v5 = .pointer (some ⟨g, 0, none⟩) ∧ Aside0 (IsR w0 wc g (n : Int) fah J (List.replicate n 0) [] []) ∧ Aside0 (Below w0.heap.size w0 wc))
  case first =>
    go_region_held3 (fun w' => w'.cell? ⟨b, 0, none⟩ = some (.int .i64 (n : Int)) ∧ w'.cell? ⟨b, 1, none⟩ = some (.bool fah)) (go_keep) (fail)
    all_goals (try go_wp2_with fail)
    all_goals go_meet
    all_goals exact ⟨_, rfl, ⟨IsR.new HC.out (by have := HN.out; omega) HB.out⟩, ⟨below_drew1 (below_alloc (below_alloc HB.out _) _)⟩⟩
  case rest =>
    clear hk0 hk1 hn0 hn1 HB hmk
    obtain ⟨g, rfl, HI, HB⟩ := hcut
    go_wp2
    go_loopg [15] (J.length + 1) (fun kq v15 w' => ∃ k : Nat, kq + k = J.length + 1 ∧ k ≤ J.length ∧ v15 = .int .i64 (k : Int) ∧ Aside0 (IsR w0 w' g (n : Int) fah J (List.replicate n 0) (List.replicate k (-1)) (List.replicate k (-1))) ∧ Aside0 (Below w0.heap.size w0 w'))
    case atStart => exact ⟨0, by omega, by omega, rfl, HI, HB⟩
    case round =>
      clear HI HB
      obtain ⟨k, hkk, hkj, rfl, HI, HB⟩ := hrel
      have HKJ := Aside0.mk (show gk + k = J.length + 1 ∧ k ≤ J.length ∧ J.length ≤ 20 from ⟨hkk, hkj, HJ.out⟩)
      by_cases hk : k < J.length
      · have hb1 : decide ((k : Int) < (J.length : Int)) = true := decide_eq_true (by omega)
        have hb2 : decide (k < J.length) = true := decide_eq_true hk
        have HKL := Aside0.mk hk
        obtain ⟨A1, c1, V1, V2, V3, h1, h2, h3, h4, h5, h6⟩ := HI.out
        have H1 := Aside0.mk h1
        have HG := Aside0.mk h2
        have HC1 := Aside0.mk h3
        have H4 := Aside0.mk h4
        have H5 := Aside0.mk h5
        have H6 := Aside0.mk h6
        have hc3 : wr.cell? ⟨g, 4, none⟩ = some V2 := (blk_cell h1 4).trans rfl
        clear hkk hkj hk h1 h2 h3 h4 h5 h6
        go_upto_region 5 with (first | ((with_reducible refine gate_builtin (b := .append) (xs := #[.tmp 21, .tmp 22]) rfl ?_); at_builtin; refine Kd.R_append (Kd.int .i64) (w0 := w0) w0.heap.size rfl (.tmp 21) (.tmp 22) 46 3 (.int .i64 0) 8 rfl Try.underlying46 info3 rfl (by decide) (by omega) V2 (List.replicate k (-1)) (-1) [.int .i64 (-1)] (fun k_ => k_ ≠ g ∧ some k_ ≠ V1.ownBlock ∧ some k_ ≠ V3.ownBlock) (fun _ => False) rfl rfl ?aP (fun _ hk => hk.elim) ?aF ?aO ?aB ?aS ?aL ?_; (case aP => exact rfl); (case aF => exact (IsR.fresh2 H1.out H4.out H6.out)); (case aO => exact H5.out); (case aB => exact HB.out); (case aS => exact (below_size HB.out)); (case aL => rw [List.length_replicate]; have := HKJ.out; omega); intro v' w6 ho hb hg hat; obtain ⟨A9, c9, e9⟩ := Kd.R_slice ho; rw [List.length_append, List.length_replicate, List.length_singleton] at e9; subst e9; have HI5 := Aside0.mk (IsR.app2 H1.out HG.out HC1.out H4.out H5.out H6.out ho hg hat); have HB5 := Aside0.mk hb; have HBW := Aside0.mk (blk_grown H1.out hg (fun e_ => (H5.out.1 g e_.symm).1 rfl)); clear HB HI ho hb hg hat H1 H4 H5 H6; have hc9 : w6.cell? ⟨g, 4, none⟩ = some V2 := (blk_cell HBW.out 4).trans rfl; have hf9 := blk_frozen HBW.out 4))
        obtain ⟨wz, hwz⟩ : ∃ y, w6.setCell ⟨g, 4, none⟩ (.slice A9 (k + 1) c9) = y := ⟨_, rfl⟩
        have HI := HI5
        have HB := Aside0.mk (show Below w0.heap.size w0 wz from by rw [← hwz]; exact HB5.out.setCell (p := ⟨g, 4, none⟩) HG.out _)
        rw [hwz] at HI
        rw [hwz]
        clear hwz HBW hc9 hf9 hc3 HI5 HB5
        obtain ⟨A1, c1, V1, V2, V3, h1, h2, h3, h4, h5, h6⟩ := HI.out
        have H1 := Aside0.mk h1
        have HC1 := Aside0.mk h3
        have H4 := Aside0.mk h4
        have H5 := Aside0.mk h5
        have H6 := Aside0.mk h6
        have hc3 : wz.cell? ⟨g, 5, none⟩ = some V3 := (blk_cell h1 5).trans rfl
        clear h1 h2 h3 h4 h5 h6
        go_wp2_with (first | ((with_reducible refine gate_builtin (b := .append) (xs := #[.tmp 30, .tmp 31]) rfl ?_); at_builtin; refine Kd.R_append (Kd.int .i64) (w0 := w0) w0.heap.size rfl (.tmp 30) (.tmp 31) 46 3 (.int .i64 0) 8 rfl Try.underlying46 info3 rfl (by decide) (by omega) V3 (List.replicate k (-1)) (-1) [.int .i64 (-1)] (fun k_ => k_ ≠ g ∧ some k_ ≠ V1.ownBlock ∧ some k_ ≠ V2.ownBlock) (fun _ => False) rfl rfl ?aP (fun _ hk => hk.elim) ?aF ?aO ?aB ?aS ?aL ?_; (case aP => exact rfl); (case aF => exact (IsR.fresh3 H1.out H4.out H5.out)); (case aO => exact H6.out); (case aB => exact HB.out); (case aS => exact (below_size HB.out)); (case aL => rw [List.length_replicate]; have := HKJ.out; omega); intro v' w6 ho hb hg hat; obtain ⟨A9, c9, e9⟩ := Kd.R_slice ho; rw [List.length_append, List.length_replicate, List.length_singleton] at e9; subst e9; have HI5 := Aside0.mk (IsR.app3 H1.out HG.out HC1.out H4.out H5.out H6.out ho hg hat); have HB5 := Aside0.mk hb; have HBW := Aside0.mk (blk_grown H1.out hg (fun e_ => (H6.out.1 g e_.symm).1 rfl)); clear HB HI ho hb hg hat H1 H4 H5 H6; have hc9 : w6.cell? ⟨g, 5, none⟩ = some V3 := (blk_cell HBW.out 5).trans rfl; have hf9 := blk_frozen HBW.out 5))
        have e1 : ∀ x : Int, List.replicate k x ++ [x] = List.replicate (k + 1) x := fun x => List.replicate_succ'.symm
        go_roundg (J.length - k)
        case measure => have := HKJ.out; have := HKL.out; omega
        case rel => exact ⟨k + 1, by have := HKL.out; omega, by have := HKL.out; omega, by have := HKJ.out; first | rfl | (rw [wrapS (by omega) (by omega)]; rfl), by rw [← e1]; exact HI5, ⟨HB5.out.setCell (p := ⟨g, 5, none⟩) HG.out _⟩⟩
      · obtain rfl : k = J.length := by omega
        have hb1 : decide ((J.length : Int) < (J.length : Int)) = false := decide_eq_false (by omega)
        have hb2 : decide (J.length < J.length) = false := decide_eq_false (by omega)
        clear hk
        go_wp2
        go_ret
        exact ⟨g, rfl, HI.out, HB.out⟩

end Go.Proofs.Ytgkbeejkbhhjkaa.X
