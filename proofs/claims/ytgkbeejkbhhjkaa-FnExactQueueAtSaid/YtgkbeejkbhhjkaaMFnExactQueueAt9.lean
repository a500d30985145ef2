/- Several texts of this session in one: X47, PlEv, PlEqInt, PlMarks, PlSlots, PlStructs, PlIn, PlMsgs. -/
import Derived.Test.YtgkbeejkbhhjkaaMFnExactQueueAt0
import Derived.Test.YtgkbeejkbhhjkaaMFnExactQueueAt2
import Derived.Test.YtgkbeejkbhhjkaaMFnExactQueueAt3
import Derived.Test.YtgkbeejkbhhjkaaMFnExactQueueAt8
import Derived.Test.YtgkbeejkbhhjkaaMFnExactQueueAtWWords
import Derived.Test.YtgkbeejkbhhjkaaMFnExactQueueAtWMore
import Derived.Test.YtgkbeejkbhhjkaaMFnExactQueueAt1
/- What the functions of the program come to, and that they do: written by this session's program wip/xprint.py out of the translation; parts named extern are typed by hand. -/
namespace Go.Proofs.Ytgkbeejkbhhjkaa.X
open Go.RowKit Go.Proofs.YtgkbeejkbhhjkaaW.PrintWords Go.Proofs.YtgkbeejkbhhjkaaW.PrintLast Go.Proofs.YtgkbeejkbhhjkaaW.PrintMore
attribute [local go_sem] max2_int min2_int max_two min_two max_three min_three max_four min_four   -- for this text's walks alone
set_option linter.unusedVariables false
set_option linter.unusedSimpArgs false

/-! ### laws_FnExactQueueAt: function 13 -/
mutual
def laws_FnExactQueueAt.j0 : Nat → List (S25) → Int → Int → List Int → Bool → List (S30) → List Int → Bool → Bool → Int → Bool → Option (Bool)
  | 0, _, _, _, _, _, _, _, _, _, _, _ => none
  | k + 1, x1, x2, x3, x10, x11, x12, x13, x14, x54, x579000, x579001 => if x54 = true then (some false) else ((laws_toMessageS.f k x1).bind fun t599 => ((laws_eqMessageS.f k x12 t599).bind fun t602 => (if t602 = true then ((laws_markMessageS.f k x12 1).bind fun bt603 => (if bt603.1 < 0 then (laws_FnExactQueueAt.j1 k x1 x2 x3 x10 x11 x13 true x579000 x579001) else ((laws_eqIntS.f k x13 x10).bind fun t605 => (if t605 = true then (laws_FnExactQueueAt.j1 k x1 x2 x3 x10 x11 x13 (x14 != x11) x579000 x579001) else (laws_FnExactQueueAt.j1 k x1 x2 x3 x10 x11 x13 true x579000 x579001))))) else (some false))))
def laws_FnExactQueueAt.j1 : Nat → List (S25) → Int → Int → List Int → Bool → List Int → Bool → Int → Bool → Option (Bool)
  | 0, _, _, _, _, _, _, _, _, _ => none
  | k + 1, x1, x2, x3, x10, x11, x13, x75, x579000, x579001 => if x75 = true then (some false) else ((laws_markIntS.f k x13 1).bind fun bt606 => ((laws_heldIntS.f k bt606.2 1).bind fun t608 => (if t608 < 0 then (some false) else (if t608 = bt606.1 then ((laws_toSlotRing.f x579000 x579001).bind fun bt609 => ((laws_toMessageS.f k x1).bind fun t611 => ((impl_QueueAt.f k bt609.1 bt609.2 t611 x2 x3).bind fun bt614 => ((laws_eqIntS.f k bt614.1 x10).bind fun t618 => (if t618 = true then (laws_FnExactQueueAt.j2 k bt606.2 bt606.1 (bt614.2 != x11)) else (laws_FnExactQueueAt.j2 k bt606.2 bt606.1 true)))))) else (some false)))))
def laws_FnExactQueueAt.j2 : Nat → List Int → Int → Bool → Option (Bool)
  | 0, _, _, _ => none
  | k + 1, x13, x16, x105 => if x105 = true then (some false) else ((laws_heldIntS.f k x13 1).bind fun t619 => (if t619 < 0 then (some false) else (if t619 = x16 then (some true) else (some false))))
end
def laws_FnExactQueueAt.f (k : Nat) (a0_0 : Int) (a0_1 : Bool) (l1 : List (S25)) (a2 : Int) (a3 : Int) : Option (Bool) := (laws_szMessageS.f l1 1048576).bind fun t579 => (if t579 < 0 then (some true) else ((laws_toSlotRing.f a0_0 a0_1).bind fun bt580 => ((laws_toMessageS.f k l1).bind fun t582 => ((spec_QueueAt.f k bt580.1 bt580.2 t582 a2 a3).bind fun bt585 => ((laws_toMessageS.f k l1).bind fun t589 => ((laws_toSlotRing.f a0_0 a0_1).bind fun bt592 => ((impl_QueueAt.f k bt592.1 bt592.2 t589 a2 a3).bind fun bt594 => ((laws_eqIntS.f k bt594.1 bt585.1).bind fun t598 => (if t598 = true then (laws_FnExactQueueAt.j0 k l1 a2 a3 bt585.1 bt585.2 t589 bt594.1 bt594.2 (bt594.2 != bt585.2) a0_0 a0_1) else (laws_FnExactQueueAt.j0 k l1 a2 a3 bt585.1 bt585.2 t589 bt594.1 bt594.2 true a0_0 a0_1))))))))))
set_option maxHeartbeats 8000000 in
set_option maxRecDepth 100000 in
theorem laws_FnExactQueueAt.calls (k : Nat) (a0_0 : Int) (a0_1 : Bool) (A1 : Option Addr) (c1 : Nat) (l1 : List (S25)) (a2 : Int) (a3 : Int) (r : Bool) (w : World) (hr1 : Kd.C k25 w A1 l1.length l1) (hc1 : l1.length ≤ c1) (h : laws_FnExactQueueAt.f k a0_0 a0_1 l1 a2 a3 = some r) :
    Calls Try.prog 13 #[.agg #[.int .i64 a0_0, .bool a0_1], .slice A1 l1.length c1, .int .i64 a2, .int .i64 a3] w fun e w' => e = .returned (.bool r) ∧ Below w.heap.size w w' := by
  have hu23 := Try.underlying23
  have HR1 := Aside0.mk hr1
  have HC1 := Aside0.mk hc1
  clear hr1 hc1
  have HB := Aside0.mk (Below.refl w.heap.size w)
  have H : ((laws_szMessageS.f l1 1048576).bind fun t579 => (if t579 < 0 then (some true) else ((laws_toSlotRing.f a0_0 a0_1).bind fun bt580 => ((laws_toMessageS.f k l1).bind fun t582 => ((spec_QueueAt.f k bt580.1 bt580.2 t582 a2 a3).bind fun bt585 => ((laws_toMessageS.f k l1).bind fun t589 => ((laws_toSlotRing.f a0_0 a0_1).bind fun bt592 => ((impl_QueueAt.f k bt592.1 bt592.2 t589 a2 a3).bind fun bt594 => ((laws_eqIntS.f k bt594.1 bt585.1).bind fun t598 => (if t598 = true then (laws_FnExactQueueAt.j0 k l1 a2 a3 bt585.1 bt585.2 t589 bt594.1 bt594.2 (bt594.2 != bt585.2) a0_0 a0_1) else (laws_FnExactQueueAt.j0 k l1 a2 a3 bt585.1 bt585.2 t589 bt594.1 bt594.2 true a0_0 a0_1))))))))))) = some r := h
  clear h
  replace H := Option.bind_eq_some_iff.mp H
  obtain ⟨t579, A50, H⟩ := H
  replace H : (if t579 < 0 then (some true) else ((laws_toSlotRing.f a0_0 a0_1).bind fun bt580 => ((laws_toMessageS.f k l1).bind fun t582 => ((spec_QueueAt.f k bt580.1 bt580.2 t582 a2 a3).bind fun bt585 => ((laws_toMessageS.f k l1).bind fun t589 => ((laws_toSlotRing.f a0_0 a0_1).bind fun bt592 => ((impl_QueueAt.f k bt592.1 bt592.2 t589 a2 a3).bind fun bt594 => ((laws_eqIntS.f k bt594.1 bt585.1).bind fun t598 => (if t598 = true then (laws_FnExactQueueAt.j0 k l1 a2 a3 bt585.1 bt585.2 t589 bt594.1 bt594.2 (bt594.2 != bt585.2) a0_0 a0_1) else (laws_FnExactQueueAt.j0 k l1 a2 a3 bt585.1 bt585.2 t589 bt594.1 bt594.2 true a0_0 a0_1)))))))))) = some r := H
  have A5 := Aside0.mk A50
  clear A50
  by_cases c6 : t579 < 0
  · rw [if_pos c6] at H
    have c6b0 : decide (t579 < 0) = true := decide_eq_true c6
    clear c6
    obtain rfl := Option.some.inj H
    go_enter Try.func13, Try.ntmps13
    go_wp2_with (first | ((with_reducible refine gate_dst (N := 4) rfl ?_); refine box_event ?hg (N := 4) ?hd (cs := #[.int .i64 a0_0, .bool a0_1]) (t := 23) ?hr ?_; (case hd => rfl); (case hg => rfl); (case hr => first | (go_simp; done) | (go_simp; rfl)); intro gb578 hg w7 hbox hb; have n0_ := Aside0.mk (below_step (by repeat (first | (with_reducible first | exact HB.out | apply below_alloc | apply pw_below_drewN | apply below_drew1) | exact HB.out)) hb); have n1_ := Aside0.mk (hbox); have n2_ := Aside0.mk ((by rw [hg]; exact (below_size (by repeat (first | (with_reducible first | exact HB.out | apply below_alloc | apply pw_below_drewN | apply below_drew1) | exact HB.out))) : w.heap.size ≤ gb578)); have n3_ := Aside0.mk ((by rw [hg]; exact (below_size (by repeat (first | (with_reducible first | exact HB.out | apply below_alloc | apply pw_below_drewN | apply below_drew1) | exact HB.out))) : w.heap.size ≤ gb578)); clear HB; have HB := n0_; have BK578 := n1_; have GW578 := n2_; have GE578 := n3_; clear n0_ n1_ n2_ n3_; clear hb hbox hg) | ((with_reducible refine gate_callee (f := 18) rfl ?_); refine goesL_ (some 22) rfl rfl Try.func18 (by kernel_rfl) rfl #[.slice A1 l1.length c1, .int .i64 1048576] rfl (by (try simp only [List.map_toArray, List.map_cons, List.map_nil]); first | done | rfl | (simp only [List.length_drop, List.length_take]; rfl)) ?_; (with_reducible refine (laws_szMessageS.calls _ _ l1 1048576 t579 _ ?side1 ?side2 A5.out).mono ?_); (case side1 => repeat (first | exact (Kd.C_below HR1.out HB.out) | (with_reducible refine Kd.C_alloc ?_ _) | (with_reducible refine Kd.C_drewN ?_ _) | (with_reducible refine Kd.C_drew ?_))); (case side2 => exact HC1.out); rintro e w' ⟨rfl, ⟨nd, rfl⟩⟩; refine ⟨_, rfl, ?_⟩))
    go_ret
    exact ⟨by first | rfl | (simp [errW_none, errW_some] <;> rfl) | (simp [*, errW_none, errW_some] <;> rfl), by repeat (first | (with_reducible first | exact HB.out | apply below_alloc | apply pw_below_drewN | apply below_drew1 | refine below_set ?_ GE578.out) | exact HB.out)⟩
  · rw [if_neg c6] at H
    have c6b0 : decide (t579 < 0) = false := decide_eq_false c6
    clear c6
    replace H := Option.bind_eq_some_iff.mp H
    obtain ⟨⟨t580, t581⟩, A80, H⟩ := H
    replace H : ((laws_toMessageS.f k l1).bind fun t582 => ((spec_QueueAt.f k t580 t581 t582 a2 a3).bind fun bt585 => ((laws_toMessageS.f k l1).bind fun t589 => ((laws_toSlotRing.f a0_0 a0_1).bind fun bt592 => ((impl_QueueAt.f k bt592.1 bt592.2 t589 a2 a3).bind fun bt594 => ((laws_eqIntS.f k bt594.1 bt585.1).bind fun t598 => (if t598 = true then (laws_FnExactQueueAt.j0 k l1 a2 a3 bt585.1 bt585.2 t589 bt594.1 bt594.2 (bt594.2 != bt585.2) a0_0 a0_1) else (laws_FnExactQueueAt.j0 k l1 a2 a3 bt585.1 bt585.2 t589 bt594.1 bt594.2 true a0_0 a0_1)))))))) = some r := H
    have A8 := Aside0.mk A80
    clear A80
    replace H := Option.bind_eq_some_iff.mp H
    obtain ⟨t582, A90, H⟩ := H
    replace H : ((spec_QueueAt.f k t580 t581 t582 a2 a3).bind fun bt585 => ((laws_toMessageS.f k l1).bind fun t589 => ((laws_toSlotRing.f a0_0 a0_1).bind fun bt592 => ((impl_QueueAt.f k bt592.1 bt592.2 t589 a2 a3).bind fun bt594 => ((laws_eqIntS.f k bt594.1 bt585.1).bind fun t598 => (if t598 = true then (laws_FnExactQueueAt.j0 k l1 a2 a3 bt585.1 bt585.2 t589 bt594.1 bt594.2 (bt594.2 != bt585.2) a0_0 a0_1) else (laws_FnExactQueueAt.j0 k l1 a2 a3 bt585.1 bt585.2 t589 bt594.1 bt594.2 true a0_0 a0_1))))))) = some r := H
    have A9 := Aside0.mk A90
    clear A90
    replace H := Option.bind_eq_some_iff.mp H
    obtain ⟨⟨t585, t588⟩, A100, H⟩ := H
    replace H : ((laws_toMessageS.f k l1).bind fun t589 => ((laws_toSlotRing.f a0_0 a0_1).bind fun bt592 => ((impl_QueueAt.f k bt592.1 bt592.2 t589 a2 a3).bind fun bt594 => ((laws_eqIntS.f k bt594.1 t585).bind fun t598 => (if t598 = true then (laws_FnExactQueueAt.j0 k l1 a2 a3 t585 t588 t589 bt594.1 bt594.2 (bt594.2 != t588) a0_0 a0_1) else (laws_FnExactQueueAt.j0 k l1 a2 a3 t585 t588 t589 bt594.1 bt594.2 true a0_0 a0_1)))))) = some r := H
    have A10 := Aside0.mk A100
    clear A100
    replace H := Option.bind_eq_some_iff.mp H
    obtain ⟨t589, A110, H⟩ := H
    replace H : ((laws_toSlotRing.f a0_0 a0_1).bind fun bt592 => ((impl_QueueAt.f k bt592.1 bt592.2 t589 a2 a3).bind fun bt594 => ((laws_eqIntS.f k bt594.1 t585).bind fun t598 => (if t598 = true then (laws_FnExactQueueAt.j0 k l1 a2 a3 t585 t588 t589 bt594.1 bt594.2 (bt594.2 != t588) a0_0 a0_1) else (laws_FnExactQueueAt.j0 k l1 a2 a3 t585 t588 t589 bt594.1 bt594.2 true a0_0 a0_1))))) = some r := H
    have A11 := Aside0.mk A110
    clear A110
    replace H := Option.bind_eq_some_iff.mp H
    obtain ⟨⟨t592, t593⟩, A120, H⟩ := H
    replace H : ((impl_QueueAt.f k t592 t593 t589 a2 a3).bind fun bt594 => ((laws_eqIntS.f k bt594.1 t585).bind fun t598 => (if t598 = true then (laws_FnExactQueueAt.j0 k l1 a2 a3 t585 t588 t589 bt594.1 bt594.2 (bt594.2 != t588) a0_0 a0_1) else (laws_FnExactQueueAt.j0 k l1 a2 a3 t585 t588 t589 bt594.1 bt594.2 true a0_0 a0_1)))) = some r := H
    have A12 := Aside0.mk A120
    clear A120
    replace H := Option.bind_eq_some_iff.mp H
    obtain ⟨⟨t594, t597⟩, A130, H⟩ := H
    replace H : ((laws_eqIntS.f k t594 t585).bind fun t598 => (if t598 = true then (laws_FnExactQueueAt.j0 k l1 a2 a3 t585 t588 t589 t594 t597 (t597 != t588) a0_0 a0_1) else (laws_FnExactQueueAt.j0 k l1 a2 a3 t585 t588 t589 t594 t597 true a0_0 a0_1))) = some r := H
    have A13 := Aside0.mk A130
    clear A130
    have HC14 := Aside0.mk H
    clear H
    go_enter Try.func13, Try.ntmps13
    go_upto_region 8 with (first | ((with_reducible refine gate_dst (N := 4) rfl ?_); refine box_event ?hg (N := 4) ?hd (cs := #[.int .i64 a0_0, .bool a0_1]) (t := 23) ?hr ?_; (case hd => rfl); (case hg => rfl); (case hr => first | (go_simp; done) | (go_simp; rfl)); intro gb578 hg w15 hbox hb; have n0_ := Aside0.mk (below_step (by repeat (first | (with_reducible first | exact HB.out | apply below_alloc | apply pw_below_drewN | apply below_drew1) | exact HB.out)) hb); have n1_ := Aside0.mk (hbox); have n2_ := Aside0.mk ((by rw [hg]; exact (below_size (by repeat (first | (with_reducible first | exact HB.out | apply below_alloc | apply pw_below_drewN | apply below_drew1) | exact HB.out))) : w.heap.size ≤ gb578)); have n3_ := Aside0.mk ((by rw [hg]; exact (below_size (by repeat (first | (with_reducible first | exact HB.out | apply below_alloc | apply pw_below_drewN | apply below_drew1) | exact HB.out))) : w.heap.size ≤ gb578)); clear HB; have HB := n0_; have BK578 := n1_; have GW578 := n2_; have GE578 := n3_; clear n0_ n1_ n2_ n3_; clear hb hbox hg) | ((with_reducible refine gate_callee (f := 18) rfl ?_); refine goesL_ (some 22) rfl rfl Try.func18 (by kernel_rfl) rfl #[.slice A1 l1.length c1, .int .i64 1048576] rfl (by (try simp only [List.map_toArray, List.map_cons, List.map_nil]); first | done | rfl | (simp only [List.length_drop, List.length_take]; rfl)) ?_; (with_reducible refine (laws_szMessageS.calls _ _ l1 1048576 t579 _ ?side1 ?side2 A5.out).mono ?_); (case side1 => repeat (first | exact (Kd.C_below HR1.out HB.out) | (with_reducible refine Kd.C_alloc ?_ _) | (with_reducible refine Kd.C_drewN ?_ _) | (with_reducible refine Kd.C_drew ?_))); (case side2 => exact HC1.out); rintro e w' ⟨rfl, ⟨nd, rfl⟩⟩; refine ⟨_, rfl, ?_⟩; have hcz16_0 : w15.cell? ⟨gb578, 0, none⟩ = some (.int .i64 a0_0) := (blk_cell BK578.out 0).trans rfl; have hcz16_1 : w15.cell? ⟨gb578, 1, none⟩ = some (.bool a0_1) := (blk_cell BK578.out 1).trans rfl; have hfz16_0 := blk_frozen BK578.out 0; have hfz16_1 := blk_frozen BK578.out 1) | ((with_reducible refine gate_callee (f := 15) rfl ?_); refine goesL_ (some 27) rfl rfl Try.func15 (by kernel_rfl) rfl #[.agg #[.int .i64 a0_0, .bool a0_1]] rfl (by (try simp only [List.map_toArray, List.map_cons, List.map_nil]); first | done | rfl | (simp only [List.length_drop, List.length_take]; rfl)) ?_; (with_reducible refine (laws_toSlotRing.calls a0_0 a0_1 t580 t581 _ A8.out).mono ?_); rintro e w17 ⟨rfl, hb⟩; refine ⟨_, rfl, ?_⟩; have n0_ := Aside0.mk (blk_below (g := gb578) (o := .cells #[.int .i64 a0_0, .bool a0_1] 23 (0, 0)) (by (with_reducible repeat (first | refine blk_drewN ?_ _ | refine blk_drew ?_ | refine blk_alloc ?_ _)); exact BK578.out) hb); have n1_ := Aside0.mk (below_step (by repeat (first | (with_reducible first | exact HB.out | apply below_alloc | apply pw_below_drewN | apply below_drew1 | refine below_set ?_ GE578.out) | exact HB.out)) hb); clear BK578; clear HB; have BK578 := n0_; have HB := n1_; clear n0_ n1_; (try clear hb); (try clear hb2); (try clear hk); (try clear hi)) | ((with_reducible refine gate_callee (f := 20) rfl ?_); refine goesL_ (some 29) rfl rfl Try.func20 (by kernel_rfl) rfl #[.slice A1 l1.length c1] rfl (by (try simp only [List.map_toArray, List.map_cons, List.map_nil]); first | done | rfl | (simp only [List.length_drop, List.length_take]; rfl)) ?_; (with_reducible refine (laws_toMessageS.calls k _ _ l1 t582 _ ?side1 ?side2 A9.out).mono ?_); (case side1 => repeat (first | exact (Kd.C_below HR1.out HB.out) | (with_reducible refine Kd.C_alloc ?_ _) | (with_reducible refine Kd.C_drewN ?_ _) | (with_reducible refine Kd.C_drew ?_))); (case side2 => exact HC1.out); rintro e w18 ⟨v583, rfl, ho0, hb⟩; refine ⟨_, rfl, ?_⟩; have n0_ := Aside0.mk (Kd.R_lower ho0 (below_size (by repeat (first | (with_reducible first | exact HB.out | apply below_alloc | apply pw_below_drewN | apply below_drew1 | refine below_set ?_ GE578.out) | exact HB.out)))); have n1_ := Aside0.mk (blk_below (g := gb578) (o := .cells #[.int .i64 a0_0, .bool a0_1] 23 (0, 0)) (by (with_reducible repeat (first | refine blk_drewN ?_ _ | refine blk_drew ?_ | refine blk_alloc ?_ _)); exact BK578.out) hb); have n2_ := Aside0.mk (below_step (by repeat (first | (with_reducible first | exact HB.out | apply below_alloc | apply pw_below_drewN | apply below_drew1 | refine below_set ?_ GE578.out) | exact HB.out)) hb); clear BK578; clear HB; have HO584 := n0_; have BK578 := n1_; have HB := n2_; clear n0_ n1_ n2_; (try clear hb); (try clear hb2); (try clear hk); (try clear hi); (try clear ho0); obtain ⟨Ao19, co19, eo19⟩ := Kd.R_slice HO584.out; subst eo19) | ((with_reducible refine gate_callee (f := 44) rfl ?_); refine goesL_ (some 32) rfl rfl Try.func44 (by kernel_rfl) rfl #[.agg #[.int .i64 t580, .bool t581], .slice Ao19 t582.length co19, .int .i64 a2, .int .i64 a3] rfl (by (try simp only [List.map_toArray, List.map_cons, List.map_nil]); first | done | rfl | (simp only [List.length_drop, List.length_take]; rfl)) ?_; (with_reducible refine (spec_QueueAt.calls k t580 t581 _ _ t582 a2 a3 t585 t588 _ ?side1 ?side2 A10.out).mono ?_); (case side1 => repeat (first | exact (Kd.R_reads' HO584.out).2.2 | (with_reducible refine Kd.C_alloc ?_ _) | (with_reducible refine Kd.C_drewN ?_ _) | (with_reducible refine Kd.C_drew ?_))); (case side2 => exact (Kd.R_reads' HO584.out).2.1); rintro e w20 ⟨v586, rfl, ho0, hb⟩; refine ⟨_, rfl, ?_⟩; have n0_ := Aside0.mk (Kd.R_below (by (with_reducible repeat (first | apply Kd.R_alloc | apply Kd.R_drewN | apply Kd.R_drew)); exact HO584.out) hb); have n1_ := Aside0.mk (Kd.R_lower ho0 (below_size (by repeat (first | (with_reducible first | exact HB.out | apply below_alloc | apply pw_below_drewN | apply below_drew1 | refine below_set ?_ GE578.out) | exact HB.out)))); have n2_ := Aside0.mk (blk_below (g := gb578) (o := .cells #[.int .i64 a0_0, .bool a0_1] 23 (0, 0)) (by (with_reducible repeat (first | refine blk_drewN ?_ _ | refine blk_drew ?_ | refine blk_alloc ?_ _)); exact BK578.out) hb); have n3_ := Aside0.mk (below_step (by repeat (first | (with_reducible first | exact HB.out | apply below_alloc | apply pw_below_drewN | apply below_drew1 | refine below_set ?_ GE578.out) | exact HB.out)) hb); clear HO584; clear BK578; clear HB; have HO584 := n0_; have HO587 := n1_; have BK578 := n2_; have HB := n3_; clear n0_ n1_ n2_ n3_; (try clear hb); (try clear hb2); (try clear hk); (try clear hi); (try clear ho0)) | ((with_reducible refine gate_callee (f := 20) rfl ?_); refine goesL_ (some 36) rfl rfl Try.func20 (by kernel_rfl) rfl #[.slice A1 l1.length c1] rfl (by (try simp only [List.map_toArray, List.map_cons, List.map_nil]); first | done | rfl | (simp only [List.length_drop, List.length_take]; rfl)) ?_; (with_reducible refine (laws_toMessageS.calls k _ _ l1 t589 _ ?side1 ?side2 A11.out).mono ?_); (case side1 => repeat (first | exact (Kd.C_below HR1.out HB.out) | (with_reducible refine Kd.C_alloc ?_ _) | (with_reducible refine Kd.C_drewN ?_ _) | (with_reducible refine Kd.C_drew ?_))); (case side2 => exact HC1.out); rintro e w21 ⟨v590, rfl, ho0, hb⟩; refine ⟨_, rfl, ?_⟩; have n0_ := Aside0.mk (Kd.R_elder' (by (with_reducible repeat (first | apply Kd.R_alloc | apply Kd.R_drewN | apply Kd.R_drew)); exact HO584.out) (Kd.R_base ho0) hb); have n1_ := Aside0.mk (Kd.R_below (by (with_reducible repeat (first | apply Kd.R_alloc | apply Kd.R_drewN | apply Kd.R_drew)); exact HO587.out) hb); have n2_ := Aside0.mk (Kd.R_lower (Kd.R_new' ho0 (Kd.R_lt (by (with_reducible repeat (first | apply Kd.R_alloc | apply Kd.R_drewN | apply Kd.R_drew)); exact HO584.out))) (below_size (by repeat (first | (with_reducible first | exact HB.out | apply below_alloc | apply pw_below_drewN | apply below_drew1 | refine below_set ?_ GE578.out) | exact HB.out)))); have n3_ := Aside0.mk (blk_below (g := gb578) (o := .cells #[.int .i64 a0_0, .bool a0_1] 23 (0, 0)) (by (with_reducible repeat (first | refine blk_drewN ?_ _ | refine blk_drew ?_ | refine blk_alloc ?_ _)); exact BK578.out) hb); have n4_ := Aside0.mk (below_step (by repeat (first | (with_reducible first | exact HB.out | apply below_alloc | apply pw_below_drewN | apply below_drew1 | refine below_set ?_ GE578.out) | exact HB.out)) hb); clear HO584; clear HO587; clear BK578; clear HB; have HO584 := n0_; have HO587 := n1_; have HO591 := n2_; have BK578 := n3_; have HB := n4_; clear n0_ n1_ n2_ n3_ n4_; (try clear hb); (try clear hb2); (try clear hk); (try clear hi); (try clear ho0); have hcz22_0 : w21.cell? ⟨gb578, 0, none⟩ = some (.int .i64 a0_0) := (blk_cell BK578.out 0).trans rfl; have hcz22_1 : w21.cell? ⟨gb578, 1, none⟩ = some (.bool a0_1) := (blk_cell BK578.out 1).trans rfl; have hfz22_0 := blk_frozen BK578.out 0; have hfz22_1 := blk_frozen BK578.out 1) | ((with_reducible refine gate_callee (f := 15) rfl ?_); refine goesL_ (some 39) rfl rfl Try.func15 (by kernel_rfl) rfl #[.agg #[.int .i64 a0_0, .bool a0_1]] rfl (by (try simp only [List.map_toArray, List.map_cons, List.map_nil]); first | done | rfl | (simp only [List.length_drop, List.length_take]; rfl)) ?_; (with_reducible refine (laws_toSlotRing.calls a0_0 a0_1 t592 t593 _ A12.out).mono ?_); rintro e w23 ⟨rfl, hb⟩; refine ⟨_, rfl, ?_⟩; have n0_ := Aside0.mk (Kd.R_below (by (with_reducible repeat (first | apply Kd.R_alloc | apply Kd.R_drewN | apply Kd.R_drew)); exact HO584.out) hb); have n1_ := Aside0.mk (Kd.R_below (by (with_reducible repeat (first | apply Kd.R_alloc | apply Kd.R_drewN | apply Kd.R_drew)); exact HO587.out) hb); have n2_ := Aside0.mk (Kd.R_below (by (with_reducible repeat (first | apply Kd.R_alloc | apply Kd.R_drewN | apply Kd.R_drew)); exact HO591.out) hb); have n3_ := Aside0.mk (blk_below (g := gb578) (o := .cells #[.int .i64 a0_0, .bool a0_1] 23 (0, 0)) (by (with_reducible repeat (first | refine blk_drewN ?_ _ | refine blk_drew ?_ | refine blk_alloc ?_ _)); exact BK578.out) hb); have n4_ := Aside0.mk (below_step (by repeat (first | (with_reducible first | exact HB.out | apply below_alloc | apply pw_below_drewN | apply below_drew1 | refine below_set ?_ GE578.out) | exact HB.out)) hb); clear HO584; clear HO587; clear HO591; clear BK578; clear HB; have HO584 := n0_; have HO587 := n1_; have HO591 := n2_; have BK578 := n3_; have HB := n4_; clear n0_ n1_ n2_ n3_ n4_; (try clear hb); (try clear hb2); (try clear hk); (try clear hi); obtain ⟨Ao24, co24, eo24⟩ := Kd.R_slice HO591.out; subst eo24) | ((with_reducible refine gate_callee (f := 45) rfl ?_); refine goesL_ (some 43) rfl rfl Try.func45 (by kernel_rfl) rfl #[.agg #[.int .i64 t592, .bool t593], .slice Ao24 t589.length co24, .int .i64 a2, .int .i64 a3] rfl (by (try simp only [List.map_toArray, List.map_cons, List.map_nil]); first | done | rfl | (simp only [List.length_drop, List.length_take]; rfl)) ?_; (with_reducible refine (impl_QueueAt.calls k t592 t593 _ _ t589 a2 a3 t594 t597 _ ?side1 ?side2 A13.out).mono ?_); (case side1 => repeat (first | exact (Kd.R_reads' HO591.out).2.2 | (with_reducible refine Kd.C_alloc ?_ _) | (with_reducible refine Kd.C_drewN ?_ _) | (with_reducible refine Kd.C_drew ?_))); (case side2 => exact (Kd.R_reads' HO591.out).2.1); rintro e w25 ⟨v595, rfl, ho0, hb⟩; refine ⟨_, rfl, ?_⟩; have n0_ := Aside0.mk (Kd.R_below (by (with_reducible repeat (first | apply Kd.R_alloc | apply Kd.R_drewN | apply Kd.R_drew)); exact HO584.out) hb); have n1_ := Aside0.mk (Kd.R_elder' (by (with_reducible repeat (first | apply Kd.R_alloc | apply Kd.R_drewN | apply Kd.R_drew)); exact HO587.out) (Kd.R_base ho0) hb); have n2_ := Aside0.mk (Kd.R_below (by (with_reducible repeat (first | apply Kd.R_alloc | apply Kd.R_drewN | apply Kd.R_drew)); exact HO591.out) hb); have n3_ := Aside0.mk (Kd.R_lower (Kd.R_new' ho0 (Kd.R_lt (by (with_reducible repeat (first | apply Kd.R_alloc | apply Kd.R_drewN | apply Kd.R_drew)); exact HO587.out))) (below_size (by repeat (first | (with_reducible first | exact HB.out | apply below_alloc | apply pw_below_drewN | apply below_drew1 | refine below_set ?_ GE578.out) | exact HB.out)))); have n4_ := Aside0.mk (blk_below (g := gb578) (o := .cells #[.int .i64 a0_0, .bool a0_1] 23 (0, 0)) (by (with_reducible repeat (first | refine blk_drewN ?_ _ | refine blk_drew ?_ | refine blk_alloc ?_ _)); exact BK578.out) hb); have n5_ := Aside0.mk (below_step (by repeat (first | (with_reducible first | exact HB.out | apply below_alloc | apply pw_below_drewN | apply below_drew1 | refine below_set ?_ GE578.out) | exact HB.out)) hb); clear HO584; clear HO587; clear HO591; clear BK578; clear HB; have HO584 := n0_; have HO587 := n1_; have HO591 := n2_; have HO596 := n3_; have BK578 := n4_; have HB := n5_; clear n0_ n1_ n2_ n3_ n4_ n5_; (try clear hb); (try clear hb2); (try clear hk); (try clear hi); (try clear ho0)))
    (try simp only [Act.put, List.setIfInBounds_toArray, List.set_cons_zero, List.set_cons_succ])
    go_cut [54] (fun v54 wc => ∃ (kq : Nat) (x54_13 : Bool), v54 = .bool x54_13 ∧ Aside0 (laws_FnExactQueueAt.j0 kq l1 a2 a3 t585 t588 t589 t594 t597 x54_13 a0_0 a0_1 = some r) ∧ Aside0 (kq ≤ k) ∧ Aside0 (Kd.R (Kd.int .i64) 3 wc w.heap.size (fun k_ => some k_ ≠ (v595 : Value).ownBlock) v586 t585) ∧ Aside0 (Kd.R k30 30 wc w.heap.size (fun _ => True) (.slice Ao24 t589.length co24) t589) ∧ Aside0 (Kd.R (Kd.int .i64) 3 wc w.heap.size (fun k_ => some k_ ≠ (v586 : Value).ownBlock) v595 t594) ∧ Aside0 (wc.heap[gb578]? = some (.cells #[.int .i64 a0_0, .bool a0_1] 23 (0, 0))) ∧ Aside0 (Below w.heap.size w wc))
    case first =>
      have H := HC14.out
      clear HC14
      replace H := Option.bind_eq_some_iff.mp H
      obtain ⟨t598, A260, H⟩ := H
      replace H : (if t598 = true then (laws_FnExactQueueAt.j0 k l1 a2 a3 t585 t588 t589 t594 t597 (t597 != t588) a0_0 a0_1) else (laws_FnExactQueueAt.j0 k l1 a2 a3 t585 t588 t589 t594 t597 true a0_0 a0_1)) = some r := H
      have A26 := Aside0.mk A260
      clear A260
      by_cases c27 : t598 = true
      · subst c27
        have H1 : (laws_FnExactQueueAt.j0 k l1 a2 a3 t585 t588 t589 t594 t597 (t597 != t588) a0_0 a0_1) = some r := by rw [if_pos rfl] at H; exact H
        clear H
        have H := H1
        clear H1
        have H' := Aside0.mk H
        clear H
        obtain ⟨Ao28, co28, eo28⟩ := Kd.R_slice HO596.out
        subst eo28
        obtain ⟨Ao29, co29, eo29⟩ := Kd.R_slice HO587.out
        subst eo29
        go_wp2_with (first | ((with_reducible refine gate_callee (f := 31) rfl ?_); refine goesL_ (some 48) rfl rfl Try.func31 (by kernel_rfl) rfl #[.slice Ao28 t594.length co28, .slice Ao29 t585.length co29] rfl (by (try simp only [List.map_toArray, List.map_cons, List.map_nil]); first | done | rfl | (simp only [List.length_drop, List.length_take]; rfl)) ?_; (with_reducible refine (laws_eqIntS.calls k _ _ t594 _ _ t585 true _ ?side1 ?side2 ?side3 ?side4 A26.out).mono ?_); (case side1 => repeat (first | exact (Kd.R_reads' HO596.out).2.2 | (with_reducible refine Kd.C_alloc ?_ _) | (with_reducible refine Kd.C_drewN ?_ _) | (with_reducible refine Kd.C_drew ?_))); (case side2 => exact (Kd.R_reads' HO596.out).2.1); (case side3 => repeat (first | exact (Kd.R_reads' HO587.out).2.2 | (with_reducible refine Kd.C_alloc ?_ _) | (with_reducible refine Kd.C_drewN ?_ _) | (with_reducible refine Kd.C_drew ?_))); (case side4 => exact (Kd.R_reads' HO587.out).2.1); rintro e w' ⟨rfl, ⟨nd, rfl⟩⟩; refine ⟨_, rfl, ?_⟩))
        go_meet
        case rel => exact ⟨_, ((t597 != t588)), (by first | rfl | (simp; done) | (simp [*]; done)), H', ⟨by first | omega | exact Nat.le_refl _⟩, ⟨by (with_reducible repeat (first | apply Kd.R_alloc | apply Kd.R_drewN | apply Kd.R_drew)); exact Kd.R_mono HO587.out (fun _ hk => hk.2)⟩, ⟨by (with_reducible repeat (first | apply Kd.R_alloc | apply Kd.R_drewN | apply Kd.R_drew)); exact Kd.R_mono HO591.out (fun _ hk => trivial)⟩, ⟨by (with_reducible repeat (first | apply Kd.R_alloc | apply Kd.R_drewN | apply Kd.R_drew)); exact Kd.R_mono HO596.out (fun _ hk => hk.2)⟩, ⟨by (with_reducible repeat (first | refine blk_drewN ?_ _ | refine blk_drew ?_ | refine blk_alloc ?_ _)); exact BK578.out⟩, ⟨by repeat (first | (with_reducible first | exact HB.out | apply below_alloc | apply pw_below_drewN | apply below_drew1 | refine below_set ?_ GE578.out) | exact HB.out)⟩⟩
      · replace c27 := Bool.eq_false_iff.mpr c27
        subst c27
        have H1 : (laws_FnExactQueueAt.j0 k l1 a2 a3 t585 t588 t589 t594 t597 true a0_0 a0_1) = some r := by rw [if_neg (show ¬ (false = true) by decide)] at H; exact H
        clear H
        have H := H1
        clear H1
        have H' := Aside0.mk H
        clear H
        obtain ⟨Ao30, co30, eo30⟩ := Kd.R_slice HO596.out
        subst eo30
        obtain ⟨Ao31, co31, eo31⟩ := Kd.R_slice HO587.out
        subst eo31
        go_wp2_with (first | ((with_reducible refine gate_callee (f := 31) rfl ?_); refine goesL_ (some 48) rfl rfl Try.func31 (by kernel_rfl) rfl #[.slice Ao30 t594.length co30, .slice Ao31 t585.length co31] rfl (by (try simp only [List.map_toArray, List.map_cons, List.map_nil]); first | done | rfl | (simp only [List.length_drop, List.length_take]; rfl)) ?_; (with_reducible refine (laws_eqIntS.calls k _ _ t594 _ _ t585 false _ ?side1 ?side2 ?side3 ?side4 A26.out).mono ?_); (case side1 => repeat (first | exact (Kd.R_reads' HO596.out).2.2 | (with_reducible refine Kd.C_alloc ?_ _) | (with_reducible refine Kd.C_drewN ?_ _) | (with_reducible refine Kd.C_drew ?_))); (case side2 => exact (Kd.R_reads' HO596.out).2.1); (case side3 => repeat (first | exact (Kd.R_reads' HO587.out).2.2 | (with_reducible refine Kd.C_alloc ?_ _) | (with_reducible refine Kd.C_drewN ?_ _) | (with_reducible refine Kd.C_drew ?_))); (case side4 => exact (Kd.R_reads' HO587.out).2.1); rintro e w' ⟨rfl, ⟨nd, rfl⟩⟩; refine ⟨_, rfl, ?_⟩))
        go_meet
        case rel => exact ⟨_, (true), (by first | rfl | (simp; done) | (simp [*]; done)), H', ⟨by first | omega | exact Nat.le_refl _⟩, ⟨by (with_reducible repeat (first | apply Kd.R_alloc | apply Kd.R_drewN | apply Kd.R_drew)); exact Kd.R_mono HO587.out (fun _ hk => hk.2)⟩, ⟨by (with_reducible repeat (first | apply Kd.R_alloc | apply Kd.R_drewN | apply Kd.R_drew)); exact Kd.R_mono HO591.out (fun _ hk => trivial)⟩, ⟨by (with_reducible repeat (first | apply Kd.R_alloc | apply Kd.R_drewN | apply Kd.R_drew)); exact Kd.R_mono HO596.out (fun _ hk => hk.2)⟩, ⟨by (with_reducible repeat (first | refine blk_drewN ?_ _ | refine blk_drew ?_ | refine blk_alloc ?_ _)); exact BK578.out⟩, ⟨by repeat (first | (with_reducible first | exact HB.out | apply below_alloc | apply pw_below_drewN | apply below_drew1 | refine below_set ?_ GE578.out) | exact HB.out)⟩⟩
    case rest =>
      clear HC14
      try clear c1
      try clear c2
      try clear p2
      try clear c3
      try clear c4
      try clear c6
      try clear c6b0
      try clear c13
      try clear c15
      try clear c18
      try clear c20
      try clear c27
      try clear c31
      try clear hcz16_0
      try clear hcz16_1
      try clear hcz22_0
      try clear hcz22_1
      try clear hfz16_0
      try clear hfz16_1
      try clear hfz22_0
      try clear hfz22_1
      obtain ⟨kq, x54_13, rfl, HA, HJ13, HO_10, HO_12, HO_13, BK578, HB⟩ := hcut
      cases kq with
      | zero => exact absurd HA.out (by simp [laws_FnExactQueueAt.j0])
      | succ kj13 =>
        have H := HA.out
        clear HA
        simp only [laws_FnExactQueueAt.j0] at H
        by_cases c32 : x54_13 = true
        · subst c32
          have H1 : (some false) = some r := by rw [if_pos rfl] at H; exact H
          clear H
          have H := H1
          clear H1
          obtain rfl := Option.some.inj H
          go_wp2
          go_ret
          exact ⟨by first | rfl | (simp [errW_none, errW_some] <;> rfl) | (simp [*, errW_none, errW_some] <;> rfl), by repeat (first | (with_reducible first | exact HB.out | apply below_alloc | apply pw_below_drewN | apply below_drew1 | refine below_set ?_ GE578.out) | exact HB.out)⟩
        · replace c32 := Bool.eq_false_iff.mpr c32
          subst c32
          have H1 : ((laws_toMessageS.f kj13 l1).bind fun t599 => ((laws_eqMessageS.f kj13 t589 t599).bind fun t602 => (if t602 = true then ((laws_markMessageS.f kj13 t589 1).bind fun bt603 => (if bt603.1 < 0 then (laws_FnExactQueueAt.j1 kj13 l1 a2 a3 t585 t588 t594 true a0_0 a0_1) else ((laws_eqIntS.f kj13 t594 t585).bind fun t605 => (if t605 = true then (laws_FnExactQueueAt.j1 kj13 l1 a2 a3 t585 t588 t594 (t597 != t588) a0_0 a0_1) else (laws_FnExactQueueAt.j1 kj13 l1 a2 a3 t585 t588 t594 true a0_0 a0_1))))) else (some false)))) = some r := by rw [if_neg (show ¬ (false = true) by decide)] at H; exact H
          clear H
          have H := H1
          clear H1
          replace H := Option.bind_eq_some_iff.mp H
          obtain ⟨t599, A330, H⟩ := H
          replace H : ((laws_eqMessageS.f kj13 t589 t599).bind fun t602 => (if t602 = true then ((laws_markMessageS.f kj13 t589 1).bind fun bt603 => (if bt603.1 < 0 then (laws_FnExactQueueAt.j1 kj13 l1 a2 a3 t585 t588 t594 true a0_0 a0_1) else ((laws_eqIntS.f kj13 t594 t585).bind fun t605 => (if t605 = true then (laws_FnExactQueueAt.j1 kj13 l1 a2 a3 t585 t588 t594 (t597 != t588) a0_0 a0_1) else (laws_FnExactQueueAt.j1 kj13 l1 a2 a3 t585 t588 t594 true a0_0 a0_1))))) else (some false))) = some r := H
          have A33 := Aside0.mk A330
          clear A330
          replace H := Option.bind_eq_some_iff.mp H
          obtain ⟨t602, A340, H⟩ := H
          replace H : (if t602 = true then ((laws_markMessageS.f kj13 t589 1).bind fun bt603 => (if bt603.1 < 0 then (laws_FnExactQueueAt.j1 kj13 l1 a2 a3 t585 t588 t594 true a0_0 a0_1) else ((laws_eqIntS.f kj13 t594 t585).bind fun t605 => (if t605 = true then (laws_FnExactQueueAt.j1 kj13 l1 a2 a3 t585 t588 t594 (t597 != t588) a0_0 a0_1) else (laws_FnExactQueueAt.j1 kj13 l1 a2 a3 t585 t588 t594 true a0_0 a0_1))))) else (some false)) = some r := H
          have A34 := Aside0.mk A340
          clear A340
          by_cases c35 : t602 = true
          · subst c35
            have H1 : ((laws_markMessageS.f kj13 t589 1).bind fun bt603 => (if bt603.1 < 0 then (laws_FnExactQueueAt.j1 kj13 l1 a2 a3 t585 t588 t594 true a0_0 a0_1) else ((laws_eqIntS.f kj13 t594 t585).bind fun t605 => (if t605 = true then (laws_FnExactQueueAt.j1 kj13 l1 a2 a3 t585 t588 t594 (t597 != t588) a0_0 a0_1) else (laws_FnExactQueueAt.j1 kj13 l1 a2 a3 t585 t588 t594 true a0_0 a0_1))))) = some r := by rw [if_pos rfl] at H; exact H
            clear H
            have H := H1
            clear H1
            replace H := Option.bind_eq_some_iff.mp H
            obtain ⟨⟨t603, t604⟩, A360, H⟩ := H
            replace H : (if t603 < 0 then (laws_FnExactQueueAt.j1 kj13 l1 a2 a3 t585 t588 t594 true a0_0 a0_1) else ((laws_eqIntS.f kj13 t594 t585).bind fun t605 => (if t605 = true then (laws_FnExactQueueAt.j1 kj13 l1 a2 a3 t585 t588 t594 (t597 != t588) a0_0 a0_1) else (laws_FnExactQueueAt.j1 kj13 l1 a2 a3 t585 t588 t594 true a0_0 a0_1)))) = some r := H
            have A36 := Aside0.mk A360
            clear A360
            have HC37 := Aside0.mk H
            clear H
            go_upto_region 14 with (first | ((with_reducible refine gate_callee (f := 20) rfl ?_); refine goesL_ (some 57) rfl rfl Try.func20 (by kernel_rfl) rfl #[.slice A1 l1.length c1] rfl (by (try simp only [List.map_toArray, List.map_cons, List.map_nil]); first | done | rfl | (simp only [List.length_drop, List.length_take]; rfl)) ?_; (with_reducible refine (laws_toMessageS.calls kj13 _ _ l1 t599 _ ?side1 ?side2 A33.out).mono ?_); (case side1 => repeat (first | exact (Kd.C_below HR1.out HB.out) | (with_reducible refine Kd.C_alloc ?_ _) | (with_reducible refine Kd.C_drewN ?_ _) | (with_reducible refine Kd.C_drew ?_))); (case side2 => exact HC1.out); rintro e w38 ⟨v600, rfl, ho0, hb⟩; refine ⟨_, rfl, ?_⟩; have n0_ := Aside0.mk (Kd.R_below (by (with_reducible repeat (first | apply Kd.R_alloc | apply Kd.R_drewN | apply Kd.R_drew)); exact HO_10.out) hb); have n1_ := Aside0.mk (Kd.R_elder' (by (with_reducible repeat (first | apply Kd.R_alloc | apply Kd.R_drewN | apply Kd.R_drew)); exact HO_12.out) (Kd.R_base ho0) hb); have n2_ := Aside0.mk (Kd.R_below (by (with_reducible repeat (first | apply Kd.R_alloc | apply Kd.R_drewN | apply Kd.R_drew)); exact HO_13.out) hb); have n3_ := Aside0.mk (Kd.R_lower (Kd.R_new' ho0 (Kd.R_lt (by (with_reducible repeat (first | apply Kd.R_alloc | apply Kd.R_drewN | apply Kd.R_drew)); exact HO_12.out))) (below_size (by repeat (first | (with_reducible first | exact HB.out | apply below_alloc | apply pw_below_drewN | apply below_drew1 | refine below_set ?_ GE578.out) | exact HB.out)))); have n4_ := Aside0.mk (blk_below (g := gb578) (o := .cells #[.int .i64 a0_0, .bool a0_1] 23 (0, 0)) (by (with_reducible repeat (first | refine blk_drewN ?_ _ | refine blk_drew ?_ | refine blk_alloc ?_ _)); exact BK578.out) hb); have n5_ := Aside0.mk (below_step (by repeat (first | (with_reducible first | exact HB.out | apply below_alloc | apply pw_below_drewN | apply below_drew1 | refine below_set ?_ GE578.out) | exact HB.out)) hb); clear HO_10; clear HO_12; clear HO_13; clear BK578; clear HB; have HO_10 := n0_; have HO_12 := n1_; have HO_13 := n2_; have HO601 := n3_; have BK578 := n4_; have HB := n5_; clear n0_ n1_ n2_ n3_ n4_ n5_; (try clear hb); (try clear hb2); (try clear hk); (try clear hi); (try clear ho0); obtain ⟨Ao39, co39, eo39⟩ := Kd.R_slice HO601.out; subst eo39) | ((with_reducible refine gate_callee (f := 22) rfl ?_); refine goesL_ (some 58) rfl rfl Try.func22 (by kernel_rfl) rfl #[.slice Ao24 t589.length co24, .slice Ao39 t599.length co39] rfl (by (try simp only [List.map_toArray, List.map_cons, List.map_nil]); first | done | rfl | (simp only [List.length_drop, List.length_take]; rfl)) ?_; (with_reducible refine (laws_eqMessageS.calls kj13 _ _ t589 _ _ t599 true _ ?side1 ?side2 ?side3 ?side4 A34.out).mono ?_); (case side1 => repeat (first | exact (Kd.R_reads' HO_12.out).2.2 | (with_reducible refine Kd.C_alloc ?_ _) | (with_reducible refine Kd.C_drewN ?_ _) | (with_reducible refine Kd.C_drew ?_))); (case side2 => exact (Kd.R_reads' HO_12.out).2.1); (case side3 => repeat (first | exact (Kd.R_reads' HO601.out).2.2 | (with_reducible refine Kd.C_alloc ?_ _) | (with_reducible refine Kd.C_drewN ?_ _) | (with_reducible refine Kd.C_drew ?_))); (case side4 => exact (Kd.R_reads' HO601.out).2.1); rintro e w40 ⟨rfl, hb⟩; refine ⟨_, rfl, ?_⟩; have n0_ := Aside0.mk (Kd.R_below (by (with_reducible repeat (first | apply Kd.R_alloc | apply Kd.R_drewN | apply Kd.R_drew)); exact HO_10.out) hb); have n1_ := Aside0.mk (Kd.R_below (by (with_reducible repeat (first | apply Kd.R_alloc | apply Kd.R_drewN | apply Kd.R_drew)); exact HO_12.out) hb); have n2_ := Aside0.mk (Kd.R_below (by (with_reducible repeat (first | apply Kd.R_alloc | apply Kd.R_drewN | apply Kd.R_drew)); exact HO_13.out) hb); have n3_ := Aside0.mk (Kd.R_below (by (with_reducible repeat (first | apply Kd.R_alloc | apply Kd.R_drewN | apply Kd.R_drew)); exact HO601.out) hb); have n4_ := Aside0.mk (blk_below (g := gb578) (o := .cells #[.int .i64 a0_0, .bool a0_1] 23 (0, 0)) (by (with_reducible repeat (first | refine blk_drewN ?_ _ | refine blk_drew ?_ | refine blk_alloc ?_ _)); exact BK578.out) hb); have n5_ := Aside0.mk (below_step (by repeat (first | (with_reducible first | exact HB.out | apply below_alloc | apply pw_below_drewN | apply below_drew1 | refine below_set ?_ GE578.out) | exact HB.out)) hb); clear HO_10; clear HO_12; clear HO_13; clear HO601; clear BK578; clear HB; have HO_10 := n0_; have HO_12 := n1_; have HO_13 := n2_; have HO601 := n3_; have BK578 := n4_; have HB := n5_; clear n0_ n1_ n2_ n3_ n4_ n5_; (try clear hb); (try clear hb2); (try clear hk); (try clear hi)) | ((with_reducible refine gate_callee (f := 27) rfl ?_); refine goesL_ (some 62) rfl rfl Try.func27 (by kernel_rfl) rfl #[.slice Ao24 t589.length co24, .int .i64 1] rfl (by (try simp only [List.map_toArray, List.map_cons, List.map_nil]); first | done | rfl | (simp only [List.length_drop, List.length_take]; rfl)) ?_; (with_reducible refine (laws_markMessageS.calls kj13 (fun k_ => some k_ = (.slice Ao24 t589.length co24 : Value).ownBlock) (.slice Ao24 t589.length co24) t589 1 t603 t604 w _ ?side1 ?side2 A36.out).mono ?_); (case side1 => repeat (first | (with_reducible first | exact HB.out | apply below_alloc | apply pw_below_drewN | apply below_drew1 | refine below_set ?_ GE578.out) | exact HB.out)); (case side2 => exact Kd.R_tight rfl HO_12.out); rintro e w41 ⟨rfl, hy0, hb, hkp⟩; refine ⟨_, rfl, ?_⟩; have n0_ := Aside0.mk (Kd.R_mono (ok' := fun k_ => some k_ ≠ (v595 : Value).ownBlock) (Kd.R_keptB ((Kd.R_apart' HO_10.out (Kd.R_typed HO_12.out) (by decide))) hkp (fun k_ hk_ hs_ => (hk_.2) hs_)) (fun k_ hk_ => hk_.1.1)); have n1_ := Aside0.mk (Kd.R_reok rfl hy0 (fun k_ e_ => HO_12.out.1 k_ e_)); have n2_ := Aside0.mk (Kd.R_mono (ok' := fun k_ => some k_ ≠ (v586 : Value).ownBlock) (Kd.R_keptB ((Kd.R_apart' HO_13.out (Kd.R_typed HO_12.out) (by decide))) hkp (fun k_ hk_ hs_ => (hk_.2) hs_)) (fun k_ hk_ => hk_.1.1)); have n3_ := Aside0.mk (blk_kept (by (with_reducible repeat (first | refine blk_drewN ?_ _ | refine blk_drew ?_ | refine blk_alloc ?_ _)); exact BK578.out) hkp (fun hs_ => (fun e_ => (Kd.R_ne HO_12.out BK578.out (by decide)) e_) hs_)); have n4_ := Aside0.mk (Kd.R_mono (ok' := fun k_ => some k_ ≠ (.slice Ao24 t589.length co24 : Value).ownBlock) (Kd.R_keptB (HO601.out) hkp (fun k_ hk_ hs_ => (hk_.2) hs_)) (fun k_ hk_ => hk_.1.2)); have n5_ := Aside0.mk (hb); clear HO_10; clear HO_12; clear HO_13; clear BK578; clear HO601; clear HB; have HO_10 := n0_; have HO_12 := n1_; have HO_13 := n2_; have BK578 := n3_; have HO601 := n4_; have HB := n5_; clear n0_ n1_ n2_ n3_ n4_ n5_; (try clear hb); (try clear hkp); (try clear hy0)))
            (try simp only [Act.put, List.setIfInBounds_toArray, List.set_cons_zero, List.set_cons_succ])
            go_cut [75] (fun v75 wc => ∃ (kq : Nat) (x75_36 : Bool), v75 = .bool x75_36 ∧ Aside0 (laws_FnExactQueueAt.j1 kq l1 a2 a3 t585 t588 t594 x75_36 a0_0 a0_1 = some r) ∧ Aside0 (kq ≤ kj13) ∧ Aside0 (Kd.R (Kd.int .i64) 3 wc w.heap.size (fun k_ => some k_ ≠ (v595 : Value).ownBlock) v586 t585) ∧ Aside0 (Kd.R (Kd.int .i64) 3 wc w.heap.size (fun k_ => some k_ ≠ (v586 : Value).ownBlock) v595 t594) ∧ Aside0 (wc.heap[gb578]? = some (.cells #[.int .i64 a0_0, .bool a0_1] 23 (0, 0))) ∧ Aside0 (Below w.heap.size w wc))
            case first =>
              have H := HC37.out
              clear HC37
              by_cases c42 : t603 < 0
              · rw [if_pos c42] at H
                have c42b0 : decide (t603 < 0) = true := decide_eq_true c42
                clear c42
                (first | rw [c42b0] | (simp only [i64_w, i32_w]; rw [c42b0]) | skip)
                have H' := Aside0.mk H
                clear H
                go_wp2
                go_meet
                case rel => exact ⟨_, (true), (by first | rfl | (simp; done) | (simp [*]; done)), H', ⟨by have := HJ13.out; first | omega | exact Nat.le_refl _⟩, ⟨by (with_reducible repeat (first | apply Kd.R_alloc | apply Kd.R_drewN | apply Kd.R_drew)); exact HO_10.out⟩, ⟨by (with_reducible repeat (first | apply Kd.R_alloc | apply Kd.R_drewN | apply Kd.R_drew)); exact HO_13.out⟩, ⟨by (with_reducible repeat (first | refine blk_drewN ?_ _ | refine blk_drew ?_ | refine blk_alloc ?_ _)); exact BK578.out⟩, ⟨by repeat (first | (with_reducible first | exact HB.out | apply below_alloc | apply pw_below_drewN | apply below_drew1 | refine below_set ?_ GE578.out) | exact HB.out)⟩⟩
              · rw [if_neg c42] at H
                have c42b0 : decide (t603 < 0) = false := decide_eq_false c42
                clear c42
                (first | rw [c42b0] | (simp only [i64_w, i32_w]; rw [c42b0]) | skip)
                replace H := Option.bind_eq_some_iff.mp H
                obtain ⟨t605, A430, H⟩ := H
                replace H : (if t605 = true then (laws_FnExactQueueAt.j1 kj13 l1 a2 a3 t585 t588 t594 (t597 != t588) a0_0 a0_1) else (laws_FnExactQueueAt.j1 kj13 l1 a2 a3 t585 t588 t594 true a0_0 a0_1)) = some r := H
                have A43 := Aside0.mk A430
                clear A430
                by_cases c44 : t605 = true
                · subst c44
                  have H1 : (laws_FnExactQueueAt.j1 kj13 l1 a2 a3 t585 t588 t594 (t597 != t588) a0_0 a0_1) = some r := by rw [if_pos rfl] at H; exact H
                  clear H
                  have H := H1
                  clear H1
                  have H' := Aside0.mk H
                  clear H
                  obtain ⟨Ao45, co45, eo45⟩ := Kd.R_slice HO_13.out
                  subst eo45
                  obtain ⟨Ao46, co46, eo46⟩ := Kd.R_slice HO_10.out
                  subst eo46
                  go_wp2_with (first | (go_at_call 31; (with_reducible refine (laws_eqIntS.calls kj13 _ _ t594 _ _ t585 true _ ?side1 ?side2 ?side3 ?side4 A43.out).mono ?_); (case side1 => repeat (first | exact (Kd.R_reads' HO_13.out).2.2 | (with_reducible refine Kd.C_alloc ?_ _) | (with_reducible refine Kd.C_drewN ?_ _) | (with_reducible refine Kd.C_drew ?_))); (case side2 => exact (Kd.R_reads' HO_13.out).2.1); (case side3 => repeat (first | exact (Kd.R_reads' HO_10.out).2.2 | (with_reducible refine Kd.C_alloc ?_ _) | (with_reducible refine Kd.C_drewN ?_ _) | (with_reducible refine Kd.C_drew ?_))); (case side4 => exact (Kd.R_reads' HO_10.out).2.1); rintro e w' ⟨rfl, ⟨nd, rfl⟩⟩))
                  go_meet
                  case rel => exact ⟨_, ((t597 != t588)), (by first | rfl | (simp; done) | (simp [*]; done)), H', ⟨by have := HJ13.out; first | omega | exact Nat.le_refl _⟩, ⟨by (with_reducible repeat (first | apply Kd.R_alloc | apply Kd.R_drewN | apply Kd.R_drew)); exact HO_10.out⟩, ⟨by (with_reducible repeat (first | apply Kd.R_alloc | apply Kd.R_drewN | apply Kd.R_drew)); exact HO_13.out⟩, ⟨by (with_reducible repeat (first | refine blk_drewN ?_ _ | refine blk_drew ?_ | refine blk_alloc ?_ _)); exact BK578.out⟩, ⟨by repeat (first | (with_reducible first | exact HB.out | apply below_alloc | apply pw_below_drewN | apply below_drew1 | refine below_set ?_ GE578.out) | exact HB.out)⟩⟩
                · replace c44 := Bool.eq_false_iff.mpr c44
                  subst c44
                  have H1 : (laws_FnExactQueueAt.j1 kj13 l1 a2 a3 t585 t588 t594 true a0_0 a0_1) = some r := by rw [if_neg (show ¬ (false = true) by decide)] at H; exact H
                  clear H
                  have H := H1
                  clear H1
                  have H' := Aside0.mk H
                  clear H
                  obtain ⟨Ao47, co47, eo47⟩ := Kd.R_slice HO_13.out
                  subst eo47
                  obtain ⟨Ao48, co48, eo48⟩ := Kd.R_slice HO_10.out
                  subst eo48
                  go_wp2_with (first | (go_at_call 31; (with_reducible refine (laws_eqIntS.calls kj13 _ _ t594 _ _ t585 false _ ?side1 ?side2 ?side3 ?side4 A43.out).mono ?_); (case side1 => repeat (first | exact (Kd.R_reads' HO_13.out).2.2 | (with_reducible refine Kd.C_alloc ?_ _) | (with_reducible refine Kd.C_drewN ?_ _) | (with_reducible refine Kd.C_drew ?_))); (case side2 => exact (Kd.R_reads' HO_13.out).2.1); (case side3 => repeat (first | exact (Kd.R_reads' HO_10.out).2.2 | (with_reducible refine Kd.C_alloc ?_ _) | (with_reducible refine Kd.C_drewN ?_ _) | (with_reducible refine Kd.C_drew ?_))); (case side4 => exact (Kd.R_reads' HO_10.out).2.1); rintro e w' ⟨rfl, ⟨nd, rfl⟩⟩))
                  go_meet
                  case rel => exact ⟨_, (true), (by first | rfl | (simp; done) | (simp [*]; done)), H', ⟨by have := HJ13.out; first | omega | exact Nat.le_refl _⟩, ⟨by (with_reducible repeat (first | apply Kd.R_alloc | apply Kd.R_drewN | apply Kd.R_drew)); exact HO_10.out⟩, ⟨by (with_reducible repeat (first | apply Kd.R_alloc | apply Kd.R_drewN | apply Kd.R_drew)); exact HO_13.out⟩, ⟨by (with_reducible repeat (first | refine blk_drewN ?_ _ | refine blk_drew ?_ | refine blk_alloc ?_ _)); exact BK578.out⟩, ⟨by repeat (first | (with_reducible first | exact HB.out | apply below_alloc | apply pw_below_drewN | apply below_drew1 | refine below_set ?_ GE578.out) | exact HB.out)⟩⟩
            case rest =>
              clear HC37
              try clear c1
              try clear c2
              try clear p2
              try clear c3
              try clear c4
              try clear c6
              try clear c6b0
              try clear c13
              try clear c15
              try clear c18
              try clear c20
              try clear c22
              try clear c27
              try clear c31
              try clear c32
              try clear c35
              try clear c42
              try clear c42b0
              try clear c44
              try clear c45
              try clear hcz16_0
              try clear hcz16_1
              try clear hcz22_0
              try clear hcz22_1
              try clear hfz16_0
              try clear hfz16_1
              try clear hfz22_0
              try clear hfz22_1
              try clear p2
              obtain ⟨kq, x75_36, rfl, HA, HJ36, HO_10, HO_13, BK578, HB⟩ := hcut
              cases kq with
              | zero => exact absurd HA.out (by simp [laws_FnExactQueueAt.j1])
              | succ kj36 =>
                have H := HA.out
                clear HA
                simp only [laws_FnExactQueueAt.j1] at H
                by_cases c49 : x75_36 = true
                · subst c49
                  have H1 : (some false) = some r := by rw [if_pos rfl] at H; exact H
                  clear H
                  have H := H1
                  clear H1
                  obtain rfl := Option.some.inj H
                  go_wp2
                  go_ret
                  exact ⟨by first | rfl | (simp [errW_none, errW_some] <;> rfl) | (simp [*, errW_none, errW_some] <;> rfl), by repeat (first | (with_reducible first | exact HB.out | apply below_alloc | apply pw_below_drewN | apply below_drew1 | refine below_set ?_ GE578.out) | exact HB.out)⟩
                · replace c49 := Bool.eq_false_iff.mpr c49
                  subst c49
                  have H1 : ((laws_markIntS.f kj36 t594 1).bind fun bt606 => ((laws_heldIntS.f kj36 bt606.2 1).bind fun t608 => (if t608 < 0 then (some false) else (if t608 = bt606.1 then ((laws_toSlotRing.f a0_0 a0_1).bind fun bt609 => ((laws_toMessageS.f kj36 l1).bind fun t611 => ((impl_QueueAt.f kj36 bt609.1 bt609.2 t611 a2 a3).bind fun bt614 => ((laws_eqIntS.f kj36 bt614.1 t585).bind fun t618 => (if t618 = true then (laws_FnExactQueueAt.j2 kj36 bt606.2 bt606.1 (bt614.2 != t588)) else (laws_FnExactQueueAt.j2 kj36 bt606.2 bt606.1 true)))))) else (some false))))) = some r := by rw [if_neg (show ¬ (false = true) by decide)] at H; exact H
                  clear H
                  have H := H1
                  clear H1
                  replace H := Option.bind_eq_some_iff.mp H
                  obtain ⟨⟨t606, t607⟩, A500, H⟩ := H
                  replace H : ((laws_heldIntS.f kj36 t607 1).bind fun t608 => (if t608 < 0 then (some false) else (if t608 = t606 then ((laws_toSlotRing.f a0_0 a0_1).bind fun bt609 => ((laws_toMessageS.f kj36 l1).bind fun t611 => ((impl_QueueAt.f kj36 bt609.1 bt609.2 t611 a2 a3).bind fun bt614 => ((laws_eqIntS.f kj36 bt614.1 t585).bind fun t618 => (if t618 = true then (laws_FnExactQueueAt.j2 kj36 t607 t606 (bt614.2 != t588)) else (laws_FnExactQueueAt.j2 kj36 t607 t606 true)))))) else (some false)))) = some r := H
                  have A50 := Aside0.mk A500
                  clear A500
                  replace H := Option.bind_eq_some_iff.mp H
                  obtain ⟨t608, A510, H⟩ := H
                  replace H : (if t608 < 0 then (some false) else (if t608 = t606 then ((laws_toSlotRing.f a0_0 a0_1).bind fun bt609 => ((laws_toMessageS.f kj36 l1).bind fun t611 => ((impl_QueueAt.f kj36 bt609.1 bt609.2 t611 a2 a3).bind fun bt614 => ((laws_eqIntS.f kj36 bt614.1 t585).bind fun t618 => (if t618 = true then (laws_FnExactQueueAt.j2 kj36 t607 t606 (bt614.2 != t588)) else (laws_FnExactQueueAt.j2 kj36 t607 t606 true)))))) else (some false))) = some r := H
                  have A51 := Aside0.mk A510
                  clear A510
                  by_cases c52 : t608 < 0
                  · rw [if_pos c52] at H
                    have c52b0 : decide (t608 < 0) = true := decide_eq_true c52
                    clear c52
                    obtain rfl := Option.some.inj H
                    obtain ⟨Ao53, co53, eo53⟩ := Kd.R_slice HO_13.out
                    subst eo53
                    go_wp2_with (first | ((with_reducible refine gate_callee (f := 32) rfl ?_); refine goesL_ (some 78) rfl rfl Try.func32 (by kernel_rfl) rfl #[.slice Ao53 t594.length co53, .int .i64 1] rfl (by (try simp only [List.map_toArray, List.map_cons, List.map_nil]); first | done | rfl | (simp only [List.length_drop, List.length_take]; rfl)) ?_; (with_reducible refine (laws_markIntS.calls kj36 (fun k_ => some k_ = (.slice Ao53 t594.length co53 : Value).ownBlock) (.slice Ao53 t594.length co53) t594 1 t606 t607 w _ ?side1 ?side2 A50.out).mono ?_); (case side1 => repeat (first | (with_reducible first | exact HB.out | apply below_alloc | apply pw_below_drewN | apply below_drew1 | refine below_set ?_ GE578.out) | exact HB.out)); (case side2 => exact Kd.R_tight rfl HO_13.out); rintro e w54 ⟨rfl, hy0, hb, hkp⟩; refine ⟨_, rfl, ?_⟩; have n0_ := Aside0.mk (Kd.R_mono (ok' := fun k_ => some k_ ≠ (.slice Ao53 t594.length co53 : Value).ownBlock) (Kd.R_keptB (HO_10.out) hkp (fun k_ hk_ hs_ => (hk_) hs_)) (fun k_ hk_ => hk_.1)); have n1_ := Aside0.mk (Kd.R_reok rfl hy0 (fun k_ e_ => HO_13.out.1 k_ e_)); have n2_ := Aside0.mk (blk_kept (by (with_reducible repeat (first | refine blk_drewN ?_ _ | refine blk_drew ?_ | refine blk_alloc ?_ _)); exact BK578.out) hkp (fun hs_ => (fun e_ => (Kd.R_ne HO_13.out BK578.out (by decide)) e_) hs_)); have n3_ := Aside0.mk (hb); clear HO_10; clear HO_13; clear BK578; clear HB; have HO_10 := n0_; have HO_13 := n1_; have BK578 := n2_; have HB := n3_; clear n0_ n1_ n2_ n3_; (try clear hb); (try clear hkp); (try clear hy0)) | ((with_reducible refine gate_callee (f := 33) rfl ?_); refine goesL_ (some 81) rfl rfl Try.func33 (by kernel_rfl) rfl #[.slice Ao53 t607.length co53, .int .i64 1] rfl (by (try simp only [List.map_toArray, List.map_cons, List.map_nil]); first | done | (rw [show t607.length = t594.length from (Kd.R_reads' HO_13.out).1.symm] <;> rfl) | rfl | (simp only [List.length_drop, List.length_take]; rfl)) ?_; (with_reducible refine (laws_heldIntS.calls kj36 _ _ t607 1 t608 _ ?side1 ?side2 A51.out).mono ?_); (case side1 => repeat (first | exact (Kd.R_reads' HO_13.out).2.2 | (with_reducible refine Kd.C_alloc ?_ _) | (with_reducible refine Kd.C_drewN ?_ _) | (with_reducible refine Kd.C_drew ?_))); (case side2 => rw [show t607.length = t594.length from (Kd.R_reads' HO_13.out).1.symm]; exact (Kd.R_reads' HO_13.out).2.1); rintro e w' ⟨rfl, ⟨nd, rfl⟩⟩; refine ⟨_, rfl, ?_⟩))
                    go_ret
                    exact ⟨by first | rfl | (simp [errW_none, errW_some] <;> rfl) | (simp [*, errW_none, errW_some] <;> rfl), by repeat (first | (with_reducible first | exact HB.out | apply below_alloc | apply pw_below_drewN | apply below_drew1 | refine below_set ?_ GE578.out) | exact HB.out)⟩
                  · rw [if_neg c52] at H
                    have c52b0 : decide (t608 < 0) = false := decide_eq_false c52
                    clear c52
                    by_cases c55 : t608 = t606
                    · rw [if_pos c55] at H
                      have c55b0 : (t608 == t606) = true := beq_iff_eq.mpr c55
                      have c55b1 : (t608 != t606) = false := bne_eq_false_iff_eq.mpr c55
                      clear c55
                      replace H := Option.bind_eq_some_iff.mp H
                      obtain ⟨⟨t609, t610⟩, A560, H⟩ := H
                      replace H : ((laws_toMessageS.f kj36 l1).bind fun t611 => ((impl_QueueAt.f kj36 t609 t610 t611 a2 a3).bind fun bt614 => ((laws_eqIntS.f kj36 bt614.1 t585).bind fun t618 => (if t618 = true then (laws_FnExactQueueAt.j2 kj36 t607 t606 (bt614.2 != t588)) else (laws_FnExactQueueAt.j2 kj36 t607 t606 true))))) = some r := H
                      have A56 := Aside0.mk A560
                      clear A560
                      replace H := Option.bind_eq_some_iff.mp H
                      obtain ⟨t611, A570, H⟩ := H
                      replace H : ((impl_QueueAt.f kj36 t609 t610 t611 a2 a3).bind fun bt614 => ((laws_eqIntS.f kj36 bt614.1 t585).bind fun t618 => (if t618 = true then (laws_FnExactQueueAt.j2 kj36 t607 t606 (bt614.2 != t588)) else (laws_FnExactQueueAt.j2 kj36 t607 t606 true)))) = some r := H
                      have A57 := Aside0.mk A570
                      clear A570
                      replace H := Option.bind_eq_some_iff.mp H
                      obtain ⟨⟨t614, t617⟩, A580, H⟩ := H
                      replace H : ((laws_eqIntS.f kj36 t614 t585).bind fun t618 => (if t618 = true then (laws_FnExactQueueAt.j2 kj36 t607 t606 (t617 != t588)) else (laws_FnExactQueueAt.j2 kj36 t607 t606 true))) = some r := H
                      have A58 := Aside0.mk A580
                      clear A580
                      have HC59 := Aside0.mk H
                      clear H
                      obtain ⟨Ao60, co60, eo60⟩ := Kd.R_slice HO_13.out
                      subst eo60
                      go_upto_region 25 with (first | ((with_reducible refine gate_callee (f := 32) rfl ?_); refine goesL_ (some 78) rfl rfl Try.func32 (by kernel_rfl) rfl #[.slice Ao60 t594.length co60, .int .i64 1] rfl (by (try simp only [List.map_toArray, List.map_cons, List.map_nil]); first | done | rfl | (simp only [List.length_drop, List.length_take]; rfl)) ?_; (with_reducible refine (laws_markIntS.calls kj36 (fun k_ => some k_ = (.slice Ao60 t594.length co60 : Value).ownBlock) (.slice Ao60 t594.length co60) t594 1 t606 t607 w _ ?side1 ?side2 A50.out).mono ?_); (case side1 => repeat (first | (with_reducible first | exact HB.out | apply below_alloc | apply pw_below_drewN | apply below_drew1 | refine below_set ?_ GE578.out) | exact HB.out)); (case side2 => exact Kd.R_tight rfl HO_13.out); rintro e w61 ⟨rfl, hy0, hb, hkp⟩; refine ⟨_, rfl, ?_⟩; have n0_ := Aside0.mk (Kd.R_mono (ok' := fun k_ => some k_ ≠ (.slice Ao60 t594.length co60 : Value).ownBlock) (Kd.R_keptB (HO_10.out) hkp (fun k_ hk_ hs_ => (hk_) hs_)) (fun k_ hk_ => hk_.1)); have n1_ := Aside0.mk (Kd.R_reok rfl hy0 (fun k_ e_ => HO_13.out.1 k_ e_)); have n2_ := Aside0.mk (blk_kept (by (with_reducible repeat (first | refine blk_drewN ?_ _ | refine blk_drew ?_ | refine blk_alloc ?_ _)); exact BK578.out) hkp (fun hs_ => (fun e_ => (Kd.R_ne HO_13.out BK578.out (by decide)) e_) hs_)); have n3_ := Aside0.mk (hb); clear HO_10; clear HO_13; clear BK578; clear HB; have HO_10 := n0_; have HO_13 := n1_; have BK578 := n2_; have HB := n3_; clear n0_ n1_ n2_ n3_; (try clear hb); (try clear hkp); (try clear hy0)) | ((with_reducible refine gate_callee (f := 33) rfl ?_); refine goesL_ (some 81) rfl rfl Try.func33 (by kernel_rfl) rfl #[.slice Ao60 t607.length co60, .int .i64 1] rfl (by (try simp only [List.map_toArray, List.map_cons, List.map_nil]); first | done | (rw [show t607.length = t594.length from (Kd.R_reads' HO_13.out).1.symm] <;> rfl) | rfl | (simp only [List.length_drop, List.length_take]; rfl)) ?_; (with_reducible refine (laws_heldIntS.calls kj36 _ _ t607 1 t608 _ ?side1 ?side2 A51.out).mono ?_); (case side1 => repeat (first | exact (Kd.R_reads' HO_13.out).2.2 | (with_reducible refine Kd.C_alloc ?_ _) | (with_reducible refine Kd.C_drewN ?_ _) | (with_reducible refine Kd.C_drew ?_))); (case side2 => rw [show t607.length = t594.length from (Kd.R_reads' HO_13.out).1.symm]; exact (Kd.R_reads' HO_13.out).2.1); rintro e w' ⟨rfl, ⟨nd, rfl⟩⟩; refine ⟨_, rfl, ?_⟩; have hcz62_0 : w61.cell? ⟨gb578, 0, none⟩ = some (.int .i64 a0_0) := (blk_cell BK578.out 0).trans rfl; have hcz62_1 : w61.cell? ⟨gb578, 1, none⟩ = some (.bool a0_1) := (blk_cell BK578.out 1).trans rfl; have hfz62_0 := blk_frozen BK578.out 0; have hfz62_1 := blk_frozen BK578.out 1) | ((with_reducible refine gate_callee (f := 15) rfl ?_); refine goesL_ (some 89) rfl rfl Try.func15 (by kernel_rfl) rfl #[.agg #[.int .i64 a0_0, .bool a0_1]] rfl (by (try simp only [List.map_toArray, List.map_cons, List.map_nil]); first | done | rfl | (simp only [List.length_drop, List.length_take]; rfl)) ?_; (with_reducible refine (laws_toSlotRing.calls a0_0 a0_1 t609 t610 _ A56.out).mono ?_); rintro e w63 ⟨rfl, hb⟩; refine ⟨_, rfl, ?_⟩; have n0_ := Aside0.mk (Kd.R_below (by (with_reducible repeat (first | apply Kd.R_alloc | apply Kd.R_drewN | apply Kd.R_drew)); exact HO_10.out) hb); have n1_ := Aside0.mk (Kd.R_below (by (with_reducible repeat (first | apply Kd.R_alloc | apply Kd.R_drewN | apply Kd.R_drew)); exact HO_13.out) hb); have n2_ := Aside0.mk (blk_below (g := gb578) (o := .cells #[.int .i64 a0_0, .bool a0_1] 23 (0, 0)) (by (with_reducible repeat (first | refine blk_drewN ?_ _ | refine blk_drew ?_ | refine blk_alloc ?_ _)); exact BK578.out) hb); have n3_ := Aside0.mk (below_step (by repeat (first | (with_reducible first | exact HB.out | apply below_alloc | apply pw_below_drewN | apply below_drew1 | refine below_set ?_ GE578.out) | exact HB.out)) hb); clear HO_10; clear HO_13; clear BK578; clear HB; have HO_10 := n0_; have HO_13 := n1_; have BK578 := n2_; have HB := n3_; clear n0_ n1_ n2_ n3_; (try clear hb); (try clear hb2); (try clear hk); (try clear hi)) | ((with_reducible refine gate_callee (f := 20) rfl ?_); refine goesL_ (some 91) rfl rfl Try.func20 (by kernel_rfl) rfl #[.slice A1 l1.length c1] rfl (by (try simp only [List.map_toArray, List.map_cons, List.map_nil]); first | done | rfl | (simp only [List.length_drop, List.length_take]; rfl)) ?_; (with_reducible refine (laws_toMessageS.calls kj36 _ _ l1 t611 _ ?side1 ?side2 A57.out).mono ?_); (case side1 => repeat (first | exact (Kd.C_below HR1.out HB.out) | (with_reducible refine Kd.C_alloc ?_ _) | (with_reducible refine Kd.C_drewN ?_ _) | (with_reducible refine Kd.C_drew ?_))); (case side2 => exact HC1.out); rintro e w64 ⟨v612, rfl, ho0, hb⟩; refine ⟨_, rfl, ?_⟩; have n0_ := Aside0.mk (Kd.R_below (by (with_reducible repeat (first | apply Kd.R_alloc | apply Kd.R_drewN | apply Kd.R_drew)); exact HO_10.out) hb); have n1_ := Aside0.mk (Kd.R_below (by (with_reducible repeat (first | apply Kd.R_alloc | apply Kd.R_drewN | apply Kd.R_drew)); exact HO_13.out) hb); have n2_ := Aside0.mk (Kd.R_lower ho0 (below_size (by repeat (first | (with_reducible first | exact HB.out | apply below_alloc | apply pw_below_drewN | apply below_drew1 | refine below_set ?_ GE578.out) | exact HB.out)))); have n3_ := Aside0.mk (blk_below (g := gb578) (o := .cells #[.int .i64 a0_0, .bool a0_1] 23 (0, 0)) (by (with_reducible repeat (first | refine blk_drewN ?_ _ | refine blk_drew ?_ | refine blk_alloc ?_ _)); exact BK578.out) hb); have n4_ := Aside0.mk (below_step (by repeat (first | (with_reducible first | exact HB.out | apply below_alloc | apply pw_below_drewN | apply below_drew1 | refine below_set ?_ GE578.out) | exact HB.out)) hb); clear HO_10; clear HO_13; clear BK578; clear HB; have HO_10 := n0_; have HO_13 := n1_; have HO613 := n2_; have BK578 := n3_; have HB := n4_; clear n0_ n1_ n2_ n3_ n4_; (try clear hb); (try clear hb2); (try clear hk); (try clear hi); (try clear ho0); obtain ⟨Ao65, co65, eo65⟩ := Kd.R_slice HO613.out; subst eo65) | ((with_reducible refine gate_callee (f := 45) rfl ?_); refine goesL_ (some 94) rfl rfl Try.func45 (by kernel_rfl) rfl #[.agg #[.int .i64 t609, .bool t610], .slice Ao65 t611.length co65, .int .i64 a2, .int .i64 a3] rfl (by (try simp only [List.map_toArray, List.map_cons, List.map_nil]); first | done | rfl | (simp only [List.length_drop, List.length_take]; rfl)) ?_; (with_reducible refine (impl_QueueAt.calls kj36 t609 t610 _ _ t611 a2 a3 t614 t617 _ ?side1 ?side2 A58.out).mono ?_); (case side1 => repeat (first | exact (Kd.R_reads' HO613.out).2.2 | (with_reducible refine Kd.C_alloc ?_ _) | (with_reducible refine Kd.C_drewN ?_ _) | (with_reducible refine Kd.C_drew ?_))); (case side2 => exact (Kd.R_reads' HO613.out).2.1); rintro e w66 ⟨v615, rfl, ho0, hb⟩; refine ⟨_, rfl, ?_⟩; have n0_ := Aside0.mk (Kd.R_elder' (by (with_reducible repeat (first | apply Kd.R_alloc | apply Kd.R_drewN | apply Kd.R_drew)); exact HO_10.out) (Kd.R_base ho0) hb); have n1_ := Aside0.mk (Kd.R_elder' (by (with_reducible repeat (first | apply Kd.R_alloc | apply Kd.R_drewN | apply Kd.R_drew)); exact HO_13.out) (Kd.R_base ho0) hb); have n2_ := Aside0.mk (Kd.R_below (by (with_reducible repeat (first | apply Kd.R_alloc | apply Kd.R_drewN | apply Kd.R_drew)); exact HO613.out) hb); have n3_ := Aside0.mk (Kd.R_lower (Kd.R_new' (Kd.R_new' ho0 (Kd.R_lt (by (with_reducible repeat (first | apply Kd.R_alloc | apply Kd.R_drewN | apply Kd.R_drew)); exact HO_10.out))) (Kd.R_lt (by (with_reducible repeat (first | apply Kd.R_alloc | apply Kd.R_drewN | apply Kd.R_drew)); exact HO_13.out))) (below_size (by repeat (first | (with_reducible first | exact HB.out | apply below_alloc | apply pw_below_drewN | apply below_drew1 | refine below_set ?_ GE578.out) | exact HB.out)))); have n4_ := Aside0.mk (blk_below (g := gb578) (o := .cells #[.int .i64 a0_0, .bool a0_1] 23 (0, 0)) (by (with_reducible repeat (first | refine blk_drewN ?_ _ | refine blk_drew ?_ | refine blk_alloc ?_ _)); exact BK578.out) hb); have n5_ := Aside0.mk (below_step (by repeat (first | (with_reducible first | exact HB.out | apply below_alloc | apply pw_below_drewN | apply below_drew1 | refine below_set ?_ GE578.out) | exact HB.out)) hb); clear HO_10; clear HO_13; clear HO613; clear BK578; clear HB; have HO_10 := n0_; have HO_13 := n1_; have HO613 := n2_; have HO616 := n3_; have BK578 := n4_; have HB := n5_; clear n0_ n1_ n2_ n3_ n4_ n5_; (try clear hb); (try clear hb2); (try clear hk); (try clear hi); (try clear ho0)))
                      (try simp only [Act.put, List.setIfInBounds_toArray, List.set_cons_zero, List.set_cons_succ])
                      go_cut [105] (fun v105 wc => ∃ (kq : Nat) (x105_58 : Bool), v105 = .bool x105_58 ∧ Aside0 (laws_FnExactQueueAt.j2 kq t607 t606 x105_58 = some r) ∧ Aside0 (kq ≤ kj36) ∧ Aside0 (Kd.R (Kd.int .i64) 3 wc w.heap.size (fun _ => True) (.slice Ao60 t594.length co60) t607) ∧ Aside0 (wc.heap[gb578]? = some (.cells #[.int .i64 a0_0, .bool a0_1] 23 (0, 0))) ∧ Aside0 (Below w.heap.size w wc))
                      case first =>
                        have H := HC59.out
                        clear HC59
                        replace H := Option.bind_eq_some_iff.mp H
                        obtain ⟨t618, A670, H⟩ := H
                        replace H : (if t618 = true then (laws_FnExactQueueAt.j2 kj36 t607 t606 (t617 != t588)) else (laws_FnExactQueueAt.j2 kj36 t607 t606 true)) = some r := H
                        have A67 := Aside0.mk A670
                        clear A670
                        by_cases c68 : t618 = true
                        · subst c68
                          have H1 : (laws_FnExactQueueAt.j2 kj36 t607 t606 (t617 != t588)) = some r := by rw [if_pos rfl] at H; exact H
                          clear H
                          have H := H1
                          clear H1
                          have H' := Aside0.mk H
                          clear H
                          obtain ⟨Ao69, co69, eo69⟩ := Kd.R_slice HO616.out
                          subst eo69
                          obtain ⟨Ao70, co70, eo70⟩ := Kd.R_slice HO_10.out
                          subst eo70
                          go_wp2_with (first | ((with_reducible refine gate_callee (f := 31) rfl ?_); refine goesL_ (some 99) rfl rfl Try.func31 (by kernel_rfl) rfl #[.slice Ao69 t614.length co69, .slice Ao70 t585.length co70] rfl (by (try simp only [List.map_toArray, List.map_cons, List.map_nil]); first | done | rfl | (simp only [List.length_drop, List.length_take]; rfl)) ?_; (with_reducible refine (laws_eqIntS.calls kj36 _ _ t614 _ _ t585 true _ ?side1 ?side2 ?side3 ?side4 A67.out).mono ?_); (case side1 => repeat (first | exact (Kd.R_reads' HO616.out).2.2 | (with_reducible refine Kd.C_alloc ?_ _) | (with_reducible refine Kd.C_drewN ?_ _) | (with_reducible refine Kd.C_drew ?_))); (case side2 => exact (Kd.R_reads' HO616.out).2.1); (case side3 => repeat (first | exact (Kd.R_reads' HO_10.out).2.2 | (with_reducible refine Kd.C_alloc ?_ _) | (with_reducible refine Kd.C_drewN ?_ _) | (with_reducible refine Kd.C_drew ?_))); (case side4 => exact (Kd.R_reads' HO_10.out).2.1); rintro e w' ⟨rfl, ⟨nd, rfl⟩⟩; refine ⟨_, rfl, ?_⟩))
                          go_meet
                          case rel => exact ⟨_, ((t617 != t588)), (by first | rfl | (simp; done) | (simp [*]; done)), H', ⟨by have := HJ13.out; have := HJ36.out; first | omega | exact Nat.le_refl _⟩, ⟨by (with_reducible repeat (first | apply Kd.R_alloc | apply Kd.R_drewN | apply Kd.R_drew)); exact Kd.R_mono HO_13.out (fun _ hk => trivial)⟩, ⟨by (with_reducible repeat (first | refine blk_drewN ?_ _ | refine blk_drew ?_ | refine blk_alloc ?_ _)); exact BK578.out⟩, ⟨by repeat (first | (with_reducible first | exact HB.out | apply below_alloc | apply pw_below_drewN | apply below_drew1 | refine below_set ?_ GE578.out) | exact HB.out)⟩⟩
                        · replace c68 := Bool.eq_false_iff.mpr c68
                          subst c68
                          have H1 : (laws_FnExactQueueAt.j2 kj36 t607 t606 true) = some r := by rw [if_neg (show ¬ (false = true) by decide)] at H; exact H
                          clear H
                          have H := H1
                          clear H1
                          have H' := Aside0.mk H
                          clear H
                          obtain ⟨Ao71, co71, eo71⟩ := Kd.R_slice HO616.out
                          subst eo71
                          obtain ⟨Ao72, co72, eo72⟩ := Kd.R_slice HO_10.out
                          subst eo72
                          go_wp2_with (first | ((with_reducible refine gate_callee (f := 31) rfl ?_); refine goesL_ (some 99) rfl rfl Try.func31 (by kernel_rfl) rfl #[.slice Ao71 t614.length co71, .slice Ao72 t585.length co72] rfl (by (try simp only [List.map_toArray, List.map_cons, List.map_nil]); first | done | rfl | (simp only [List.length_drop, List.length_take]; rfl)) ?_; (with_reducible refine (laws_eqIntS.calls kj36 _ _ t614 _ _ t585 false _ ?side1 ?side2 ?side3 ?side4 A67.out).mono ?_); (case side1 => repeat (first | exact (Kd.R_reads' HO616.out).2.2 | (with_reducible refine Kd.C_alloc ?_ _) | (with_reducible refine Kd.C_drewN ?_ _) | (with_reducible refine Kd.C_drew ?_))); (case side2 => exact (Kd.R_reads' HO616.out).2.1); (case side3 => repeat (first | exact (Kd.R_reads' HO_10.out).2.2 | (with_reducible refine Kd.C_alloc ?_ _) | (with_reducible refine Kd.C_drewN ?_ _) | (with_reducible refine Kd.C_drew ?_))); (case side4 => exact (Kd.R_reads' HO_10.out).2.1); rintro e w' ⟨rfl, ⟨nd, rfl⟩⟩; refine ⟨_, rfl, ?_⟩))
                          go_meet
                          case rel => exact ⟨_, (true), (by first | rfl | (simp; done) | (simp [*]; done)), H', ⟨by have := HJ13.out; have := HJ36.out; first | omega | exact Nat.le_refl _⟩, ⟨by (with_reducible repeat (first | apply Kd.R_alloc | apply Kd.R_drewN | apply Kd.R_drew)); exact Kd.R_mono HO_13.out (fun _ hk => trivial)⟩, ⟨by (with_reducible repeat (first | refine blk_drewN ?_ _ | refine blk_drew ?_ | refine blk_alloc ?_ _)); exact BK578.out⟩, ⟨by repeat (first | (with_reducible first | exact HB.out | apply below_alloc | apply pw_below_drewN | apply below_drew1 | refine below_set ?_ GE578.out) | exact HB.out)⟩⟩
                      case rest =>
                        clear HC59
                        try clear c1
                        try clear c2
                        try clear p2
                        try clear c3
                        try clear c4
                        try clear c5
                        try clear c6
                        try clear c6b0
                        try clear c13
                        try clear c15
                        try clear c18
                        try clear c20
                        try clear c22
                        try clear c27
                        try clear c31
                        try clear c32
                        try clear c33
                        try clear c35
                        try clear c42
                        try clear c42b0
                        try clear c44
                        try clear c45
                        try clear c49
                        try clear c52
                        try clear c52b0
                        try clear c55
                        try clear c55b0
                        try clear c55b1
                        try clear c68
                        try clear hcz16_0
                        try clear hcz16_1
                        try clear hcz22_0
                        try clear hcz22_1
                        try clear hcz62_0
                        try clear hcz62_1
                        try clear hfz16_0
                        try clear hfz16_1
                        try clear hfz22_0
                        try clear hfz22_1
                        try clear hfz62_0
                        try clear hfz62_1
                        try clear p2
                        obtain ⟨kq, x105_58, rfl, HA, HJ58, HO_13, BK578, HB⟩ := hcut
                        have hl13_58 := (Kd.R_reads' HO_13.out).1
                        rw [hl13_58] at HO_13
                        (try simp only [hl13_58])
                        (try simp only [hl13_58] at BK578)
                        cases kq with
                        | zero => exact absurd HA.out (by simp [laws_FnExactQueueAt.j2])
                        | succ kj58 =>
                          have H := HA.out
                          clear HA
                          simp only [laws_FnExactQueueAt.j2] at H
                          by_cases c73 : x105_58 = true
                          · subst c73
                            have H1 : (some false) = some r := by rw [if_pos rfl] at H; exact H
                            clear H
                            have H := H1
                            clear H1
                            obtain rfl := Option.some.inj H
                            go_wp2
                            go_ret
                            exact ⟨by first | rfl | (simp [errW_none, errW_some] <;> rfl) | (simp [*, errW_none, errW_some] <;> rfl), by repeat (first | (with_reducible first | exact HB.out | apply below_alloc | apply pw_below_drewN | apply below_drew1 | refine below_set ?_ GE578.out) | exact HB.out)⟩
                          · replace c73 := Bool.eq_false_iff.mpr c73
                            subst c73
                            have H1 : ((laws_heldIntS.f kj58 t607 1).bind fun t619 => (if t619 < 0 then (some false) else (if t619 = t606 then (some true) else (some false)))) = some r := by rw [if_neg (show ¬ (false = true) by decide)] at H; exact H
                            clear H
                            have H := H1
                            clear H1
                            replace H := Option.bind_eq_some_iff.mp H
                            obtain ⟨t619, A740, H⟩ := H
                            replace H : (if t619 < 0 then (some false) else (if t619 = t606 then (some true) else (some false))) = some r := H
                            have A74 := Aside0.mk A740
                            clear A740
                            by_cases c75 : t619 < 0
                            · rw [if_pos c75] at H
                              have c75b0 : decide (t619 < 0) = true := decide_eq_true c75
                              clear c75
                              obtain rfl := Option.some.inj H
                              go_wp2_with (first | ((with_reducible refine gate_callee (f := 33) rfl ?_); refine goesL_ (some 108) rfl rfl Try.func33 (by kernel_rfl) rfl #[.slice Ao60 t607.length co60, .int .i64 1] rfl (by (try simp only [List.map_toArray, List.map_cons, List.map_nil]); first | done | rfl | (simp only [List.length_drop, List.length_take]; rfl)) ?_; (with_reducible refine (laws_heldIntS.calls kj58 _ _ t607 1 t619 _ ?side1 ?side2 A74.out).mono ?_); (case side1 => repeat (first | exact (Kd.R_reads' HO_13.out).2.2 | (with_reducible refine Kd.C_alloc ?_ _) | (with_reducible refine Kd.C_drewN ?_ _) | (with_reducible refine Kd.C_drew ?_))); (case side2 => exact (Kd.R_reads' HO_13.out).2.1); rintro e w' ⟨rfl, ⟨nd, rfl⟩⟩; refine ⟨_, rfl, ?_⟩))
                              go_ret
                              exact ⟨by first | rfl | (simp [errW_none, errW_some] <;> rfl) | (simp [*, errW_none, errW_some] <;> rfl), by repeat (first | (with_reducible first | exact HB.out | apply below_alloc | apply pw_below_drewN | apply below_drew1 | refine below_set ?_ GE578.out) | exact HB.out)⟩
                            · rw [if_neg c75] at H
                              have c75b0 : decide (t619 < 0) = false := decide_eq_false c75
                              clear c75
                              by_cases c76 : t619 = t606
                              · rw [if_pos c76] at H
                                have c76b0 : (t619 == t606) = true := beq_iff_eq.mpr c76
                                have c76b1 : (t619 != t606) = false := bne_eq_false_iff_eq.mpr c76
                                clear c76
                                obtain rfl := Option.some.inj H
                                go_wp2_with (first | ((with_reducible refine gate_callee (f := 33) rfl ?_); refine goesL_ (some 108) rfl rfl Try.func33 (by kernel_rfl) rfl #[.slice Ao60 t607.length co60, .int .i64 1] rfl (by (try simp only [List.map_toArray, List.map_cons, List.map_nil]); first | done | rfl | (simp only [List.length_drop, List.length_take]; rfl)) ?_; (with_reducible refine (laws_heldIntS.calls kj58 _ _ t607 1 t619 _ ?side1 ?side2 A74.out).mono ?_); (case side1 => repeat (first | exact (Kd.R_reads' HO_13.out).2.2 | (with_reducible refine Kd.C_alloc ?_ _) | (with_reducible refine Kd.C_drewN ?_ _) | (with_reducible refine Kd.C_drew ?_))); (case side2 => exact (Kd.R_reads' HO_13.out).2.1); rintro e w' ⟨rfl, ⟨nd, rfl⟩⟩; refine ⟨_, rfl, ?_⟩))
                                go_ret
                                exact ⟨by first | rfl | (simp [errW_none, errW_some] <;> rfl) | (simp [*, errW_none, errW_some] <;> rfl), by repeat (first | (with_reducible first | exact HB.out | apply below_alloc | apply pw_below_drewN | apply below_drew1 | refine below_set ?_ GE578.out) | exact HB.out)⟩
                              · rw [if_neg c76] at H
                                have c76b0 : (t619 == t606) = false := beq_eq_false_iff_ne.mpr c76
                                have c76b1 : (t619 != t606) = true := bne_iff_ne.mpr c76
                                obtain rfl := Option.some.inj H
                                go_wp2_with (first | ((with_reducible refine gate_callee (f := 33) rfl ?_); refine goesL_ (some 108) rfl rfl Try.func33 (by kernel_rfl) rfl #[.slice Ao60 t607.length co60, .int .i64 1] rfl (by (try simp only [List.map_toArray, List.map_cons, List.map_nil]); first | done | rfl | (simp only [List.length_drop, List.length_take]; rfl)) ?_; (with_reducible refine (laws_heldIntS.calls kj58 _ _ t607 1 t619 _ ?side1 ?side2 A74.out).mono ?_); (case side1 => repeat (first | exact (Kd.R_reads' HO_13.out).2.2 | (with_reducible refine Kd.C_alloc ?_ _) | (with_reducible refine Kd.C_drewN ?_ _) | (with_reducible refine Kd.C_drew ?_))); (case side2 => exact (Kd.R_reads' HO_13.out).2.1); rintro e w' ⟨rfl, ⟨nd, rfl⟩⟩; refine ⟨_, rfl, ?_⟩))
                                go_ret
                                exact ⟨by first | rfl | (simp [errW_none, errW_some] <;> rfl) | (simp [*, errW_none, errW_some] <;> rfl), by repeat (first | (with_reducible first | exact HB.out | apply below_alloc | apply pw_below_drewN | apply below_drew1 | refine below_set ?_ GE578.out) | exact HB.out)⟩
                    · rw [if_neg c55] at H
                      have c55b0 : (t608 == t606) = false := beq_eq_false_iff_ne.mpr c55
                      have c55b1 : (t608 != t606) = true := bne_iff_ne.mpr c55
                      obtain rfl := Option.some.inj H
                      obtain ⟨Ao77, co77, eo77⟩ := Kd.R_slice HO_13.out
                      subst eo77
                      go_wp2_with (first | ((with_reducible refine gate_callee (f := 32) rfl ?_); refine goesL_ (some 78) rfl rfl Try.func32 (by kernel_rfl) rfl #[.slice Ao77 t594.length co77, .int .i64 1] rfl (by (try simp only [List.map_toArray, List.map_cons, List.map_nil]); first | done | rfl | (simp only [List.length_drop, List.length_take]; rfl)) ?_; (with_reducible refine (laws_markIntS.calls kj36 (fun k_ => some k_ = (.slice Ao77 t594.length co77 : Value).ownBlock) (.slice Ao77 t594.length co77) t594 1 t606 t607 w _ ?side1 ?side2 A50.out).mono ?_); (case side1 => repeat (first | (with_reducible first | exact HB.out | apply below_alloc | apply pw_below_drewN | apply below_drew1 | refine below_set ?_ GE578.out) | exact HB.out)); (case side2 => exact Kd.R_tight rfl HO_13.out); rintro e w78 ⟨rfl, hy0, hb, hkp⟩; refine ⟨_, rfl, ?_⟩; have n0_ := Aside0.mk (Kd.R_mono (ok' := fun k_ => some k_ ≠ (.slice Ao77 t594.length co77 : Value).ownBlock) (Kd.R_keptB (HO_10.out) hkp (fun k_ hk_ hs_ => (hk_) hs_)) (fun k_ hk_ => hk_.1)); have n1_ := Aside0.mk (Kd.R_reok rfl hy0 (fun k_ e_ => HO_13.out.1 k_ e_)); have n2_ := Aside0.mk (blk_kept (by (with_reducible repeat (first | refine blk_drewN ?_ _ | refine blk_drew ?_ | refine blk_alloc ?_ _)); exact BK578.out) hkp (fun hs_ => (fun e_ => (Kd.R_ne HO_13.out BK578.out (by decide)) e_) hs_)); have n3_ := Aside0.mk (hb); clear HO_10; clear HO_13; clear BK578; clear HB; have HO_10 := n0_; have HO_13 := n1_; have BK578 := n2_; have HB := n3_; clear n0_ n1_ n2_ n3_; (try clear hb); (try clear hkp); (try clear hy0)) | ((with_reducible refine gate_callee (f := 33) rfl ?_); refine goesL_ (some 81) rfl rfl Try.func33 (by kernel_rfl) rfl #[.slice Ao77 t607.length co77, .int .i64 1] rfl (by (try simp only [List.map_toArray, List.map_cons, List.map_nil]); first | done | (rw [show t607.length = t594.length from (Kd.R_reads' HO_13.out).1.symm] <;> rfl) | rfl | (simp only [List.length_drop, List.length_take]; rfl)) ?_; (with_reducible refine (laws_heldIntS.calls kj36 _ _ t607 1 t608 _ ?side1 ?side2 A51.out).mono ?_); (case side1 => repeat (first | exact (Kd.R_reads' HO_13.out).2.2 | (with_reducible refine Kd.C_alloc ?_ _) | (with_reducible refine Kd.C_drewN ?_ _) | (with_reducible refine Kd.C_drew ?_))); (case side2 => rw [show t607.length = t594.length from (Kd.R_reads' HO_13.out).1.symm]; exact (Kd.R_reads' HO_13.out).2.1); rintro e w' ⟨rfl, ⟨nd, rfl⟩⟩; refine ⟨_, rfl, ?_⟩))
                      go_ret
                      exact ⟨by first | rfl | (simp [errW_none, errW_some] <;> rfl) | (simp [*, errW_none, errW_some] <;> rfl), by repeat (first | (with_reducible first | exact HB.out | apply below_alloc | apply pw_below_drewN | apply below_drew1 | refine below_set ?_ GE578.out) | exact HB.out)⟩
          · replace c35 := Bool.eq_false_iff.mpr c35
            subst c35
            have H1 : (some false) = some r := by rw [if_neg (show ¬ (false = true) by decide)] at H; exact H
            clear H
            have H := H1
            clear H1
            obtain rfl := Option.some.inj H
            go_wp2_with (first | ((with_reducible refine gate_callee (f := 20) rfl ?_); refine goesL_ (some 57) rfl rfl Try.func20 (by kernel_rfl) rfl #[.slice A1 l1.length c1] rfl (by (try simp only [List.map_toArray, List.map_cons, List.map_nil]); first | done | rfl | (simp only [List.length_drop, List.length_take]; rfl)) ?_; (with_reducible refine (laws_toMessageS.calls kj13 _ _ l1 t599 _ ?side1 ?side2 A33.out).mono ?_); (case side1 => repeat (first | exact (Kd.C_below HR1.out HB.out) | (with_reducible refine Kd.C_alloc ?_ _) | (with_reducible refine Kd.C_drewN ?_ _) | (with_reducible refine Kd.C_drew ?_))); (case side2 => exact HC1.out); rintro e w79 ⟨v600, rfl, ho0, hb⟩; refine ⟨_, rfl, ?_⟩; have n0_ := Aside0.mk (Kd.R_below (by (with_reducible repeat (first | apply Kd.R_alloc | apply Kd.R_drewN | apply Kd.R_drew)); exact HO_10.out) hb); have n1_ := Aside0.mk (Kd.R_elder' (by (with_reducible repeat (first | apply Kd.R_alloc | apply Kd.R_drewN | apply Kd.R_drew)); exact HO_12.out) (Kd.R_base ho0) hb); have n2_ := Aside0.mk (Kd.R_below (by (with_reducible repeat (first | apply Kd.R_alloc | apply Kd.R_drewN | apply Kd.R_drew)); exact HO_13.out) hb); have n3_ := Aside0.mk (Kd.R_lower (Kd.R_new' ho0 (Kd.R_lt (by (with_reducible repeat (first | apply Kd.R_alloc | apply Kd.R_drewN | apply Kd.R_drew)); exact HO_12.out))) (below_size (by repeat (first | (with_reducible first | exact HB.out | apply below_alloc | apply pw_below_drewN | apply below_drew1 | refine below_set ?_ GE578.out) | exact HB.out)))); have n4_ := Aside0.mk (blk_below (g := gb578) (o := .cells #[.int .i64 a0_0, .bool a0_1] 23 (0, 0)) (by (with_reducible repeat (first | refine blk_drewN ?_ _ | refine blk_drew ?_ | refine blk_alloc ?_ _)); exact BK578.out) hb); have n5_ := Aside0.mk (below_step (by repeat (first | (with_reducible first | exact HB.out | apply below_alloc | apply pw_below_drewN | apply below_drew1 | refine below_set ?_ GE578.out) | exact HB.out)) hb); clear HO_10; clear HO_12; clear HO_13; clear BK578; clear HB; have HO_10 := n0_; have HO_12 := n1_; have HO_13 := n2_; have HO601 := n3_; have BK578 := n4_; have HB := n5_; clear n0_ n1_ n2_ n3_ n4_ n5_; (try clear hb); (try clear hb2); (try clear hk); (try clear hi); (try clear ho0); obtain ⟨Ao80, co80, eo80⟩ := Kd.R_slice HO601.out; subst eo80) | ((with_reducible refine gate_callee (f := 22) rfl ?_); refine goesL_ (some 58) rfl rfl Try.func22 (by kernel_rfl) rfl #[.slice Ao24 t589.length co24, .slice Ao80 t599.length co80] rfl (by (try simp only [List.map_toArray, List.map_cons, List.map_nil]); first | done | rfl | (simp only [List.length_drop, List.length_take]; rfl)) ?_; (with_reducible refine (laws_eqMessageS.calls kj13 _ _ t589 _ _ t599 false _ ?side1 ?side2 ?side3 ?side4 A34.out).mono ?_); (case side1 => repeat (first | exact (Kd.R_reads' HO_12.out).2.2 | (with_reducible refine Kd.C_alloc ?_ _) | (with_reducible refine Kd.C_drewN ?_ _) | (with_reducible refine Kd.C_drew ?_))); (case side2 => exact (Kd.R_reads' HO_12.out).2.1); (case side3 => repeat (first | exact (Kd.R_reads' HO601.out).2.2 | (with_reducible refine Kd.C_alloc ?_ _) | (with_reducible refine Kd.C_drewN ?_ _) | (with_reducible refine Kd.C_drew ?_))); (case side4 => exact (Kd.R_reads' HO601.out).2.1); rintro e w81 ⟨rfl, hb⟩; refine ⟨_, rfl, ?_⟩; have n0_ := Aside0.mk (Kd.R_below (by (with_reducible repeat (first | apply Kd.R_alloc | apply Kd.R_drewN | apply Kd.R_drew)); exact HO_10.out) hb); have n1_ := Aside0.mk (Kd.R_below (by (with_reducible repeat (first | apply Kd.R_alloc | apply Kd.R_drewN | apply Kd.R_drew)); exact HO_12.out) hb); have n2_ := Aside0.mk (Kd.R_below (by (with_reducible repeat (first | apply Kd.R_alloc | apply Kd.R_drewN | apply Kd.R_drew)); exact HO_13.out) hb); have n3_ := Aside0.mk (Kd.R_below (by (with_reducible repeat (first | apply Kd.R_alloc | apply Kd.R_drewN | apply Kd.R_drew)); exact HO601.out) hb); have n4_ := Aside0.mk (blk_below (g := gb578) (o := .cells #[.int .i64 a0_0, .bool a0_1] 23 (0, 0)) (by (with_reducible repeat (first | refine blk_drewN ?_ _ | refine blk_drew ?_ | refine blk_alloc ?_ _)); exact BK578.out) hb); have n5_ := Aside0.mk (below_step (by repeat (first | (with_reducible first | exact HB.out | apply below_alloc | apply pw_below_drewN | apply below_drew1 | refine below_set ?_ GE578.out) | exact HB.out)) hb); clear HO_10; clear HO_12; clear HO_13; clear HO601; clear BK578; clear HB; have HO_10 := n0_; have HO_12 := n1_; have HO_13 := n2_; have HO601 := n3_; have BK578 := n4_; have HB := n5_; clear n0_ n1_ n2_ n3_ n4_ n5_; (try clear hb); (try clear hb2); (try clear hk); (try clear hi)))
            go_ret
            exact ⟨by first | rfl | (simp [errW_none, errW_some] <;> rfl) | (simp [*, errW_none, errW_some] <;> rfl), by repeat (first | (with_reducible first | exact HB.out | apply below_alloc | apply pw_below_drewN | apply below_drew1 | refine below_set ?_ GE578.out) | exact HB.out)⟩

end Go.Proofs.Ytgkbeejkbhhjkaa.X

/- Plain lemmas: what a function with rounds comes to. -/
namespace Go.Proofs.Ytgkbeejkbhhjkaa.X
set_option linter.unusedSimpArgs false
set_option linter.unusedVariables false
open Go.RowKit Go.Proofs.YtgkbeejkbhhjkaaW.PrintWords
theorem w64 {x : Int} (h1 : -9223372036854775808 ≤ x) (h2 : x ≤ 9223372036854775807) : wrap64 x = x := by unfold wrap64; omega
/-- One round: the next state's answer is this state's. -/
theorem evNext {α : Type} {g f : Nat → Option α} {r : α} (h : ∀ k, g (k + 1) = f k) (k : Ev f r) : Ev g r := Ev.step h k
theorem evEnd {α : Type} {g : Nat → Option α} {r : α} (h : ∀ k, g (k + 1) = some r) : Ev g r := Ev.step (f := fun _ => some r) h (Ev.now r)
/-- A round that calls: from some number of rounds on. -/
theorem evCall {α β : Type} {g f : Nat → Option α} {c : Nat → Option β} {v : β} {r : α} (hc : Ev c v) (h : ∀ k, c k = some v → g (k + 1) = f k) (k : Ev f r) : Ev g r := by
  obtain ⟨K, k⟩ := k
  obtain ⟨K', hc⟩ := hc
  refine ⟨K + K' + 1, fun n hn => ?_⟩
  obtain ⟨m, rfl⟩ : ∃ m, n = m + 1 := ⟨n - 1, by omega⟩
  rw [h m (hc m (by omega))]
  exact k m (by omega)
theorem evCallEnd {α β : Type} {g : Nat → Option α} {c : Nat → Option β} {v : β} {r : α} (hc : Ev c v) (h : ∀ k, c k = some v → g (k + 1) = some r) : Ev g r :=
  evCall hc h (Ev.now r)
/-- A counter that goes up: an invariant, and each round hands the answer on. -/
theorem evUp {σ ρ : Type} (n : Nat) (L : Nat → σ → Nat → Option ρ) (I : Nat → σ → Prop) (r : ρ)
    (hs : ∀ i s, i < n → I i s → (∃ s', I (i + 1) s' ∧ (Ev (fun k => L k s' (i + 1)) r → Ev (fun k => L k s i) r)) ∨ Ev (fun k => L k s i) r)
    (he : ∀ s, I n s → Ev (fun k => L k s n) r) : ∀ i s, i ≤ n → I i s → Ev (fun k => L k s i) r := by
  have key : ∀ d i s, i + d = n → I i s → Ev (fun k => L k s i) r := by
    intro d
    induction d with
    | zero =>
      intro i s hd hI
      obtain rfl : i = n := by omega
      exact he s hI
    | succ d ih =>
      intro i s hd hI
      rcases hs i s (by omega) hI with ⟨s', hI', hk⟩ | h
      · exact hk (ih (i + 1) s' (by omega) hI')
      · exact h
  intro i s hi hI
  exact key (n - i) i s (by omega) hI
/-- The same from zero on. -/
theorem evUp0 {σ ρ : Type} (n : Nat) (L : Nat → σ → Nat → Option ρ) (I : Nat → σ → Prop) (r : ρ) (s : σ) (h0 : I 0 s)
    (hs : ∀ i s, i < n → I i s → (∃ s', I (i + 1) s' ∧ (Ev (fun k => L k s' (i + 1)) r → Ev (fun k => L k s i) r)) ∨ Ev (fun k => L k s i) r)
    (he : ∀ s, I n s → Ev (fun k => L k s n) r) : Ev (fun k => L k s 0) r := evUp n L I r hs he 0 s (Nat.zero_le _) h0
theorem evEq {α : Type} {g : Nat → Option α} {r r' : α} (h : Ev g r) (e : r = r') : Ev g r' := e ▸ h
theorem rd_at (l : List Int) (i : Nat) (h : i < l.length) : rd l (i : Int) = l[i] := by
  simp [rd, List.getD_eq_getElem?_getD, List.getElem?_eq_getElem h]
end Go.Proofs.Ytgkbeejkbhhjkaa.X

/- Plain lemmas: the laws' own equality of slices of whole numbers. -/
namespace Go.Proofs.Ytgkbeejkbhhjkaa.X
set_option linter.unusedSimpArgs false
set_option linter.unusedVariables false
open Go.RowKit Go.Proofs.YtgkbeejkbhhjkaaW.PrintWords
theorem eqIntS_loop (a b : List Int) (hl : a.length = b.length) (ha : a.length ≤ 9223372036854775806) : Ev (fun k => laws_eqIntS.l0 k a b ((0 : Nat) : Int)) (decide (a = b)) := by
  refine evUp0 a.length (fun k (_ : Unit) (i : Nat) => laws_eqIntS.l0 k a b (i : Int)) (fun i _ => a.take i = b.take i) _ () (by simp) ?_ ?_
  · intro i s hi hI
    by_cases e : a[i] = b[i]'(by omega)
    · refine .inl ⟨(), ?_, fun h => evNext (fun k => ?_) h⟩
      · rw [List.take_succ_eq_append_getElem hi, List.take_succ_eq_append_getElem (by omega), hI, e]
      · show laws_eqIntS.l0 (k + 1) a b (i : Int) = laws_eqIntS.l0 k a b (i + 1 : Nat)
        simp only [laws_eqIntS.l0]
        rw [if_pos (by omega), if_pos (by omega), if_pos (by omega), rd_at a i hi, rd_at b i (by omega), if_pos e, w64 (by omega) (by omega)]
        rfl
    · refine .inr (evEnd fun k => ?_)
      show laws_eqIntS.l0 (k + 1) a b (i : Int) = _
      simp only [laws_eqIntS.l0]
      rw [if_pos (by omega), if_pos (by omega), if_pos (by omega), rd_at a i hi, rd_at b i (by omega), if_neg e, decide_eq_false]
      intro h
      subst h
      exact e rfl
  · intro s hI
    refine evEnd fun k => ?_
    show laws_eqIntS.l0 (k + 1) a b (a.length : Int) = _
    simp only [laws_eqIntS.l0]
    rw [if_neg (by omega), decide_eq_true]
    rw [List.take_length, hl, List.take_length] at hI
    exact hI
theorem eqIntS_ev (a b : List Int) (ha : a.length ≤ 9223372036854775806) : Ev (fun k => laws_eqIntS.f k a b) (decide (a = b)) := by
  by_cases hl : a.length = b.length
  · refine Ev.congr (f := fun k => laws_eqIntS.l0 k a b ((0 : Nat) : Int)) (fun k => ?_) (eqIntS_loop a b hl ha)
    unfold laws_eqIntS.f
    rw [if_pos (by omega)]
    rfl
  · refine Ev.congr (f := fun _ => some (decide (a = b))) (fun k => ?_) (Ev.now _)
    unfold laws_eqIntS.f
    rw [if_neg (by omega), decide_eq_false]
    intro h
    exact hl (by rw [h])
end Go.Proofs.Ytgkbeejkbhhjkaa.X

/- Plain lemmas: the laws' marks on slices of whole numbers. -/
namespace Go.Proofs.Ytgkbeejkbhhjkaa.X
set_option linter.unusedSimpArgs false
set_option linter.unusedVariables false
open Go.RowKit Go.Proofs.YtgkbeejkbhhjkaaW.PrintWords
/-- The row that the marks leave. -/
def marks (n : Nat) (a : Int) : List Int := (List.range n).map (fun (j : Nat) => a + (j : Int))
theorem marks_length (n : Nat) (a : Int) : (marks n a).length = n := by simp [marks]
theorem marks_at (n : Nat) (a : Int) (i : Nat) (h : i < n) : rd (marks n a) (i : Int) = a + i := by
  rw [rd_at _ _ (by rw [marks_length]; exact h)]
  simp [marks]
theorem markIntS_ev (l : List Int) (a : Int) (h0 : 0 ≤ a) (h1 : a + l.length ≤ 9223372036854775806) : Ev (fun k => laws_markIntS.f k l a) (a + l.length, marks l.length a) := by
  have key := evUp0 l.length (fun k (s : List Int) (i : Nat) => laws_markIntS.l0 k s (a + i) (i : Int)) (fun i s => s = (marks l.length a).take i ++ l.drop i) (a + l.length, marks l.length a) l (by simp)
    (by
      intro i s hi hI
      have hsl : s.length = l.length := by rw [hI]; simp [marks_length]; omega
      refine .inl ⟨(marks l.length a).take (i + 1) ++ l.drop (i + 1), rfl, fun h => evNext (fun k => ?_) h⟩
      show laws_markIntS.l0 (k + 1) s (a + i) (i : Int) = laws_markIntS.l0 k _ (a + (i + 1 : Nat)) (i + 1 : Nat)
      simp only [laws_markIntS.l0]
      rw [if_pos (by omega), if_pos (by omega), w64 (by omega) (by omega), w64 (by omega) (by omega), Int.toNat_natCast]
      congr 1
      · subst hI
        have hm : i < (marks l.length a).length := by rw [marks_length]; exact hi
        rw [List.take_succ_eq_append_getElem hm, List.append_assoc, List.set_append_right _ _ (by simp; omega)]
        congr 1
        have e1 : (List.take i (marks l.length a)).length = i := by simp [marks_length]; omega
        rw [e1, Nat.sub_self, List.drop_eq_getElem_cons hi, List.set_cons_zero]
        simp only [marks, List.getElem_map, List.getElem_range]
        rfl
      · omega)
    (by
      intro s hI
      refine evEnd fun k => ?_
      show laws_markIntS.l0 (k + 1) s (a + (l.length : Nat)) ((l.length : Nat) : Int) = _
      have hsl : s.length = l.length := by rw [hI]; simp [marks_length]
      simp only [laws_markIntS.l0]
      rw [if_neg (by omega), hI]
      congr 2
      rw [List.take_of_length_le (by rw [marks_length]; exact Nat.le_refl _)]
      simp)
  refine Ev.congr (fun k => ?_) key
  unfold laws_markIntS.f
  simp
theorem heldIntS_ev (n : Nat) (a : Int) (h0 : 0 ≤ a) (h1 : a + n ≤ 9223372036854775806) : Ev (fun k => laws_heldIntS.f k (marks n a) a) (a + n) := by
  have key := evUp0 n (fun k (_ : Unit) (i : Nat) => laws_heldIntS.l0 k (marks n a) (a + i) (i : Int)) (fun _ _ => True) (a + n) () trivial
    (by
      intro i s hi _
      refine .inl ⟨(), trivial, fun h => evNext (fun k => ?_) h⟩
      show laws_heldIntS.l0 (k + 1) (marks n a) (a + i) (i : Int) = laws_heldIntS.l0 k (marks n a) (a + (i + 1 : Nat)) (i + 1 : Nat)
      simp only [laws_heldIntS.l0]
      rw [if_pos (by rw [marks_length]; omega), if_pos (by omega), if_pos (marks_at n a i hi), w64 (by omega) (by omega), w64 (by omega) (by omega)]
      congr 1
      omega)
    (by
      intro s _
      refine evEnd fun k => ?_
      show laws_heldIntS.l0 (k + 1) (marks n a) (a + (n : Nat)) ((n : Nat) : Int) = _
      simp only [laws_heldIntS.l0]
      rw [if_neg (by rw [marks_length]; omega)])
  refine Ev.congr (fun k => ?_) key
  unfold laws_heldIntS.f
  simp
end Go.Proofs.Ytgkbeejkbhhjkaa.X

/- Plain lemmas of slot rings: the order of the stations within a tick does not matter; the program's ring is the reference's. -/
namespace Go.Proofs.Ytgkbeejkbhhjkaa.X
set_option linter.unusedSimpArgs false
set_option linter.unusedVariables false
open Go.RowKit Go.Proofs.YtgkbeejkbhhjkaaW.PrintWords
section
variable {J : List S30} {fah : Bool} {t : Int}
/-- One after the other. -/
def slFold (J : List S30) (fah : Bool) (t : Int) (ops : List (Nat × Int)) (s : SlSt) : SlSt := ops.foldl (fun s p => slOne J fah t p.1 p.2 s) s
theorem slFold_inv {n : Nat} (ht : 0 ≤ t) : ∀ (A : List (Nat × Int)) (s : SlSt), SlInv n J.length s → (∀ p ∈ A, p.1 < n) → SlInv n J.length (slFold J fah t A s)
  | [], _, h, _ => h
  | p :: A, s, h, hA => slFold_inv ht A _ (slOne_inv ht h (hA p (by simp))) (fun q hq => hA q (by simp [hq]))
theorem slFold_past {n : Nat} (ht : 0 ≤ t) (b : Nat × Int) (hb : b.1 < n) : ∀ (A : List (Nat × Int)) (s : SlSt), SlInv n J.length s → (∀ p ∈ A, p.1 < n ∧ p.1 ≠ b.1 ∧ p.2 ≠ b.2) → slFold J fah t A (slOne J fah t b.1 b.2 s) = slOne J fah t b.1 b.2 (slFold J fah t A s)
  | [], _, _, _ => rfl
  | p :: A, s, h, hA => by
    obtain ⟨h1, h2, h3⟩ := hA p (by simp)
    show slFold J fah t A (slOne J fah t p.1 p.2 (slOne J fah t b.1 b.2 s)) = slOne J fah t b.1 b.2 (slFold J fah t A (slOne J fah t p.1 p.2 s))
    rw [slOne_comm (J := J) (fah := fah) (t := t) h hb h1 (Ne.symm h2) (Ne.symm h3)]
    exact slFold_past ht b hb A _ (slOne_inv ht h h1) (fun q hq => hA q (by simp [hq]))
theorem slFold_swap {n : Nat} (ht : 0 ≤ t) (A : List (Nat × Int)) (hA : ∀ p ∈ A, p.1 < n) : ∀ (B : List (Nat × Int)) (s : SlSt), SlInv n J.length s → (∀ b ∈ B, b.1 < n ∧ ∀ p ∈ A, p.1 ≠ b.1 ∧ p.2 ≠ b.2) → slFold J fah t (A ++ B) s = slFold J fah t (B ++ A) s
  | [], s, _, _ => by rw [List.append_nil]; rfl
  | b :: B, s, h, hB => by
    obtain ⟨h1, h2⟩ := hB b (by simp)
    have ih := slFold_swap ht A hA B (slOne J fah t b.1 b.2 s) (slOne_inv ht h h1) (fun q hq => hB q (by simp [hq]))
    have hp := slFold_past (J := J) (fah := fah) (t := t) ht b h1 A s h (fun p hp => ⟨hA p hp, (h2 p hp).1, (h2 p hp).2⟩)
    show List.foldl _ s (A ++ b :: B) = slFold J fah t (B ++ A) (slOne J fah t b.1 b.2 s)
    rw [← ih]
    unfold slFold at hp ⊢
    rw [List.foldl_append, List.foldl_append, List.foldl_cons, hp]
/-- The reference goes by slots, the program by stations. -/
def opsSpec (n t : Nat) : List (Nat × Int) := (List.range n).map (fun k => (k, (((k + t) % n : Nat) : Int)))
def opsImpl (n t : Nat) : List (Nat × Int) := (List.range n).map (fun o => ((o + (n - t % n)) % n, (o : Int)))
theorem range_split (a b : Nat) : List.range (a + b) = List.range a ++ (List.range b).map (fun i => a + i) := by
  induction b with
  | zero => simp
  | succ b ih => rw [← Nat.add_assoc, List.range_succ, ih, List.range_succ, List.map_append, List.append_assoc]; rfl
theorem ops_split (n t : Nat) (hn : 0 < n) : ∃ X Y : List (Nat × Int), opsSpec n t = X ++ Y ∧ opsImpl n t = Y ++ X ∧ (∀ p ∈ X, p.1 < n) ∧ ∀ b ∈ Y, b.1 < n ∧ ∀ p ∈ X, p.1 ≠ b.1 ∧ p.2 ≠ b.2 := by
  have hs : t % n < n := Nat.mod_lt _ hn
  obtain ⟨s0, hs0⟩ : ∃ s0, t % n = s0 := ⟨_, rfl⟩
  rw [hs0] at hs
  refine ⟨(List.range (n - s0)).map (fun k => (k, ((k + s0 : Nat) : Int))), (List.range s0).map (fun i => (n - s0 + i, (i : Int))), ?_, ?_, ?_, ?_⟩
  · unfold opsSpec
    rw [show List.range n = List.range ((n - s0) + s0) by rw [Nat.sub_add_cancel (by omega)], range_split, List.map_append, List.map_map]
    congr 1
    · refine List.map_congr_left fun k hk => ?_
      have hk2 := List.mem_range.1 hk
      rw [Nat.add_mod, hs0, Nat.mod_eq_of_lt (show k < n by omega), Nat.mod_eq_of_lt (by omega)]
    · refine List.map_congr_left fun i hi => ?_
      have hi2 := List.mem_range.1 hi
      show (n - s0 + i, (((n - s0 + i + t) % n : Nat) : Int)) = _
      rw [Nat.add_mod, hs0, Nat.mod_eq_of_lt (show n - s0 + i < n by omega), show n - s0 + i + s0 = i + n by omega, Nat.add_mod_right, Nat.mod_eq_of_lt (by omega)]
  · unfold opsImpl
    rw [show List.range n = List.range (s0 + (n - s0)) by rw [Nat.add_sub_cancel' (by omega)], range_split, List.map_append, List.map_map, hs0]
    congr 1
    · refine List.map_congr_left fun i hi => ?_
      have hi2 := List.mem_range.1 hi
      rw [Nat.mod_eq_of_lt (by omega), Nat.add_comm]
    · refine List.map_congr_left fun k hk => ?_
      have hk2 := List.mem_range.1 hk
      show ((s0 + k + (n - s0)) % n, ((s0 + k : Nat) : Int)) = _
      rw [show s0 + k + (n - s0) = k + n by omega, Nat.add_mod_right, Nat.mod_eq_of_lt (by omega), Nat.add_comm s0 k]
  · intro p hp
    obtain ⟨k, hk, rfl⟩ := List.mem_map.1 hp
    have := List.mem_range.1 hk
    show k < n
    omega
  · intro b hb
    obtain ⟨i, hi, rfl⟩ := List.mem_map.1 hb
    have hi2 := List.mem_range.1 hi
    refine ⟨by show n - s0 + i < n; omega, fun p hp => ?_⟩
    obtain ⟨k, hk, rfl⟩ := List.mem_map.1 hp
    have hk2 := List.mem_range.1 hk
    exact ⟨by show k ≠ n - s0 + i; omega, by show ((k + s0 : Nat) : Int) ≠ (i : Int); omega⟩
/-- A tick by slots is a tick by stations. -/
theorem tick_same {n : Nat} (hn : 0 < n) (tn : Nat) (s : SlSt) (h : SlInv n J.length s) : slFold J fah (tn : Int) (opsSpec n tn) s = slFold J fah (tn : Int) (opsImpl n tn) s ∧ SlInv n J.length (slFold J fah (tn : Int) (opsSpec n tn) s) := by
  obtain ⟨X, Y, h1, h2, h3, h4⟩ := ops_split n tn hn
  refine ⟨?_, slFold_inv (by omega) _ _ h (fun p hp => ?_)⟩
  · rw [h1, h2]
    exact slFold_swap (by omega) X h3 Y s h h4
  · rw [h1] at hp
    rcases List.mem_append.1 hp with hp | hp
    · exact h3 p hp
    · exact (h4 p hp).1
end
theorem slTo_fold (J : List S30) (fah : Bool) (t n : Nat) (s : SlSt) : ∀ m, slTo J fah (t : Int) n s m = slFold J fah (t : Int) ((List.range m).map (fun k => (k, (((k + t) % n : Nat) : Int)))) s
  | 0 => rfl
  | m + 1 => by
    rw [slTo, slTo_fold J fah t n s m, List.range_succ, List.map_append]
    unfold slFold
    rw [List.foldl_append]
    have e : Int.tmod ((m : Int) + (t : Int)) (n : Int) = (((m + t) % n : Nat) : Int) := by
      rw [Int.tmod_eq_emod_of_nonneg (by omega), Int.natCast_emod]
      rfl
    rw [e]
    rfl
theorem slIm_fold (J : List S30) (fah : Bool) (n t : Nat) (s : SlSt) : ∀ o, slIm J fah n t s o = slFold J fah (t : Int) ((List.range o).map (fun o => ((o + (n - t % n)) % n, (o : Int)))) s
  | 0 => rfl
  | o + 1 => by
    rw [slIm, slIm_fold J fah n t s o, List.range_succ, List.map_append]
    unfold slFold
    rw [List.foldl_append]
    rfl
/-- The program's ring is the reference's. -/
theorem run_same (J : List S30) (fah : Bool) (n : Nat) (hn : 0 < n) : ∀ t, slImTo J fah n t = slRunTo J fah n t
  | 0 => rfl
  | t + 1 => by
    rw [slImTo, slRunTo, run_same J fah n hn t, slTo_fold, slIm_fold]
    exact (tick_same (fah := fah) hn t _ (slRunTo_inv J fah n t)).1.symm
end Go.Proofs.Ytgkbeejkbhhjkaa.X

/- Plain lemmas: the laws' own helpers over slices of Messages. -/
namespace Go.Proofs.Ytgkbeejkbhhjkaa.X
set_option linter.unusedSimpArgs false
set_option linter.unusedVariables false
open Go.RowKit Go.Proofs.YtgkbeejkbhhjkaaW.PrintWords
theorem rdS_at (l : List S30) (i : Nat) (h : i < l.length) : rd_T30 l (i : Int) = l[i] := by
  simp [rd_T30, List.getD_eq_getElem?_getD, List.getElem?_eq_getElem h]
theorem rdL_at (l : List S25) (i : Nat) (h : i < l.length) : rd_T25 l (i : Int) = l[i] := by
  simp [rd_T25, List.getD_eq_getElem?_getD, List.getElem?_eq_getElem h]
def toL (l : List S25) : List S30 := l.map (fun x => ⟨x.f0, x.f1, x.f2⟩)
theorem toL_length (l : List S25) : (toL l).length = l.length := by simp [toL]
theorem sz_big (l : List S25) (h : 1048576 < l.length) (h2 : l.length ≤ 9223372036854775807) : laws_szMessageS.f l 1048576 = some (-1) := by
  unfold laws_szMessageS.f
  rw [w64 (by omega) (by omega), if_pos (by omega)]
theorem sz_small (l : List S25) (h : l.length ≤ 1048576) : laws_szMessageS.f l 1048576 = some (1048576 - (l.length : Int)) := by
  unfold laws_szMessageS.f
  rw [w64 (by omega) (by omega), if_neg (by omega)]
theorem toS_ev (l : List S25) (hn : l.length ≤ 1048576) : Ev (fun k => laws_toMessageS.f k l) (toL l) := by
  have key := evUp l.length (fun k (s : List S30) (i : Nat) => laws_toMessageS.l0 k l s (i : Int)) (fun i s => s = (toL l).take i ++ List.replicate (l.length - i) z30) (toL l)
    (by
      intro i s hi hI
      have hsl : s.length = l.length := by rw [hI]; simp [toL_length]; omega
      refine .inl ⟨(toL l).take (i + 1) ++ List.replicate (l.length - (i + 1)) z30, rfl, fun h => evNext (fun k => ?_) h⟩
      show laws_toMessageS.l0 (k + 1) l s (i : Int) = laws_toMessageS.l0 k l _ (i + 1 : Nat)
      simp only [laws_toMessageS.l0, laws_toMessage.f, Option.bind_some]
      rw [if_pos (by omega), if_pos (by omega), if_pos (by omega), w64 (by omega) (by omega), rdL_at l i hi]
      congr 1
      subst hI
      rw [Int.toNat_natCast]
      have htl := toL_length l
      apply List.ext_getElem
      · simp [toL_length]; omega
      · intro j h1 h2
        rw [List.getElem_set]
        by_cases e : i = j
        · subst e
          rw [if_pos rfl, List.getElem_append_left (by simp [toL_length]; omega)]
          simp [toL]
        · rw [if_neg e]
          by_cases hj : j < i
          · rw [List.getElem_append_left (by simp [toL_length]; omega), List.getElem_append_left (by simp [toL_length]; omega)]
            simp
          · rw [List.getElem_append_right (by simp [toL_length]; omega), List.getElem_append_right (by simp [toL_length]; omega)]
            simp)
    (by
      intro s hI
      refine evEnd fun k => ?_
      show laws_toMessageS.l0 (k + 1) l s (l.length : Int) = some (toL l)
      simp only [laws_toMessageS.l0]
      rw [if_neg (by omega), hI, List.take_of_length_le (by rw [toL_length]; exact Nat.le_refl _)]
      simp) 0 (List.replicate l.length z30) (by omega) (by simp)
  refine Ev.congr (fun k => ?_) key
  unfold laws_toMessageS.f
  rw [if_pos (by omega), if_pos (by omega), Int.toNat_natCast]
  rfl
theorem eqOne (x : S30) : laws_eqMessage.f x.f0 x.f1 x.f2 x.f0 x.f1 x.f2 = some true := by simp [laws_eqMessage.f]
theorem eqS_ev (l : List S30) (hn : l.length ≤ 1048576) : Ev (fun k => laws_eqMessageS.f k l l) true := by
  have key := evUp0 l.length (fun k (_ : Unit) (i : Nat) => laws_eqMessageS.l0 k l l (i : Int)) (fun _ _ => True) true () trivial
    (by
      intro i s hi _
      refine .inl ⟨(), trivial, fun h => evNext (fun k => ?_) h⟩
      show laws_eqMessageS.l0 (k + 1) l l (i : Int) = laws_eqMessageS.l0 k l l (i + 1 : Nat)
      simp only [laws_eqMessageS.l0]
      rw [if_pos (by omega), if_pos (by omega), if_pos (by omega), eqOne, w64 (by omega) (by omega)]
      simp only [Option.bind_some, if_true]
      rfl)
    (by
      intro s _
      refine evEnd fun k => ?_
      show laws_eqMessageS.l0 (k + 1) l l (l.length : Int) = _
      simp only [laws_eqMessageS.l0]
      rw [if_neg (by omega)])
  refine Ev.congr (fun k => ?_) key
  unfold laws_eqMessageS.f
  rw [if_pos rfl]
  rfl
end Go.Proofs.Ytgkbeejkbhhjkaa.X

/- Plain lemmas: a number between two others. -/
namespace Go.Proofs.Ytgkbeejkbhhjkaa.X
set_option linter.unusedSimpArgs false
set_option linter.unusedVariables false
open Go.RowKit Go.Proofs.YtgkbeejkbhhjkaaW.PrintWords
theorem l1In_eq (n lo hi : Int) : spec_l1In.f n lo hi = some (inB lo hi n) := by
  unfold spec_l1In.f inB
  by_cases h : lo ≤ n
  · rw [if_pos (by omega), decide_eq_true h]; simp
  · rw [if_neg (by omega), decide_eq_false h]; simp
theorem within_eq (n lo hi : Int) : impl_within.f n lo hi = some (inB lo hi n) := by
  unfold impl_within.f inB
  by_cases h : lo ≤ n
  · rw [if_pos (by omega), decide_eq_true h]; simp
  · rw [if_neg (by omega), decide_eq_false h]; simp
theorem allWithin_eq (l : List Int) (lo hi : Int) : impl_allWithin.f l lo hi = some (l.all (inB lo hi)) := rfl
theorem inB_iff {lo hi n : Int} : inB lo hi n = true ↔ lo ≤ n ∧ n ≤ hi := by simp [inB]
end Go.Proofs.Ytgkbeejkbhhjkaa.X

/- Plain lemmas: messages on a slotted ring. -/
namespace Go.Proofs.Ytgkbeejkbhhjkaa.X
set_option linter.unusedSimpArgs false
set_option linter.unusedVariables false
open Go.RowKit Go.Proofs.YtgkbeejkbhhjkaaW.PrintWords
def okMsg (n : Int) (x : S30) : Bool := inB 0 100 x.f0 && (inB 0 (n - 1) x.f1 && (inB 0 (n - 1) x.f2 && (x.f1 != x.f2)))
def msgAt (n : Int) (l : List S30) (i : Nat) : Bool := okMsg n (rd_T30 l (i : Int)) && (decide (i = 0) || decide ((rd_T30 l ((i : Int) - 1)).f0 ≤ (rd_T30 l (i : Int)).f0))
def msgsTo (n : Int) (l : List S30) : Nat → Bool
  | 0 => true
  | m + 1 => msgsTo n l m && msgAt n l m
def areMsgs (n : Int) (l : List S30) : Bool := decide (l.length ≤ 20) && msgsTo n l l.length
def isSl (n : Int) (l : List S30) : Bool := inB 2 12 n && areMsgs n l
theorem msgsTo_false (n : Int) (l : List S30) (j : Nat) (h : msgAt n l j = false) : ∀ m, j < m → msgsTo n l m = false
  | 0, hm => by omega
  | m + 1, hm => by
    by_cases e : j = m
    · subst e
      simp [msgsTo, h]
    · simp [msgsTo, msgsTo_false n l j h m (by omega)]
theorem msgsTo_at {n : Int} {l : List S30} (m : Nat) (h : msgsTo n l m = true) (i : Nat) (hi : i < m) : msgAt n l i = true := by
  cases hj : msgAt n l i with
  | true => rfl
  | false =>
    have := msgsTo_false n l i hj m hi
    rw [this] at h
    cases h
theorem slGood_eq (n : Int) (b : Bool) : spec_slGood.f n b = some (inB 2 12 n) := by simp [spec_slGood.f, l1In_eq]
theorem isSlotRing_eq (n : Int) (b : Bool) : impl_IsSlotRing.f n b = some (inB 2 12 n) := by simp [impl_IsSlotRing.f, impl_isRingSize.f, within_eq]
theorem slMessage_eq (n : Int) (b : Bool) (hn : 2 ≤ n ∧ n ≤ 12) (x : S30) : spec_slMessage.f n b x.f0 x.f1 x.f2 = some (okMsg n x) := by
  unfold spec_slMessage.f okMsg
  simp only [l1In_eq, Option.bind_some]
  rw [w64 (by omega) (by omega)]
  cases inB 0 100 x.f0 <;> cases inB 0 (n - 1) x.f1 <;> cases inB 0 (n - 1) x.f2 <;> simp
theorem specMsgs_step (n : Int) (b : Bool) (hn : 2 ≤ n ∧ n ≤ 12) (l : List S30) (i : Nat) (hi : i < l.length) (hl : l.length ≤ 1048576) (k : Nat) :
    spec_slAll.l0 (k + 1) l l (l.length : Int) (i : Int) n b = if msgAt n l i = true then spec_slAll.l0 k l l (l.length : Int) ((i + 1 : Nat) : Int) n b else some false := by
  rw [spec_slAll.l0.eq_2]
  rw [if_pos (by omega), if_pos (by omega), if_pos (by omega)]
  simp only [slMessage_eq n b hn, Option.bind_some]
  unfold msgAt
  rw [w64 (x := (i : Int) + 1) (by omega) (by omega)]
  cases okMsg n (rd_T30 l (i : Int)) <;> simp
  by_cases h0 : i = 0
  · subst h0
    simp
  · rw [if_pos (by omega), w64 (by omega) (by omega), if_pos (by omega), if_pos (by omega)]
    by_cases hc : (rd_T30 l ((i : Int) - 1)).f0 ≤ (rd_T30 l (i : Int)).f0
    · rw [if_neg (by omega), if_pos (.inr hc)]
    · rw [if_pos (by omega), if_neg (by omega)]
theorem implMsgs_step (n : Int) (hn : 2 ≤ n ∧ n ≤ 12) (l : List S30) (i : Nat) (hi : i < l.length) (hl : l.length ≤ 1048576) (k : Nat) :
    impl_areMessages.l0 (k + 1) n l l (l.length : Int) (i : Int) = if msgAt n l i = true then impl_areMessages.l0 k n l l (l.length : Int) ((i + 1 : Nat) : Int) else some false := by
  simp only [impl_areMessages.l0]
  rw [if_pos (by omega), if_pos (by omega), if_pos (by omega)]
  simp only [within_eq, allWithin_eq, Option.bind_some, List.all_cons, List.all_nil, Bool.and_true]
  unfold msgAt okMsg
  rw [w64 (x := (i : Int) + 1) (by omega) (by omega), w64 (x := n - 1) (by omega) (by omega)]
  cases inB 0 100 (rd_T30 l (i : Int)).f0 <;> cases inB 0 (n - 1) (rd_T30 l (i : Int)).f1 <;> cases inB 0 (n - 1) (rd_T30 l (i : Int)).f2 <;> simp
  by_cases he : (rd_T30 l (i : Int)).f1 = (rd_T30 l (i : Int)).f2
  · simp [he]
  · rw [if_neg he]
    by_cases h0 : i = 0
    · subst h0
      rw [if_neg (by omega), if_pos ⟨he, .inl rfl⟩]
    · rw [if_pos (by omega), w64 (by omega) (by omega), if_pos (by omega), if_pos (by omega)]
      by_cases hc : (rd_T30 l ((i : Int) - 1)).f0 ≤ (rd_T30 l (i : Int)).f0
      · rw [if_neg (by omega), if_pos ⟨he, .inr hc⟩]
      · rw [if_pos (by omega), if_neg (by omega)]
theorem specMsgs_ev (n : Int) (b : Bool) (l : List S30) (hl : l.length ≤ 1048576) : Ev (fun k => spec_slAll.f k n b l) (isSl n l) := by
  unfold isSl
  cases hg : inB 2 12 n with
  | false =>
    refine ⟨9, fun k hk => ?_⟩
    obtain ⟨m, rfl⟩ : ∃ m, k = m + 9 := ⟨k - 9, by omega⟩
    simp [spec_slAll.f, slGood_eq, hg, spec_slAll.j0]
  | true =>
    have hn := inB_iff.1 hg
    unfold areMsgs
    by_cases hc : l.length ≤ 20
    · rw [decide_eq_true hc, Bool.true_and, Bool.true_and]
      have key := evUp0 l.length (fun k (_ : Unit) (i : Nat) => spec_slAll.l0 k l l (l.length : Int) (i : Int) n b) (fun i _ => msgsTo n l i = true) (msgsTo n l l.length) () rfl
        (by
          intro i s hi hI
          cases hj : msgAt n l i with
          | true => exact .inl ⟨(), by simp [msgsTo, hI, hj], fun h => evNext (fun k => by rw [specMsgs_step n b hn l i hi hl k, if_pos hj]) h⟩
          | false => exact .inr (evEnd fun k => by rw [specMsgs_step n b hn l i hi hl k, hj, msgsTo_false n l i hj l.length hi]; simp))
        (by
          intro s hI
          refine evEnd fun k => ?_
          show spec_slAll.l0 (k + 1) l l (l.length : Int) (l.length : Int) n b = _
          rw [spec_slAll.l0.eq_2, if_neg (by omega), hI])
      refine Ev.step (f := fun k => spec_slAll.l0 k l l (l.length : Int) 0 n b) (g := fun k => spec_slAll.f k n b l) (fun k => ?_) key
      show spec_slAll.f (k + 1) n b l = _
      unfold spec_slAll.f
      rw [slGood_eq, hg]
      simp only [Option.bind_some, if_true]
      rw [spec_slAll.j0.eq_2, decide_eq_false (by omega)]
      simp
    · refine ⟨9, fun k hk => ?_⟩
      obtain ⟨m, rfl⟩ : ∃ m, k = m + 9 := ⟨k - 9, by omega⟩
      have hd : decide ((l.length : Int) > 20) = true := decide_eq_true (by omega)
      show spec_slAll.f (m + 9) n b l = _
      unfold spec_slAll.f
      rw [slGood_eq, hg]
      simp only [Option.bind_some, if_true]
      rw [spec_slAll.j0.eq_2, hd, decide_eq_false hc]
      simp
theorem implMsgs_ev (n : Int) (hn : 2 ≤ n ∧ n ≤ 12) (l : List S30) (hl : l.length ≤ 1048576) : Ev (fun k => impl_areMessages.f k n l) (areMsgs n l) := by
  have key := evUp0 l.length (fun k (_ : Unit) (i : Nat) => impl_areMessages.l0 k n l l (l.length : Int) (i : Int)) (fun i _ => msgsTo n l i = true) (areMsgs n l) () rfl
    (by
      intro i s hi hI
      cases hj : msgAt n l i with
      | true => exact .inl ⟨(), by simp [msgsTo, hI, hj], fun h => evNext (fun k => by rw [implMsgs_step n hn l i hi hl k, if_pos hj]) h⟩
      | false => exact .inr (evEnd fun k => by rw [implMsgs_step n hn l i hi hl k, hj]; simp [areMsgs, msgsTo_false n l i hj l.length hi]))
    (by
      intro s hI
      refine evEnd fun k => ?_
      show impl_areMessages.l0 (k + 1) n l l (l.length : Int) (l.length : Int) = _
      simp only [impl_areMessages.l0]
      rw [if_neg (by omega)]
      unfold areMsgs
      rw [hI, Bool.and_true]
      congr 1
      by_cases h : l.length ≤ 20
      · rw [decide_eq_true h, decide_eq_true (by omega)]
      · rw [decide_eq_false h, decide_eq_false (by omega)])
  exact key
theorem implSlotted_ev (n : Int) (b : Bool) (l : List S30) (hl : l.length ≤ 1048576) : Ev (fun k => impl_isSlotted.f k n b l) (isSl n l) := by
  unfold isSl
  cases hg : inB 2 12 n with
  | false =>
    refine Ev.congr (f := fun _ => some false) (fun k => ?_) (Ev.now _)
    simp [impl_isSlotted.f, isSlotRing_eq, hg]
  | true =>
    obtain ⟨K, e⟩ := implMsgs_ev n (inB_iff.1 hg) l hl
    dsimp only at e
    refine ⟨K, fun k hk => ?_⟩
    simp (disch := omega) only [impl_isSlotted.f, isSlotRing_eq, hg, e, Option.bind_some, if_true, Bool.true_and]
/-- What is known of messages. -/
theorem isSl_at {n : Int} {l : List S30} (h : isSl n l = true) : (2 ≤ n ∧ n ≤ 12) ∧ l.length ≤ 20 ∧ ∀ i : Nat, i < l.length → 0 ≤ (rd_T30 l (i : Int)).f0 ∧ (rd_T30 l (i : Int)).f0 ≤ 100 ∧ 0 ≤ (rd_T30 l (i : Int)).f1 ∧ (rd_T30 l (i : Int)).f1 ≤ n - 1 ∧ 0 ≤ (rd_T30 l (i : Int)).f2 ∧ (rd_T30 l (i : Int)).f2 ≤ n - 1 ∧ (rd_T30 l (i : Int)).f1 ≠ (rd_T30 l (i : Int)).f2 := by
  unfold isSl areMsgs at h
  simp only [Bool.and_eq_true, decide_eq_true_eq] at h
  refine ⟨inB_iff.1 h.1, h.2.1, fun i hi => ?_⟩
  have := msgsTo_at l.length h.2.2 i hi
  unfold msgAt okMsg at this
  simp only [Bool.and_eq_true, bne_iff_ne] at this
  have h1 := inB_iff.1 this.1.1
  have h2 := inB_iff.1 this.1.2.1
  have h3 := inB_iff.1 this.1.2.2.1
  exact ⟨h1.1, h1.2, h2.1, h2.2, h3.1, h3.2, this.1.2.2.2⟩
theorem isSl_sorted {n : Int} {l : List S30} (h : isSl n l = true) (i : Nat) (hi : i + 1 < l.length) : (rd_T30 l (i : Int)).f0 ≤ (rd_T30 l ((i + 1 : Nat) : Int)).f0 := by
  unfold isSl areMsgs at h
  simp only [Bool.and_eq_true, decide_eq_true_eq] at h
  have := msgsTo_at l.length h.2.2 (i + 1) hi
  unfold msgAt at this
  simp only [Bool.and_eq_true, Bool.or_eq_true, decide_eq_true_eq] at this
  have e : ((i + 1 : Nat) : Int) - 1 = (i : Int) := by omega
  rw [e] at this
  omega
end Go.Proofs.Ytgkbeejkbhhjkaa.X
