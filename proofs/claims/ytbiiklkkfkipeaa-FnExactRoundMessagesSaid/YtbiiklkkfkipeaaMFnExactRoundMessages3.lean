/- Several texts of this session in one: X32, X33, PlEv, PlInts, PlSurvDefs, PlSurv, PlAll, PlHas, PlNames, PlSurvSame, PureFnExactRoundMessages, Rw. -/
import Derived.Test.YtbiiklkkfkipeaaMFnExactRoundMessages0
import Derived.Test.YtbiiklkkfkipeaaMFnExactRoundMessages1
import Derived.Test.YtbiiklkkfkipeaaMFnExactRoundMessages2
import Derived.Test.YtbiiklkkfkipeaaWWords
import Derived.Test.YtbiiklkkfkipeaaWMore
import Derived.Deep.Slices
import Derived.Deep.Fields
import Derived.ChangeSame
import Derived.Lib.SmallJoins
import Derived.SizedLaws
import Derived.ChangeSlices
/- What the functions of the program come to, and that they do: written by this session's program wip/xprint.py out of the translation; parts named extern are typed by hand. -/
namespace Go.Proofs.Ytbiiklkkfkipeaa.X
open Go.RowKit Go.Proofs.YtbiiklkkfkipeaaW.PrintWords Go.Proofs.YtbiiklkkfkipeaaW.PrintLast Go.Proofs.YtbiiklkkfkipeaaW.PrintMore
attribute [local go_sem] max2_int min2_int max_two min_two max_three min_three max_four min_four   -- for this text's walks alone
set_option linter.unusedVariables false
set_option linter.unusedSimpArgs false

/-! ### laws_FnExactBothWays: function 11 -/
def laws_FnExactBothWays.j0 : Nat → List Int → List Int → Bool → Option (Bool)
  | 0, _, _, _ => none
  | k + 1, x0, x5, x31 => if x31 = true then (some false) else ((laws_toIntS.f k x0).bind fun t456 => ((laws_eqIntS.f k x5 t456).bind fun t459 => (if t459 = true then (some true) else (some false))))
def laws_FnExactBothWays.f (k : Nat) (l0 : List Int) : Option (Bool) := if (l0.length : Int) > 1048576 then (some true) else ((laws_toIntS.f k l0).bind fun t446 => ((spec_BothWays.f k t446).bind fun bt449 => ((laws_toIntS.f k l0).bind fun t451 => ((impl_BothWays.f k t451).bind fun bt454 => (if bt454.1 = bt449.1 then (laws_FnExactBothWays.j0 k l0 t451 (bt454.2 != bt449.2)) else (laws_FnExactBothWays.j0 k l0 t451 true))))))
theorem laws_FnExactBothWays.mono_l : ∀ k, (∀ y0 y1 y2, LeO (laws_FnExactBothWays.j0 k y0 y1 y2) (laws_FnExactBothWays.j0 (k + 1) y0 y1 y2))
  | 0 => fun _ _ _ r h => by simp [laws_FnExactBothWays.j0] at h
  | k + 1 => by
    have ih0 := laws_FnExactBothWays.mono_l k
    · intro y0 y1 y2
      unfold laws_FnExactBothWays.j0
      repeat' first
      | (with_reducible exact ih0 _ _ _)
      | (with_reducible exact impl_BothWays.mono _ _)
      | (with_reducible exact laws_eqIntS.mono _ _ _)
      | (with_reducible exact laws_toIntS.mono _ _)
      | (with_reducible exact spec_BothWays.mono _ _)
      | (with_reducible exact LeO.refl _)
      | (with_reducible exact LeO.none _)
      | (with_reducible refine LeO.ite ?_ ?_)
      | (with_reducible refine LeO.bind ?_ (fun _ => ?_))
      | exact ih0 _ _ _
      | exact impl_BothWays.mono _ _
      | exact laws_eqIntS.mono _ _ _
      | exact laws_toIntS.mono _ _
      | exact spec_BothWays.mono _ _
      | exact LeO.none _
      | refine LeO.ite ?_ ?_
      | refine LeO.bind ?_ (fun _ => ?_)
theorem laws_FnExactBothWays.mono : ∀ a0 k, LeO (laws_FnExactBothWays.f k a0) (laws_FnExactBothWays.f (k + 1) a0) := by
  intro a0 k
  have ih0 := laws_FnExactBothWays.mono_l k
  unfold laws_FnExactBothWays.f
  repeat' first
      | (with_reducible exact ih0 _ _ _)
      | (with_reducible exact impl_BothWays.mono _ _)
      | (with_reducible exact laws_eqIntS.mono _ _ _)
      | (with_reducible exact laws_toIntS.mono _ _)
      | (with_reducible exact spec_BothWays.mono _ _)
      | (with_reducible exact LeO.refl _)
      | (with_reducible exact LeO.none _)
      | (with_reducible refine LeO.ite ?_ ?_)
      | (with_reducible refine LeO.bind ?_ (fun _ => ?_))
      | exact ih0 _ _ _
      | exact impl_BothWays.mono _ _
      | exact laws_eqIntS.mono _ _ _
      | exact laws_toIntS.mono _ _
      | exact spec_BothWays.mono _ _
      | exact LeO.none _
      | refine LeO.ite ?_ ?_
      | refine LeO.bind ?_ (fun _ => ?_)
set_option maxHeartbeats 8000000 in
set_option maxRecDepth 100000 in
theorem laws_FnExactBothWays.calls (k : Nat) (A0 : Option Addr) (c0 : Nat) (l0 : List Int) (r : Bool) (w : World) (hr0 : Kd.C (Kd.int .i64) w A0 l0.length l0) (hc0 : l0.length ≤ c0) (h : laws_FnExactBothWays.f k l0 = some r) :
    Calls Try.prog 11 #[.slice A0 l0.length c0] w fun e w' => e = .returned (.bool r) ∧ Below w.heap.size w w' := by
  have HR0 := Aside0.mk hr0
  have HC0 := Aside0.mk hc0
  clear hr0 hc0
  have HB := Aside0.mk (Below.refl w.heap.size w)
  have H : (if (l0.length : Int) > 1048576 then (some true) else ((laws_toIntS.f k l0).bind fun t446 => ((spec_BothWays.f k t446).bind fun bt449 => ((laws_toIntS.f k l0).bind fun t451 => ((impl_BothWays.f k t451).bind fun bt454 => (if bt454.1 = bt449.1 then (laws_FnExactBothWays.j0 k l0 t451 (bt454.2 != bt449.2)) else (laws_FnExactBothWays.j0 k l0 t451 true))))))) = some r := h
  clear h
  by_cases c2 : (l0.length : Int) > 1048576
  · rw [if_pos c2] at H
    have c2b0 : decide (1048576 < (l0.length : Int)) = true := decide_eq_true c2
    have c2b1 : decide (1048576 < l0.length) = true := decide_eq_true (by omega)
    clear c2
    obtain rfl := Option.some.inj H
    go_enter Try.func11, Try.ntmps11
    go_wp2
    go_ret
    exact ⟨by first | rfl | (simp [errW_none, errW_some] <;> rfl) | (simp [*, errW_none, errW_some] <;> rfl), by repeat (first | (with_reducible first | exact HB.out | apply below_alloc | apply pw_below_drewN | apply below_drew1) | exact HB.out)⟩
  · rw [if_neg c2] at H
    have c2b0 : decide (1048576 < (l0.length : Int)) = false := decide_eq_false c2
    have c2b1 : decide (1048576 < l0.length) = false := decide_eq_false (by omega)
    clear c2
    replace H := Option.bind_eq_some_iff.mp H
    obtain ⟨t446, A30, H⟩ := H
    replace H : ((spec_BothWays.f k t446).bind fun bt449 => ((laws_toIntS.f k l0).bind fun t451 => ((impl_BothWays.f k t451).bind fun bt454 => (if bt454.1 = bt449.1 then (laws_FnExactBothWays.j0 k l0 t451 (bt454.2 != bt449.2)) else (laws_FnExactBothWays.j0 k l0 t451 true))))) = some r := H
    have A3 := Aside0.mk A30
    clear A30
    replace H := Option.bind_eq_some_iff.mp H
    obtain ⟨⟨t449, t450⟩, A40, H⟩ := H
    replace H : ((laws_toIntS.f k l0).bind fun t451 => ((impl_BothWays.f k t451).bind fun bt454 => (if bt454.1 = t449 then (laws_FnExactBothWays.j0 k l0 t451 (bt454.2 != t450)) else (laws_FnExactBothWays.j0 k l0 t451 true)))) = some r := H
    have A4 := Aside0.mk A40
    clear A40
    replace H := Option.bind_eq_some_iff.mp H
    obtain ⟨t451, A50, H⟩ := H
    replace H : ((impl_BothWays.f k t451).bind fun bt454 => (if bt454.1 = t449 then (laws_FnExactBothWays.j0 k l0 t451 (bt454.2 != t450)) else (laws_FnExactBothWays.j0 k l0 t451 true))) = some r := H
    have A5 := Aside0.mk A50
    clear A50
    replace H := Option.bind_eq_some_iff.mp H
    obtain ⟨⟨t454, t455⟩, A60, H⟩ := H
    replace H : (if t454 = t449 then (laws_FnExactBothWays.j0 k l0 t451 (t455 != t450)) else (laws_FnExactBothWays.j0 k l0 t451 true)) = some r := H
    have A6 := Aside0.mk A60
    clear A60
    have HC7 := Aside0.mk H
    clear H
    go_enter Try.func11, Try.ntmps11
    go_upto_region 6 with (first | ((with_reducible refine gate_callee (f := 18) rfl ?_); refine goesL_ (some 13) rfl rfl Try.func18 (by kernel_rfl) rfl #[.slice A0 l0.length c0] rfl (by (try simp only [List.map_toArray, List.map_cons, List.map_nil]); first | done | rfl | (simp only [List.length_drop, List.length_take]; rfl)) ?_; (with_reducible refine (laws_toIntS.calls k _ _ l0 t446 _ ?side1 ?side2 A3.out).mono ?_); (case side1 => repeat (first | exact HR0.out | (with_reducible refine Kd.C_alloc ?_ _) | (with_reducible refine Kd.C_drewN ?_ _) | (with_reducible refine Kd.C_drew ?_))); (case side2 => exact HC0.out); rintro e w8 ⟨v447, rfl, ho0, hb⟩; refine ⟨_, rfl, ?_⟩; have n0_ := Aside0.mk (Kd.R_lower ho0 (below_size (by repeat (first | (with_reducible first | exact HB.out | apply below_alloc | apply pw_below_drewN | apply below_drew1) | exact HB.out)))); have n1_ := Aside0.mk (below_step (by repeat (first | (with_reducible first | exact HB.out | apply below_alloc | apply pw_below_drewN | apply below_drew1) | exact HB.out)) hb); clear HB; have HO448 := n0_; have HB := n1_; clear n0_ n1_; (try clear hb); (try clear hb2); (try clear hk); (try clear hi); (try clear ho0); obtain ⟨Ao9, co9, eo9⟩ := Kd.R_slice HO448.out; subst eo9) | ((with_reducible refine gate_callee (f := 35) rfl ?_); refine goesL_ (some 14) rfl rfl Try.func35 (by kernel_rfl) rfl #[.slice Ao9 t446.length co9] rfl (by (try simp only [List.map_toArray, List.map_cons, List.map_nil]); first | done | rfl | (simp only [List.length_drop, List.length_take]; rfl)) ?_; (with_reducible refine (spec_BothWays.calls k _ _ t446 t449 t450 _ ?side1 ?side2 A4.out).mono ?_); (case side1 => repeat (first | exact (Kd.R_reads' HO448.out).2.2 | (with_reducible refine Kd.C_alloc ?_ _) | (with_reducible refine Kd.C_drewN ?_ _) | (with_reducible refine Kd.C_drew ?_))); (case side2 => exact (Kd.R_reads' HO448.out).2.1); rintro e w10 ⟨rfl, hb⟩; refine ⟨_, rfl, ?_⟩; have n0_ := Aside0.mk (Kd.R_below (by (with_reducible repeat (first | apply Kd.R_alloc | apply Kd.R_drewN | apply Kd.R_drew)); exact HO448.out) hb); have n1_ := Aside0.mk (below_step (by repeat (first | (with_reducible first | exact HB.out | apply below_alloc | apply pw_below_drewN | apply below_drew1) | exact HB.out)) hb); clear HO448; clear HB; have HO448 := n0_; have HB := n1_; clear n0_ n1_; (try clear hb); (try clear hb2); (try clear hk); (try clear hi)) | ((with_reducible refine gate_callee (f := 18) rfl ?_); refine goesL_ (some 18) rfl rfl Try.func18 (by kernel_rfl) rfl #[.slice A0 l0.length c0] rfl (by (try simp only [List.map_toArray, List.map_cons, List.map_nil]); first | done | rfl | (simp only [List.length_drop, List.length_take]; rfl)) ?_; (with_reducible refine (laws_toIntS.calls k _ _ l0 t451 _ ?side1 ?side2 A5.out).mono ?_); (case side1 => repeat (first | exact (Kd.C_below HR0.out HB.out) | (with_reducible refine Kd.C_alloc ?_ _) | (with_reducible refine Kd.C_drewN ?_ _) | (with_reducible refine Kd.C_drew ?_))); (case side2 => exact HC0.out); rintro e w11 ⟨v452, rfl, ho0, hb⟩; refine ⟨_, rfl, ?_⟩; have n0_ := Aside0.mk (Kd.R_elder' (by (with_reducible repeat (first | apply Kd.R_alloc | apply Kd.R_drewN | apply Kd.R_drew)); exact HO448.out) (Kd.R_base ho0) hb); have n1_ := Aside0.mk (Kd.R_lower (Kd.R_new' ho0 (Kd.R_lt (by (with_reducible repeat (first | apply Kd.R_alloc | apply Kd.R_drewN | apply Kd.R_drew)); exact HO448.out))) (below_size (by repeat (first | (with_reducible first | exact HB.out | apply below_alloc | apply pw_below_drewN | apply below_drew1) | exact HB.out)))); have n2_ := Aside0.mk (below_step (by repeat (first | (with_reducible first | exact HB.out | apply below_alloc | apply pw_below_drewN | apply below_drew1) | exact HB.out)) hb); clear HO448; clear HB; have HO448 := n0_; have HO453 := n1_; have HB := n2_; clear n0_ n1_ n2_; (try clear hb); (try clear hb2); (try clear hk); (try clear hi); (try clear ho0); obtain ⟨Ao12, co12, eo12⟩ := Kd.R_slice HO453.out; subst eo12) | ((with_reducible refine gate_callee (f := 36) rfl ?_); refine goesL_ (some 21) rfl rfl Try.func36 (by kernel_rfl) rfl #[.slice Ao12 t451.length co12] rfl (by (try simp only [List.map_toArray, List.map_cons, List.map_nil]); first | done | rfl | (simp only [List.length_drop, List.length_take]; rfl)) ?_; (with_reducible refine (impl_BothWays.calls k _ _ t451 t454 t455 _ ?side1 ?side2 A6.out).mono ?_); (case side1 => repeat (first | exact (Kd.R_reads' HO453.out).2.2 | (with_reducible refine Kd.C_alloc ?_ _) | (with_reducible refine Kd.C_drewN ?_ _) | (with_reducible refine Kd.C_drew ?_))); (case side2 => exact (Kd.R_reads' HO453.out).2.1); rintro e w13 ⟨rfl, hb⟩; refine ⟨_, rfl, ?_⟩; have n0_ := Aside0.mk (Kd.R_below (by (with_reducible repeat (first | apply Kd.R_alloc | apply Kd.R_drewN | apply Kd.R_drew)); exact HO448.out) hb); have n1_ := Aside0.mk (Kd.R_below (by (with_reducible repeat (first | apply Kd.R_alloc | apply Kd.R_drewN | apply Kd.R_drew)); exact HO453.out) hb); have n2_ := Aside0.mk (below_step (by repeat (first | (with_reducible first | exact HB.out | apply below_alloc | apply pw_below_drewN | apply below_drew1) | exact HB.out)) hb); clear HO448; clear HO453; clear HB; have HO448 := n0_; have HO453 := n1_; have HB := n2_; clear n0_ n1_ n2_; (try clear hb); (try clear hb2); (try clear hk); (try clear hi)))
    (try simp only [Act.put, List.setIfInBounds_toArray, List.set_cons_zero, List.set_cons_succ])
    go_cut [31] (fun v31 wc => ∃ (kq : Nat) (x31_6 : Bool), v31 = .bool x31_6 ∧ Aside0 (laws_FnExactBothWays.j0 kq l0 t451 x31_6 = some r) ∧ Aside0 (kq ≤ k) ∧ Aside0 (Kd.R (Kd.int .i64) 3 wc w.heap.size (fun _ => True) (.slice Ao12 t451.length co12) t451) ∧ Aside0 (Below w.heap.size w wc))
    case first =>
      have H := HC7.out
      clear HC7
      by_cases c14 : t454 = t449
      · rw [if_pos c14] at H
        have c14b0 : (t454 == t449) = true := beq_iff_eq.mpr c14
        have c14b1 : (t454 != t449) = false := bne_eq_false_iff_eq.mpr c14
        clear c14
        (first | rw [c14b0] | (simp only [i64_w, i32_w]; rw [c14b0]) | skip)
        have H' := Aside0.mk H
        clear H
        go_wp2
        go_meet
        case rel => exact ⟨_, ((t455 != t450)), (by first | rfl | (simp; done) | (simp [*]; done)), H', ⟨by first | omega | exact Nat.le_refl _⟩, ⟨by (with_reducible repeat (first | apply Kd.R_alloc | apply Kd.R_drewN | apply Kd.R_drew)); exact Kd.R_mono HO453.out (fun _ hk => trivial)⟩, ⟨by repeat (first | (with_reducible first | exact HB.out | apply below_alloc | apply pw_below_drewN | apply below_drew1) | exact HB.out)⟩⟩
      · rw [if_neg c14] at H
        have c14b0 : (t454 == t449) = false := beq_eq_false_iff_ne.mpr c14
        have c14b1 : (t454 != t449) = true := bne_iff_ne.mpr c14
        (first | rw [c14b0] | (simp only [i64_w, i32_w]; rw [c14b0]) | skip)
        have H' := Aside0.mk H
        clear H
        go_wp2
        go_meet
        case rel => exact ⟨_, (true), (by first | rfl | (simp; done) | (simp [*]; done)), H', ⟨by first | omega | exact Nat.le_refl _⟩, ⟨by (with_reducible repeat (first | apply Kd.R_alloc | apply Kd.R_drewN | apply Kd.R_drew)); exact Kd.R_mono HO453.out (fun _ hk => trivial)⟩, ⟨by repeat (first | (with_reducible first | exact HB.out | apply below_alloc | apply pw_below_drewN | apply below_drew1) | exact HB.out)⟩⟩
    case rest =>
      clear HC7
      try clear c1
      try clear c2
      try clear c2b0
      try clear c2b1
      try clear p2
      try clear c3
      try clear c11
      try clear c14
      try clear c14b0
      try clear c14b1
      obtain ⟨kq, x31_6, rfl, HA, HJ6, HO_5, HB⟩ := hcut
      cases kq with
      | zero => exact absurd HA.out (by simp [laws_FnExactBothWays.j0])
      | succ kj6 =>
        have H := HA.out
        clear HA
        simp only [laws_FnExactBothWays.j0] at H
        by_cases c15 : x31_6 = true
        · subst c15
          have H1 : (some false) = some r := by rw [if_pos rfl] at H; exact H
          clear H
          have H := H1
          clear H1
          obtain rfl := Option.some.inj H
          go_wp2
          go_ret
          exact ⟨by first | rfl | (simp [errW_none, errW_some] <;> rfl) | (simp [*, errW_none, errW_some] <;> rfl), by repeat (first | (with_reducible first | exact HB.out | apply below_alloc | apply pw_below_drewN | apply below_drew1) | exact HB.out)⟩
        · replace c15 := Bool.eq_false_iff.mpr c15
          subst c15
          have H1 : ((laws_toIntS.f kj6 l0).bind fun t456 => ((laws_eqIntS.f kj6 t451 t456).bind fun t459 => (if t459 = true then (some true) else (some false)))) = some r := by rw [if_neg (show ¬ (false = true) by decide)] at H; exact H
          clear H
          have H := H1
          clear H1
          replace H := Option.bind_eq_some_iff.mp H
          obtain ⟨t456, A160, H⟩ := H
          replace H : ((laws_eqIntS.f kj6 t451 t456).bind fun t459 => (if t459 = true then (some true) else (some false))) = some r := H
          have A16 := Aside0.mk A160
          clear A160
          replace H := Option.bind_eq_some_iff.mp H
          obtain ⟨t459, A170, H⟩ := H
          replace H : (if t459 = true then (some true) else (some false)) = some r := H
          have A17 := Aside0.mk A170
          clear A170
          by_cases c18 : t459 = true
          · subst c18
            have H1 : (some true) = some r := by rw [if_pos rfl] at H; exact H
            clear H
            have H := H1
            clear H1
            obtain rfl := Option.some.inj H
            go_wp2_with (first | ((with_reducible refine gate_callee (f := 18) rfl ?_); refine goesL_ (some 34) rfl rfl Try.func18 (by kernel_rfl) rfl #[.slice A0 l0.length c0] rfl (by (try simp only [List.map_toArray, List.map_cons, List.map_nil]); first | done | rfl | (simp only [List.length_drop, List.length_take]; rfl)) ?_; (with_reducible refine (laws_toIntS.calls kj6 _ _ l0 t456 _ ?side1 ?side2 A16.out).mono ?_); (case side1 => repeat (first | exact (Kd.C_below HR0.out HB.out) | (with_reducible refine Kd.C_alloc ?_ _) | (with_reducible refine Kd.C_drewN ?_ _) | (with_reducible refine Kd.C_drew ?_))); (case side2 => exact HC0.out); rintro e w19 ⟨v457, rfl, ho0, hb⟩; refine ⟨_, rfl, ?_⟩; have n0_ := Aside0.mk (Kd.R_elder' (by (with_reducible repeat (first | apply Kd.R_alloc | apply Kd.R_drewN | apply Kd.R_drew)); exact HO_5.out) (Kd.R_base ho0) hb); have n1_ := Aside0.mk (Kd.R_lower (Kd.R_new' ho0 (Kd.R_lt (by (with_reducible repeat (first | apply Kd.R_alloc | apply Kd.R_drewN | apply Kd.R_drew)); exact HO_5.out))) (below_size (by repeat (first | (with_reducible first | exact HB.out | apply below_alloc | apply pw_below_drewN | apply below_drew1) | exact HB.out)))); have n2_ := Aside0.mk (below_step (by repeat (first | (with_reducible first | exact HB.out | apply below_alloc | apply pw_below_drewN | apply below_drew1) | exact HB.out)) hb); clear HO_5; clear HB; have HO_5 := n0_; have HO458 := n1_; have HB := n2_; clear n0_ n1_ n2_; (try clear hb); (try clear hb2); (try clear hk); (try clear hi); (try clear ho0); obtain ⟨Ao20, co20, eo20⟩ := Kd.R_slice HO458.out; subst eo20) | ((with_reducible refine gate_callee (f := 20) rfl ?_); refine goesL_ (some 35) rfl rfl Try.func20 (by kernel_rfl) rfl #[.slice Ao12 t451.length co12, .slice Ao20 t456.length co20] rfl (by (try simp only [List.map_toArray, List.map_cons, List.map_nil]); first | done | rfl | (simp only [List.length_drop, List.length_take]; rfl)) ?_; (with_reducible refine (laws_eqIntS.calls kj6 _ _ t451 _ _ t456 true _ ?side1 ?side2 ?side3 ?side4 A17.out).mono ?_); (case side1 => repeat (first | exact (Kd.R_reads' HO_5.out).2.2 | (with_reducible refine Kd.C_alloc ?_ _) | (with_reducible refine Kd.C_drewN ?_ _) | (with_reducible refine Kd.C_drew ?_))); (case side2 => exact (Kd.R_reads' HO_5.out).2.1); (case side3 => repeat (first | exact (Kd.R_reads' HO458.out).2.2 | (with_reducible refine Kd.C_alloc ?_ _) | (with_reducible refine Kd.C_drewN ?_ _) | (with_reducible refine Kd.C_drew ?_))); (case side4 => exact (Kd.R_reads' HO458.out).2.1); rintro e w' ⟨rfl, ⟨nd, rfl⟩⟩; refine ⟨_, rfl, ?_⟩))
            go_ret
            exact ⟨by first | rfl | (simp [errW_none, errW_some] <;> rfl) | (simp [*, errW_none, errW_some] <;> rfl), by repeat (first | (with_reducible first | exact HB.out | apply below_alloc | apply pw_below_drewN | apply below_drew1) | exact HB.out)⟩
          · replace c18 := Bool.eq_false_iff.mpr c18
            subst c18
            have H1 : (some false) = some r := by rw [if_neg (show ¬ (false = true) by decide)] at H; exact H
            clear H
            have H := H1
            clear H1
            obtain rfl := Option.some.inj H
            go_wp2_with (first | ((with_reducible refine gate_callee (f := 18) rfl ?_); refine goesL_ (some 34) rfl rfl Try.func18 (by kernel_rfl) rfl #[.slice A0 l0.length c0] rfl (by (try simp only [List.map_toArray, List.map_cons, List.map_nil]); first | done | rfl | (simp only [List.length_drop, List.length_take]; rfl)) ?_; (with_reducible refine (laws_toIntS.calls kj6 _ _ l0 t456 _ ?side1 ?side2 A16.out).mono ?_); (case side1 => repeat (first | exact (Kd.C_below HR0.out HB.out) | (with_reducible refine Kd.C_alloc ?_ _) | (with_reducible refine Kd.C_drewN ?_ _) | (with_reducible refine Kd.C_drew ?_))); (case side2 => exact HC0.out); rintro e w21 ⟨v457, rfl, ho0, hb⟩; refine ⟨_, rfl, ?_⟩; have n0_ := Aside0.mk (Kd.R_elder' (by (with_reducible repeat (first | apply Kd.R_alloc | apply Kd.R_drewN | apply Kd.R_drew)); exact HO_5.out) (Kd.R_base ho0) hb); have n1_ := Aside0.mk (Kd.R_lower (Kd.R_new' ho0 (Kd.R_lt (by (with_reducible repeat (first | apply Kd.R_alloc | apply Kd.R_drewN | apply Kd.R_drew)); exact HO_5.out))) (below_size (by repeat (first | (with_reducible first | exact HB.out | apply below_alloc | apply pw_below_drewN | apply below_drew1) | exact HB.out)))); have n2_ := Aside0.mk (below_step (by repeat (first | (with_reducible first | exact HB.out | apply below_alloc | apply pw_below_drewN | apply below_drew1) | exact HB.out)) hb); clear HO_5; clear HB; have HO_5 := n0_; have HO458 := n1_; have HB := n2_; clear n0_ n1_ n2_; (try clear hb); (try clear hb2); (try clear hk); (try clear hi); (try clear ho0); obtain ⟨Ao22, co22, eo22⟩ := Kd.R_slice HO458.out; subst eo22) | ((with_reducible refine gate_callee (f := 20) rfl ?_); refine goesL_ (some 35) rfl rfl Try.func20 (by kernel_rfl) rfl #[.slice Ao12 t451.length co12, .slice Ao22 t456.length co22] rfl (by (try simp only [List.map_toArray, List.map_cons, List.map_nil]); first | done | rfl | (simp only [List.length_drop, List.length_take]; rfl)) ?_; (with_reducible refine (laws_eqIntS.calls kj6 _ _ t451 _ _ t456 false _ ?side1 ?side2 ?side3 ?side4 A17.out).mono ?_); (case side1 => repeat (first | exact (Kd.R_reads' HO_5.out).2.2 | (with_reducible refine Kd.C_alloc ?_ _) | (with_reducible refine Kd.C_drewN ?_ _) | (with_reducible refine Kd.C_drew ?_))); (case side2 => exact (Kd.R_reads' HO_5.out).2.1); (case side3 => repeat (first | exact (Kd.R_reads' HO458.out).2.2 | (with_reducible refine Kd.C_alloc ?_ _) | (with_reducible refine Kd.C_drewN ?_ _) | (with_reducible refine Kd.C_drew ?_))); (case side4 => exact (Kd.R_reads' HO458.out).2.1); rintro e w' ⟨rfl, ⟨nd, rfl⟩⟩; refine ⟨_, rfl, ?_⟩))
            go_ret
            exact ⟨by first | rfl | (simp [errW_none, errW_some] <;> rfl) | (simp [*, errW_none, errW_some] <;> rfl), by repeat (first | (with_reducible first | exact HB.out | apply below_alloc | apply pw_below_drewN | apply below_drew1) | exact HB.out)⟩

/-! ### spec_SurvivorsOf: function 37 -/
def spec_SurvivorsOf.f (k : Nat) (l0 : List Int) : Option ((List (List Int)) × Bool) := (spec_elNames.f k l0).bind fun t460 => (if t460 = true then ((spec_elSurvivors.f k l0).bind fun t461 => (some (t461, true))) else (some (([] : List (List Int)), false)))
theorem spec_SurvivorsOf.mono : ∀ a0 k, LeO (spec_SurvivorsOf.f k a0) (spec_SurvivorsOf.f (k + 1) a0) := by
  intro a0 k
  unfold spec_SurvivorsOf.f
  repeat' first
      | (with_reducible exact spec_elNames.mono _ _)
      | (with_reducible exact spec_elSurvivors.mono _ _)
      | (with_reducible exact LeO.refl _)
      | (with_reducible exact LeO.none _)
      | (with_reducible refine LeO.ite ?_ ?_)
      | (with_reducible refine LeO.bind ?_ (fun _ => ?_))
      | exact spec_elNames.mono _ _
      | exact spec_elSurvivors.mono _ _
      | exact LeO.none _
      | refine LeO.ite ?_ ?_
      | refine LeO.bind ?_ (fun _ => ?_)
set_option maxHeartbeats 8000000 in
set_option maxRecDepth 100000 in
theorem spec_SurvivorsOf.calls (k : Nat) (A0 : Option Addr) (c0 : Nat) (l0 : List Int) (r1 : List (List Int)) (r2 : Bool) (w : World) (hr0 : Kd.C (Kd.int .i64) w A0 l0.length l0) (hc0 : l0.length ≤ c0) (h : spec_SurvivorsOf.f k l0 = some (r1, r2)) :
    Calls Try.prog 37 #[.slice A0 l0.length c0] w fun e w' => ∃ v0_ : Value, e = .returned (.tuple #[v0_, .bool r2]) ∧ Kd.S (Kd.slice 3 (Kd.int .i64)) 25 w' w.heap.size (fun _ => True) v0_ r1 ∧ Below w.heap.size w w' := by
  have HR0 := Aside0.mk hr0
  have HC0 := Aside0.mk hc0
  clear hr0 hc0
  have HB := Aside0.mk (Below.refl w.heap.size w)
  have H : ((spec_elNames.f k l0).bind fun t460 => (if t460 = true then ((spec_elSurvivors.f k l0).bind fun t461 => (some (t461, true))) else (some (([] : List (List Int)), false)))) = some (r1, r2) := h
  clear h
  replace H := Option.bind_eq_some_iff.mp H
  obtain ⟨t460, A20, H⟩ := H
  replace H : (if t460 = true then ((spec_elSurvivors.f k l0).bind fun t461 => (some (t461, true))) else (some (([] : List (List Int)), false))) = some (r1, r2) := H
  have A2 := Aside0.mk A20
  clear A20
  by_cases c3 : t460 = true
  · subst c3
    have H1 : ((spec_elSurvivors.f k l0).bind fun t461 => (some (t461, true))) = some (r1, r2) := by rw [if_pos rfl] at H; exact H
    clear H
    have H := H1
    clear H1
    replace H := Option.bind_eq_some_iff.mp H
    obtain ⟨t461, A40, H⟩ := H
    replace H : (some (t461, true)) = some (r1, r2) := H
    have A4 := Aside0.mk A40
    clear A40
    simp only [Option.some.injEq, Prod.mk.injEq] at H
    obtain ⟨rfl, rfl⟩ := H
    go_enter Try.func37, Try.ntmps37
    go_wp2_with (first | ((with_reducible refine gate_callee (f := 53) rfl ?_); refine goesL_ (some 5) rfl rfl Try.func53 (by kernel_rfl) rfl #[.slice A0 l0.length c0] rfl (by (try simp only [List.map_toArray, List.map_cons, List.map_nil]); first | done | rfl | (simp only [List.length_drop, List.length_take]; rfl)) ?_; (with_reducible refine (spec_elNames.calls k _ _ l0 true _ ?side1 ?side2 A2.out).mono ?_); (case side1 => repeat (first | exact HR0.out | (with_reducible refine Kd.C_alloc ?_ _) | (with_reducible refine Kd.C_drewN ?_ _) | (with_reducible refine Kd.C_drew ?_))); (case side2 => exact HC0.out); rintro e w' ⟨rfl, ⟨nd, rfl⟩⟩; refine ⟨_, rfl, ?_⟩) | ((with_reducible refine gate_callee (f := 65) rfl ?_); refine goesL_ (some 8) rfl rfl Try.func65 (by kernel_rfl) rfl #[.slice A0 l0.length c0] rfl (by (try simp only [List.map_toArray, List.map_cons, List.map_nil]); first | done | rfl | (simp only [List.length_drop, List.length_take]; rfl)) ?_; (with_reducible refine (spec_elSurvivors.calls k _ _ l0 t461 _ ?side1 ?side2 A4.out).mono ?_); (case side1 => repeat (first | exact HR0.out | (with_reducible refine Kd.C_alloc ?_ _) | (with_reducible refine Kd.C_drewN ?_ _) | (with_reducible refine Kd.C_drew ?_))); (case side2 => exact HC0.out); rintro e w5 ⟨v462, rfl, ho0, hb⟩; refine ⟨_, rfl, ?_⟩; have n0_ := Aside0.mk (Kd.S_lower ho0 (below_size (by repeat (first | (with_reducible first | exact HB.out | apply below_alloc | apply pw_below_drewN | apply below_drew1) | exact HB.out)))); have n1_ := Aside0.mk (below_step (by repeat (first | (with_reducible first | exact HB.out | apply below_alloc | apply pw_below_drewN | apply below_drew1) | exact HB.out)) hb); clear HB; have HO463 := n0_; have HB := n1_; clear n0_ n1_; (try clear hb); (try clear hb2); (try clear hk); (try clear hi); (try clear ho0)))
    go_ret2
    exact ⟨_, by first | rfl | (simp [errW_none, errW_some] <;> rfl) | (simp [*, errW_none, errW_some] <;> rfl), by (with_reducible repeat (first | apply Kd.S_alloc | apply Kd.S_drewN | apply Kd.S_drew)); exact HO463.out, by repeat (first | (with_reducible first | exact HB.out | apply below_alloc | apply pw_below_drewN | apply below_drew1) | exact HB.out)⟩
  · replace c3 := Bool.eq_false_iff.mpr c3
    subst c3
    have H1 : (some (([] : List (List Int)), false)) = some (r1, r2) := by rw [if_neg (show ¬ (false = true) by decide)] at H; exact H
    clear H
    have H := H1
    clear H1
    simp only [Option.some.injEq, Prod.mk.injEq] at H
    obtain ⟨rfl, rfl⟩ := H
    go_enter Try.func37, Try.ntmps37
    go_wp2_with (first | ((with_reducible refine gate_callee (f := 53) rfl ?_); refine goesL_ (some 5) rfl rfl Try.func53 (by kernel_rfl) rfl #[.slice A0 l0.length c0] rfl (by (try simp only [List.map_toArray, List.map_cons, List.map_nil]); first | done | rfl | (simp only [List.length_drop, List.length_take]; rfl)) ?_; (with_reducible refine (spec_elNames.calls k _ _ l0 false _ ?side1 ?side2 A2.out).mono ?_); (case side1 => repeat (first | exact HR0.out | (with_reducible refine Kd.C_alloc ?_ _) | (with_reducible refine Kd.C_drewN ?_ _) | (with_reducible refine Kd.C_drew ?_))); (case side2 => exact HC0.out); rintro e w' ⟨rfl, ⟨nd, rfl⟩⟩; refine ⟨_, rfl, ?_⟩))
    go_ret2
    exact ⟨_, by first | rfl | (simp [errW_none, errW_some] <;> rfl) | (simp [*, errW_none, errW_some] <;> rfl), by first | exact Kd.S_nil _ _ _ _ _ | exact Kd.N_nil _ _ _ _ _ | exact Kd.V_nil _ _ _ _ _ | exact Kd.Q_nil _ _ _ _ _ | exact Kd.R_nil _ _ _ _ _, by repeat (first | (with_reducible first | exact HB.out | apply below_alloc | apply pw_below_drewN | apply below_drew1) | exact HB.out)⟩

end Go.Proofs.Ytbiiklkkfkipeaa.X

/- What the functions of the program come to, and that they do: written by this session's program wip/xprint.py out of the translation; parts named extern are typed by hand. -/
namespace Go.Proofs.Ytbiiklkkfkipeaa.X
open Go.RowKit Go.Proofs.YtbiiklkkfkipeaaW.PrintWords Go.Proofs.YtbiiklkkfkipeaaW.PrintLast Go.Proofs.YtbiiklkkfkipeaaW.PrintMore
attribute [local go_sem] max2_int min2_int max_two min_two max_three min_three max_four min_four   -- for this text's walks alone
set_option linter.unusedVariables false
set_option linter.unusedSimpArgs false

/-! ### impl_SurvivorsOf: function 38 -/
def impl_SurvivorsOf.f (k : Nat) (l0 : List Int) : Option ((List (List Int)) × Bool) := (impl_AreNames.f k l0).bind fun t464 => (if t464 = true then ((impl_survivors.f k l0).bind fun t465 => (some (t465, true))) else (some (([] : List (List Int)), false)))
theorem impl_SurvivorsOf.mono : ∀ a0 k, LeO (impl_SurvivorsOf.f k a0) (impl_SurvivorsOf.f (k + 1) a0) := by
  intro a0 k
  unfold impl_SurvivorsOf.f
  repeat' first
      | (with_reducible exact impl_AreNames.mono _ _)
      | (with_reducible exact impl_survivors.mono _ _)
      | (with_reducible exact LeO.refl _)
      | (with_reducible exact LeO.none _)
      | (with_reducible refine LeO.ite ?_ ?_)
      | (with_reducible refine LeO.bind ?_ (fun _ => ?_))
      | exact impl_AreNames.mono _ _
      | exact impl_survivors.mono _ _
      | exact LeO.none _
      | refine LeO.ite ?_ ?_
      | refine LeO.bind ?_ (fun _ => ?_)
set_option maxHeartbeats 8000000 in
set_option maxRecDepth 100000 in
theorem impl_SurvivorsOf.calls (k : Nat) (A0 : Option Addr) (c0 : Nat) (l0 : List Int) (r1 : List (List Int)) (r2 : Bool) (w : World) (hr0 : Kd.C (Kd.int .i64) w A0 l0.length l0) (hc0 : l0.length ≤ c0) (h : impl_SurvivorsOf.f k l0 = some (r1, r2)) :
    Calls Try.prog 38 #[.slice A0 l0.length c0] w fun e w' => ∃ v0_ : Value, e = .returned (.tuple #[v0_, .bool r2]) ∧ Kd.S (Kd.slice 3 (Kd.int .i64)) 25 w' w.heap.size (fun _ => True) v0_ r1 ∧ Below w.heap.size w w' := by
  have HR0 := Aside0.mk hr0
  have HC0 := Aside0.mk hc0
  clear hr0 hc0
  have HB := Aside0.mk (Below.refl w.heap.size w)
  have H : ((impl_AreNames.f k l0).bind fun t464 => (if t464 = true then ((impl_survivors.f k l0).bind fun t465 => (some (t465, true))) else (some (([] : List (List Int)), false)))) = some (r1, r2) := h
  clear h
  replace H := Option.bind_eq_some_iff.mp H
  obtain ⟨t464, A20, H⟩ := H
  replace H : (if t464 = true then ((impl_survivors.f k l0).bind fun t465 => (some (t465, true))) else (some (([] : List (List Int)), false))) = some (r1, r2) := H
  have A2 := Aside0.mk A20
  clear A20
  by_cases c3 : t464 = true
  · subst c3
    have H1 : ((impl_survivors.f k l0).bind fun t465 => (some (t465, true))) = some (r1, r2) := by rw [if_pos rfl] at H; exact H
    clear H
    have H := H1
    clear H1
    replace H := Option.bind_eq_some_iff.mp H
    obtain ⟨t465, A40, H⟩ := H
    replace H : (some (t465, true)) = some (r1, r2) := H
    have A4 := Aside0.mk A40
    clear A40
    simp only [Option.some.injEq, Prod.mk.injEq] at H
    obtain ⟨rfl, rfl⟩ := H
    go_enter Try.func38, Try.ntmps38
    go_wp2_with (first | ((with_reducible refine gate_callee (f := 19) rfl ?_); refine goesL_ (some 5) rfl rfl Try.func19 (by kernel_rfl) rfl #[.slice A0 l0.length c0] rfl (by (try simp only [List.map_toArray, List.map_cons, List.map_nil]); first | done | rfl | (simp only [List.length_drop, List.length_take]; rfl)) ?_; (with_reducible refine (impl_AreNames.calls k _ _ l0 true _ ?side1 ?side2 A2.out).mono ?_); (case side1 => repeat (first | exact HR0.out | (with_reducible refine Kd.C_alloc ?_ _) | (with_reducible refine Kd.C_drewN ?_ _) | (with_reducible refine Kd.C_drew ?_))); (case side2 => exact HC0.out); rintro e w5 ⟨rfl, hb⟩; refine ⟨_, rfl, ?_⟩; have n0_ := Aside0.mk (below_step (by repeat (first | (with_reducible first | exact HB.out | apply below_alloc | apply pw_below_drewN | apply below_drew1) | exact HB.out)) hb); clear HB; have HB := n0_; clear n0_; (try clear hb); (try clear hb2); (try clear hk); (try clear hi)) | ((with_reducible refine gate_callee (f := 66) rfl ?_); refine goesL_ (some 8) rfl rfl Try.func66 (by kernel_rfl) rfl #[.slice A0 l0.length c0] rfl (by (try simp only [List.map_toArray, List.map_cons, List.map_nil]); first | done | rfl | (simp only [List.length_drop, List.length_take]; rfl)) ?_; (with_reducible refine (impl_survivors.calls k _ _ l0 t465 _ ?side1 ?side2 A4.out).mono ?_); (case side1 => repeat (first | exact (Kd.C_below HR0.out HB.out) | (with_reducible refine Kd.C_alloc ?_ _) | (with_reducible refine Kd.C_drewN ?_ _) | (with_reducible refine Kd.C_drew ?_))); (case side2 => exact HC0.out); rintro e w6 ⟨v466, rfl, ho0, hb⟩; refine ⟨_, rfl, ?_⟩; have n0_ := Aside0.mk (Kd.S_lower ho0 (below_size (by repeat (first | (with_reducible first | exact HB.out | apply below_alloc | apply pw_below_drewN | apply below_drew1) | exact HB.out)))); have n1_ := Aside0.mk (below_step (by repeat (first | (with_reducible first | exact HB.out | apply below_alloc | apply pw_below_drewN | apply below_drew1) | exact HB.out)) hb); clear HB; have HO467 := n0_; have HB := n1_; clear n0_ n1_; (try clear hb); (try clear hb2); (try clear hk); (try clear hi); (try clear ho0)))
    go_ret2
    exact ⟨_, by first | rfl | (simp [errW_none, errW_some] <;> rfl) | (simp [*, errW_none, errW_some] <;> rfl), by (with_reducible repeat (first | apply Kd.S_alloc | apply Kd.S_drewN | apply Kd.S_drew)); exact HO467.out, by repeat (first | (with_reducible first | exact HB.out | apply below_alloc | apply pw_below_drewN | apply below_drew1) | exact HB.out)⟩
  · replace c3 := Bool.eq_false_iff.mpr c3
    subst c3
    have H1 : (some (([] : List (List Int)), false)) = some (r1, r2) := by rw [if_neg (show ¬ (false = true) by decide)] at H; exact H
    clear H
    have H := H1
    clear H1
    simp only [Option.some.injEq, Prod.mk.injEq] at H
    obtain ⟨rfl, rfl⟩ := H
    go_enter Try.func38, Try.ntmps38
    go_wp2_with (first | ((with_reducible refine gate_callee (f := 19) rfl ?_); refine goesL_ (some 5) rfl rfl Try.func19 (by kernel_rfl) rfl #[.slice A0 l0.length c0] rfl (by (try simp only [List.map_toArray, List.map_cons, List.map_nil]); first | done | rfl | (simp only [List.length_drop, List.length_take]; rfl)) ?_; (with_reducible refine (impl_AreNames.calls k _ _ l0 false _ ?side1 ?side2 A2.out).mono ?_); (case side1 => repeat (first | exact HR0.out | (with_reducible refine Kd.C_alloc ?_ _) | (with_reducible refine Kd.C_drewN ?_ _) | (with_reducible refine Kd.C_drew ?_))); (case side2 => exact HC0.out); rintro e w7 ⟨rfl, hb⟩; refine ⟨_, rfl, ?_⟩; have n0_ := Aside0.mk (below_step (by repeat (first | (with_reducible first | exact HB.out | apply below_alloc | apply pw_below_drewN | apply below_drew1) | exact HB.out)) hb); clear HB; have HB := n0_; clear n0_; (try clear hb); (try clear hb2); (try clear hk); (try clear hi)))
    go_ret2
    exact ⟨_, by first | rfl | (simp [errW_none, errW_some] <;> rfl) | (simp [*, errW_none, errW_some] <;> rfl), by first | exact Kd.S_nil _ _ _ _ _ | exact Kd.N_nil _ _ _ _ _ | exact Kd.V_nil _ _ _ _ _ | exact Kd.Q_nil _ _ _ _ _ | exact Kd.R_nil _ _ _ _ _, by repeat (first | (with_reducible first | exact HB.out | apply below_alloc | apply pw_below_drewN | apply below_drew1) | exact HB.out)⟩

/-! ### laws_eqIntSS: function 39 -/
def laws_eqIntSS.l0 : Nat → List (List Int) → List (List Int) → Int → Option (Bool)
  | 0, _, _, _ => none
  | k + 1, x0, x1, x5 => if x5 < (x0.length : Int) then (if 0 ≤ x5 then (if x5 < (x1.length : Int) then ((laws_eqIntS.f k (rd_L2 x0 x5) (rd_L2 x1 x5)).bind fun t470 => (if t470 = true then (laws_eqIntSS.l0 k x0 x1 (wrap64 (x5 + 1))) else (some false))) else (none)) else (none)) else (some true)
def laws_eqIntSS.f (k : Nat) (l0 : List (List Int)) (l1 : List (List Int)) : Option (Bool) := if (l0.length : Int) = (l1.length : Int) then (laws_eqIntSS.l0 k l0 l1 0) else (some false)
theorem laws_eqIntSS.mono_l : ∀ k, (∀ y0 y1 y2, LeO (laws_eqIntSS.l0 k y0 y1 y2) (laws_eqIntSS.l0 (k + 1) y0 y1 y2))
  | 0 => fun _ _ _ r h => by simp [laws_eqIntSS.l0] at h
  | k + 1 => by
    have ih0 := laws_eqIntSS.mono_l k
    · intro y0 y1 y2
      unfold laws_eqIntSS.l0
      repeat' first
      | (with_reducible exact ih0 _ _ _)
      | (with_reducible exact laws_eqIntS.mono _ _ _)
      | (with_reducible exact LeO.refl _)
      | (with_reducible exact LeO.none _)
      | (with_reducible refine LeO.ite ?_ ?_)
      | (with_reducible refine LeO.bind ?_ (fun _ => ?_))
      | exact ih0 _ _ _
      | exact laws_eqIntS.mono _ _ _
      | exact LeO.none _
      | refine LeO.ite ?_ ?_
      | refine LeO.bind ?_ (fun _ => ?_)
theorem laws_eqIntSS.mono : ∀ a0 a1 k, LeO (laws_eqIntSS.f k a0 a1) (laws_eqIntSS.f (k + 1) a0 a1) := by
  intro a0 a1 k
  have ih0 := laws_eqIntSS.mono_l k
  unfold laws_eqIntSS.f
  repeat' first
      | (with_reducible exact ih0 _ _ _)
      | (with_reducible exact laws_eqIntS.mono _ _ _)
      | (with_reducible exact LeO.refl _)
      | (with_reducible exact LeO.none _)
      | (with_reducible refine LeO.ite ?_ ?_)
      | (with_reducible refine LeO.bind ?_ (fun _ => ?_))
      | exact ih0 _ _ _
      | exact laws_eqIntS.mono _ _ _
      | exact LeO.none _
      | refine LeO.ite ?_ ?_
      | refine LeO.bind ?_ (fun _ => ?_)
set_option maxHeartbeats 8000000 in
set_option maxRecDepth 100000 in
theorem laws_eqIntSS.calls (k : Nat) (A0 : Option Addr) (c0 : Nat) (l0 : List (List Int)) (A1 : Option Addr) (c1 : Nat) (l1 : List (List Int)) (r : Bool) (w : World) (hr0 : Kd.C (Kd.slice 3 (Kd.int .i64)) w A0 l0.length l0) (hc0 : l0.length ≤ c0) (hr1 : Kd.C (Kd.slice 3 (Kd.int .i64)) w A1 l1.length l1) (hc1 : l1.length ≤ c1) (h : laws_eqIntSS.f k l0 l1 = some r) :
    Calls Try.prog 39 #[.slice A0 l0.length c0, .slice A1 l1.length c1] w fun e w' => e = .returned (.bool r) ∧ Drawn0 w w' := by
  have HR0 := Aside0.mk hr0
  have HC0 := Aside0.mk hc0
  clear hr0 hc0
  have HR1 := Aside0.mk hr1
  have HC1 := Aside0.mk hc1
  clear hr1 hc1
  have H : (if (l0.length : Int) = (l1.length : Int) then (laws_eqIntSS.l0 k l0 l1 0) else (some false)) = some r := h
  clear h
  by_cases c3 : (l0.length : Int) = (l1.length : Int)
  · rw [if_pos c3] at H
    have c3b0 : ((l0.length : Int) == (l1.length : Int)) = true := beq_iff_eq.mpr c3
    have c3b1 : ((l0.length : Int) != (l1.length : Int)) = false := bne_eq_false_iff_eq.mpr c3
    have c3b2 : (l0.length == l1.length) = true := by first | simpa using c3 | (simp at c3 ⊢; omega)
    clear c3
    have H' := Aside0.mk H
    clear H
    go_enter Try.func39, Try.ntmps39
    go_wp2
    repeat (go_quiet (fail); try go_wp2)
    go_loopg [5] k (fun kq v5 w' => ∃ (x5_1 : Int), v5 = .int .i64 x5_1 ∧ Aside0 (laws_eqIntSS.l0 kq l0 l1 x5_1 = some r) ∧ Aside0 (kq ≤ k) ∧ Drawn0 w w')
    case atStart => exact ⟨(0), (by first | rfl | (simp; done) | (simp [*]; done)), H', ⟨Nat.le_refl _⟩, by repeat (first | exact Drawn0.refl _ | apply Drawn0.step)⟩
    case round =>
      clear H'
      try clear c1
      try clear p2
      try clear c3
      try clear c3b0
      try clear c3b1
      try clear c3b2
      obtain ⟨x5_1, rfl, HA, HK1, ⟨m1, rfl⟩⟩ := hrel
      cases gk with
      | zero => exact absurd HA.out (by simp [laws_eqIntSS.l0])
      | succ k1 =>
        have H := HA.out
        clear HA
        simp only [laws_eqIntSS.l0] at H
        by_cases c4 : x5_1 < (l0.length : Int)
        · rw [if_pos c4] at H
          have c4b0 : decide (x5_1 < (l0.length : Int)) = true := decide_eq_true c4
          clear c4
          by_cases c5 : 0 ≤ x5_1
          · rw [if_pos c5] at H
            have c5b0 : decide (0 ≤ x5_1) = true := decide_eq_true c5
            clear c5
            by_cases c6 : x5_1 < (l1.length : Int)
            · rw [if_pos c6] at H
              have c6b0 : decide (x5_1 < (l1.length : Int)) = true := decide_eq_true c6
              clear c6
              replace H := Option.bind_eq_some_iff.mp H
              obtain ⟨t470, A70, H⟩ := H
              replace H : (if t470 = true then (laws_eqIntSS.l0 k1 l0 l1 (wrap64 (x5_1 + 1))) else (some false)) = some r := H
              have A7 := Aside0.mk A70
              clear A70
              by_cases c8 : t470 = true
              · subst c8
                have H1 : (laws_eqIntSS.l0 k1 l0 l1 (wrap64 (x5_1 + 1))) = some r := by rw [if_pos rfl] at H; exact H
                clear H
                have H := H1
                clear H1
                have H' := Aside0.mk H
                clear H
                have p468 : 0 ≤ (x5_1 : Int) := of_decide_eq_true (by first | (with_reducible assumption) | assumption)
                have q468 : x5_1 < (l0.length : Int) := of_decide_eq_true (by first | (with_reducible assumption) | assumption)
                obtain ⟨ad468, A468_0, c468_0, e468, hx468_0, hl468_0, hi468_0⟩ := at_L2 HR0.out x5_1 p468 q468
                cases e468
                have HR468_0 := Aside0.mk hi468_0
                have HC468_0 := Aside0.mk hl468_0
                clear hi468_0 hl468_0
                replace p468 := eq_true p468
                replace q468 := eq_true q468
                have p469 : 0 ≤ (x5_1 : Int) := of_decide_eq_true (by first | (with_reducible assumption) | assumption)
                have q469 : x5_1 < (l1.length : Int) := of_decide_eq_true (by first | (with_reducible assumption) | assumption)
                obtain ⟨ad469, A469_0, c469_0, e469, hx469_0, hl469_0, hi469_0⟩ := at_L2 HR1.out x5_1 p469 q469
                cases e469
                have HR469_0 := Aside0.mk hi469_0
                have HC469_0 := Aside0.mk hl469_0
                clear hi469_0 hl469_0
                replace p469 := eq_true p469
                replace q469 := eq_true q469
                go_wp2_with (first | (go_at_call 20; (with_reducible refine (laws_eqIntS.calls k1 _ _ (rd_L2 l0 x5_1) _ _ (rd_L2 l1 x5_1) true _ ?side1 ?side2 ?side3 ?side4 A7.out).mono ?_); (case side1 => repeat (first | exact HR468_0.out | (with_reducible refine Kd.C_alloc ?_ _) | (with_reducible refine Kd.C_drewN ?_ _) | (with_reducible refine Kd.C_drew ?_))); (case side2 => exact HC468_0.out); (case side3 => repeat (first | exact HR469_0.out | (with_reducible refine Kd.C_alloc ?_ _) | (with_reducible refine Kd.C_drewN ?_ _) | (with_reducible refine Kd.C_drew ?_))); (case side4 => exact HC469_0.out); rintro e w' ⟨rfl, ⟨nd, rfl⟩⟩; (try first | exact ⟨rfl, _, World.drewN_drewN _ _ _⟩ | exact ⟨rfl, _, Eq.trans (World.drewN_drewN _ _ _) (congrArg (World.drewN _) (Nat.add_assoc _ _ _))⟩)))
                repeat (go_quiet (first | (go_at_call 20; (with_reducible refine (laws_eqIntS.calls k1 _ _ (rd_L2 l0 x5_1) _ _ (rd_L2 l1 x5_1) true _ ?side1 ?side2 ?side3 ?side4 A7.out).mono ?_); (case side1 => repeat (first | exact HR468_0.out | (with_reducible refine Kd.C_alloc ?_ _) | (with_reducible refine Kd.C_drewN ?_ _) | (with_reducible refine Kd.C_drew ?_))); (case side2 => exact HC468_0.out); (case side3 => repeat (first | exact HR469_0.out | (with_reducible refine Kd.C_alloc ?_ _) | (with_reducible refine Kd.C_drewN ?_ _) | (with_reducible refine Kd.C_drew ?_))); (case side4 => exact HC469_0.out); rintro e w' ⟨rfl, ⟨nd, rfl⟩⟩; (try first | exact ⟨rfl, _, World.drewN_drewN _ _ _⟩ | exact ⟨rfl, _, Eq.trans (World.drewN_drewN _ _ _) (congrArg (World.drewN _) (Nat.add_assoc _ _ _))⟩))); try go_wp2_with (first | (go_at_call 20; (with_reducible refine (laws_eqIntS.calls k1 _ _ (rd_L2 l0 x5_1) _ _ (rd_L2 l1 x5_1) true _ ?side1 ?side2 ?side3 ?side4 A7.out).mono ?_); (case side1 => repeat (first | exact HR468_0.out | (with_reducible refine Kd.C_alloc ?_ _) | (with_reducible refine Kd.C_drewN ?_ _) | (with_reducible refine Kd.C_drew ?_))); (case side2 => exact HC468_0.out); (case side3 => repeat (first | exact HR469_0.out | (with_reducible refine Kd.C_alloc ?_ _) | (with_reducible refine Kd.C_drewN ?_ _) | (with_reducible refine Kd.C_drew ?_))); (case side4 => exact HC469_0.out); rintro e w' ⟨rfl, ⟨nd, rfl⟩⟩; (try first | exact ⟨rfl, _, World.drewN_drewN _ _ _⟩ | exact ⟨rfl, _, Eq.trans (World.drewN_drewN _ _ _) (congrArg (World.drewN _) (Nat.add_assoc _ _ _))⟩))))
                go_roundg k1
                case measure => have := HK1.out; omega
                case rel => exact ⟨(wrap64 (x5_1 + 1)), (by first | rfl | (simp; done) | (simp [*]; done)), H', ⟨by have := HK1.out; omega⟩, by repeat (first | exact Drawn0.refl _ | apply Drawn0.step)⟩
              · replace c8 := Bool.eq_false_iff.mpr c8
                subst c8
                have H1 : (some false) = some r := by rw [if_neg (show ¬ (false = true) by decide)] at H; exact H
                clear H
                have H := H1
                clear H1
                obtain rfl := Option.some.inj H
                have p468 : 0 ≤ (x5_1 : Int) := of_decide_eq_true (by first | (with_reducible assumption) | assumption)
                have q468 : x5_1 < (l0.length : Int) := of_decide_eq_true (by first | (with_reducible assumption) | assumption)
                obtain ⟨ad468, A468_0, c468_0, e468, hx468_0, hl468_0, hi468_0⟩ := at_L2 HR0.out x5_1 p468 q468
                cases e468
                have HR468_0 := Aside0.mk hi468_0
                have HC468_0 := Aside0.mk hl468_0
                clear hi468_0 hl468_0
                replace p468 := eq_true p468
                replace q468 := eq_true q468
                have p469 : 0 ≤ (x5_1 : Int) := of_decide_eq_true (by first | (with_reducible assumption) | assumption)
                have q469 : x5_1 < (l1.length : Int) := of_decide_eq_true (by first | (with_reducible assumption) | assumption)
                obtain ⟨ad469, A469_0, c469_0, e469, hx469_0, hl469_0, hi469_0⟩ := at_L2 HR1.out x5_1 p469 q469
                cases e469
                have HR469_0 := Aside0.mk hi469_0
                have HC469_0 := Aside0.mk hl469_0
                clear hi469_0 hl469_0
                replace p469 := eq_true p469
                replace q469 := eq_true q469
                go_wp2_with (first | (go_at_call 20; (with_reducible refine (laws_eqIntS.calls k1 _ _ (rd_L2 l0 x5_1) _ _ (rd_L2 l1 x5_1) false _ ?side1 ?side2 ?side3 ?side4 A7.out).mono ?_); (case side1 => repeat (first | exact HR468_0.out | (with_reducible refine Kd.C_alloc ?_ _) | (with_reducible refine Kd.C_drewN ?_ _) | (with_reducible refine Kd.C_drew ?_))); (case side2 => exact HC468_0.out); (case side3 => repeat (first | exact HR469_0.out | (with_reducible refine Kd.C_alloc ?_ _) | (with_reducible refine Kd.C_drewN ?_ _) | (with_reducible refine Kd.C_drew ?_))); (case side4 => exact HC469_0.out); rintro e w' ⟨rfl, ⟨nd, rfl⟩⟩; (try first | exact ⟨rfl, _, World.drewN_drewN _ _ _⟩ | exact ⟨rfl, _, Eq.trans (World.drewN_drewN _ _ _) (congrArg (World.drewN _) (Nat.add_assoc _ _ _))⟩)))
                repeat (go_quiet (first | (go_at_call 20; (with_reducible refine (laws_eqIntS.calls k1 _ _ (rd_L2 l0 x5_1) _ _ (rd_L2 l1 x5_1) false _ ?side1 ?side2 ?side3 ?side4 A7.out).mono ?_); (case side1 => repeat (first | exact HR468_0.out | (with_reducible refine Kd.C_alloc ?_ _) | (with_reducible refine Kd.C_drewN ?_ _) | (with_reducible refine Kd.C_drew ?_))); (case side2 => exact HC468_0.out); (case side3 => repeat (first | exact HR469_0.out | (with_reducible refine Kd.C_alloc ?_ _) | (with_reducible refine Kd.C_drewN ?_ _) | (with_reducible refine Kd.C_drew ?_))); (case side4 => exact HC469_0.out); rintro e w' ⟨rfl, ⟨nd, rfl⟩⟩; (try first | exact ⟨rfl, _, World.drewN_drewN _ _ _⟩ | exact ⟨rfl, _, Eq.trans (World.drewN_drewN _ _ _) (congrArg (World.drewN _) (Nat.add_assoc _ _ _))⟩))); try go_wp2_with (first | (go_at_call 20; (with_reducible refine (laws_eqIntS.calls k1 _ _ (rd_L2 l0 x5_1) _ _ (rd_L2 l1 x5_1) false _ ?side1 ?side2 ?side3 ?side4 A7.out).mono ?_); (case side1 => repeat (first | exact HR468_0.out | (with_reducible refine Kd.C_alloc ?_ _) | (with_reducible refine Kd.C_drewN ?_ _) | (with_reducible refine Kd.C_drew ?_))); (case side2 => exact HC468_0.out); (case side3 => repeat (first | exact HR469_0.out | (with_reducible refine Kd.C_alloc ?_ _) | (with_reducible refine Kd.C_drewN ?_ _) | (with_reducible refine Kd.C_drew ?_))); (case side4 => exact HC469_0.out); rintro e w' ⟨rfl, ⟨nd, rfl⟩⟩; (try first | exact ⟨rfl, _, World.drewN_drewN _ _ _⟩ | exact ⟨rfl, _, Eq.trans (World.drewN_drewN _ _ _) (congrArg (World.drewN _) (Nat.add_assoc _ _ _))⟩))))
                go_ret
                exact ⟨by first | rfl | (simp; done) | (simp [*]; done), by repeat (first | exact Drawn0.refl _ | apply Drawn0.step)⟩
            · rw [if_neg c6] at H
              exact absurd H (by simp)
          · rw [if_neg c5] at H
            exact absurd H (by simp)
        · rw [if_neg c4] at H
          have c4b0 : decide (x5_1 < (l0.length : Int)) = false := decide_eq_false c4
          clear c4
          obtain rfl := Option.some.inj H
          go_wp2
          repeat (go_quiet (fail); try go_wp2)
          go_ret
          exact ⟨by first | rfl | (simp; done) | (simp [*]; done), by repeat (first | exact Drawn0.refl _ | apply Drawn0.step)⟩
  · rw [if_neg c3] at H
    have c3b0 : ((l0.length : Int) == (l1.length : Int)) = false := beq_eq_false_iff_ne.mpr c3
    have c3b1 : ((l0.length : Int) != (l1.length : Int)) = true := bne_iff_ne.mpr c3
    have c3b2 : (l0.length == l1.length) = false := by first | simpa using c3 | (simp at c3 ⊢; omega)
    obtain rfl := Option.some.inj H
    go_enter Try.func39, Try.ntmps39
    go_wp2
    repeat (go_quiet (fail); try go_wp2)
    go_ret
    exact ⟨by first | rfl | (simp; done) | (simp [*]; done), by repeat (first | exact Drawn0.refl _ | apply Drawn0.step)⟩

end Go.Proofs.Ytbiiklkkfkipeaa.X

/- Plain lemmas: what a function with rounds comes to. -/
namespace Go.Proofs.Ytbiiklkkfkipeaa.X
set_option linter.unusedSimpArgs false
set_option linter.unusedVariables false
open Go.RowKit Go.Proofs.YtbiiklkkfkipeaaW.PrintWords
theorem w64 {x : Int} (h1 : -9223372036854775808 ≤ x) (h2 : x ≤ 9223372036854775807) : wrap64 x = x := by unfold wrap64; omega
theorem evPos {α : Type} {c : Prop} [Decidable c] {A B : Nat → Option α} {r : α} (h : c) (hA : Ev A r) : Ev (fun k => if c then A k else B k) r := by
  simpa only [if_pos h] using hA
theorem evNeg {α : Type} {c : Prop} [Decidable c] {A B : Nat → Option α} {r : α} (h : ¬ c) (hB : Ev B r) : Ev (fun k => if c then A k else B k) r := by
  simpa only [if_neg h] using hB
/-- One round: the next state's answer is this state's. -/
theorem evNext {α : Type} {g f : Nat → Option α} {r : α} (h : ∀ k, g (k + 1) = f k) (k : Ev f r) : Ev g r := Ev.step h k
theorem evEnd {α : Type} {g : Nat → Option α} {r : α} (h : ∀ k, g (k + 1) = some r) : Ev g r := Ev.step (f := fun _ => some r) h (Ev.now r)
/-- A round that calls: from some number of rounds on. -/
theorem evCall {α β : Type} {g f : Nat → Option α} {c : Nat → Option β} {v : β} {r : α} (hc : Ev c v) (h : ∀ k, c k = some v → g (k + 1) = f k) (k : Ev f r) : Ev g r := by
  obtain ⟨K, k⟩ := k
  obtain ⟨K', hc⟩ := hc
  refine ⟨K + K' + 1, fun n hn => ?_⟩
  obtain ⟨m, rfl⟩ : ∃ m, n = m + 1 := ⟨n - 1, by omega⟩
  rw [h m (hc m (by omega))]
  exact k m (by omega)
theorem evCallEnd {α β : Type} {g : Nat → Option α} {c : Nat → Option β} {v : β} {r : α} (hc : Ev c v) (h : ∀ k, c k = some v → g (k + 1) = some r) : Ev g r :=
  evCall hc h (Ev.now r)
/-- A counter that goes up: an invariant, and each round hands the answer on. -/
theorem evUp {σ ρ : Type} (n : Nat) (L : Nat → σ → Nat → Option ρ) (I : Nat → σ → Prop) (r : ρ)
    (hs : ∀ i s, i < n → I i s → (∃ s', I (i + 1) s' ∧ (Ev (fun k => L k s' (i + 1)) r → Ev (fun k => L k s i) r)) ∨ Ev (fun k => L k s i) r)
    (he : ∀ s, I n s → Ev (fun k => L k s n) r) : ∀ i s, i ≤ n → I i s → Ev (fun k => L k s i) r := by
  have key : ∀ d i s, i + d = n → I i s → Ev (fun k => L k s i) r := by
    intro d
    induction d with
    | zero =>
      intro i s hd hI
      obtain rfl : i = n := by omega
      exact he s hI
    | succ d ih =>
      intro i s hd hI
      rcases hs i s (by omega) hI with ⟨s', hI', hk⟩ | h
      · exact hk (ih (i + 1) s' (by omega) hI')
      · exact h
  intro i s hi hI
  exact key (n - i) i s (by omega) hI
/-- The same from zero on. -/
theorem evUp0 {σ ρ : Type} (n : Nat) (L : Nat → σ → Nat → Option ρ) (I : Nat → σ → Prop) (r : ρ) (s : σ) (h0 : I 0 s)
    (hs : ∀ i s, i < n → I i s → (∃ s', I (i + 1) s' ∧ (Ev (fun k => L k s' (i + 1)) r → Ev (fun k => L k s i) r)) ∨ Ev (fun k => L k s i) r)
    (he : ∀ s, I n s → Ev (fun k => L k s n) r) : Ev (fun k => L k s 0) r := evUp n L I r hs he 0 s (Nat.zero_le _) h0
theorem evEq {α : Type} {g : Nat → Option α} {r r' : α} (h : Ev g r) (e : r = r') : Ev g r' := e ▸ h
theorem rd_at (l : List Int) (i : Nat) (h : i < l.length) : rd l (i : Int) = l[i] := by
  simp [rd, List.getD_eq_getElem?_getD, List.getElem?_eq_getElem h]
theorem rd_set_cast (l : List Int) (i : Nat) (v : Int) : l.set ((i : Int)).toNat v = l.set i v := by simp
end Go.Proofs.Ytbiiklkkfkipeaa.X

/- Plain lemmas: the laws' own helpers over slices of whole numbers. -/
namespace Go.Proofs.Ytbiiklkkfkipeaa.X
set_option linter.unusedSimpArgs false
set_option linter.unusedVariables false
open Go.RowKit Go.Proofs.YtbiiklkkfkipeaaW.PrintWords
theorem toIntS_loop (l : List Int) (hn : l.length ≤ 35184372088832) : ∀ i s, i ≤ l.length → s = l.take i ++ List.replicate (l.length - i) 0 → Ev (fun k => laws_toIntS.l0 k l s (i : Int)) l := by
  refine evUp l.length (fun k s (i : Nat) => laws_toIntS.l0 k l s (i : Int)) (fun i s => s = l.take i ++ List.replicate (l.length - i) 0) l ?_ ?_
  · intro i s hi hI
    have hsl : s.length = l.length := by rw [hI]; simp; omega
    refine .inl ⟨l.take (i + 1) ++ List.replicate (l.length - (i + 1)) 0, rfl, fun h => evNext (fun k => ?_) h⟩
    show laws_toIntS.l0 (k + 1) l s (i : Int) = laws_toIntS.l0 k l _ (i + 1 : Nat)
    simp only [laws_toIntS.l0]
    rw [if_pos (by omega), if_pos (by omega), if_pos (by omega), w64 (by omega) (by omega), rd_at l i hi]
    congr 1
    subst hI
    rw [Int.toNat_natCast]
    apply List.ext_getElem
    · simp; omega
    · intro j h1 h2
      rw [List.getElem_set]
      by_cases e : i = j
      · subst e
        rw [if_pos rfl, List.getElem_append_left (by simp; omega)]
        simp
      · rw [if_neg e]
        by_cases hj : j < i
        · rw [List.getElem_append_left (by simp; omega), List.getElem_append_left (by simp; omega)]
          simp
        · rw [List.getElem_append_right (by simp; omega), List.getElem_append_right (by simp; omega)]
          simp
  · intro s hI
    refine evEnd fun k => ?_
    show laws_toIntS.l0 (k + 1) l s (l.length : Int) = some l
    simp only [laws_toIntS.l0]
    rw [if_neg (by omega), hI]
    simp
theorem toIntS_ev (l : List Int) (hn : l.length ≤ 35184372088832) : Ev (fun k => laws_toIntS.f k l) l := by
  refine Ev.congr (f := fun k => laws_toIntS.l0 k l (List.replicate l.length 0) ((0 : Nat) : Int)) (fun k => ?_) (toIntS_loop l hn 0 _ (by omega) (by simp))
  unfold laws_toIntS.f
  rw [if_pos (by omega), if_pos (by simpa using hn), Int.toNat_natCast]
  rfl
theorem eqIntS_loop (a b : List Int) (hl : a.length = b.length) (ha : a.length ≤ 9223372036854775806) : Ev (fun k => laws_eqIntS.l0 k a b ((0 : Nat) : Int)) (decide (a = b)) := by
  refine evUp0 a.length (fun k (_ : Unit) (i : Nat) => laws_eqIntS.l0 k a b (i : Int)) (fun i _ => a.take i = b.take i) _ () (by simp) ?_ ?_
  · intro i s hi hI
    by_cases e : a[i] = b[i]'(by omega)
    · refine .inl ⟨(), ?_, fun h => evNext (fun k => ?_) h⟩
      · rw [List.take_succ_eq_append_getElem hi, List.take_succ_eq_append_getElem (by omega), hI, e]
      · show laws_eqIntS.l0 (k + 1) a b (i : Int) = laws_eqIntS.l0 k a b (i + 1 : Nat)
        simp only [laws_eqIntS.l0]
        rw [if_pos (by omega), if_pos (by omega), if_pos (by omega), rd_at a i hi, rd_at b i (by omega), if_pos e, w64 (by omega) (by omega)]
        rfl
    · refine .inr (evEnd fun k => ?_)
      show laws_eqIntS.l0 (k + 1) a b (i : Int) = _
      simp only [laws_eqIntS.l0]
      rw [if_pos (by omega), if_pos (by omega), if_pos (by omega), rd_at a i hi, rd_at b i (by omega), if_neg e, decide_eq_false]
      intro h
      subst h
      exact e rfl
  · intro s hI
    refine evEnd fun k => ?_
    show laws_eqIntS.l0 (k + 1) a b (a.length : Int) = _
    simp only [laws_eqIntS.l0]
    rw [if_neg (by omega), decide_eq_true]
    rw [List.take_length, hl, List.take_length] at hI
    exact hI
theorem eqIntS_ev (a b : List Int) (ha : a.length ≤ 9223372036854775806) : Ev (fun k => laws_eqIntS.f k a b) (decide (a = b)) := by
  by_cases hl : a.length = b.length
  · refine Ev.congr (f := fun k => laws_eqIntS.l0 k a b ((0 : Nat) : Int)) (fun k => ?_) (eqIntS_loop a b hl ha)
    unfold laws_eqIntS.f
    rw [if_pos (by omega)]
    rfl
  · refine Ev.congr (f := fun _ => some (decide (a = b))) (fun k => ?_) (Ev.now _)
    unfold laws_eqIntS.f
    rw [if_neg (by omega), decide_eq_false]
    intro h
    exact hl (by rw [h])
end Go.Proofs.Ytbiiklkkfkipeaa.X

/- Plain lemmas: the rounds of an election: who survives. -/
namespace Go.Proofs.Ytbiiklkkfkipeaa.X
set_option linter.unusedSimpArgs false
set_option linter.unusedVariables false
open Go.RowKit Go.Proofs.YtbiiklkkfkipeaaW.PrintWords
def prevI (n i : Nat) : Nat := if i = 0 then n - 1 else i - 1
def sNear (a : List Int) (i : Nat) : Int := rd a ((prevI a.length i : Nat) : Int)
def sFar (a : List Int) (i : Nat) : Int := rd a ((prevI a.length (prevI a.length i) : Nat) : Int)
def surv (a : List Int) (i : Nat) : Bool := decide (sFar a i < sNear a i) && decide (rd a (i : Int) < sNear a i)
def sIdx (a : List Int) (n : Nat) : List Nat := (List.range n).filter (surv a)
def nextS (l a : List Int) (n : Nat) : List Int := (sIdx a n).map (fun (i : Nat) => rd l (i : Int))
def nextN (a : List Int) (n : Nat) : List Int := (sIdx a n).map (sNear a)
def Dist (a : List Int) : Prop := ∀ i j : Nat, i < a.length → j < a.length → i ≠ j → rd a (i : Int) ≠ rd a (j : Int)
theorem prevI_lt {n i : Nat} (hi : i < n) : prevI n i < n := by unfold prevI; split <;> omega
theorem sIdx_succ (a : List Int) (n : Nat) : sIdx a (n + 1) = if surv a n = true then sIdx a n ++ [n] else sIdx a n := by
  unfold sIdx
  rw [List.range_succ, List.filter_append]
  cases h : surv a n <;> simp [List.filter_cons, h]
theorem nextS_succ (l a : List Int) (n : Nat) : nextS l a (n + 1) = if surv a n = true then nextS l a n ++ [rd l (n : Int)] else nextS l a n := by
  unfold nextS
  rw [sIdx_succ]
  split <;> simp
theorem nextN_succ (a : List Int) (n : Nat) : nextN a (n + 1) = if surv a n = true then nextN a n ++ [sNear a n] else nextN a n := by
  unfold nextN
  rw [sIdx_succ]
  split <;> simp
theorem sIdx_le (a : List Int) (n : Nat) : (sIdx a n).length ≤ n := by
  have := List.length_filter_le (surv a) (List.range n)
  rw [List.length_range] at this
  exact this
theorem nextS_len (l a : List Int) (n : Nat) : (nextS l a n).length = (sIdx a n).length := by simp [nextS]
theorem nextN_len (a : List Int) (n : Nat) : (nextN a n).length = (sIdx a n).length := by simp [nextN]
theorem sIdx_mem (a : List Int) (n q : Nat) (h : q < (sIdx a n).length) : (sIdx a n)[q] < n ∧ surv a (sIdx a n)[q] = true := by
  have : (sIdx a n)[q] ∈ sIdx a n := List.getElem_mem h
  unfold sIdx at this
  rw [List.mem_filter, List.mem_range] at this
  exact this
theorem sIdx_inc (a : List Int) (n p q : Nat) (hp : p < (sIdx a n).length) (hq : q < (sIdx a n).length) (h : p < q) : (sIdx a n)[p] < (sIdx a n)[q] := by
  have h1 : (sIdx a n).Pairwise (· < ·) := List.Pairwise.filter _ List.pairwise_lt_range
  exact (List.pairwise_iff_getElem.1 h1) p q hp hq h
theorem rd_nextS (l a : List Int) (n q : Nat) (h : q < (sIdx a n).length) : rd (nextS l a n) (q : Int) = rd l ((sIdx a n)[q] : Int) := by
  rw [rd_at _ q (by rw [nextS_len]; exact h)]
  simp [nextS]
theorem rd_nextN (a : List Int) (n q : Nat) (h : q < (sIdx a n).length) : rd (nextN a n) (q : Int) = sNear a (sIdx a n)[q] := by
  rw [rd_at _ q (by rw [nextN_len]; exact h)]
  simp [nextN]
theorem prevI_inj {n i j : Nat} (hi : i < n) (hj : j < n) (h : i ≠ j) : prevI n i ≠ prevI n j := by
  unfold prevI
  split <;> split <;> omega
theorem dist_nextN {a : List Int} (h : Dist a) : Dist (nextN a a.length) := by
  intro i j hi hj hij
  rw [nextN_len] at hi hj
  have m1 := sIdx_mem a a.length i hi
  have m2 := sIdx_mem a a.length j hj
  rw [rd_nextN a _ i hi, rd_nextN a _ j hj]
  unfold sNear
  refine h _ _ (prevI_lt m1.1) (prevI_lt m2.1) (prevI_inj m1.1 m2.1 ?_)
  rcases Nat.lt_or_gt_of_ne hij with hlt | hgt
  · have := sIdx_inc a a.length i j hi hj hlt
    omega
  · have := sIdx_inc a a.length j i hj hi hgt
    omega
theorem dist_nextS {l a : List Int} (hl : Dist l) (hla : a.length ≤ l.length) : Dist (nextS l a a.length) := by
  intro i j hi hj hij
  rw [nextS_len] at hi hj
  have m1 := sIdx_mem a a.length i hi
  have m2 := sIdx_mem a a.length j hj
  rw [rd_nextS l a _ i hi, rd_nextS l a _ j hj]
  refine hl _ _ (by omega) (by omega) ?_
  rcases Nat.lt_or_gt_of_ne hij with hlt | hgt
  · have := sIdx_inc a a.length i j hi hj hlt
    omega
  · have := sIdx_inc a a.length j i hj hi hgt
    omega
theorem exists_max (f : Nat → Int) : ∀ n : Nat, 0 < n → ∃ m, m < n ∧ ∀ j, j < n → f j ≤ f m := by
  intro n
  induction n with
  | zero => intro h; omega
  | succ n ih =>
    intro _
    by_cases h0 : n = 0
    · subst h0
      exact ⟨0, by omega, fun j hj => by obtain rfl : j = 0 := by omega
                                         exact Int.le_refl _⟩
    · obtain ⟨m, hm, hx⟩ := ih (by omega)
      by_cases hc : f n ≤ f m
      · exact ⟨m, by omega, fun j hj => by
          by_cases e : j = n
          · rw [e]; exact hc
          · exact hx j (by omega)⟩
      · exact ⟨n, by omega, fun j hj => by
          by_cases e : j = n
          · rw [e]; exact Int.le_refl _
          · have := hx j (by omega)
            omega⟩
theorem filter_lt {α : Type} (p : α → Bool) (l : List α) (x : α) (hx : x ∈ l) (hp : p x = false) : (l.filter p).length + 1 ≤ l.length := by
  induction l with
  | nil => cases hx
  | cons y ys ih =>
    have hle := List.length_filter_le p ys
    rcases List.mem_cons.1 hx with rfl | hx
    · simp only [List.filter_cons, hp, List.length_cons]
      simp only [Bool.false_eq_true, if_false]
      omega
    · have := ih hx
      simp only [List.filter_cons, List.length_cons]
      split
      · simp only [List.length_cons]; omega
      · omega
/-- Somebody survives, and somebody doesn't. -/
theorem surv_some {a : List Int} (h : Dist a) (h2 : 2 ≤ a.length) : 0 < (sIdx a a.length).length ∧ (sIdx a a.length).length + 1 ≤ a.length := by
  obtain ⟨m, hm, hx⟩ := exists_max (fun j => rd a (j : Int)) a.length (by omega)
  have hlt : ∀ j, j < a.length → j ≠ m → rd a (j : Int) < rd a (m : Int) := by
    intro j hj hjm
    have := hx j hj
    have := h j m hj hm hjm
    omega
  constructor
  · obtain ⟨i, hi, hpi⟩ : ∃ i, i < a.length ∧ prevI a.length i = m := by
      by_cases hc : m + 1 < a.length
      · exact ⟨m + 1, hc, by unfold prevI; rw [if_neg (by omega)]; omega⟩
      · exact ⟨0, by omega, by unfold prevI; rw [if_pos rfl]; omega⟩
    have hne : i ≠ m := by
      intro e
      subst e
      unfold prevI at hpi
      split at hpi <;> omega
    have hff : prevI a.length m ≠ m := by
      unfold prevI
      split <;> omega
    have hs : surv a i = true := by
      unfold surv sNear sFar
      rw [hpi]
      have e1 := hlt _ (prevI_lt hm) hff
      have e2 := hlt i hi hne
      simp [e1, e2]
    have : i ∈ sIdx a a.length := by
      unfold sIdx
      rw [List.mem_filter, List.mem_range]
      exact ⟨hi, hs⟩
    exact List.length_pos_of_mem this
  · have hs : surv a m = false := by
      unfold surv
      have : ¬ rd a (m : Int) < sNear a m := by
        unfold sNear
        have := hx _ (prevI_lt (n := a.length) hm)
        omega
      simp [this]
    have := filter_lt (surv a) (List.range a.length) m (List.mem_range.2 hm) hs
    rw [List.length_range] at this
    exact this
/-- What comes behind a list: the lists of the rounds. -/
def tailF : Nat → List Int → List Int → List (List Int)
  | 0, _, _ => []
  | f + 1, l, a => if l.length ≤ 1 then [] else nextS l a a.length :: tailF f (nextS l a a.length) (nextN a a.length)
theorem tailF_each : ∀ (f : Nat) (l a : List Int), l.length = a.length → ∀ r ∈ tailF f l a, r.length ≤ l.length := by
  intro f
  induction f with
  | zero => intro l a _ r hr; cases hr
  | succ f ih =>
    intro l a hl r hr
    simp only [tailF] at hr
    split at hr
    · cases hr
    · have h1 := sIdx_le a a.length
      rcases List.mem_cons.1 hr with rfl | hr
      · rw [nextS_len]; omega
      · have := ih _ _ (by rw [nextS_len, nextN_len]) r hr
        rw [nextS_len] at this
        omega
theorem tailF_len : ∀ (f : Nat) (l a : List Int), (tailF f l a).length ≤ f := by
  intro f
  induction f with
  | zero => intro l a; simp [tailF]
  | succ f ih =>
    intro l a
    simp only [tailF]
    split
    · simp
    · have := ih (nextS l a a.length) (nextN a a.length)
      simp only [List.length_cons]
      omega
theorem mod1 {i n : Nat} (hi : i < n) : Int.tmod ((i : Int) + (n : Int) - 1) (n : Int) = ((prevI n i : Nat) : Int) := by
  rw [Int.tmod_eq_emod_of_nonneg (by omega)]
  unfold prevI
  by_cases h : i = 0
  · rw [if_pos h, Int.emod_eq_of_lt (by omega) (by omega)]
    omega
  · rw [if_neg h, show (i : Int) + n - 1 = ((i : Int) - 1) + n from by omega, Int.add_emod_right, Int.emod_eq_of_lt (by omega) (by omega)]
    omega
theorem mod2 {i n : Nat} (hi : i < n) (h2 : 2 ≤ n) : Int.tmod ((i : Int) + (n : Int) - 2) (n : Int) = ((prevI n (prevI n i) : Nat) : Int) := by
  rw [Int.tmod_eq_emod_of_nonneg (by omega)]
  unfold prevI
  by_cases h : i = 0
  · rw [if_pos h, if_neg (by omega), Int.emod_eq_of_lt (by omega) (by omega)]
    omega
  · rw [if_neg h]
    by_cases h1 : i = 1
    · rw [if_pos (by omega), Int.emod_eq_of_lt (by omega) (by omega)]
      omega
    · rw [if_neg (by omega), show (i : Int) + n - 2 = ((i : Int) - 2) + n from by omega, Int.add_emod_right, Int.emod_eq_of_lt (by omega) (by omega)]
      omega
theorem mod3 {i n : Nat} (hi : i < n) (h2 : 2 ≤ n) : Int.tmod ((i : Int) + 2 * (n : Int) - 2) (n : Int) = ((prevI n (prevI n i) : Nat) : Int) := by
  rw [← mod2 hi h2, Int.tmod_eq_emod_of_nonneg (by omega), Int.tmod_eq_emod_of_nonneg (by omega), show (i : Int) + 2 * (n : Int) - 2 = ((i : Int) + n - 2) + n from by omega, Int.add_emod_right]
end Go.Proofs.Ytbiiklkkfkipeaa.X

/- The survivors: the program and the reference come to the same lists. -/
namespace Go.Proofs.Ytbiiklkkfkipeaa.X
set_option linter.unusedSimpArgs false
set_option linter.unusedVariables false
open Go.RowKit Go.Proofs.YtbiiklkkfkipeaaW.PrintWords
theorem ownS_eq (l : List Int) (hl : l.length ≤ 100000) : spec_l1Own.f l = some l := by
  unfold spec_l1Own.f
  simp only [Option.bind_some, List.length_nil, List.nil_append]
  rw [if_pos (by omega)]
theorem cloneS_eq (l : List Int) (hl : l.length ≤ 100000) : slices_Clone_int_int.f l = some l := by
  unfold slices_Clone_int_int.f
  rw [if_pos (by omega)]
theorem spec_l3 (l a : List Int) (out : List (List Int)) (r : List (List Int)) (hl : l.length = 2) (ha : a.length = 2) (ho : out.length ≤ 1000)
    (h : Ev (fun k => spec_elSurvivors.l1 k (nextS l a a.length) (nextN a a.length) (out ++ [nextS l a a.length])) r) : Ev (fun k => spec_elSurvivors.l3 k a out [] [] l (l.length : Int) 0) r := by
  rw [ha] at h
  have key := evUp0 2 (fun k (s : List Int × List Int) (i : Nat) => spec_elSurvivors.l3 k a out s.1 s.2 l (l.length : Int) (i : Int)) (fun i s => s = (nextS l a i, nextN a i)) r ([], []) rfl
    (by
      intro i s hi hI
      obtain ⟨s1, s2⟩ := s
      injection hI with h1 h2
      have hs1 := sIdx_le a i
      have e1 : s1.length ≤ 2 := by rw [h1, nextS_len]; omega
      have e2 : s2.length ≤ 2 := by rw [h2, nextN_len]; omega
      refine .inl ⟨(nextS l a (i + 1), nextN a (i + 1)), rfl, fun h => evNext (fun k => ?_) h⟩
      show spec_elSurvivors.l3 (k + 1) a out s1 s2 l (l.length : Int) (i : Int) = spec_elSurvivors.l3 k a out (nextS l a (i + 1)) (nextN a (i + 1)) l (l.length : Int) (i + 1 : Nat)
      have hp : (1 : Int) - (i : Int) = ((prevI a.length i : Nat) : Int) := by
        rw [ha]
        unfold prevI
        split <;> omega
      have hpp : prevI a.length (prevI a.length i) = i := by
        rw [ha]
        unfold prevI
        split <;> split <;> omega
      have hpl := prevI_lt (n := a.length) (i := i) (by omega)
      have hsv : surv a i = decide (rd a (i : Int) < sNear a i) := by
        unfold surv sFar
        rw [hpp]
        simp
      simp only [spec_elSurvivors.l3]
      rw [if_pos (by omega), if_pos (by omega), if_pos (by omega), w64 (by omega) (by omega), hp, if_pos (by omega), if_pos (by omega), if_pos (by omega), w64 (by omega) (by omega), nextS_succ, nextN_succ, hsv]
      by_cases hc : rd a (i : Int) < sNear a i
      · rw [if_pos (show rd a ((prevI a.length i : Nat) : Int) > rd a (i : Int) from hc), if_pos (by omega), if_pos (by omega), decide_eq_true hc, if_pos rfl, if_pos rfl, h1, h2]
        rfl
      · rw [if_neg (show ¬ rd a ((prevI a.length i : Nat) : Int) > rd a (i : Int) from hc), decide_eq_false hc, if_neg (by simp), if_neg (by simp), h1, h2]
        rfl)
    (by
      intro s hI
      obtain ⟨s1, s2⟩ := s
      injection hI with h1 h2
      have hs1 := sIdx_le a 2
      have e1 : s1.length ≤ 2 := by rw [h1, nextS_len]; omega
      refine evNext (fun k => ?_) h
      show spec_elSurvivors.l3 (k + 1) a out s1 s2 l (l.length : Int) ((2 : Nat) : Int) = _
      simp only [spec_elSurvivors.l3]
      rw [if_neg (by omega), cloneS_eq s1 (by omega)]
      simp only [Option.bind_some]
      rw [if_pos (by omega), h1, h2])
  exact key
theorem spec_l2 (l a : List Int) (out : List (List Int)) (r : List (List Int)) (hl : l.length = a.length) (h2 : 2 ≤ a.length) (ha : a.length ≤ 12) (ho : out.length ≤ 1000)
    (h : Ev (fun k => spec_elSurvivors.l1 k (nextS l a a.length) (nextN a a.length) (out ++ [nextS l a a.length])) r) : Ev (fun k => spec_elSurvivors.l2 k l a out (l.length : Int) [] [] l (l.length : Int) 0) r := by
  have key := evUp0 a.length (fun k (s : List Int × List Int) (i : Nat) => spec_elSurvivors.l2 k l a out (l.length : Int) s.1 s.2 l (l.length : Int) (i : Int)) (fun i s => s = (nextS l a i, nextN a i)) r ([], []) rfl
    (by
      intro i s hi hI
      obtain ⟨s1, s2⟩ := s
      injection hI with h1 h2'
      have hs1 := sIdx_le a i
      have e1 : s1.length ≤ 12 := by rw [h1, nextS_len]; omega
      have e2 : s2.length ≤ 12 := by rw [h2', nextN_len]; omega
      refine .inl ⟨(nextS l a (i + 1), nextN a (i + 1)), rfl, fun h => evNext (fun k => ?_) h⟩
      show spec_elSurvivors.l2 (k + 1) l a out (l.length : Int) s1 s2 l (l.length : Int) (i : Int) = spec_elSurvivors.l2 k l a out (l.length : Int) (nextS l a (i + 1)) (nextN a (i + 1)) l (l.length : Int) (i + 1 : Nat)
      have hp1 := prevI_lt (n := a.length) (i := i) (by omega)
      have hp2 := prevI_lt (n := a.length) (i := prevI a.length i) (by omega)
      simp only [spec_elSurvivors.l2]
      rw [hl, w64 (x := (i : Int) + (a.length : Int)) (by omega) (by omega), w64 (x := (i : Int) + (a.length : Int) - 1) (by omega) (by omega), w64 (x := (i : Int) + (a.length : Int) - 2) (by omega) (by omega), mod1 hi, mod2 hi h2, w64 (x := (i : Int) + 1) (by omega) (by omega)]
      rw [if_pos (by omega), if_pos (by omega), if_pos (by omega), if_neg (by omega), if_pos (by omega), if_pos (by omega), if_pos (by omega), if_pos (by omega), nextS_succ, nextN_succ]
      by_cases hf : sFar a i < sNear a i
      · rw [if_pos (show rd a ((prevI a.length i : Nat) : Int) > rd a ((prevI a.length (prevI a.length i) : Nat) : Int) from hf), if_pos (by omega)]
        by_cases hc : rd a (i : Int) < sNear a i
        · have hsv : surv a i = true := by simp [surv, hf, hc]
          rw [if_pos (show rd a ((prevI a.length i : Nat) : Int) > rd a (i : Int) from hc), if_pos (by omega), if_pos (by omega), hsv, if_pos rfl, if_pos rfl, h1, h2']
          rfl
        · have hsv : surv a i = false := by simp [surv, hc]
          rw [if_neg (show ¬ rd a ((prevI a.length i : Nat) : Int) > rd a (i : Int) from hc), hsv, if_neg (by simp), if_neg (by simp), h1, h2']
          rfl
      · have hsv : surv a i = false := by simp [surv, hf]
        rw [if_neg (show ¬ rd a ((prevI a.length i : Nat) : Int) > rd a ((prevI a.length (prevI a.length i) : Nat) : Int) from hf), hsv, if_neg (by simp), if_neg (by simp), h1, h2']
        rfl)
    (by
      intro s hI
      obtain ⟨s1, s2⟩ := s
      injection hI with h1 h2'
      have hs1 := sIdx_le a a.length
      have e1 : s1.length ≤ 12 := by rw [h1, nextS_len]; omega
      by_cases hn : a.length = 2
      · refine evNext (fun k => ?_) (spec_l3 l a out r (by omega) hn ho h)
        show spec_elSurvivors.l2 (k + 1) l a out (l.length : Int) s1 s2 l (l.length : Int) (a.length : Int) = _
        simp only [spec_elSurvivors.l2]
        rw [if_neg (by omega), if_pos (by omega)]
      · refine evNext (fun k => ?_) h
        show spec_elSurvivors.l2 (k + 1) l a out (l.length : Int) s1 s2 l (l.length : Int) (a.length : Int) = _
        simp only [spec_elSurvivors.l2]
        rw [if_neg (by omega), if_neg (by omega), cloneS_eq s1 (by omega)]
        simp only [Option.bind_some]
        rw [if_pos (by omega), h1, h2'])
  exact key
theorem spec_l1_ev : ∀ (f : Nat) (l a : List Int) (out : List (List Int)), l.length ≤ f → l.length = a.length → 1 ≤ a.length → a.length ≤ 12 → Dist a → out.length + f ≤ 900 →
    Ev (fun k => spec_elSurvivors.l1 k l a out) (out ++ tailF f l a) := by
  intro f
  induction f with
  | zero => intro l a out h1 h2 h3; omega
  | succ f ih =>
    intro l a out hf hl h1 h12 hd ho
    by_cases hn : l.length ≤ 1
    · refine evEnd fun k => ?_
      show spec_elSurvivors.l1 (k + 1) l a out = _
      simp only [spec_elSurvivors.l1, tailF]
      rw [if_neg (by omega), if_pos hn, List.append_nil]
    · have hs := surv_some hd (by omega)
      have h := ih (nextS l a a.length) (nextN a a.length) (out ++ [nextS l a a.length]) (by rw [nextS_len]; omega) (by rw [nextS_len, nextN_len]) (by rw [nextN_len]; omega) (by rw [nextN_len]; omega) (dist_nextN hd) (by simp; omega)
      have e : out ++ tailF (f + 1) l a = out ++ [nextS l a a.length] ++ tailF f (nextS l a a.length) (nextN a a.length) := by
        simp only [tailF]
        rw [if_neg hn]
        simp
      rw [e]
      refine evNext (fun k => ?_) (spec_l2 l a out _ hl (by omega) h12 (by omega) h)
      show spec_elSurvivors.l1 (k + 1) l a out = _
      simp only [spec_elSurvivors.l1]
      rw [if_pos (by omega)]
/-- The names that the stations of a list have now. -/
def Holds (l own a : List Int) : Prop := ∀ i : Nat, i < l.length → ∃ s : Nat, rd l (i : Int) = (s : Int) ∧ s < own.length ∧ rd own (s : Int) = rd a (i : Int)
theorem rd_set (l : List Int) (i j : Nat) (v : Int) (hi : i < l.length) : rd (l.set i v) (j : Int) = if j = i then v else rd l (j : Int) := by
  simp only [rd, Int.toNat_natCast, List.getD_eq_getElem?_getD, List.getElem?_set]
  by_cases h : j = i
  · subst h
    simp [hi]
  · rw [if_neg h, if_neg (fun e => h e.symm)]
theorem impl_l2 (l own a : List Int) (out : List (List Int)) (r : List (List Int)) (hl : l.length = a.length) (h2 : 2 ≤ a.length) (ha : a.length ≤ 12) (ho : own.length ≤ 12) (hdl : Dist l) (hH : Holds l own a)
    (h : ∀ own', own'.length = own.length → Holds (nextS l a a.length) own' (nextN a a.length) → Ev (fun k => impl_survivors.l1 k (nextS l a a.length) own' out) r) : Ev (fun k => impl_survivors.l2 k l own out (l.length : Int) [] own l (l.length : Int) 0) r := by
  have key := evUp0 a.length (fun k (s : List Int × List Int) (i : Nat) => impl_survivors.l2 k l own out (l.length : Int) s.1 s.2 l (l.length : Int) (i : Int)) (fun i s => s.1 = nextS l a i ∧ s.2.length = own.length ∧ ∀ j : Nat, j < i → surv a j = true → rd s.2 (rd l (j : Int)) = sNear a j) r ([], own) ⟨rfl, rfl, fun j hj => by omega⟩
    (by
      intro i s hi hI
      obtain ⟨s1, s2⟩ := s
      obtain ⟨h1, hsl, hset⟩ := hI
      dsimp only at h1 hsl hset
      have hs1 := sIdx_le a i
      have e1 : s1.length ≤ 12 := by rw [h1, nextS_len]; omega
      have hp1 := prevI_lt (n := a.length) (i := i) (by omega)
      have hp2 := prevI_lt (n := a.length) (i := prevI a.length i) (by omega)
      obtain ⟨c, hc1, hc2, hc3⟩ := hH i (by omega)
      obtain ⟨d, hd1, hd2, hd3⟩ := hH (prevI a.length i) (by omega)
      obtain ⟨q, hq1, hq2, hq3⟩ := hH (prevI a.length (prevI a.length i)) (by omega)
      have eN : rd own (rd l ((prevI a.length i : Nat) : Int)) = sNear a i := by rw [hd1, hd3]; rfl
      have eF : rd own (rd l ((prevI a.length (prevI a.length i) : Nat) : Int)) = sFar a i := by rw [hq1, hq3]; rfl
      have eC : rd own (rd l (i : Int)) = rd a (i : Int) := by rw [hc1, hc3]
      have hw : wrap64 (2 * (a.length : Int)) = 2 * (a.length : Int) := w64 (by omega) (by omega)
      have step : ∀ k, impl_survivors.l2 (k + 1) l own out (l.length : Int) s1 s2 l (l.length : Int) (i : Int) = impl_survivors.l2 k l own out (l.length : Int) (nextS l a (i + 1)) (if surv a i = true then s2.set c (sNear a i) else s2) l (l.length : Int) (i + 1 : Nat) := by
        intro k
        simp only [impl_survivors.l2]
        rw [hl, w64 (x := (i : Int) + (a.length : Int)) (by omega) (by omega), w64 (x := (i : Int) + (a.length : Int) - 1) (by omega) (by omega), hw, w64 (x := (i : Int) + 2 * (a.length : Int)) (by omega) (by omega), w64 (x := (i : Int) + 2 * (a.length : Int) - 2) (by omega) (by omega), mod1 hi, mod3 hi h2, w64 (x := (i : Int) + 1) (by omega) (by omega), eN, eF, eC]
        rw [if_pos (by omega), if_pos (by omega), if_pos (by omega), if_neg (by omega), if_pos (by omega), if_pos (by omega), if_pos (by omega), if_pos (by omega), if_pos (by omega), if_pos (by omega), if_pos (by omega), if_pos (by omega), nextS_succ]
        by_cases hf : sFar a i < sNear a i
        · rw [if_pos (show sNear a i > sFar a i from hf), if_pos (by omega), if_pos (by omega)]
          by_cases hc : rd a (i : Int) < sNear a i
          · have hsv : surv a i = true := by simp [surv, hf, hc]
            rw [if_pos (show sNear a i > rd a (i : Int) from hc), if_pos (by omega), if_pos (by omega), hsv, if_pos rfl, if_pos rfl, h1, hc1, Int.toNat_natCast]
            rfl
          · have hsv : surv a i = false := by simp [surv, hc]
            rw [if_neg (show ¬ sNear a i > rd a (i : Int) from hc), hsv, if_neg (by simp), if_neg (by simp), h1]
            rfl
        · have hsv : surv a i = false := by simp [surv, hf]
          rw [if_neg (show ¬ sNear a i > sFar a i from hf), hsv, if_neg (by simp), if_neg (by simp), h1]
          rfl
      refine .inl ⟨(nextS l a (i + 1), if surv a i = true then s2.set c (sNear a i) else s2), ⟨rfl, ?_, ?_⟩, fun h => evNext step h⟩
      · dsimp only
        split
        · rw [List.length_set]; exact hsl
        · exact hsl
      · dsimp only
        intro j hj hsv
        obtain ⟨b, hb1, hb2, hb3⟩ := hH j (by omega)
        by_cases e : j = i
        · subst e
          rw [if_pos hsv, hc1, rd_set s2 c c _ (by omega), if_pos rfl]
        · have hne : b ≠ c := by
            intro hbc
            have := hdl j i (by omega) (by omega) e
            rw [hb1, hc1, hbc] at this
            exact this rfl
          have hold := hset j (by omega) hsv
          split
          · rw [hb1, rd_set s2 c b _ (by omega), if_neg hne, ← hb1]
            exact hold
          · exact hold)
    (by
      intro s hI
      obtain ⟨s1, s2⟩ := s
      obtain ⟨h1, hsl, hset⟩ := hI
      dsimp only at h1 hsl hset
      refine evNext (fun k => ?_) (h s2 hsl ?_)
      · show impl_survivors.l2 (k + 1) l own out (l.length : Int) s1 s2 l (l.length : Int) (a.length : Int) = _
        simp only [impl_survivors.l2]
        rw [if_neg (by omega), h1]
      · intro q hq
        rw [nextS_len] at hq
        have m := sIdx_mem a a.length q hq
        obtain ⟨b, hb1, hb2, hb3⟩ := hH (sIdx a a.length)[q] (by omega)
        refine ⟨b, by rw [rd_nextS l a _ q hq, hb1], by omega, ?_⟩
        rw [rd_nextN a _ q hq, ← hb1]
        exact hset _ m.1 m.2)
  exact key
theorem impl_l1_ev : ∀ (f : Nat) (l own a : List Int) (out : List (List Int)), l.length ≤ f → l.length = a.length → 1 ≤ a.length → a.length ≤ 12 → own.length ≤ 12 → Dist a → Dist l → Holds l own a → out.length + f ≤ 900 →
    Ev (fun k => impl_survivors.l1 k l own out) (out ++ l :: tailF f l a) := by
  intro f
  induction f with
  | zero => intro l own a out h1 h2 h3; omega
  | succ f ih =>
    intro l own a out hf hl h1 h12 how hd hdl hH ho
    by_cases hn : l.length ≤ 1
    · refine evEnd fun k => ?_
      show impl_survivors.l1 (k + 1) l own out = _
      simp only [impl_survivors.l1, tailF]
      rw [cloneS_eq l (by omega)]
      simp only [Option.bind_some]
      rw [if_pos (by omega), if_pos (by omega), if_pos hn]
    · have hs := surv_some hd (by omega)
      have e : out ++ l :: tailF (f + 1) l a = out ++ [l] ++ nextS l a a.length :: tailF f (nextS l a a.length) (nextN a a.length) := by
        simp only [tailF]
        rw [if_neg hn]
        simp
      rw [e]
      refine evNext (fun k => ?_) (impl_l2 l own a (out ++ [l]) _ hl (by omega) h12 how hdl hH (fun own' hlen hH' => ih (nextS l a a.length) own' (nextN a a.length) (out ++ [l]) (by rw [nextS_len]; omega) (by rw [nextS_len, nextN_len]) (by rw [nextN_len]; omega) (by rw [nextN_len]; omega) (by omega) (dist_nextN hd) (dist_nextS hdl (by omega)) hH' (by simp; omega)))
      show impl_survivors.l1 (k + 1) l own out = _
      simp only [impl_survivors.l1]
      rw [cloneS_eq l (by omega)]
      simp only [Option.bind_some]
      rw [if_pos (by omega), if_neg (by omega), cloneS_eq own (by omega)]
      simp only [Option.bind_some]
/-- All stations. -/
def iota (n : Nat) : List Int := (List.range n).map (fun (j : Nat) => (j : Int))
theorem iota_len (n : Nat) : (iota n).length = n := by simp [iota]
theorem iota_succ (n : Nat) : iota (n + 1) = iota n ++ [(n : Int)] := by simp [iota, List.range_succ]
theorem rd_iota (n i : Nat) (h : i < n) : rd (iota n) (i : Int) = (i : Int) := by
  rw [rd_at _ i (by rw [iota_len]; exact h)]
  simp [iota]
def rounds (names : List Int) : List (List Int) := iota names.length :: tailF names.length (iota names.length) names
theorem specSurv_ev (names : List Int) (h2 : 2 ≤ names.length) (h12 : names.length ≤ 12) (hd : Dist names) : Ev (fun k => spec_elSurvivors.f k names) (rounds names) :=
  evUp0 names.length (fun k (s : List Int) (i : Nat) => spec_elSurvivors.l0 k names s (names.length : Int) (i : Int)) (fun i s => s = iota i) (rounds names) [] rfl
    (by
      intro i s hi hI
      have hsl : s.length = i := by rw [hI, iota_len]
      refine .inl ⟨iota (i + 1), rfl, fun h => evNext (fun k => ?_) h⟩
      show spec_elSurvivors.l0 (k + 1) names s (names.length : Int) (i : Int) = spec_elSurvivors.l0 k names (iota (i + 1)) (names.length : Int) (i + 1 : Nat)
      simp only [spec_elSurvivors.l0]
      rw [if_pos (by omega), if_pos (by omega), w64 (by omega) (by omega), iota_succ, hI]
      rfl)
    (by
      intro s hI
      have hil := iota_len names.length
      have h := spec_l1_ev names.length (iota names.length) names [iota names.length] (by omega) (by omega) (by omega) h12 hd (by simp; omega)
      refine evNext (fun k => ?_) h
      show spec_elSurvivors.l0 (k + 1) names s (names.length : Int) (names.length : Int) = _
      simp only [spec_elSurvivors.l0]
      rw [if_neg (by omega), ownS_eq names (by omega), hI, cloneS_eq _ (by omega)]
      simp)
theorem implSurv_ev (names : List Int) (h2 : 2 ≤ names.length) (h12 : names.length ≤ 12) (hd : Dist names) : Ev (fun k => impl_survivors.f k names) (rounds names) := by
  have key := evUp0 names.length (fun k (s : List Int) (i : Nat) => impl_survivors.l0 k s names [] (names.length : Int) (i : Int)) (fun i s => s = iota i) (rounds names) [] rfl
    (by
      intro i s hi hI
      have hsl : s.length = i := by rw [hI, iota_len]
      refine .inl ⟨iota (i + 1), rfl, fun h => evNext (fun k => ?_) h⟩
      show impl_survivors.l0 (k + 1) s names [] (names.length : Int) (i : Int) = impl_survivors.l0 k (iota (i + 1)) names [] (names.length : Int) (i + 1 : Nat)
      simp only [impl_survivors.l0]
      rw [if_pos (by omega), if_pos (by omega), w64 (by omega) (by omega), iota_succ, hI]
      rfl)
    (by
      intro s hI
      have hil := iota_len names.length
      have h := impl_l1_ev names.length (iota names.length) names names [] (by omega) (by omega) (by omega) h12 h12 hd (fun i j hi hj hij => by
          rw [iota_len] at hi hj
          rw [rd_iota _ i hi, rd_iota _ j hj]
          omega) (fun i hi => by
          rw [iota_len] at hi
          exact ⟨i, rd_iota _ i hi, hi, rfl⟩) (by simp; omega)
      refine evNext (fun k => ?_) h
      show impl_survivors.l0 (k + 1) s names [] (names.length : Int) (names.length : Int) = _
      simp only [impl_survivors.l0]
      rw [if_neg (by omega), hI])
  refine Ev.congr (fun k => ?_) key
  unfold impl_survivors.f
  rw [cloneS_eq names (by omega)]
  rfl
theorem rounds_len (names : List Int) : (rounds names).length ≤ names.length + 1 := by
  have := tailF_len names.length (iota names.length) names
  simp only [rounds, List.length_cons]
  omega
theorem rounds_each (names : List Int) : ∀ r ∈ rounds names, r.length ≤ names.length := by
  intro r hr
  rcases List.mem_cons.1 hr with rfl | hr
  · rw [iota_len]; exact Nat.le_refl _
  · have := tailF_each names.length (iota names.length) names (iota_len _) r hr
    rw [iota_len] at this
    exact this
end Go.Proofs.Ytbiiklkkfkipeaa.X

/- Plain lemmas: whether all numbers lie between two others; traffic; buckets. -/
namespace Go.Proofs.Ytbiiklkkfkipeaa.X
set_option linter.unusedSimpArgs false
set_option linter.unusedVariables false
open Go.RowKit Go.Proofs.YtbiiklkkfkipeaaW.PrintWords
theorem l1In_eq (n lo hi : Int) : spec_l1In.f n lo hi = some (inB lo hi n) := by
  unfold spec_l1In.f inB
  by_cases h : lo ≤ n
  · rw [if_pos (by omega), decide_eq_true h]; simp
  · rw [if_neg (by omega), decide_eq_false h]; simp
theorem within_eq (n lo hi : Int) : impl_within.f n lo hi = some (inB lo hi n) := by
  unfold impl_within.f inB
  by_cases h : lo ≤ n
  · rw [if_pos (by omega), decide_eq_true h]; simp
  · rw [if_neg (by omega), decide_eq_false h]; simp
theorem allWithin_eq (l : List Int) (lo hi : Int) : impl_allWithin.f l lo hi = some (l.all (inB lo hi)) := rfl
theorem inB_iff {lo hi n : Int} : inB lo hi n = true ↔ lo ≤ n ∧ n ≤ hi := by simp [inB]
theorem all_bound {l : List Int} {lo hi : Int} (h : l.all (inB lo hi) = true) : ∀ x ∈ l, lo ≤ x ∧ x ≤ hi := fun x hx => inB_iff.1 (List.all_eq_true.1 h x hx)
theorem all_rd {l : List Int} {lo hi : Int} (h : l.all (inB lo hi) = true) (i : Nat) (hi' : i < l.length) : lo ≤ rd l (i : Int) ∧ rd l (i : Int) ≤ hi := by
  rw [rd_at l i hi']
  exact all_bound h _ (List.getElem_mem hi')
theorem l1All_ev (l : List Int) (lo hi : Int) (hn : l.length ≤ 9223372036854775806) : Ev (fun k => spec_l1All.f k l lo hi) (l.all (inB lo hi)) := by
  have key := evUp0 l.length (fun k (_ : Unit) (i : Nat) => spec_l1All.l0 k lo hi l (l.length : Int) (i : Int)) (fun i _ => (l.take i).all (inB lo hi) = true) (l.all (inB lo hi)) () (by simp)
    (by
      intro i s hlt hI
      cases hb : inB lo hi (rd l (i : Int)) with
      | true =>
        refine .inl ⟨(), ?_, fun h => evNext (fun k => ?_) h⟩
        · rw [List.take_succ_eq_append_getElem hlt, List.all_append, hI]
          rw [rd_at l i hlt] at hb
          simp [hb]
        · show spec_l1All.l0 (k + 1) lo hi l (l.length : Int) (i : Int) = spec_l1All.l0 k lo hi l (l.length : Int) (i + 1 : Nat)
          simp only [spec_l1All.l0]
          rw [if_pos (by omega), if_pos (by omega), if_pos (by omega), l1In_eq, hb]
          simp only [Option.bind_some, if_true]
          rw [w64 (by omega) (by omega)]
          rfl
      | false =>
        refine .inr (evEnd fun k => ?_)
        show spec_l1All.l0 (k + 1) lo hi l (l.length : Int) (i : Int) = _
        simp only [spec_l1All.l0]
        rw [if_pos (by omega), if_pos (by omega), if_pos (by omega), l1In_eq, hb]
        simp only [Option.bind_some]
        have hf : l.all (inB lo hi) = false := by
          rw [List.all_eq_false]
          refine ⟨rd l (i : Int), ?_, by simp [hb]⟩
          rw [rd_at l i hlt]
          exact List.getElem_mem hlt
        rw [hf]
        simp)
    (by
      intro s hI
      refine evEnd fun k => ?_
      show spec_l1All.l0 (k + 1) lo hi l (l.length : Int) (l.length : Int) = _
      simp only [spec_l1All.l0]
      rw [if_neg (by omega)]
      rw [List.take_length] at hI
      rw [hI])
  exact key
end Go.Proofs.Ytbiiklkkfkipeaa.X

/- Plain lemmas: whether a number is among others. -/
namespace Go.Proofs.Ytbiiklkkfkipeaa.X
set_option linter.unusedSimpArgs false
set_option linter.unusedVariables false
open Go.RowKit Go.Proofs.YtbiiklkkfkipeaaW.PrintWords
theorem index_ev (l : List Int) (n : Int) (hl : l.length ≤ 9223372036854775806) : ∃ r : Int, Ev (fun k => slices_Index_int_int.f k l n) r ∧ decide (r ≥ 0) = l.contains n := by
  cases hc : l.contains n with
  | false =>
    refine ⟨-1, ?_, rfl⟩
    have key := evUp0 l.length (fun k (_ : Unit) (i : Nat) => slices_Index_int_int.l0 k l n (l.length : Int) (i : Int)) (fun _ _ => True) (-1) () trivial
      (by
        intro i s hi _
        refine .inl ⟨(), trivial, fun h => evNext (fun k => ?_) h⟩
        show slices_Index_int_int.l0 (k + 1) l n (l.length : Int) (i : Int) = slices_Index_int_int.l0 k l n (l.length : Int) (i + 1 : Nat)
        have hne : ¬ n = l[i] := by
          intro e
          have : l.contains n = true := by rw [e]; simp
          rw [this] at hc
          cases hc
        simp only [slices_Index_int_int.l0]
        rw [if_pos (by omega), if_pos (by omega), if_pos (by omega), rd_at l i hi, if_neg hne, w64 (by omega) (by omega)]
        rfl)
      (by
        intro s _
        refine evEnd fun k => ?_
        show slices_Index_int_int.l0 (k + 1) l n (l.length : Int) (l.length : Int) = _
        simp only [slices_Index_int_int.l0]
        rw [if_neg (by omega)])
    exact key
  | true =>
    have hex : ∃ i : Nat, ∃ h : i < l.length, n = l[i] ∧ ∀ j (hj : j < i), ¬ n = l[j] := by
      clear hl
      induction l with
      | nil => simp at hc
      | cons x xs ih =>
        by_cases e : n = x
        · exact ⟨0, by simp, by simpa using e, fun j hj => absurd hj (by omega)⟩
        · have : xs.contains n = true := by
            rw [List.contains_cons] at hc
            have : (n == x) = false := by simpa using e
            rw [this] at hc
            simpa using hc
          obtain ⟨i, h, h1, h2⟩ := ih this
          refine ⟨i + 1, by simp; omega, by simpa using h1, fun j hj => ?_⟩
          cases j with
          | zero => simpa using e
          | succ j => simpa using h2 j (by omega)
    obtain ⟨m, hm, h1, h2⟩ := hex
    refine ⟨(m : Int), ?_, by simp⟩
    have key := evUp m (fun k (_ : Unit) (i : Nat) => slices_Index_int_int.l0 k l n (l.length : Int) (i : Int)) (fun _ _ => True) (m : Int)
      (by
        intro i s hi _
        refine .inl ⟨(), trivial, fun h => evNext (fun k => ?_) h⟩
        show slices_Index_int_int.l0 (k + 1) l n (l.length : Int) (i : Int) = slices_Index_int_int.l0 k l n (l.length : Int) (i + 1 : Nat)
        simp only [slices_Index_int_int.l0]
        rw [if_pos (by omega), if_pos (by omega), if_pos (by omega), rd_at l i (by omega), if_neg (h2 i hi), w64 (by omega) (by omega)]
        rfl)
      (by
        intro s _
        refine evEnd fun k => ?_
        show slices_Index_int_int.l0 (k + 1) l n (l.length : Int) (m : Int) = _
        simp only [slices_Index_int_int.l0]
        rw [if_pos (by omega), if_pos (by omega), if_pos (by omega), rd_at l m hm, if_pos h1]) 0 () (by omega) trivial
    exact key
theorem contains_ev (l : List Int) (n : Int) (hl : l.length ≤ 9223372036854775806) : Ev (fun k => slices_Contains_int_int.f k l n) (l.contains n) := by
  obtain ⟨r, h1, h2⟩ := index_ev l n hl
  exact evEq (Ev.bind h1 (Ev.now _)) h2
end Go.Proofs.Ytbiiklkkfkipeaa.X

/- Plain lemmas: names. AreNames: the program and the reference come to the same. -/
namespace Go.Proofs.Ytbiiklkkfkipeaa.X
set_option linter.unusedSimpArgs false
set_option linter.unusedVariables false
open Go.RowKit Go.Proofs.YtbiiklkkfkipeaaW.PrintWords
theorem l1Has_ev (l : List Int) (n : Int) (hl : l.length ≤ 9223372036854775806) : Ev (fun k => spec_l1Has.f k l n) (l.contains n) := by
  have key := evUp0 l.length (fun k (_ : Unit) (i : Nat) => spec_l1Has.l0 k n l (l.length : Int) (i : Int)) (fun i _ => (l.drop i).contains n = l.contains n) (l.contains n) () rfl
    (by
      intro i s hi hI
      rw [List.drop_eq_getElem_cons hi, List.contains_cons] at hI
      by_cases e : l[i] = n
      · refine .inr (evEnd fun k => ?_)
        show spec_l1Has.l0 (k + 1) n l (l.length : Int) (i : Int) = _
        simp only [spec_l1Has.l0]
        rw [if_pos (by omega), if_pos (by omega), if_pos (by omega), rd_at l i hi, if_pos e, ← hI, e]
        simp
      · refine .inl ⟨(), ?_, fun h => evNext (fun k => ?_) h⟩
        · have : (n == l[i]) = false := by simpa using fun h => e h.symm
          rw [this, Bool.false_or] at hI
          exact hI
        · show spec_l1Has.l0 (k + 1) n l (l.length : Int) (i : Int) = spec_l1Has.l0 k n l (l.length : Int) (i + 1 : Nat)
          simp only [spec_l1Has.l0]
          rw [if_pos (by omega), if_pos (by omega), if_pos (by omega), rd_at l i hi, if_neg e, w64 (by omega) (by omega)]
          rfl)
    (by
      intro s hI
      rw [List.drop_length] at hI
      refine evEnd fun k => ?_
      show spec_l1Has.l0 (k + 1) n l (l.length : Int) (l.length : Int) = _
      simp only [spec_l1Has.l0]
      rw [if_neg (by omega), ← hI]
      simp)
  exact key
/-- No number of l[i:n] stands before in l. -/
def fresh (l : List Int) : Nat → Bool
  | 0 => true
  | n + 1 => fresh l n && !((l.take n).contains (rd l (n : Int)))
theorem fresh_step (l : List Int) (n : Nat) (h : n < l.length) (hf : fresh l l.length = true) : (l.take n).contains (rd l (n : Int)) = false := by
  have : ∀ m, n < m → fresh l m = true → (l.take n).contains (rd l (n : Int)) = false := by
    intro m
    induction m with
    | zero => intro h; omega
    | succ m ih =>
      intro h1 h2
      simp only [fresh, Bool.and_eq_true] at h2
      by_cases e : n = m
      · subst e
        simpa using h2.2
      · exact ih (by omega) h2.1
  exact this l.length h hf
theorem fresh_false (l : List Int) (n m : Nat) (hm : n < m) (h : (l.take n).contains (rd l (n : Int)) = true) : fresh l m = false := by
  induction m with
  | zero => omega
  | succ m ih =>
    by_cases e : n = m
    · subst e
      show (fresh l n && !((l.take n).contains (rd l (n : Int)))) = false
      rw [h, Bool.not_true, Bool.and_false]
    · simp [fresh, ih (by omega)]
theorem fresh_ne {l : List Int} (hf : fresh l l.length = true) {i j : Nat} (hi : i < l.length) (hj : j < l.length) (hij : i ≠ j) : rd l (i : Int) ≠ rd l (j : Int) := by
  have key : ∀ a b : Nat, a < b → b < l.length → rd l (a : Int) ≠ rd l (b : Int) := by
    intro a b hab hb e
    have h1 := fresh_step l b hb hf
    have h2 : (l.take b).contains (rd l (b : Int)) = true := by
      rw [List.contains_iff_mem, ← e, rd_at l a (by omega)]
      rw [List.mem_take_iff_getElem]
      exact ⟨a, by omega, rfl⟩
    rw [h2] at h1
    cases h1
  rcases Nat.lt_or_ge i j with h | h
  · exact key i j h hj
  · exact fun e => key j i (by omega) hi e.symm
def isNm (l : List Int) : Bool := inB 2 12 (l.length : Int) && (l.all (inB 0 999) && fresh l l.length)
theorem isNm_iff {l : List Int} (h : isNm l = true) : 2 ≤ l.length ∧ l.length ≤ 12 ∧ (∀ x ∈ l, 0 ≤ x ∧ x ≤ 999) ∧ fresh l l.length = true := by
  unfold isNm at h
  simp only [Bool.and_eq_true] at h
  have h1 := inB_iff.1 h.1
  exact ⟨by omega, by omega, all_bound h.2.1, h.2.2⟩
theorem specNames_loop (l : List Int) (hl : l.length ≤ 1048576) : Ev (fun k => spec_elNames.l0 k l l (l.length : Int) ((0 : Nat) : Int)) (fresh l l.length) := by
  refine evUp0 l.length (fun k (_ : Unit) (i : Nat) => spec_elNames.l0 k l l (l.length : Int) (i : Int)) (fun i _ => fresh l i = true) _ () rfl ?_ ?_
  · intro i s hi hI
    have hh := l1Has_ev (l.take i) (rd l (i : Int)) (by simp; omega)
    cases hc : (l.take i).contains (rd l (i : Int)) with
    | true =>
      rw [hc] at hh
      refine .inr (evCallEnd hh fun k hk => ?_)
      show spec_elNames.l0 (k + 1) l l (l.length : Int) (i : Int) = _
      simp only [spec_elNames.l0]
      rw [if_pos (by omega), if_pos (by omega), if_pos (by omega), if_pos (by omega), Int.toNat_natCast, hk, fresh_false l i l.length hi hc]
      rfl
    | false =>
      rw [hc] at hh
      refine .inl ⟨(), by show (fresh l i && !((l.take i).contains (rd l (i : Int)))) = true; rw [hI, hc]; rfl, fun h => evCall hh (fun k hk => ?_) h⟩
      show spec_elNames.l0 (k + 1) l l (l.length : Int) (i : Int) = spec_elNames.l0 k l l (l.length : Int) (i + 1 : Nat)
      simp only [spec_elNames.l0]
      rw [if_pos (by omega), if_pos (by omega), if_pos (by omega), if_pos (by omega), Int.toNat_natCast, hk, w64 (by omega) (by omega)]
      simp only [Option.bind_some, Bool.false_eq_true, if_false]
      rfl
  · intro s hI
    refine evEnd fun k => ?_
    show spec_elNames.l0 (k + 1) l l (l.length : Int) (l.length : Int) = _
    simp only [spec_elNames.l0]
    rw [if_neg (by omega), hI]
theorem specNames_ev (l : List Int) (hl : l.length ≤ 1048576) : Ev (fun k => spec_elNames.f k l) (isNm l) := by
  unfold isNm
  cases h : inB 2 12 (l.length : Int) with
  | false =>
    refine Ev.congr (f := fun k => spec_elNames.j0 k l true) (fun k => by simp [spec_elNames.f, l1In_eq, h]) ?_
    refine evEnd fun k => ?_
    simp [spec_elNames.j0]
  | true =>
    cases ha : l.all (inB 0 999) with
    | false =>
      have h2 : Ev (fun k => spec_elNames.j0 k l true) false := evEnd fun k => by simp [spec_elNames.j0]
      have h1 := l1All_ev l 0 999 (by omega)
      rw [ha] at h1
      exact Ev.congr (f := fun k => (spec_l1All.f k l 0 999).bind fun t => spec_elNames.j0 k l (!t)) (fun k => by simp only [spec_elNames.f, l1In_eq, h, Option.bind_some, if_true]) (Ev.bind h1 h2)
    | true =>
      have h1 := l1All_ev l 0 999 (by omega)
      rw [ha] at h1
      have h2 : Ev (fun k => spec_elNames.j0 k l false) (fresh l l.length) := evNext (fun k => by simp [spec_elNames.j0]) (specNames_loop l hl)
      exact Ev.congr (f := fun k => (spec_l1All.f k l 0 999).bind fun t => spec_elNames.j0 k l (!t)) (fun k => by simp only [spec_elNames.f, l1In_eq, h, Option.bind_some, if_true]) (Ev.bind h1 h2)
theorem implNames_ev (l : List Int) (hl : l.length ≤ 1048576) : Ev (fun k => impl_AreNames.f k l) (isNm l) := by
  have key := evUp0 l.length (fun k (_ : Unit) (i : Nat) => impl_AreNames.l0 k l l (l.length : Int) (i : Int)) (fun i _ => fresh l i = true) (isNm l) () rfl
    (by
      intro i s hi hI
      have hh := contains_ev (l.take i) (rd l (i : Int)) (by simp; omega)
      cases hc : (l.take i).contains (rd l (i : Int)) with
      | true =>
        rw [hc] at hh
        refine .inr (evCallEnd hh fun k hk => ?_)
        show impl_AreNames.l0 (k + 1) l l (l.length : Int) (i : Int) = _
        simp only [impl_AreNames.l0]
        rw [if_pos (by omega), if_pos (by omega), if_pos (by omega), if_pos (by omega), Int.toNat_natCast, hk]
        simp [isNm, fresh_false l i l.length hi hc]
      | false =>
        rw [hc] at hh
        refine .inl ⟨(), by show (fresh l i && !((l.take i).contains (rd l (i : Int)))) = true; rw [hI, hc]; rfl, fun h => evCall hh (fun k hk => ?_) h⟩
        show impl_AreNames.l0 (k + 1) l l (l.length : Int) (i : Int) = impl_AreNames.l0 k l l (l.length : Int) (i + 1 : Nat)
        simp only [impl_AreNames.l0]
        rw [if_pos (by omega), if_pos (by omega), if_pos (by omega), if_pos (by omega), Int.toNat_natCast, hk, w64 (by omega) (by omega)]
        simp only [Option.bind_some, Bool.false_eq_true, if_false]
        rfl)
    (by
      intro s hI
      refine evEnd fun k => ?_
      show impl_AreNames.l0 (k + 1) l l (l.length : Int) (l.length : Int) = _
      simp only [impl_AreNames.l0]
      rw [if_neg (by omega)]
      unfold impl_isRingSize.f isNm
      simp only [within_eq, Option.bind_some, allWithin_eq]
      cases inB 2 12 (l.length : Int) <;> simp [hI])
  exact key
theorem AreNames_same (l : List Int) (h : (l.length ≤ maxLen ∧ l.length * 8 ≤ 140737488351232 ∧ (∀ x ∈ l, (Lit.int .i64 x).wf = true) ∧ l.length ≤ 1048576)) :
    ∃ v, Ev (fun k => spec_AreNames.f k l) v ∧ Ev (fun k => impl_AreNames.f k l) v :=
  ⟨isNm l, evEq (Ev.bind (specNames_ev l h.2.2.2) (Ev.now _)) rfl, implNames_ev l h.2.2.2⟩
end Go.Proofs.Ytbiiklkkfkipeaa.X

/- SurvivorsOf, RoundMessages: the program and the reference come to the same. -/
namespace Go.Proofs.Ytbiiklkkfkipeaa.X
set_option linter.unusedSimpArgs false
set_option linter.unusedVariables false
open Go.RowKit Go.Proofs.YtbiiklkkfkipeaaW.PrintWords
theorem dist_fresh {l : List Int} (hf : fresh l l.length = true) : Dist l := fun _ _ hi hj hij => fresh_ne hf hi hj hij
theorem SurvivorsOf_same (l : List Int) (hl : l.length ≤ 1048576) :
    ∃ v, Ev (fun n => spec_SurvivorsOf.f n l) v ∧ Ev (fun n => impl_SurvivorsOf.f n l) v ∧ v.1.length ≤ 13 ∧ ∀ r ∈ v.1, r.length ≤ 12 := by
  obtain ⟨K, e⟩ := specNames_ev l hl
  obtain ⟨K', e'⟩ := implNames_ev l hl
  dsimp only at e e'
  cases hk : isNm l with
  | true =>
    rw [hk] at e e'
    have hb := isNm_iff hk
    obtain ⟨K1, e1⟩ := specSurv_ev l hb.1 hb.2.1 (dist_fresh hb.2.2.2)
    obtain ⟨K2, e2⟩ := implSurv_ev l hb.1 hb.2.1 (dist_fresh hb.2.2.2)
    dsimp only at e1 e2
    refine ⟨(rounds l, true), ⟨K + K1 + 9, fun n hn => ?_⟩, ⟨K' + K2 + 9, fun n hn => ?_⟩, by have := rounds_len l; dsimp only; omega, fun r hr => by have := rounds_each l r hr; omega⟩
    · simp (disch := omega) only [spec_SurvivorsOf.f, e, e1, Option.bind_some, if_true]
    · simp (disch := omega) only [impl_SurvivorsOf.f, e', e2, Option.bind_some, if_true]
  | false =>
    rw [hk] at e e'
    refine ⟨([], false), ⟨K + 9, fun n hn => ?_⟩, ⟨K' + 9, fun n hn => ?_⟩, by simp, by simp⟩
    · simp (disch := omega) [spec_SurvivorsOf.f, e]
    · simp (disch := omega) [impl_SurvivorsOf.f, e']
theorem RoundMessages_same (l : List Int) (h : (l.length ≤ maxLen ∧ l.length * 8 ≤ 140737488351232 ∧ (∀ x ∈ l, (Lit.int .i64 x).wf = true) ∧ l.length ≤ 1048576)) :
    ∃ v, Ev (fun n => spec_RoundMessages.f n l) v ∧ Ev (fun n => impl_RoundMessages.f n l) v := by
  obtain ⟨K, e⟩ := specNames_ev l h.2.2.2
  obtain ⟨K', e'⟩ := implNames_ev l h.2.2.2
  dsimp only at e e'
  cases hk : isNm l with
  | true =>
    rw [hk] at e e'
    have hb := isNm_iff hk
    obtain ⟨K1, e1⟩ := specSurv_ev l hb.1 hb.2.1 (dist_fresh hb.2.2.2)
    obtain ⟨K2, e2⟩ := implSurv_ev l hb.1 hb.2.1 (dist_fresh hb.2.2.2)
    dsimp only at e1 e2
    refine ⟨(wrap64 ((wrap64 (2 * (l.length : Int))) * (wrap64 (((rounds l).length : Int) - 1))), true), ⟨K + K1 + 9, fun n hn => ?_⟩, ⟨K' + K2 + 9, fun n hn => ?_⟩⟩
    · simp (disch := omega) only [spec_RoundMessages.f, e, e1, Option.bind_some, if_true]
    · simp (disch := omega) only [impl_RoundMessages.f, e', e2, Option.bind_some, if_true]
  | false =>
    rw [hk] at e e'
    refine ⟨(0, false), ⟨K + 9, fun n hn => ?_⟩, ⟨K' + 9, fun n hn => ?_⟩⟩
    · simp (disch := omega) [spec_RoundMessages.f, e]
    · simp (disch := omega) [impl_RoundMessages.f, e']
end Go.Proofs.Ytbiiklkkfkipeaa.X

/- RoundMessages answers as the reference does, for every input: the pure statement. -/
namespace Go.Proofs.Ytbiiklkkfkipeaa.Pure
set_option linter.unusedSimpArgs false
set_option linter.unusedVariables false
set_option linter.unusedSimpArgs false
open Go.RowKit Go.Proofs.Ytbiiklkkfkipeaa.X Go.Proofs.YtbiiklkkfkipeaaW.PrintWords Go.Proofs.YtbiiklkkfkipeaaW.PrintLast
set_option maxHeartbeats 1000000 in
theorem FnExactRoundMessages : ∀ (l0 : List Int), l0.length ≤ maxLen → l0.length * 8 ≤ 140737488351232 → (∀ x ∈ l0, (Lit.int .i64 x).wf = true) → ∃ k, laws_FnExactRoundMessages.f k l0 = some true := by
  intro l0 h0_ h1_ h2_
  by_cases hb0 : (l0.length : Int) > 1048576
  · exact ⟨9, by simp [laws_FnExactRoundMessages.f, hb0]⟩
  have hm : l0.length ≤ 1048576 := by omega
  obtain ⟨v, hS, hI⟩ := RoundMessages_same l0 (by first | exact ⟨h0_, h1_, h2_, hm⟩ | trivial)
  obtain ⟨K1, e1⟩ := hS
  obtain ⟨K2, e2⟩ := hI
  obtain ⟨K3, e3⟩ := toIntS_ev l0 (by omega)
  obtain ⟨K4, e4⟩ := eqIntS_ev l0 l0 (by omega)
  dsimp only at e1 e2 e3 e4
  refine ⟨K1 + K2 + K3 + K4 + 9, ?_⟩
  simp (disch := omega) only [laws_FnExactRoundMessages.f, e1, e2, e3, e4, hb0, Option.bind_some, eq_self, decide_true, bne_self_eq_false, Bool.false_eq_true, Bool.not_true, Bool.not_false, ↓reduceIte]
  all_goals (try rw [laws_FnExactRoundMessages.j0.eq_2])
  all_goals (try simp (disch := omega) only [laws_FnExactRoundMessages.f, e1, e2, e3, e4, hb0, Option.bind_some, eq_self, decide_true, bne_self_eq_false, Bool.false_eq_true, Bool.not_true, Bool.not_false, ↓reduceIte])
end Go.Proofs.Ytbiiklkkfkipeaa.Pure

/- Plain lemmas for the rows: a slice of structs of three whole numbers that came in, opened to cells. -/
namespace Go.Proofs.Ytbiiklkkfkipeaa.Rw
open Go.ChangeShapes Go.WideShapes Go.Deep Go.RowKit
section
variable {H : Type} {enc : TypeId × Value → H} {P : Program} {w : World} {base : Nat} {spare : Nat → Bool} {held : Bool}
theorem trod_int_mk {t : TypeId} {k : IntKind} {n : Int} (h : P.underlying t = some (.int k)) (hw : (Lit.int k n).wf = true) : ∃ m, DataW.trod enc P w base spare held m t [.int k n] = some (.lit (.int k n), []) := ⟨1, by simp [DataW.trod, h, hw]⟩
theorem trod_bool_mk {t : TypeId} {b : Bool} (h : P.underlying t = some .bool) : ∃ m, DataW.trod enc P w base spare held m t [.bool b] = some (.lit (.bool b), []) := ⟨1, by simp [DataW.trod, h]⟩
def numAt (w : World) (a : Addr) : Int := match w.cell? a with
  | some (.int _ n) => n
  | _ => 0
theorem open_rows3 {t e : TypeId} {f0 f1 f2 : Field} {fuel : Nat} {A : Option Addr} {len cap : Nat} {x : DataW H × List MemPlace} (ht : P.underlying t = some (.slice e)) (he : P.underlying e = some (.struct #[f0, f1, f2]))
    (hone : oneCellFields P #[f0, f1, f2] = true) (hC : P.cellsOf e = 3) (h0 : P.underlying f0.type = some (.int .i64)) (h1 : P.underlying f1.type = some (.int .i64)) (h2 : P.underlying f2.type = some (.int .i64))
    (h : DataW.trod enc P w base spare held fuel t [.slice A len cap] = some x) :
    len ≤ cap ∧ len ≤ 9223372036854775807 ∧ ∃ l : List (Int × Int × Int), l.length = len ∧ (∀ p ∈ l, (Lit.int .i64 p.1).wf = true ∧ (Lit.int .i64 p.2.1).wf = true ∧ (Lit.int .i64 p.2.2).wf = true) ∧
      (0 < len → ∃ ad, A = some ad ∧ ∀ j p, l[j]? = some p → w.cell? (ad.add (j * 3 + 0)) = some (.int .i64 p.1) ∧ w.cell? (ad.add (j * 3 + 1)) = some (.int .i64 p.2.1) ∧ w.cell? (ad.add (j * 3 + 2)) = some (.int .i64 p.2.2)) := by
  rcases open_slice ht h with ⟨hcs, _⟩ | ⟨a, len', cap', m, n, D, Pl, hcs, hb, hl, hm, hmm, hx, hi⟩
  · injection hcs with hcs
    injection hcs with ha hl hc
    subst ha hl hc
    exact ⟨Nat.le_refl _, by omega, [], rfl, by simp, fun h => absurd h (by omega)⟩
  · injection hcs with hcs
    injection hcs with ha hl' hc'
    subst ha hl' hc'
    have hml : len ≤ m := by rw [hmm]; split <;> omega
    have key : ∀ i, i < len → ∃ n0 n1 n2 : Int, w.cell? (a.add (i * 3 + 0)) = some (.int .i64 n0) ∧ w.cell? (a.add (i * 3 + 1)) = some (.int .i64 n1) ∧ w.cell? (a.add (i * 3 + 2)) = some (.int .i64 n2) ∧
        (Lit.int .i64 n0).wf = true ∧ (Lit.int .i64 n1).wf = true ∧ (Lit.int .i64 n2).wf = true := by
      intro i hil
      obtain ⟨cs', hc, ht'⟩ := hi i (by omega)
      rw [hC] at hc
      obtain ⟨ys, n', hn', hy, hlen, hyl, hf⟩ := DataW.trod_struct he ht'
      obtain ⟨_, hcl, hat⟩ := World.cells?_some hc
      have one : ∀ (j : Nat) (f : Field), j < 3 → (#[f0, f1, f2] : Array Field)[j]? = some f → P.underlying f.type = some (.int .i64) → ∃ n0 : Int, w.cell? (a.add (i * 3 + j)) = some (.int .i64 n0) ∧ (Lit.int .i64 n0).wf = true := by
        intro j f hj3 hj hu
        obtain ⟨ho, hk⟩ := hone_of hone j f hj
        have hcell := hat j hj3
        have hv : cs'[j]? = some (cs'[j]'(by omega)) := List.getElem?_eq_getElem (by omega)
        have g1 := hf j f hj
        rw [ho, hk] at g1
        have hone' : (cs'.drop j).take 1 = [cs'[j]'(by omega)] := by
          rw [List.drop_eq_getElem_cons (by omega)]
          rfl
        rw [hone'] at g1
        have hys : ys[j]? = some (ys[j]'(by simp at hyl; omega)) := List.getElem?_eq_getElem (by simp at hyl; omega)
        obtain ⟨n0, e0, _, wf0⟩ := DataW.trod_int hu (g1.trans hys)
        refine ⟨n0, ?_, wf0⟩
        rw [← Go.Deep.add_add, hcell, hv]
        injection e0 with e0
        rw [e0]
      obtain ⟨n0, c0, w0⟩ := one 0 f0 (by omega) rfl h0
      obtain ⟨n1, c1, w1⟩ := one 1 f1 (by omega) rfl h1
      obtain ⟨n2, c2, w2⟩ := one 2 f2 (by omega) rfl h2
      exact ⟨n0, n1, n2, c0, c1, c2, w0, w1, w2⟩
    refine ⟨hl, by unfold maxLen at hm; omega, (List.range len).map (fun i => (numAt w (a.add (i * 3 + 0)), numAt w (a.add (i * 3 + 1)), numAt w (a.add (i * 3 + 2)))), by simp, ?_, fun _ => ⟨a, rfl, ?_⟩⟩
    · intro p hp
      obtain ⟨i, hir, rfl⟩ := List.mem_map.1 hp
      obtain ⟨n0, n1, n2, c0, c1, c2, w0, w1, w2⟩ := key i (List.mem_range.1 hir)
      simp only [numAt, c0, c1, c2]
      exact ⟨w0, w1, w2⟩
    · intro j p hj
      obtain ⟨hjl, hp⟩ := List.getElem?_eq_some_iff.1 hj
      have hjl' : j < len := by simpa using hjl
      obtain ⟨n0, n1, n2, c0, c1, c2, w0, w1, w2⟩ := key j hjl'
      have : p = (n0, n1, n2) := by
        rw [← hp]
        simp only [List.getElem_map, List.getElem_range, numAt, c0, c1, c2]
      subst this
      exact ⟨c0, c1, c2⟩
end
end Go.Proofs.Ytbiiklkkfkipeaa.Rw
