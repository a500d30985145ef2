/- Several texts of this session in one: X45, PlEv, PlInts, PlMarks, PlStructs, PlAll, PlJobs, PlLine, PlClass, PlDeficit, PlStructMarks, PureFnExactDeficitStarts, Rw. -/
import Derived.Test.YtkkgnjdepgmjlaaMFnExactDeficitStarts0
import Derived.Test.YtkkgnjdepgmjlaaMFnExactDeficitStarts1
import Derived.Test.YtkkgnjdepgmjlaaMFnExactDeficitStarts2
import Derived.Test.YtkkgnjdepgmjlaaMFnExactDeficitStarts3
import Derived.Test.YtkkgnjdepgmjlaaMFnExactDeficitStartsWWords
import Derived.Test.YtkkgnjdepgmjlaaMFnExactDeficitStartsWMore
import Derived.Deep.Slices
import Derived.Deep.Fields
import Derived.ChangeSame
import Derived.Lib.SmallJoins
import Derived.SizedLaws
import Derived.ChangeSlices
/- What the functions of the program come to, and that they do: written by this session's program wip/xprint.py out of the translation; parts named extern are typed by hand. -/
namespace Go.Proofs.Ytkkgnjdepgmjlaa.X
open Go.RowKit Go.Proofs.YtkkgnjdepgmjlaaW.PrintWords Go.Proofs.YtkkgnjdepgmjlaaW.PrintLast Go.Proofs.YtkkgnjdepgmjlaaW.PrintMore
attribute [local go_sem] max2_int min2_int max_two min_two max_three min_three max_four min_four   -- for this text's walks alone
set_option linter.unusedVariables false
set_option linter.unusedSimpArgs false

/-! ### laws_FnExactDeficitStarts: function 10 -/
mutual
def laws_FnExactDeficitStarts.j0 : Nat → List (S45) → List Int → List Int → Bool → List (S43) → List Int → List Int → Bool → Bool → Option (Bool)
  | 0, _, _, _, _, _, _, _, _, _ => none
  | k + 1, x0, x1, x6, x7, x8, x9, x10, x11, x51 => if x51 = true then (some false) else ((laws_toJobS.f k x0).bind fun t563 => ((laws_eqJobS.f k x8 t563).bind fun t566 => (if t566 = true then ((laws_toIntS.f k x1).bind fun t567 => ((laws_eqIntS.f k x9 t567).bind fun t570 => (if t570 = true then ((laws_markJobS.f k x8 1).bind fun bt571 => ((laws_markIntS.f k x9 bt571.1).bind fun bt573 => (if bt573.1 < 0 then (laws_FnExactDeficitStarts.j1 k x0 x1 x6 x7 x10 true) else ((laws_eqIntS.f k x10 x6).bind fun t575 => (if t575 = true then (laws_FnExactDeficitStarts.j1 k x0 x1 x6 x7 x10 (x11 != x7)) else (laws_FnExactDeficitStarts.j1 k x0 x1 x6 x7 x10 true)))))) else (some false)))) else (some false))))
def laws_FnExactDeficitStarts.j1 : Nat → List (S45) → List Int → List Int → Bool → List Int → Bool → Option (Bool)
  | 0, _, _, _, _, _, _ => none
  | k + 1, x0, x1, x6, x7, x10, x80 => if x80 = true then (some false) else ((laws_markIntS.f k x10 1).bind fun bt576 => ((laws_heldIntS.f k bt576.2 1).bind fun t578 => (if t578 < 0 then (some false) else (if t578 = bt576.1 then ((laws_toJobS.f k x0).bind fun t579 => ((laws_toIntS.f k x1).bind fun t582 => ((impl_DeficitStarts.f k t579 t582).bind fun bt585 => ((laws_eqIntS.f k bt585.1 x6).bind fun t589 => (if t589 = true then (laws_FnExactDeficitStarts.j2 k bt576.2 bt576.1 (bt585.2 != x7)) else (laws_FnExactDeficitStarts.j2 k bt576.2 bt576.1 true)))))) else (some false)))))
def laws_FnExactDeficitStarts.j2 : Nat → List Int → Int → Bool → Option (Bool)
  | 0, _, _, _ => none
  | k + 1, x10, x13, x108 => if x108 = true then (some false) else ((laws_heldIntS.f k x10 1).bind fun t590 => (if t590 < 0 then (some false) else (if t590 = x13 then (some true) else (some false))))
end
def laws_FnExactDeficitStarts.f (k : Nat) (l0 : List (S45)) (l1 : List Int) : Option (Bool) := if (l1.length : Int) > 1048576 then (some true) else ((laws_szJobS.f l0 1048576).bind fun t541 => (if t541 < 0 then (some true) else ((laws_toJobS.f k l0).bind fun t542 => ((laws_toIntS.f k l1).bind fun t545 => ((spec_DeficitStarts.f k t542 t545).bind fun bt548 => ((laws_toJobS.f k l0).bind fun t552 => ((laws_toIntS.f k l1).bind fun t555 => ((impl_DeficitStarts.f k t552 t555).bind fun bt558 => ((laws_eqIntS.f k bt558.1 bt548.1).bind fun t562 => (if t562 = true then (laws_FnExactDeficitStarts.j0 k l0 l1 bt548.1 bt548.2 t552 t555 bt558.1 bt558.2 (bt558.2 != bt548.2)) else (laws_FnExactDeficitStarts.j0 k l0 l1 bt548.1 bt548.2 t552 t555 bt558.1 bt558.2 true)))))))))))
set_option maxHeartbeats 8000000 in
set_option maxRecDepth 100000 in
theorem laws_FnExactDeficitStarts.calls (k : Nat) (A0 : Option Addr) (c0 : Nat) (l0 : List (S45)) (A1 : Option Addr) (c1 : Nat) (l1 : List Int) (r : Bool) (w : World) (hr0 : Kd.C k45 w A0 l0.length l0) (hc0 : l0.length ≤ c0) (hr1 : Kd.C (Kd.int .i64) w A1 l1.length l1) (hc1 : l1.length ≤ c1) (h : laws_FnExactDeficitStarts.f k l0 l1 = some r) :
    Calls Try.prog 10 #[.slice A0 l0.length c0, .slice A1 l1.length c1] w fun e w' => e = .returned (.bool r) ∧ Below w.heap.size w w' := by
  have HR0 := Aside0.mk hr0
  have HC0 := Aside0.mk hc0
  clear hr0 hc0
  have HR1 := Aside0.mk hr1
  have HC1 := Aside0.mk hc1
  clear hr1 hc1
  have HB := Aside0.mk (Below.refl w.heap.size w)
  have H : (if (l1.length : Int) > 1048576 then (some true) else ((laws_szJobS.f l0 1048576).bind fun t541 => (if t541 < 0 then (some true) else ((laws_toJobS.f k l0).bind fun t542 => ((laws_toIntS.f k l1).bind fun t545 => ((spec_DeficitStarts.f k t542 t545).bind fun bt548 => ((laws_toJobS.f k l0).bind fun t552 => ((laws_toIntS.f k l1).bind fun t555 => ((impl_DeficitStarts.f k t552 t555).bind fun bt558 => ((laws_eqIntS.f k bt558.1 bt548.1).bind fun t562 => (if t562 = true then (laws_FnExactDeficitStarts.j0 k l0 l1 bt548.1 bt548.2 t552 t555 bt558.1 bt558.2 (bt558.2 != bt548.2)) else (laws_FnExactDeficitStarts.j0 k l0 l1 bt548.1 bt548.2 t552 t555 bt558.1 bt558.2 true)))))))))))) = some r := h
  clear h
  by_cases c3 : (l1.length : Int) > 1048576
  · rw [if_pos c3] at H
    have c3b0 : decide (1048576 < (l1.length : Int)) = true := decide_eq_true c3
    have c3b1 : decide (1048576 < l1.length) = true := decide_eq_true (by omega)
    clear c3
    obtain rfl := Option.some.inj H
    go_enter Try.func10, Try.ntmps10
    go_wp2
    go_ret
    exact ⟨by first | rfl | (simp [errW_none, errW_some] <;> rfl) | (simp [*, errW_none, errW_some] <;> rfl), by repeat (first | (with_reducible first | exact HB.out | apply below_alloc | apply pw_below_drewN | apply below_drew1) | exact HB.out)⟩
  · rw [if_neg c3] at H
    have c3b0 : decide (1048576 < (l1.length : Int)) = false := decide_eq_false c3
    have c3b1 : decide (1048576 < l1.length) = false := decide_eq_false (by omega)
    clear c3
    replace H := Option.bind_eq_some_iff.mp H
    obtain ⟨t541, A40, H⟩ := H
    replace H : (if t541 < 0 then (some true) else ((laws_toJobS.f k l0).bind fun t542 => ((laws_toIntS.f k l1).bind fun t545 => ((spec_DeficitStarts.f k t542 t545).bind fun bt548 => ((laws_toJobS.f k l0).bind fun t552 => ((laws_toIntS.f k l1).bind fun t555 => ((impl_DeficitStarts.f k t552 t555).bind fun bt558 => ((laws_eqIntS.f k bt558.1 bt548.1).bind fun t562 => (if t562 = true then (laws_FnExactDeficitStarts.j0 k l0 l1 bt548.1 bt548.2 t552 t555 bt558.1 bt558.2 (bt558.2 != bt548.2)) else (laws_FnExactDeficitStarts.j0 k l0 l1 bt548.1 bt548.2 t552 t555 bt558.1 bt558.2 true)))))))))) = some r := H
    have A4 := Aside0.mk A40
    clear A40
    by_cases c5 : t541 < 0
    · rw [if_pos c5] at H
      have c5b0 : decide (t541 < 0) = true := decide_eq_true c5
      clear c5
      obtain rfl := Option.some.inj H
      go_enter Try.func10, Try.ntmps10
      go_wp2_with (first | ((with_reducible refine gate_callee (f := 11) rfl ?_); refine goesL_ (some 22) rfl rfl Try.func11 (by kernel_rfl) rfl #[.slice A0 l0.length c0, .int .i64 1048576] rfl (by (try simp only [List.map_toArray, List.map_cons, List.map_nil]); first | done | rfl | (simp only [List.length_drop, List.length_take]; rfl)) ?_; (with_reducible refine (laws_szJobS.calls _ _ l0 1048576 t541 _ ?side1 ?side2 A4.out).mono ?_); (case side1 => repeat (first | exact HR0.out | (with_reducible refine Kd.C_alloc ?_ _) | (with_reducible refine Kd.C_drewN ?_ _) | (with_reducible refine Kd.C_drew ?_))); (case side2 => exact HC0.out); rintro e w' ⟨rfl, ⟨nd, rfl⟩⟩; refine ⟨_, rfl, ?_⟩))
      go_ret
      exact ⟨by first | rfl | (simp [errW_none, errW_some] <;> rfl) | (simp [*, errW_none, errW_some] <;> rfl), by repeat (first | (with_reducible first | exact HB.out | apply below_alloc | apply pw_below_drewN | apply below_drew1) | exact HB.out)⟩
    · rw [if_neg c5] at H
      have c5b0 : decide (t541 < 0) = false := decide_eq_false c5
      clear c5
      replace H := Option.bind_eq_some_iff.mp H
      obtain ⟨t542, A60, H⟩ := H
      replace H : ((laws_toIntS.f k l1).bind fun t545 => ((spec_DeficitStarts.f k t542 t545).bind fun bt548 => ((laws_toJobS.f k l0).bind fun t552 => ((laws_toIntS.f k l1).bind fun t555 => ((impl_DeficitStarts.f k t552 t555).bind fun bt558 => ((laws_eqIntS.f k bt558.1 bt548.1).bind fun t562 => (if t562 = true then (laws_FnExactDeficitStarts.j0 k l0 l1 bt548.1 bt548.2 t552 t555 bt558.1 bt558.2 (bt558.2 != bt548.2)) else (laws_FnExactDeficitStarts.j0 k l0 l1 bt548.1 bt548.2 t552 t555 bt558.1 bt558.2 true)))))))) = some r := H
      have A6 := Aside0.mk A60
      clear A60
      replace H := Option.bind_eq_some_iff.mp H
      obtain ⟨t545, A70, H⟩ := H
      replace H : ((spec_DeficitStarts.f k t542 t545).bind fun bt548 => ((laws_toJobS.f k l0).bind fun t552 => ((laws_toIntS.f k l1).bind fun t555 => ((impl_DeficitStarts.f k t552 t555).bind fun bt558 => ((laws_eqIntS.f k bt558.1 bt548.1).bind fun t562 => (if t562 = true then (laws_FnExactDeficitStarts.j0 k l0 l1 bt548.1 bt548.2 t552 t555 bt558.1 bt558.2 (bt558.2 != bt548.2)) else (laws_FnExactDeficitStarts.j0 k l0 l1 bt548.1 bt548.2 t552 t555 bt558.1 bt558.2 true))))))) = some r := H
      have A7 := Aside0.mk A70
      clear A70
      replace H := Option.bind_eq_some_iff.mp H
      obtain ⟨⟨t548, t549⟩, A80, H⟩ := H
      replace H : ((laws_toJobS.f k l0).bind fun t552 => ((laws_toIntS.f k l1).bind fun t555 => ((impl_DeficitStarts.f k t552 t555).bind fun bt558 => ((laws_eqIntS.f k bt558.1 t548).bind fun t562 => (if t562 = true then (laws_FnExactDeficitStarts.j0 k l0 l1 t548 t549 t552 t555 bt558.1 bt558.2 (bt558.2 != t549)) else (laws_FnExactDeficitStarts.j0 k l0 l1 t548 t549 t552 t555 bt558.1 bt558.2 true)))))) = some r := H
      have A8 := Aside0.mk A80
      clear A80
      replace H := Option.bind_eq_some_iff.mp H
      obtain ⟨t552, A90, H⟩ := H
      replace H : ((laws_toIntS.f k l1).bind fun t555 => ((impl_DeficitStarts.f k t552 t555).bind fun bt558 => ((laws_eqIntS.f k bt558.1 t548).bind fun t562 => (if t562 = true then (laws_FnExactDeficitStarts.j0 k l0 l1 t548 t549 t552 t555 bt558.1 bt558.2 (bt558.2 != t549)) else (laws_FnExactDeficitStarts.j0 k l0 l1 t548 t549 t552 t555 bt558.1 bt558.2 true))))) = some r := H
      have A9 := Aside0.mk A90
      clear A90
      replace H := Option.bind_eq_some_iff.mp H
      obtain ⟨t555, A100, H⟩ := H
      replace H : ((impl_DeficitStarts.f k t552 t555).bind fun bt558 => ((laws_eqIntS.f k bt558.1 t548).bind fun t562 => (if t562 = true then (laws_FnExactDeficitStarts.j0 k l0 l1 t548 t549 t552 t555 bt558.1 bt558.2 (bt558.2 != t549)) else (laws_FnExactDeficitStarts.j0 k l0 l1 t548 t549 t552 t555 bt558.1 bt558.2 true)))) = some r := H
      have A10 := Aside0.mk A100
      clear A100
      replace H := Option.bind_eq_some_iff.mp H
      obtain ⟨⟨t558, t559⟩, A110, H⟩ := H
      replace H : ((laws_eqIntS.f k t558 t548).bind fun t562 => (if t562 = true then (laws_FnExactDeficitStarts.j0 k l0 l1 t548 t549 t552 t555 t558 t559 (t559 != t549)) else (laws_FnExactDeficitStarts.j0 k l0 l1 t548 t549 t552 t555 t558 t559 true))) = some r := H
      have A11 := Aside0.mk A110
      clear A110
      have HC12 := Aside0.mk H
      clear H
      go_enter Try.func10, Try.ntmps10
      go_upto_region 11 with (first | ((with_reducible refine gate_callee (f := 11) rfl ?_); refine goesL_ (some 22) rfl rfl Try.func11 (by kernel_rfl) rfl #[.slice A0 l0.length c0, .int .i64 1048576] rfl (by (try simp only [List.map_toArray, List.map_cons, List.map_nil]); first | done | rfl | (simp only [List.length_drop, List.length_take]; rfl)) ?_; (with_reducible refine (laws_szJobS.calls _ _ l0 1048576 t541 _ ?side1 ?side2 A4.out).mono ?_); (case side1 => repeat (first | exact HR0.out | (with_reducible refine Kd.C_alloc ?_ _) | (with_reducible refine Kd.C_drewN ?_ _) | (with_reducible refine Kd.C_drew ?_))); (case side2 => exact HC0.out); rintro e w' ⟨rfl, ⟨nd, rfl⟩⟩; refine ⟨_, rfl, ?_⟩) | ((with_reducible refine gate_callee (f := 13) rfl ?_); refine goesL_ (some 27) rfl rfl Try.func13 (by kernel_rfl) rfl #[.slice A0 l0.length c0] rfl (by (try simp only [List.map_toArray, List.map_cons, List.map_nil]); first | done | rfl | (simp only [List.length_drop, List.length_take]; rfl)) ?_; (with_reducible refine (laws_toJobS.calls k _ _ l0 t542 _ ?side1 ?side2 A6.out).mono ?_); (case side1 => repeat (first | exact HR0.out | (with_reducible refine Kd.C_alloc ?_ _) | (with_reducible refine Kd.C_drewN ?_ _) | (with_reducible refine Kd.C_drew ?_))); (case side2 => exact HC0.out); rintro e w13 ⟨v543, rfl, ho0, hb⟩; refine ⟨_, rfl, ?_⟩; have n0_ := Aside0.mk (Kd.R_lower ho0 (below_size (by repeat (first | (with_reducible first | exact HB.out | apply below_alloc | apply pw_below_drewN | apply below_drew1) | exact HB.out)))); have n1_ := Aside0.mk (below_step (by repeat (first | (with_reducible first | exact HB.out | apply below_alloc | apply pw_below_drewN | apply below_drew1) | exact HB.out)) hb); clear HB; have HO544 := n0_; have HB := n1_; clear n0_ n1_; (try clear hb); (try clear hb2); (try clear hk); (try clear hi); (try clear ho0)) | ((with_reducible refine gate_callee (f := 14) rfl ?_); refine goesL_ (some 29) rfl rfl Try.func14 (by kernel_rfl) rfl #[.slice A1 l1.length c1] rfl (by (try simp only [List.map_toArray, List.map_cons, List.map_nil]); first | done | rfl | (simp only [List.length_drop, List.length_take]; rfl)) ?_; (with_reducible refine (laws_toIntS.calls k _ _ l1 t545 _ ?side1 ?side2 A7.out).mono ?_); (case side1 => repeat (first | exact (Kd.C_below HR1.out HB.out) | (with_reducible refine Kd.C_alloc ?_ _) | (with_reducible refine Kd.C_drewN ?_ _) | (with_reducible refine Kd.C_drew ?_))); (case side2 => exact HC1.out); rintro e w14 ⟨v546, rfl, ho0, hb⟩; refine ⟨_, rfl, ?_⟩; have n0_ := Aside0.mk (Kd.R_below (by (with_reducible repeat (first | apply Kd.R_alloc | apply Kd.R_drewN | apply Kd.R_drew)); exact HO544.out) hb); have n1_ := Aside0.mk (Kd.R_lower ho0 (below_size (by repeat (first | (with_reducible first | exact HB.out | apply below_alloc | apply pw_below_drewN | apply below_drew1) | exact HB.out)))); have n2_ := Aside0.mk (below_step (by repeat (first | (with_reducible first | exact HB.out | apply below_alloc | apply pw_below_drewN | apply below_drew1) | exact HB.out)) hb); clear HO544; clear HB; have HO544 := n0_; have HO547 := n1_; have HB := n2_; clear n0_ n1_ n2_; (try clear hb); (try clear hb2); (try clear hk); (try clear hi); (try clear ho0); obtain ⟨Ao15, co15, eo15⟩ := Kd.R_slice HO544.out; subst eo15; obtain ⟨Ao16, co16, eo16⟩ := Kd.R_slice HO547.out; subst eo16) | ((with_reducible refine gate_callee (f := 33) rfl ?_); refine goesL_ (some 30) rfl rfl Try.func33 (by kernel_rfl) rfl #[.slice Ao15 t542.length co15, .slice Ao16 t545.length co16] rfl (by (try simp only [List.map_toArray, List.map_cons, List.map_nil]); first | done | rfl | (simp only [List.length_drop, List.length_take]; rfl)) ?_; (with_reducible refine (spec_DeficitStarts.calls k _ _ t542 _ _ t545 t548 t549 _ ?side1 ?side2 ?side3 ?side4 A8.out).mono ?_); (case side1 => repeat (first | exact (Kd.R_reads' HO544.out).2.2 | (with_reducible refine Kd.C_alloc ?_ _) | (with_reducible refine Kd.C_drewN ?_ _) | (with_reducible refine Kd.C_drew ?_))); (case side2 => exact (Kd.R_reads' HO544.out).2.1); (case side3 => repeat (first | exact (Kd.R_reads' HO547.out).2.2 | (with_reducible refine Kd.C_alloc ?_ _) | (with_reducible refine Kd.C_drewN ?_ _) | (with_reducible refine Kd.C_drew ?_))); (case side4 => exact (Kd.R_reads' HO547.out).2.1); rintro e w17 ⟨v550, rfl, ho0, hb⟩; refine ⟨_, rfl, ?_⟩; have n0_ := Aside0.mk (Kd.R_below (by (with_reducible repeat (first | apply Kd.R_alloc | apply Kd.R_drewN | apply Kd.R_drew)); exact HO544.out) hb); have n1_ := Aside0.mk (Kd.R_elder' (by (with_reducible repeat (first | apply Kd.R_alloc | apply Kd.R_drewN | apply Kd.R_drew)); exact HO547.out) (Kd.R_base ho0) hb); have n2_ := Aside0.mk (Kd.R_lower (Kd.R_new' ho0 (Kd.R_lt (by (with_reducible repeat (first | apply Kd.R_alloc | apply Kd.R_drewN | apply Kd.R_drew)); exact HO547.out))) (below_size (by repeat (first | (with_reducible first | exact HB.out | apply below_alloc | apply pw_below_drewN | apply below_drew1) | exact HB.out)))); have n3_ := Aside0.mk (below_step (by repeat (first | (with_reducible first | exact HB.out | apply below_alloc | apply pw_below_drewN | apply below_drew1) | exact HB.out)) hb); clear HO544; clear HO547; clear HB; have HO544 := n0_; have HO547 := n1_; have HO551 := n2_; have HB := n3_; clear n0_ n1_ n2_ n3_; (try clear hb); (try clear hb2); (try clear hk); (try clear hi); (try clear ho0)) | ((with_reducible refine gate_callee (f := 13) rfl ?_); refine goesL_ (some 34) rfl rfl Try.func13 (by kernel_rfl) rfl #[.slice A0 l0.length c0] rfl (by (try simp only [List.map_toArray, List.map_cons, List.map_nil]); first | done | rfl | (simp only [List.length_drop, List.length_take]; rfl)) ?_; (with_reducible refine (laws_toJobS.calls k _ _ l0 t552 _ ?side1 ?side2 A9.out).mono ?_); (case side1 => repeat (first | exact (Kd.C_below HR0.out HB.out) | (with_reducible refine Kd.C_alloc ?_ _) | (with_reducible refine Kd.C_drewN ?_ _) | (with_reducible refine Kd.C_drew ?_))); (case side2 => exact HC0.out); rintro e w18 ⟨v553, rfl, ho0, hb⟩; refine ⟨_, rfl, ?_⟩; have n0_ := Aside0.mk (Kd.R_elder' (by (with_reducible repeat (first | apply Kd.R_alloc | apply Kd.R_drewN | apply Kd.R_drew)); exact HO544.out) (Kd.R_base ho0) hb); have n1_ := Aside0.mk (Kd.R_below (by (with_reducible repeat (first | apply Kd.R_alloc | apply Kd.R_drewN | apply Kd.R_drew)); exact HO547.out) hb); have n2_ := Aside0.mk (Kd.R_below (by (with_reducible repeat (first | apply Kd.R_alloc | apply Kd.R_drewN | apply Kd.R_drew)); exact HO551.out) hb); have n3_ := Aside0.mk (Kd.R_lower (Kd.R_new' ho0 (Kd.R_lt (by (with_reducible repeat (first | apply Kd.R_alloc | apply Kd.R_drewN | apply Kd.R_drew)); exact HO544.out))) (below_size (by repeat (first | (with_reducible first | exact HB.out | apply below_alloc | apply pw_below_drewN | apply below_drew1) | exact HB.out)))); have n4_ := Aside0.mk (below_step (by repeat (first | (with_reducible first | exact HB.out | apply below_alloc | apply pw_below_drewN | apply below_drew1) | exact HB.out)) hb); clear HO544; clear HO547; clear HO551; clear HB; have HO544 := n0_; have HO547 := n1_; have HO551 := n2_; have HO554 := n3_; have HB := n4_; clear n0_ n1_ n2_ n3_ n4_; (try clear hb); (try clear hb2); (try clear hk); (try clear hi); (try clear ho0)) | ((with_reducible refine gate_callee (f := 14) rfl ?_); refine goesL_ (some 36) rfl rfl Try.func14 (by kernel_rfl) rfl #[.slice A1 l1.length c1] rfl (by (try simp only [List.map_toArray, List.map_cons, List.map_nil]); first | done | rfl | (simp only [List.length_drop, List.length_take]; rfl)) ?_; (with_reducible refine (laws_toIntS.calls k _ _ l1 t555 _ ?side1 ?side2 A10.out).mono ?_); (case side1 => repeat (first | exact (Kd.C_below HR1.out HB.out) | (with_reducible refine Kd.C_alloc ?_ _) | (with_reducible refine Kd.C_drewN ?_ _) | (with_reducible refine Kd.C_drew ?_))); (case side2 => exact HC1.out); rintro e w19 ⟨v556, rfl, ho0, hb⟩; refine ⟨_, rfl, ?_⟩; have n0_ := Aside0.mk (Kd.R_below (by (with_reducible repeat (first | apply Kd.R_alloc | apply Kd.R_drewN | apply Kd.R_drew)); exact HO544.out) hb); have n1_ := Aside0.mk (Kd.R_elder' (by (with_reducible repeat (first | apply Kd.R_alloc | apply Kd.R_drewN | apply Kd.R_drew)); exact HO547.out) (Kd.R_base ho0) hb); have n2_ := Aside0.mk (Kd.R_elder' (by (with_reducible repeat (first | apply Kd.R_alloc | apply Kd.R_drewN | apply Kd.R_drew)); exact HO551.out) (Kd.R_base ho0) hb); have n3_ := Aside0.mk (Kd.R_below (by (with_reducible repeat (first | apply Kd.R_alloc | apply Kd.R_drewN | apply Kd.R_drew)); exact HO554.out) hb); have n4_ := Aside0.mk (Kd.R_lower (Kd.R_new' (Kd.R_new' ho0 (Kd.R_lt (by (with_reducible repeat (first | apply Kd.R_alloc | apply Kd.R_drewN | apply Kd.R_drew)); exact HO547.out))) (Kd.R_lt (by (with_reducible repeat (first | apply Kd.R_alloc | apply Kd.R_drewN | apply Kd.R_drew)); exact HO551.out))) (below_size (by repeat (first | (with_reducible first | exact HB.out | apply below_alloc | apply pw_below_drewN | apply below_drew1) | exact HB.out)))); have n5_ := Aside0.mk (below_step (by repeat (first | (with_reducible first | exact HB.out | apply below_alloc | apply pw_below_drewN | apply below_drew1) | exact HB.out)) hb); clear HO544; clear HO547; clear HO551; clear HO554; clear HB; have HO544 := n0_; have HO547 := n1_; have HO551 := n2_; have HO554 := n3_; have HO557 := n4_; have HB := n5_; clear n0_ n1_ n2_ n3_ n4_ n5_; (try clear hb); (try clear hb2); (try clear hk); (try clear hi); (try clear ho0); obtain ⟨Ao20, co20, eo20⟩ := Kd.R_slice HO554.out; subst eo20; obtain ⟨Ao21, co21, eo21⟩ := Kd.R_slice HO557.out; subst eo21) | ((with_reducible refine gate_callee (f := 34) rfl ?_); refine goesL_ (some 40) rfl rfl Try.func34 (by kernel_rfl) rfl #[.slice Ao20 t552.length co20, .slice Ao21 t555.length co21] rfl (by (try simp only [List.map_toArray, List.map_cons, List.map_nil]); first | done | rfl | (simp only [List.length_drop, List.length_take]; rfl)) ?_; (with_reducible refine (impl_DeficitStarts.calls k _ _ t552 _ _ t555 t558 t559 _ ?side1 ?side2 ?side3 ?side4 A11.out).mono ?_); (case side1 => repeat (first | exact (Kd.R_reads' HO554.out).2.2 | (with_reducible refine Kd.C_alloc ?_ _) | (with_reducible refine Kd.C_drewN ?_ _) | (with_reducible refine Kd.C_drew ?_))); (case side2 => exact (Kd.R_reads' HO554.out).2.1); (case side3 => repeat (first | exact (Kd.R_reads' HO557.out).2.2 | (with_reducible refine Kd.C_alloc ?_ _) | (with_reducible refine Kd.C_drewN ?_ _) | (with_reducible refine Kd.C_drew ?_))); (case side4 => exact (Kd.R_reads' HO557.out).2.1); rintro e w22 ⟨v560, rfl, ho0, hb⟩; refine ⟨_, rfl, ?_⟩; have n0_ := Aside0.mk (Kd.R_below (by (with_reducible repeat (first | apply Kd.R_alloc | apply Kd.R_drewN | apply Kd.R_drew)); exact HO544.out) hb); have n1_ := Aside0.mk (Kd.R_elder' (by (with_reducible repeat (first | apply Kd.R_alloc | apply Kd.R_drewN | apply Kd.R_drew)); exact HO547.out) (Kd.R_base ho0) hb); have n2_ := Aside0.mk (Kd.R_elder' (by (with_reducible repeat (first | apply Kd.R_alloc | apply Kd.R_drewN | apply Kd.R_drew)); exact HO551.out) (Kd.R_base ho0) hb); have n3_ := Aside0.mk (Kd.R_below (by (with_reducible repeat (first | apply Kd.R_alloc | apply Kd.R_drewN | apply Kd.R_drew)); exact HO554.out) hb); have n4_ := Aside0.mk (Kd.R_elder' (by (with_reducible repeat (first | apply Kd.R_alloc | apply Kd.R_drewN | apply Kd.R_drew)); exact HO557.out) (Kd.R_base ho0) hb); have n5_ := Aside0.mk (Kd.R_lower (Kd.R_new' (Kd.R_new' (Kd.R_new' ho0 (Kd.R_lt (by (with_reducible repeat (first | apply Kd.R_alloc | apply Kd.R_drewN | apply Kd.R_drew)); exact HO547.out))) (Kd.R_lt (by (with_reducible repeat (first | apply Kd.R_alloc | apply Kd.R_drewN | apply Kd.R_drew)); exact HO551.out))) (Kd.R_lt (by (with_reducible repeat (first | apply Kd.R_alloc | apply Kd.R_drewN | apply Kd.R_drew)); exact HO557.out))) (below_size (by repeat (first | (with_reducible first | exact HB.out | apply below_alloc | apply pw_below_drewN | apply below_drew1) | exact HB.out)))); have n6_ := Aside0.mk (below_step (by repeat (first | (with_reducible first | exact HB.out | apply below_alloc | apply pw_below_drewN | apply below_drew1) | exact HB.out)) hb); clear HO544; clear HO547; clear HO551; clear HO554; clear HO557; clear HB; have HO544 := n0_; have HO547 := n1_; have HO551 := n2_; have HO554 := n3_; have HO557 := n4_; have HO561 := n5_; have HB := n6_; clear n0_ n1_ n2_ n3_ n4_ n5_ n6_; (try clear hb); (try clear hb2); (try clear hk); (try clear hi); (try clear ho0)))
      (try simp only [Act.put, List.setIfInBounds_toArray, List.set_cons_zero, List.set_cons_succ])
      go_cut [51] (fun v51 wc => ∃ (kq : Nat) (x51_11 : Bool), v51 = .bool x51_11 ∧ Aside0 (laws_FnExactDeficitStarts.j0 kq l0 l1 t548 t549 t552 t555 t558 t559 x51_11 = some r) ∧ Aside0 (kq ≤ k) ∧ Aside0 (Kd.R (Kd.int .i64) 3 wc w.heap.size (fun k_ => some k_ ≠ ((.slice Ao21 t555.length co21) : Value).ownBlock ∧ some k_ ≠ (v560 : Value).ownBlock) v550 t548) ∧ Aside0 (Kd.R k43 43 wc w.heap.size (fun _ => True) (.slice Ao20 t552.length co20) t552) ∧ Aside0 (Kd.R (Kd.int .i64) 3 wc w.heap.size (fun k_ => some k_ ≠ (v550 : Value).ownBlock ∧ some k_ ≠ (v560 : Value).ownBlock) (.slice Ao21 t555.length co21) t555) ∧ Aside0 (Kd.R (Kd.int .i64) 3 wc w.heap.size (fun k_ => some k_ ≠ (v550 : Value).ownBlock ∧ some k_ ≠ ((.slice Ao21 t555.length co21) : Value).ownBlock) v560 t558) ∧ Aside0 (Below w.heap.size w wc))
      case first =>
        have H := HC12.out
        clear HC12
        replace H := Option.bind_eq_some_iff.mp H
        obtain ⟨t562, A230, H⟩ := H
        replace H : (if t562 = true then (laws_FnExactDeficitStarts.j0 k l0 l1 t548 t549 t552 t555 t558 t559 (t559 != t549)) else (laws_FnExactDeficitStarts.j0 k l0 l1 t548 t549 t552 t555 t558 t559 true)) = some r := H
        have A23 := Aside0.mk A230
        clear A230
        by_cases c24 : t562 = true
        · subst c24
          have H1 : (laws_FnExactDeficitStarts.j0 k l0 l1 t548 t549 t552 t555 t558 t559 (t559 != t549)) = some r := by rw [if_pos rfl] at H; exact H
          clear H
          have H := H1
          clear H1
          have H' := Aside0.mk H
          clear H
          obtain ⟨Ao25, co25, eo25⟩ := Kd.R_slice HO561.out
          subst eo25
          obtain ⟨Ao26, co26, eo26⟩ := Kd.R_slice HO551.out
          subst eo26
          go_wp2_with (first | ((with_reducible refine gate_callee (f := 16) rfl ?_); refine goesL_ (some 45) rfl rfl Try.func16 (by kernel_rfl) rfl #[.slice Ao25 t558.length co25, .slice Ao26 t548.length co26] rfl (by (try simp only [List.map_toArray, List.map_cons, List.map_nil]); first | done | rfl | (simp only [List.length_drop, List.length_take]; rfl)) ?_; (with_reducible refine (laws_eqIntS.calls k _ _ t558 _ _ t548 true _ ?side1 ?side2 ?side3 ?side4 A23.out).mono ?_); (case side1 => repeat (first | exact (Kd.R_reads' HO561.out).2.2 | (with_reducible refine Kd.C_alloc ?_ _) | (with_reducible refine Kd.C_drewN ?_ _) | (with_reducible refine Kd.C_drew ?_))); (case side2 => exact (Kd.R_reads' HO561.out).2.1); (case side3 => repeat (first | exact (Kd.R_reads' HO551.out).2.2 | (with_reducible refine Kd.C_alloc ?_ _) | (with_reducible refine Kd.C_drewN ?_ _) | (with_reducible refine Kd.C_drew ?_))); (case side4 => exact (Kd.R_reads' HO551.out).2.1); rintro e w' ⟨rfl, ⟨nd, rfl⟩⟩; refine ⟨_, rfl, ?_⟩))
          go_meet
          case rel => exact ⟨_, ((t559 != t549)), (by first | rfl | (simp; done) | (simp [*]; done)), H', ⟨by first | omega | exact Nat.le_refl _⟩, ⟨by (with_reducible repeat (first | apply Kd.R_alloc | apply Kd.R_drewN | apply Kd.R_drew)); exact Kd.R_mono HO551.out (fun _ hk => ⟨hk.1.2, hk.2⟩)⟩, ⟨by (with_reducible repeat (first | apply Kd.R_alloc | apply Kd.R_drewN | apply Kd.R_drew)); exact Kd.R_mono HO554.out (fun _ hk => trivial)⟩, ⟨by (with_reducible repeat (first | apply Kd.R_alloc | apply Kd.R_drewN | apply Kd.R_drew)); exact Kd.R_mono HO557.out (fun _ hk => ⟨hk.1.2, hk.2⟩)⟩, ⟨by (with_reducible repeat (first | apply Kd.R_alloc | apply Kd.R_drewN | apply Kd.R_drew)); exact Kd.R_mono HO561.out (fun _ hk => ⟨hk.1.2, hk.2⟩)⟩, ⟨by repeat (first | (with_reducible first | exact HB.out | apply below_alloc | apply pw_below_drewN | apply below_drew1) | exact HB.out)⟩⟩
        · replace c24 := Bool.eq_false_iff.mpr c24
          subst c24
          have H1 : (laws_FnExactDeficitStarts.j0 k l0 l1 t548 t549 t552 t555 t558 t559 true) = some r := by rw [if_neg (show ¬ (false = true) by decide)] at H; exact H
          clear H
          have H := H1
          clear H1
          have H' := Aside0.mk H
          clear H
          obtain ⟨Ao27, co27, eo27⟩ := Kd.R_slice HO561.out
          subst eo27
          obtain ⟨Ao28, co28, eo28⟩ := Kd.R_slice HO551.out
          subst eo28
          go_wp2_with (first | ((with_reducible refine gate_callee (f := 16) rfl ?_); refine goesL_ (some 45) rfl rfl Try.func16 (by kernel_rfl) rfl #[.slice Ao27 t558.length co27, .slice Ao28 t548.length co28] rfl (by (try simp only [List.map_toArray, List.map_cons, List.map_nil]); first | done | rfl | (simp only [List.length_drop, List.length_take]; rfl)) ?_; (with_reducible refine (laws_eqIntS.calls k _ _ t558 _ _ t548 false _ ?side1 ?side2 ?side3 ?side4 A23.out).mono ?_); (case side1 => repeat (first | exact (Kd.R_reads' HO561.out).2.2 | (with_reducible refine Kd.C_alloc ?_ _) | (with_reducible refine Kd.C_drewN ?_ _) | (with_reducible refine Kd.C_drew ?_))); (case side2 => exact (Kd.R_reads' HO561.out).2.1); (case side3 => repeat (first | exact (Kd.R_reads' HO551.out).2.2 | (with_reducible refine Kd.C_alloc ?_ _) | (with_reducible refine Kd.C_drewN ?_ _) | (with_reducible refine Kd.C_drew ?_))); (case side4 => exact (Kd.R_reads' HO551.out).2.1); rintro e w' ⟨rfl, ⟨nd, rfl⟩⟩; refine ⟨_, rfl, ?_⟩))
          go_meet
          case rel => exact ⟨_, (true), (by first | rfl | (simp; done) | (simp [*]; done)), H', ⟨by first | omega | exact Nat.le_refl _⟩, ⟨by (with_reducible repeat (first | apply Kd.R_alloc | apply Kd.R_drewN | apply Kd.R_drew)); exact Kd.R_mono HO551.out (fun _ hk => ⟨hk.1.2, hk.2⟩)⟩, ⟨by (with_reducible repeat (first | apply Kd.R_alloc | apply Kd.R_drewN | apply Kd.R_drew)); exact Kd.R_mono HO554.out (fun _ hk => trivial)⟩, ⟨by (with_reducible repeat (first | apply Kd.R_alloc | apply Kd.R_drewN | apply Kd.R_drew)); exact Kd.R_mono HO557.out (fun _ hk => ⟨hk.1.2, hk.2⟩)⟩, ⟨by (with_reducible repeat (first | apply Kd.R_alloc | apply Kd.R_drewN | apply Kd.R_drew)); exact Kd.R_mono HO561.out (fun _ hk => ⟨hk.1.2, hk.2⟩)⟩, ⟨by repeat (first | (with_reducible first | exact HB.out | apply below_alloc | apply pw_below_drewN | apply below_drew1) | exact HB.out)⟩⟩
      case rest =>
        clear HC12
        try clear c1
        try clear c2
        try clear p2
        try clear c3
        try clear c3b0
        try clear c3b1
        try clear c5
        try clear c5b0
        try clear c10
        try clear c11
        try clear c13
        try clear c14
        try clear c16
        try clear c24
        obtain ⟨kq, x51_11, rfl, HA, HJ11, HO_6, HO_8, HO_9, HO_10, HB⟩ := hcut
        cases kq with
        | zero => exact absurd HA.out (by simp [laws_FnExactDeficitStarts.j0])
        | succ kj11 =>
          have H := HA.out
          clear HA
          simp only [laws_FnExactDeficitStarts.j0] at H
          by_cases c29 : x51_11 = true
          · subst c29
            have H1 : (some false) = some r := by rw [if_pos rfl] at H; exact H
            clear H
            have H := H1
            clear H1
            obtain rfl := Option.some.inj H
            go_wp2
            go_ret
            exact ⟨by first | rfl | (simp [errW_none, errW_some] <;> rfl) | (simp [*, errW_none, errW_some] <;> rfl), by repeat (first | (with_reducible first | exact HB.out | apply below_alloc | apply pw_below_drewN | apply below_drew1) | exact HB.out)⟩
          · replace c29 := Bool.eq_false_iff.mpr c29
            subst c29
            have H1 : ((laws_toJobS.f kj11 l0).bind fun t563 => ((laws_eqJobS.f kj11 t552 t563).bind fun t566 => (if t566 = true then ((laws_toIntS.f kj11 l1).bind fun t567 => ((laws_eqIntS.f kj11 t555 t567).bind fun t570 => (if t570 = true then ((laws_markJobS.f kj11 t552 1).bind fun bt571 => ((laws_markIntS.f kj11 t555 bt571.1).bind fun bt573 => (if bt573.1 < 0 then (laws_FnExactDeficitStarts.j1 kj11 l0 l1 t548 t549 t558 true) else ((laws_eqIntS.f kj11 t558 t548).bind fun t575 => (if t575 = true then (laws_FnExactDeficitStarts.j1 kj11 l0 l1 t548 t549 t558 (t559 != t549)) else (laws_FnExactDeficitStarts.j1 kj11 l0 l1 t548 t549 t558 true)))))) else (some false)))) else (some false)))) = some r := by rw [if_neg (show ¬ (false = true) by decide)] at H; exact H
            clear H
            have H := H1
            clear H1
            replace H := Option.bind_eq_some_iff.mp H
            obtain ⟨t563, A300, H⟩ := H
            replace H : ((laws_eqJobS.f kj11 t552 t563).bind fun t566 => (if t566 = true then ((laws_toIntS.f kj11 l1).bind fun t567 => ((laws_eqIntS.f kj11 t555 t567).bind fun t570 => (if t570 = true then ((laws_markJobS.f kj11 t552 1).bind fun bt571 => ((laws_markIntS.f kj11 t555 bt571.1).bind fun bt573 => (if bt573.1 < 0 then (laws_FnExactDeficitStarts.j1 kj11 l0 l1 t548 t549 t558 true) else ((laws_eqIntS.f kj11 t558 t548).bind fun t575 => (if t575 = true then (laws_FnExactDeficitStarts.j1 kj11 l0 l1 t548 t549 t558 (t559 != t549)) else (laws_FnExactDeficitStarts.j1 kj11 l0 l1 t548 t549 t558 true)))))) else (some false)))) else (some false))) = some r := H
            have A30 := Aside0.mk A300
            clear A300
            replace H := Option.bind_eq_some_iff.mp H
            obtain ⟨t566, A310, H⟩ := H
            replace H : (if t566 = true then ((laws_toIntS.f kj11 l1).bind fun t567 => ((laws_eqIntS.f kj11 t555 t567).bind fun t570 => (if t570 = true then ((laws_markJobS.f kj11 t552 1).bind fun bt571 => ((laws_markIntS.f kj11 t555 bt571.1).bind fun bt573 => (if bt573.1 < 0 then (laws_FnExactDeficitStarts.j1 kj11 l0 l1 t548 t549 t558 true) else ((laws_eqIntS.f kj11 t558 t548).bind fun t575 => (if t575 = true then (laws_FnExactDeficitStarts.j1 kj11 l0 l1 t548 t549 t558 (t559 != t549)) else (laws_FnExactDeficitStarts.j1 kj11 l0 l1 t548 t549 t558 true)))))) else (some false)))) else (some false)) = some r := H
            have A31 := Aside0.mk A310
            clear A310
            by_cases c32 : t566 = true
            · subst c32
              have H1 : ((laws_toIntS.f kj11 l1).bind fun t567 => ((laws_eqIntS.f kj11 t555 t567).bind fun t570 => (if t570 = true then ((laws_markJobS.f kj11 t552 1).bind fun bt571 => ((laws_markIntS.f kj11 t555 bt571.1).bind fun bt573 => (if bt573.1 < 0 then (laws_FnExactDeficitStarts.j1 kj11 l0 l1 t548 t549 t558 true) else ((laws_eqIntS.f kj11 t558 t548).bind fun t575 => (if t575 = true then (laws_FnExactDeficitStarts.j1 kj11 l0 l1 t548 t549 t558 (t559 != t549)) else (laws_FnExactDeficitStarts.j1 kj11 l0 l1 t548 t549 t558 true)))))) else (some false)))) = some r := by rw [if_pos rfl] at H; exact H
              clear H
              have H := H1
              clear H1
              replace H := Option.bind_eq_some_iff.mp H
              obtain ⟨t567, A330, H⟩ := H
              replace H : ((laws_eqIntS.f kj11 t555 t567).bind fun t570 => (if t570 = true then ((laws_markJobS.f kj11 t552 1).bind fun bt571 => ((laws_markIntS.f kj11 t555 bt571.1).bind fun bt573 => (if bt573.1 < 0 then (laws_FnExactDeficitStarts.j1 kj11 l0 l1 t548 t549 t558 true) else ((laws_eqIntS.f kj11 t558 t548).bind fun t575 => (if t575 = true then (laws_FnExactDeficitStarts.j1 kj11 l0 l1 t548 t549 t558 (t559 != t549)) else (laws_FnExactDeficitStarts.j1 kj11 l0 l1 t548 t549 t558 true)))))) else (some false))) = some r := H
              have A33 := Aside0.mk A330
              clear A330
              replace H := Option.bind_eq_some_iff.mp H
              obtain ⟨t570, A340, H⟩ := H
              replace H : (if t570 = true then ((laws_markJobS.f kj11 t552 1).bind fun bt571 => ((laws_markIntS.f kj11 t555 bt571.1).bind fun bt573 => (if bt573.1 < 0 then (laws_FnExactDeficitStarts.j1 kj11 l0 l1 t548 t549 t558 true) else ((laws_eqIntS.f kj11 t558 t548).bind fun t575 => (if t575 = true then (laws_FnExactDeficitStarts.j1 kj11 l0 l1 t548 t549 t558 (t559 != t549)) else (laws_FnExactDeficitStarts.j1 kj11 l0 l1 t548 t549 t558 true)))))) else (some false)) = some r := H
              have A34 := Aside0.mk A340
              clear A340
              by_cases c35 : t570 = true
              · subst c35
                have H1 : ((laws_markJobS.f kj11 t552 1).bind fun bt571 => ((laws_markIntS.f kj11 t555 bt571.1).bind fun bt573 => (if bt573.1 < 0 then (laws_FnExactDeficitStarts.j1 kj11 l0 l1 t548 t549 t558 true) else ((laws_eqIntS.f kj11 t558 t548).bind fun t575 => (if t575 = true then (laws_FnExactDeficitStarts.j1 kj11 l0 l1 t548 t549 t558 (t559 != t549)) else (laws_FnExactDeficitStarts.j1 kj11 l0 l1 t548 t549 t558 true)))))) = some r := by rw [if_pos rfl] at H; exact H
                clear H
                have H := H1
                clear H1
                replace H := Option.bind_eq_some_iff.mp H
                obtain ⟨⟨t571, t572⟩, A360, H⟩ := H
                replace H : ((laws_markIntS.f kj11 t555 t571).bind fun bt573 => (if bt573.1 < 0 then (laws_FnExactDeficitStarts.j1 kj11 l0 l1 t548 t549 t558 true) else ((laws_eqIntS.f kj11 t558 t548).bind fun t575 => (if t575 = true then (laws_FnExactDeficitStarts.j1 kj11 l0 l1 t548 t549 t558 (t559 != t549)) else (laws_FnExactDeficitStarts.j1 kj11 l0 l1 t548 t549 t558 true))))) = some r := H
                have A36 := Aside0.mk A360
                clear A360
                replace H := Option.bind_eq_some_iff.mp H
                obtain ⟨⟨t573, t574⟩, A370, H⟩ := H
                replace H : (if t573 < 0 then (laws_FnExactDeficitStarts.j1 kj11 l0 l1 t548 t549 t558 true) else ((laws_eqIntS.f kj11 t558 t548).bind fun t575 => (if t575 = true then (laws_FnExactDeficitStarts.j1 kj11 l0 l1 t548 t549 t558 (t559 != t549)) else (laws_FnExactDeficitStarts.j1 kj11 l0 l1 t548 t549 t558 true)))) = some r := H
                have A37 := Aside0.mk A370
                clear A370
                have HC38 := Aside0.mk H
                clear H
                go_upto_region 20 with (first | ((with_reducible refine gate_callee (f := 13) rfl ?_); refine goesL_ (some 54) rfl rfl Try.func13 (by kernel_rfl) rfl #[.slice A0 l0.length c0] rfl (by (try simp only [List.map_toArray, List.map_cons, List.map_nil]); first | done | rfl | (simp only [List.length_drop, List.length_take]; rfl)) ?_; (with_reducible refine (laws_toJobS.calls kj11 _ _ l0 t563 _ ?side1 ?side2 A30.out).mono ?_); (case side1 => repeat (first | exact (Kd.C_below HR0.out HB.out) | (with_reducible refine Kd.C_alloc ?_ _) | (with_reducible refine Kd.C_drewN ?_ _) | (with_reducible refine Kd.C_drew ?_))); (case side2 => exact HC0.out); rintro e w39 ⟨v564, rfl, ho0, hb⟩; refine ⟨_, rfl, ?_⟩; have n0_ := Aside0.mk (Kd.R_below (by (with_reducible repeat (first | apply Kd.R_alloc | apply Kd.R_drewN | apply Kd.R_drew)); exact HO_6.out) hb); have n1_ := Aside0.mk (Kd.R_elder' (by (with_reducible repeat (first | apply Kd.R_alloc | apply Kd.R_drewN | apply Kd.R_drew)); exact HO_8.out) (Kd.R_base ho0) hb); have n2_ := Aside0.mk (Kd.R_below (by (with_reducible repeat (first | apply Kd.R_alloc | apply Kd.R_drewN | apply Kd.R_drew)); exact HO_9.out) hb); have n3_ := Aside0.mk (Kd.R_below (by (with_reducible repeat (first | apply Kd.R_alloc | apply Kd.R_drewN | apply Kd.R_drew)); exact HO_10.out) hb); have n4_ := Aside0.mk (Kd.R_lower (Kd.R_new' ho0 (Kd.R_lt (by (with_reducible repeat (first | apply Kd.R_alloc | apply Kd.R_drewN | apply Kd.R_drew)); exact HO_8.out))) (below_size (by repeat (first | (with_reducible first | exact HB.out | apply below_alloc | apply pw_below_drewN | apply below_drew1) | exact HB.out)))); have n5_ := Aside0.mk (below_step (by repeat (first | (with_reducible first | exact HB.out | apply below_alloc | apply pw_below_drewN | apply below_drew1) | exact HB.out)) hb); clear HO_6; clear HO_8; clear HO_9; clear HO_10; clear HB; have HO_6 := n0_; have HO_8 := n1_; have HO_9 := n2_; have HO_10 := n3_; have HO565 := n4_; have HB := n5_; clear n0_ n1_ n2_ n3_ n4_ n5_; (try clear hb); (try clear hb2); (try clear hk); (try clear hi); (try clear ho0); obtain ⟨Ao40, co40, eo40⟩ := Kd.R_slice HO565.out; subst eo40) | ((with_reducible refine gate_callee (f := 17) rfl ?_); refine goesL_ (some 55) rfl rfl Try.func17 (by kernel_rfl) rfl #[.slice Ao20 t552.length co20, .slice Ao40 t563.length co40] rfl (by (try simp only [List.map_toArray, List.map_cons, List.map_nil]); first | done | rfl | (simp only [List.length_drop, List.length_take]; rfl)) ?_; (with_reducible refine (laws_eqJobS.calls kj11 _ _ t552 _ _ t563 true _ ?side1 ?side2 ?side3 ?side4 A31.out).mono ?_); (case side1 => repeat (first | exact (Kd.R_reads' HO_8.out).2.2 | (with_reducible refine Kd.C_alloc ?_ _) | (with_reducible refine Kd.C_drewN ?_ _) | (with_reducible refine Kd.C_drew ?_))); (case side2 => exact (Kd.R_reads' HO_8.out).2.1); (case side3 => repeat (first | exact (Kd.R_reads' HO565.out).2.2 | (with_reducible refine Kd.C_alloc ?_ _) | (with_reducible refine Kd.C_drewN ?_ _) | (with_reducible refine Kd.C_drew ?_))); (case side4 => exact (Kd.R_reads' HO565.out).2.1); rintro e w41 ⟨rfl, hb⟩; refine ⟨_, rfl, ?_⟩; have n0_ := Aside0.mk (Kd.R_below (by (with_reducible repeat (first | apply Kd.R_alloc | apply Kd.R_drewN | apply Kd.R_drew)); exact HO_6.out) hb); have n1_ := Aside0.mk (Kd.R_below (by (with_reducible repeat (first | apply Kd.R_alloc | apply Kd.R_drewN | apply Kd.R_drew)); exact HO_8.out) hb); have n2_ := Aside0.mk (Kd.R_below (by (with_reducible repeat (first | apply Kd.R_alloc | apply Kd.R_drewN | apply Kd.R_drew)); exact HO_9.out) hb); have n3_ := Aside0.mk (Kd.R_below (by (with_reducible repeat (first | apply Kd.R_alloc | apply Kd.R_drewN | apply Kd.R_drew)); exact HO_10.out) hb); have n4_ := Aside0.mk (Kd.R_below (by (with_reducible repeat (first | apply Kd.R_alloc | apply Kd.R_drewN | apply Kd.R_drew)); exact HO565.out) hb); have n5_ := Aside0.mk (below_step (by repeat (first | (with_reducible first | exact HB.out | apply below_alloc | apply pw_below_drewN | apply below_drew1) | exact HB.out)) hb); clear HO_6; clear HO_8; clear HO_9; clear HO_10; clear HO565; clear HB; have HO_6 := n0_; have HO_8 := n1_; have HO_9 := n2_; have HO_10 := n3_; have HO565 := n4_; have HB := n5_; clear n0_ n1_ n2_ n3_ n4_ n5_; (try clear hb); (try clear hb2); (try clear hk); (try clear hi)) | ((with_reducible refine gate_callee (f := 14) rfl ?_); refine goesL_ (some 59) rfl rfl Try.func14 (by kernel_rfl) rfl #[.slice A1 l1.length c1] rfl (by (try simp only [List.map_toArray, List.map_cons, List.map_nil]); first | done | rfl | (simp only [List.length_drop, List.length_take]; rfl)) ?_; (with_reducible refine (laws_toIntS.calls kj11 _ _ l1 t567 _ ?side1 ?side2 A33.out).mono ?_); (case side1 => repeat (first | exact (Kd.C_below HR1.out HB.out) | (with_reducible refine Kd.C_alloc ?_ _) | (with_reducible refine Kd.C_drewN ?_ _) | (with_reducible refine Kd.C_drew ?_))); (case side2 => exact HC1.out); rintro e w42 ⟨v568, rfl, ho0, hb⟩; refine ⟨_, rfl, ?_⟩; have n0_ := Aside0.mk (Kd.R_elder' (by (with_reducible repeat (first | apply Kd.R_alloc | apply Kd.R_drewN | apply Kd.R_drew)); exact HO_6.out) (Kd.R_base ho0) hb); have n1_ := Aside0.mk (Kd.R_below (by (with_reducible repeat (first | apply Kd.R_alloc | apply Kd.R_drewN | apply Kd.R_drew)); exact HO_8.out) hb); have n2_ := Aside0.mk (Kd.R_elder' (by (with_reducible repeat (first | apply Kd.R_alloc | apply Kd.R_drewN | apply Kd.R_drew)); exact HO_9.out) (Kd.R_base ho0) hb); have n3_ := Aside0.mk (Kd.R_elder' (by (with_reducible repeat (first | apply Kd.R_alloc | apply Kd.R_drewN | apply Kd.R_drew)); exact HO_10.out) (Kd.R_base ho0) hb); have n4_ := Aside0.mk (Kd.R_below (by (with_reducible repeat (first | apply Kd.R_alloc | apply Kd.R_drewN | apply Kd.R_drew)); exact HO565.out) hb); have n5_ := Aside0.mk (Kd.R_lower (Kd.R_new' (Kd.R_new' (Kd.R_new' ho0 (Kd.R_lt (by (with_reducible repeat (first | apply Kd.R_alloc | apply Kd.R_drewN | apply Kd.R_drew)); exact HO_6.out))) (Kd.R_lt (by (with_reducible repeat (first | apply Kd.R_alloc | apply Kd.R_drewN | apply Kd.R_drew)); exact HO_9.out))) (Kd.R_lt (by (with_reducible repeat (first | apply Kd.R_alloc | apply Kd.R_drewN | apply Kd.R_drew)); exact HO_10.out))) (below_size (by repeat (first | (with_reducible first | exact HB.out | apply below_alloc | apply pw_below_drewN | apply below_drew1) | exact HB.out)))); have n6_ := Aside0.mk (below_step (by repeat (first | (with_reducible first | exact HB.out | apply below_alloc | apply pw_below_drewN | apply below_drew1) | exact HB.out)) hb); clear HO_6; clear HO_8; clear HO_9; clear HO_10; clear HO565; clear HB; have HO_6 := n0_; have HO_8 := n1_; have HO_9 := n2_; have HO_10 := n3_; have HO565 := n4_; have HO569 := n5_; have HB := n6_; clear n0_ n1_ n2_ n3_ n4_ n5_ n6_; (try clear hb); (try clear hb2); (try clear hk); (try clear hi); (try clear ho0); obtain ⟨Ao43, co43, eo43⟩ := Kd.R_slice HO569.out; subst eo43) | ((with_reducible refine gate_callee (f := 16) rfl ?_); refine goesL_ (some 60) rfl rfl Try.func16 (by kernel_rfl) rfl #[.slice Ao21 t555.length co21, .slice Ao43 t567.length co43] rfl (by (try simp only [List.map_toArray, List.map_cons, List.map_nil]); first | done | rfl | (simp only [List.length_drop, List.length_take]; rfl)) ?_; (with_reducible refine (laws_eqIntS.calls kj11 _ _ t555 _ _ t567 true _ ?side1 ?side2 ?side3 ?side4 A34.out).mono ?_); (case side1 => repeat (first | exact (Kd.R_reads' HO_9.out).2.2 | (with_reducible refine Kd.C_alloc ?_ _) | (with_reducible refine Kd.C_drewN ?_ _) | (with_reducible refine Kd.C_drew ?_))); (case side2 => exact (Kd.R_reads' HO_9.out).2.1); (case side3 => repeat (first | exact (Kd.R_reads' HO569.out).2.2 | (with_reducible refine Kd.C_alloc ?_ _) | (with_reducible refine Kd.C_drewN ?_ _) | (with_reducible refine Kd.C_drew ?_))); (case side4 => exact (Kd.R_reads' HO569.out).2.1); rintro e w' ⟨rfl, ⟨nd, rfl⟩⟩; refine ⟨_, rfl, ?_⟩) | ((with_reducible refine gate_callee (f := 18) rfl ?_); refine goesL_ (some 64) rfl rfl Try.func18 (by kernel_rfl) rfl #[.slice Ao20 t552.length co20, .int .i64 1] rfl (by (try simp only [List.map_toArray, List.map_cons, List.map_nil]); first | done | rfl | (simp only [List.length_drop, List.length_take]; rfl)) ?_; (with_reducible refine (laws_markJobS.calls kj11 (fun k_ => some k_ = (.slice Ao20 t552.length co20 : Value).ownBlock) (.slice Ao20 t552.length co20) t552 1 t571 t572 w _ ?side1 ?side2 A36.out).mono ?_); (case side1 => repeat (first | (with_reducible first | exact HB.out | apply below_alloc | apply pw_below_drewN | apply below_drew1) | exact HB.out)); (case side2 => exact Kd.R_tight rfl HO_8.out); rintro e w44 ⟨rfl, hy0, hb, hkp⟩; refine ⟨_, rfl, ?_⟩; have n0_ := Aside0.mk (Kd.R_mono (ok' := fun k_ => some k_ ≠ (.slice Ao21 t555.length co21 : Value).ownBlock ∧ some k_ ≠ (v560 : Value).ownBlock ∧ some k_ ≠ (.slice Ao43 t567.length co43 : Value).ownBlock) (Kd.R_keptB ((Kd.R_apart' HO_6.out (Kd.R_typed HO_8.out) (by decide))) hkp (fun k_ hk_ hs_ => (hk_.2) hs_)) (fun k_ hk_ => ⟨hk_.1.1.1.1, hk_.1.1.1.2, hk_.1.1.2⟩)); have n1_ := Aside0.mk (Kd.R_reok rfl hy0 (fun k_ e_ => HO_8.out.1 k_ e_)); have n2_ := Aside0.mk (Kd.R_mono (ok' := fun k_ => some k_ ≠ (v550 : Value).ownBlock ∧ some k_ ≠ (v560 : Value).ownBlock ∧ some k_ ≠ (.slice Ao43 t567.length co43 : Value).ownBlock) (Kd.R_keptB ((Kd.R_apart' HO_9.out (Kd.R_typed HO_8.out) (by decide))) hkp (fun k_ hk_ hs_ => (hk_.2) hs_)) (fun k_ hk_ => ⟨hk_.1.1.1.1, hk_.1.1.1.2, hk_.1.1.2⟩)); have n3_ := Aside0.mk (Kd.R_mono (ok' := fun k_ => some k_ ≠ (v550 : Value).ownBlock ∧ some k_ ≠ (.slice Ao21 t555.length co21 : Value).ownBlock ∧ some k_ ≠ (.slice Ao43 t567.length co43 : Value).ownBlock) (Kd.R_keptB ((Kd.R_apart' HO_10.out (Kd.R_typed HO_8.out) (by decide))) hkp (fun k_ hk_ hs_ => (hk_.2) hs_)) (fun k_ hk_ => ⟨hk_.1.1.1.1, hk_.1.1.1.2, hk_.1.1.2⟩)); have n4_ := Aside0.mk (Kd.R_mono (ok' := fun k_ => some k_ ≠ (.slice Ao20 t552.length co20 : Value).ownBlock) (Kd.R_keptB (HO565.out) hkp (fun k_ hk_ hs_ => (hk_.2) hs_)) (fun k_ hk_ => hk_.1.2)); have n5_ := Aside0.mk (Kd.R_mono (ok' := fun k_ => some k_ ≠ (v550 : Value).ownBlock ∧ some k_ ≠ (.slice Ao21 t555.length co21 : Value).ownBlock ∧ some k_ ≠ (v560 : Value).ownBlock) (Kd.R_keptB ((Kd.R_apart' HO569.out (Kd.R_typed HO_8.out) (by decide))) hkp (fun k_ hk_ hs_ => (hk_.2) hs_)) (fun k_ hk_ => ⟨hk_.1.1.1.1.2, hk_.1.1.1.2, hk_.1.1.2⟩)); have n6_ := Aside0.mk (hb); clear HO_6; clear HO_8; clear HO_9; clear HO_10; clear HO565; clear HO569; clear HB; have HO_6 := n0_; have HO_8 := n1_; have HO_9 := n2_; have HO_10 := n3_; have HO565 := n4_; have HO569 := n5_; have HB := n6_; clear n0_ n1_ n2_ n3_ n4_ n5_ n6_; (try clear hb); (try clear hkp); (try clear hy0)) | ((with_reducible refine gate_callee (f := 19) rfl ?_); refine goesL_ (some 67) rfl rfl Try.func19 (by kernel_rfl) rfl #[.slice Ao21 t555.length co21, .int .i64 t571] rfl (by (try simp only [List.map_toArray, List.map_cons, List.map_nil]); first | done | rfl | (simp only [List.length_drop, List.length_take]; rfl)) ?_; (with_reducible refine (laws_markIntS.calls kj11 (fun k_ => some k_ = (.slice Ao21 t555.length co21 : Value).ownBlock) (.slice Ao21 t555.length co21) t555 t571 t573 t574 w _ ?side1 ?side2 A37.out).mono ?_); (case side1 => repeat (first | (with_reducible first | exact HB.out | apply below_alloc | apply pw_below_drewN | apply below_drew1) | exact HB.out)); (case side2 => exact Kd.R_tight rfl HO_9.out); rintro e w45 ⟨rfl, hy0, hb, hkp⟩; refine ⟨_, rfl, ?_⟩; have n0_ := Aside0.mk (Kd.R_mono (ok' := fun k_ => some k_ ≠ (.slice Ao21 t555.length co21 : Value).ownBlock ∧ some k_ ≠ (v560 : Value).ownBlock ∧ some k_ ≠ (.slice Ao43 t567.length co43 : Value).ownBlock) (Kd.R_keptB (HO_6.out) hkp (fun k_ hk_ hs_ => (hk_.1) hs_)) (fun k_ hk_ => ⟨hk_.1.1, hk_.1.2.1, hk_.1.2.2⟩)); have n1_ := Aside0.mk (Kd.R_mono (ok' := fun k_ => some k_ ≠ (.slice Ao40 t563.length co40 : Value).ownBlock) (Kd.R_keptB ((Kd.R_apart' HO_8.out (Kd.R_typed HO_9.out) (by decide))) hkp (fun k_ hk_ hs_ => (hk_.2) hs_)) (fun k_ hk_ => hk_.1.1.2)); have n2_ := Aside0.mk (Kd.R_reok rfl hy0 (fun k_ e_ => HO_9.out.1 k_ e_)); have n3_ := Aside0.mk (Kd.R_mono (ok' := fun k_ => some k_ ≠ (v550 : Value).ownBlock ∧ some k_ ≠ (.slice Ao21 t555.length co21 : Value).ownBlock ∧ some k_ ≠ (.slice Ao43 t567.length co43 : Value).ownBlock) (Kd.R_keptB (HO_10.out) hkp (fun k_ hk_ hs_ => (hk_.2.1) hs_)) (fun k_ hk_ => ⟨hk_.1.1, hk_.1.2.1, hk_.1.2.2⟩)); have n4_ := Aside0.mk (Kd.R_mono (ok' := fun k_ => some k_ ≠ (.slice Ao20 t552.length co20 : Value).ownBlock) (Kd.R_keptB ((Kd.R_apart' HO565.out (Kd.R_typed HO_9.out) (by decide))) hkp (fun k_ hk_ hs_ => (hk_.2) hs_)) (fun k_ hk_ => hk_.1.1)); have n5_ := Aside0.mk (Kd.R_mono (ok' := fun k_ => some k_ ≠ (v550 : Value).ownBlock ∧ some k_ ≠ (.slice Ao21 t555.length co21 : Value).ownBlock ∧ some k_ ≠ (v560 : Value).ownBlock) (Kd.R_keptB (HO569.out) hkp (fun k_ hk_ hs_ => (hk_.2.1) hs_)) (fun k_ hk_ => ⟨hk_.1.1, hk_.1.2.1, hk_.1.2.2⟩)); have n6_ := Aside0.mk (hb); clear HO_6; clear HO_8; clear HO_9; clear HO_10; clear HO565; clear HO569; clear HB; have HO_6 := n0_; have HO_8 := n1_; have HO_9 := n2_; have HO_10 := n3_; have HO565 := n4_; have HO569 := n5_; have HB := n6_; clear n0_ n1_ n2_ n3_ n4_ n5_ n6_; (try clear hb); (try clear hkp); (try clear hy0)))
                (try simp only [Act.put, List.setIfInBounds_toArray, List.set_cons_zero, List.set_cons_succ])
                go_cut [80] (fun v80 wc => ∃ (kq : Nat) (x80_37 : Bool), v80 = .bool x80_37 ∧ Aside0 (laws_FnExactDeficitStarts.j1 kq l0 l1 t548 t549 t558 x80_37 = some r) ∧ Aside0 (kq ≤ kj11) ∧ Aside0 (Kd.R (Kd.int .i64) 3 wc w.heap.size (fun k_ => some k_ ≠ (v560 : Value).ownBlock) v550 t548) ∧ Aside0 (Kd.R (Kd.int .i64) 3 wc w.heap.size (fun k_ => some k_ ≠ (v550 : Value).ownBlock) v560 t558) ∧ Aside0 (Below w.heap.size w wc))
                case first =>
                  have H := HC38.out
                  clear HC38
                  by_cases c46 : t573 < 0
                  · rw [if_pos c46] at H
                    have c46b0 : decide (t573 < 0) = true := decide_eq_true c46
                    clear c46
                    (first | rw [c46b0] | (simp only [i64_w, i32_w]; rw [c46b0]) | skip)
                    have H' := Aside0.mk H
                    clear H
                    go_wp2
                    go_meet
                    case rel => exact ⟨_, (true), (by first | rfl | (simp; done) | (simp [*]; done)), H', ⟨by have := HJ11.out; first | omega | exact Nat.le_refl _⟩, ⟨by (with_reducible repeat (first | apply Kd.R_alloc | apply Kd.R_drewN | apply Kd.R_drew)); exact Kd.R_mono HO_6.out (fun _ hk => hk.2.1)⟩, ⟨by (with_reducible repeat (first | apply Kd.R_alloc | apply Kd.R_drewN | apply Kd.R_drew)); exact Kd.R_mono HO_10.out (fun _ hk => hk.1)⟩, ⟨by repeat (first | (with_reducible first | exact HB.out | apply below_alloc | apply pw_below_drewN | apply below_drew1) | exact HB.out)⟩⟩
                  · rw [if_neg c46] at H
                    have c46b0 : decide (t573 < 0) = false := decide_eq_false c46
                    clear c46
                    (first | rw [c46b0] | (simp only [i64_w, i32_w]; rw [c46b0]) | skip)
                    replace H := Option.bind_eq_some_iff.mp H
                    obtain ⟨t575, A470, H⟩ := H
                    replace H : (if t575 = true then (laws_FnExactDeficitStarts.j1 kj11 l0 l1 t548 t549 t558 (t559 != t549)) else (laws_FnExactDeficitStarts.j1 kj11 l0 l1 t548 t549 t558 true)) = some r := H
                    have A47 := Aside0.mk A470
                    clear A470
                    by_cases c48 : t575 = true
                    · subst c48
                      have H1 : (laws_FnExactDeficitStarts.j1 kj11 l0 l1 t548 t549 t558 (t559 != t549)) = some r := by rw [if_pos rfl] at H; exact H
                      clear H
                      have H := H1
                      clear H1
                      have H' := Aside0.mk H
                      clear H
                      obtain ⟨Ao49, co49, eo49⟩ := Kd.R_slice HO_10.out
                      subst eo49
                      obtain ⟨Ao50, co50, eo50⟩ := Kd.R_slice HO_6.out
                      subst eo50
                      go_wp2_with (first | (go_at_call 16; (with_reducible refine (laws_eqIntS.calls kj11 _ _ t558 _ _ t548 true _ ?side1 ?side2 ?side3 ?side4 A47.out).mono ?_); (case side1 => repeat (first | exact (Kd.R_reads' HO_10.out).2.2 | (with_reducible refine Kd.C_alloc ?_ _) | (with_reducible refine Kd.C_drewN ?_ _) | (with_reducible refine Kd.C_drew ?_))); (case side2 => exact (Kd.R_reads' HO_10.out).2.1); (case side3 => repeat (first | exact (Kd.R_reads' HO_6.out).2.2 | (with_reducible refine Kd.C_alloc ?_ _) | (with_reducible refine Kd.C_drewN ?_ _) | (with_reducible refine Kd.C_drew ?_))); (case side4 => exact (Kd.R_reads' HO_6.out).2.1); rintro e w' ⟨rfl, ⟨nd, rfl⟩⟩))
                      go_meet
                      case rel => exact ⟨_, ((t559 != t549)), (by first | rfl | (simp; done) | (simp [*]; done)), H', ⟨by have := HJ11.out; first | omega | exact Nat.le_refl _⟩, ⟨by (with_reducible repeat (first | apply Kd.R_alloc | apply Kd.R_drewN | apply Kd.R_drew)); exact Kd.R_mono HO_6.out (fun _ hk => hk.2.1)⟩, ⟨by (with_reducible repeat (first | apply Kd.R_alloc | apply Kd.R_drewN | apply Kd.R_drew)); exact Kd.R_mono HO_10.out (fun _ hk => hk.1)⟩, ⟨by repeat (first | (with_reducible first | exact HB.out | apply below_alloc | apply pw_below_drewN | apply below_drew1) | exact HB.out)⟩⟩
                    · replace c48 := Bool.eq_false_iff.mpr c48
                      subst c48
                      have H1 : (laws_FnExactDeficitStarts.j1 kj11 l0 l1 t548 t549 t558 true) = some r := by rw [if_neg (show ¬ (false = true) by decide)] at H; exact H
                      clear H
                      have H := H1
                      clear H1
                      have H' := Aside0.mk H
                      clear H
                      obtain ⟨Ao51, co51, eo51⟩ := Kd.R_slice HO_10.out
                      subst eo51
                      obtain ⟨Ao52, co52, eo52⟩ := Kd.R_slice HO_6.out
                      subst eo52
                      go_wp2_with (first | (go_at_call 16; (with_reducible refine (laws_eqIntS.calls kj11 _ _ t558 _ _ t548 false _ ?side1 ?side2 ?side3 ?side4 A47.out).mono ?_); (case side1 => repeat (first | exact (Kd.R_reads' HO_10.out).2.2 | (with_reducible refine Kd.C_alloc ?_ _) | (with_reducible refine Kd.C_drewN ?_ _) | (with_reducible refine Kd.C_drew ?_))); (case side2 => exact (Kd.R_reads' HO_10.out).2.1); (case side3 => repeat (first | exact (Kd.R_reads' HO_6.out).2.2 | (with_reducible refine Kd.C_alloc ?_ _) | (with_reducible refine Kd.C_drewN ?_ _) | (with_reducible refine Kd.C_drew ?_))); (case side4 => exact (Kd.R_reads' HO_6.out).2.1); rintro e w' ⟨rfl, ⟨nd, rfl⟩⟩))
                      go_meet
                      case rel => exact ⟨_, (true), (by first | rfl | (simp; done) | (simp [*]; done)), H', ⟨by have := HJ11.out; first | omega | exact Nat.le_refl _⟩, ⟨by (with_reducible repeat (first | apply Kd.R_alloc | apply Kd.R_drewN | apply Kd.R_drew)); exact Kd.R_mono HO_6.out (fun _ hk => hk.2.1)⟩, ⟨by (with_reducible repeat (first | apply Kd.R_alloc | apply Kd.R_drewN | apply Kd.R_drew)); exact Kd.R_mono HO_10.out (fun _ hk => hk.1)⟩, ⟨by repeat (first | (with_reducible first | exact HB.out | apply below_alloc | apply pw_below_drewN | apply below_drew1) | exact HB.out)⟩⟩
                case rest =>
                  clear HC38
                  try clear c1
                  try clear c2
                  try clear p2
                  try clear c3
                  try clear c3b0
                  try clear c3b1
                  try clear c4
                  try clear c5
                  try clear c5b0
                  try clear c10
                  try clear c11
                  try clear c13
                  try clear c14
                  try clear c16
                  try clear c17
                  try clear c18
                  try clear c19
                  try clear c24
                  try clear c29
                  try clear c32
                  try clear c33
                  try clear c34
                  try clear c35
                  try clear c46
                  try clear c46b0
                  try clear c48
                  try clear p2
                  obtain ⟨kq, x80_37, rfl, HA, HJ37, HO_6, HO_10, HB⟩ := hcut
                  cases kq with
                  | zero => exact absurd HA.out (by simp [laws_FnExactDeficitStarts.j1])
                  | succ kj37 =>
                    have H := HA.out
                    clear HA
                    simp only [laws_FnExactDeficitStarts.j1] at H
                    by_cases c53 : x80_37 = true
                    · subst c53
                      have H1 : (some false) = some r := by rw [if_pos rfl] at H; exact H
                      clear H
                      have H := H1
                      clear H1
                      obtain rfl := Option.some.inj H
                      go_wp2
                      go_ret
                      exact ⟨by first | rfl | (simp [errW_none, errW_some] <;> rfl) | (simp [*, errW_none, errW_some] <;> rfl), by repeat (first | (with_reducible first | exact HB.out | apply below_alloc | apply pw_below_drewN | apply below_drew1) | exact HB.out)⟩
                    · replace c53 := Bool.eq_false_iff.mpr c53
                      subst c53
                      have H1 : ((laws_markIntS.f kj37 t558 1).bind fun bt576 => ((laws_heldIntS.f kj37 bt576.2 1).bind fun t578 => (if t578 < 0 then (some false) else (if t578 = bt576.1 then ((laws_toJobS.f kj37 l0).bind fun t579 => ((laws_toIntS.f kj37 l1).bind fun t582 => ((impl_DeficitStarts.f kj37 t579 t582).bind fun bt585 => ((laws_eqIntS.f kj37 bt585.1 t548).bind fun t589 => (if t589 = true then (laws_FnExactDeficitStarts.j2 kj37 bt576.2 bt576.1 (bt585.2 != t549)) else (laws_FnExactDeficitStarts.j2 kj37 bt576.2 bt576.1 true)))))) else (some false))))) = some r := by rw [if_neg (show ¬ (false = true) by decide)] at H; exact H
                      clear H
                      have H := H1
                      clear H1
                      replace H := Option.bind_eq_some_iff.mp H
                      obtain ⟨⟨t576, t577⟩, A540, H⟩ := H
                      replace H : ((laws_heldIntS.f kj37 t577 1).bind fun t578 => (if t578 < 0 then (some false) else (if t578 = t576 then ((laws_toJobS.f kj37 l0).bind fun t579 => ((laws_toIntS.f kj37 l1).bind fun t582 => ((impl_DeficitStarts.f kj37 t579 t582).bind fun bt585 => ((laws_eqIntS.f kj37 bt585.1 t548).bind fun t589 => (if t589 = true then (laws_FnExactDeficitStarts.j2 kj37 t577 t576 (bt585.2 != t549)) else (laws_FnExactDeficitStarts.j2 kj37 t577 t576 true)))))) else (some false)))) = some r := H
                      have A54 := Aside0.mk A540
                      clear A540
                      replace H := Option.bind_eq_some_iff.mp H
                      obtain ⟨t578, A550, H⟩ := H
                      replace H : (if t578 < 0 then (some false) else (if t578 = t576 then ((laws_toJobS.f kj37 l0).bind fun t579 => ((laws_toIntS.f kj37 l1).bind fun t582 => ((impl_DeficitStarts.f kj37 t579 t582).bind fun bt585 => ((laws_eqIntS.f kj37 bt585.1 t548).bind fun t589 => (if t589 = true then (laws_FnExactDeficitStarts.j2 kj37 t577 t576 (bt585.2 != t549)) else (laws_FnExactDeficitStarts.j2 kj37 t577 t576 true)))))) else (some false))) = some r := H
                      have A55 := Aside0.mk A550
                      clear A550
                      by_cases c56 : t578 < 0
                      · rw [if_pos c56] at H
                        have c56b0 : decide (t578 < 0) = true := decide_eq_true c56
                        clear c56
                        obtain rfl := Option.some.inj H
                        obtain ⟨Ao57, co57, eo57⟩ := Kd.R_slice HO_10.out
                        subst eo57
                        go_wp2_with (first | ((with_reducible refine gate_callee (f := 19) rfl ?_); refine goesL_ (some 83) rfl rfl Try.func19 (by kernel_rfl) rfl #[.slice Ao57 t558.length co57, .int .i64 1] rfl (by (try simp only [List.map_toArray, List.map_cons, List.map_nil]); first | done | rfl | (simp only [List.length_drop, List.length_take]; rfl)) ?_; (with_reducible refine (laws_markIntS.calls kj37 (fun k_ => some k_ = (.slice Ao57 t558.length co57 : Value).ownBlock) (.slice Ao57 t558.length co57) t558 1 t576 t577 w _ ?side1 ?side2 A54.out).mono ?_); (case side1 => repeat (first | (with_reducible first | exact HB.out | apply below_alloc | apply pw_below_drewN | apply below_drew1) | exact HB.out)); (case side2 => exact Kd.R_tight rfl HO_10.out); rintro e w58 ⟨rfl, hy0, hb, hkp⟩; refine ⟨_, rfl, ?_⟩; have n0_ := Aside0.mk (Kd.R_mono (ok' := fun k_ => some k_ ≠ (.slice Ao57 t558.length co57 : Value).ownBlock) (Kd.R_keptB (HO_6.out) hkp (fun k_ hk_ hs_ => (hk_) hs_)) (fun k_ hk_ => hk_.1)); have n1_ := Aside0.mk (Kd.R_reok rfl hy0 (fun k_ e_ => HO_10.out.1 k_ e_)); have n2_ := Aside0.mk (hb); clear HO_6; clear HO_10; clear HB; have HO_6 := n0_; have HO_10 := n1_; have HB := n2_; clear n0_ n1_ n2_; (try clear hb); (try clear hkp); (try clear hy0)) | ((with_reducible refine gate_callee (f := 20) rfl ?_); refine goesL_ (some 86) rfl rfl Try.func20 (by kernel_rfl) rfl #[.slice Ao57 t577.length co57, .int .i64 1] rfl (by (try simp only [List.map_toArray, List.map_cons, List.map_nil]); first | done | (rw [show t577.length = t558.length from (Kd.R_reads' HO_10.out).1.symm] <;> rfl) | rfl | (simp only [List.length_drop, List.length_take]; rfl)) ?_; (with_reducible refine (laws_heldIntS.calls kj37 _ _ t577 1 t578 _ ?side1 ?side2 A55.out).mono ?_); (case side1 => repeat (first | exact (Kd.R_reads' HO_10.out).2.2 | (with_reducible refine Kd.C_alloc ?_ _) | (with_reducible refine Kd.C_drewN ?_ _) | (with_reducible refine Kd.C_drew ?_))); (case side2 => rw [show t577.length = t558.length from (Kd.R_reads' HO_10.out).1.symm]; exact (Kd.R_reads' HO_10.out).2.1); rintro e w' ⟨rfl, ⟨nd, rfl⟩⟩; refine ⟨_, rfl, ?_⟩))
                        go_ret
                        exact ⟨by first | rfl | (simp [errW_none, errW_some] <;> rfl) | (simp [*, errW_none, errW_some] <;> rfl), by repeat (first | (with_reducible first | exact HB.out | apply below_alloc | apply pw_below_drewN | apply below_drew1) | exact HB.out)⟩
                      · rw [if_neg c56] at H
                        have c56b0 : decide (t578 < 0) = false := decide_eq_false c56
                        clear c56
                        by_cases c59 : t578 = t576
                        · rw [if_pos c59] at H
                          have c59b0 : (t578 == t576) = true := beq_iff_eq.mpr c59
                          have c59b1 : (t578 != t576) = false := bne_eq_false_iff_eq.mpr c59
                          clear c59
                          replace H := Option.bind_eq_some_iff.mp H
                          obtain ⟨t579, A600, H⟩ := H
                          replace H : ((laws_toIntS.f kj37 l1).bind fun t582 => ((impl_DeficitStarts.f kj37 t579 t582).bind fun bt585 => ((laws_eqIntS.f kj37 bt585.1 t548).bind fun t589 => (if t589 = true then (laws_FnExactDeficitStarts.j2 kj37 t577 t576 (bt585.2 != t549)) else (laws_FnExactDeficitStarts.j2 kj37 t577 t576 true))))) = some r := H
                          have A60 := Aside0.mk A600
                          clear A600
                          replace H := Option.bind_eq_some_iff.mp H
                          obtain ⟨t582, A610, H⟩ := H
                          replace H : ((impl_DeficitStarts.f kj37 t579 t582).bind fun bt585 => ((laws_eqIntS.f kj37 bt585.1 t548).bind fun t589 => (if t589 = true then (laws_FnExactDeficitStarts.j2 kj37 t577 t576 (bt585.2 != t549)) else (laws_FnExactDeficitStarts.j2 kj37 t577 t576 true)))) = some r := H
                          have A61 := Aside0.mk A610
                          clear A610
                          replace H := Option.bind_eq_some_iff.mp H
                          obtain ⟨⟨t585, t586⟩, A620, H⟩ := H
                          replace H : ((laws_eqIntS.f kj37 t585 t548).bind fun t589 => (if t589 = true then (laws_FnExactDeficitStarts.j2 kj37 t577 t576 (t586 != t549)) else (laws_FnExactDeficitStarts.j2 kj37 t577 t576 true))) = some r := H
                          have A62 := Aside0.mk A620
                          clear A620
                          have HC63 := Aside0.mk H
                          clear H
                          obtain ⟨Ao64, co64, eo64⟩ := Kd.R_slice HO_10.out
                          subst eo64
                          go_upto_region 31 with (first | ((with_reducible refine gate_callee (f := 19) rfl ?_); refine goesL_ (some 83) rfl rfl Try.func19 (by kernel_rfl) rfl #[.slice Ao64 t558.length co64, .int .i64 1] rfl (by (try simp only [List.map_toArray, List.map_cons, List.map_nil]); first | done | rfl | (simp only [List.length_drop, List.length_take]; rfl)) ?_; (with_reducible refine (laws_markIntS.calls kj37 (fun k_ => some k_ = (.slice Ao64 t558.length co64 : Value).ownBlock) (.slice Ao64 t558.length co64) t558 1 t576 t577 w _ ?side1 ?side2 A54.out).mono ?_); (case side1 => repeat (first | (with_reducible first | exact HB.out | apply below_alloc | apply pw_below_drewN | apply below_drew1) | exact HB.out)); (case side2 => exact Kd.R_tight rfl HO_10.out); rintro e w65 ⟨rfl, hy0, hb, hkp⟩; refine ⟨_, rfl, ?_⟩; have n0_ := Aside0.mk (Kd.R_mono (ok' := fun k_ => some k_ ≠ (.slice Ao64 t558.length co64 : Value).ownBlock) (Kd.R_keptB (HO_6.out) hkp (fun k_ hk_ hs_ => (hk_) hs_)) (fun k_ hk_ => hk_.1)); have n1_ := Aside0.mk (Kd.R_reok rfl hy0 (fun k_ e_ => HO_10.out.1 k_ e_)); have n2_ := Aside0.mk (hb); clear HO_6; clear HO_10; clear HB; have HO_6 := n0_; have HO_10 := n1_; have HB := n2_; clear n0_ n1_ n2_; (try clear hb); (try clear hkp); (try clear hy0)) | ((with_reducible refine gate_callee (f := 20) rfl ?_); refine goesL_ (some 86) rfl rfl Try.func20 (by kernel_rfl) rfl #[.slice Ao64 t577.length co64, .int .i64 1] rfl (by (try simp only [List.map_toArray, List.map_cons, List.map_nil]); first | done | (rw [show t577.length = t558.length from (Kd.R_reads' HO_10.out).1.symm] <;> rfl) | rfl | (simp only [List.length_drop, List.length_take]; rfl)) ?_; (with_reducible refine (laws_heldIntS.calls kj37 _ _ t577 1 t578 _ ?side1 ?side2 A55.out).mono ?_); (case side1 => repeat (first | exact (Kd.R_reads' HO_10.out).2.2 | (with_reducible refine Kd.C_alloc ?_ _) | (with_reducible refine Kd.C_drewN ?_ _) | (with_reducible refine Kd.C_drew ?_))); (case side2 => rw [show t577.length = t558.length from (Kd.R_reads' HO_10.out).1.symm]; exact (Kd.R_reads' HO_10.out).2.1); rintro e w' ⟨rfl, ⟨nd, rfl⟩⟩; refine ⟨_, rfl, ?_⟩) | ((with_reducible refine gate_callee (f := 13) rfl ?_); refine goesL_ (some 94) rfl rfl Try.func13 (by kernel_rfl) rfl #[.slice A0 l0.length c0] rfl (by (try simp only [List.map_toArray, List.map_cons, List.map_nil]); first | done | rfl | (simp only [List.length_drop, List.length_take]; rfl)) ?_; (with_reducible refine (laws_toJobS.calls kj37 _ _ l0 t579 _ ?side1 ?side2 A60.out).mono ?_); (case side1 => repeat (first | exact (Kd.C_below HR0.out (by repeat (first | (with_reducible first | exact HB.out | apply below_alloc | apply pw_below_drewN | apply below_drew1) | exact HB.out))) | (with_reducible refine Kd.C_alloc ?_ _) | (with_reducible refine Kd.C_drewN ?_ _) | (with_reducible refine Kd.C_drew ?_))); (case side2 => exact HC0.out); rintro e w66 ⟨v580, rfl, ho0, hb⟩; refine ⟨_, rfl, ?_⟩; have n0_ := Aside0.mk (Kd.R_below (by (with_reducible repeat (first | apply Kd.R_alloc | apply Kd.R_drewN | apply Kd.R_drew)); exact HO_6.out) hb); have n1_ := Aside0.mk (Kd.R_below (by (with_reducible repeat (first | apply Kd.R_alloc | apply Kd.R_drewN | apply Kd.R_drew)); exact HO_10.out) hb); have n2_ := Aside0.mk (Kd.R_lower ho0 (below_size (by repeat (first | (with_reducible first | exact HB.out | apply below_alloc | apply pw_below_drewN | apply below_drew1) | exact HB.out)))); have n3_ := Aside0.mk (below_step (by repeat (first | (with_reducible first | exact HB.out | apply below_alloc | apply pw_below_drewN | apply below_drew1) | exact HB.out)) hb); clear HO_6; clear HO_10; clear HB; have HO_6 := n0_; have HO_10 := n1_; have HO581 := n2_; have HB := n3_; clear n0_ n1_ n2_ n3_; (try clear hb); (try clear hb2); (try clear hk); (try clear hi); (try clear ho0)) | ((with_reducible refine gate_callee (f := 14) rfl ?_); refine goesL_ (some 96) rfl rfl Try.func14 (by kernel_rfl) rfl #[.slice A1 l1.length c1] rfl (by (try simp only [List.map_toArray, List.map_cons, List.map_nil]); first | done | rfl | (simp only [List.length_drop, List.length_take]; rfl)) ?_; (with_reducible refine (laws_toIntS.calls kj37 _ _ l1 t582 _ ?side1 ?side2 A61.out).mono ?_); (case side1 => repeat (first | exact (Kd.C_below HR1.out HB.out) | (with_reducible refine Kd.C_alloc ?_ _) | (with_reducible refine Kd.C_drewN ?_ _) | (with_reducible refine Kd.C_drew ?_))); (case side2 => exact HC1.out); rintro e w67 ⟨v583, rfl, ho0, hb⟩; refine ⟨_, rfl, ?_⟩; have n0_ := Aside0.mk (Kd.R_elder' (by (with_reducible repeat (first | apply Kd.R_alloc | apply Kd.R_drewN | apply Kd.R_drew)); exact HO_6.out) (Kd.R_base ho0) hb); have n1_ := Aside0.mk (Kd.R_elder' (by (with_reducible repeat (first | apply Kd.R_alloc | apply Kd.R_drewN | apply Kd.R_drew)); exact HO_10.out) (Kd.R_base ho0) hb); have n2_ := Aside0.mk (Kd.R_below (by (with_reducible repeat (first | apply Kd.R_alloc | apply Kd.R_drewN | apply Kd.R_drew)); exact HO581.out) hb); have n3_ := Aside0.mk (Kd.R_lower (Kd.R_new' (Kd.R_new' ho0 (Kd.R_lt (by (with_reducible repeat (first | apply Kd.R_alloc | apply Kd.R_drewN | apply Kd.R_drew)); exact HO_6.out))) (Kd.R_lt (by (with_reducible repeat (first | apply Kd.R_alloc | apply Kd.R_drewN | apply Kd.R_drew)); exact HO_10.out))) (below_size (by repeat (first | (with_reducible first | exact HB.out | apply below_alloc | apply pw_below_drewN | apply below_drew1) | exact HB.out)))); have n4_ := Aside0.mk (below_step (by repeat (first | (with_reducible first | exact HB.out | apply below_alloc | apply pw_below_drewN | apply below_drew1) | exact HB.out)) hb); clear HO_6; clear HO_10; clear HO581; clear HB; have HO_6 := n0_; have HO_10 := n1_; have HO581 := n2_; have HO584 := n3_; have HB := n4_; clear n0_ n1_ n2_ n3_ n4_; (try clear hb); (try clear hb2); (try clear hk); (try clear hi); (try clear ho0); obtain ⟨Ao68, co68, eo68⟩ := Kd.R_slice HO581.out; subst eo68; obtain ⟨Ao69, co69, eo69⟩ := Kd.R_slice HO584.out; subst eo69) | ((with_reducible refine gate_callee (f := 34) rfl ?_); refine goesL_ (some 97) rfl rfl Try.func34 (by kernel_rfl) rfl #[.slice Ao68 t579.length co68, .slice Ao69 t582.length co69] rfl (by (try simp only [List.map_toArray, List.map_cons, List.map_nil]); first | done | rfl | (simp only [List.length_drop, List.length_take]; rfl)) ?_; (with_reducible refine (impl_DeficitStarts.calls kj37 _ _ t579 _ _ t582 t585 t586 _ ?side1 ?side2 ?side3 ?side4 A62.out).mono ?_); (case side1 => repeat (first | exact (Kd.R_reads' HO581.out).2.2 | (with_reducible refine Kd.C_alloc ?_ _) | (with_reducible refine Kd.C_drewN ?_ _) | (with_reducible refine Kd.C_drew ?_))); (case side2 => exact (Kd.R_reads' HO581.out).2.1); (case side3 => repeat (first | exact (Kd.R_reads' HO584.out).2.2 | (with_reducible refine Kd.C_alloc ?_ _) | (with_reducible refine Kd.C_drewN ?_ _) | (with_reducible refine Kd.C_drew ?_))); (case side4 => exact (Kd.R_reads' HO584.out).2.1); rintro e w70 ⟨v587, rfl, ho0, hb⟩; refine ⟨_, rfl, ?_⟩; have n0_ := Aside0.mk (Kd.R_elder' (by (with_reducible repeat (first | apply Kd.R_alloc | apply Kd.R_drewN | apply Kd.R_drew)); exact HO_6.out) (Kd.R_base ho0) hb); have n1_ := Aside0.mk (Kd.R_elder' (by (with_reducible repeat (first | apply Kd.R_alloc | apply Kd.R_drewN | apply Kd.R_drew)); exact HO_10.out) (Kd.R_base ho0) hb); have n2_ := Aside0.mk (Kd.R_below (by (with_reducible repeat (first | apply Kd.R_alloc | apply Kd.R_drewN | apply Kd.R_drew)); exact HO581.out) hb); have n3_ := Aside0.mk (Kd.R_elder' (by (with_reducible repeat (first | apply Kd.R_alloc | apply Kd.R_drewN | apply Kd.R_drew)); exact HO584.out) (Kd.R_base ho0) hb); have n4_ := Aside0.mk (Kd.R_lower (Kd.R_new' (Kd.R_new' (Kd.R_new' ho0 (Kd.R_lt (by (with_reducible repeat (first | apply Kd.R_alloc | apply Kd.R_drewN | apply Kd.R_drew)); exact HO_6.out))) (Kd.R_lt (by (with_reducible repeat (first | apply Kd.R_alloc | apply Kd.R_drewN | apply Kd.R_drew)); exact HO_10.out))) (Kd.R_lt (by (with_reducible repeat (first | apply Kd.R_alloc | apply Kd.R_drewN | apply Kd.R_drew)); exact HO584.out))) (below_size (by repeat (first | (with_reducible first | exact HB.out | apply below_alloc | apply pw_below_drewN | apply below_drew1) | exact HB.out)))); have n5_ := Aside0.mk (below_step (by repeat (first | (with_reducible first | exact HB.out | apply below_alloc | apply pw_below_drewN | apply below_drew1) | exact HB.out)) hb); clear HO_6; clear HO_10; clear HO581; clear HO584; clear HB; have HO_6 := n0_; have HO_10 := n1_; have HO581 := n2_; have HO584 := n3_; have HO588 := n4_; have HB := n5_; clear n0_ n1_ n2_ n3_ n4_ n5_; (try clear hb); (try clear hb2); (try clear hk); (try clear hi); (try clear ho0)))
                          (try simp only [Act.put, List.setIfInBounds_toArray, List.set_cons_zero, List.set_cons_succ])
                          go_cut [108] (fun v108 wc => ∃ (kq : Nat) (x108_62 : Bool), v108 = .bool x108_62 ∧ Aside0 (laws_FnExactDeficitStarts.j2 kq t577 t576 x108_62 = some r) ∧ Aside0 (kq ≤ kj37) ∧ Aside0 (Kd.R (Kd.int .i64) 3 wc w.heap.size (fun _ => True) (.slice Ao64 t558.length co64) t577) ∧ Aside0 (Below w.heap.size w wc))
                          case first =>
                            have H := HC63.out
                            clear HC63
                            replace H := Option.bind_eq_some_iff.mp H
                            obtain ⟨t589, A710, H⟩ := H
                            replace H : (if t589 = true then (laws_FnExactDeficitStarts.j2 kj37 t577 t576 (t586 != t549)) else (laws_FnExactDeficitStarts.j2 kj37 t577 t576 true)) = some r := H
                            have A71 := Aside0.mk A710
                            clear A710
                            by_cases c72 : t589 = true
                            · subst c72
                              have H1 : (laws_FnExactDeficitStarts.j2 kj37 t577 t576 (t586 != t549)) = some r := by rw [if_pos rfl] at H; exact H
                              clear H
                              have H := H1
                              clear H1
                              have H' := Aside0.mk H
                              clear H
                              obtain ⟨Ao73, co73, eo73⟩ := Kd.R_slice HO588.out
                              subst eo73
                              obtain ⟨Ao74, co74, eo74⟩ := Kd.R_slice HO_6.out
                              subst eo74
                              go_wp2_with (first | ((with_reducible refine gate_callee (f := 16) rfl ?_); refine goesL_ (some 102) rfl rfl Try.func16 (by kernel_rfl) rfl #[.slice Ao73 t585.length co73, .slice Ao74 t548.length co74] rfl (by (try simp only [List.map_toArray, List.map_cons, List.map_nil]); first | done | rfl | (simp only [List.length_drop, List.length_take]; rfl)) ?_; (with_reducible refine (laws_eqIntS.calls kj37 _ _ t585 _ _ t548 true _ ?side1 ?side2 ?side3 ?side4 A71.out).mono ?_); (case side1 => repeat (first | exact (Kd.R_reads' HO588.out).2.2 | (with_reducible refine Kd.C_alloc ?_ _) | (with_reducible refine Kd.C_drewN ?_ _) | (with_reducible refine Kd.C_drew ?_))); (case side2 => exact (Kd.R_reads' HO588.out).2.1); (case side3 => repeat (first | exact (Kd.R_reads' HO_6.out).2.2 | (with_reducible refine Kd.C_alloc ?_ _) | (with_reducible refine Kd.C_drewN ?_ _) | (with_reducible refine Kd.C_drew ?_))); (case side4 => exact (Kd.R_reads' HO_6.out).2.1); rintro e w' ⟨rfl, ⟨nd, rfl⟩⟩; refine ⟨_, rfl, ?_⟩))
                              go_meet
                              case rel => exact ⟨_, ((t586 != t549)), (by first | rfl | (simp; done) | (simp [*]; done)), H', ⟨by have := HJ11.out; have := HJ37.out; first | omega | exact Nat.le_refl _⟩, ⟨by (with_reducible repeat (first | apply Kd.R_alloc | apply Kd.R_drewN | apply Kd.R_drew)); exact Kd.R_mono HO_10.out (fun _ hk => trivial)⟩, ⟨by repeat (first | (with_reducible first | exact HB.out | apply below_alloc | apply pw_below_drewN | apply below_drew1) | exact HB.out)⟩⟩
                            · replace c72 := Bool.eq_false_iff.mpr c72
                              subst c72
                              have H1 : (laws_FnExactDeficitStarts.j2 kj37 t577 t576 true) = some r := by rw [if_neg (show ¬ (false = true) by decide)] at H; exact H
                              clear H
                              have H := H1
                              clear H1
                              have H' := Aside0.mk H
                              clear H
                              obtain ⟨Ao75, co75, eo75⟩ := Kd.R_slice HO588.out
                              subst eo75
                              obtain ⟨Ao76, co76, eo76⟩ := Kd.R_slice HO_6.out
                              subst eo76
                              go_wp2_with (first | ((with_reducible refine gate_callee (f := 16) rfl ?_); refine goesL_ (some 102) rfl rfl Try.func16 (by kernel_rfl) rfl #[.slice Ao75 t585.length co75, .slice Ao76 t548.length co76] rfl (by (try simp only [List.map_toArray, List.map_cons, List.map_nil]); first | done | rfl | (simp only [List.length_drop, List.length_take]; rfl)) ?_; (with_reducible refine (laws_eqIntS.calls kj37 _ _ t585 _ _ t548 false _ ?side1 ?side2 ?side3 ?side4 A71.out).mono ?_); (case side1 => repeat (first | exact (Kd.R_reads' HO588.out).2.2 | (with_reducible refine Kd.C_alloc ?_ _) | (with_reducible refine Kd.C_drewN ?_ _) | (with_reducible refine Kd.C_drew ?_))); (case side2 => exact (Kd.R_reads' HO588.out).2.1); (case side3 => repeat (first | exact (Kd.R_reads' HO_6.out).2.2 | (with_reducible refine Kd.C_alloc ?_ _) | (with_reducible refine Kd.C_drewN ?_ _) | (with_reducible refine Kd.C_drew ?_))); (case side4 => exact (Kd.R_reads' HO_6.out).2.1); rintro e w' ⟨rfl, ⟨nd, rfl⟩⟩; refine ⟨_, rfl, ?_⟩))
                              go_meet
                              case rel => exact ⟨_, (true), (by first | rfl | (simp; done) | (simp [*]; done)), H', ⟨by have := HJ11.out; have := HJ37.out; first | omega | exact Nat.le_refl _⟩, ⟨by (with_reducible repeat (first | apply Kd.R_alloc | apply Kd.R_drewN | apply Kd.R_drew)); exact Kd.R_mono HO_10.out (fun _ hk => trivial)⟩, ⟨by repeat (first | (with_reducible first | exact HB.out | apply below_alloc | apply pw_below_drewN | apply below_drew1) | exact HB.out)⟩⟩
                          case rest =>
                            clear HC63
                            try clear c1
                            try clear c2
                            try clear p2
                            try clear c3
                            try clear c3b0
                            try clear c3b1
                            try clear c4
                            try clear c5
                            try clear c5b0
                            try clear c7
                            try clear c10
                            try clear c11
                            try clear c13
                            try clear c14
                            try clear c16
                            try clear c17
                            try clear c18
                            try clear c19
                            try clear c20
                            try clear c24
                            try clear c29
                            try clear c32
                            try clear c33
                            try clear c34
                            try clear c35
                            try clear c46
                            try clear c46b0
                            try clear c48
                            try clear c53
                            try clear c56
                            try clear c56b0
                            try clear c59
                            try clear c59b0
                            try clear c59b1
                            try clear c72
                            try clear p2
                            obtain ⟨kq, x108_62, rfl, HA, HJ62, HO_10, HB⟩ := hcut
                            have hl10_62 := (Kd.R_reads' HO_10.out).1
                            rw [hl10_62] at HO_10
                            (try simp only [hl10_62])
                            cases kq with
                            | zero => exact absurd HA.out (by simp [laws_FnExactDeficitStarts.j2])
                            | succ kj62 =>
                              have H := HA.out
                              clear HA
                              simp only [laws_FnExactDeficitStarts.j2] at H
                              by_cases c77 : x108_62 = true
                              · subst c77
                                have H1 : (some false) = some r := by rw [if_pos rfl] at H; exact H
                                clear H
                                have H := H1
                                clear H1
                                obtain rfl := Option.some.inj H
                                go_wp2
                                go_ret
                                exact ⟨by first | rfl | (simp [errW_none, errW_some] <;> rfl) | (simp [*, errW_none, errW_some] <;> rfl), by repeat (first | (with_reducible first | exact HB.out | apply below_alloc | apply pw_below_drewN | apply below_drew1) | exact HB.out)⟩
                              · replace c77 := Bool.eq_false_iff.mpr c77
                                subst c77
                                have H1 : ((laws_heldIntS.f kj62 t577 1).bind fun t590 => (if t590 < 0 then (some false) else (if t590 = t576 then (some true) else (some false)))) = some r := by rw [if_neg (show ¬ (false = true) by decide)] at H; exact H
                                clear H
                                have H := H1
                                clear H1
                                replace H := Option.bind_eq_some_iff.mp H
                                obtain ⟨t590, A780, H⟩ := H
                                replace H : (if t590 < 0 then (some false) else (if t590 = t576 then (some true) else (some false))) = some r := H
                                have A78 := Aside0.mk A780
                                clear A780
                                by_cases c79 : t590 < 0
                                · rw [if_pos c79] at H
                                  have c79b0 : decide (t590 < 0) = true := decide_eq_true c79
                                  clear c79
                                  obtain rfl := Option.some.inj H
                                  go_wp2_with (first | ((with_reducible refine gate_callee (f := 20) rfl ?_); refine goesL_ (some 111) rfl rfl Try.func20 (by kernel_rfl) rfl #[.slice Ao64 t577.length co64, .int .i64 1] rfl (by (try simp only [List.map_toArray, List.map_cons, List.map_nil]); first | done | rfl | (simp only [List.length_drop, List.length_take]; rfl)) ?_; (with_reducible refine (laws_heldIntS.calls kj62 _ _ t577 1 t590 _ ?side1 ?side2 A78.out).mono ?_); (case side1 => repeat (first | exact (Kd.R_reads' HO_10.out).2.2 | (with_reducible refine Kd.C_alloc ?_ _) | (with_reducible refine Kd.C_drewN ?_ _) | (with_reducible refine Kd.C_drew ?_))); (case side2 => exact (Kd.R_reads' HO_10.out).2.1); rintro e w' ⟨rfl, ⟨nd, rfl⟩⟩; refine ⟨_, rfl, ?_⟩))
                                  go_ret
                                  exact ⟨by first | rfl | (simp [errW_none, errW_some] <;> rfl) | (simp [*, errW_none, errW_some] <;> rfl), by repeat (first | (with_reducible first | exact HB.out | apply below_alloc | apply pw_below_drewN | apply below_drew1) | exact HB.out)⟩
                                · rw [if_neg c79] at H
                                  have c79b0 : decide (t590 < 0) = false := decide_eq_false c79
                                  clear c79
                                  by_cases c80 : t590 = t576
                                  · rw [if_pos c80] at H
                                    have c80b0 : (t590 == t576) = true := beq_iff_eq.mpr c80
                                    have c80b1 : (t590 != t576) = false := bne_eq_false_iff_eq.mpr c80
                                    clear c80
                                    obtain rfl := Option.some.inj H
                                    go_wp2_with (first | ((with_reducible refine gate_callee (f := 20) rfl ?_); refine goesL_ (some 111) rfl rfl Try.func20 (by kernel_rfl) rfl #[.slice Ao64 t577.length co64, .int .i64 1] rfl (by (try simp only [List.map_toArray, List.map_cons, List.map_nil]); first | done | rfl | (simp only [List.length_drop, List.length_take]; rfl)) ?_; (with_reducible refine (laws_heldIntS.calls kj62 _ _ t577 1 t590 _ ?side1 ?side2 A78.out).mono ?_); (case side1 => repeat (first | exact (Kd.R_reads' HO_10.out).2.2 | (with_reducible refine Kd.C_alloc ?_ _) | (with_reducible refine Kd.C_drewN ?_ _) | (with_reducible refine Kd.C_drew ?_))); (case side2 => exact (Kd.R_reads' HO_10.out).2.1); rintro e w' ⟨rfl, ⟨nd, rfl⟩⟩; refine ⟨_, rfl, ?_⟩))
                                    go_ret
                                    exact ⟨by first | rfl | (simp [errW_none, errW_some] <;> rfl) | (simp [*, errW_none, errW_some] <;> rfl), by repeat (first | (with_reducible first | exact HB.out | apply below_alloc | apply pw_below_drewN | apply below_drew1) | exact HB.out)⟩
                                  · rw [if_neg c80] at H
                                    have c80b0 : (t590 == t576) = false := beq_eq_false_iff_ne.mpr c80
                                    have c80b1 : (t590 != t576) = true := bne_iff_ne.mpr c80
                                    obtain rfl := Option.some.inj H
                                    go_wp2_with (first | ((with_reducible refine gate_callee (f := 20) rfl ?_); refine goesL_ (some 111) rfl rfl Try.func20 (by kernel_rfl) rfl #[.slice Ao64 t577.length co64, .int .i64 1] rfl (by (try simp only [List.map_toArray, List.map_cons, List.map_nil]); first | done | rfl | (simp only [List.length_drop, List.length_take]; rfl)) ?_; (with_reducible refine (laws_heldIntS.calls kj62 _ _ t577 1 t590 _ ?side1 ?side2 A78.out).mono ?_); (case side1 => repeat (first | exact (Kd.R_reads' HO_10.out).2.2 | (with_reducible refine Kd.C_alloc ?_ _) | (with_reducible refine Kd.C_drewN ?_ _) | (with_reducible refine Kd.C_drew ?_))); (case side2 => exact (Kd.R_reads' HO_10.out).2.1); rintro e w' ⟨rfl, ⟨nd, rfl⟩⟩; refine ⟨_, rfl, ?_⟩))
                                    go_ret
                                    exact ⟨by first | rfl | (simp [errW_none, errW_some] <;> rfl) | (simp [*, errW_none, errW_some] <;> rfl), by repeat (first | (with_reducible first | exact HB.out | apply below_alloc | apply pw_below_drewN | apply below_drew1) | exact HB.out)⟩
                        · rw [if_neg c59] at H
                          have c59b0 : (t578 == t576) = false := beq_eq_false_iff_ne.mpr c59
                          have c59b1 : (t578 != t576) = true := bne_iff_ne.mpr c59
                          obtain rfl := Option.some.inj H
                          obtain ⟨Ao81, co81, eo81⟩ := Kd.R_slice HO_10.out
                          subst eo81
                          go_wp2_with (first | ((with_reducible refine gate_callee (f := 19) rfl ?_); refine goesL_ (some 83) rfl rfl Try.func19 (by kernel_rfl) rfl #[.slice Ao81 t558.length co81, .int .i64 1] rfl (by (try simp only [List.map_toArray, List.map_cons, List.map_nil]); first | done | rfl | (simp only [List.length_drop, List.length_take]; rfl)) ?_; (with_reducible refine (laws_markIntS.calls kj37 (fun k_ => some k_ = (.slice Ao81 t558.length co81 : Value).ownBlock) (.slice Ao81 t558.length co81) t558 1 t576 t577 w _ ?side1 ?side2 A54.out).mono ?_); (case side1 => repeat (first | (with_reducible first | exact HB.out | apply below_alloc | apply pw_below_drewN | apply below_drew1) | exact HB.out)); (case side2 => exact Kd.R_tight rfl HO_10.out); rintro e w82 ⟨rfl, hy0, hb, hkp⟩; refine ⟨_, rfl, ?_⟩; have n0_ := Aside0.mk (Kd.R_mono (ok' := fun k_ => some k_ ≠ (.slice Ao81 t558.length co81 : Value).ownBlock) (Kd.R_keptB (HO_6.out) hkp (fun k_ hk_ hs_ => (hk_) hs_)) (fun k_ hk_ => hk_.1)); have n1_ := Aside0.mk (Kd.R_reok rfl hy0 (fun k_ e_ => HO_10.out.1 k_ e_)); have n2_ := Aside0.mk (hb); clear HO_6; clear HO_10; clear HB; have HO_6 := n0_; have HO_10 := n1_; have HB := n2_; clear n0_ n1_ n2_; (try clear hb); (try clear hkp); (try clear hy0)) | ((with_reducible refine gate_callee (f := 20) rfl ?_); refine goesL_ (some 86) rfl rfl Try.func20 (by kernel_rfl) rfl #[.slice Ao81 t577.length co81, .int .i64 1] rfl (by (try simp only [List.map_toArray, List.map_cons, List.map_nil]); first | done | (rw [show t577.length = t558.length from (Kd.R_reads' HO_10.out).1.symm] <;> rfl) | rfl | (simp only [List.length_drop, List.length_take]; rfl)) ?_; (with_reducible refine (laws_heldIntS.calls kj37 _ _ t577 1 t578 _ ?side1 ?side2 A55.out).mono ?_); (case side1 => repeat (first | exact (Kd.R_reads' HO_10.out).2.2 | (with_reducible refine Kd.C_alloc ?_ _) | (with_reducible refine Kd.C_drewN ?_ _) | (with_reducible refine Kd.C_drew ?_))); (case side2 => rw [show t577.length = t558.length from (Kd.R_reads' HO_10.out).1.symm]; exact (Kd.R_reads' HO_10.out).2.1); rintro e w' ⟨rfl, ⟨nd, rfl⟩⟩; refine ⟨_, rfl, ?_⟩))
                          go_ret
                          exact ⟨by first | rfl | (simp [errW_none, errW_some] <;> rfl) | (simp [*, errW_none, errW_some] <;> rfl), by repeat (first | (with_reducible first | exact HB.out | apply below_alloc | apply pw_below_drewN | apply below_drew1) | exact HB.out)⟩
              · replace c35 := Bool.eq_false_iff.mpr c35
                subst c35
                have H1 : (some false) = some r := by rw [if_neg (show ¬ (false = true) by decide)] at H; exact H
                clear H
                have H := H1
                clear H1
                obtain rfl := Option.some.inj H
                go_wp2_with (first | ((with_reducible refine gate_callee (f := 13) rfl ?_); refine goesL_ (some 54) rfl rfl Try.func13 (by kernel_rfl) rfl #[.slice A0 l0.length c0] rfl (by (try simp only [List.map_toArray, List.map_cons, List.map_nil]); first | done | rfl | (simp only [List.length_drop, List.length_take]; rfl)) ?_; (with_reducible refine (laws_toJobS.calls kj11 _ _ l0 t563 _ ?side1 ?side2 A30.out).mono ?_); (case side1 => repeat (first | exact (Kd.C_below HR0.out HB.out) | (with_reducible refine Kd.C_alloc ?_ _) | (with_reducible refine Kd.C_drewN ?_ _) | (with_reducible refine Kd.C_drew ?_))); (case side2 => exact HC0.out); rintro e w83 ⟨v564, rfl, ho0, hb⟩; refine ⟨_, rfl, ?_⟩; have n0_ := Aside0.mk (Kd.R_below (by (with_reducible repeat (first | apply Kd.R_alloc | apply Kd.R_drewN | apply Kd.R_drew)); exact HO_6.out) hb); have n1_ := Aside0.mk (Kd.R_elder' (by (with_reducible repeat (first | apply Kd.R_alloc | apply Kd.R_drewN | apply Kd.R_drew)); exact HO_8.out) (Kd.R_base ho0) hb); have n2_ := Aside0.mk (Kd.R_below (by (with_reducible repeat (first | apply Kd.R_alloc | apply Kd.R_drewN | apply Kd.R_drew)); exact HO_9.out) hb); have n3_ := Aside0.mk (Kd.R_below (by (with_reducible repeat (first | apply Kd.R_alloc | apply Kd.R_drewN | apply Kd.R_drew)); exact HO_10.out) hb); have n4_ := Aside0.mk (Kd.R_lower (Kd.R_new' ho0 (Kd.R_lt (by (with_reducible repeat (first | apply Kd.R_alloc | apply Kd.R_drewN | apply Kd.R_drew)); exact HO_8.out))) (below_size (by repeat (first | (with_reducible first | exact HB.out | apply below_alloc | apply pw_below_drewN | apply below_drew1) | exact HB.out)))); have n5_ := Aside0.mk (below_step (by repeat (first | (with_reducible first | exact HB.out | apply below_alloc | apply pw_below_drewN | apply below_drew1) | exact HB.out)) hb); clear HO_6; clear HO_8; clear HO_9; clear HO_10; clear HB; have HO_6 := n0_; have HO_8 := n1_; have HO_9 := n2_; have HO_10 := n3_; have HO565 := n4_; have HB := n5_; clear n0_ n1_ n2_ n3_ n4_ n5_; (try clear hb); (try clear hb2); (try clear hk); (try clear hi); (try clear ho0); obtain ⟨Ao84, co84, eo84⟩ := Kd.R_slice HO565.out; subst eo84) | ((with_reducible refine gate_callee (f := 17) rfl ?_); refine goesL_ (some 55) rfl rfl Try.func17 (by kernel_rfl) rfl #[.slice Ao20 t552.length co20, .slice Ao84 t563.length co84] rfl (by (try simp only [List.map_toArray, List.map_cons, List.map_nil]); first | done | rfl | (simp only [List.length_drop, List.length_take]; rfl)) ?_; (with_reducible refine (laws_eqJobS.calls kj11 _ _ t552 _ _ t563 true _ ?side1 ?side2 ?side3 ?side4 A31.out).mono ?_); (case side1 => repeat (first | exact (Kd.R_reads' HO_8.out).2.2 | (with_reducible refine Kd.C_alloc ?_ _) | (with_reducible refine Kd.C_drewN ?_ _) | (with_reducible refine Kd.C_drew ?_))); (case side2 => exact (Kd.R_reads' HO_8.out).2.1); (case side3 => repeat (first | exact (Kd.R_reads' HO565.out).2.2 | (with_reducible refine Kd.C_alloc ?_ _) | (with_reducible refine Kd.C_drewN ?_ _) | (with_reducible refine Kd.C_drew ?_))); (case side4 => exact (Kd.R_reads' HO565.out).2.1); rintro e w85 ⟨rfl, hb⟩; refine ⟨_, rfl, ?_⟩; have n0_ := Aside0.mk (Kd.R_below (by (with_reducible repeat (first | apply Kd.R_alloc | apply Kd.R_drewN | apply Kd.R_drew)); exact HO_6.out) hb); have n1_ := Aside0.mk (Kd.R_below (by (with_reducible repeat (first | apply Kd.R_alloc | apply Kd.R_drewN | apply Kd.R_drew)); exact HO_8.out) hb); have n2_ := Aside0.mk (Kd.R_below (by (with_reducible repeat (first | apply Kd.R_alloc | apply Kd.R_drewN | apply Kd.R_drew)); exact HO_9.out) hb); have n3_ := Aside0.mk (Kd.R_below (by (with_reducible repeat (first | apply Kd.R_alloc | apply Kd.R_drewN | apply Kd.R_drew)); exact HO_10.out) hb); have n4_ := Aside0.mk (Kd.R_below (by (with_reducible repeat (first | apply Kd.R_alloc | apply Kd.R_drewN | apply Kd.R_drew)); exact HO565.out) hb); have n5_ := Aside0.mk (below_step (by repeat (first | (with_reducible first | exact HB.out | apply below_alloc | apply pw_below_drewN | apply below_drew1) | exact HB.out)) hb); clear HO_6; clear HO_8; clear HO_9; clear HO_10; clear HO565; clear HB; have HO_6 := n0_; have HO_8 := n1_; have HO_9 := n2_; have HO_10 := n3_; have HO565 := n4_; have HB := n5_; clear n0_ n1_ n2_ n3_ n4_ n5_; (try clear hb); (try clear hb2); (try clear hk); (try clear hi)) | ((with_reducible refine gate_callee (f := 14) rfl ?_); refine goesL_ (some 59) rfl rfl Try.func14 (by kernel_rfl) rfl #[.slice A1 l1.length c1] rfl (by (try simp only [List.map_toArray, List.map_cons, List.map_nil]); first | done | rfl | (simp only [List.length_drop, List.length_take]; rfl)) ?_; (with_reducible refine (laws_toIntS.calls kj11 _ _ l1 t567 _ ?side1 ?side2 A33.out).mono ?_); (case side1 => repeat (first | exact (Kd.C_below HR1.out HB.out) | (with_reducible refine Kd.C_alloc ?_ _) | (with_reducible refine Kd.C_drewN ?_ _) | (with_reducible refine Kd.C_drew ?_))); (case side2 => exact HC1.out); rintro e w86 ⟨v568, rfl, ho0, hb⟩; refine ⟨_, rfl, ?_⟩; have n0_ := Aside0.mk (Kd.R_elder' (by (with_reducible repeat (first | apply Kd.R_alloc | apply Kd.R_drewN | apply Kd.R_drew)); exact HO_6.out) (Kd.R_base ho0) hb); have n1_ := Aside0.mk (Kd.R_below (by (with_reducible repeat (first | apply Kd.R_alloc | apply Kd.R_drewN | apply Kd.R_drew)); exact HO_8.out) hb); have n2_ := Aside0.mk (Kd.R_elder' (by (with_reducible repeat (first | apply Kd.R_alloc | apply Kd.R_drewN | apply Kd.R_drew)); exact HO_9.out) (Kd.R_base ho0) hb); have n3_ := Aside0.mk (Kd.R_elder' (by (with_reducible repeat (first | apply Kd.R_alloc | apply Kd.R_drewN | apply Kd.R_drew)); exact HO_10.out) (Kd.R_base ho0) hb); have n4_ := Aside0.mk (Kd.R_below (by (with_reducible repeat (first | apply Kd.R_alloc | apply Kd.R_drewN | apply Kd.R_drew)); exact HO565.out) hb); have n5_ := Aside0.mk (Kd.R_lower (Kd.R_new' (Kd.R_new' (Kd.R_new' ho0 (Kd.R_lt (by (with_reducible repeat (first | apply Kd.R_alloc | apply Kd.R_drewN | apply Kd.R_drew)); exact HO_6.out))) (Kd.R_lt (by (with_reducible repeat (first | apply Kd.R_alloc | apply Kd.R_drewN | apply Kd.R_drew)); exact HO_9.out))) (Kd.R_lt (by (with_reducible repeat (first | apply Kd.R_alloc | apply Kd.R_drewN | apply Kd.R_drew)); exact HO_10.out))) (below_size (by repeat (first | (with_reducible first | exact HB.out | apply below_alloc | apply pw_below_drewN | apply below_drew1) | exact HB.out)))); have n6_ := Aside0.mk (below_step (by repeat (first | (with_reducible first | exact HB.out | apply below_alloc | apply pw_below_drewN | apply below_drew1) | exact HB.out)) hb); clear HO_6; clear HO_8; clear HO_9; clear HO_10; clear HO565; clear HB; have HO_6 := n0_; have HO_8 := n1_; have HO_9 := n2_; have HO_10 := n3_; have HO565 := n4_; have HO569 := n5_; have HB := n6_; clear n0_ n1_ n2_ n3_ n4_ n5_ n6_; (try clear hb); (try clear hb2); (try clear hk); (try clear hi); (try clear ho0); obtain ⟨Ao87, co87, eo87⟩ := Kd.R_slice HO569.out; subst eo87) | ((with_reducible refine gate_callee (f := 16) rfl ?_); refine goesL_ (some 60) rfl rfl Try.func16 (by kernel_rfl) rfl #[.slice Ao21 t555.length co21, .slice Ao87 t567.length co87] rfl (by (try simp only [List.map_toArray, List.map_cons, List.map_nil]); first | done | rfl | (simp only [List.length_drop, List.length_take]; rfl)) ?_; (with_reducible refine (laws_eqIntS.calls kj11 _ _ t555 _ _ t567 false _ ?side1 ?side2 ?side3 ?side4 A34.out).mono ?_); (case side1 => repeat (first | exact (Kd.R_reads' HO_9.out).2.2 | (with_reducible refine Kd.C_alloc ?_ _) | (with_reducible refine Kd.C_drewN ?_ _) | (with_reducible refine Kd.C_drew ?_))); (case side2 => exact (Kd.R_reads' HO_9.out).2.1); (case side3 => repeat (first | exact (Kd.R_reads' HO569.out).2.2 | (with_reducible refine Kd.C_alloc ?_ _) | (with_reducible refine Kd.C_drewN ?_ _) | (with_reducible refine Kd.C_drew ?_))); (case side4 => exact (Kd.R_reads' HO569.out).2.1); rintro e w' ⟨rfl, ⟨nd, rfl⟩⟩; refine ⟨_, rfl, ?_⟩))
                go_ret
                exact ⟨by first | rfl | (simp [errW_none, errW_some] <;> rfl) | (simp [*, errW_none, errW_some] <;> rfl), by repeat (first | (with_reducible first | exact HB.out | apply below_alloc | apply pw_below_drewN | apply below_drew1) | exact HB.out)⟩
            · replace c32 := Bool.eq_false_iff.mpr c32
              subst c32
              have H1 : (some false) = some r := by rw [if_neg (show ¬ (false = true) by decide)] at H; exact H
              clear H
              have H := H1
              clear H1
              obtain rfl := Option.some.inj H
              go_wp2_with (first | ((with_reducible refine gate_callee (f := 13) rfl ?_); refine goesL_ (some 54) rfl rfl Try.func13 (by kernel_rfl) rfl #[.slice A0 l0.length c0] rfl (by (try simp only [List.map_toArray, List.map_cons, List.map_nil]); first | done | rfl | (simp only [List.length_drop, List.length_take]; rfl)) ?_; (with_reducible refine (laws_toJobS.calls kj11 _ _ l0 t563 _ ?side1 ?side2 A30.out).mono ?_); (case side1 => repeat (first | exact (Kd.C_below HR0.out HB.out) | (with_reducible refine Kd.C_alloc ?_ _) | (with_reducible refine Kd.C_drewN ?_ _) | (with_reducible refine Kd.C_drew ?_))); (case side2 => exact HC0.out); rintro e w88 ⟨v564, rfl, ho0, hb⟩; refine ⟨_, rfl, ?_⟩; have n0_ := Aside0.mk (Kd.R_below (by (with_reducible repeat (first | apply Kd.R_alloc | apply Kd.R_drewN | apply Kd.R_drew)); exact HO_6.out) hb); have n1_ := Aside0.mk (Kd.R_elder' (by (with_reducible repeat (first | apply Kd.R_alloc | apply Kd.R_drewN | apply Kd.R_drew)); exact HO_8.out) (Kd.R_base ho0) hb); have n2_ := Aside0.mk (Kd.R_below (by (with_reducible repeat (first | apply Kd.R_alloc | apply Kd.R_drewN | apply Kd.R_drew)); exact HO_9.out) hb); have n3_ := Aside0.mk (Kd.R_below (by (with_reducible repeat (first | apply Kd.R_alloc | apply Kd.R_drewN | apply Kd.R_drew)); exact HO_10.out) hb); have n4_ := Aside0.mk (Kd.R_lower (Kd.R_new' ho0 (Kd.R_lt (by (with_reducible repeat (first | apply Kd.R_alloc | apply Kd.R_drewN | apply Kd.R_drew)); exact HO_8.out))) (below_size (by repeat (first | (with_reducible first | exact HB.out | apply below_alloc | apply pw_below_drewN | apply below_drew1) | exact HB.out)))); have n5_ := Aside0.mk (below_step (by repeat (first | (with_reducible first | exact HB.out | apply below_alloc | apply pw_below_drewN | apply below_drew1) | exact HB.out)) hb); clear HO_6; clear HO_8; clear HO_9; clear HO_10; clear HB; have HO_6 := n0_; have HO_8 := n1_; have HO_9 := n2_; have HO_10 := n3_; have HO565 := n4_; have HB := n5_; clear n0_ n1_ n2_ n3_ n4_ n5_; (try clear hb); (try clear hb2); (try clear hk); (try clear hi); (try clear ho0); obtain ⟨Ao89, co89, eo89⟩ := Kd.R_slice HO565.out; subst eo89) | ((with_reducible refine gate_callee (f := 17) rfl ?_); refine goesL_ (some 55) rfl rfl Try.func17 (by kernel_rfl) rfl #[.slice Ao20 t552.length co20, .slice Ao89 t563.length co89] rfl (by (try simp only [List.map_toArray, List.map_cons, List.map_nil]); first | done | rfl | (simp only [List.length_drop, List.length_take]; rfl)) ?_; (with_reducible refine (laws_eqJobS.calls kj11 _ _ t552 _ _ t563 false _ ?side1 ?side2 ?side3 ?side4 A31.out).mono ?_); (case side1 => repeat (first | exact (Kd.R_reads' HO_8.out).2.2 | (with_reducible refine Kd.C_alloc ?_ _) | (with_reducible refine Kd.C_drewN ?_ _) | (with_reducible refine Kd.C_drew ?_))); (case side2 => exact (Kd.R_reads' HO_8.out).2.1); (case side3 => repeat (first | exact (Kd.R_reads' HO565.out).2.2 | (with_reducible refine Kd.C_alloc ?_ _) | (with_reducible refine Kd.C_drewN ?_ _) | (with_reducible refine Kd.C_drew ?_))); (case side4 => exact (Kd.R_reads' HO565.out).2.1); rintro e w90 ⟨rfl, hb⟩; refine ⟨_, rfl, ?_⟩; have n0_ := Aside0.mk (Kd.R_below (by (with_reducible repeat (first | apply Kd.R_alloc | apply Kd.R_drewN | apply Kd.R_drew)); exact HO_6.out) hb); have n1_ := Aside0.mk (Kd.R_below (by (with_reducible repeat (first | apply Kd.R_alloc | apply Kd.R_drewN | apply Kd.R_drew)); exact HO_8.out) hb); have n2_ := Aside0.mk (Kd.R_below (by (with_reducible repeat (first | apply Kd.R_alloc | apply Kd.R_drewN | apply Kd.R_drew)); exact HO_9.out) hb); have n3_ := Aside0.mk (Kd.R_below (by (with_reducible repeat (first | apply Kd.R_alloc | apply Kd.R_drewN | apply Kd.R_drew)); exact HO_10.out) hb); have n4_ := Aside0.mk (Kd.R_below (by (with_reducible repeat (first | apply Kd.R_alloc | apply Kd.R_drewN | apply Kd.R_drew)); exact HO565.out) hb); have n5_ := Aside0.mk (below_step (by repeat (first | (with_reducible first | exact HB.out | apply below_alloc | apply pw_below_drewN | apply below_drew1) | exact HB.out)) hb); clear HO_6; clear HO_8; clear HO_9; clear HO_10; clear HO565; clear HB; have HO_6 := n0_; have HO_8 := n1_; have HO_9 := n2_; have HO_10 := n3_; have HO565 := n4_; have HB := n5_; clear n0_ n1_ n2_ n3_ n4_ n5_; (try clear hb); (try clear hb2); (try clear hk); (try clear hi)))
              go_ret
              exact ⟨by first | rfl | (simp [errW_none, errW_some] <;> rfl) | (simp [*, errW_none, errW_some] <;> rfl), by repeat (first | (with_reducible first | exact HB.out | apply below_alloc | apply pw_below_drewN | apply below_drew1) | exact HB.out)⟩

end Go.Proofs.Ytkkgnjdepgmjlaa.X

/- Plain lemmas: what a function with rounds comes to. -/
namespace Go.Proofs.Ytkkgnjdepgmjlaa.X
set_option linter.unusedSimpArgs false
set_option linter.unusedVariables false
open Go.RowKit Go.Proofs.YtkkgnjdepgmjlaaW.PrintWords
theorem w64 {x : Int} (h1 : -9223372036854775808 ≤ x) (h2 : x ≤ 9223372036854775807) : wrap64 x = x := by unfold wrap64; omega
/-- One round: the next state's answer is this state's. -/
theorem evNext {α : Type} {g f : Nat → Option α} {r : α} (h : ∀ k, g (k + 1) = f k) (k : Ev f r) : Ev g r := Ev.step h k
theorem evEnd {α : Type} {g : Nat → Option α} {r : α} (h : ∀ k, g (k + 1) = some r) : Ev g r := Ev.step (f := fun _ => some r) h (Ev.now r)
/-- A counter that goes up: an invariant, and each round hands the answer on. -/
theorem evUp {σ ρ : Type} (n : Nat) (L : Nat → σ → Nat → Option ρ) (I : Nat → σ → Prop) (r : ρ)
    (hs : ∀ i s, i < n → I i s → (∃ s', I (i + 1) s' ∧ (Ev (fun k => L k s' (i + 1)) r → Ev (fun k => L k s i) r)) ∨ Ev (fun k => L k s i) r)
    (he : ∀ s, I n s → Ev (fun k => L k s n) r) : ∀ i s, i ≤ n → I i s → Ev (fun k => L k s i) r := by
  have key : ∀ d i s, i + d = n → I i s → Ev (fun k => L k s i) r := by
    intro d
    induction d with
    | zero =>
      intro i s hd hI
      obtain rfl : i = n := by omega
      exact he s hI
    | succ d ih =>
      intro i s hd hI
      rcases hs i s (by omega) hI with ⟨s', hI', hk⟩ | h
      · exact hk (ih (i + 1) s' (by omega) hI')
      · exact h
  intro i s hi hI
  exact key (n - i) i s (by omega) hI
/-- The same from zero on. -/
theorem evUp0 {σ ρ : Type} (n : Nat) (L : Nat → σ → Nat → Option ρ) (I : Nat → σ → Prop) (r : ρ) (s : σ) (h0 : I 0 s)
    (hs : ∀ i s, i < n → I i s → (∃ s', I (i + 1) s' ∧ (Ev (fun k => L k s' (i + 1)) r → Ev (fun k => L k s i) r)) ∨ Ev (fun k => L k s i) r)
    (he : ∀ s, I n s → Ev (fun k => L k s n) r) : Ev (fun k => L k s 0) r := evUp n L I r hs he 0 s (Nat.zero_le _) h0
theorem rd_at (l : List Int) (i : Nat) (h : i < l.length) : rd l (i : Int) = l[i] := by
  simp [rd, List.getD_eq_getElem?_getD, List.getElem?_eq_getElem h]
end Go.Proofs.Ytkkgnjdepgmjlaa.X

/- Plain lemmas: the laws' own helpers over slices of whole numbers. -/
namespace Go.Proofs.Ytkkgnjdepgmjlaa.X
set_option linter.unusedSimpArgs false
set_option linter.unusedVariables false
open Go.RowKit Go.Proofs.YtkkgnjdepgmjlaaW.PrintWords
theorem toIntS_loop (l : List Int) (hn : l.length ≤ 35184372088832) : ∀ i s, i ≤ l.length → s = l.take i ++ List.replicate (l.length - i) 0 → Ev (fun k => laws_toIntS.l0 k l s (i : Int)) l := by
  refine evUp l.length (fun k s (i : Nat) => laws_toIntS.l0 k l s (i : Int)) (fun i s => s = l.take i ++ List.replicate (l.length - i) 0) l ?_ ?_
  · intro i s hi hI
    have hsl : s.length = l.length := by rw [hI]; simp; omega
    refine .inl ⟨l.take (i + 1) ++ List.replicate (l.length - (i + 1)) 0, rfl, fun h => evNext (fun k => ?_) h⟩
    show laws_toIntS.l0 (k + 1) l s (i : Int) = laws_toIntS.l0 k l _ (i + 1 : Nat)
    simp only [laws_toIntS.l0]
    rw [if_pos (by omega), if_pos (by omega), if_pos (by omega), w64 (by omega) (by omega), rd_at l i hi]
    congr 1
    subst hI
    rw [Int.toNat_natCast]
    apply List.ext_getElem
    · simp; omega
    · intro j h1 h2
      rw [List.getElem_set]
      by_cases e : i = j
      · subst e
        rw [if_pos rfl, List.getElem_append_left (by simp; omega)]
        simp
      · rw [if_neg e]
        by_cases hj : j < i
        · rw [List.getElem_append_left (by simp; omega), List.getElem_append_left (by simp; omega)]
          simp
        · rw [List.getElem_append_right (by simp; omega), List.getElem_append_right (by simp; omega)]
          simp
  · intro s hI
    refine evEnd fun k => ?_
    show laws_toIntS.l0 (k + 1) l s (l.length : Int) = some l
    simp only [laws_toIntS.l0]
    rw [if_neg (by omega), hI]
    simp
theorem toIntS_ev (l : List Int) (hn : l.length ≤ 35184372088832) : Ev (fun k => laws_toIntS.f k l) l := by
  refine Ev.congr (f := fun k => laws_toIntS.l0 k l (List.replicate l.length 0) ((0 : Nat) : Int)) (fun k => ?_) (toIntS_loop l hn 0 _ (by omega) (by simp))
  unfold laws_toIntS.f
  rw [if_pos (by omega), if_pos (by simpa using hn), Int.toNat_natCast]
  rfl
theorem eqIntS_loop (a b : List Int) (hl : a.length = b.length) (ha : a.length ≤ 9223372036854775806) : Ev (fun k => laws_eqIntS.l0 k a b ((0 : Nat) : Int)) (decide (a = b)) := by
  refine evUp0 a.length (fun k (_ : Unit) (i : Nat) => laws_eqIntS.l0 k a b (i : Int)) (fun i _ => a.take i = b.take i) _ () (by simp) ?_ ?_
  · intro i s hi hI
    by_cases e : a[i] = b[i]'(by omega)
    · refine .inl ⟨(), ?_, fun h => evNext (fun k => ?_) h⟩
      · rw [List.take_succ_eq_append_getElem hi, List.take_succ_eq_append_getElem (by omega), hI, e]
      · show laws_eqIntS.l0 (k + 1) a b (i : Int) = laws_eqIntS.l0 k a b (i + 1 : Nat)
        simp only [laws_eqIntS.l0]
        rw [if_pos (by omega), if_pos (by omega), if_pos (by omega), rd_at a i hi, rd_at b i (by omega), if_pos e, w64 (by omega) (by omega)]
        rfl
    · refine .inr (evEnd fun k => ?_)
      show laws_eqIntS.l0 (k + 1) a b (i : Int) = _
      simp only [laws_eqIntS.l0]
      rw [if_pos (by omega), if_pos (by omega), if_pos (by omega), rd_at a i hi, rd_at b i (by omega), if_neg e, decide_eq_false]
      intro h
      subst h
      exact e rfl
  · intro s hI
    refine evEnd fun k => ?_
    show laws_eqIntS.l0 (k + 1) a b (a.length : Int) = _
    simp only [laws_eqIntS.l0]
    rw [if_neg (by omega), decide_eq_true]
    rw [List.take_length, hl, List.take_length] at hI
    exact hI
theorem eqIntS_ev (a b : List Int) (ha : a.length ≤ 9223372036854775806) : Ev (fun k => laws_eqIntS.f k a b) (decide (a = b)) := by
  by_cases hl : a.length = b.length
  · refine Ev.congr (f := fun k => laws_eqIntS.l0 k a b ((0 : Nat) : Int)) (fun k => ?_) (eqIntS_loop a b hl ha)
    unfold laws_eqIntS.f
    rw [if_pos (by omega)]
    rfl
  · refine Ev.congr (f := fun _ => some (decide (a = b))) (fun k => ?_) (Ev.now _)
    unfold laws_eqIntS.f
    rw [if_neg (by omega), decide_eq_false]
    intro h
    exact hl (by rw [h])
end Go.Proofs.Ytkkgnjdepgmjlaa.X

/- Plain lemmas: the laws' marks on slices of whole numbers. -/
namespace Go.Proofs.Ytkkgnjdepgmjlaa.X
set_option linter.unusedSimpArgs false
set_option linter.unusedVariables false
open Go.RowKit Go.Proofs.YtkkgnjdepgmjlaaW.PrintWords
/-- The row that the marks leave. -/
def marks (n : Nat) (a : Int) : List Int := (List.range n).map (fun (j : Nat) => a + (j : Int))
theorem marks_length (n : Nat) (a : Int) : (marks n a).length = n := by simp [marks]
theorem marks_at (n : Nat) (a : Int) (i : Nat) (h : i < n) : rd (marks n a) (i : Int) = a + i := by
  rw [rd_at _ _ (by rw [marks_length]; exact h)]
  simp [marks]
theorem markIntS_ev (l : List Int) (a : Int) (h0 : 0 ≤ a) (h1 : a + l.length ≤ 9223372036854775806) : Ev (fun k => laws_markIntS.f k l a) (a + l.length, marks l.length a) := by
  have key := evUp0 l.length (fun k (s : List Int) (i : Nat) => laws_markIntS.l0 k s (a + i) (i : Int)) (fun i s => s = (marks l.length a).take i ++ l.drop i) (a + l.length, marks l.length a) l (by simp)
    (by
      intro i s hi hI
      have hsl : s.length = l.length := by rw [hI]; simp [marks_length]; omega
      refine .inl ⟨(marks l.length a).take (i + 1) ++ l.drop (i + 1), rfl, fun h => evNext (fun k => ?_) h⟩
      show laws_markIntS.l0 (k + 1) s (a + i) (i : Int) = laws_markIntS.l0 k _ (a + (i + 1 : Nat)) (i + 1 : Nat)
      simp only [laws_markIntS.l0]
      rw [if_pos (by omega), if_pos (by omega), w64 (by omega) (by omega), w64 (by omega) (by omega), Int.toNat_natCast]
      congr 1
      · subst hI
        have hm : i < (marks l.length a).length := by rw [marks_length]; exact hi
        rw [List.take_succ_eq_append_getElem hm, List.append_assoc, List.set_append_right _ _ (by simp; omega)]
        congr 1
        have e1 : (List.take i (marks l.length a)).length = i := by simp [marks_length]; omega
        rw [e1, Nat.sub_self, List.drop_eq_getElem_cons hi, List.set_cons_zero]
        simp only [marks, List.getElem_map, List.getElem_range]
        rfl
      · omega)
    (by
      intro s hI
      refine evEnd fun k => ?_
      show laws_markIntS.l0 (k + 1) s (a + (l.length : Nat)) ((l.length : Nat) : Int) = _
      have hsl : s.length = l.length := by rw [hI]; simp [marks_length]
      simp only [laws_markIntS.l0]
      rw [if_neg (by omega), hI]
      congr 2
      rw [List.take_of_length_le (by rw [marks_length]; exact Nat.le_refl _)]
      simp)
  refine Ev.congr (fun k => ?_) key
  unfold laws_markIntS.f
  simp
theorem heldIntS_ev (n : Nat) (a : Int) (h0 : 0 ≤ a) (h1 : a + n ≤ 9223372036854775806) : Ev (fun k => laws_heldIntS.f k (marks n a) a) (a + n) := by
  have key := evUp0 n (fun k (_ : Unit) (i : Nat) => laws_heldIntS.l0 k (marks n a) (a + i) (i : Int)) (fun _ _ => True) (a + n) () trivial
    (by
      intro i s hi _
      refine .inl ⟨(), trivial, fun h => evNext (fun k => ?_) h⟩
      show laws_heldIntS.l0 (k + 1) (marks n a) (a + i) (i : Int) = laws_heldIntS.l0 k (marks n a) (a + (i + 1 : Nat)) (i + 1 : Nat)
      simp only [laws_heldIntS.l0]
      rw [if_pos (by rw [marks_length]; omega), if_pos (by omega), if_pos (marks_at n a i hi), w64 (by omega) (by omega), w64 (by omega) (by omega)]
      congr 1
      omega)
    (by
      intro s _
      refine evEnd fun k => ?_
      show laws_heldIntS.l0 (k + 1) (marks n a) (a + (n : Nat)) ((n : Nat) : Int) = _
      simp only [laws_heldIntS.l0]
      rw [if_neg (by rw [marks_length]; omega)])
  refine Ev.congr (fun k => ?_) key
  unfold laws_heldIntS.f
  simp
end Go.Proofs.Ytkkgnjdepgmjlaa.X

/- Plain lemmas: the laws' own helpers over slices of Jobs. -/
namespace Go.Proofs.Ytkkgnjdepgmjlaa.X
set_option linter.unusedSimpArgs false
set_option linter.unusedVariables false
open Go.RowKit Go.Proofs.YtkkgnjdepgmjlaaW.PrintWords
theorem rdS_at (l : List S43) (i : Nat) (h : i < l.length) : rd_T43 l (i : Int) = l[i] := by
  simp [rd_T43, List.getD_eq_getElem?_getD, List.getElem?_eq_getElem h]
theorem rdL_at (l : List S45) (i : Nat) (h : i < l.length) : rd_T45 l (i : Int) = l[i] := by
  simp [rd_T45, List.getD_eq_getElem?_getD, List.getElem?_eq_getElem h]
def toL (l : List S45) : List S43 := l.map (fun x => ⟨x.f0, x.f1, x.f2⟩)
theorem toL_length (l : List S45) : (toL l).length = l.length := by simp [toL]
theorem sz_big (l : List S45) (h : 1048576 < l.length) (h2 : l.length ≤ 9223372036854775807) : laws_szJobS.f l 1048576 = some (-1) := by
  unfold laws_szJobS.f
  rw [w64 (by omega) (by omega), if_pos (by omega)]
theorem sz_small (l : List S45) (h : l.length ≤ 1048576) : laws_szJobS.f l 1048576 = some (1048576 - (l.length : Int)) := by
  unfold laws_szJobS.f
  rw [w64 (by omega) (by omega), if_neg (by omega)]
theorem toS_ev (l : List S45) (hn : l.length ≤ 1048576) : Ev (fun k => laws_toJobS.f k l) (toL l) := by
  have key := evUp l.length (fun k (s : List S43) (i : Nat) => laws_toJobS.l0 k l s (i : Int)) (fun i s => s = (toL l).take i ++ List.replicate (l.length - i) z43) (toL l)
    (by
      intro i s hi hI
      have hsl : s.length = l.length := by rw [hI]; simp [toL_length]; omega
      refine .inl ⟨(toL l).take (i + 1) ++ List.replicate (l.length - (i + 1)) z43, rfl, fun h => evNext (fun k => ?_) h⟩
      show laws_toJobS.l0 (k + 1) l s (i : Int) = laws_toJobS.l0 k l _ (i + 1 : Nat)
      simp only [laws_toJobS.l0, laws_toJob.f, Option.bind_some]
      rw [if_pos (by omega), if_pos (by omega), if_pos (by omega), w64 (by omega) (by omega), rdL_at l i hi]
      congr 1
      subst hI
      rw [Int.toNat_natCast]
      have htl := toL_length l
      apply List.ext_getElem
      · simp [toL_length]; omega
      · intro j h1 h2
        rw [List.getElem_set]
        by_cases e : i = j
        · subst e
          rw [if_pos rfl, List.getElem_append_left (by simp [toL_length]; omega)]
          simp [toL]
        · rw [if_neg e]
          by_cases hj : j < i
          · rw [List.getElem_append_left (by simp [toL_length]; omega), List.getElem_append_left (by simp [toL_length]; omega)]
            simp
          · rw [List.getElem_append_right (by simp [toL_length]; omega), List.getElem_append_right (by simp [toL_length]; omega)]
            simp)
    (by
      intro s hI
      refine evEnd fun k => ?_
      show laws_toJobS.l0 (k + 1) l s (l.length : Int) = some (toL l)
      simp only [laws_toJobS.l0]
      rw [if_neg (by omega), hI, List.take_of_length_le (by rw [toL_length]; exact Nat.le_refl _)]
      simp) 0 (List.replicate l.length z43) (by omega) (by simp)
  refine Ev.congr (fun k => ?_) key
  unfold laws_toJobS.f
  rw [if_pos (by omega), if_pos (by omega), Int.toNat_natCast]
  rfl
theorem eqOne (x : S43) : laws_eqJob.f x.f0 x.f1 x.f2 x.f0 x.f1 x.f2 = some true := by simp [laws_eqJob.f]
theorem eqS_ev (l : List S43) (hn : l.length ≤ 1048576) : Ev (fun k => laws_eqJobS.f k l l) true := by
  have key := evUp0 l.length (fun k (_ : Unit) (i : Nat) => laws_eqJobS.l0 k l l (i : Int)) (fun _ _ => True) true () trivial
    (by
      intro i s hi _
      refine .inl ⟨(), trivial, fun h => evNext (fun k => ?_) h⟩
      show laws_eqJobS.l0 (k + 1) l l (i : Int) = laws_eqJobS.l0 k l l (i + 1 : Nat)
      simp only [laws_eqJobS.l0]
      rw [if_pos (by omega), if_pos (by omega), if_pos (by omega), eqOne, w64 (by omega) (by omega)]
      simp only [Option.bind_some, if_true]
      rfl)
    (by
      intro s _
      refine evEnd fun k => ?_
      show laws_eqJobS.l0 (k + 1) l l (l.length : Int) = _
      simp only [laws_eqJobS.l0]
      rw [if_neg (by omega)])
  refine Ev.congr (fun k => ?_) key
  unfold laws_eqJobS.f
  rw [if_pos rfl]
  rfl
end Go.Proofs.Ytkkgnjdepgmjlaa.X

/- Plain lemmas: whether all numbers lie between two others; traffic; buckets. -/
namespace Go.Proofs.Ytkkgnjdepgmjlaa.X
set_option linter.unusedSimpArgs false
set_option linter.unusedVariables false
open Go.RowKit Go.Proofs.YtkkgnjdepgmjlaaW.PrintWords
theorem l1In_eq (n lo hi : Int) : spec_l1In.f n lo hi = some (inB lo hi n) := by
  unfold spec_l1In.f inB
  by_cases h : lo ≤ n
  · rw [if_pos (by omega), decide_eq_true h]; simp
  · rw [if_neg (by omega), decide_eq_false h]; simp
theorem within_eq (n lo hi : Int) : impl_within.f n lo hi = some (inB lo hi n) := by
  unfold impl_within.f inB
  by_cases h : lo ≤ n
  · rw [if_pos (by omega), decide_eq_true h]; simp
  · rw [if_neg (by omega), decide_eq_false h]; simp
theorem allWithin_eq (l : List Int) (lo hi : Int) : impl_allWithin.f l lo hi = some (l.all (inB lo hi)) := rfl
theorem inB_iff {lo hi n : Int} : inB lo hi n = true ↔ lo ≤ n ∧ n ≤ hi := by simp [inB]
theorem all_bound {l : List Int} {lo hi : Int} (h : l.all (inB lo hi) = true) : ∀ x ∈ l, lo ≤ x ∧ x ≤ hi := fun x hx => inB_iff.1 (List.all_eq_true.1 h x hx)
theorem all_rd {l : List Int} {lo hi : Int} (h : l.all (inB lo hi) = true) (i : Nat) (hi' : i < l.length) : lo ≤ rd l (i : Int) ∧ rd l (i : Int) ≤ hi := by
  rw [rd_at l i hi']
  exact all_bound h _ (List.getElem_mem hi')
theorem l1All_ev (l : List Int) (lo hi : Int) (hn : l.length ≤ 9223372036854775806) : Ev (fun k => spec_l1All.f k l lo hi) (l.all (inB lo hi)) := by
  have key := evUp0 l.length (fun k (_ : Unit) (i : Nat) => spec_l1All.l0 k lo hi l (l.length : Int) (i : Int)) (fun i _ => (l.take i).all (inB lo hi) = true) (l.all (inB lo hi)) () (by simp)
    (by
      intro i s hlt hI
      cases hb : inB lo hi (rd l (i : Int)) with
      | true =>
        refine .inl ⟨(), ?_, fun h => evNext (fun k => ?_) h⟩
        · rw [List.take_succ_eq_append_getElem hlt, List.all_append, hI]
          rw [rd_at l i hlt] at hb
          simp [hb]
        · show spec_l1All.l0 (k + 1) lo hi l (l.length : Int) (i : Int) = spec_l1All.l0 k lo hi l (l.length : Int) (i + 1 : Nat)
          simp only [spec_l1All.l0]
          rw [if_pos (by omega), if_pos (by omega), if_pos (by omega), l1In_eq, hb]
          simp only [Option.bind_some, if_true]
          rw [w64 (by omega) (by omega)]
          rfl
      | false =>
        refine .inr (evEnd fun k => ?_)
        show spec_l1All.l0 (k + 1) lo hi l (l.length : Int) (i : Int) = _
        simp only [spec_l1All.l0]
        rw [if_pos (by omega), if_pos (by omega), if_pos (by omega), l1In_eq, hb]
        simp only [Option.bind_some]
        have hf : l.all (inB lo hi) = false := by
          rw [List.all_eq_false]
          refine ⟨rd l (i : Int), ?_, by simp [hb]⟩
          rw [rd_at l i hlt]
          exact List.getElem_mem hlt
        rw [hf]
        simp)
    (by
      intro s hI
      refine evEnd fun k => ?_
      show spec_l1All.l0 (k + 1) lo hi l (l.length : Int) (l.length : Int) = _
      simp only [spec_l1All.l0]
      rw [if_neg (by omega)]
      rw [List.take_length] at hI
      rw [hI])
  exact key
end Go.Proofs.Ytkkgnjdepgmjlaa.X

/- Plain lemmas: jobs, starts of jobs, schedules. -/
namespace Go.Proofs.Ytkkgnjdepgmjlaa.X
set_option linter.unusedSimpArgs false
set_option linter.unusedVariables false
open Go.RowKit Go.Proofs.YtkkgnjdepgmjlaaW.PrintWords
def okJob (x : S43) : Bool := inB 0 1000 x.f0 && (inB 0 7 x.f1 && inB 1 20 x.f2)
def jobAt (l : List S43) (i : Nat) : Bool := okJob (rd_T43 l (i : Int)) && (decide (i = 0) || decide ((rd_T43 l ((i : Int) - 1)).f0 ≤ (rd_T43 l (i : Int)).f0))
def jobsTo (l : List S43) : Nat → Bool
  | 0 => true
  | n + 1 => jobsTo l n && jobAt l n
def isJobs (l : List S43) : Bool := decide (l.length ≤ 20) && jobsTo l l.length
theorem jobsTo_false (l : List S43) (n : Nat) (h : jobAt l n = false) : ∀ m, n < m → jobsTo l m = false
  | 0, hm => by omega
  | m + 1, hm => by
    by_cases e : n = m
    · subst e
      simp [jobsTo, h]
    · simp [jobsTo, jobsTo_false l n h m (by omega)]
theorem jobsTo_at {l : List S43} (n : Nat) (h : jobsTo l n = true) (i : Nat) (hi : i < n) : jobAt l i = true := by
  cases hj : jobAt l i with
  | true => rfl
  | false =>
    have := jobsTo_false l i hj n hi
    rw [this] at h
    cases h
theorem specJobs_step (l : List S43) (i : Nat) (hi : i < l.length) (hl : l.length ≤ 1048576) (k : Nat) :
    spec_prJobs.l0 (k + 1) l l (l.length : Int) (i : Int) = if jobAt l i = true then spec_prJobs.l0 k l l (l.length : Int) ((i + 1 : Nat) : Int) else some false := by
  simp only [spec_prJobs.l0]
  rw [if_pos (by omega), if_pos (by omega), if_pos (by omega)]
  simp only [l1In_eq, Option.bind_some]
  unfold jobAt okJob
  rw [w64 (x := (i : Int) + 1) (by omega) (by omega)]
  cases inB 0 1000 (rd_T43 l (i : Int)).f0 <;> cases inB 0 7 (rd_T43 l (i : Int)).f1 <;> cases inB 1 20 (rd_T43 l (i : Int)).f2 <;> simp
  by_cases h0 : i = 0
  · subst h0
    simp
  · rw [if_pos (by omega), w64 (by omega) (by omega), if_pos (by omega), if_pos (by omega)]
    by_cases hc : (rd_T43 l ((i : Int) - 1)).f0 ≤ (rd_T43 l (i : Int)).f0
    · rw [if_neg (by omega), if_pos (.inr hc)]
    · rw [if_pos (by omega), if_neg (by omega)]
theorem implJobs_step (l : List S43) (i : Nat) (hi : i < l.length) (hl : l.length ≤ 1048576) (k : Nat) :
    impl_AreJobs.l0 (k + 1) l l (l.length : Int) (i : Int) = if jobAt l i = true then impl_AreJobs.l0 k l l (l.length : Int) ((i + 1 : Nat) : Int) else some false := by
  simp only [impl_AreJobs.l0]
  rw [if_pos (by omega), if_pos (by omega), if_pos (by omega)]
  simp only [impl_isTick.f, within_eq, Option.bind_some]
  unfold jobAt okJob
  rw [w64 (x := (i : Int) + 1) (by omega) (by omega)]
  cases inB 0 1000 (rd_T43 l (i : Int)).f0 <;> cases inB 0 7 (rd_T43 l (i : Int)).f1 <;> cases inB 1 20 (rd_T43 l (i : Int)).f2 <;> simp
  by_cases h0 : i = 0
  · subst h0
    simp
  · rw [if_pos (by omega), w64 (by omega) (by omega), if_pos (by omega), if_pos (by omega)]
    by_cases hc : (rd_T43 l ((i : Int) - 1)).f0 ≤ (rd_T43 l (i : Int)).f0
    · rw [if_neg (by omega), if_pos (.inr hc)]
    · rw [if_pos (by omega), if_neg (by omega)]
theorem specJobs_ev (l : List S43) (hl : l.length ≤ 1048576) : Ev (fun k => spec_prJobs.f k l) (isJobs l) := by
  unfold isJobs
  by_cases hn : l.length ≤ 20
  · rw [decide_eq_true hn, Bool.true_and]
    have key := evUp0 l.length (fun k (_ : Unit) (i : Nat) => spec_prJobs.l0 k l l (l.length : Int) (i : Int)) (fun i _ => jobsTo l i = true) (jobsTo l l.length) () rfl
      (by
        intro i s hi hI
        cases hj : jobAt l i with
        | true => exact .inl ⟨(), by simp [jobsTo, hI, hj], fun h => evNext (fun k => by rw [specJobs_step l i hi hl k, if_pos hj]) h⟩
        | false => exact .inr (evEnd fun k => by rw [specJobs_step l i hi hl k, hj, jobsTo_false l i hj l.length hi]; simp))
      (by
        intro s hI
        refine evEnd fun k => ?_
        show spec_prJobs.l0 (k + 1) l l (l.length : Int) (l.length : Int) = _
        simp only [spec_prJobs.l0]
        rw [if_neg (by omega), hI])
    refine Ev.congr (fun k => ?_) key
    unfold spec_prJobs.f
    rw [if_neg (by omega)]
    rfl
  · rw [decide_eq_false hn, Bool.false_and]
    refine Ev.congr (f := fun _ => some false) (fun k => ?_) (Ev.now _)
    unfold spec_prJobs.f
    rw [if_pos (by omega)]
theorem implJobs_ev (l : List S43) (hl : l.length ≤ 1048576) : Ev (fun k => impl_AreJobs.f k l) (isJobs l) := by
  have key := evUp0 l.length (fun k (_ : Unit) (i : Nat) => impl_AreJobs.l0 k l l (l.length : Int) (i : Int)) (fun i _ => jobsTo l i = true) (isJobs l) () rfl
    (by
      intro i s hi hI
      cases hj : jobAt l i with
      | true => exact .inl ⟨(), by simp [jobsTo, hI, hj], fun h => evNext (fun k => by rw [implJobs_step l i hi hl k, if_pos hj]) h⟩
      | false => exact .inr (evEnd fun k => by rw [implJobs_step l i hi hl k, hj]; simp [isJobs, jobsTo_false l i hj l.length hi]))
    (by
      intro s hI
      refine evEnd fun k => ?_
      show impl_AreJobs.l0 (k + 1) l l (l.length : Int) (l.length : Int) = _
      simp only [impl_AreJobs.l0]
      rw [if_neg (by omega)]
      unfold isJobs
      rw [hI, Bool.and_true]
      congr 1
      by_cases h : l.length ≤ 20
      · rw [decide_eq_true h, decide_eq_true (by omega)]
      · rw [decide_eq_false h, decide_eq_false (by omega)])
  exact key
/-- What is known of jobs. -/
theorem isJobs_at {l : List S43} (h : isJobs l = true) : l.length ≤ 20 ∧ ∀ i : Nat, i < l.length → 0 ≤ (rd_T43 l (i : Int)).f0 ∧ (rd_T43 l (i : Int)).f0 ≤ 1000 ∧ 0 ≤ (rd_T43 l (i : Int)).f1 ∧ (rd_T43 l (i : Int)).f1 ≤ 7 ∧ 1 ≤ (rd_T43 l (i : Int)).f2 ∧ (rd_T43 l (i : Int)).f2 ≤ 20 := by
  unfold isJobs at h
  simp only [Bool.and_eq_true, decide_eq_true_eq] at h
  refine ⟨h.1, fun i hi => ?_⟩
  have := jobsTo_at l.length h.2 i hi
  unfold jobAt okJob at this
  simp only [Bool.and_eq_true] at this
  have h1 := inB_iff.1 this.1.1
  have h2 := inB_iff.1 this.1.2.1
  have h3 := inB_iff.1 this.1.2.2
  omega
end Go.Proofs.Ytkkgnjdepgmjlaa.X

/- Starts of jobs on a line: the waiting jobs, and the program's line and the reference's come to the same. -/
namespace Go.Proofs.Ytkkgnjdepgmjlaa.X
set_option linter.unusedSimpArgs false
set_option linter.unusedVariables false
open Go.RowKit Go.Proofs.YtkkgnjdepgmjlaaW.PrintWords
/-- The waiting jobs, of the first m ones. -/
def wlTo (J : List S43) (st : List Int) (t : Int) : Nat → List Int
  | 0 => []
  | m + 1 => if waitsB J st t m = true then wlTo J st t m ++ [(m : Int)] else wlTo J st t m
theorem wlTo_len (J : List S43) (st : List Int) (t : Int) : ∀ m, (wlTo J st t m).length ≤ m
  | 0 => by simp [wlTo]
  | m + 1 => by
    have := wlTo_len J st t m
    unfold wlTo
    split
    · simp; omega
    · omega
theorem wlTo_mem {J : List S43} {st : List Int} {t x : Int} : ∀ m, x ∈ wlTo J st t m → ∃ i : Nat, x = (i : Int) ∧ i < m ∧ waitsB J st t i = true
  | 0, h => by simp [wlTo] at h
  | m + 1, h => by
    unfold wlTo at h
    split at h
    · rename_i hw
      rcases List.mem_append.1 h with h | h
      · obtain ⟨i, h1, h2, h3⟩ := wlTo_mem m h
        exact ⟨i, h1, by omega, h3⟩
      · simp at h
        exact ⟨m, h, by omega, hw⟩
    · obtain ⟨i, h1, h2, h3⟩ := wlTo_mem m h
      exact ⟨i, h1, by omega, h3⟩
theorem wlTo_some (J : List S43) (st : List Int) (t : Int) : ∀ m, someB J st t m = decide (0 < (wlTo J st t m).length)
  | 0 => by simp [wlTo, someB]
  | m + 1 => by
    unfold wlTo someB
    rw [wlTo_some J st t m]
    by_cases h : waitsB J st t m = true
    · rw [if_pos h, h]; simp
    · rw [if_neg h, Bool.eq_false_iff.mpr h]; simp
theorem waiting_ev (J : List S43) (st : List Int) (t : Int) (hl : st.length = J.length) (hn : J.length ≤ 20) : Ev (fun k => impl_line_waiting.f k J t st) (wlTo J st t J.length, t) := by
  have key := evUp0 J.length (fun k (s : List Int) (i : Nat) => impl_line_waiting.l0 k s J (J.length : Int) (i : Int) J t st) (fun i s => s = wlTo J st t i) (wlTo J st t J.length, t) [] rfl
    (by
      intro i s hi hI
      have hlen := wlTo_len J st t i
      refine .inl ⟨wlTo J st t (i + 1), rfl, fun h => evNext (fun k => ?_) h⟩
      show impl_line_waiting.l0 (k + 1) s J (J.length : Int) (i : Int) J t st = impl_line_waiting.l0 k (wlTo J st t (i + 1)) J (J.length : Int) (i + 1 : Nat) J t st
      simp only [impl_line_waiting.l0]
      rw [if_pos (by omega), if_pos (by omega), if_pos (by omega), if_pos (by omega), w64 (by omega) (by omega)]
      subst hI
      by_cases c1 : rd st (i : Int) < 0
      · rw [if_pos c1]
        by_cases c2 : (rd_T43 J (i : Int)).f0 ≤ t
        · have hw : waitsB J st t i = true := by unfold waitsB; simp [c1, c2]
          rw [if_pos c2, if_pos (by omega), wlTo, if_pos hw]
          rfl
        · have hw : ¬ waitsB J st t i = true := by unfold waitsB; simp [c2]
          rw [if_neg c2, wlTo, if_neg hw]
          rfl
      · have hw : ¬ waitsB J st t i = true := by unfold waitsB; simp [c1]
        rw [if_neg c1, wlTo, if_neg hw]
        rfl)
    (by
      intro s hI
      refine evEnd fun k => ?_
      show impl_line_waiting.l0 (k + 1) s J (J.length : Int) (J.length : Int) J t st = _
      simp only [impl_line_waiting.l0]
      rw [if_neg (by omega), hI])
  exact key
theorem index_none (st : List Int) (hn : st.length ≤ 20) (h : ∀ i : Nat, i < st.length → rd st (i : Int) ≠ -1) : Ev (fun k => slices_Index_int_int.f k st (-1)) (-1) := by
  have key := evUp0 st.length (fun k (_ : Unit) (i : Nat) => slices_Index_int_int.l0 k st (-1) (st.length : Int) (i : Int)) (fun _ _ => True) (-1) () trivial
    (by
      intro i s hi _
      refine .inl ⟨(), trivial, fun h2 => evNext (fun k => ?_) h2⟩
      show slices_Index_int_int.l0 (k + 1) st (-1) (st.length : Int) (i : Int) = slices_Index_int_int.l0 k st (-1) (st.length : Int) (i + 1 : Nat)
      simp only [slices_Index_int_int.l0]
      rw [if_pos (by omega), if_pos (by omega), if_pos (by omega), if_neg (fun e => h i hi e.symm), w64 (by omega) (by omega)]
      rfl)
    (by
      intro s _
      refine evEnd fun k => ?_
      show slices_Index_int_int.l0 (k + 1) st (-1) (st.length : Int) (st.length : Int) = _
      simp only [slices_Index_int_int.l0]
      rw [if_neg (by omega)])
  exact key
theorem index_some (st : List Int) (hn : st.length ≤ 20) (m : Nat) (hm : m < st.length) (h1 : rd st (m : Int) = -1) (h : ∀ i : Nat, i < m → rd st (i : Int) ≠ -1) : Ev (fun k => slices_Index_int_int.f k st (-1)) (m : Int) := by
  have key := evUp0 m (fun k (_ : Unit) (i : Nat) => slices_Index_int_int.l0 k st (-1) (st.length : Int) (i : Int)) (fun _ _ => True) (m : Int) () trivial
    (by
      intro i s hi _
      refine .inl ⟨(), trivial, fun h2 => evNext (fun k => ?_) h2⟩
      show slices_Index_int_int.l0 (k + 1) st (-1) (st.length : Int) (i : Int) = slices_Index_int_int.l0 k st (-1) (st.length : Int) (i + 1 : Nat)
      simp only [slices_Index_int_int.l0]
      rw [if_pos (by omega), if_pos (by omega), if_pos (by omega), if_neg (fun e => h i hi e.symm), w64 (by omega) (by omega)]
      rfl)
    (by
      intro s _
      refine evEnd fun k => ?_
      show slices_Index_int_int.l0 (k + 1) st (-1) (st.length : Int) (m : Int) = _
      simp only [slices_Index_int_int.l0]
      rw [if_pos (by omega), if_pos (by omega), if_pos (by omega), if_pos h1.symm])
  exact key
theorem least_of {P : Nat → Prop} [DecidablePred P] : ∀ n, (∃ i, i < n ∧ P i) → ∃ m, m < n ∧ P m ∧ ∀ i, i < m → ¬ P i
  | 0, ⟨i, h, _⟩ => absurd h (by omega)
  | n + 1, ⟨i, h, hp⟩ => by
    by_cases c : ∃ i, i < n ∧ P i
    · obtain ⟨m, h1, h2, h3⟩ := least_of n c
      exact ⟨m, by omega, h2, h3⟩
    · have hin : i = n := Nat.le_antisymm (by omega) (Nat.le_of_not_lt fun hlt => c ⟨i, hlt, hp⟩)
      subst hin
      exact ⟨i, by omega, hp, fun j hj hpj => c ⟨j, hj, hpj⟩⟩
theorem isJobs_next {J : List S43} (h : isJobs J = true) (i : Nat) (hi : i + 1 < J.length) : (rd_T43 J (i : Int)).f0 ≤ (rd_T43 J ((i + 1 : Nat) : Int)).f0 := by
  unfold isJobs at h
  simp only [Bool.and_eq_true, decide_eq_true_eq] at h
  have := jobsTo_at J.length h.2 (i + 1) hi
  unfold jobAt at this
  simp only [Bool.and_eq_true, Bool.or_eq_true, decide_eq_true_eq] at this
  rcases this.2 with h2 | h2
  · omega
  · rw [show (((i + 1 : Nat) : Int) - 1) = (i : Int) by omega] at h2
    exact h2
theorem isJobs_sorted {J : List S43} (h : isJobs J = true) (i : Nat) : ∀ d, i + d < J.length → (rd_T43 J (i : Int)).f0 ≤ (rd_T43 J ((i + d : Nat) : Int)).f0
  | 0, _ => Int.le_refl _
  | d + 1, hd => Int.le_trans (isJobs_sorted h i d (by omega)) (isJobs_next h (i + d) hd)
theorem prNext_at {J : List S43} (hJ : isJobs J = true) (st : List Int) (x : Nat) (hx : x < J.length) (h1 : rd st (x : Int) < 0) (h2 : ∀ i : Nat, i < x → ¬ rd st (i : Int) < 0) : ∀ m, m ≤ J.length → prNext J st m = if x < m then (rd_T43 J (x : Int)).f0 else 5000
  | 0, _ => by simp [prNext]
  | m + 1, hm => by
    have ih := prNext_at hJ st x hx h1 h2 m (by omega)
    have hb := (isJobs_at hJ).2 x hx
    unfold prNext
    rw [ih]
    by_cases c : x < m
    · rw [if_pos c, if_pos (show x < m + 1 by omega)]
      have hs := isJobs_sorted hJ x (m - x) (by omega)
      rw [show x + (m - x) = m by omega] at hs
      by_cases c2 : rd st (m : Int) < 0
      · rw [if_pos c2]
        split
        · rfl
        · omega
      · rw [if_neg c2]
    · rw [if_neg c]
      by_cases c3 : x = m
      · subst c3
        rw [if_pos h1, if_pos (show x < x + 1 by omega), if_neg (by omega)]
      · rw [if_neg (h2 m (by omega)), if_neg (show ¬ x < m + 1 by omega)]
def startedN (st : List Int) : Nat := st.countP (fun x => decide (0 ≤ x))
theorem started_all {st : List Int} (h : startedN st = st.length) (i : Nat) (hi : i < st.length) : rd st (i : Int) ≠ -1 := by
  have := List.countP_eq_length.1 h st[i] (List.getElem_mem hi)
  rw [rd_at st i hi]
  simp at this
  omega
theorem started_some {st : List Int} (h : startedN st < st.length) (hst : ∀ i : Nat, i < st.length → rd st (i : Int) = -1 ∨ 0 ≤ rd st (i : Int)) : ∃ i, i < st.length ∧ rd st (i : Int) = -1 := by
  refine Classical.byContradiction fun hc => ?_
  have : startedN st = st.length := by
    refine List.countP_eq_length.2 fun x hx => ?_
    obtain ⟨i, hi, rfl⟩ := List.getElem_of_mem hx
    rcases hst i hi with h1 | h1
    · exact absurd ⟨i, hi, h1⟩ hc
    · rw [rd_at st i hi] at h1
      simpa using h1
  omega
theorem started_set {st : List Int} (c : Nat) (hc : c < st.length) (h1 : rd st (c : Int) = -1) (t : Int) (ht : 0 ≤ t) : startedN (st.set c t) = startedN st + 1 := by
  unfold startedN
  rw [List.countP_set hc]
  rw [rd_at st c hc] at h1
  simp [h1, ht]
theorem rd_set_of (st : List Int) (c i : Nat) (t : Int) (hi : i < st.length) : rd (st.set c t) (i : Int) = if c = i then t else rd st (i : Int) := by
  rw [rd_at _ i (by rw [List.length_set]; exact hi), List.getElem_set, rd_at st i hi]
/-- A line on which, again and again, a waiting job begins: the reference's rounds (L) and the program's (startsByL over ch). -/
theorem lines_main {σ1 σ2 : Type} {J : List S43} (hJ : isJobs J = true) (L : Nat → List Int → Int → Int → σ1 → Option (List Int)) (ch : Nat → List Int → Int → σ2 → Option (Int × σ2)) (id1 : σ1 → σ1) (id2 : σ2 → σ2) (Rel : σ1 → σ2 → Prop)
    (hend : ∀ k st now done s, ¬ done < (J.length : Int) → L (k + 1) st now done s = some st)
    (hskip : ∀ k st now done s, done < (J.length : Int) → skipB J st now done = true → skipB J st (prNext J st J.length) done = false → L (k + 1) st now done s = L (k + 1) st (prNext J st J.length) done (id1 s))
    (hid : ∀ s1 s2, Rel s1 s2 → Rel (id1 s1) (id2 s2))
    (hstep : ∀ (st : List Int) (t done : Int) (s1 : σ1) (s2 : σ2), Rel s1 s2 → st.length = J.length → someB J st t J.length = true → done < (J.length : Int) → 0 ≤ t → t ≤ 2000 →
      ∃ (c : Nat) (s1' : σ1) (s2' : σ2), c < J.length ∧ waitsB J st t c = true ∧ Rel s1' s2' ∧ (∀ r, Ev (fun k => L k (st.set c t) (wrap64 (t + (rd_T43 J (c : Int)).f2)) (wrap64 (done + 1)) s1') r → Ev (fun k => L k st t done s1) r) ∧ Ev (fun k => ch k st t s2) ((c : Int), s2')) :
    ∀ (d : Nat) (st : List Int) (now : Int) (s1 : σ1) (s2 : σ2), Rel s1 s2 → startedN st + d = J.length → st.length = J.length → (∀ i : Nat, i < st.length → rd st (i : Int) = -1 ∨ 0 ≤ rd st (i : Int)) → 0 ≤ now → now ≤ 1000 + 20 * (startedN st : Int) →
      ∃ r : List Int, r.length ≤ 20 ∧ Ev (fun k => L k st now (startedN st : Int) s1) r ∧ Ev (fun k => startsByL J ch id2 k st now s2) r := by
  obtain ⟨hn, hat⟩ := isJobs_at hJ
  intro d
  induction d with
  | zero =>
    intro st now s1 s2 hR hd hl hst hn0 hn1
    refine ⟨st, by omega, evEnd fun k => hend k st now _ s1 (by omega), ?_⟩
    obtain ⟨K1, e1⟩ := index_none st (by omega) (fun i hi => started_all (by omega) i hi)
    refine ⟨K1 + 1, fun n hn => ?_⟩
    obtain ⟨m, rfl⟩ : ∃ m, n = m + 1 := ⟨n - 1, by omega⟩
    dsimp only at e1 ⊢
    rw [startsByL, e1 m (by omega), Option.bind_some, if_pos (by omega)]
  | succ d ih =>
    intro st now s1 s2 hR hd hl hst hn0 hn1
    obtain ⟨x, hx, hx1, hx2⟩ := least_of (P := fun i => rd st ((i : Nat) : Int) = -1) st.length (started_some (by omega) hst)
    have hx3 : ∀ i : Nat, i < x → ¬ rd st (i : Int) < 0 := fun i hi => by
      have h1 := hx2 i hi
      rcases hst i (by omega) with h2 | h2
      · exact absurd h2 h1
      · omega
    have hpx := prNext_at hJ st x (by omega) (by omega) hx3 J.length (Nat.le_refl _)
    rw [if_pos (by omega)] at hpx
    have hbx := hat x (by omega)
    have hdn : ((startedN st : Int) != (J.length : Int)) = true := by simp; omega
    have hsb := wlTo_some J st now J.length
    obtain ⟨K1, e1⟩ := index_some st (by omega) x hx hx1 hx2
    obtain ⟨K2, e2⟩ := waiting_ev J st now hl hn
    dsimp only at e1 e2
    -- the tick and the state from which a job is chosen
    have key : ∃ (t1 : Int) (u1 : σ1) (u2 : σ2), 0 ≤ t1 ∧ t1 ≤ 1000 + 20 * (startedN st : Int) ∧ Rel u1 u2 ∧ someB J st t1 J.length = true ∧ (∀ r, Ev (fun k => L k st t1 (startedN st : Int) u1) r → Ev (fun k => L k st now (startedN st : Int) s1) r) ∧
        (if ((wlTo J st now J.length).length : Int) = 0 then (rd_T43 J (x : Int)).f0 else now) = t1 ∧ (if ((wlTo J st now J.length).length : Int) = 0 then id2 s2 else s2) = u2 := by
      by_cases c : (wlTo J st now J.length).length = 0
      · have hs1 : someB J st (rd_T43 J (x : Int)).f0 J.length = true := by
          refine someB_of (i := x) ?_ J.length (by omega)
          unfold waitsB
          simp
          omega
        refine ⟨(rd_T43 J (x : Int)).f0, id1 s1, id2 s2, by omega, by omega, hid _ _ hR, hs1, fun r h => ?_, by rw [if_pos (by omega)], by rw [if_pos (by omega)]⟩
        obtain ⟨K, h⟩ := h
        refine ⟨K + 1, fun n hn => ?_⟩
        obtain ⟨m, rfl⟩ : ∃ m, n = m + 1 := ⟨n - 1, by omega⟩
        have hk := hskip m st now (startedN st : Int) s1 (by omega) (by unfold skipB; rw [hsb, c, hdn]; rfl) (by unfold skipB; rw [hpx, hs1]; rfl)
        rw [hpx] at hk
        dsimp only at h ⊢
        rw [hk]
        exact h (m + 1) (by omega)
      · exact ⟨now, s1, s2, hn0, hn1, hR, by rw [hsb]; simp; omega, fun r h => h, by rw [if_neg (by omega)], by rw [if_neg (by omega)]⟩
    obtain ⟨t1, u1, u2, ht0, ht1, hRu, hsm, hL, htt, huu⟩ := key
    obtain ⟨c, v1, v2, hc2, hc3, hRv, hSt, hCh⟩ := hstep st t1 (startedN st : Int) u1 u2 hRu hl hsm (by omega) ht0 (by omega)
    have hcs : rd st (c : Int) = -1 := by
      unfold waitsB at hc3
      simp only [Bool.and_eq_true, decide_eq_true_eq] at hc3
      rcases hst c (by omega) with h1 | h1
      · exact h1
      · omega
    have hcb := hat c hc2
    have hset := started_set (st := st) c (by omega) hcs t1 ht0
    obtain ⟨r, hr1, hr2, hr3⟩ := ih (st.set c t1) (t1 + (rd_T43 J (c : Int)).f2) v1 v2 hRv (by omega) (by rw [List.length_set]; exact hl)
      (fun i hi => by
        rw [List.length_set] at hi
        rw [rd_set_of st c i t1 hi]
        split
        · exact .inr ht0
        · exact hst i hi) (by omega) (by rw [hset]; omega)
    rw [hset] at hr2
    refine ⟨r, hr1, hL r (hSt r ?_), ?_⟩
    · rw [w64 (by omega) (by omega), w64 (by omega) (by omega)]
      exact hr2
    · obtain ⟨K3, e3⟩ := hCh
      obtain ⟨K4, e4⟩ := hr3
      refine ⟨K1 + K2 + K3 + K4 + 1, fun n hn5 => ?_⟩
      obtain ⟨m, rfl⟩ : ∃ m, n = m + 1 := ⟨n - 1, by omega⟩
      dsimp only at e3 e4 ⊢
      rw [startsByL, e1 m (by omega), Option.bind_some, if_neg (by omega), e2 m (by omega), Option.bind_some]
      dsimp only
      rw [if_pos (by omega), htt, huu, e3 m (by omega), Option.bind_some]
      dsimp only
      rw [if_pos (by omega), Int.toNat_natCast, w64 (by omega) (by omega)]
      exact e4 m (by omega)
theorem lines_all {σ1 σ2 : Type} {J : List S43} (hJ : isJobs J = true) (L : Nat → List Int → Int → Int → σ1 → Option (List Int)) (ch : Nat → List Int → Int → σ2 → Option (Int × σ2)) (id2 : σ2 → σ2) (s1 : σ1) (s2 : σ2)
    (h : ∀ (d : Nat) (st : List Int) (now : Int), startedN st + d = J.length → st.length = J.length → (∀ i : Nat, i < st.length → rd st (i : Int) = -1 ∨ 0 ≤ rd st (i : Int)) → 0 ≤ now → now ≤ 1000 + 20 * (startedN st : Int) →
      ∃ r : List Int, r.length ≤ 20 ∧ Ev (fun k => L k st now (startedN st : Int) s1) r ∧ Ev (fun k => startsByL J ch id2 k st now s2) r) :
    ∃ r : List Int, r.length ≤ 20 ∧ Ev (fun k => L k (List.replicate J.length (-1)) 0 0 s1) r ∧ Ev (fun k => startsByL J ch id2 k (List.replicate J.length (-1)) 0 s2) r := by
  have hz : startedN (List.replicate J.length (-1 : Int)) = 0 := by simp [startedN, List.countP_replicate]
  obtain ⟨r, h1, h2, h3⟩ := h J.length (List.replicate J.length (-1)) 0 (by omega) List.length_replicate (fun i hi => .inl (by rw [rd_at _ i hi]; simp)) (Int.le_refl _) (by omega)
  rw [hz] at h2
  exact ⟨r, h1, h2, h3⟩
end Go.Proofs.Ytkkgnjdepgmjlaa.X

/- The first waiting job of a class: the program and the reference come to the same. -/
namespace Go.Proofs.Ytkkgnjdepgmjlaa.X
set_option linter.unusedSimpArgs false
set_option linter.unusedVariables false
open Go.RowKit Go.Proofs.YtkkgnjdepgmjlaaW.PrintWords
def isCl (J : List S43) (c : Int) (x : Int) : Bool := decide ((rd_T43 J x).f1 = c)
/-- The first waiting job of a class, of the first m ones. -/
def fcOf (J : List S43) (st : List Int) (t c : Int) (m : Nat) : Option Int := (wlTo J st t m).find? (isCl J c)
theorem fcOf_succ (J : List S43) (st : List Int) (t c : Int) (m : Nat) : fcOf J st t c (m + 1) = (fcOf J st t c m).or (if waitsB J st t m = true ∧ (rd_T43 J (m : Int)).f1 = c then some (m : Int) else none) := by
  unfold fcOf
  rw [wlTo]
  by_cases h : waitsB J st t m = true
  · rw [if_pos h, List.find?_append]
    by_cases h2 : (rd_T43 J (m : Int)).f1 = c
    · rw [if_pos ⟨h, h2⟩]; simp [isCl, h2]
    · rw [if_neg (fun h3 => h2 h3.2)]; simp [isCl, h2]
  · rw [if_neg h, if_neg (fun h3 => h h3.1)]; simp
theorem fcOf_some {J : List S43} {st : List Int} {t c v : Int} {m : Nat} (h : fcOf J st t c m = some v) : ∃ i : Nat, v = (i : Int) ∧ i < m ∧ waitsB J st t i = true ∧ (rd_T43 J (i : Int)).f1 = c := by
  unfold fcOf at h
  have h1 := List.mem_of_find?_eq_some h
  have h2 := List.find?_some h
  obtain ⟨i, h3, h4, h5⟩ := wlTo_mem m h1
  subst h3
  exact ⟨i, rfl, h4, h5, by simpa [isCl] using h2⟩
theorem fcOf_stay {J : List S43} {st : List Int} {t c v : Int} {m : Nat} (h : fcOf J st t c m = some v) : ∀ d, fcOf J st t c (m + d) = some v
  | 0 => h
  | d + 1 => by
    have := fcOf_stay h d
    rw [← Nat.add_assoc, fcOf_succ, this]
    rfl
theorem fcOf_none {J : List S43} {st : List Int} {t c : Int} {m : Nat} (h : fcOf J st t c m = none) (i : Nat) (hi : i < m) (hw : waitsB J st t i = true) : (rd_T43 J (i : Int)).f1 ≠ c := by
  intro hc
  cases h2 : fcOf J st t c (i + 1) with
  | none =>
    rw [fcOf_succ, if_pos ⟨hw, hc⟩] at h2
    cases h3 : fcOf J st t c i with
    | none => rw [h3] at h2; cases h2
    | some v => rw [h3] at h2; cases h2
  | some v =>
    have := fcOf_stay h2 (m - (i + 1))
    rw [show i + 1 + (m - (i + 1)) = m by omega, h] at this
    cases this
theorem waits_eq (J : List S43) (st : List Int) (t done : Int) (i : Nat) (hi : i < J.length) (hl : st.length = J.length) : spec_prLine_waits.f J st t done (i : Int) = some (waitsB J st t i, t, done) := by
  unfold spec_prLine_waits.f waitsB
  rw [if_pos (by omega), if_pos (by omega)]
  by_cases h : rd st (i : Int) < 0
  · rw [if_pos h, if_pos (by omega)]; simp [h]
  · rw [if_neg h]; simp [h]
theorem specFirst_ev (J : List S43) (st : List Int) (t done c : Int) (hl : st.length = J.length) (hn : J.length ≤ 20) : Ev (fun k => spec_prLine_first.f k J st t done c) ((fcOf J st t c J.length).getD (-1), t, done) := by
  have key := evUp0 J.length (fun k (_ : Unit) (i : Nat) => spec_prLine_first.l0 k c J (J.length : Int) (i : Int) J st t done) (fun i _ => fcOf J st t c i = none) ((fcOf J st t c J.length).getD (-1), t, done) () rfl
    (by
      intro i s hi hI
      have hw := waits_eq J st t done i hi hl
      by_cases h : waitsB J st t i = true ∧ (rd_T43 J (i : Int)).f1 = c
      · refine .inr (evEnd fun k => ?_)
        have hs : fcOf J st t c (i + 1) = some (i : Int) := by rw [fcOf_succ, hI, if_pos h]; rfl
        have hs2 := fcOf_stay hs (J.length - (i + 1))
        rw [show i + 1 + (J.length - (i + 1)) = J.length by omega] at hs2
        simp only [spec_prLine_first.l0]
        rw [if_pos (by omega), if_pos (by omega), if_pos (by omega), hw, Option.bind_some, if_pos h.1, if_pos h.2, hs2]
        rfl
      · refine .inl ⟨(), by rw [fcOf_succ, hI, if_neg h]; rfl, fun h2 => evNext (fun k => ?_) h2⟩
        show spec_prLine_first.l0 (k + 1) c J (J.length : Int) (i : Int) J st t done = spec_prLine_first.l0 k c J (J.length : Int) (i + 1 : Nat) J st t done
        simp only [spec_prLine_first.l0]
        rw [if_pos (by omega), if_pos (by omega), if_pos (by omega), hw, Option.bind_some, w64 (by omega) (by omega)]
        by_cases h3 : waitsB J st t i = true
        · rw [if_pos h3, if_neg (fun h4 => h ⟨h3, h4⟩)]; rfl
        · rw [if_neg h3]; rfl)
    (by
      intro s hI
      refine evEnd fun k => ?_
      show spec_prLine_first.l0 (k + 1) c J (J.length : Int) (J.length : Int) J st t done = _
      simp only [spec_prLine_first.l0]
      rw [if_neg (by omega), hI]
      rfl)
  exact key
theorem ofClass_ev (J : List S43) (st : List Int) (t c : Int) (hl : st.length = J.length) (hn : J.length ≤ 20) : Ev (fun k => impl_line_ofClass.f k J t st c) ((fcOf J st t c J.length).getD (-1), t) := by
  have hwl := wlTo_len J st t J.length
  obtain ⟨wl, hw⟩ : ∃ wl, wlTo J st t J.length = wl := ⟨_, rfl⟩
  have hwn : wl.length ≤ 20 := by rw [hw] at hwl; omega
  have key := evUp0 wl.length (fun k (_ : Unit) (i : Nat) => impl_line_ofClass.l0 k c wl (wl.length : Int) (i : Int) J t st) (fun i _ => (wl.take i).find? (isCl J c) = none) ((fcOf J st t c J.length).getD (-1), t) () (by simp)
    (by
      intro i s hi hI
      have hr := rd_at wl i hi
      have hb : 0 ≤ rd wl (i : Int) ∧ rd wl (i : Int) < (J.length : Int) := by
        obtain ⟨j, h1, h2, _⟩ := wlTo_mem (J := J) (st := st) (t := t) (x := rd wl (i : Int)) J.length (by rw [hw, hr]; exact List.getElem_mem hi)
        omega
      have ht : wl.take (i + 1) = wl.take i ++ [rd wl (i : Int)] := by rw [hr, List.take_succ_eq_append_getElem hi]
      by_cases h : (rd_T43 J (rd wl (i : Int))).f1 = c
      · refine .inr (evEnd fun k => ?_)
        have hs : wl.find? (isCl J c) = some (rd wl (i : Int)) := by
          have h9 : (wl.take (i + 1) ++ wl.drop (i + 1)).find? (isCl J c) = some (rd wl (i : Int)) := by
            rw [List.find?_append, ht, List.find?_append, hI]
            simp [isCl, h]
          rw [List.take_append_drop] at h9
          exact h9
        simp only [impl_line_ofClass.l0]
        rw [if_pos (by omega), if_pos (by omega), if_pos (by omega), if_pos hb.1, if_pos hb.2, if_pos h]
        unfold fcOf
        rw [hw, hs]
        rfl
      · refine .inl ⟨(), by rw [ht, List.find?_append, hI]; simp [isCl, h], fun h2 => evNext (fun k => ?_) h2⟩
        show impl_line_ofClass.l0 (k + 1) c wl (wl.length : Int) (i : Int) J t st = impl_line_ofClass.l0 k c wl (wl.length : Int) (i + 1 : Nat) J t st
        simp only [impl_line_ofClass.l0]
        rw [if_pos (by omega), if_pos (by omega), if_pos (by omega), if_pos hb.1, if_pos hb.2, if_neg h, w64 (by omega) (by omega)]
        rfl)
    (by
      intro s hI
      refine evEnd fun k => ?_
      show impl_line_ofClass.l0 (k + 1) c wl (wl.length : Int) (wl.length : Int) J t st = _
      simp only [impl_line_ofClass.l0]
      rw [List.take_length] at hI
      unfold fcOf
      rw [if_neg (by omega), hw, hI]
      rfl)
  obtain ⟨K1, e1⟩ := waiting_ev J st t hl hn
  obtain ⟨K2, e2⟩ := key
  refine ⟨K1 + K2, fun n hn => ?_⟩
  dsimp only at e1 e2 ⊢
  unfold impl_line_ofClass.f
  rw [e1 n (by omega), Option.bind_some, hw]
  exact e2 n (by omega)
/-- The class behind. -/
def prevC (c : Int) : Int := if c = 0 then 7 else c - 1
theorem cls8 {c : Int} (h0 : 0 ≤ c) (h1 : c < 8) : c = 0 ∨ c = 1 ∨ c = 2 ∨ c = 3 ∨ c = 4 ∨ c = 5 ∨ c = 6 ∨ c = 7 := by omega
theorem prevC_in {c : Int} (h0 : 0 ≤ c) (h1 : c < 8) : 0 ≤ prevC c ∧ prevC c < 8 := by
  unfold prevC
  split <;> omega
/-- How many classes lie between. -/
def distC (c x : Int) : Nat := if x ≤ c then (c - x).toNat else (c - x + 8).toNat
theorem distC_zero {c x : Int} (hc : 0 ≤ c ∧ c < 8) (hx : 0 ≤ x ∧ x < 8) (h : distC c x = 0) : c = x := by
  unfold distC at h
  split at h <;> omega
theorem distC_prev {c x : Int} (hc : 0 ≤ c ∧ c < 8) (hx : 0 ≤ x ∧ x < 8) (d : Nat) (h : distC c x = d + 1) : distC (prevC c) x = d := by
  unfold distC prevC at *
  split at h <;> split <;> split <;> omega
/-- Some job waits: its class. -/
theorem some_class {J : List S43} (hJ : isJobs J = true) {st : List Int} {t : Int} (h : someB J st t J.length = true) : ∃ x : Int, 0 ≤ x ∧ x < 8 ∧ ∃ v, fcOf J st t x J.length = some v := by
  have h1 : ∃ i : Nat, i < J.length ∧ waitsB J st t i = true := by
    rw [wlTo_some] at h
    have h2 : 0 < (wlTo J st t J.length).length := by simpa using h
    obtain ⟨i, _, h3, h4⟩ := wlTo_mem J.length (List.getElem_mem h2)
    exact ⟨i, h3, h4⟩
  obtain ⟨i, hi, hw⟩ := h1
  have hb := (isJobs_at hJ).2 i hi
  refine ⟨(rd_T43 J (i : Int)).f1, by omega, by omega, ?_⟩
  cases h3 : fcOf J st t (rd_T43 J (i : Int)).f1 J.length with
  | none => exact absurd rfl (fcOf_none h3 i hi hw)
  | some v => exact ⟨v, rfl⟩
end Go.Proofs.Ytkkgnjdepgmjlaa.X

/- DeficitStarts: the program and the reference come to the same. -/
namespace Go.Proofs.Ytkkgnjdepgmjlaa.X
set_option linter.unusedSimpArgs false
set_option linter.unusedVariables false
open Go.RowKit Go.Proofs.YtkkgnjdepgmjlaaW.PrintWords
theorem nxD_eq {c : Int} (h0 : 0 ≤ c) (h1 : c < 8) : nxD c = prevC c := by
  unfold nxD
  rw [w64 (by omega) (by omega)]
  rcases cls8 h0 h1 with rfl | rfl | rfl | rfl | rfl | rfl | rfl | rfl <;> rfl
theorem nxTd_eq {c : Int} (h0 : 0 ≤ c) (h1 : c < 8) : nxT c = prevC c := by
  unfold nxT
  rw [w64 (x := c + 8) (by omega) (by omega), w64 (by omega) (by omega)]
  rcases cls8 h0 h1 with rfl | rfl | rfl | rfl | rfl | rfl | rfl | rfl <;> rfl
theorem rd_seti (l : List Int) (c d v : Int) (hc : 0 ≤ c) (hd : 0 ≤ d) (hd2 : d < (l.length : Int)) : rd (l.set c.toNat v) d = if c = d then v else rd l d := by
  obtain ⟨i, rfl⟩ := Int.eq_ofNat_of_zero_le hc
  obtain ⟨j, rfl⟩ := Int.eq_ofNat_of_zero_le hd
  rw [Int.toNat_natCast, rd_set_of l i j v (by omega)]
  by_cases h : i = j
  · subst h; simp
  · rw [if_neg h, if_neg (by omega)]
/-- What the credits are: small, but for the class at hand. -/
def CrInv (cr : List Int) (cls : Int) : Prop := cr.length = 8 ∧ (0 ≤ cls ∧ cls < 8) ∧ ∀ c : Int, 0 ≤ c → c < 8 → 0 ≤ rd cr c ∧ rd cr c ≤ 60 ∧ (c ≠ cls → rd cr c < 20)
def DefGood (J : List S43) (q st : List Int) (t done : Int) (cr : List Int) (cls : Int) : Prop :=
  ∃ (c : Nat) (cr' : List Int) (cls' : Int), c < J.length ∧ waitsB J st t c = true ∧ CrInv cr' cls' ∧
    (∀ r, Ev (fun k => spec_DeficitStarts.l0 J q k (st.set c t) (wrap64 (t + (rd_T43 J (c : Int)).f2)) (wrap64 (done + 1)) cr' cls') r → Ev (fun k => spec_DeficitStarts.l0 J q k st t done cr cls) r) ∧
    ∀ (fresh : Bool) (cr2 : List Int), addF q fresh cr2 cls = cr → ∃ K, ∀ k0 k, K ≤ k0 → K ≤ k → defLoop J q k0 st t k cls fresh cr2 = some ((c : Int), cls', false, cr')
section
variable {J : List S43} {q st : List Int} {t done : Int}
theorem def_pick (hJ : isJobs J = true) (hl : st.length = J.length) (hs : skipB J st t done = false) (hd : done < (J.length : Int)) {cr : List Int} {cls v : Int} (hi : CrInv cr cls) (hf : fcOf J st t cls J.length = some v) (hc : (rd_T43 J v).f2 ≤ rd cr cls) : DefGood J q st t done cr cls := by
  have hn := (isJobs_at hJ).1
  obtain ⟨h8, hcl, hcr⟩ := hi
  obtain ⟨c, rfl, hc1, hc2, hc3⟩ := fcOf_some hf
  have hb := (isJobs_at hJ).2 c hc1
  have hcc := hcr cls hcl.1 hcl.2
  have h1 := specFirst_ev J st t done cls hl hn
  have h2 := ofClass_ev J st t cls hl hn
  rw [hf] at h1 h2
  refine ⟨c, cr.set cls.toNat (wrap64 (rd cr cls - (rd_T43 J (c : Int)).f2)), cls, hc1, hc2, ⟨by rw [List.length_set]; exact h8, hcl, fun d hd0 hd1 => ?_⟩, fun r hr => ?_, fun fresh cr2 hfr => ?_⟩
  · rw [rd_seti _ _ _ _ hcl.1 hd0 (by omega), w64 (by omega) (by omega)]
    have := hcr d hd0 hd1
    by_cases e : cls = d
    · rw [if_pos e]
      exact ⟨by omega, by omega, fun h => absurd e.symm h⟩
    · rw [if_neg e]
      exact this
  · obtain ⟨K1, e1⟩ := h1
    obtain ⟨K2, e2⟩ := hr
    refine ⟨K1 + K2 + 1, fun n hn => ?_⟩
    obtain ⟨m, rfl⟩ : ∃ m, n = m + 1 := ⟨n - 1, by omega⟩
    dsimp only at e1 e2 ⊢
    rw [spec_DeficitStarts.l0, if_pos hd, if_neg (by rw [hs]; decide), e1 m (by omega), Option.bind_some, if_pos hcl]
    simp only [Option.getD_some]
    rw [if_pos (by omega), if_pos (by omega), if_pos hc, Int.toNat_natCast]
    exact e2 m (by omega)
  · obtain ⟨K1, e1⟩ := h2
    refine ⟨K1 + 1, fun k0 k hk0 hk => ?_⟩
    obtain ⟨m, rfl⟩ : ∃ m, k = m + 1 := ⟨k - 1, by omega⟩
    dsimp only at e1
    rw [defLoop, e1 k0 (by omega), Option.bind_some, if_pos hcl, hfr]
    simp only [Option.getD_some]
    rw [if_pos (by omega), if_pos (by omega), if_pos hc]
/-- No job of the class may begin: the credits that are left, and what the class behind gets. -/
theorem def_next (hJ : isJobs J = true) (hl : st.length = J.length) (hs : skipB J st t done = false) (hd : done < (J.length : Int)) (hq : ∀ c : Int, 0 ≤ c → c < 8 → 1 ≤ rd q c ∧ rd q c ≤ 40) {cr : List Int} {cls : Int} (hi : CrInv cr cls)
    (hno : ∀ v, fcOf J st t cls J.length = some v → ¬ (rd_T43 J v).f2 ≤ rd cr cls)
    (hg : ∀ cr', CrInv cr' (prevC cls) → (∀ d : Int, 0 ≤ d → d < 8 → d ≠ cls → rd cr' d = if d = prevC cls then rd cr d + rd q d else rd cr d) → ((∃ v, fcOf J st t cls J.length = some v) → rd cr' cls = rd cr cls) → DefGood J q st t done cr' (prevC cls)) : DefGood J q st t done cr cls := by
  have hn := (isJobs_at hJ).1
  obtain ⟨h8, hcl, hcr⟩ := hi
  have hpv := prevC_in hcl.1 hcl.2
  have hpq := hq _ hpv.1 hpv.2
  have hpn : prevC cls ≠ cls := by unfold prevC; split <;> omega
  have h1 := specFirst_ev J st t done cls hl hn
  have h2 := ofClass_ev J st t cls hl hn
  have hcc := hcr cls hcl.1 hcl.2
  cases hf : fcOf J st t cls J.length with
  | none =>
    rw [hf] at h1 h2
    have hset : ∀ d : Int, 0 ≤ d → d < 8 → rd (addQ q (cr.set cls.toNat 0) (prevC cls)) d = if d = cls then 0 else if d = prevC cls then rd cr d + rd q d else rd cr d := by
      intro d hd0 hd1
      unfold addQ
      rw [rd_seti _ _ _ _ hpv.1 hd0 (by rw [List.length_set]; omega), rd_seti _ _ _ _ hcl.1 hpv.1 (by omega), if_neg (Ne.symm hpn), rd_seti _ _ _ _ hcl.1 hd0 (by omega)]
      have hb := hcr _ hpv.1 hpv.2
      by_cases e1 : prevC cls = d
      · rw [if_pos e1, ← e1, if_neg hpn, if_pos rfl, w64 (by omega) (by omega)]
      · rw [if_neg e1]
        by_cases e2 : cls = d
        · rw [if_pos e2, if_pos e2.symm]
        · rw [if_neg e2, if_neg (Ne.symm e2), if_neg (Ne.symm e1)]
    obtain ⟨c, cr', cls', hc1, hc2, hv, hS, hT⟩ := hg (addQ q (cr.set cls.toNat 0) (prevC cls)) ⟨by unfold addQ; rw [List.length_set, List.length_set]; exact h8, hpv, fun d hd0 hd1 => by
        rw [hset d hd0 hd1]
        have hb := hcr d hd0 hd1
        have hb2 := hq d hd0 hd1
        by_cases e1 : d = cls
        · rw [if_pos e1]; omega
        · rw [if_neg e1]
          by_cases e2 : d = prevC cls
          · rw [if_pos e2]
            exact ⟨by omega, by have := hb.2.2 e1; omega, fun h => absurd e2 h⟩
          · rw [if_neg e2]
            exact ⟨hb.1, hb.2.1, fun _ => hb.2.2 e1⟩⟩
      (fun d hd0 hd1 hdc => by rw [hset d hd0 hd1, if_neg hdc]) (fun ⟨v, hv⟩ => by rw [hf] at hv; cases hv)
    refine ⟨c, cr', cls', hc1, hc2, hv, fun r hr => ?_, fun fresh cr2 hfr => ?_⟩
    · obtain ⟨K2, e2⟩ := hS r hr
      obtain ⟨K1, e1⟩ := h1
      refine ⟨K1 + K2 + 1, fun n hn => ?_⟩
      obtain ⟨m, rfl⟩ : ∃ m, n = m + 1 := ⟨n - 1, by omega⟩
      dsimp only at e1 e2 ⊢
      rw [spec_DeficitStarts.l0, if_pos hd, if_neg (by rw [hs]; decide), e1 m (by omega), Option.bind_some, if_pos hcl, nxD_eq hcl.1 hcl.2]
      simp only [Option.getD_none]
      rw [if_neg (by omega)]
      exact e2 m (by omega)
    · obtain ⟨K2, e2⟩ := hT true (cr.set cls.toNat 0) rfl
      obtain ⟨K1, e1⟩ := h2
      refine ⟨K1 + K2 + 1, fun k0 k hk0 hk => ?_⟩
      obtain ⟨m, rfl⟩ : ∃ m, k = m + 1 := ⟨k - 1, by omega⟩
      dsimp only at e1
      rw [defLoop, e1 k0 (by omega), Option.bind_some, if_pos hcl, hfr, nxTd_eq hcl.1 hcl.2]
      simp only [Option.getD_none]
      rw [if_neg (by omega)]
      exact e2 k0 m (by omega) (by omega)
  | some v =>
    have hno' := hno v hf
    rw [hf] at h1 h2
    obtain ⟨i, rfl, hi1, hi2, hi3⟩ := fcOf_some hf
    have hbi := (isJobs_at hJ).2 i hi1
    have hset : ∀ d : Int, 0 ≤ d → d < 8 → rd (addQ q cr (prevC cls)) d = if d = prevC cls then rd cr d + rd q d else rd cr d := by
      intro d hd0 hd1
      unfold addQ
      rw [rd_seti _ _ _ _ hpv.1 hd0 (by omega)]
      have hb := hcr _ hpv.1 hpv.2
      by_cases e1 : prevC cls = d
      · rw [if_pos e1, ← e1, if_pos rfl, w64 (by omega) (by omega)]
      · rw [if_neg e1, if_neg (Ne.symm e1)]
    obtain ⟨c, cr', cls', hc1, hc2, hv, hS, hT⟩ := hg (addQ q cr (prevC cls)) ⟨by unfold addQ; rw [List.length_set]; exact h8, hpv, fun d hd0 hd1 => by
        rw [hset d hd0 hd1]
        have hb := hcr d hd0 hd1
        have hb2 := hq d hd0 hd1
        by_cases e2 : d = prevC cls
        · rw [if_pos e2]
          exact ⟨by omega, by have := hb.2.2 (by rw [e2]; exact hpn); omega, fun h => absurd e2 h⟩
        · rw [if_neg e2]
          refine ⟨hb.1, hb.2.1, fun _ => ?_⟩
          by_cases e1 : d = cls
          · rw [e1]; omega
          · exact hb.2.2 e1⟩
      (fun d hd0 hd1 _ => hset d hd0 hd1) (fun _ => by rw [hset cls hcl.1 hcl.2, if_neg (Ne.symm hpn)])
    refine ⟨c, cr', cls', hc1, hc2, hv, fun r hr => ?_, fun fresh cr2 hfr => ?_⟩
    · obtain ⟨K2, e2⟩ := hS r hr
      obtain ⟨K1, e1⟩ := h1
      refine ⟨K1 + K2 + 1, fun n hn => ?_⟩
      obtain ⟨m, rfl⟩ : ∃ m, n = m + 1 := ⟨n - 1, by omega⟩
      dsimp only at e1 e2 ⊢
      rw [spec_DeficitStarts.l0, if_pos hd, if_neg (by rw [hs]; decide), e1 m (by omega), Option.bind_some, if_pos hcl, nxD_eq hcl.1 hcl.2]
      simp only [Option.getD_some]
      rw [if_pos (by omega), if_pos (by omega), if_neg hno']
      exact e2 m (by omega)
    · obtain ⟨K2, e2⟩ := hT true cr rfl
      obtain ⟨K1, e1⟩ := h2
      refine ⟨K1 + K2 + 1, fun k0 k hk0 hk => ?_⟩
      obtain ⟨m, rfl⟩ : ∃ m, k = m + 1 := ⟨k - 1, by omega⟩
      dsimp only at e1
      rw [defLoop, e1 k0 (by omega), Option.bind_some, if_pos hcl, hfr, nxTd_eq hcl.1 hcl.2]
      simp only [Option.getD_some]
      rw [if_pos (by omega), if_pos (by omega), if_neg hno']
      exact e2 k0 m (by omega) (by omega)
/-- From another class the turn comes to x. -/
theorem def_walk (hJ : isJobs J = true) (hl : st.length = J.length) (hs : skipB J st t done = false) (hd : done < (J.length : Int)) (hq : ∀ c : Int, 0 ≤ c → c < 8 → 1 ≤ rd q c ∧ rd q c ≤ 40) (x : Int) (hx : 0 ≤ x ∧ x < 8) :
    ∀ d cls cr, CrInv cr cls → distC cls x = d + 1 → (∀ cr', CrInv cr' x → rd cr' x = rd cr x + rd q x → DefGood J q st t done cr' x) → DefGood J q st t done cr cls := by
  intro d
  induction d with
  | zero =>
    intro cls cr hi hdist hg
    have hne : cls ≠ x := by rintro rfl; unfold distC at hdist; simp at hdist
    have hpx : prevC cls = x := distC_zero (prevC_in hi.2.1.1 hi.2.1.2) hx (distC_prev hi.2.1 hx 0 hdist)
    by_cases hp : ∃ v, fcOf J st t cls J.length = some v ∧ (rd_T43 J v).f2 ≤ rd cr cls
    · obtain ⟨v, hf, hc⟩ := hp
      exact def_pick hJ hl hs hd hi hf hc
    · refine def_next hJ hl hs hd hq hi (fun v hv hc => hp ⟨v, hv, hc⟩) (fun cr' hi' hr _ => ?_)
      rw [hpx] at hi' hr ⊢
      have := hr x hx.1 hx.2 (Ne.symm hne)
      rw [if_pos rfl] at this
      exact hg cr' hi' this
  | succ d ih =>
    intro cls cr hi hdist hg
    have hne : cls ≠ x := by rintro rfl; unfold distC at hdist; simp at hdist
    have hpd := distC_prev hi.2.1 hx (d + 1) hdist
    have hpx : prevC cls ≠ x := by intro e; rw [e] at hpd; unfold distC at hpd; simp at hpd
    by_cases hp : ∃ v, fcOf J st t cls J.length = some v ∧ (rd_T43 J v).f2 ≤ rd cr cls
    · obtain ⟨v, hf, hc⟩ := hp
      exact def_pick hJ hl hs hd hi hf hc
    · refine def_next hJ hl hs hd hq hi (fun v hv hc => hp ⟨v, hv, hc⟩) (fun cr' hi' hr _ => ?_)
      have hxx := hr x hx.1 hx.2 (Ne.symm hne)
      rw [if_neg (Ne.symm hpx)] at hxx
      exact ih (prevC cls) cr' hi' hpd (fun cr2 hi2 hr2 => hg cr2 hi2 (by rw [hr2, hxx]))
theorem def_at (hJ : isJobs J = true) (hl : st.length = J.length) (hs : skipB J st t done = false) (hd : done < (J.length : Int)) (hq : ∀ c : Int, 0 ≤ c → c < 8 → 1 ≤ rd q c ∧ rd q c ≤ 40) (x v : Int) (hx : 0 ≤ x ∧ x < 8) (hf : fcOf J st t x J.length = some v) :
    ∀ (n : Nat) cr, CrInv cr x → (rd_T43 J v).f2 ≤ rd cr x + (n : Int) → DefGood J q st t done cr x := by
  intro n
  induction n with
  | zero => intro cr hi h; exact def_pick hJ hl hs hd hi hf (by omega)
  | succ n ih =>
    intro cr hi h
    by_cases hc : (rd_T43 J v).f2 ≤ rd cr x
    · exact def_pick hJ hl hs hd hi hf hc
    · refine def_next hJ hl hs hd hq hi (fun u hu => by rw [hf] at hu; cases hu; exact hc) (fun cr' hi' hr hsame => ?_)
      have hxx := hsame ⟨v, hf⟩
      have h7 : distC (prevC x) x = 6 + 1 := by unfold distC prevC; split <;> split <;> omega
      refine def_walk hJ hl hs hd hq x hx 6 (prevC x) cr' hi' h7 (fun cr2 hi2 hr2 => ih cr2 hi2 ?_)
      have := hq x hx.1 hx.2
      rw [hr2, hxx]
      omega
theorem def_good (hJ : isJobs J = true) (hl : st.length = J.length) (hsm : someB J st t J.length = true) (hd : done < (J.length : Int)) (hq : ∀ c : Int, 0 ≤ c → c < 8 → 1 ≤ rd q c ∧ rd q c ≤ 40) {cr : List Int} {cls : Int} (hi : CrInv cr cls) : DefGood J q st t done cr cls := by
  have hs : skipB J st t done = false := by unfold skipB; rw [hsm]; rfl
  obtain ⟨x, hx1, hx2, v, hf⟩ := some_class hJ hsm
  obtain ⟨i, rfl, hi1, hi2, hi3⟩ := fcOf_some hf
  have hb := (isJobs_at hJ).2 i hi1
  have hat : ∀ cr', CrInv cr' x → DefGood J q st t done cr' x := fun cr' hi' => by
    have := hi'.2.2 x hx1 hx2
    exact def_at hJ hl hs hd hq x (i : Int) ⟨hx1, hx2⟩ hf 20 cr' hi' (by omega)
  by_cases e : distC cls x = 0
  · have := distC_zero hi.2.1 ⟨hx1, hx2⟩ e
    subst this
    exact hat cr hi
  · exact def_walk hJ hl hs hd hq x ⟨hx1, hx2⟩ (distC cls x - 1) cls cr hi (by omega) (fun cr' hi' _ => hat cr' hi')
end
theorem crNew_inv (q : List Int) (hq : ∀ c : Int, 0 ≤ c → c < 8 → 1 ≤ rd q c ∧ rd q c ≤ 40) : CrInv (crNew q) 7 ∧ addF q true (List.replicate 8 0) 7 = crNew q := by
  have h7 := hq 7 (by omega) (by omega)
  have hz : ∀ d : Int, 0 ≤ d → d < 8 → rd (List.replicate 8 (0 : Int)) d = 0 := fun d h0 h1 => by
    obtain ⟨j, rfl⟩ := Int.eq_ofNat_of_zero_le h0
    rw [rd_at _ j (by rw [List.length_replicate]; omega), List.getElem_replicate]
  refine ⟨⟨by simp [crNew], by omega, fun c h0 h1 => ?_⟩, ?_⟩
  · have := rd_seti (List.replicate 8 0) 7 c (rd q 7) (by omega) h0 (by simp; omega)
    show 0 ≤ rd ((List.replicate 8 0).set (7 : Int).toNat (rd q 7)) c ∧ rd ((List.replicate 8 0).set (7 : Int).toNat (rd q 7)) c ≤ 60 ∧ (c ≠ 7 → rd ((List.replicate 8 0).set (7 : Int).toNat (rd q 7)) c < 20)
    rw [this, hz c h0 h1]
    by_cases e : (7 : Int) = c
    · rw [if_pos e]; omega
    · rw [if_neg e]; omega
  · unfold addF addQ crNew
    rw [if_pos rfl, hz 7 (by omega) (by omega), w64 (by omega) (by omega), Int.zero_add]
    rfl
theorem def_all {J : List S43} (hJ : isJobs J = true) (q : List Int) (hq : ∀ c : Int, 0 ≤ c → c < 8 → 1 ≤ rd q c ∧ rd q c ≤ 40) :
    ∃ r : List Int, r.length ≤ 20 ∧ Ev (fun k => spec_DeficitStarts.l0 J q k (List.replicate J.length (-1)) 0 0 (crNew q) 7) r ∧ Ev (fun k => startsByL J (gDef q J) (fun _ => (7, true, List.replicate 8 0)) k (List.replicate J.length (-1)) 0 (7, true, List.replicate 8 0)) r := by
  obtain ⟨h7, h7e⟩ := crNew_inv q hq
  refine lines_all hJ (fun k st now done (s : List Int × Int) => spec_DeficitStarts.l0 J q k st now done s.1 s.2) (gDef q J) (fun _ => (7, true, List.replicate 8 0)) (crNew q, 7) (7, true, List.replicate 8 0) ?_
  intro d st now
  refine lines_main hJ (fun k st now done (s : List Int × Int) => spec_DeficitStarts.l0 J q k st now done s.1 s.2) (gDef q J) (fun _ => (crNew q, 7)) (fun _ => (7, true, List.replicate 8 0)) (fun s1 s2 => s2.1 = s1.2 ∧ addF q s2.2.1 s2.2.2 s1.2 = s1.1 ∧ CrInv s1.1 s1.2) ?_ ?_ ?_ ?_ d st now (crNew q, 7) (7, true, List.replicate 8 0) ⟨rfl, h7e, h7⟩
  · intro k st now done s h
    rw [spec_DeficitStarts.l0, if_neg h]
  · intro k st now done s hd h1 h2
    rw [spec_DeficitStarts.l0, spec_DeficitStarts.l0, if_pos hd, if_pos hd, if_pos h1, if_neg (by rw [h2]; decide)]
  · intro s1 s2 _
    exact ⟨rfl, h7e, h7⟩
  · intro st t done s1 s2 hR hl hsm hd ht0 ht1
    obtain ⟨hR1, hR2, hR3⟩ := hR
    obtain ⟨c, cr', cls', hc1, hc2, hv', hS, hT⟩ := def_good hJ hl hsm hd hq hR3
    obtain ⟨K, hT⟩ := hT s2.2.1 s2.2.2 hR2
    refine ⟨c, (cr', cls'), (cls', false, cr'), hc1, hc2, ⟨rfl, rfl, hv'⟩, hS, K, fun n hn => ?_⟩
    show defLoop J q n st t n s2.1 s2.2.1 s2.2.2 = _
    rw [hR1]
    exact hT n n hn hn
theorem DeficitStarts_same (L : List S45) (s : List Int) (h : (L.length ≤ maxLen ∧ (∀ x ∈ L, (Lit.int .i64 x.f0).wf = true ∧ (Lit.int .i64 x.f1).wf = true ∧ (Lit.int .i64 x.f2).wf = true) ∧ s.length ≤ maxLen ∧ s.length * 8 ≤ 140737488351232 ∧ (∀ x ∈ s, (Lit.int .i64 x).wf = true) ∧ (s.length ≤ 1048576 ∧ L.length ≤ 1048576))) :
    ∃ v, Ev (fun k => spec_DeficitStarts.f k (toL L) s) v ∧ Ev (fun k => impl_DeficitStarts.f k (toL L) s) v ∧ v.1.length ≤ 1000000 := by
  have htl := toL_length L
  generalize toL L = J at htl ⊢
  obtain ⟨K1, e1⟩ := specJobs_ev J (by omega)
  obtain ⟨K2, e2⟩ := implJobs_ev J (by omega)
  obtain ⟨K5, e5⟩ := l1All_ev s 1 40 (by omega)
  have e6 := allWithin_eq s 1 40
  dsimp only at e1 e2 e5
  cases hJ : isJobs J with
  | false =>
    rw [hJ] at e1 e2
    refine ⟨([], false), ⟨K1 + 9, fun n hn => ?_⟩, ⟨K2 + 9, fun n hn => ?_⟩, by simp⟩
    · simp (disch := omega) [spec_DeficitStarts.f, e1]
    · simp (disch := omega) [impl_DeficitStarts.f, e2]
  | true =>
    rw [hJ] at e1 e2
    have h20 := (isJobs_at hJ).1
    by_cases h8 : s.length = 8
    · cases hs : s.all (inB 1 40) with
      | false =>
        rw [hs] at e5 e6
        refine ⟨([], false), ⟨K1 + K5 + 9, fun n hn => ?_⟩, ⟨K2 + 9, fun n hn => ?_⟩, by simp⟩
        · simp (disch := omega) [spec_DeficitStarts.f, spec_prEight.f, e1, e5, h8]
        · simp (disch := omega) [impl_DeficitStarts.f, e2, e6, h8]
      | true =>
        rw [hs] at e5 e6
        have hsh : ∀ c : Int, 0 ≤ c → c < 8 → 1 ≤ rd s c ∧ rd s c ≤ 40 := fun c h0 h1 => by
          obtain ⟨i, rfl⟩ := Int.eq_ofNat_of_zero_le h0
          exact all_rd hs i (by omega)
        obtain ⟨r, h1, ⟨K3, e3⟩, ⟨K4, e4⟩⟩ := def_all hJ s hsh
        dsimp only at e3 e4
        refine ⟨(r, true), ⟨K1 + K3 + K5 + 9, fun n hn => ?_⟩, ⟨K2 + K4 + 9, fun n hn => ?_⟩, by simp; omega⟩
        · have h8i : (s.length : Int) = 8 := by omega
          simp (disch := omega) only [spec_DeficitStarts.f, spec_prEight.f, e1, e5, h8, e3, h20, Option.bind_some, if_true, and_self]
          rfl
        · simp (disch := omega) only [impl_DeficitStarts.f, e2, e6, h8, e4, h20, Option.bind_some, if_true]
    · refine ⟨([], false), ⟨K1 + 9, fun n hn => ?_⟩, ⟨K2 + 9, fun n hn => ?_⟩, by simp⟩
      · have h9 : ¬ (s.length : Int) = 8 := by omega
        simp (disch := omega) [spec_DeficitStarts.f, spec_prEight.f, e1, h9]
      · simp (disch := omega) [impl_DeficitStarts.f, e2, h8]
end Go.Proofs.Ytkkgnjdepgmjlaa.X

/- Plain lemmas: the laws' marks on slices of Jobs. -/
namespace Go.Proofs.Ytkkgnjdepgmjlaa.X
set_option linter.unusedSimpArgs false
set_option linter.unusedVariables false
open Go.RowKit Go.Proofs.YtkkgnjdepgmjlaaW.PrintWords
def marksS (n : Nat) (a : Int) : List S43 := (List.range n).map (fun (j : Nat) => ⟨a + 3 * (j : Int), a + 3 * (j : Int) + 1, a + 3 * (j : Int) + 2⟩)
theorem marksS_length (n : Nat) (a : Int) : (marksS n a).length = n := by simp [marksS]
theorem markS_ev (l : List S43) (a : Int) (h0 : 0 ≤ a ∧ a ≤ 1000000) (h1 : l.length ≤ 1048576) : Ev (fun k => laws_markJobS.f k l a) (a + 3 * (l.length : Int), marksS l.length a) := by
  have key := evUp0 l.length (fun k (s : List S43) (i : Nat) => laws_markJobS.l0 k s (a + 3 * (i : Int)) (i : Int)) (fun i s => s = (marksS l.length a).take i ++ l.drop i) (a + 3 * (l.length : Int), marksS l.length a) l (by simp)
    (by
      intro i s hi hI
      have hsl : s.length = l.length := by rw [hI]; simp [marksS_length]; omega
      refine .inl ⟨(marksS l.length a).take (i + 1) ++ l.drop (i + 1), rfl, fun h => evNext (fun k => ?_) h⟩
      show laws_markJobS.l0 (k + 1) s (a + 3 * (i : Int)) (i : Int) = laws_markJobS.l0 k _ (a + 3 * ((i + 1 : Nat) : Int)) (i + 1 : Nat)
      simp only [laws_markJobS.l0, Option.bind_some]
      rw [if_pos (by omega), if_pos (by omega)]
      simp (disch := omega) only [w64, Int.toNat_natCast]
      rw [rdS_at s i (by omega), rdS_at _ i (by simp; omega), rdS_at _ i (by simp; omega)]
      simp only [List.getElem_set_self, List.set_set]
      congr 1
      · subst hI
        have hm : i < (marksS l.length a).length := by rw [marksS_length]; exact hi
        rw [List.take_succ_eq_append_getElem hm, List.append_assoc, List.set_append_right _ _ (by simp; omega)]
        congr 1
        have e1 : (List.take i (marksS l.length a)).length = i := by simp [marksS_length]; omega
        rw [e1, Nat.sub_self, List.drop_eq_getElem_cons hi, List.set_cons_zero]
        simp only [marksS, List.getElem_map, List.getElem_range]
        show _ = [_] ++ _
        rw [List.singleton_append]
        congr 2
        omega
      · omega)
    (by
      intro s hI
      refine evEnd fun k => ?_
      show laws_markJobS.l0 (k + 1) s (a + 3 * ((l.length : Nat) : Int)) ((l.length : Nat) : Int) = _
      have hsl : s.length = l.length := by rw [hI]; simp [marksS_length]
      simp only [laws_markJobS.l0]
      rw [if_neg (by omega), hI, List.take_of_length_le (by rw [marksS_length]; exact Nat.le_refl _)]
      simp)
  refine Ev.congr (fun k => ?_) key
  unfold laws_markJobS.f
  simp
end Go.Proofs.Ytkkgnjdepgmjlaa.X

/- DeficitStarts answers as the reference does, for every input: the pure statement. -/
namespace Go.Proofs.Ytkkgnjdepgmjlaa.Pure
set_option linter.unusedSimpArgs false
set_option linter.unusedVariables false
set_option linter.unusedSimpArgs false
open Go.RowKit Go.Proofs.Ytkkgnjdepgmjlaa.X Go.Proofs.YtkkgnjdepgmjlaaW.PrintWords Go.Proofs.YtkkgnjdepgmjlaaW.PrintLast
set_option maxHeartbeats 1000000 in
theorem FnExactDeficitStarts : ∀ (l0 : List S45) (l1 : List Int), l0.length ≤ maxLen → (∀ x ∈ l0, (Lit.int .i64 x.f0).wf = true ∧ (Lit.int .i64 x.f1).wf = true ∧ (Lit.int .i64 x.f2).wf = true) → l1.length ≤ maxLen → l1.length * 8 ≤ 140737488351232 → (∀ x ∈ l1, (Lit.int .i64 x).wf = true) → ∃ k, laws_FnExactDeficitStarts.f k l0 l1 = some true := by
  intro l0 l1 h0_ h1_ h2_ h3_ h4_
  by_cases hb0 : (l1.length : Int) > 1048576
  · exact ⟨9, by simp [laws_FnExactDeficitStarts.f, hb0]⟩
  by_cases hs : 1048576 < l0.length
  · exact ⟨9, by simp [laws_FnExactDeficitStarts.f, hb0, sz_big l0 (by omega) (by unfold maxLen at *; omega)]⟩
  have hm : l1.length ≤ 1048576 ∧ l0.length ≤ 1048576 := ⟨by omega, by omega⟩
  obtain ⟨⟨r, b⟩, hS, hI, hr⟩ := DeficitStarts_same l0 l1 (by first | exact ⟨h0_, h1_, h2_, h3_, h4_, hm⟩ | trivial)
  obtain ⟨K1, e1⟩ := hS
  obtain ⟨K2, e2⟩ := hI
  obtain ⟨K3, e3⟩ := toIntS_ev l1 (by omega)
  obtain ⟨K4, e4⟩ := eqIntS_ev l1 l1 (by omega)
  dsimp only at hr
  obtain ⟨K5, e5⟩ := eqIntS_ev r r (by omega)
  obtain ⟨K6, e6⟩ := markIntS_ev r 1 (by omega) (by omega)
  obtain ⟨K7, e7⟩ := heldIntS_ev r.length 1 (by omega) (by omega)
  have htl_l0 := toL_length l0
  obtain ⟨K8, e8⟩ := markS_ev (toL l0) (1) (by omega) (by omega)
  obtain ⟨K9, e9⟩ := markIntS_ev l1 (1 + 3 * ((toL l0).length : Int)) (by omega) (by omega)
  have n_k : ¬ (1 + 3 * ((toL l0).length : Int) + (l1.length : Int) < 0) := by omega
  have n_r : ¬ (1 + (r.length : Int) < 0) := by omega
  have es_l0 := sz_small l0 (by omega)
  have ns_l0 : ¬ (1048576 - (l0.length : Int) < 0) := by omega
  obtain ⟨K10, e10⟩ := toS_ev l0 (by omega)
  -- structs
  obtain ⟨K11, e11⟩ := eqS_ev (toL l0) (by rw [toL_length]; omega)
  dsimp only at e1 e2 e3 e4 e5 e6 e7 e8 e9 e10 e11
  refine ⟨K1 + K2 + K3 + K4 + K5 + K6 + K7 + K8 + K9 + K10 + K11 + 9, ?_⟩
  simp (disch := omega) only [laws_FnExactDeficitStarts.f, e1, e2, e3, e4, e5, e6, e7, e8, e9, e10, e11, es_l0, hb0, n_k, n_r, ns_l0, Option.bind_some, eq_self, decide_true, bne_self_eq_false, Bool.false_eq_true, Bool.not_true, Bool.not_false, ↓reduceIte]
  all_goals (try rw [laws_FnExactDeficitStarts.j0.eq_2])
  all_goals (try simp (disch := omega) only [laws_FnExactDeficitStarts.f, e1, e2, e3, e4, e5, e6, e7, e8, e9, e10, e11, es_l0, hb0, n_k, n_r, ns_l0, Option.bind_some, eq_self, decide_true, bne_self_eq_false, Bool.false_eq_true, Bool.not_true, Bool.not_false, ↓reduceIte])
  all_goals (try rw [laws_FnExactDeficitStarts.j1.eq_2])
  all_goals (try simp (disch := omega) only [laws_FnExactDeficitStarts.f, e1, e2, e3, e4, e5, e6, e7, e8, e9, e10, e11, es_l0, hb0, n_k, n_r, ns_l0, Option.bind_some, eq_self, decide_true, bne_self_eq_false, Bool.false_eq_true, Bool.not_true, Bool.not_false, ↓reduceIte])
  all_goals (try rw [laws_FnExactDeficitStarts.j2.eq_2])
  all_goals (try simp (disch := omega) only [laws_FnExactDeficitStarts.f, e1, e2, e3, e4, e5, e6, e7, e8, e9, e10, e11, es_l0, hb0, n_k, n_r, ns_l0, Option.bind_some, eq_self, decide_true, bne_self_eq_false, Bool.false_eq_true, Bool.not_true, Bool.not_false, ↓reduceIte])
end Go.Proofs.Ytkkgnjdepgmjlaa.Pure

/- Plain lemmas for the rows: a slice of structs of three whole numbers that came in, opened to cells. -/
namespace Go.Proofs.Ytkkgnjdepgmjlaa.Rw
open Go.ChangeShapes Go.WideShapes Go.Deep Go.RowKit
section
variable {H : Type} {enc : TypeId × Value → H} {P : Program} {w : World} {base : Nat} {spare : Nat → Bool} {held : Bool}
def numAt (w : World) (a : Addr) : Int := match w.cell? a with
  | some (.int _ n) => n
  | _ => 0
theorem open_rows3 {t e : TypeId} {f0 f1 f2 : Field} {fuel : Nat} {A : Option Addr} {len cap : Nat} {x : DataW H × List MemPlace} (ht : P.underlying t = some (.slice e)) (he : P.underlying e = some (.struct #[f0, f1, f2]))
    (hone : oneCellFields P #[f0, f1, f2] = true) (hC : P.cellsOf e = 3) (h0 : P.underlying f0.type = some (.int .i64)) (h1 : P.underlying f1.type = some (.int .i64)) (h2 : P.underlying f2.type = some (.int .i64))
    (h : DataW.trod enc P w base spare held fuel t [.slice A len cap] = some x) :
    len ≤ cap ∧ len ≤ 9223372036854775807 ∧ ∃ l : List (Int × Int × Int), l.length = len ∧ (∀ p ∈ l, (Lit.int .i64 p.1).wf = true ∧ (Lit.int .i64 p.2.1).wf = true ∧ (Lit.int .i64 p.2.2).wf = true) ∧
      (0 < len → ∃ ad, A = some ad ∧ ∀ j p, l[j]? = some p → w.cell? (ad.add (j * 3 + 0)) = some (.int .i64 p.1) ∧ w.cell? (ad.add (j * 3 + 1)) = some (.int .i64 p.2.1) ∧ w.cell? (ad.add (j * 3 + 2)) = some (.int .i64 p.2.2)) := by
  rcases open_slice ht h with ⟨hcs, _⟩ | ⟨a, len', cap', m, n, D, Pl, hcs, hb, hl, hm, hmm, hx, hi⟩
  · injection hcs with hcs
    injection hcs with ha hl hc
    subst ha hl hc
    exact ⟨Nat.le_refl _, by omega, [], rfl, by simp, fun h => absurd h (by omega)⟩
  · injection hcs with hcs
    injection hcs with ha hl' hc'
    subst ha hl' hc'
    have hml : len ≤ m := by rw [hmm]; split <;> omega
    have key : ∀ i, i < len → ∃ n0 n1 n2 : Int, w.cell? (a.add (i * 3 + 0)) = some (.int .i64 n0) ∧ w.cell? (a.add (i * 3 + 1)) = some (.int .i64 n1) ∧ w.cell? (a.add (i * 3 + 2)) = some (.int .i64 n2) ∧
        (Lit.int .i64 n0).wf = true ∧ (Lit.int .i64 n1).wf = true ∧ (Lit.int .i64 n2).wf = true := by
      intro i hil
      obtain ⟨cs', hc, ht'⟩ := hi i (by omega)
      rw [hC] at hc
      obtain ⟨ys, n', hn', hy, hlen, hyl, hf⟩ := DataW.trod_struct he ht'
      obtain ⟨_, hcl, hat⟩ := World.cells?_some hc
      have one : ∀ (j : Nat) (f : Field), j < 3 → (#[f0, f1, f2] : Array Field)[j]? = some f → P.underlying f.type = some (.int .i64) → ∃ n0 : Int, w.cell? (a.add (i * 3 + j)) = some (.int .i64 n0) ∧ (Lit.int .i64 n0).wf = true := by
        intro j f hj3 hj hu
        obtain ⟨ho, hk⟩ := hone_of hone j f hj
        have hcell := hat j hj3
        have hv : cs'[j]? = some (cs'[j]'(by omega)) := List.getElem?_eq_getElem (by omega)
        have g1 := hf j f hj
        rw [ho, hk] at g1
        have hone' : (cs'.drop j).take 1 = [cs'[j]'(by omega)] := by
          rw [List.drop_eq_getElem_cons (by omega)]
          rfl
        rw [hone'] at g1
        have hys : ys[j]? = some (ys[j]'(by simp at hyl; omega)) := List.getElem?_eq_getElem (by simp at hyl; omega)
        obtain ⟨n0, e0, _, wf0⟩ := DataW.trod_int hu (g1.trans hys)
        refine ⟨n0, ?_, wf0⟩
        rw [← Go.Deep.add_add, hcell, hv]
        injection e0 with e0
        rw [e0]
      obtain ⟨n0, c0, w0⟩ := one 0 f0 (by omega) rfl h0
      obtain ⟨n1, c1, w1⟩ := one 1 f1 (by omega) rfl h1
      obtain ⟨n2, c2, w2⟩ := one 2 f2 (by omega) rfl h2
      exact ⟨n0, n1, n2, c0, c1, c2, w0, w1, w2⟩
    refine ⟨hl, by unfold maxLen at hm; omega, (List.range len).map (fun i => (numAt w (a.add (i * 3 + 0)), numAt w (a.add (i * 3 + 1)), numAt w (a.add (i * 3 + 2)))), by simp, ?_, fun _ => ⟨a, rfl, ?_⟩⟩
    · intro p hp
      obtain ⟨i, hir, rfl⟩ := List.mem_map.1 hp
      obtain ⟨n0, n1, n2, c0, c1, c2, w0, w1, w2⟩ := key i (List.mem_range.1 hir)
      simp only [numAt, c0, c1, c2]
      exact ⟨w0, w1, w2⟩
    · intro j p hj
      obtain ⟨hjl, hp⟩ := List.getElem?_eq_some_iff.1 hj
      have hjl' : j < len := by simpa using hjl
      obtain ⟨n0, n1, n2, c0, c1, c2, w0, w1, w2⟩ := key j hjl'
      have : p = (n0, n1, n2) := by
        rw [← hp]
        simp only [List.getElem_map, List.getElem_range, numAt, c0, c1, c2]
      subst this
      exact ⟨c0, c1, c2⟩
end
end Go.Proofs.Ytkkgnjdepgmjlaa.Rw
