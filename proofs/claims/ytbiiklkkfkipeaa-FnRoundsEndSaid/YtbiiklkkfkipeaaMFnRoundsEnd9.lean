/- Several texts of this session in one: X477. -/
import Derived.Test.YtbiiklkkfkipeaaMFnRoundsEnd2
import Derived.Test.YtbiiklkkfkipeaaMFnRoundsEnd8
/- The walk of the law FnRoundsEnd, whole: written by this session's program wip/split/cut.py. -/
namespace Go.Proofs.Ytbiiklkkfkipeaa.X
open Go.RowKit Go.Proofs.YtbiiklkkfkipeaaW.PrintWords Go.Proofs.YtbiiklkkfkipeaaW.PrintLast Go.Proofs.YtbiiklkkfkipeaaW.PrintMore
attribute [local go_sem] max2_int min2_int max_two min_two max_three min_three max_four min_four   -- for this text's walks alone
set_option linter.unusedVariables false
set_option linter.unusedSimpArgs false

set_option maxHeartbeats 8000000 in
set_option maxRecDepth 100000 in
theorem laws_FnRoundsEnd.calls (k : Nat) (A0 : Option Addr) (c0 : Nat) (l0 : List Int) (A1 : Option Addr) (c1 : Nat) (l1 : List Int) (r : Bool) (w : World) (hr0 : Kd.C (Kd.int .u8) w A0 l0.length l0) (hc0 : l0.length ≤ c0) (hr1 : Kd.C (Kd.int .u8) w A1 l1.length l1) (hc1 : l1.length ≤ c1) (h : laws_FnRoundsEnd.f k l0 l1 = some r) :
  Calls Try.prog 13 #[.slice A0 l0.length c0, .slice A1 l1.length c1] w fun e w' => e = .returned (.bool r) ∧ Below w.heap.size w w' := by
 have HR0 := Aside0.mk hr0
 have HC0 := Aside0.mk hc0
 clear hr0 hc0
 have HR1 := Aside0.mk hr1
 have HC1 := Aside0.mk hc1
 clear hr1 hc1
 have HB := Aside0.mk (Below.refl w.heap.size w)
 have H : ((laws_big.f l0 l1).bind fun t578 => (if t578 = true then (some true) else ((spec_DrawSurvivorsOf.f k l0).bind fun t579 => ((impl_SurvivorsOf.f k t579).bind fun bt582 => ((spec_SurvivorsOf.f k t579).bind fun bt586 => ((impl_RoundMessages.f k t579).bind fun bt590 => ((spec_RoundMessages.f k t579).bind fun bt592 => ((impl_BothWays.f k t579).bind fun bt594 => ((spec_BothWays.f k t579).bind fun bt596 => (if (bt582.2 != bt586.2) = true then (laws_FnRoundsEnd.j0 k t579 bt582.1 bt582.2 bt590.1 bt594.1 true) else ((laws_zRows.f k bt582.1 bt586.1).bind fun t598 => (if t598 = true then (if (bt590.2 != bt592.2) = true then (laws_FnRoundsEnd.j0 k t579 bt582.1 bt582.2 bt590.1 bt594.1 true) else (if bt590.1 = bt592.1 then (if (bt594.2 != bt596.2) = true then (laws_FnRoundsEnd.j0 k t579 bt582.1 bt582.2 bt590.1 bt594.1 true) else (if bt594.1 = bt596.1 then (if (bt590.2 != bt582.2) = true then (laws_FnRoundsEnd.j0 k t579 bt582.1 bt582.2 bt590.1 bt594.1 true) else (laws_FnRoundsEnd.j0 k t579 bt582.1 bt582.2 bt590.1 bt594.1 (bt594.2 != bt582.2))) else (laws_FnRoundsEnd.j0 k t579 bt582.1 bt582.2 bt590.1 bt594.1 true))) else (laws_FnRoundsEnd.j0 k t579 bt582.1 bt582.2 bt590.1 bt594.1 true))) else (laws_FnRoundsEnd.j0 k t579 bt582.1 bt582.2 bt590.1 bt594.1 true))))))))))))) = some r := h
 clear h
 replace H := Option.bind_eq_some_iff.mp H
 obtain ⟨t578, A30, H⟩ := H
 replace H : (if t578 = true then (some true) else ((spec_DrawSurvivorsOf.f k l0).bind fun t579 => ((impl_SurvivorsOf.f k t579).bind fun bt582 => ((spec_SurvivorsOf.f k t579).bind fun bt586 => ((impl_RoundMessages.f k t579).bind fun bt590 => ((spec_RoundMessages.f k t579).bind fun bt592 => ((impl_BothWays.f k t579).bind fun bt594 => ((spec_BothWays.f k t579).bind fun bt596 => (if (bt582.2 != bt586.2) = true then (laws_FnRoundsEnd.j0 k t579 bt582.1 bt582.2 bt590.1 bt594.1 true) else ((laws_zRows.f k bt582.1 bt586.1).bind fun t598 => (if t598 = true then (if (bt590.2 != bt592.2) = true then (laws_FnRoundsEnd.j0 k t579 bt582.1 bt582.2 bt590.1 bt594.1 true) else (if bt590.1 = bt592.1 then (if (bt594.2 != bt596.2) = true then (laws_FnRoundsEnd.j0 k t579 bt582.1 bt582.2 bt590.1 bt594.1 true) else (if bt594.1 = bt596.1 then (if (bt590.2 != bt582.2) = true then (laws_FnRoundsEnd.j0 k t579 bt582.1 bt582.2 bt590.1 bt594.1 true) else (laws_FnRoundsEnd.j0 k t579 bt582.1 bt582.2 bt590.1 bt594.1 (bt594.2 != bt582.2))) else (laws_FnRoundsEnd.j0 k t579 bt582.1 bt582.2 bt590.1 bt594.1 true))) else (laws_FnRoundsEnd.j0 k t579 bt582.1 bt582.2 bt590.1 bt594.1 true))) else (laws_FnRoundsEnd.j0 k t579 bt582.1 bt582.2 bt590.1 bt594.1 true)))))))))))) = some r := H
 have A3 := Aside0.mk A30
 clear A30
 by_cases c4 : t578 = true
 ·as_aux_lemma =>
  subst c4
  have H1 : (some true) = some r := by rw [if_pos rfl] at H; exact H
  clear H
  have H := H1
  clear H1
  obtain rfl := Option.some.inj H
  go_enter Try.func13, Try.ntmps13
  go_wp2_with (first | ((with_reducible refine gate_callee (f := 42) rfl ?_); refine goesL_ (some 40) rfl rfl Try.func42 (by kernel_rfl) rfl #[.slice A0 l0.length c0, .slice A1 l1.length c1] rfl (by (try simp only [List.map_toArray, List.map_cons, List.map_nil]); first | done | rfl | (simp only [List.length_drop, List.length_take]; rfl)) ?_; (with_reducible refine (laws_big.calls _ _ l0 _ _ l1 true _ ?side1 ?side2 ?side3 ?side4 A3.out).mono ?_); (case side1 => repeat (first | exact HR0.out | (with_reducible refine Kd.C_alloc ?_ _) | (with_reducible refine Kd.C_drewN ?_ _) | (with_reducible refine Kd.C_drew ?_))); (case side2 => exact HC0.out); (case side3 => repeat (first | exact HR1.out | (with_reducible refine Kd.C_alloc ?_ _) | (with_reducible refine Kd.C_drewN ?_ _) | (with_reducible refine Kd.C_drew ?_))); (case side4 => exact HC1.out); rintro e w' ⟨rfl, ⟨nd, rfl⟩⟩; refine ⟨_, rfl, ?_⟩))
  go_ret
  exact ⟨by first | rfl | (simp [errW_none, errW_some] <;> rfl) | (simp [*, errW_none, errW_some] <;> rfl), by repeat (first | (with_reducible first | exact HB.out | apply below_alloc | apply pw_below_drewN | apply below_drew1) | exact HB.out)⟩
 ·as_aux_lemma =>
  replace c4 := Bool.eq_false_iff.mpr c4
  subst c4
  have H1 : ((spec_DrawSurvivorsOf.f k l0).bind fun t579 => ((impl_SurvivorsOf.f k t579).bind fun bt582 => ((spec_SurvivorsOf.f k t579).bind fun bt586 => ((impl_RoundMessages.f k t579).bind fun bt590 => ((spec_RoundMessages.f k t579).bind fun bt592 => ((impl_BothWays.f k t579).bind fun bt594 => ((spec_BothWays.f k t579).bind fun bt596 => (if (bt582.2 != bt586.2) = true then (laws_FnRoundsEnd.j0 k t579 bt582.1 bt582.2 bt590.1 bt594.1 true) else ((laws_zRows.f k bt582.1 bt586.1).bind fun t598 => (if t598 = true then (if (bt590.2 != bt592.2) = true then (laws_FnRoundsEnd.j0 k t579 bt582.1 bt582.2 bt590.1 bt594.1 true) else (if bt590.1 = bt592.1 then (if (bt594.2 != bt596.2) = true then (laws_FnRoundsEnd.j0 k t579 bt582.1 bt582.2 bt590.1 bt594.1 true) else (if bt594.1 = bt596.1 then (if (bt590.2 != bt582.2) = true then (laws_FnRoundsEnd.j0 k t579 bt582.1 bt582.2 bt590.1 bt594.1 true) else (laws_FnRoundsEnd.j0 k t579 bt582.1 bt582.2 bt590.1 bt594.1 (bt594.2 != bt582.2))) else (laws_FnRoundsEnd.j0 k t579 bt582.1 bt582.2 bt590.1 bt594.1 true))) else (laws_FnRoundsEnd.j0 k t579 bt582.1 bt582.2 bt590.1 bt594.1 true))) else (laws_FnRoundsEnd.j0 k t579 bt582.1 bt582.2 bt590.1 bt594.1 true))))))))))) = some r := by rw [if_neg (show ¬ (false = true) by decide)] at H; exact H
  clear H
  have H := H1
  clear H1
  replace H := Option.bind_eq_some_iff.mp H
  obtain ⟨t579, A50, H⟩ := H
  replace H : ((impl_SurvivorsOf.f k t579).bind fun bt582 => ((spec_SurvivorsOf.f k t579).bind fun bt586 => ((impl_RoundMessages.f k t579).bind fun bt590 => ((spec_RoundMessages.f k t579).bind fun bt592 => ((impl_BothWays.f k t579).bind fun bt594 => ((spec_BothWays.f k t579).bind fun bt596 => (if (bt582.2 != bt586.2) = true then (laws_FnRoundsEnd.j0 k t579 bt582.1 bt582.2 bt590.1 bt594.1 true) else ((laws_zRows.f k bt582.1 bt586.1).bind fun t598 => (if t598 = true then (if (bt590.2 != bt592.2) = true then (laws_FnRoundsEnd.j0 k t579 bt582.1 bt582.2 bt590.1 bt594.1 true) else (if bt590.1 = bt592.1 then (if (bt594.2 != bt596.2) = true then (laws_FnRoundsEnd.j0 k t579 bt582.1 bt582.2 bt590.1 bt594.1 true) else (if bt594.1 = bt596.1 then (if (bt590.2 != bt582.2) = true then (laws_FnRoundsEnd.j0 k t579 bt582.1 bt582.2 bt590.1 bt594.1 true) else (laws_FnRoundsEnd.j0 k t579 bt582.1 bt582.2 bt590.1 bt594.1 (bt594.2 != bt582.2))) else (laws_FnRoundsEnd.j0 k t579 bt582.1 bt582.2 bt590.1 bt594.1 true))) else (laws_FnRoundsEnd.j0 k t579 bt582.1 bt582.2 bt590.1 bt594.1 true))) else (laws_FnRoundsEnd.j0 k t579 bt582.1 bt582.2 bt590.1 bt594.1 true)))))))))) = some r := H
  have A5 := Aside0.mk A50
  clear A50
  replace H := Option.bind_eq_some_iff.mp H
  obtain ⟨⟨t582, t583⟩, A60, H⟩ := H
  replace H : ((spec_SurvivorsOf.f k t579).bind fun bt586 => ((impl_RoundMessages.f k t579).bind fun bt590 => ((spec_RoundMessages.f k t579).bind fun bt592 => ((impl_BothWays.f k t579).bind fun bt594 => ((spec_BothWays.f k t579).bind fun bt596 => (if (t583 != bt586.2) = true then (laws_FnRoundsEnd.j0 k t579 t582 t583 bt590.1 bt594.1 true) else ((laws_zRows.f k t582 bt586.1).bind fun t598 => (if t598 = true then (if (bt590.2 != bt592.2) = true then (laws_FnRoundsEnd.j0 k t579 t582 t583 bt590.1 bt594.1 true) else (if bt590.1 = bt592.1 then (if (bt594.2 != bt596.2) = true then (laws_FnRoundsEnd.j0 k t579 t582 t583 bt590.1 bt594.1 true) else (if bt594.1 = bt596.1 then (if (bt590.2 != t583) = true then (laws_FnRoundsEnd.j0 k t579 t582 t583 bt590.1 bt594.1 true) else (laws_FnRoundsEnd.j0 k t579 t582 t583 bt590.1 bt594.1 (bt594.2 != t583))) else (laws_FnRoundsEnd.j0 k t579 t582 t583 bt590.1 bt594.1 true))) else (laws_FnRoundsEnd.j0 k t579 t582 t583 bt590.1 bt594.1 true))) else (laws_FnRoundsEnd.j0 k t579 t582 t583 bt590.1 bt594.1 true))))))))) = some r := H
  have A6 := Aside0.mk A60
  clear A60
  replace H := Option.bind_eq_some_iff.mp H
  obtain ⟨⟨t586, t587⟩, A70, H⟩ := H
  replace H : ((impl_RoundMessages.f k t579).bind fun bt590 => ((spec_RoundMessages.f k t579).bind fun bt592 => ((impl_BothWays.f k t579).bind fun bt594 => ((spec_BothWays.f k t579).bind fun bt596 => (if (t583 != t587) = true then (laws_FnRoundsEnd.j0 k t579 t582 t583 bt590.1 bt594.1 true) else ((laws_zRows.f k t582 t586).bind fun t598 => (if t598 = true then (if (bt590.2 != bt592.2) = true then (laws_FnRoundsEnd.j0 k t579 t582 t583 bt590.1 bt594.1 true) else (if bt590.1 = bt592.1 then (if (bt594.2 != bt596.2) = true then (laws_FnRoundsEnd.j0 k t579 t582 t583 bt590.1 bt594.1 true) else (if bt594.1 = bt596.1 then (if (bt590.2 != t583) = true then (laws_FnRoundsEnd.j0 k t579 t582 t583 bt590.1 bt594.1 true) else (laws_FnRoundsEnd.j0 k t579 t582 t583 bt590.1 bt594.1 (bt594.2 != t583))) else (laws_FnRoundsEnd.j0 k t579 t582 t583 bt590.1 bt594.1 true))) else (laws_FnRoundsEnd.j0 k t579 t582 t583 bt590.1 bt594.1 true))) else (laws_FnRoundsEnd.j0 k t579 t582 t583 bt590.1 bt594.1 true)))))))) = some r := H
  have A7 := Aside0.mk A70
  clear A70
  replace H := Option.bind_eq_some_iff.mp H
  obtain ⟨⟨t590, t591⟩, A80, H⟩ := H
  replace H : ((spec_RoundMessages.f k t579).bind fun bt592 => ((impl_BothWays.f k t579).bind fun bt594 => ((spec_BothWays.f k t579).bind fun bt596 => (if (t583 != t587) = true then (laws_FnRoundsEnd.j0 k t579 t582 t583 t590 bt594.1 true) else ((laws_zRows.f k t582 t586).bind fun t598 => (if t598 = true then (if (t591 != bt592.2) = true then (laws_FnRoundsEnd.j0 k t579 t582 t583 t590 bt594.1 true) else (if t590 = bt592.1 then (if (bt594.2 != bt596.2) = true then (laws_FnRoundsEnd.j0 k t579 t582 t583 t590 bt594.1 true) else (if bt594.1 = bt596.1 then (if (t591 != t583) = true then (laws_FnRoundsEnd.j0 k t579 t582 t583 t590 bt594.1 true) else (laws_FnRoundsEnd.j0 k t579 t582 t583 t590 bt594.1 (bt594.2 != t583))) else (laws_FnRoundsEnd.j0 k t579 t582 t583 t590 bt594.1 true))) else (laws_FnRoundsEnd.j0 k t579 t582 t583 t590 bt594.1 true))) else (laws_FnRoundsEnd.j0 k t579 t582 t583 t590 bt594.1 true))))))) = some r := H
  have A8 := Aside0.mk A80
  clear A80
  replace H := Option.bind_eq_some_iff.mp H
  obtain ⟨⟨t592, t593⟩, A90, H⟩ := H
  replace H : ((impl_BothWays.f k t579).bind fun bt594 => ((spec_BothWays.f k t579).bind fun bt596 => (if (t583 != t587) = true then (laws_FnRoundsEnd.j0 k t579 t582 t583 t590 bt594.1 true) else ((laws_zRows.f k t582 t586).bind fun t598 => (if t598 = true then (if (t591 != t593) = true then (laws_FnRoundsEnd.j0 k t579 t582 t583 t590 bt594.1 true) else (if t590 = t592 then (if (bt594.2 != bt596.2) = true then (laws_FnRoundsEnd.j0 k t579 t582 t583 t590 bt594.1 true) else (if bt594.1 = bt596.1 then (if (t591 != t583) = true then (laws_FnRoundsEnd.j0 k t579 t582 t583 t590 bt594.1 true) else (laws_FnRoundsEnd.j0 k t579 t582 t583 t590 bt594.1 (bt594.2 != t583))) else (laws_FnRoundsEnd.j0 k t579 t582 t583 t590 bt594.1 true))) else (laws_FnRoundsEnd.j0 k t579 t582 t583 t590 bt594.1 true))) else (laws_FnRoundsEnd.j0 k t579 t582 t583 t590 bt594.1 true)))))) = some r := H
  have A9 := Aside0.mk A90
  clear A90
  replace H := Option.bind_eq_some_iff.mp H
  obtain ⟨⟨t594, t595⟩, A100, H⟩ := H
  replace H : ((spec_BothWays.f k t579).bind fun bt596 => (if (t583 != t587) = true then (laws_FnRoundsEnd.j0 k t579 t582 t583 t590 t594 true) else ((laws_zRows.f k t582 t586).bind fun t598 => (if t598 = true then (if (t591 != t593) = true then (laws_FnRoundsEnd.j0 k t579 t582 t583 t590 t594 true) else (if t590 = t592 then (if (t595 != bt596.2) = true then (laws_FnRoundsEnd.j0 k t579 t582 t583 t590 t594 true) else (if t594 = bt596.1 then (if (t591 != t583) = true then (laws_FnRoundsEnd.j0 k t579 t582 t583 t590 t594 true) else (laws_FnRoundsEnd.j0 k t579 t582 t583 t590 t594 (t595 != t583))) else (laws_FnRoundsEnd.j0 k t579 t582 t583 t590 t594 true))) else (laws_FnRoundsEnd.j0 k t579 t582 t583 t590 t594 true))) else (laws_FnRoundsEnd.j0 k t579 t582 t583 t590 t594 true))))) = some r := H
  have A10 := Aside0.mk A100
  clear A100
  replace H := Option.bind_eq_some_iff.mp H
  obtain ⟨⟨t596, t597⟩, A110, H⟩ := H
  replace H : (if (t583 != t587) = true then (laws_FnRoundsEnd.j0 k t579 t582 t583 t590 t594 true) else ((laws_zRows.f k t582 t586).bind fun t598 => (if t598 = true then (if (t591 != t593) = true then (laws_FnRoundsEnd.j0 k t579 t582 t583 t590 t594 true) else (if t590 = t592 then (if (t595 != t597) = true then (laws_FnRoundsEnd.j0 k t579 t582 t583 t590 t594 true) else (if t594 = t596 then (if (t591 != t583) = true then (laws_FnRoundsEnd.j0 k t579 t582 t583 t590 t594 true) else (laws_FnRoundsEnd.j0 k t579 t582 t583 t590 t594 (t595 != t583))) else (laws_FnRoundsEnd.j0 k t579 t582 t583 t590 t594 true))) else (laws_FnRoundsEnd.j0 k t579 t582 t583 t590 t594 true))) else (laws_FnRoundsEnd.j0 k t579 t582 t583 t590 t594 true)))) = some r := H
  have A11 := Aside0.mk A110
  clear A110
  have HC12 := Aside0.mk H
  clear H
  go_enter Try.func13, Try.ntmps13
  go_upto_region 10 with (first | ((with_reducible refine gate_callee (f := 42) rfl ?_); refine goesL_ (some 40) rfl rfl Try.func42 (by kernel_rfl) rfl #[.slice A0 l0.length c0, .slice A1 l1.length c1] rfl (by (try simp only [List.map_toArray, List.map_cons, List.map_nil]); first | done | rfl | (simp only [List.length_drop, List.length_take]; rfl)) ?_; (with_reducible refine (laws_big.calls _ _ l0 _ _ l1 false _ ?side1 ?side2 ?side3 ?side4 A3.out).mono ?_); (case side1 => repeat (first | exact HR0.out | (with_reducible refine Kd.C_alloc ?_ _) | (with_reducible refine Kd.C_drewN ?_ _) | (with_reducible refine Kd.C_drew ?_))); (case side2 => exact HC0.out); (case side3 => repeat (first | exact HR1.out | (with_reducible refine Kd.C_alloc ?_ _) | (with_reducible refine Kd.C_drewN ?_ _) | (with_reducible refine Kd.C_drew ?_))); (case side4 => exact HC1.out); rintro e w' ⟨rfl, ⟨nd, rfl⟩⟩; refine ⟨_, rfl, ?_⟩) | ((with_reducible refine gate_callee (f := 43) rfl ?_); refine goesL_ (some 42) rfl rfl Try.func43 (by kernel_rfl) rfl #[.slice A0 l0.length c0] rfl (by (try simp only [List.map_toArray, List.map_cons, List.map_nil]); first | done | rfl | (simp only [List.length_drop, List.length_take]; rfl)) ?_; (with_reducible refine (spec_DrawSurvivorsOf.calls k _ _ l0 t579 _ ?side1 ?side2 A5.out).mono ?_); (case side1 => repeat (first | exact HR0.out | (with_reducible refine Kd.C_alloc ?_ _) | (with_reducible refine Kd.C_drewN ?_ _) | (with_reducible refine Kd.C_drew ?_))); (case side2 => exact HC0.out); rintro e w13 ⟨v580, rfl, ho0, hb⟩; refine ⟨_, rfl, ?_⟩; have n0_ := Aside0.mk (Kd.R_lower ho0 (below_size (by repeat (first | (with_reducible first | exact HB.out | apply below_alloc | apply pw_below_drewN | apply below_drew1) | exact HB.out)))); have n1_ := Aside0.mk (below_step (by repeat (first | (with_reducible first | exact HB.out | apply below_alloc | apply pw_below_drewN | apply below_drew1) | exact HB.out)) hb); clear HB; have HO581 := n0_; have HB := n1_; clear n0_ n1_; (try clear hb); (try clear hb2); (try clear hk); (try clear hi); (try clear ho0); obtain ⟨Ao14, co14, eo14⟩ := Kd.R_slice HO581.out; subst eo14) | ((with_reducible refine gate_callee (f := 38) rfl ?_); refine goesL_ (some 45) rfl rfl Try.func38 (by kernel_rfl) rfl #[.slice Ao14 t579.length co14] rfl (by (try simp only [List.map_toArray, List.map_cons, List.map_nil]); first | done | rfl | (simp only [List.length_drop, List.length_take]; rfl)) ?_; (with_reducible refine (impl_SurvivorsOf.calls k _ _ t579 t582 t583 _ ?side1 ?side2 A6.out).mono ?_); (case side1 => repeat (first | exact (Kd.R_reads' HO581.out).2.2 | (with_reducible refine Kd.C_alloc ?_ _) | (with_reducible refine Kd.C_drewN ?_ _) | (with_reducible refine Kd.C_drew ?_))); (case side2 => exact (Kd.R_reads' HO581.out).2.1); rintro e w15 ⟨v584, rfl, ho0, hb⟩; refine ⟨_, rfl, ?_⟩; have n0_ := Aside0.mk (Kd.R_below (by (with_reducible repeat (first | apply Kd.R_alloc | apply Kd.R_drewN | apply Kd.R_drew)); exact HO581.out) hb); have n1_ := Aside0.mk (Kd.S_lower (Kd.S_new' ho0 (Kd.R_lt (by (with_reducible repeat (first | apply Kd.R_alloc | apply Kd.R_drewN | apply Kd.R_drew)); exact HO581.out))) (below_size (by repeat (first | (with_reducible first | exact HB.out | apply below_alloc | apply pw_below_drewN | apply below_drew1) | exact HB.out)))); have n2_ := Aside0.mk (below_step (by repeat (first | (with_reducible first | exact HB.out | apply below_alloc | apply pw_below_drewN | apply below_drew1) | exact HB.out)) hb); clear HO581; clear HB; have HO581 := n0_; have HO585 := n1_; have HB := n2_; clear n0_ n1_ n2_; (try clear hb); (try clear hb2); (try clear hk); (try clear hi); (try clear ho0)) | ((with_reducible refine gate_callee (f := 37) rfl ?_); refine goesL_ (some 50) rfl rfl Try.func37 (by kernel_rfl) rfl #[.slice Ao14 t579.length co14] rfl (by (try simp only [List.map_toArray, List.map_cons, List.map_nil]); first | done | rfl | (simp only [List.length_drop, List.length_take]; rfl)) ?_; (with_reducible refine (spec_SurvivorsOf.calls k _ _ t579 t586 t587 _ ?side1 ?side2 A7.out).mono ?_); (case side1 => repeat (first | exact (Kd.R_reads' HO581.out).2.2 | (with_reducible refine Kd.C_alloc ?_ _) | (with_reducible refine Kd.C_drewN ?_ _) | (with_reducible refine Kd.C_drew ?_))); (case side2 => exact (Kd.R_reads' HO581.out).2.1); rintro e w16 ⟨v588, rfl, ho0, hb⟩; refine ⟨_, rfl, ?_⟩; have n0_ := Aside0.mk (Kd.R_below (by (with_reducible repeat (first | apply Kd.R_alloc | apply Kd.R_drewN | apply Kd.R_drew)); exact HO581.out) hb); have n1_ := Aside0.mk (Kd.S_elder' (by (with_reducible repeat (first | apply Kd.S_alloc | apply Kd.S_drewN | apply Kd.S_drew)); exact HO585.out) (Kd.S_base ho0) hb); have n2_ := Aside0.mk (Kd.S_lower (Kd.S_new' (Kd.S_new' ho0 (Kd.R_lt (by (with_reducible repeat (first | apply Kd.R_alloc | apply Kd.R_drewN | apply Kd.R_drew)); exact HO581.out))) (Kd.S_lt (by (with_reducible repeat (first | apply Kd.S_alloc | apply Kd.S_drewN | apply Kd.S_drew)); exact HO585.out))) (below_size (by repeat (first | (with_reducible first | exact HB.out | apply below_alloc | apply pw_below_drewN | apply below_drew1) | exact HB.out)))); have n3_ := Aside0.mk (below_step (by repeat (first | (with_reducible first | exact HB.out | apply below_alloc | apply pw_below_drewN | apply below_drew1) | exact HB.out)) hb); clear HO581; clear HO585; clear HB; have HO581 := n0_; have HO585 := n1_; have HO589 := n2_; have HB := n3_; clear n0_ n1_ n2_ n3_; (try clear hb); (try clear hb2); (try clear hk); (try clear hi); (try clear ho0)) | ((with_reducible refine gate_callee (f := 34) rfl ?_); refine goesL_ (some 55) rfl rfl Try.func34 (by kernel_rfl) rfl #[.slice Ao14 t579.length co14] rfl (by (try simp only [List.map_toArray, List.map_cons, List.map_nil]); first | done | rfl | (simp only [List.length_drop, List.length_take]; rfl)) ?_; (with_reducible refine (impl_RoundMessages.calls k _ _ t579 t590 t591 _ ?side1 ?side2 A8.out).mono ?_); (case side1 => repeat (first | exact (Kd.R_reads' HO581.out).2.2 | (with_reducible refine Kd.C_alloc ?_ _) | (with_reducible refine Kd.C_drewN ?_ _) | (with_reducible refine Kd.C_drew ?_))); (case side2 => exact (Kd.R_reads' HO581.out).2.1); rintro e w17 ⟨rfl, hb⟩; refine ⟨_, rfl, ?_⟩; have n0_ := Aside0.mk (Kd.R_below (by (with_reducible repeat (first | apply Kd.R_alloc | apply Kd.R_drewN | apply Kd.R_drew)); exact HO581.out) hb); have n1_ := Aside0.mk (Kd.S_below (by (with_reducible repeat (first | apply Kd.S_alloc | apply Kd.S_drewN | apply Kd.S_drew)); exact HO585.out) hb); have n2_ := Aside0.mk (Kd.S_below (by (with_reducible repeat (first | apply Kd.S_alloc | apply Kd.S_drewN | apply Kd.S_drew)); exact HO589.out) hb); have n3_ := Aside0.mk (below_step (by repeat (first | (with_reducible first | exact HB.out | apply below_alloc | apply pw_below_drewN | apply below_drew1) | exact HB.out)) hb); clear HO581; clear HO585; clear HO589; clear HB; have HO581 := n0_; have HO585 := n1_; have HO589 := n2_; have HB := n3_; clear n0_ n1_ n2_ n3_; (try clear hb); (try clear hb2); (try clear hk); (try clear hi)) | ((with_reducible refine gate_callee (f := 33) rfl ?_); refine goesL_ (some 60) rfl rfl Try.func33 (by kernel_rfl) rfl #[.slice Ao14 t579.length co14] rfl (by (try simp only [List.map_toArray, List.map_cons, List.map_nil]); first | done | rfl | (simp only [List.length_drop, List.length_take]; rfl)) ?_; (with_reducible refine (spec_RoundMessages.calls k _ _ t579 t592 t593 _ ?side1 ?side2 A9.out).mono ?_); (case side1 => repeat (first | exact (Kd.R_reads' HO581.out).2.2 | (with_reducible refine Kd.C_alloc ?_ _) | (with_reducible refine Kd.C_drewN ?_ _) | (with_reducible refine Kd.C_drew ?_))); (case side2 => exact (Kd.R_reads' HO581.out).2.1); rintro e w18 ⟨rfl, hb⟩; refine ⟨_, rfl, ?_⟩; have n0_ := Aside0.mk (Kd.R_below (by (with_reducible repeat (first | apply Kd.R_alloc | apply Kd.R_drewN | apply Kd.R_drew)); exact HO581.out) hb); have n1_ := Aside0.mk (Kd.S_below (by (with_reducible repeat (first | apply Kd.S_alloc | apply Kd.S_drewN | apply Kd.S_drew)); exact HO585.out) hb); have n2_ := Aside0.mk (Kd.S_below (by (with_reducible repeat (first | apply Kd.S_alloc | apply Kd.S_drewN | apply Kd.S_drew)); exact HO589.out) hb); have n3_ := Aside0.mk (below_step (by repeat (first | (with_reducible first | exact HB.out | apply below_alloc | apply pw_below_drewN | apply below_drew1) | exact HB.out)) hb); clear HO581; clear HO585; clear HO589; clear HB; have HO581 := n0_; have HO585 := n1_; have HO589 := n2_; have HB := n3_; clear n0_ n1_ n2_ n3_; (try clear hb); (try clear hb2); (try clear hk); (try clear hi)) | ((with_reducible refine gate_callee (f := 36) rfl ?_); refine goesL_ (some 65) rfl rfl Try.func36 (by kernel_rfl) rfl #[.slice Ao14 t579.length co14] rfl (by (try simp only [List.map_toArray, List.map_cons, List.map_nil]); first | done | rfl | (simp only [List.length_drop, List.length_take]; rfl)) ?_; (with_reducible refine (impl_BothWays.calls k _ _ t579 t594 t595 _ ?side1 ?side2 A10.out).mono ?_); (case side1 => repeat (first | exact (Kd.R_reads' HO581.out).2.2 | (with_reducible refine Kd.C_alloc ?_ _) | (with_reducible refine Kd.C_drewN ?_ _) | (with_reducible refine Kd.C_drew ?_))); (case side2 => exact (Kd.R_reads' HO581.out).2.1); rintro e w19 ⟨rfl, hb⟩; refine ⟨_, rfl, ?_⟩; have n0_ := Aside0.mk (Kd.R_below (by (with_reducible repeat (first | apply Kd.R_alloc | apply Kd.R_drewN | apply Kd.R_drew)); exact HO581.out) hb); have n1_ := Aside0.mk (Kd.S_below (by (with_reducible repeat (first | apply Kd.S_alloc | apply Kd.S_drewN | apply Kd.S_drew)); exact HO585.out) hb); have n2_ := Aside0.mk (Kd.S_below (by (with_reducible repeat (first | apply Kd.S_alloc | apply Kd.S_drewN | apply Kd.S_drew)); exact HO589.out) hb); have n3_ := Aside0.mk (below_step (by repeat (first | (with_reducible first | exact HB.out | apply below_alloc | apply pw_below_drewN | apply below_drew1) | exact HB.out)) hb); clear HO581; clear HO585; clear HO589; clear HB; have HO581 := n0_; have HO585 := n1_; have HO589 := n2_; have HB := n3_; clear n0_ n1_ n2_ n3_; (try clear hb); (try clear hb2); (try clear hk); (try clear hi)) | ((with_reducible refine gate_callee (f := 35) rfl ?_); refine goesL_ (some 70) rfl rfl Try.func35 (by kernel_rfl) rfl #[.slice Ao14 t579.length co14] rfl (by (try simp only [List.map_toArray, List.map_cons, List.map_nil]); first | done | rfl | (simp only [List.length_drop, List.length_take]; rfl)) ?_; (with_reducible refine (spec_BothWays.calls k _ _ t579 t596 t597 _ ?side1 ?side2 A11.out).mono ?_); (case side1 => repeat (first | exact (Kd.R_reads' HO581.out).2.2 | (with_reducible refine Kd.C_alloc ?_ _) | (with_reducible refine Kd.C_drewN ?_ _) | (with_reducible refine Kd.C_drew ?_))); (case side2 => exact (Kd.R_reads' HO581.out).2.1); rintro e w20 ⟨rfl, hb⟩; refine ⟨_, rfl, ?_⟩; have n0_ := Aside0.mk (Kd.R_below (by (with_reducible repeat (first | apply Kd.R_alloc | apply Kd.R_drewN | apply Kd.R_drew)); exact HO581.out) hb); have n1_ := Aside0.mk (Kd.S_below (by (with_reducible repeat (first | apply Kd.S_alloc | apply Kd.S_drewN | apply Kd.S_drew)); exact HO585.out) hb); have n2_ := Aside0.mk (Kd.S_below (by (with_reducible repeat (first | apply Kd.S_alloc | apply Kd.S_drewN | apply Kd.S_drew)); exact HO589.out) hb); have n3_ := Aside0.mk (below_step (by repeat (first | (with_reducible first | exact HB.out | apply below_alloc | apply pw_below_drewN | apply below_drew1) | exact HB.out)) hb); clear HO581; clear HO585; clear HO589; clear HB; have HO581 := n0_; have HO585 := n1_; have HO589 := n2_; have HB := n3_; clear n0_ n1_ n2_ n3_; (try clear hb); (try clear hb2); (try clear hk); (try clear hi)))
  (try simp only [Act.put, List.setIfInBounds_toArray, List.set_cons_zero, List.set_cons_succ])
  go_cut [111] (fun v111 wc => ∃ (kq : Nat) (x111_11 : Bool), v111 = .bool x111_11 ∧ Aside0 (laws_FnRoundsEnd.j0 kq t579 t582 t583 t590 t594 x111_11 = some r) ∧ Aside0 (kq ≤ k) ∧ Aside0 (Kd.R (Kd.int .i64) 3 wc w.heap.size (fun _ => True) (.slice Ao14 t579.length co14) t579) ∧ Aside0 (Kd.S (Kd.slice 3 (Kd.int .i64)) 25 wc w.heap.size (fun k_ => some k_ ≠ ((.slice Ao14 t579.length co14) : Value).ownBlock) v584 t582) ∧ Aside0 (Below w.heap.size w wc))
  case first => as_aux_lemma =>
   have H := HC12.out
   clear HC12
   by_cases c21 : (t583 != t587) = true
   ·as_aux_lemma =>
    rw [if_pos c21] at H
    have c21b0 : (t583 != t587) = true := c21
    (try (have c21b1 : decide (t583 = t587) = false := by simpa using c21))
    (try (have c21b2 : (t583 == t587) = false := by simpa using c21))
    (try (have c21b3 : ¬ (t583 = t587) := by simpa using c21))
    clear c21
    (first | rw [c21b0] | (simp only [i64_w, i32_w]; rw [c21b0]) | skip)
    have H' := Aside0.mk H
    clear H
    go_wp2
    go_meet
    case rel => exact ⟨_, (true), (by first | rfl | (simp; done) | (simp [*]; done)), H', ⟨by first | omega | exact Nat.le_refl _⟩, ⟨by (with_reducible repeat (first | apply Kd.R_alloc | apply Kd.R_drewN | apply Kd.R_drew)); exact HO581.out⟩, ⟨by (with_reducible repeat (first | apply Kd.S_alloc | apply Kd.S_drewN | apply Kd.S_drew)); exact Kd.S_mono HO585.out (fun _ hk => hk.1.2)⟩, ⟨by repeat (first | (with_reducible first | exact HB.out | apply below_alloc | apply pw_below_drewN | apply below_drew1) | exact HB.out)⟩⟩
   ·as_aux_lemma =>
    rw [if_neg c21] at H
    have c21b0 : (t583 != t587) = false := by simpa using c21
    (try (have c21b1 : decide (t583 = t587) = true := by simpa using c21))
    (try (have c21b2 : (t583 == t587) = true := by simpa using c21))
    clear c21
    (first | rw [c21b0] | (simp only [i64_w, i32_w]; rw [c21b0]) | skip)
    replace H := Option.bind_eq_some_iff.mp H
    obtain ⟨t598, A220, H⟩ := H
    replace H : (if t598 = true then (if (t591 != t593) = true then (laws_FnRoundsEnd.j0 k t579 t582 t583 t590 t594 true) else (if t590 = t592 then (if (t595 != t597) = true then (laws_FnRoundsEnd.j0 k t579 t582 t583 t590 t594 true) else (if t594 = t596 then (if (t591 != t583) = true then (laws_FnRoundsEnd.j0 k t579 t582 t583 t590 t594 true) else (laws_FnRoundsEnd.j0 k t579 t582 t583 t590 t594 (t595 != t583))) else (laws_FnRoundsEnd.j0 k t579 t582 t583 t590 t594 true))) else (laws_FnRoundsEnd.j0 k t579 t582 t583 t590 t594 true))) else (laws_FnRoundsEnd.j0 k t579 t582 t583 t590 t594 true)) = some r := H
    have A22 := Aside0.mk A220
    clear A220
    by_cases c23 : t598 = true
    ·as_aux_lemma =>
     subst c23
     have H1 : (if (t591 != t593) = true then (laws_FnRoundsEnd.j0 k t579 t582 t583 t590 t594 true) else (if t590 = t592 then (if (t595 != t597) = true then (laws_FnRoundsEnd.j0 k t579 t582 t583 t590 t594 true) else (if t594 = t596 then (if (t591 != t583) = true then (laws_FnRoundsEnd.j0 k t579 t582 t583 t590 t594 true) else (laws_FnRoundsEnd.j0 k t579 t582 t583 t590 t594 (t595 != t583))) else (laws_FnRoundsEnd.j0 k t579 t582 t583 t590 t594 true))) else (laws_FnRoundsEnd.j0 k t579 t582 t583 t590 t594 true))) = some r := by rw [if_pos rfl] at H; exact H
     clear H
     have H := H1
     clear H1
     by_cases c24 : (t591 != t593) = true
     ·as_aux_lemma =>
      rw [if_pos c24] at H
      have c24b0 : (t591 != t593) = true := c24
      (try (have c24b1 : decide (t591 = t593) = false := by simpa using c24))
      (try (have c24b2 : (t591 == t593) = false := by simpa using c24))
      (try (have c24b3 : ¬ (t591 = t593) := by simpa using c24))
      clear c24
      have H' := Aside0.mk H
      clear H
      obtain ⟨Ao25, co25, eo25⟩ := Kd.S_slice HO585.out
      subst eo25
      obtain ⟨Ao26, co26, eo26⟩ := Kd.S_slice HO589.out
      subst eo26
      go_wp2_with (first | (go_at_call 44; (with_reducible refine (laws_zRows.calls k _ _ t582 _ _ t586 true _ ?side1 ?side2 ?side3 ?side4 A22.out).mono ?_); (case side1 => repeat (first | exact (Kd.S_reads' HO585.out).2.2 | (with_reducible refine Kd.C_alloc ?_ _) | (with_reducible refine Kd.C_drewN ?_ _) | (with_reducible refine Kd.C_drew ?_))); (case side2 => exact (Kd.S_reads' HO585.out).2.1); (case side3 => repeat (first | exact (Kd.S_reads' HO589.out).2.2 | (with_reducible refine Kd.C_alloc ?_ _) | (with_reducible refine Kd.C_drewN ?_ _) | (with_reducible refine Kd.C_drew ?_))); (case side4 => exact (Kd.S_reads' HO589.out).2.1); rintro e w' ⟨rfl, ⟨nd, rfl⟩⟩))
      go_meet
      case rel => exact ⟨_, (true), (by first | rfl | (simp; done) | (simp [*]; done)), H', ⟨by first | omega | exact Nat.le_refl _⟩, ⟨by (with_reducible repeat (first | apply Kd.R_alloc | apply Kd.R_drewN | apply Kd.R_drew)); exact HO581.out⟩, ⟨by (with_reducible repeat (first | apply Kd.S_alloc | apply Kd.S_drewN | apply Kd.S_drew)); exact Kd.S_mono HO585.out (fun _ hk => hk.1.2)⟩, ⟨by repeat (first | (with_reducible first | exact HB.out | apply below_alloc | apply pw_below_drewN | apply below_drew1) | exact HB.out)⟩⟩
     ·as_aux_lemma =>
      rw [if_neg c24] at H
      have c24b0 : (t591 != t593) = false := by simpa using c24
      (try (have c24b1 : decide (t591 = t593) = true := by simpa using c24))
      (try (have c24b2 : (t591 == t593) = true := by simpa using c24))
      clear c24
      by_cases c27 : t590 = t592
      ·as_aux_lemma =>
       rw [if_pos c27] at H
       have c27b0 : (t590 == t592) = true := beq_iff_eq.mpr c27
       have c27b1 : (t590 != t592) = false := bne_eq_false_iff_eq.mpr c27
       clear c27
       by_cases c28 : (t595 != t597) = true
       ·as_aux_lemma =>
        rw [if_pos c28] at H
        have c28b0 : (t595 != t597) = true := c28
        (try (have c28b1 : decide (t595 = t597) = false := by simpa using c28))
        (try (have c28b2 : (t595 == t597) = false := by simpa using c28))
        (try (have c28b3 : ¬ (t595 = t597) := by simpa using c28))
        clear c28
        have H' := Aside0.mk H
        clear H
        obtain ⟨Ao29, co29, eo29⟩ := Kd.S_slice HO585.out
        subst eo29
        obtain ⟨Ao30, co30, eo30⟩ := Kd.S_slice HO589.out
        subst eo30
        go_wp2_with (first | (go_at_call 44; (with_reducible refine (laws_zRows.calls k _ _ t582 _ _ t586 true _ ?side1 ?side2 ?side3 ?side4 A22.out).mono ?_); (case side1 => repeat (first | exact (Kd.S_reads' HO585.out).2.2 | (with_reducible refine Kd.C_alloc ?_ _) | (with_reducible refine Kd.C_drewN ?_ _) | (with_reducible refine Kd.C_drew ?_))); (case side2 => exact (Kd.S_reads' HO585.out).2.1); (case side3 => repeat (first | exact (Kd.S_reads' HO589.out).2.2 | (with_reducible refine Kd.C_alloc ?_ _) | (with_reducible refine Kd.C_drewN ?_ _) | (with_reducible refine Kd.C_drew ?_))); (case side4 => exact (Kd.S_reads' HO589.out).2.1); rintro e w' ⟨rfl, ⟨nd, rfl⟩⟩))
        go_meet
        case rel => exact ⟨_, (true), (by first | rfl | (simp; done) | (simp [*]; done)), H', ⟨by first | omega | exact Nat.le_refl _⟩, ⟨by (with_reducible repeat (first | apply Kd.R_alloc | apply Kd.R_drewN | apply Kd.R_drew)); exact HO581.out⟩, ⟨by (with_reducible repeat (first | apply Kd.S_alloc | apply Kd.S_drewN | apply Kd.S_drew)); exact Kd.S_mono HO585.out (fun _ hk => hk.1.2)⟩, ⟨by repeat (first | (with_reducible first | exact HB.out | apply below_alloc | apply pw_below_drewN | apply below_drew1) | exact HB.out)⟩⟩
       ·as_aux_lemma =>
        rw [if_neg c28] at H
        have c28b0 : (t595 != t597) = false := by simpa using c28
        (try (have c28b1 : decide (t595 = t597) = true := by simpa using c28))
        (try (have c28b2 : (t595 == t597) = true := by simpa using c28))
        clear c28
        by_cases c31 : t594 = t596
        ·as_aux_lemma =>
         rw [if_pos c31] at H
         have c31b0 : (t594 == t596) = true := beq_iff_eq.mpr c31
         have c31b1 : (t594 != t596) = false := bne_eq_false_iff_eq.mpr c31
         clear c31
         by_cases c32 : (t591 != t583) = true
         ·as_aux_lemma =>
          rw [if_pos c32] at H
          have c32b0 : (t591 != t583) = true := c32
          (try (have c32b1 : decide (t591 = t583) = false := by simpa using c32))
          (try (have c32b2 : (t591 == t583) = false := by simpa using c32))
          (try (have c32b3 : ¬ (t591 = t583) := by simpa using c32))
          clear c32
          have H' := Aside0.mk H
          clear H
          obtain ⟨Ao33, co33, eo33⟩ := Kd.S_slice HO585.out
          subst eo33
          obtain ⟨Ao34, co34, eo34⟩ := Kd.S_slice HO589.out
          subst eo34
          go_wp2_with (first | (go_at_call 44; (with_reducible refine (laws_zRows.calls k _ _ t582 _ _ t586 true _ ?side1 ?side2 ?side3 ?side4 A22.out).mono ?_); (case side1 => repeat (first | exact (Kd.S_reads' HO585.out).2.2 | (with_reducible refine Kd.C_alloc ?_ _) | (with_reducible refine Kd.C_drewN ?_ _) | (with_reducible refine Kd.C_drew ?_))); (case side2 => exact (Kd.S_reads' HO585.out).2.1); (case side3 => repeat (first | exact (Kd.S_reads' HO589.out).2.2 | (with_reducible refine Kd.C_alloc ?_ _) | (with_reducible refine Kd.C_drewN ?_ _) | (with_reducible refine Kd.C_drew ?_))); (case side4 => exact (Kd.S_reads' HO589.out).2.1); rintro e w' ⟨rfl, ⟨nd, rfl⟩⟩))
          go_meet
          case rel => exact ⟨_, (true), (by first | rfl | (simp; done) | (simp [*]; done)), H', ⟨by first | omega | exact Nat.le_refl _⟩, ⟨by (with_reducible repeat (first | apply Kd.R_alloc | apply Kd.R_drewN | apply Kd.R_drew)); exact HO581.out⟩, ⟨by (with_reducible repeat (first | apply Kd.S_alloc | apply Kd.S_drewN | apply Kd.S_drew)); exact Kd.S_mono HO585.out (fun _ hk => hk.1.2)⟩, ⟨by repeat (first | (with_reducible first | exact HB.out | apply below_alloc | apply pw_below_drewN | apply below_drew1) | exact HB.out)⟩⟩
         ·as_aux_lemma =>
          rw [if_neg c32] at H
          have c32b0 : (t591 != t583) = false := by simpa using c32
          (try (have c32b1 : decide (t591 = t583) = true := by simpa using c32))
          (try (have c32b2 : (t591 == t583) = true := by simpa using c32))
          clear c32
          have H' := Aside0.mk H
          clear H
          obtain ⟨Ao35, co35, eo35⟩ := Kd.S_slice HO585.out
          subst eo35
          obtain ⟨Ao36, co36, eo36⟩ := Kd.S_slice HO589.out
          subst eo36
          go_wp2_with (first | (go_at_call 44; (with_reducible refine (laws_zRows.calls k _ _ t582 _ _ t586 true _ ?side1 ?side2 ?side3 ?side4 A22.out).mono ?_); (case side1 => repeat (first | exact (Kd.S_reads' HO585.out).2.2 | (with_reducible refine Kd.C_alloc ?_ _) | (with_reducible refine Kd.C_drewN ?_ _) | (with_reducible refine Kd.C_drew ?_))); (case side2 => exact (Kd.S_reads' HO585.out).2.1); (case side3 => repeat (first | exact (Kd.S_reads' HO589.out).2.2 | (with_reducible refine Kd.C_alloc ?_ _) | (with_reducible refine Kd.C_drewN ?_ _) | (with_reducible refine Kd.C_drew ?_))); (case side4 => exact (Kd.S_reads' HO589.out).2.1); rintro e w' ⟨rfl, ⟨nd, rfl⟩⟩))
          go_meet
          case rel => exact ⟨_, ((t595 != t583)), (by first | rfl | (simp; done) | (simp [*]; done)), H', ⟨by first | omega | exact Nat.le_refl _⟩, ⟨by (with_reducible repeat (first | apply Kd.R_alloc | apply Kd.R_drewN | apply Kd.R_drew)); exact HO581.out⟩, ⟨by (with_reducible repeat (first | apply Kd.S_alloc | apply Kd.S_drewN | apply Kd.S_drew)); exact Kd.S_mono HO585.out (fun _ hk => hk.1.2)⟩, ⟨by repeat (first | (with_reducible first | exact HB.out | apply below_alloc | apply pw_below_drewN | apply below_drew1) | exact HB.out)⟩⟩
        ·as_aux_lemma =>
         rw [if_neg c31] at H
         have c31b0 : (t594 == t596) = false := beq_eq_false_iff_ne.mpr c31
         have c31b1 : (t594 != t596) = true := bne_iff_ne.mpr c31
         have H' := Aside0.mk H
         clear H
         obtain ⟨Ao37, co37, eo37⟩ := Kd.S_slice HO585.out
         subst eo37
         obtain ⟨Ao38, co38, eo38⟩ := Kd.S_slice HO589.out
         subst eo38
         go_wp2_with (first | (go_at_call 44; (with_reducible refine (laws_zRows.calls k _ _ t582 _ _ t586 true _ ?side1 ?side2 ?side3 ?side4 A22.out).mono ?_); (case side1 => repeat (first | exact (Kd.S_reads' HO585.out).2.2 | (with_reducible refine Kd.C_alloc ?_ _) | (with_reducible refine Kd.C_drewN ?_ _) | (with_reducible refine Kd.C_drew ?_))); (case side2 => exact (Kd.S_reads' HO585.out).2.1); (case side3 => repeat (first | exact (Kd.S_reads' HO589.out).2.2 | (with_reducible refine Kd.C_alloc ?_ _) | (with_reducible refine Kd.C_drewN ?_ _) | (with_reducible refine Kd.C_drew ?_))); (case side4 => exact (Kd.S_reads' HO589.out).2.1); rintro e w' ⟨rfl, ⟨nd, rfl⟩⟩))
         go_meet
         case rel => exact ⟨_, (true), (by first | rfl | (simp; done) | (simp [*]; done)), H', ⟨by first | omega | exact Nat.le_refl _⟩, ⟨by (with_reducible repeat (first | apply Kd.R_alloc | apply Kd.R_drewN | apply Kd.R_drew)); exact HO581.out⟩, ⟨by (with_reducible repeat (first | apply Kd.S_alloc | apply Kd.S_drewN | apply Kd.S_drew)); exact Kd.S_mono HO585.out (fun _ hk => hk.1.2)⟩, ⟨by repeat (first | (with_reducible first | exact HB.out | apply below_alloc | apply pw_below_drewN | apply below_drew1) | exact HB.out)⟩⟩
      ·as_aux_lemma =>
       rw [if_neg c27] at H
       have c27b0 : (t590 == t592) = false := beq_eq_false_iff_ne.mpr c27
       have c27b1 : (t590 != t592) = true := bne_iff_ne.mpr c27
       have H' := Aside0.mk H
       clear H
       obtain ⟨Ao39, co39, eo39⟩ := Kd.S_slice HO585.out
       subst eo39
       obtain ⟨Ao40, co40, eo40⟩ := Kd.S_slice HO589.out
       subst eo40
       go_wp2_with (first | (go_at_call 44; (with_reducible refine (laws_zRows.calls k _ _ t582 _ _ t586 true _ ?side1 ?side2 ?side3 ?side4 A22.out).mono ?_); (case side1 => repeat (first | exact (Kd.S_reads' HO585.out).2.2 | (with_reducible refine Kd.C_alloc ?_ _) | (with_reducible refine Kd.C_drewN ?_ _) | (with_reducible refine Kd.C_drew ?_))); (case side2 => exact (Kd.S_reads' HO585.out).2.1); (case side3 => repeat (first | exact (Kd.S_reads' HO589.out).2.2 | (with_reducible refine Kd.C_alloc ?_ _) | (with_reducible refine Kd.C_drewN ?_ _) | (with_reducible refine Kd.C_drew ?_))); (case side4 => exact (Kd.S_reads' HO589.out).2.1); rintro e w' ⟨rfl, ⟨nd, rfl⟩⟩))
       go_meet
       case rel => exact ⟨_, (true), (by first | rfl | (simp; done) | (simp [*]; done)), H', ⟨by first | omega | exact Nat.le_refl _⟩, ⟨by (with_reducible repeat (first | apply Kd.R_alloc | apply Kd.R_drewN | apply Kd.R_drew)); exact HO581.out⟩, ⟨by (with_reducible repeat (first | apply Kd.S_alloc | apply Kd.S_drewN | apply Kd.S_drew)); exact Kd.S_mono HO585.out (fun _ hk => hk.1.2)⟩, ⟨by repeat (first | (with_reducible first | exact HB.out | apply below_alloc | apply pw_below_drewN | apply below_drew1) | exact HB.out)⟩⟩
    ·as_aux_lemma =>
     replace c23 := Bool.eq_false_iff.mpr c23
     subst c23
     have H1 : (laws_FnRoundsEnd.j0 k t579 t582 t583 t590 t594 true) = some r := by rw [if_neg (show ¬ (false = true) by decide)] at H; exact H
     clear H
     have H := H1
     clear H1
     have H' := Aside0.mk H
     clear H
     obtain ⟨Ao41, co41, eo41⟩ := Kd.S_slice HO585.out
     subst eo41
     obtain ⟨Ao42, co42, eo42⟩ := Kd.S_slice HO589.out
     subst eo42
     go_wp2_with (first | (go_at_call 44; (with_reducible refine (laws_zRows.calls k _ _ t582 _ _ t586 false _ ?side1 ?side2 ?side3 ?side4 A22.out).mono ?_); (case side1 => repeat (first | exact (Kd.S_reads' HO585.out).2.2 | (with_reducible refine Kd.C_alloc ?_ _) | (with_reducible refine Kd.C_drewN ?_ _) | (with_reducible refine Kd.C_drew ?_))); (case side2 => exact (Kd.S_reads' HO585.out).2.1); (case side3 => repeat (first | exact (Kd.S_reads' HO589.out).2.2 | (with_reducible refine Kd.C_alloc ?_ _) | (with_reducible refine Kd.C_drewN ?_ _) | (with_reducible refine Kd.C_drew ?_))); (case side4 => exact (Kd.S_reads' HO589.out).2.1); rintro e w' ⟨rfl, ⟨nd, rfl⟩⟩))
     go_meet
     case rel => exact ⟨_, (true), (by first | rfl | (simp; done) | (simp [*]; done)), H', ⟨by first | omega | exact Nat.le_refl _⟩, ⟨by (with_reducible repeat (first | apply Kd.R_alloc | apply Kd.R_drewN | apply Kd.R_drew)); exact HO581.out⟩, ⟨by (with_reducible repeat (first | apply Kd.S_alloc | apply Kd.S_drewN | apply Kd.S_drew)); exact Kd.S_mono HO585.out (fun _ hk => hk.1.2)⟩, ⟨by repeat (first | (with_reducible first | exact HB.out | apply below_alloc | apply pw_below_drewN | apply below_drew1) | exact HB.out)⟩⟩
  case rest => as_aux_lemma =>
   go_step
   exact laws_FnRoundsEnd.pc_j0 (by assumption) hcut rfl rfl
end Go.Proofs.Ytbiiklkkfkipeaa.X
