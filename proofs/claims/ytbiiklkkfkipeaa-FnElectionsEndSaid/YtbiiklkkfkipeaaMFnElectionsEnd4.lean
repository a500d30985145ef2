/- Several texts of this session in one: X48. -/
import Derived.Test.YtbiiklkkfkipeaaMFnElectionsEnd0
import Derived.Test.YtbiiklkkfkipeaaMFnElectionsEnd1
import Derived.Test.YtbiiklkkfkipeaaMFnElectionsEnd2
import Derived.Test.YtbiiklkkfkipeaaMFnElectionsEnd3
/- What the functions of the program come to, and that they do: written by this session's program wip/xprint.py out of the translation; parts named extern are typed by hand. -/
namespace Go.Proofs.Ytbiiklkkfkipeaa.X
open Go.RowKit Go.Proofs.YtbiiklkkfkipeaaW.PrintWords Go.Proofs.YtbiiklkkfkipeaaW.PrintLast Go.Proofs.YtbiiklkkfkipeaaW.PrintMore
attribute [local go_sem] max2_int min2_int max_two min_two max_three min_three max_four min_four   -- for this text's walks alone
set_option linter.unusedVariables false
set_option linter.unusedSimpArgs false

set_option maxHeartbeats 8000000 in
set_option maxRecDepth 100000 in
theorem laws_FnElectionsEnd.calls (k : Nat) (A0 : Option Addr) (c0 : Nat) (l0 : List Int) (A1 : Option Addr) (c1 : Nat) (l1 : List Int) (r : Bool) (w : World) (hr0 : Kd.C (Kd.int .u8) w A0 l0.length l0) (hc0 : l0.length ≤ c0) (hr1 : Kd.C (Kd.int .u8) w A1 l1.length l1) (hc1 : l1.length ≤ c1) (h : laws_FnElectionsEnd.f k l0 l1 = some r) :
  Calls Try.prog 14 #[.slice A0 l0.length c0, .slice A1 l1.length c1] w fun e w' => e = .returned (.bool r) ∧ Below w.heap.size w w' := by
 have HR0 := Aside0.mk hr0
 have HC0 := Aside0.mk hc0
 clear hr0 hc0
 have HR1 := Aside0.mk hr1
 have HC1 := Aside0.mk hc1
 clear hr1 hc1
 have HB := Aside0.mk (Below.refl w.heap.size w)
 have H : ((laws_big.f l0 l1).bind fun t651 => (if t651 = true then (some true) else ((spec_DrawPassedOn.f k l0).bind fun t652 => ((impl_PassedOn.f k t652).bind fun bt655 => ((spec_PassedOn.f k t652).bind fun bt659 => ((impl_SimpleMessages.f k t652).bind fun bt663 => ((impl_WinnerOf.f k t652).bind fun bt665 => ((spec_WinnerOf.f k t652).bind fun bt667 => (if (bt655.2 != bt659.2) = true then (laws_FnElectionsEnd.j0 k l1 t652 bt655.1 bt655.2 bt663.1 bt665.1 true) else ((laws_zSame.f k bt655.1 bt659.1).bind fun t669 => (if t669 = true then (if (bt663.2 != bt655.2) = true then (laws_FnElectionsEnd.j0 k l1 t652 bt655.1 bt655.2 bt663.1 bt665.1 true) else ((laws_zSum.f k bt655.1).bind fun t670 => (if bt663.1 = t670 then (if (bt665.2 != bt667.2) = true then (laws_FnElectionsEnd.j0 k l1 t652 bt655.1 bt655.2 bt663.1 bt665.1 true) else (if bt665.1 = bt667.1 then (if (bt665.2 != bt655.2) = true then (laws_FnElectionsEnd.j0 k l1 t652 bt655.1 bt655.2 bt663.1 bt665.1 true) else ((impl_AreNames.f k t652).bind fun t671 => (if (bt655.2 != t671) = true then (laws_FnElectionsEnd.j0 k l1 t652 bt655.1 bt655.2 bt663.1 bt665.1 true) else ((spec_AreNames.f k t652).bind fun t672 => (laws_FnElectionsEnd.j0 k l1 t652 bt655.1 bt655.2 bt663.1 bt665.1 (bt655.2 != t672)))))) else (laws_FnElectionsEnd.j0 k l1 t652 bt655.1 bt655.2 bt663.1 bt665.1 true))) else (laws_FnElectionsEnd.j0 k l1 t652 bt655.1 bt655.2 bt663.1 bt665.1 true)))) else (laws_FnElectionsEnd.j0 k l1 t652 bt655.1 bt655.2 bt663.1 bt665.1 true)))))))))))) = some r := h
 clear h
 replace H := Option.bind_eq_some_iff.mp H
 obtain ⟨t651, A30, H⟩ := H
 replace H : (if t651 = true then (some true) else ((spec_DrawPassedOn.f k l0).bind fun t652 => ((impl_PassedOn.f k t652).bind fun bt655 => ((spec_PassedOn.f k t652).bind fun bt659 => ((impl_SimpleMessages.f k t652).bind fun bt663 => ((impl_WinnerOf.f k t652).bind fun bt665 => ((spec_WinnerOf.f k t652).bind fun bt667 => (if (bt655.2 != bt659.2) = true then (laws_FnElectionsEnd.j0 k l1 t652 bt655.1 bt655.2 bt663.1 bt665.1 true) else ((laws_zSame.f k bt655.1 bt659.1).bind fun t669 => (if t669 = true then (if (bt663.2 != bt655.2) = true then (laws_FnElectionsEnd.j0 k l1 t652 bt655.1 bt655.2 bt663.1 bt665.1 true) else ((laws_zSum.f k bt655.1).bind fun t670 => (if bt663.1 = t670 then (if (bt665.2 != bt667.2) = true then (laws_FnElectionsEnd.j0 k l1 t652 bt655.1 bt655.2 bt663.1 bt665.1 true) else (if bt665.1 = bt667.1 then (if (bt665.2 != bt655.2) = true then (laws_FnElectionsEnd.j0 k l1 t652 bt655.1 bt655.2 bt663.1 bt665.1 true) else ((impl_AreNames.f k t652).bind fun t671 => (if (bt655.2 != t671) = true then (laws_FnElectionsEnd.j0 k l1 t652 bt655.1 bt655.2 bt663.1 bt665.1 true) else ((spec_AreNames.f k t652).bind fun t672 => (laws_FnElectionsEnd.j0 k l1 t652 bt655.1 bt655.2 bt663.1 bt665.1 (bt655.2 != t672)))))) else (laws_FnElectionsEnd.j0 k l1 t652 bt655.1 bt655.2 bt663.1 bt665.1 true))) else (laws_FnElectionsEnd.j0 k l1 t652 bt655.1 bt655.2 bt663.1 bt665.1 true)))) else (laws_FnElectionsEnd.j0 k l1 t652 bt655.1 bt655.2 bt663.1 bt665.1 true))))))))))) = some r := H
 have A3 := Aside0.mk A30
 clear A30
 by_cases c4 : t651 = true
 ·as_aux_lemma =>
  subst c4
  have H1 : (some true) = some r := by rw [if_pos rfl] at H; exact H
  clear H
  have H := H1
  clear H1
  obtain rfl := Option.some.inj H
  go_enter Try.func14, Try.ntmps14
  go_wp2_with (first | (go_at_call 42; (with_reducible refine (laws_big.calls _ _ l0 _ _ l1 true _ ?side1 ?side2 ?side3 ?side4 A3.out).mono ?_); (case side1 => repeat (first | exact HR0.out | (with_reducible refine Kd.C_alloc ?_ _) | (with_reducible refine Kd.C_drewN ?_ _) | (with_reducible refine Kd.C_drew ?_))); (case side2 => exact HC0.out); (case side3 => repeat (first | exact HR1.out | (with_reducible refine Kd.C_alloc ?_ _) | (with_reducible refine Kd.C_drewN ?_ _) | (with_reducible refine Kd.C_drew ?_))); (case side4 => exact HC1.out); rintro e w' ⟨rfl, ⟨nd, rfl⟩⟩; (try first | exact ⟨rfl, _, World.drewN_drewN _ _ _⟩ | exact ⟨rfl, _, Eq.trans (World.drewN_drewN _ _ _) (congrArg (World.drewN _) (Nat.add_assoc _ _ _))⟩)))
  repeat (go_quiet (first | (go_at_call 42; (with_reducible refine (laws_big.calls _ _ l0 _ _ l1 true _ ?side1 ?side2 ?side3 ?side4 A3.out).mono ?_); (case side1 => repeat (first | exact HR0.out | (with_reducible refine Kd.C_alloc ?_ _) | (with_reducible refine Kd.C_drewN ?_ _) | (with_reducible refine Kd.C_drew ?_))); (case side2 => exact HC0.out); (case side3 => repeat (first | exact HR1.out | (with_reducible refine Kd.C_alloc ?_ _) | (with_reducible refine Kd.C_drewN ?_ _) | (with_reducible refine Kd.C_drew ?_))); (case side4 => exact HC1.out); rintro e w' ⟨rfl, ⟨nd, rfl⟩⟩; (try first | exact ⟨rfl, _, World.drewN_drewN _ _ _⟩ | exact ⟨rfl, _, Eq.trans (World.drewN_drewN _ _ _) (congrArg (World.drewN _) (Nat.add_assoc _ _ _))⟩))); try go_wp2_with (first | (go_at_call 42; (with_reducible refine (laws_big.calls _ _ l0 _ _ l1 true _ ?side1 ?side2 ?side3 ?side4 A3.out).mono ?_); (case side1 => repeat (first | exact HR0.out | (with_reducible refine Kd.C_alloc ?_ _) | (with_reducible refine Kd.C_drewN ?_ _) | (with_reducible refine Kd.C_drew ?_))); (case side2 => exact HC0.out); (case side3 => repeat (first | exact HR1.out | (with_reducible refine Kd.C_alloc ?_ _) | (with_reducible refine Kd.C_drewN ?_ _) | (with_reducible refine Kd.C_drew ?_))); (case side4 => exact HC1.out); rintro e w' ⟨rfl, ⟨nd, rfl⟩⟩; (try first | exact ⟨rfl, _, World.drewN_drewN _ _ _⟩ | exact ⟨rfl, _, Eq.trans (World.drewN_drewN _ _ _) (congrArg (World.drewN _) (Nat.add_assoc _ _ _))⟩))))
  go_ret
  exact ⟨by first | rfl | (simp [errW_none, errW_some] <;> rfl) | (simp [*, errW_none, errW_some] <;> rfl), by repeat (first | (with_reducible first | exact HB.out | apply below_alloc | apply pw_below_drewN | apply below_drew1) | exact HB.out)⟩
 ·as_aux_lemma =>
  replace c4 := Bool.eq_false_iff.mpr c4
  subst c4
  have H1 : ((spec_DrawPassedOn.f k l0).bind fun t652 => ((impl_PassedOn.f k t652).bind fun bt655 => ((spec_PassedOn.f k t652).bind fun bt659 => ((impl_SimpleMessages.f k t652).bind fun bt663 => ((impl_WinnerOf.f k t652).bind fun bt665 => ((spec_WinnerOf.f k t652).bind fun bt667 => (if (bt655.2 != bt659.2) = true then (laws_FnElectionsEnd.j0 k l1 t652 bt655.1 bt655.2 bt663.1 bt665.1 true) else ((laws_zSame.f k bt655.1 bt659.1).bind fun t669 => (if t669 = true then (if (bt663.2 != bt655.2) = true then (laws_FnElectionsEnd.j0 k l1 t652 bt655.1 bt655.2 bt663.1 bt665.1 true) else ((laws_zSum.f k bt655.1).bind fun t670 => (if bt663.1 = t670 then (if (bt665.2 != bt667.2) = true then (laws_FnElectionsEnd.j0 k l1 t652 bt655.1 bt655.2 bt663.1 bt665.1 true) else (if bt665.1 = bt667.1 then (if (bt665.2 != bt655.2) = true then (laws_FnElectionsEnd.j0 k l1 t652 bt655.1 bt655.2 bt663.1 bt665.1 true) else ((impl_AreNames.f k t652).bind fun t671 => (if (bt655.2 != t671) = true then (laws_FnElectionsEnd.j0 k l1 t652 bt655.1 bt655.2 bt663.1 bt665.1 true) else ((spec_AreNames.f k t652).bind fun t672 => (laws_FnElectionsEnd.j0 k l1 t652 bt655.1 bt655.2 bt663.1 bt665.1 (bt655.2 != t672)))))) else (laws_FnElectionsEnd.j0 k l1 t652 bt655.1 bt655.2 bt663.1 bt665.1 true))) else (laws_FnElectionsEnd.j0 k l1 t652 bt655.1 bt655.2 bt663.1 bt665.1 true)))) else (laws_FnElectionsEnd.j0 k l1 t652 bt655.1 bt655.2 bt663.1 bt665.1 true)))))))))) = some r := by rw [if_neg (show ¬ (false = true) by decide)] at H; exact H
  clear H
  have H := H1
  clear H1
  replace H := Option.bind_eq_some_iff.mp H
  obtain ⟨t652, A50, H⟩ := H
  replace H : ((impl_PassedOn.f k t652).bind fun bt655 => ((spec_PassedOn.f k t652).bind fun bt659 => ((impl_SimpleMessages.f k t652).bind fun bt663 => ((impl_WinnerOf.f k t652).bind fun bt665 => ((spec_WinnerOf.f k t652).bind fun bt667 => (if (bt655.2 != bt659.2) = true then (laws_FnElectionsEnd.j0 k l1 t652 bt655.1 bt655.2 bt663.1 bt665.1 true) else ((laws_zSame.f k bt655.1 bt659.1).bind fun t669 => (if t669 = true then (if (bt663.2 != bt655.2) = true then (laws_FnElectionsEnd.j0 k l1 t652 bt655.1 bt655.2 bt663.1 bt665.1 true) else ((laws_zSum.f k bt655.1).bind fun t670 => (if bt663.1 = t670 then (if (bt665.2 != bt667.2) = true then (laws_FnElectionsEnd.j0 k l1 t652 bt655.1 bt655.2 bt663.1 bt665.1 true) else (if bt665.1 = bt667.1 then (if (bt665.2 != bt655.2) = true then (laws_FnElectionsEnd.j0 k l1 t652 bt655.1 bt655.2 bt663.1 bt665.1 true) else ((impl_AreNames.f k t652).bind fun t671 => (if (bt655.2 != t671) = true then (laws_FnElectionsEnd.j0 k l1 t652 bt655.1 bt655.2 bt663.1 bt665.1 true) else ((spec_AreNames.f k t652).bind fun t672 => (laws_FnElectionsEnd.j0 k l1 t652 bt655.1 bt655.2 bt663.1 bt665.1 (bt655.2 != t672)))))) else (laws_FnElectionsEnd.j0 k l1 t652 bt655.1 bt655.2 bt663.1 bt665.1 true))) else (laws_FnElectionsEnd.j0 k l1 t652 bt655.1 bt655.2 bt663.1 bt665.1 true)))) else (laws_FnElectionsEnd.j0 k l1 t652 bt655.1 bt655.2 bt663.1 bt665.1 true))))))))) = some r := H
  have A5 := Aside0.mk A50
  clear A50
  replace H := Option.bind_eq_some_iff.mp H
  obtain ⟨⟨t655, t656⟩, A60, H⟩ := H
  replace H : ((spec_PassedOn.f k t652).bind fun bt659 => ((impl_SimpleMessages.f k t652).bind fun bt663 => ((impl_WinnerOf.f k t652).bind fun bt665 => ((spec_WinnerOf.f k t652).bind fun bt667 => (if (t656 != bt659.2) = true then (laws_FnElectionsEnd.j0 k l1 t652 t655 t656 bt663.1 bt665.1 true) else ((laws_zSame.f k t655 bt659.1).bind fun t669 => (if t669 = true then (if (bt663.2 != t656) = true then (laws_FnElectionsEnd.j0 k l1 t652 t655 t656 bt663.1 bt665.1 true) else ((laws_zSum.f k t655).bind fun t670 => (if bt663.1 = t670 then (if (bt665.2 != bt667.2) = true then (laws_FnElectionsEnd.j0 k l1 t652 t655 t656 bt663.1 bt665.1 true) else (if bt665.1 = bt667.1 then (if (bt665.2 != t656) = true then (laws_FnElectionsEnd.j0 k l1 t652 t655 t656 bt663.1 bt665.1 true) else ((impl_AreNames.f k t652).bind fun t671 => (if (t656 != t671) = true then (laws_FnElectionsEnd.j0 k l1 t652 t655 t656 bt663.1 bt665.1 true) else ((spec_AreNames.f k t652).bind fun t672 => (laws_FnElectionsEnd.j0 k l1 t652 t655 t656 bt663.1 bt665.1 (t656 != t672)))))) else (laws_FnElectionsEnd.j0 k l1 t652 t655 t656 bt663.1 bt665.1 true))) else (laws_FnElectionsEnd.j0 k l1 t652 t655 t656 bt663.1 bt665.1 true)))) else (laws_FnElectionsEnd.j0 k l1 t652 t655 t656 bt663.1 bt665.1 true)))))))) = some r := H
  have A6 := Aside0.mk A60
  clear A60
  replace H := Option.bind_eq_some_iff.mp H
  obtain ⟨⟨t659, t660⟩, A70, H⟩ := H
  replace H : ((impl_SimpleMessages.f k t652).bind fun bt663 => ((impl_WinnerOf.f k t652).bind fun bt665 => ((spec_WinnerOf.f k t652).bind fun bt667 => (if (t656 != t660) = true then (laws_FnElectionsEnd.j0 k l1 t652 t655 t656 bt663.1 bt665.1 true) else ((laws_zSame.f k t655 t659).bind fun t669 => (if t669 = true then (if (bt663.2 != t656) = true then (laws_FnElectionsEnd.j0 k l1 t652 t655 t656 bt663.1 bt665.1 true) else ((laws_zSum.f k t655).bind fun t670 => (if bt663.1 = t670 then (if (bt665.2 != bt667.2) = true then (laws_FnElectionsEnd.j0 k l1 t652 t655 t656 bt663.1 bt665.1 true) else (if bt665.1 = bt667.1 then (if (bt665.2 != t656) = true then (laws_FnElectionsEnd.j0 k l1 t652 t655 t656 bt663.1 bt665.1 true) else ((impl_AreNames.f k t652).bind fun t671 => (if (t656 != t671) = true then (laws_FnElectionsEnd.j0 k l1 t652 t655 t656 bt663.1 bt665.1 true) else ((spec_AreNames.f k t652).bind fun t672 => (laws_FnElectionsEnd.j0 k l1 t652 t655 t656 bt663.1 bt665.1 (t656 != t672)))))) else (laws_FnElectionsEnd.j0 k l1 t652 t655 t656 bt663.1 bt665.1 true))) else (laws_FnElectionsEnd.j0 k l1 t652 t655 t656 bt663.1 bt665.1 true)))) else (laws_FnElectionsEnd.j0 k l1 t652 t655 t656 bt663.1 bt665.1 true))))))) = some r := H
  have A7 := Aside0.mk A70
  clear A70
  replace H := Option.bind_eq_some_iff.mp H
  obtain ⟨⟨t663, t664⟩, A80, H⟩ := H
  replace H : ((impl_WinnerOf.f k t652).bind fun bt665 => ((spec_WinnerOf.f k t652).bind fun bt667 => (if (t656 != t660) = true then (laws_FnElectionsEnd.j0 k l1 t652 t655 t656 t663 bt665.1 true) else ((laws_zSame.f k t655 t659).bind fun t669 => (if t669 = true then (if (t664 != t656) = true then (laws_FnElectionsEnd.j0 k l1 t652 t655 t656 t663 bt665.1 true) else ((laws_zSum.f k t655).bind fun t670 => (if t663 = t670 then (if (bt665.2 != bt667.2) = true then (laws_FnElectionsEnd.j0 k l1 t652 t655 t656 t663 bt665.1 true) else (if bt665.1 = bt667.1 then (if (bt665.2 != t656) = true then (laws_FnElectionsEnd.j0 k l1 t652 t655 t656 t663 bt665.1 true) else ((impl_AreNames.f k t652).bind fun t671 => (if (t656 != t671) = true then (laws_FnElectionsEnd.j0 k l1 t652 t655 t656 t663 bt665.1 true) else ((spec_AreNames.f k t652).bind fun t672 => (laws_FnElectionsEnd.j0 k l1 t652 t655 t656 t663 bt665.1 (t656 != t672)))))) else (laws_FnElectionsEnd.j0 k l1 t652 t655 t656 t663 bt665.1 true))) else (laws_FnElectionsEnd.j0 k l1 t652 t655 t656 t663 bt665.1 true)))) else (laws_FnElectionsEnd.j0 k l1 t652 t655 t656 t663 bt665.1 true)))))) = some r := H
  have A8 := Aside0.mk A80
  clear A80
  replace H := Option.bind_eq_some_iff.mp H
  obtain ⟨⟨t665, t666⟩, A90, H⟩ := H
  replace H : ((spec_WinnerOf.f k t652).bind fun bt667 => (if (t656 != t660) = true then (laws_FnElectionsEnd.j0 k l1 t652 t655 t656 t663 t665 true) else ((laws_zSame.f k t655 t659).bind fun t669 => (if t669 = true then (if (t664 != t656) = true then (laws_FnElectionsEnd.j0 k l1 t652 t655 t656 t663 t665 true) else ((laws_zSum.f k t655).bind fun t670 => (if t663 = t670 then (if (t666 != bt667.2) = true then (laws_FnElectionsEnd.j0 k l1 t652 t655 t656 t663 t665 true) else (if t665 = bt667.1 then (if (t666 != t656) = true then (laws_FnElectionsEnd.j0 k l1 t652 t655 t656 t663 t665 true) else ((impl_AreNames.f k t652).bind fun t671 => (if (t656 != t671) = true then (laws_FnElectionsEnd.j0 k l1 t652 t655 t656 t663 t665 true) else ((spec_AreNames.f k t652).bind fun t672 => (laws_FnElectionsEnd.j0 k l1 t652 t655 t656 t663 t665 (t656 != t672)))))) else (laws_FnElectionsEnd.j0 k l1 t652 t655 t656 t663 t665 true))) else (laws_FnElectionsEnd.j0 k l1 t652 t655 t656 t663 t665 true)))) else (laws_FnElectionsEnd.j0 k l1 t652 t655 t656 t663 t665 true))))) = some r := H
  have A9 := Aside0.mk A90
  clear A90
  replace H := Option.bind_eq_some_iff.mp H
  obtain ⟨⟨t667, t668⟩, A100, H⟩ := H
  replace H : (if (t656 != t660) = true then (laws_FnElectionsEnd.j0 k l1 t652 t655 t656 t663 t665 true) else ((laws_zSame.f k t655 t659).bind fun t669 => (if t669 = true then (if (t664 != t656) = true then (laws_FnElectionsEnd.j0 k l1 t652 t655 t656 t663 t665 true) else ((laws_zSum.f k t655).bind fun t670 => (if t663 = t670 then (if (t666 != t668) = true then (laws_FnElectionsEnd.j0 k l1 t652 t655 t656 t663 t665 true) else (if t665 = t667 then (if (t666 != t656) = true then (laws_FnElectionsEnd.j0 k l1 t652 t655 t656 t663 t665 true) else ((impl_AreNames.f k t652).bind fun t671 => (if (t656 != t671) = true then (laws_FnElectionsEnd.j0 k l1 t652 t655 t656 t663 t665 true) else ((spec_AreNames.f k t652).bind fun t672 => (laws_FnElectionsEnd.j0 k l1 t652 t655 t656 t663 t665 (t656 != t672)))))) else (laws_FnElectionsEnd.j0 k l1 t652 t655 t656 t663 t665 true))) else (laws_FnElectionsEnd.j0 k l1 t652 t655 t656 t663 t665 true)))) else (laws_FnElectionsEnd.j0 k l1 t652 t655 t656 t663 t665 true)))) = some r := H
  have A10 := Aside0.mk A100
  clear A100
  have HC11 := Aside0.mk H
  clear H
  go_enter Try.func14, Try.ntmps14
  go_upto_region 9 with (first | (go_at_call 42; (with_reducible refine (laws_big.calls _ _ l0 _ _ l1 false _ ?side1 ?side2 ?side3 ?side4 A3.out).mono ?_); (case side1 => repeat (first | exact HR0.out | (with_reducible refine Kd.C_alloc ?_ _) | (with_reducible refine Kd.C_drewN ?_ _) | (with_reducible refine Kd.C_drew ?_))); (case side2 => exact HC0.out); (case side3 => repeat (first | exact HR1.out | (with_reducible refine Kd.C_alloc ?_ _) | (with_reducible refine Kd.C_drewN ?_ _) | (with_reducible refine Kd.C_drew ?_))); (case side4 => exact HC1.out); rintro e w' ⟨rfl, ⟨nd, rfl⟩⟩; (try first | exact ⟨rfl, _, World.drewN_drewN _ _ _⟩ | exact ⟨rfl, _, Eq.trans (World.drewN_drewN _ _ _) (congrArg (World.drewN _) (Nat.add_assoc _ _ _))⟩)) | (go_at_call 46; (with_reducible refine (spec_DrawPassedOn.calls k _ _ l0 t652 _ ?side1 ?side2 A5.out).mono ?_); (case side1 => repeat (first | exact HR0.out | (with_reducible refine Kd.C_alloc ?_ _) | (with_reducible refine Kd.C_drewN ?_ _) | (with_reducible refine Kd.C_drew ?_))); (case side2 => exact HC0.out); rintro e w12 ⟨v653, rfl, ho0, hb⟩; have n0_ := Aside0.mk (Kd.R_lower ho0 (below_size (by repeat (first | (with_reducible first | exact HB.out | apply below_alloc | apply pw_below_drewN | apply below_drew1) | exact HB.out)))); have n1_ := Aside0.mk (below_step (by repeat (first | (with_reducible first | exact HB.out | apply below_alloc | apply pw_below_drewN | apply below_drew1) | exact HB.out)) hb); clear HB; have HO654 := n0_; have HB := n1_; clear n0_ n1_; (try clear hb); (try clear hb2); (try clear hk); (try clear hi); (try clear ho0); obtain ⟨Ao13, co13, eo13⟩ := Kd.R_slice HO654.out; subst eo13) | (go_at_call 24; (with_reducible refine (impl_PassedOn.calls k _ _ t652 t655 t656 _ ?side1 ?side2 A6.out).mono ?_); (case side1 => repeat (first | exact (Kd.R_reads' HO654.out).2.2 | (with_reducible refine Kd.C_alloc ?_ _) | (with_reducible refine Kd.C_drewN ?_ _) | (with_reducible refine Kd.C_drew ?_))); (case side2 => exact (Kd.R_reads' HO654.out).2.1); rintro e w14 ⟨v657, rfl, ho0, hb⟩; have n0_ := Aside0.mk (Kd.R_elder' (by (with_reducible repeat (first | apply Kd.R_alloc | apply Kd.R_drewN | apply Kd.R_drew)); exact HO654.out) (Kd.R_base ho0) hb); have n1_ := Aside0.mk (Kd.R_lower (Kd.R_new' ho0 (Kd.R_lt (by (with_reducible repeat (first | apply Kd.R_alloc | apply Kd.R_drewN | apply Kd.R_drew)); exact HO654.out))) (below_size (by repeat (first | (with_reducible first | exact HB.out | apply below_alloc | apply pw_below_drewN | apply below_drew1) | exact HB.out)))); have n2_ := Aside0.mk (below_step (by repeat (first | (with_reducible first | exact HB.out | apply below_alloc | apply pw_below_drewN | apply below_drew1) | exact HB.out)) hb); clear HO654; clear HB; have HO654 := n0_; have HO658 := n1_; have HB := n2_; clear n0_ n1_ n2_; (try clear hb); (try clear hb2); (try clear hk); (try clear hi); (try clear ho0)) | (go_at_call 23; (with_reducible refine (spec_PassedOn.calls k _ _ t652 t659 t660 _ ?side1 ?side2 A7.out).mono ?_); (case side1 => repeat (first | exact (Kd.R_reads' HO654.out).2.2 | (with_reducible refine Kd.C_alloc ?_ _) | (with_reducible refine Kd.C_drewN ?_ _) | (with_reducible refine Kd.C_drew ?_))); (case side2 => exact (Kd.R_reads' HO654.out).2.1); rintro e w15 ⟨v661, rfl, ho0, hb⟩; have n0_ := Aside0.mk (Kd.R_elder' (by (with_reducible repeat (first | apply Kd.R_alloc | apply Kd.R_drewN | apply Kd.R_drew)); exact HO654.out) (Kd.R_base ho0) hb); have n1_ := Aside0.mk (Kd.R_elder' (by (with_reducible repeat (first | apply Kd.R_alloc | apply Kd.R_drewN | apply Kd.R_drew)); exact HO658.out) (Kd.R_base ho0) hb); have n2_ := Aside0.mk (Kd.R_lower (Kd.R_new' (Kd.R_new' ho0 (Kd.R_lt (by (with_reducible repeat (first | apply Kd.R_alloc | apply Kd.R_drewN | apply Kd.R_drew)); exact HO654.out))) (Kd.R_lt (by (with_reducible repeat (first | apply Kd.R_alloc | apply Kd.R_drewN | apply Kd.R_drew)); exact HO658.out))) (below_size (by repeat (first | (with_reducible first | exact HB.out | apply below_alloc | apply pw_below_drewN | apply below_drew1) | exact HB.out)))); have n3_ := Aside0.mk (below_step (by repeat (first | (with_reducible first | exact HB.out | apply below_alloc | apply pw_below_drewN | apply below_drew1) | exact HB.out)) hb); clear HO654; clear HO658; clear HB; have HO654 := n0_; have HO658 := n1_; have HO662 := n2_; have HB := n3_; clear n0_ n1_ n2_ n3_; (try clear hb); (try clear hb2); (try clear hk); (try clear hi); (try clear ho0)) | (go_at_call 28; (with_reducible refine (impl_SimpleMessages.calls k _ _ t652 t663 t664 _ ?side1 ?side2 A8.out).mono ?_); (case side1 => repeat (first | exact (Kd.R_reads' HO654.out).2.2 | (with_reducible refine Kd.C_alloc ?_ _) | (with_reducible refine Kd.C_drewN ?_ _) | (with_reducible refine Kd.C_drew ?_))); (case side2 => exact (Kd.R_reads' HO654.out).2.1); rintro e w16 ⟨rfl, hb⟩; have n0_ := Aside0.mk (Kd.R_below (by (with_reducible repeat (first | apply Kd.R_alloc | apply Kd.R_drewN | apply Kd.R_drew)); exact HO654.out) hb); have n1_ := Aside0.mk (Kd.R_below (by (with_reducible repeat (first | apply Kd.R_alloc | apply Kd.R_drewN | apply Kd.R_drew)); exact HO658.out) hb); have n2_ := Aside0.mk (Kd.R_below (by (with_reducible repeat (first | apply Kd.R_alloc | apply Kd.R_drewN | apply Kd.R_drew)); exact HO662.out) hb); have n3_ := Aside0.mk (below_step (by repeat (first | (with_reducible first | exact HB.out | apply below_alloc | apply pw_below_drewN | apply below_drew1) | exact HB.out)) hb); clear HO654; clear HO658; clear HO662; clear HB; have HO654 := n0_; have HO658 := n1_; have HO662 := n2_; have HB := n3_; clear n0_ n1_ n2_ n3_; (try clear hb); (try clear hb2); (try clear hk); (try clear hi)) | (go_at_call 22; (with_reducible refine (impl_WinnerOf.calls k _ _ t652 t665 t666 _ ?side1 ?side2 A9.out).mono ?_); (case side1 => repeat (first | exact (Kd.R_reads' HO654.out).2.2 | (with_reducible refine Kd.C_alloc ?_ _) | (with_reducible refine Kd.C_drewN ?_ _) | (with_reducible refine Kd.C_drew ?_))); (case side2 => exact (Kd.R_reads' HO654.out).2.1); rintro e w17 ⟨rfl, hb⟩; have n0_ := Aside0.mk (Kd.R_below (by (with_reducible repeat (first | apply Kd.R_alloc | apply Kd.R_drewN | apply Kd.R_drew)); exact HO654.out) hb); have n1_ := Aside0.mk (Kd.R_below (by (with_reducible repeat (first | apply Kd.R_alloc | apply Kd.R_drewN | apply Kd.R_drew)); exact HO658.out) hb); have n2_ := Aside0.mk (Kd.R_below (by (with_reducible repeat (first | apply Kd.R_alloc | apply Kd.R_drewN | apply Kd.R_drew)); exact HO662.out) hb); have n3_ := Aside0.mk (below_step (by repeat (first | (with_reducible first | exact HB.out | apply below_alloc | apply pw_below_drewN | apply below_drew1) | exact HB.out)) hb); clear HO654; clear HO658; clear HO662; clear HB; have HO654 := n0_; have HO658 := n1_; have HO662 := n2_; have HB := n3_; clear n0_ n1_ n2_ n3_; (try clear hb); (try clear hb2); (try clear hk); (try clear hi)) | (go_at_call 21; (with_reducible refine (spec_WinnerOf.calls k _ _ t652 t667 t668 _ ?side1 ?side2 A10.out).mono ?_); (case side1 => repeat (first | exact (Kd.R_reads' HO654.out).2.2 | (with_reducible refine Kd.C_alloc ?_ _) | (with_reducible refine Kd.C_drewN ?_ _) | (with_reducible refine Kd.C_drew ?_))); (case side2 => exact (Kd.R_reads' HO654.out).2.1); rintro e w' ⟨rfl, ⟨nd, rfl⟩⟩; (try first | exact ⟨rfl, _, World.drewN_drewN _ _ _⟩ | exact ⟨rfl, _, Eq.trans (World.drewN_drewN _ _ _) (congrArg (World.drewN _) (Nat.add_assoc _ _ _))⟩)))
  repeat (go_quiet (first | (go_at_call 42; (with_reducible refine (laws_big.calls _ _ l0 _ _ l1 false _ ?side1 ?side2 ?side3 ?side4 A3.out).mono ?_); (case side1 => repeat (first | exact HR0.out | (with_reducible refine Kd.C_alloc ?_ _) | (with_reducible refine Kd.C_drewN ?_ _) | (with_reducible refine Kd.C_drew ?_))); (case side2 => exact HC0.out); (case side3 => repeat (first | exact HR1.out | (with_reducible refine Kd.C_alloc ?_ _) | (with_reducible refine Kd.C_drewN ?_ _) | (with_reducible refine Kd.C_drew ?_))); (case side4 => exact HC1.out); rintro e w' ⟨rfl, ⟨nd, rfl⟩⟩; (try first | exact ⟨rfl, _, World.drewN_drewN _ _ _⟩ | exact ⟨rfl, _, Eq.trans (World.drewN_drewN _ _ _) (congrArg (World.drewN _) (Nat.add_assoc _ _ _))⟩)) | (go_at_call 46; (with_reducible refine (spec_DrawPassedOn.calls k _ _ l0 t652 _ ?side1 ?side2 A5.out).mono ?_); (case side1 => repeat (first | exact HR0.out | (with_reducible refine Kd.C_alloc ?_ _) | (with_reducible refine Kd.C_drewN ?_ _) | (with_reducible refine Kd.C_drew ?_))); (case side2 => exact HC0.out); rintro e w12 ⟨v653, rfl, ho0, hb⟩; have n0_ := Aside0.mk (Kd.R_lower ho0 (below_size (by repeat (first | (with_reducible first | exact HB.out | apply below_alloc | apply pw_below_drewN | apply below_drew1) | exact HB.out)))); have n1_ := Aside0.mk (below_step (by repeat (first | (with_reducible first | exact HB.out | apply below_alloc | apply pw_below_drewN | apply below_drew1) | exact HB.out)) hb); clear HB; have HO654 := n0_; have HB := n1_; clear n0_ n1_; (try clear hb); (try clear hb2); (try clear hk); (try clear hi); (try clear ho0); obtain ⟨Ao13, co13, eo13⟩ := Kd.R_slice HO654.out; subst eo13) | (go_at_call 24; (with_reducible refine (impl_PassedOn.calls k _ _ t652 t655 t656 _ ?side1 ?side2 A6.out).mono ?_); (case side1 => repeat (first | exact (Kd.R_reads' HO654.out).2.2 | (with_reducible refine Kd.C_alloc ?_ _) | (with_reducible refine Kd.C_drewN ?_ _) | (with_reducible refine Kd.C_drew ?_))); (case side2 => exact (Kd.R_reads' HO654.out).2.1); rintro e w14 ⟨v657, rfl, ho0, hb⟩; have n0_ := Aside0.mk (Kd.R_elder' (by (with_reducible repeat (first | apply Kd.R_alloc | apply Kd.R_drewN | apply Kd.R_drew)); exact HO654.out) (Kd.R_base ho0) hb); have n1_ := Aside0.mk (Kd.R_lower (Kd.R_new' ho0 (Kd.R_lt (by (with_reducible repeat (first | apply Kd.R_alloc | apply Kd.R_drewN | apply Kd.R_drew)); exact HO654.out))) (below_size (by repeat (first | (with_reducible first | exact HB.out | apply below_alloc | apply pw_below_drewN | apply below_drew1) | exact HB.out)))); have n2_ := Aside0.mk (below_step (by repeat (first | (with_reducible first | exact HB.out | apply below_alloc | apply pw_below_drewN | apply below_drew1) | exact HB.out)) hb); clear HO654; clear HB; have HO654 := n0_; have HO658 := n1_; have HB := n2_; clear n0_ n1_ n2_; (try clear hb); (try clear hb2); (try clear hk); (try clear hi); (try clear ho0)) | (go_at_call 23; (with_reducible refine (spec_PassedOn.calls k _ _ t652 t659 t660 _ ?side1 ?side2 A7.out).mono ?_); (case side1 => repeat (first | exact (Kd.R_reads' HO654.out).2.2 | (with_reducible refine Kd.C_alloc ?_ _) | (with_reducible refine Kd.C_drewN ?_ _) | (with_reducible refine Kd.C_drew ?_))); (case side2 => exact (Kd.R_reads' HO654.out).2.1); rintro e w15 ⟨v661, rfl, ho0, hb⟩; have n0_ := Aside0.mk (Kd.R_elder' (by (with_reducible repeat (first | apply Kd.R_alloc | apply Kd.R_drewN | apply Kd.R_drew)); exact HO654.out) (Kd.R_base ho0) hb); have n1_ := Aside0.mk (Kd.R_elder' (by (with_reducible repeat (first | apply Kd.R_alloc | apply Kd.R_drewN | apply Kd.R_drew)); exact HO658.out) (Kd.R_base ho0) hb); have n2_ := Aside0.mk (Kd.R_lower (Kd.R_new' (Kd.R_new' ho0 (Kd.R_lt (by (with_reducible repeat (first | apply Kd.R_alloc | apply Kd.R_drewN | apply Kd.R_drew)); exact HO654.out))) (Kd.R_lt (by (with_reducible repeat (first | apply Kd.R_alloc | apply Kd.R_drewN | apply Kd.R_drew)); exact HO658.out))) (below_size (by repeat (first | (with_reducible first | exact HB.out | apply below_alloc | apply pw_below_drewN | apply below_drew1) | exact HB.out)))); have n3_ := Aside0.mk (below_step (by repeat (first | (with_reducible first | exact HB.out | apply below_alloc | apply pw_below_drewN | apply below_drew1) | exact HB.out)) hb); clear HO654; clear HO658; clear HB; have HO654 := n0_; have HO658 := n1_; have HO662 := n2_; have HB := n3_; clear n0_ n1_ n2_ n3_; (try clear hb); (try clear hb2); (try clear hk); (try clear hi); (try clear ho0)) | (go_at_call 28; (with_reducible refine (impl_SimpleMessages.calls k _ _ t652 t663 t664 _ ?side1 ?side2 A8.out).mono ?_); (case side1 => repeat (first | exact (Kd.R_reads' HO654.out).2.2 | (with_reducible refine Kd.C_alloc ?_ _) | (with_reducible refine Kd.C_drewN ?_ _) | (with_reducible refine Kd.C_drew ?_))); (case side2 => exact (Kd.R_reads' HO654.out).2.1); rintro e w16 ⟨rfl, hb⟩; have n0_ := Aside0.mk (Kd.R_below (by (with_reducible repeat (first | apply Kd.R_alloc | apply Kd.R_drewN | apply Kd.R_drew)); exact HO654.out) hb); have n1_ := Aside0.mk (Kd.R_below (by (with_reducible repeat (first | apply Kd.R_alloc | apply Kd.R_drewN | apply Kd.R_drew)); exact HO658.out) hb); have n2_ := Aside0.mk (Kd.R_below (by (with_reducible repeat (first | apply Kd.R_alloc | apply Kd.R_drewN | apply Kd.R_drew)); exact HO662.out) hb); have n3_ := Aside0.mk (below_step (by repeat (first | (with_reducible first | exact HB.out | apply below_alloc | apply pw_below_drewN | apply below_drew1) | exact HB.out)) hb); clear HO654; clear HO658; clear HO662; clear HB; have HO654 := n0_; have HO658 := n1_; have HO662 := n2_; have HB := n3_; clear n0_ n1_ n2_ n3_; (try clear hb); (try clear hb2); (try clear hk); (try clear hi)) | (go_at_call 22; (with_reducible refine (impl_WinnerOf.calls k _ _ t652 t665 t666 _ ?side1 ?side2 A9.out).mono ?_); (case side1 => repeat (first | exact (Kd.R_reads' HO654.out).2.2 | (with_reducible refine Kd.C_alloc ?_ _) | (with_reducible refine Kd.C_drewN ?_ _) | (with_reducible refine Kd.C_drew ?_))); (case side2 => exact (Kd.R_reads' HO654.out).2.1); rintro e w17 ⟨rfl, hb⟩; have n0_ := Aside0.mk (Kd.R_below (by (with_reducible repeat (first | apply Kd.R_alloc | apply Kd.R_drewN | apply Kd.R_drew)); exact HO654.out) hb); have n1_ := Aside0.mk (Kd.R_below (by (with_reducible repeat (first | apply Kd.R_alloc | apply Kd.R_drewN | apply Kd.R_drew)); exact HO658.out) hb); have n2_ := Aside0.mk (Kd.R_below (by (with_reducible repeat (first | apply Kd.R_alloc | apply Kd.R_drewN | apply Kd.R_drew)); exact HO662.out) hb); have n3_ := Aside0.mk (below_step (by repeat (first | (with_reducible first | exact HB.out | apply below_alloc | apply pw_below_drewN | apply below_drew1) | exact HB.out)) hb); clear HO654; clear HO658; clear HO662; clear HB; have HO654 := n0_; have HO658 := n1_; have HO662 := n2_; have HB := n3_; clear n0_ n1_ n2_ n3_; (try clear hb); (try clear hb2); (try clear hk); (try clear hi)) | (go_at_call 21; (with_reducible refine (spec_WinnerOf.calls k _ _ t652 t667 t668 _ ?side1 ?side2 A10.out).mono ?_); (case side1 => repeat (first | exact (Kd.R_reads' HO654.out).2.2 | (with_reducible refine Kd.C_alloc ?_ _) | (with_reducible refine Kd.C_drewN ?_ _) | (with_reducible refine Kd.C_drew ?_))); (case side2 => exact (Kd.R_reads' HO654.out).2.1); rintro e w' ⟨rfl, ⟨nd, rfl⟩⟩; (try first | exact ⟨rfl, _, World.drewN_drewN _ _ _⟩ | exact ⟨rfl, _, Eq.trans (World.drewN_drewN _ _ _) (congrArg (World.drewN _) (Nat.add_assoc _ _ _))⟩))); go_upto_region 9 with (first | (go_at_call 42; (with_reducible refine (laws_big.calls _ _ l0 _ _ l1 false _ ?side1 ?side2 ?side3 ?side4 A3.out).mono ?_); (case side1 => repeat (first | exact HR0.out | (with_reducible refine Kd.C_alloc ?_ _) | (with_reducible refine Kd.C_drewN ?_ _) | (with_reducible refine Kd.C_drew ?_))); (case side2 => exact HC0.out); (case side3 => repeat (first | exact HR1.out | (with_reducible refine Kd.C_alloc ?_ _) | (with_reducible refine Kd.C_drewN ?_ _) | (with_reducible refine Kd.C_drew ?_))); (case side4 => exact HC1.out); rintro e w' ⟨rfl, ⟨nd, rfl⟩⟩; (try first | exact ⟨rfl, _, World.drewN_drewN _ _ _⟩ | exact ⟨rfl, _, Eq.trans (World.drewN_drewN _ _ _) (congrArg (World.drewN _) (Nat.add_assoc _ _ _))⟩)) | (go_at_call 46; (with_reducible refine (spec_DrawPassedOn.calls k _ _ l0 t652 _ ?side1 ?side2 A5.out).mono ?_); (case side1 => repeat (first | exact HR0.out | (with_reducible refine Kd.C_alloc ?_ _) | (with_reducible refine Kd.C_drewN ?_ _) | (with_reducible refine Kd.C_drew ?_))); (case side2 => exact HC0.out); rintro e w12 ⟨v653, rfl, ho0, hb⟩; have n0_ := Aside0.mk (Kd.R_lower ho0 (below_size (by repeat (first | (with_reducible first | exact HB.out | apply below_alloc | apply pw_below_drewN | apply below_drew1) | exact HB.out)))); have n1_ := Aside0.mk (below_step (by repeat (first | (with_reducible first | exact HB.out | apply below_alloc | apply pw_below_drewN | apply below_drew1) | exact HB.out)) hb); clear HB; have HO654 := n0_; have HB := n1_; clear n0_ n1_; (try clear hb); (try clear hb2); (try clear hk); (try clear hi); (try clear ho0); obtain ⟨Ao13, co13, eo13⟩ := Kd.R_slice HO654.out; subst eo13) | (go_at_call 24; (with_reducible refine (impl_PassedOn.calls k _ _ t652 t655 t656 _ ?side1 ?side2 A6.out).mono ?_); (case side1 => repeat (first | exact (Kd.R_reads' HO654.out).2.2 | (with_reducible refine Kd.C_alloc ?_ _) | (with_reducible refine Kd.C_drewN ?_ _) | (with_reducible refine Kd.C_drew ?_))); (case side2 => exact (Kd.R_reads' HO654.out).2.1); rintro e w14 ⟨v657, rfl, ho0, hb⟩; have n0_ := Aside0.mk (Kd.R_elder' (by (with_reducible repeat (first | apply Kd.R_alloc | apply Kd.R_drewN | apply Kd.R_drew)); exact HO654.out) (Kd.R_base ho0) hb); have n1_ := Aside0.mk (Kd.R_lower (Kd.R_new' ho0 (Kd.R_lt (by (with_reducible repeat (first | apply Kd.R_alloc | apply Kd.R_drewN | apply Kd.R_drew)); exact HO654.out))) (below_size (by repeat (first | (with_reducible first | exact HB.out | apply below_alloc | apply pw_below_drewN | apply below_drew1) | exact HB.out)))); have n2_ := Aside0.mk (below_step (by repeat (first | (with_reducible first | exact HB.out | apply below_alloc | apply pw_below_drewN | apply below_drew1) | exact HB.out)) hb); clear HO654; clear HB; have HO654 := n0_; have HO658 := n1_; have HB := n2_; clear n0_ n1_ n2_; (try clear hb); (try clear hb2); (try clear hk); (try clear hi); (try clear ho0)) | (go_at_call 23; (with_reducible refine (spec_PassedOn.calls k _ _ t652 t659 t660 _ ?side1 ?side2 A7.out).mono ?_); (case side1 => repeat (first | exact (Kd.R_reads' HO654.out).2.2 | (with_reducible refine Kd.C_alloc ?_ _) | (with_reducible refine Kd.C_drewN ?_ _) | (with_reducible refine Kd.C_drew ?_))); (case side2 => exact (Kd.R_reads' HO654.out).2.1); rintro e w15 ⟨v661, rfl, ho0, hb⟩; have n0_ := Aside0.mk (Kd.R_elder' (by (with_reducible repeat (first | apply Kd.R_alloc | apply Kd.R_drewN | apply Kd.R_drew)); exact HO654.out) (Kd.R_base ho0) hb); have n1_ := Aside0.mk (Kd.R_elder' (by (with_reducible repeat (first | apply Kd.R_alloc | apply Kd.R_drewN | apply Kd.R_drew)); exact HO658.out) (Kd.R_base ho0) hb); have n2_ := Aside0.mk (Kd.R_lower (Kd.R_new' (Kd.R_new' ho0 (Kd.R_lt (by (with_reducible repeat (first | apply Kd.R_alloc | apply Kd.R_drewN | apply Kd.R_drew)); exact HO654.out))) (Kd.R_lt (by (with_reducible repeat (first | apply Kd.R_alloc | apply Kd.R_drewN | apply Kd.R_drew)); exact HO658.out))) (below_size (by repeat (first | (with_reducible first | exact HB.out | apply below_alloc | apply pw_below_drewN | apply below_drew1) | exact HB.out)))); have n3_ := Aside0.mk (below_step (by repeat (first | (with_reducible first | exact HB.out | apply below_alloc | apply pw_below_drewN | apply below_drew1) | exact HB.out)) hb); clear HO654; clear HO658; clear HB; have HO654 := n0_; have HO658 := n1_; have HO662 := n2_; have HB := n3_; clear n0_ n1_ n2_ n3_; (try clear hb); (try clear hb2); (try clear hk); (try clear hi); (try clear ho0)) | (go_at_call 28; (with_reducible refine (impl_SimpleMessages.calls k _ _ t652 t663 t664 _ ?side1 ?side2 A8.out).mono ?_); (case side1 => repeat (first | exact (Kd.R_reads' HO654.out).2.2 | (with_reducible refine Kd.C_alloc ?_ _) | (with_reducible refine Kd.C_drewN ?_ _) | (with_reducible refine Kd.C_drew ?_))); (case side2 => exact (Kd.R_reads' HO654.out).2.1); rintro e w16 ⟨rfl, hb⟩; have n0_ := Aside0.mk (Kd.R_below (by (with_reducible repeat (first | apply Kd.R_alloc | apply Kd.R_drewN | apply Kd.R_drew)); exact HO654.out) hb); have n1_ := Aside0.mk (Kd.R_below (by (with_reducible repeat (first | apply Kd.R_alloc | apply Kd.R_drewN | apply Kd.R_drew)); exact HO658.out) hb); have n2_ := Aside0.mk (Kd.R_below (by (with_reducible repeat (first | apply Kd.R_alloc | apply Kd.R_drewN | apply Kd.R_drew)); exact HO662.out) hb); have n3_ := Aside0.mk (below_step (by repeat (first | (with_reducible first | exact HB.out | apply below_alloc | apply pw_below_drewN | apply below_drew1) | exact HB.out)) hb); clear HO654; clear HO658; clear HO662; clear HB; have HO654 := n0_; have HO658 := n1_; have HO662 := n2_; have HB := n3_; clear n0_ n1_ n2_ n3_; (try clear hb); (try clear hb2); (try clear hk); (try clear hi)) | (go_at_call 22; (with_reducible refine (impl_WinnerOf.calls k _ _ t652 t665 t666 _ ?side1 ?side2 A9.out).mono ?_); (case side1 => repeat (first | exact (Kd.R_reads' HO654.out).2.2 | (with_reducible refine Kd.C_alloc ?_ _) | (with_reducible refine Kd.C_drewN ?_ _) | (with_reducible refine Kd.C_drew ?_))); (case side2 => exact (Kd.R_reads' HO654.out).2.1); rintro e w17 ⟨rfl, hb⟩; have n0_ := Aside0.mk (Kd.R_below (by (with_reducible repeat (first | apply Kd.R_alloc | apply Kd.R_drewN | apply Kd.R_drew)); exact HO654.out) hb); have n1_ := Aside0.mk (Kd.R_below (by (with_reducible repeat (first | apply Kd.R_alloc | apply Kd.R_drewN | apply Kd.R_drew)); exact HO658.out) hb); have n2_ := Aside0.mk (Kd.R_below (by (with_reducible repeat (first | apply Kd.R_alloc | apply Kd.R_drewN | apply Kd.R_drew)); exact HO662.out) hb); have n3_ := Aside0.mk (below_step (by repeat (first | (with_reducible first | exact HB.out | apply below_alloc | apply pw_below_drewN | apply below_drew1) | exact HB.out)) hb); clear HO654; clear HO658; clear HO662; clear HB; have HO654 := n0_; have HO658 := n1_; have HO662 := n2_; have HB := n3_; clear n0_ n1_ n2_ n3_; (try clear hb); (try clear hb2); (try clear hk); (try clear hi)) | (go_at_call 21; (with_reducible refine (spec_WinnerOf.calls k _ _ t652 t667 t668 _ ?side1 ?side2 A10.out).mono ?_); (case side1 => repeat (first | exact (Kd.R_reads' HO654.out).2.2 | (with_reducible refine Kd.C_alloc ?_ _) | (with_reducible refine Kd.C_drewN ?_ _) | (with_reducible refine Kd.C_drew ?_))); (case side2 => exact (Kd.R_reads' HO654.out).2.1); rintro e w' ⟨rfl, ⟨nd, rfl⟩⟩; (try first | exact ⟨rfl, _, World.drewN_drewN _ _ _⟩ | exact ⟨rfl, _, Eq.trans (World.drewN_drewN _ _ _) (congrArg (World.drewN _) (Nat.add_assoc _ _ _))⟩))))
  (try simp only [Act.put, List.setIfInBounds_toArray, List.set_cons_zero, List.set_cons_succ])
  go_cut [123] (fun v123 wc => ∃ (kq : Nat) (x123_10 : Bool), v123 = .bool x123_10 ∧ Aside0 (laws_FnElectionsEnd.j0 kq l1 t652 t655 t656 t663 t665 x123_10 = some r) ∧ Aside0 (kq ≤ k) ∧ Aside0 (Kd.R (Kd.int .i64) 3 wc w.heap.size (fun k_ => some k_ ≠ (v657 : Value).ownBlock) (.slice Ao13 t652.length co13) t652) ∧ Aside0 (Kd.R (Kd.int .i64) 3 wc w.heap.size (fun k_ => some k_ ≠ ((.slice Ao13 t652.length co13) : Value).ownBlock) v657 t655) ∧ Aside0 (Below w.heap.size w wc))
  case first => as_aux_lemma =>
   have H := HC11.out
   clear HC11
   by_cases c18 : (t656 != t660) = true
   ·as_aux_lemma =>
    rw [if_pos c18] at H
    have c18b0 : (t656 != t660) = true := c18
    (try (have c18b1 : decide (t656 = t660) = false := by simpa using c18))
    (try (have c18b2 : (t656 == t660) = false := by simpa using c18))
    (try (have c18b3 : ¬ (t656 = t660) := by simpa using c18))
    clear c18
    (first | rw [c18b0] | (simp only [i64_w, i32_w]; rw [c18b0]) | skip)
    have H' := Aside0.mk H
    clear H
    go_wp2
    repeat (go_quiet (fail); try go_wp2)
    go_meet
    case rel => exact ⟨_, (true), (by first | rfl | (simp; done) | (simp [*]; done)), H', ⟨by first | omega | exact Nat.le_refl _⟩, ⟨by (with_reducible repeat (first | apply Kd.R_alloc | apply Kd.R_drewN | apply Kd.R_drew)); exact Kd.R_mono HO654.out (fun _ hk => hk.1.2)⟩, ⟨by (with_reducible repeat (first | apply Kd.R_alloc | apply Kd.R_drewN | apply Kd.R_drew)); exact Kd.R_mono HO658.out (fun _ hk => hk.1.2)⟩, ⟨by repeat (first | (with_reducible first | exact HB.out | apply below_alloc | apply pw_below_drewN | apply below_drew1) | exact HB.out)⟩⟩
   ·as_aux_lemma =>
    rw [if_neg c18] at H
    have c18b0 : (t656 != t660) = false := by simpa using c18
    (try (have c18b1 : decide (t656 = t660) = true := by simpa using c18))
    (try (have c18b2 : (t656 == t660) = true := by simpa using c18))
    clear c18
    (first | rw [c18b0] | (simp only [i64_w, i32_w]; rw [c18b0]) | skip)
    replace H := Option.bind_eq_some_iff.mp H
    obtain ⟨t669, A190, H⟩ := H
    replace H : (if t669 = true then (if (t664 != t656) = true then (laws_FnElectionsEnd.j0 k l1 t652 t655 t656 t663 t665 true) else ((laws_zSum.f k t655).bind fun t670 => (if t663 = t670 then (if (t666 != t668) = true then (laws_FnElectionsEnd.j0 k l1 t652 t655 t656 t663 t665 true) else (if t665 = t667 then (if (t666 != t656) = true then (laws_FnElectionsEnd.j0 k l1 t652 t655 t656 t663 t665 true) else ((impl_AreNames.f k t652).bind fun t671 => (if (t656 != t671) = true then (laws_FnElectionsEnd.j0 k l1 t652 t655 t656 t663 t665 true) else ((spec_AreNames.f k t652).bind fun t672 => (laws_FnElectionsEnd.j0 k l1 t652 t655 t656 t663 t665 (t656 != t672)))))) else (laws_FnElectionsEnd.j0 k l1 t652 t655 t656 t663 t665 true))) else (laws_FnElectionsEnd.j0 k l1 t652 t655 t656 t663 t665 true)))) else (laws_FnElectionsEnd.j0 k l1 t652 t655 t656 t663 t665 true)) = some r := H
    have A19 := Aside0.mk A190
    clear A190
    by_cases c20 : t669 = true
    ·as_aux_lemma =>
     subst c20
     have H1 : (if (t664 != t656) = true then (laws_FnElectionsEnd.j0 k l1 t652 t655 t656 t663 t665 true) else ((laws_zSum.f k t655).bind fun t670 => (if t663 = t670 then (if (t666 != t668) = true then (laws_FnElectionsEnd.j0 k l1 t652 t655 t656 t663 t665 true) else (if t665 = t667 then (if (t666 != t656) = true then (laws_FnElectionsEnd.j0 k l1 t652 t655 t656 t663 t665 true) else ((impl_AreNames.f k t652).bind fun t671 => (if (t656 != t671) = true then (laws_FnElectionsEnd.j0 k l1 t652 t655 t656 t663 t665 true) else ((spec_AreNames.f k t652).bind fun t672 => (laws_FnElectionsEnd.j0 k l1 t652 t655 t656 t663 t665 (t656 != t672)))))) else (laws_FnElectionsEnd.j0 k l1 t652 t655 t656 t663 t665 true))) else (laws_FnElectionsEnd.j0 k l1 t652 t655 t656 t663 t665 true)))) = some r := by rw [if_pos rfl] at H; exact H
     clear H
     have H := H1
     clear H1
     by_cases c21 : (t664 != t656) = true
     ·as_aux_lemma =>
      rw [if_pos c21] at H
      have c21b0 : (t664 != t656) = true := c21
      (try (have c21b1 : decide (t664 = t656) = false := by simpa using c21))
      (try (have c21b2 : (t664 == t656) = false := by simpa using c21))
      (try (have c21b3 : ¬ (t664 = t656) := by simpa using c21))
      clear c21
      have H' := Aside0.mk H
      clear H
      obtain ⟨Ao22, co22, eo22⟩ := Kd.R_slice HO658.out
      subst eo22
      obtain ⟨Ao23, co23, eo23⟩ := Kd.R_slice HO662.out
      subst eo23
      go_wp2_with (first | (go_at_call 47; (with_reducible refine (laws_zSame.calls k _ _ t655 _ _ t659 true _ ?side1 ?side2 ?side3 ?side4 A19.out).mono ?_); (case side1 => repeat (first | exact (Kd.R_reads' HO658.out).2.2 | (with_reducible refine Kd.C_alloc ?_ _) | (with_reducible refine Kd.C_drewN ?_ _) | (with_reducible refine Kd.C_drew ?_))); (case side2 => exact (Kd.R_reads' HO658.out).2.1); (case side3 => repeat (first | exact (Kd.R_reads' HO662.out).2.2 | (with_reducible refine Kd.C_alloc ?_ _) | (with_reducible refine Kd.C_drewN ?_ _) | (with_reducible refine Kd.C_drew ?_))); (case side4 => exact (Kd.R_reads' HO662.out).2.1); rintro e w' ⟨rfl, ⟨nd, rfl⟩⟩; (try first | exact ⟨rfl, _, World.drewN_drewN _ _ _⟩ | exact ⟨rfl, _, Eq.trans (World.drewN_drewN _ _ _) (congrArg (World.drewN _) (Nat.add_assoc _ _ _))⟩)))
      repeat (go_quiet (first | (go_at_call 47; (with_reducible refine (laws_zSame.calls k _ _ t655 _ _ t659 true _ ?side1 ?side2 ?side3 ?side4 A19.out).mono ?_); (case side1 => repeat (first | exact (Kd.R_reads' HO658.out).2.2 | (with_reducible refine Kd.C_alloc ?_ _) | (with_reducible refine Kd.C_drewN ?_ _) | (with_reducible refine Kd.C_drew ?_))); (case side2 => exact (Kd.R_reads' HO658.out).2.1); (case side3 => repeat (first | exact (Kd.R_reads' HO662.out).2.2 | (with_reducible refine Kd.C_alloc ?_ _) | (with_reducible refine Kd.C_drewN ?_ _) | (with_reducible refine Kd.C_drew ?_))); (case side4 => exact (Kd.R_reads' HO662.out).2.1); rintro e w' ⟨rfl, ⟨nd, rfl⟩⟩; (try first | exact ⟨rfl, _, World.drewN_drewN _ _ _⟩ | exact ⟨rfl, _, Eq.trans (World.drewN_drewN _ _ _) (congrArg (World.drewN _) (Nat.add_assoc _ _ _))⟩))); try go_wp2_with (first | (go_at_call 47; (with_reducible refine (laws_zSame.calls k _ _ t655 _ _ t659 true _ ?side1 ?side2 ?side3 ?side4 A19.out).mono ?_); (case side1 => repeat (first | exact (Kd.R_reads' HO658.out).2.2 | (with_reducible refine Kd.C_alloc ?_ _) | (with_reducible refine Kd.C_drewN ?_ _) | (with_reducible refine Kd.C_drew ?_))); (case side2 => exact (Kd.R_reads' HO658.out).2.1); (case side3 => repeat (first | exact (Kd.R_reads' HO662.out).2.2 | (with_reducible refine Kd.C_alloc ?_ _) | (with_reducible refine Kd.C_drewN ?_ _) | (with_reducible refine Kd.C_drew ?_))); (case side4 => exact (Kd.R_reads' HO662.out).2.1); rintro e w' ⟨rfl, ⟨nd, rfl⟩⟩; (try first | exact ⟨rfl, _, World.drewN_drewN _ _ _⟩ | exact ⟨rfl, _, Eq.trans (World.drewN_drewN _ _ _) (congrArg (World.drewN _) (Nat.add_assoc _ _ _))⟩))))
      go_meet
      case rel => exact ⟨_, (true), (by first | rfl | (simp; done) | (simp [*]; done)), H', ⟨by first | omega | exact Nat.le_refl _⟩, ⟨by (with_reducible repeat (first | apply Kd.R_alloc | apply Kd.R_drewN | apply Kd.R_drew)); exact Kd.R_mono HO654.out (fun _ hk => hk.1.2)⟩, ⟨by (with_reducible repeat (first | apply Kd.R_alloc | apply Kd.R_drewN | apply Kd.R_drew)); exact Kd.R_mono HO658.out (fun _ hk => hk.1.2)⟩, ⟨by repeat (first | (with_reducible first | exact HB.out | apply below_alloc | apply pw_below_drewN | apply below_drew1) | exact HB.out)⟩⟩
     ·as_aux_lemma =>
      rw [if_neg c21] at H
      have c21b0 : (t664 != t656) = false := by simpa using c21
      (try (have c21b1 : decide (t664 = t656) = true := by simpa using c21))
      (try (have c21b2 : (t664 == t656) = true := by simpa using c21))
      clear c21
      replace H := Option.bind_eq_some_iff.mp H
      obtain ⟨t670, A240, H⟩ := H
      replace H : (if t663 = t670 then (if (t666 != t668) = true then (laws_FnElectionsEnd.j0 k l1 t652 t655 t656 t663 t665 true) else (if t665 = t667 then (if (t666 != t656) = true then (laws_FnElectionsEnd.j0 k l1 t652 t655 t656 t663 t665 true) else ((impl_AreNames.f k t652).bind fun t671 => (if (t656 != t671) = true then (laws_FnElectionsEnd.j0 k l1 t652 t655 t656 t663 t665 true) else ((spec_AreNames.f k t652).bind fun t672 => (laws_FnElectionsEnd.j0 k l1 t652 t655 t656 t663 t665 (t656 != t672)))))) else (laws_FnElectionsEnd.j0 k l1 t652 t655 t656 t663 t665 true))) else (laws_FnElectionsEnd.j0 k l1 t652 t655 t656 t663 t665 true)) = some r := H
      have A24 := Aside0.mk A240
      clear A240
      by_cases c25 : t663 = t670
      ·as_aux_lemma =>
       rw [if_pos c25] at H
       have c25b0 : (t663 == t670) = true := beq_iff_eq.mpr c25
       have c25b1 : (t663 != t670) = false := bne_eq_false_iff_eq.mpr c25
       clear c25
       by_cases c26 : (t666 != t668) = true
       ·as_aux_lemma =>
        rw [if_pos c26] at H
        have c26b0 : (t666 != t668) = true := c26
        (try (have c26b1 : decide (t666 = t668) = false := by simpa using c26))
        (try (have c26b2 : (t666 == t668) = false := by simpa using c26))
        (try (have c26b3 : ¬ (t666 = t668) := by simpa using c26))
        clear c26
        have H' := Aside0.mk H
        clear H
        obtain ⟨Ao27, co27, eo27⟩ := Kd.R_slice HO658.out
        subst eo27
        obtain ⟨Ao28, co28, eo28⟩ := Kd.R_slice HO662.out
        subst eo28
        go_wp2_with (first | (go_at_call 47; (with_reducible refine (laws_zSame.calls k _ _ t655 _ _ t659 true _ ?side1 ?side2 ?side3 ?side4 A19.out).mono ?_); (case side1 => repeat (first | exact (Kd.R_reads' HO658.out).2.2 | (with_reducible refine Kd.C_alloc ?_ _) | (with_reducible refine Kd.C_drewN ?_ _) | (with_reducible refine Kd.C_drew ?_))); (case side2 => exact (Kd.R_reads' HO658.out).2.1); (case side3 => repeat (first | exact (Kd.R_reads' HO662.out).2.2 | (with_reducible refine Kd.C_alloc ?_ _) | (with_reducible refine Kd.C_drewN ?_ _) | (with_reducible refine Kd.C_drew ?_))); (case side4 => exact (Kd.R_reads' HO662.out).2.1); rintro e w' ⟨rfl, ⟨nd, rfl⟩⟩; (try first | exact ⟨rfl, _, World.drewN_drewN _ _ _⟩ | exact ⟨rfl, _, Eq.trans (World.drewN_drewN _ _ _) (congrArg (World.drewN _) (Nat.add_assoc _ _ _))⟩)) | (go_at_call 48; (with_reducible refine (laws_zSum.calls k _ _ t655 t670 _ ?side1 ?side2 A24.out).mono ?_); (case side1 => repeat (first | exact (Kd.R_reads' HO658.out).2.2 | (with_reducible refine Kd.C_alloc ?_ _) | (with_reducible refine Kd.C_drewN ?_ _) | (with_reducible refine Kd.C_drew ?_))); (case side2 => exact (Kd.R_reads' HO658.out).2.1); rintro e w' ⟨rfl, ⟨nd, rfl⟩⟩; (try first | exact ⟨rfl, _, World.drewN_drewN _ _ _⟩ | exact ⟨rfl, _, Eq.trans (World.drewN_drewN _ _ _) (congrArg (World.drewN _) (Nat.add_assoc _ _ _))⟩)))
        repeat (go_quiet (first | (go_at_call 47; (with_reducible refine (laws_zSame.calls k _ _ t655 _ _ t659 true _ ?side1 ?side2 ?side3 ?side4 A19.out).mono ?_); (case side1 => repeat (first | exact (Kd.R_reads' HO658.out).2.2 | (with_reducible refine Kd.C_alloc ?_ _) | (with_reducible refine Kd.C_drewN ?_ _) | (with_reducible refine Kd.C_drew ?_))); (case side2 => exact (Kd.R_reads' HO658.out).2.1); (case side3 => repeat (first | exact (Kd.R_reads' HO662.out).2.2 | (with_reducible refine Kd.C_alloc ?_ _) | (with_reducible refine Kd.C_drewN ?_ _) | (with_reducible refine Kd.C_drew ?_))); (case side4 => exact (Kd.R_reads' HO662.out).2.1); rintro e w' ⟨rfl, ⟨nd, rfl⟩⟩; (try first | exact ⟨rfl, _, World.drewN_drewN _ _ _⟩ | exact ⟨rfl, _, Eq.trans (World.drewN_drewN _ _ _) (congrArg (World.drewN _) (Nat.add_assoc _ _ _))⟩)) | (go_at_call 48; (with_reducible refine (laws_zSum.calls k _ _ t655 t670 _ ?side1 ?side2 A24.out).mono ?_); (case side1 => repeat (first | exact (Kd.R_reads' HO658.out).2.2 | (with_reducible refine Kd.C_alloc ?_ _) | (with_reducible refine Kd.C_drewN ?_ _) | (with_reducible refine Kd.C_drew ?_))); (case side2 => exact (Kd.R_reads' HO658.out).2.1); rintro e w' ⟨rfl, ⟨nd, rfl⟩⟩; (try first | exact ⟨rfl, _, World.drewN_drewN _ _ _⟩ | exact ⟨rfl, _, Eq.trans (World.drewN_drewN _ _ _) (congrArg (World.drewN _) (Nat.add_assoc _ _ _))⟩))); try go_wp2_with (first | (go_at_call 47; (with_reducible refine (laws_zSame.calls k _ _ t655 _ _ t659 true _ ?side1 ?side2 ?side3 ?side4 A19.out).mono ?_); (case side1 => repeat (first | exact (Kd.R_reads' HO658.out).2.2 | (with_reducible refine Kd.C_alloc ?_ _) | (with_reducible refine Kd.C_drewN ?_ _) | (with_reducible refine Kd.C_drew ?_))); (case side2 => exact (Kd.R_reads' HO658.out).2.1); (case side3 => repeat (first | exact (Kd.R_reads' HO662.out).2.2 | (with_reducible refine Kd.C_alloc ?_ _) | (with_reducible refine Kd.C_drewN ?_ _) | (with_reducible refine Kd.C_drew ?_))); (case side4 => exact (Kd.R_reads' HO662.out).2.1); rintro e w' ⟨rfl, ⟨nd, rfl⟩⟩; (try first | exact ⟨rfl, _, World.drewN_drewN _ _ _⟩ | exact ⟨rfl, _, Eq.trans (World.drewN_drewN _ _ _) (congrArg (World.drewN _) (Nat.add_assoc _ _ _))⟩)) | (go_at_call 48; (with_reducible refine (laws_zSum.calls k _ _ t655 t670 _ ?side1 ?side2 A24.out).mono ?_); (case side1 => repeat (first | exact (Kd.R_reads' HO658.out).2.2 | (with_reducible refine Kd.C_alloc ?_ _) | (with_reducible refine Kd.C_drewN ?_ _) | (with_reducible refine Kd.C_drew ?_))); (case side2 => exact (Kd.R_reads' HO658.out).2.1); rintro e w' ⟨rfl, ⟨nd, rfl⟩⟩; (try first | exact ⟨rfl, _, World.drewN_drewN _ _ _⟩ | exact ⟨rfl, _, Eq.trans (World.drewN_drewN _ _ _) (congrArg (World.drewN _) (Nat.add_assoc _ _ _))⟩))))
        go_meet
        case rel => exact ⟨_, (true), (by first | rfl | (simp; done) | (simp [*]; done)), H', ⟨by first | omega | exact Nat.le_refl _⟩, ⟨by (with_reducible repeat (first | apply Kd.R_alloc | apply Kd.R_drewN | apply Kd.R_drew)); exact Kd.R_mono HO654.out (fun _ hk => hk.1.2)⟩, ⟨by (with_reducible repeat (first | apply Kd.R_alloc | apply Kd.R_drewN | apply Kd.R_drew)); exact Kd.R_mono HO658.out (fun _ hk => hk.1.2)⟩, ⟨by repeat (first | (with_reducible first | exact HB.out | apply below_alloc | apply pw_below_drewN | apply below_drew1) | exact HB.out)⟩⟩
       ·as_aux_lemma =>
        rw [if_neg c26] at H
        have c26b0 : (t666 != t668) = false := by simpa using c26
        (try (have c26b1 : decide (t666 = t668) = true := by simpa using c26))
        (try (have c26b2 : (t666 == t668) = true := by simpa using c26))
        clear c26
        by_cases c29 : t665 = t667
        ·as_aux_lemma =>
         rw [if_pos c29] at H
         have c29b0 : (t665 == t667) = true := beq_iff_eq.mpr c29
         have c29b1 : (t665 != t667) = false := bne_eq_false_iff_eq.mpr c29
         clear c29
         by_cases c30 : (t666 != t656) = true
         ·as_aux_lemma =>
          rw [if_pos c30] at H
          have c30b0 : (t666 != t656) = true := c30
          (try (have c30b1 : decide (t666 = t656) = false := by simpa using c30))
          (try (have c30b2 : (t666 == t656) = false := by simpa using c30))
          (try (have c30b3 : ¬ (t666 = t656) := by simpa using c30))
          clear c30
          have H' := Aside0.mk H
          clear H
          obtain ⟨Ao31, co31, eo31⟩ := Kd.R_slice HO658.out
          subst eo31
          obtain ⟨Ao32, co32, eo32⟩ := Kd.R_slice HO662.out
          subst eo32
          go_wp2_with (first | (go_at_call 47; (with_reducible refine (laws_zSame.calls k _ _ t655 _ _ t659 true _ ?side1 ?side2 ?side3 ?side4 A19.out).mono ?_); (case side1 => repeat (first | exact (Kd.R_reads' HO658.out).2.2 | (with_reducible refine Kd.C_alloc ?_ _) | (with_reducible refine Kd.C_drewN ?_ _) | (with_reducible refine Kd.C_drew ?_))); (case side2 => exact (Kd.R_reads' HO658.out).2.1); (case side3 => repeat (first | exact (Kd.R_reads' HO662.out).2.2 | (with_reducible refine Kd.C_alloc ?_ _) | (with_reducible refine Kd.C_drewN ?_ _) | (with_reducible refine Kd.C_drew ?_))); (case side4 => exact (Kd.R_reads' HO662.out).2.1); rintro e w' ⟨rfl, ⟨nd, rfl⟩⟩; (try first | exact ⟨rfl, _, World.drewN_drewN _ _ _⟩ | exact ⟨rfl, _, Eq.trans (World.drewN_drewN _ _ _) (congrArg (World.drewN _) (Nat.add_assoc _ _ _))⟩)) | (go_at_call 48; (with_reducible refine (laws_zSum.calls k _ _ t655 t670 _ ?side1 ?side2 A24.out).mono ?_); (case side1 => repeat (first | exact (Kd.R_reads' HO658.out).2.2 | (with_reducible refine Kd.C_alloc ?_ _) | (with_reducible refine Kd.C_drewN ?_ _) | (with_reducible refine Kd.C_drew ?_))); (case side2 => exact (Kd.R_reads' HO658.out).2.1); rintro e w' ⟨rfl, ⟨nd, rfl⟩⟩; (try first | exact ⟨rfl, _, World.drewN_drewN _ _ _⟩ | exact ⟨rfl, _, Eq.trans (World.drewN_drewN _ _ _) (congrArg (World.drewN _) (Nat.add_assoc _ _ _))⟩)))
          repeat (go_quiet (first | (go_at_call 47; (with_reducible refine (laws_zSame.calls k _ _ t655 _ _ t659 true _ ?side1 ?side2 ?side3 ?side4 A19.out).mono ?_); (case side1 => repeat (first | exact (Kd.R_reads' HO658.out).2.2 | (with_reducible refine Kd.C_alloc ?_ _) | (with_reducible refine Kd.C_drewN ?_ _) | (with_reducible refine Kd.C_drew ?_))); (case side2 => exact (Kd.R_reads' HO658.out).2.1); (case side3 => repeat (first | exact (Kd.R_reads' HO662.out).2.2 | (with_reducible refine Kd.C_alloc ?_ _) | (with_reducible refine Kd.C_drewN ?_ _) | (with_reducible refine Kd.C_drew ?_))); (case side4 => exact (Kd.R_reads' HO662.out).2.1); rintro e w' ⟨rfl, ⟨nd, rfl⟩⟩; (try first | exact ⟨rfl, _, World.drewN_drewN _ _ _⟩ | exact ⟨rfl, _, Eq.trans (World.drewN_drewN _ _ _) (congrArg (World.drewN _) (Nat.add_assoc _ _ _))⟩)) | (go_at_call 48; (with_reducible refine (laws_zSum.calls k _ _ t655 t670 _ ?side1 ?side2 A24.out).mono ?_); (case side1 => repeat (first | exact (Kd.R_reads' HO658.out).2.2 | (with_reducible refine Kd.C_alloc ?_ _) | (with_reducible refine Kd.C_drewN ?_ _) | (with_reducible refine Kd.C_drew ?_))); (case side2 => exact (Kd.R_reads' HO658.out).2.1); rintro e w' ⟨rfl, ⟨nd, rfl⟩⟩; (try first | exact ⟨rfl, _, World.drewN_drewN _ _ _⟩ | exact ⟨rfl, _, Eq.trans (World.drewN_drewN _ _ _) (congrArg (World.drewN _) (Nat.add_assoc _ _ _))⟩))); try go_wp2_with (first | (go_at_call 47; (with_reducible refine (laws_zSame.calls k _ _ t655 _ _ t659 true _ ?side1 ?side2 ?side3 ?side4 A19.out).mono ?_); (case side1 => repeat (first | exact (Kd.R_reads' HO658.out).2.2 | (with_reducible refine Kd.C_alloc ?_ _) | (with_reducible refine Kd.C_drewN ?_ _) | (with_reducible refine Kd.C_drew ?_))); (case side2 => exact (Kd.R_reads' HO658.out).2.1); (case side3 => repeat (first | exact (Kd.R_reads' HO662.out).2.2 | (with_reducible refine Kd.C_alloc ?_ _) | (with_reducible refine Kd.C_drewN ?_ _) | (with_reducible refine Kd.C_drew ?_))); (case side4 => exact (Kd.R_reads' HO662.out).2.1); rintro e w' ⟨rfl, ⟨nd, rfl⟩⟩; (try first | exact ⟨rfl, _, World.drewN_drewN _ _ _⟩ | exact ⟨rfl, _, Eq.trans (World.drewN_drewN _ _ _) (congrArg (World.drewN _) (Nat.add_assoc _ _ _))⟩)) | (go_at_call 48; (with_reducible refine (laws_zSum.calls k _ _ t655 t670 _ ?side1 ?side2 A24.out).mono ?_); (case side1 => repeat (first | exact (Kd.R_reads' HO658.out).2.2 | (with_reducible refine Kd.C_alloc ?_ _) | (with_reducible refine Kd.C_drewN ?_ _) | (with_reducible refine Kd.C_drew ?_))); (case side2 => exact (Kd.R_reads' HO658.out).2.1); rintro e w' ⟨rfl, ⟨nd, rfl⟩⟩; (try first | exact ⟨rfl, _, World.drewN_drewN _ _ _⟩ | exact ⟨rfl, _, Eq.trans (World.drewN_drewN _ _ _) (congrArg (World.drewN _) (Nat.add_assoc _ _ _))⟩))))
          go_meet
          case rel => exact ⟨_, (true), (by first | rfl | (simp; done) | (simp [*]; done)), H', ⟨by first | omega | exact Nat.le_refl _⟩, ⟨by (with_reducible repeat (first | apply Kd.R_alloc | apply Kd.R_drewN | apply Kd.R_drew)); exact Kd.R_mono HO654.out (fun _ hk => hk.1.2)⟩, ⟨by (with_reducible repeat (first | apply Kd.R_alloc | apply Kd.R_drewN | apply Kd.R_drew)); exact Kd.R_mono HO658.out (fun _ hk => hk.1.2)⟩, ⟨by repeat (first | (with_reducible first | exact HB.out | apply below_alloc | apply pw_below_drewN | apply below_drew1) | exact HB.out)⟩⟩
         ·as_aux_lemma =>
          rw [if_neg c30] at H
          have c30b0 : (t666 != t656) = false := by simpa using c30
          (try (have c30b1 : decide (t666 = t656) = true := by simpa using c30))
          (try (have c30b2 : (t666 == t656) = true := by simpa using c30))
          clear c30
          replace H := Option.bind_eq_some_iff.mp H
          obtain ⟨t671, A330, H⟩ := H
          replace H : (if (t656 != t671) = true then (laws_FnElectionsEnd.j0 k l1 t652 t655 t656 t663 t665 true) else ((spec_AreNames.f k t652).bind fun t672 => (laws_FnElectionsEnd.j0 k l1 t652 t655 t656 t663 t665 (t656 != t672)))) = some r := H
          have A33 := Aside0.mk A330
          clear A330
          by_cases c34 : (t656 != t671) = true
          ·as_aux_lemma =>
           rw [if_pos c34] at H
           have c34b0 : (t656 != t671) = true := c34
           (try (have c34b1 : decide (t656 = t671) = false := by simpa using c34))
           (try (have c34b2 : (t656 == t671) = false := by simpa using c34))
           (try (have c34b3 : ¬ (t656 = t671) := by simpa using c34))
           clear c34
           have H' := Aside0.mk H
           clear H
           obtain ⟨Ao35, co35, eo35⟩ := Kd.R_slice HO658.out
           subst eo35
           obtain ⟨Ao36, co36, eo36⟩ := Kd.R_slice HO662.out
           subst eo36
           go_wp2_with (first | (go_at_call 47; (with_reducible refine (laws_zSame.calls k _ _ t655 _ _ t659 true _ ?side1 ?side2 ?side3 ?side4 A19.out).mono ?_); (case side1 => repeat (first | exact (Kd.R_reads' HO658.out).2.2 | (with_reducible refine Kd.C_alloc ?_ _) | (with_reducible refine Kd.C_drewN ?_ _) | (with_reducible refine Kd.C_drew ?_))); (case side2 => exact (Kd.R_reads' HO658.out).2.1); (case side3 => repeat (first | exact (Kd.R_reads' HO662.out).2.2 | (with_reducible refine Kd.C_alloc ?_ _) | (with_reducible refine Kd.C_drewN ?_ _) | (with_reducible refine Kd.C_drew ?_))); (case side4 => exact (Kd.R_reads' HO662.out).2.1); rintro e w' ⟨rfl, ⟨nd, rfl⟩⟩; (try first | exact ⟨rfl, _, World.drewN_drewN _ _ _⟩ | exact ⟨rfl, _, Eq.trans (World.drewN_drewN _ _ _) (congrArg (World.drewN _) (Nat.add_assoc _ _ _))⟩)) | (go_at_call 48; (with_reducible refine (laws_zSum.calls k _ _ t655 t670 _ ?side1 ?side2 A24.out).mono ?_); (case side1 => repeat (first | exact (Kd.R_reads' HO658.out).2.2 | (with_reducible refine Kd.C_alloc ?_ _) | (with_reducible refine Kd.C_drewN ?_ _) | (with_reducible refine Kd.C_drew ?_))); (case side2 => exact (Kd.R_reads' HO658.out).2.1); rintro e w' ⟨rfl, ⟨nd, rfl⟩⟩; (try first | exact ⟨rfl, _, World.drewN_drewN _ _ _⟩ | exact ⟨rfl, _, Eq.trans (World.drewN_drewN _ _ _) (congrArg (World.drewN _) (Nat.add_assoc _ _ _))⟩)) | (go_at_call 19; (with_reducible refine (impl_AreNames.calls k _ _ t652 t671 _ ?side1 ?side2 A33.out).mono ?_); (case side1 => repeat (first | exact (Kd.R_reads' HO654.out).2.2 | (with_reducible refine Kd.C_alloc ?_ _) | (with_reducible refine Kd.C_drewN ?_ _) | (with_reducible refine Kd.C_drew ?_))); (case side2 => exact (Kd.R_reads' HO654.out).2.1); rintro e w37 ⟨rfl, hb⟩; have n0_ := Aside0.mk (Kd.R_below (by (with_reducible repeat (first | apply Kd.R_alloc | apply Kd.R_drewN | apply Kd.R_drew)); exact HO654.out) hb); have n1_ := Aside0.mk (Kd.R_below (by (with_reducible repeat (first | apply Kd.R_alloc | apply Kd.R_drewN | apply Kd.R_drew)); exact HO658.out) hb); have n2_ := Aside0.mk (Kd.R_below (by (with_reducible repeat (first | apply Kd.R_alloc | apply Kd.R_drewN | apply Kd.R_drew)); exact HO662.out) hb); have n3_ := Aside0.mk (below_step (by repeat (first | (with_reducible first | exact HB.out | apply below_alloc | apply pw_below_drewN | apply below_drew1) | exact HB.out)) hb); clear HO654; clear HO658; clear HO662; clear HB; have HO654 := n0_; have HO658 := n1_; have HO662 := n2_; have HB := n3_; clear n0_ n1_ n2_ n3_; (try clear hb); (try clear hb2); (try clear hk); (try clear hi)))
           repeat (go_quiet (first | (go_at_call 47; (with_reducible refine (laws_zSame.calls k _ _ t655 _ _ t659 true _ ?side1 ?side2 ?side3 ?side4 A19.out).mono ?_); (case side1 => repeat (first | exact (Kd.R_reads' HO658.out).2.2 | (with_reducible refine Kd.C_alloc ?_ _) | (with_reducible refine Kd.C_drewN ?_ _) | (with_reducible refine Kd.C_drew ?_))); (case side2 => exact (Kd.R_reads' HO658.out).2.1); (case side3 => repeat (first | exact (Kd.R_reads' HO662.out).2.2 | (with_reducible refine Kd.C_alloc ?_ _) | (with_reducible refine Kd.C_drewN ?_ _) | (with_reducible refine Kd.C_drew ?_))); (case side4 => exact (Kd.R_reads' HO662.out).2.1); rintro e w' ⟨rfl, ⟨nd, rfl⟩⟩; (try first | exact ⟨rfl, _, World.drewN_drewN _ _ _⟩ | exact ⟨rfl, _, Eq.trans (World.drewN_drewN _ _ _) (congrArg (World.drewN _) (Nat.add_assoc _ _ _))⟩)) | (go_at_call 48; (with_reducible refine (laws_zSum.calls k _ _ t655 t670 _ ?side1 ?side2 A24.out).mono ?_); (case side1 => repeat (first | exact (Kd.R_reads' HO658.out).2.2 | (with_reducible refine Kd.C_alloc ?_ _) | (with_reducible refine Kd.C_drewN ?_ _) | (with_reducible refine Kd.C_drew ?_))); (case side2 => exact (Kd.R_reads' HO658.out).2.1); rintro e w' ⟨rfl, ⟨nd, rfl⟩⟩; (try first | exact ⟨rfl, _, World.drewN_drewN _ _ _⟩ | exact ⟨rfl, _, Eq.trans (World.drewN_drewN _ _ _) (congrArg (World.drewN _) (Nat.add_assoc _ _ _))⟩)) | (go_at_call 19; (with_reducible refine (impl_AreNames.calls k _ _ t652 t671 _ ?side1 ?side2 A33.out).mono ?_); (case side1 => repeat (first | exact (Kd.R_reads' HO654.out).2.2 | (with_reducible refine Kd.C_alloc ?_ _) | (with_reducible refine Kd.C_drewN ?_ _) | (with_reducible refine Kd.C_drew ?_))); (case side2 => exact (Kd.R_reads' HO654.out).2.1); rintro e w37 ⟨rfl, hb⟩; have n0_ := Aside0.mk (Kd.R_below (by (with_reducible repeat (first | apply Kd.R_alloc | apply Kd.R_drewN | apply Kd.R_drew)); exact HO654.out) hb); have n1_ := Aside0.mk (Kd.R_below (by (with_reducible repeat (first | apply Kd.R_alloc | apply Kd.R_drewN | apply Kd.R_drew)); exact HO658.out) hb); have n2_ := Aside0.mk (Kd.R_below (by (with_reducible repeat (first | apply Kd.R_alloc | apply Kd.R_drewN | apply Kd.R_drew)); exact HO662.out) hb); have n3_ := Aside0.mk (below_step (by repeat (first | (with_reducible first | exact HB.out | apply below_alloc | apply pw_below_drewN | apply below_drew1) | exact HB.out)) hb); clear HO654; clear HO658; clear HO662; clear HB; have HO654 := n0_; have HO658 := n1_; have HO662 := n2_; have HB := n3_; clear n0_ n1_ n2_ n3_; (try clear hb); (try clear hb2); (try clear hk); (try clear hi))); try go_wp2_with (first | (go_at_call 47; (with_reducible refine (laws_zSame.calls k _ _ t655 _ _ t659 true _ ?side1 ?side2 ?side3 ?side4 A19.out).mono ?_); (case side1 => repeat (first | exact (Kd.R_reads' HO658.out).2.2 | (with_reducible refine Kd.C_alloc ?_ _) | (with_reducible refine Kd.C_drewN ?_ _) | (with_reducible refine Kd.C_drew ?_))); (case side2 => exact (Kd.R_reads' HO658.out).2.1); (case side3 => repeat (first | exact (Kd.R_reads' HO662.out).2.2 | (with_reducible refine Kd.C_alloc ?_ _) | (with_reducible refine Kd.C_drewN ?_ _) | (with_reducible refine Kd.C_drew ?_))); (case side4 => exact (Kd.R_reads' HO662.out).2.1); rintro e w' ⟨rfl, ⟨nd, rfl⟩⟩; (try first | exact ⟨rfl, _, World.drewN_drewN _ _ _⟩ | exact ⟨rfl, _, Eq.trans (World.drewN_drewN _ _ _) (congrArg (World.drewN _) (Nat.add_assoc _ _ _))⟩)) | (go_at_call 48; (with_reducible refine (laws_zSum.calls k _ _ t655 t670 _ ?side1 ?side2 A24.out).mono ?_); (case side1 => repeat (first | exact (Kd.R_reads' HO658.out).2.2 | (with_reducible refine Kd.C_alloc ?_ _) | (with_reducible refine Kd.C_drewN ?_ _) | (with_reducible refine Kd.C_drew ?_))); (case side2 => exact (Kd.R_reads' HO658.out).2.1); rintro e w' ⟨rfl, ⟨nd, rfl⟩⟩; (try first | exact ⟨rfl, _, World.drewN_drewN _ _ _⟩ | exact ⟨rfl, _, Eq.trans (World.drewN_drewN _ _ _) (congrArg (World.drewN _) (Nat.add_assoc _ _ _))⟩)) | (go_at_call 19; (with_reducible refine (impl_AreNames.calls k _ _ t652 t671 _ ?side1 ?side2 A33.out).mono ?_); (case side1 => repeat (first | exact (Kd.R_reads' HO654.out).2.2 | (with_reducible refine Kd.C_alloc ?_ _) | (with_reducible refine Kd.C_drewN ?_ _) | (with_reducible refine Kd.C_drew ?_))); (case side2 => exact (Kd.R_reads' HO654.out).2.1); rintro e w37 ⟨rfl, hb⟩; have n0_ := Aside0.mk (Kd.R_below (by (with_reducible repeat (first | apply Kd.R_alloc | apply Kd.R_drewN | apply Kd.R_drew)); exact HO654.out) hb); have n1_ := Aside0.mk (Kd.R_below (by (with_reducible repeat (first | apply Kd.R_alloc | apply Kd.R_drewN | apply Kd.R_drew)); exact HO658.out) hb); have n2_ := Aside0.mk (Kd.R_below (by (with_reducible repeat (first | apply Kd.R_alloc | apply Kd.R_drewN | apply Kd.R_drew)); exact HO662.out) hb); have n3_ := Aside0.mk (below_step (by repeat (first | (with_reducible first | exact HB.out | apply below_alloc | apply pw_below_drewN | apply below_drew1) | exact HB.out)) hb); clear HO654; clear HO658; clear HO662; clear HB; have HO654 := n0_; have HO658 := n1_; have HO662 := n2_; have HB := n3_; clear n0_ n1_ n2_ n3_; (try clear hb); (try clear hb2); (try clear hk); (try clear hi))))
           go_meet
           case rel => exact ⟨_, (true), (by first | rfl | (simp; done) | (simp [*]; done)), H', ⟨by first | omega | exact Nat.le_refl _⟩, ⟨by (with_reducible repeat (first | apply Kd.R_alloc | apply Kd.R_drewN | apply Kd.R_drew)); exact Kd.R_mono HO654.out (fun _ hk => hk.1.2)⟩, ⟨by (with_reducible repeat (first | apply Kd.R_alloc | apply Kd.R_drewN | apply Kd.R_drew)); exact Kd.R_mono HO658.out (fun _ hk => hk.1.2)⟩, ⟨by repeat (first | (with_reducible first | exact HB.out | apply below_alloc | apply pw_below_drewN | apply below_drew1) | exact HB.out)⟩⟩
          ·as_aux_lemma =>
           rw [if_neg c34] at H
           have c34b0 : (t656 != t671) = false := by simpa using c34
           (try (have c34b1 : decide (t656 = t671) = true := by simpa using c34))
           (try (have c34b2 : (t656 == t671) = true := by simpa using c34))
           clear c34
           replace H := Option.bind_eq_some_iff.mp H
           obtain ⟨t672, A380, H⟩ := H
           replace H : (laws_FnElectionsEnd.j0 k l1 t652 t655 t656 t663 t665 (t656 != t672)) = some r := H
           have A38 := Aside0.mk A380
           clear A380
           have H' := Aside0.mk H
           clear H
           obtain ⟨Ao39, co39, eo39⟩ := Kd.R_slice HO658.out
           subst eo39
           obtain ⟨Ao40, co40, eo40⟩ := Kd.R_slice HO662.out
           subst eo40
           go_wp2_with (first | (go_at_call 47; (with_reducible refine (laws_zSame.calls k _ _ t655 _ _ t659 true _ ?side1 ?side2 ?side3 ?side4 A19.out).mono ?_); (case side1 => repeat (first | exact (Kd.R_reads' HO658.out).2.2 | (with_reducible refine Kd.C_alloc ?_ _) | (with_reducible refine Kd.C_drewN ?_ _) | (with_reducible refine Kd.C_drew ?_))); (case side2 => exact (Kd.R_reads' HO658.out).2.1); (case side3 => repeat (first | exact (Kd.R_reads' HO662.out).2.2 | (with_reducible refine Kd.C_alloc ?_ _) | (with_reducible refine Kd.C_drewN ?_ _) | (with_reducible refine Kd.C_drew ?_))); (case side4 => exact (Kd.R_reads' HO662.out).2.1); rintro e w' ⟨rfl, ⟨nd, rfl⟩⟩; (try first | exact ⟨rfl, _, World.drewN_drewN _ _ _⟩ | exact ⟨rfl, _, Eq.trans (World.drewN_drewN _ _ _) (congrArg (World.drewN _) (Nat.add_assoc _ _ _))⟩)) | (go_at_call 48; (with_reducible refine (laws_zSum.calls k _ _ t655 t670 _ ?side1 ?side2 A24.out).mono ?_); (case side1 => repeat (first | exact (Kd.R_reads' HO658.out).2.2 | (with_reducible refine Kd.C_alloc ?_ _) | (with_reducible refine Kd.C_drewN ?_ _) | (with_reducible refine Kd.C_drew ?_))); (case side2 => exact (Kd.R_reads' HO658.out).2.1); rintro e w' ⟨rfl, ⟨nd, rfl⟩⟩; (try first | exact ⟨rfl, _, World.drewN_drewN _ _ _⟩ | exact ⟨rfl, _, Eq.trans (World.drewN_drewN _ _ _) (congrArg (World.drewN _) (Nat.add_assoc _ _ _))⟩)) | (go_at_call 19; (with_reducible refine (impl_AreNames.calls k _ _ t652 t671 _ ?side1 ?side2 A33.out).mono ?_); (case side1 => repeat (first | exact (Kd.R_reads' HO654.out).2.2 | (with_reducible refine Kd.C_alloc ?_ _) | (with_reducible refine Kd.C_drewN ?_ _) | (with_reducible refine Kd.C_drew ?_))); (case side2 => exact (Kd.R_reads' HO654.out).2.1); rintro e w41 ⟨rfl, hb⟩; have n0_ := Aside0.mk (Kd.R_below (by (with_reducible repeat (first | apply Kd.R_alloc | apply Kd.R_drewN | apply Kd.R_drew)); exact HO654.out) hb); have n1_ := Aside0.mk (Kd.R_below (by (with_reducible repeat (first | apply Kd.R_alloc | apply Kd.R_drewN | apply Kd.R_drew)); exact HO658.out) hb); have n2_ := Aside0.mk (Kd.R_below (by (with_reducible repeat (first | apply Kd.R_alloc | apply Kd.R_drewN | apply Kd.R_drew)); exact HO662.out) hb); have n3_ := Aside0.mk (below_step (by repeat (first | (with_reducible first | exact HB.out | apply below_alloc | apply pw_below_drewN | apply below_drew1) | exact HB.out)) hb); clear HO654; clear HO658; clear HO662; clear HB; have HO654 := n0_; have HO658 := n1_; have HO662 := n2_; have HB := n3_; clear n0_ n1_ n2_ n3_; (try clear hb); (try clear hb2); (try clear hk); (try clear hi)) | (go_at_call 17; (with_reducible refine (spec_AreNames.calls k _ _ t652 t672 _ ?side1 ?side2 A38.out).mono ?_); (case side1 => repeat (first | exact (Kd.R_reads' HO654.out).2.2 | (with_reducible refine Kd.C_alloc ?_ _) | (with_reducible refine Kd.C_drewN ?_ _) | (with_reducible refine Kd.C_drew ?_))); (case side2 => exact (Kd.R_reads' HO654.out).2.1); rintro e w' ⟨rfl, ⟨nd, rfl⟩⟩; (try first | exact ⟨rfl, _, World.drewN_drewN _ _ _⟩ | exact ⟨rfl, _, Eq.trans (World.drewN_drewN _ _ _) (congrArg (World.drewN _) (Nat.add_assoc _ _ _))⟩)))
           repeat (go_quiet (first | (go_at_call 47; (with_reducible refine (laws_zSame.calls k _ _ t655 _ _ t659 true _ ?side1 ?side2 ?side3 ?side4 A19.out).mono ?_); (case side1 => repeat (first | exact (Kd.R_reads' HO658.out).2.2 | (with_reducible refine Kd.C_alloc ?_ _) | (with_reducible refine Kd.C_drewN ?_ _) | (with_reducible refine Kd.C_drew ?_))); (case side2 => exact (Kd.R_reads' HO658.out).2.1); (case side3 => repeat (first | exact (Kd.R_reads' HO662.out).2.2 | (with_reducible refine Kd.C_alloc ?_ _) | (with_reducible refine Kd.C_drewN ?_ _) | (with_reducible refine Kd.C_drew ?_))); (case side4 => exact (Kd.R_reads' HO662.out).2.1); rintro e w' ⟨rfl, ⟨nd, rfl⟩⟩; (try first | exact ⟨rfl, _, World.drewN_drewN _ _ _⟩ | exact ⟨rfl, _, Eq.trans (World.drewN_drewN _ _ _) (congrArg (World.drewN _) (Nat.add_assoc _ _ _))⟩)) | (go_at_call 48; (with_reducible refine (laws_zSum.calls k _ _ t655 t670 _ ?side1 ?side2 A24.out).mono ?_); (case side1 => repeat (first | exact (Kd.R_reads' HO658.out).2.2 | (with_reducible refine Kd.C_alloc ?_ _) | (with_reducible refine Kd.C_drewN ?_ _) | (with_reducible refine Kd.C_drew ?_))); (case side2 => exact (Kd.R_reads' HO658.out).2.1); rintro e w' ⟨rfl, ⟨nd, rfl⟩⟩; (try first | exact ⟨rfl, _, World.drewN_drewN _ _ _⟩ | exact ⟨rfl, _, Eq.trans (World.drewN_drewN _ _ _) (congrArg (World.drewN _) (Nat.add_assoc _ _ _))⟩)) | (go_at_call 19; (with_reducible refine (impl_AreNames.calls k _ _ t652 t671 _ ?side1 ?side2 A33.out).mono ?_); (case side1 => repeat (first | exact (Kd.R_reads' HO654.out).2.2 | (with_reducible refine Kd.C_alloc ?_ _) | (with_reducible refine Kd.C_drewN ?_ _) | (with_reducible refine Kd.C_drew ?_))); (case side2 => exact (Kd.R_reads' HO654.out).2.1); rintro e w41 ⟨rfl, hb⟩; have n0_ := Aside0.mk (Kd.R_below (by (with_reducible repeat (first | apply Kd.R_alloc | apply Kd.R_drewN | apply Kd.R_drew)); exact HO654.out) hb); have n1_ := Aside0.mk (Kd.R_below (by (with_reducible repeat (first | apply Kd.R_alloc | apply Kd.R_drewN | apply Kd.R_drew)); exact HO658.out) hb); have n2_ := Aside0.mk (Kd.R_below (by (with_reducible repeat (first | apply Kd.R_alloc | apply Kd.R_drewN | apply Kd.R_drew)); exact HO662.out) hb); have n3_ := Aside0.mk (below_step (by repeat (first | (with_reducible first | exact HB.out | apply below_alloc | apply pw_below_drewN | apply below_drew1) | exact HB.out)) hb); clear HO654; clear HO658; clear HO662; clear HB; have HO654 := n0_; have HO658 := n1_; have HO662 := n2_; have HB := n3_; clear n0_ n1_ n2_ n3_; (try clear hb); (try clear hb2); (try clear hk); (try clear hi)) | (go_at_call 17; (with_reducible refine (spec_AreNames.calls k _ _ t652 t672 _ ?side1 ?side2 A38.out).mono ?_); (case side1 => repeat (first | exact (Kd.R_reads' HO654.out).2.2 | (with_reducible refine Kd.C_alloc ?_ _) | (with_reducible refine Kd.C_drewN ?_ _) | (with_reducible refine Kd.C_drew ?_))); (case side2 => exact (Kd.R_reads' HO654.out).2.1); rintro e w' ⟨rfl, ⟨nd, rfl⟩⟩; (try first | exact ⟨rfl, _, World.drewN_drewN _ _ _⟩ | exact ⟨rfl, _, Eq.trans (World.drewN_drewN _ _ _) (congrArg (World.drewN _) (Nat.add_assoc _ _ _))⟩))); try go_wp2_with (first | (go_at_call 47; (with_reducible refine (laws_zSame.calls k _ _ t655 _ _ t659 true _ ?side1 ?side2 ?side3 ?side4 A19.out).mono ?_); (case side1 => repeat (first | exact (Kd.R_reads' HO658.out).2.2 | (with_reducible refine Kd.C_alloc ?_ _) | (with_reducible refine Kd.C_drewN ?_ _) | (with_reducible refine Kd.C_drew ?_))); (case side2 => exact (Kd.R_reads' HO658.out).2.1); (case side3 => repeat (first | exact (Kd.R_reads' HO662.out).2.2 | (with_reducible refine Kd.C_alloc ?_ _) | (with_reducible refine Kd.C_drewN ?_ _) | (with_reducible refine Kd.C_drew ?_))); (case side4 => exact (Kd.R_reads' HO662.out).2.1); rintro e w' ⟨rfl, ⟨nd, rfl⟩⟩; (try first | exact ⟨rfl, _, World.drewN_drewN _ _ _⟩ | exact ⟨rfl, _, Eq.trans (World.drewN_drewN _ _ _) (congrArg (World.drewN _) (Nat.add_assoc _ _ _))⟩)) | (go_at_call 48; (with_reducible refine (laws_zSum.calls k _ _ t655 t670 _ ?side1 ?side2 A24.out).mono ?_); (case side1 => repeat (first | exact (Kd.R_reads' HO658.out).2.2 | (with_reducible refine Kd.C_alloc ?_ _) | (with_reducible refine Kd.C_drewN ?_ _) | (with_reducible refine Kd.C_drew ?_))); (case side2 => exact (Kd.R_reads' HO658.out).2.1); rintro e w' ⟨rfl, ⟨nd, rfl⟩⟩; (try first | exact ⟨rfl, _, World.drewN_drewN _ _ _⟩ | exact ⟨rfl, _, Eq.trans (World.drewN_drewN _ _ _) (congrArg (World.drewN _) (Nat.add_assoc _ _ _))⟩)) | (go_at_call 19; (with_reducible refine (impl_AreNames.calls k _ _ t652 t671 _ ?side1 ?side2 A33.out).mono ?_); (case side1 => repeat (first | exact (Kd.R_reads' HO654.out).2.2 | (with_reducible refine Kd.C_alloc ?_ _) | (with_reducible refine Kd.C_drewN ?_ _) | (with_reducible refine Kd.C_drew ?_))); (case side2 => exact (Kd.R_reads' HO654.out).2.1); rintro e w41 ⟨rfl, hb⟩; have n0_ := Aside0.mk (Kd.R_below (by (with_reducible repeat (first | apply Kd.R_alloc | apply Kd.R_drewN | apply Kd.R_drew)); exact HO654.out) hb); have n1_ := Aside0.mk (Kd.R_below (by (with_reducible repeat (first | apply Kd.R_alloc | apply Kd.R_drewN | apply Kd.R_drew)); exact HO658.out) hb); have n2_ := Aside0.mk (Kd.R_below (by (with_reducible repeat (first | apply Kd.R_alloc | apply Kd.R_drewN | apply Kd.R_drew)); exact HO662.out) hb); have n3_ := Aside0.mk (below_step (by repeat (first | (with_reducible first | exact HB.out | apply below_alloc | apply pw_below_drewN | apply below_drew1) | exact HB.out)) hb); clear HO654; clear HO658; clear HO662; clear HB; have HO654 := n0_; have HO658 := n1_; have HO662 := n2_; have HB := n3_; clear n0_ n1_ n2_ n3_; (try clear hb); (try clear hb2); (try clear hk); (try clear hi)) | (go_at_call 17; (with_reducible refine (spec_AreNames.calls k _ _ t652 t672 _ ?side1 ?side2 A38.out).mono ?_); (case side1 => repeat (first | exact (Kd.R_reads' HO654.out).2.2 | (with_reducible refine Kd.C_alloc ?_ _) | (with_reducible refine Kd.C_drewN ?_ _) | (with_reducible refine Kd.C_drew ?_))); (case side2 => exact (Kd.R_reads' HO654.out).2.1); rintro e w' ⟨rfl, ⟨nd, rfl⟩⟩; (try first | exact ⟨rfl, _, World.drewN_drewN _ _ _⟩ | exact ⟨rfl, _, Eq.trans (World.drewN_drewN _ _ _) (congrArg (World.drewN _) (Nat.add_assoc _ _ _))⟩))))
           go_meet
           case rel => exact ⟨_, ((t656 != t672)), (by first | rfl | (simp; done) | (simp [*]; done)), H', ⟨by first | omega | exact Nat.le_refl _⟩, ⟨by (with_reducible repeat (first | apply Kd.R_alloc | apply Kd.R_drewN | apply Kd.R_drew)); exact Kd.R_mono HO654.out (fun _ hk => hk.1.2)⟩, ⟨by (with_reducible repeat (first | apply Kd.R_alloc | apply Kd.R_drewN | apply Kd.R_drew)); exact Kd.R_mono HO658.out (fun _ hk => hk.1.2)⟩, ⟨by repeat (first | (with_reducible first | exact HB.out | apply below_alloc | apply pw_below_drewN | apply below_drew1) | exact HB.out)⟩⟩
        ·as_aux_lemma =>
         rw [if_neg c29] at H
         have c29b0 : (t665 == t667) = false := beq_eq_false_iff_ne.mpr c29
         have c29b1 : (t665 != t667) = true := bne_iff_ne.mpr c29
         have H' := Aside0.mk H
         clear H
         obtain ⟨Ao42, co42, eo42⟩ := Kd.R_slice HO658.out
         subst eo42
         obtain ⟨Ao43, co43, eo43⟩ := Kd.R_slice HO662.out
         subst eo43
         go_wp2_with (first | (go_at_call 47; (with_reducible refine (laws_zSame.calls k _ _ t655 _ _ t659 true _ ?side1 ?side2 ?side3 ?side4 A19.out).mono ?_); (case side1 => repeat (first | exact (Kd.R_reads' HO658.out).2.2 | (with_reducible refine Kd.C_alloc ?_ _) | (with_reducible refine Kd.C_drewN ?_ _) | (with_reducible refine Kd.C_drew ?_))); (case side2 => exact (Kd.R_reads' HO658.out).2.1); (case side3 => repeat (first | exact (Kd.R_reads' HO662.out).2.2 | (with_reducible refine Kd.C_alloc ?_ _) | (with_reducible refine Kd.C_drewN ?_ _) | (with_reducible refine Kd.C_drew ?_))); (case side4 => exact (Kd.R_reads' HO662.out).2.1); rintro e w' ⟨rfl, ⟨nd, rfl⟩⟩; (try first | exact ⟨rfl, _, World.drewN_drewN _ _ _⟩ | exact ⟨rfl, _, Eq.trans (World.drewN_drewN _ _ _) (congrArg (World.drewN _) (Nat.add_assoc _ _ _))⟩)) | (go_at_call 48; (with_reducible refine (laws_zSum.calls k _ _ t655 t670 _ ?side1 ?side2 A24.out).mono ?_); (case side1 => repeat (first | exact (Kd.R_reads' HO658.out).2.2 | (with_reducible refine Kd.C_alloc ?_ _) | (with_reducible refine Kd.C_drewN ?_ _) | (with_reducible refine Kd.C_drew ?_))); (case side2 => exact (Kd.R_reads' HO658.out).2.1); rintro e w' ⟨rfl, ⟨nd, rfl⟩⟩; (try first | exact ⟨rfl, _, World.drewN_drewN _ _ _⟩ | exact ⟨rfl, _, Eq.trans (World.drewN_drewN _ _ _) (congrArg (World.drewN _) (Nat.add_assoc _ _ _))⟩)))
         repeat (go_quiet (first | (go_at_call 47; (with_reducible refine (laws_zSame.calls k _ _ t655 _ _ t659 true _ ?side1 ?side2 ?side3 ?side4 A19.out).mono ?_); (case side1 => repeat (first | exact (Kd.R_reads' HO658.out).2.2 | (with_reducible refine Kd.C_alloc ?_ _) | (with_reducible refine Kd.C_drewN ?_ _) | (with_reducible refine Kd.C_drew ?_))); (case side2 => exact (Kd.R_reads' HO658.out).2.1); (case side3 => repeat (first | exact (Kd.R_reads' HO662.out).2.2 | (with_reducible refine Kd.C_alloc ?_ _) | (with_reducible refine Kd.C_drewN ?_ _) | (with_reducible refine Kd.C_drew ?_))); (case side4 => exact (Kd.R_reads' HO662.out).2.1); rintro e w' ⟨rfl, ⟨nd, rfl⟩⟩; (try first | exact ⟨rfl, _, World.drewN_drewN _ _ _⟩ | exact ⟨rfl, _, Eq.trans (World.drewN_drewN _ _ _) (congrArg (World.drewN _) (Nat.add_assoc _ _ _))⟩)) | (go_at_call 48; (with_reducible refine (laws_zSum.calls k _ _ t655 t670 _ ?side1 ?side2 A24.out).mono ?_); (case side1 => repeat (first | exact (Kd.R_reads' HO658.out).2.2 | (with_reducible refine Kd.C_alloc ?_ _) | (with_reducible refine Kd.C_drewN ?_ _) | (with_reducible refine Kd.C_drew ?_))); (case side2 => exact (Kd.R_reads' HO658.out).2.1); rintro e w' ⟨rfl, ⟨nd, rfl⟩⟩; (try first | exact ⟨rfl, _, World.drewN_drewN _ _ _⟩ | exact ⟨rfl, _, Eq.trans (World.drewN_drewN _ _ _) (congrArg (World.drewN _) (Nat.add_assoc _ _ _))⟩))); try go_wp2_with (first | (go_at_call 47; (with_reducible refine (laws_zSame.calls k _ _ t655 _ _ t659 true _ ?side1 ?side2 ?side3 ?side4 A19.out).mono ?_); (case side1 => repeat (first | exact (Kd.R_reads' HO658.out).2.2 | (with_reducible refine Kd.C_alloc ?_ _) | (with_reducible refine Kd.C_drewN ?_ _) | (with_reducible refine Kd.C_drew ?_))); (case side2 => exact (Kd.R_reads' HO658.out).2.1); (case side3 => repeat (first | exact (Kd.R_reads' HO662.out).2.2 | (with_reducible refine Kd.C_alloc ?_ _) | (with_reducible refine Kd.C_drewN ?_ _) | (with_reducible refine Kd.C_drew ?_))); (case side4 => exact (Kd.R_reads' HO662.out).2.1); rintro e w' ⟨rfl, ⟨nd, rfl⟩⟩; (try first | exact ⟨rfl, _, World.drewN_drewN _ _ _⟩ | exact ⟨rfl, _, Eq.trans (World.drewN_drewN _ _ _) (congrArg (World.drewN _) (Nat.add_assoc _ _ _))⟩)) | (go_at_call 48; (with_reducible refine (laws_zSum.calls k _ _ t655 t670 _ ?side1 ?side2 A24.out).mono ?_); (case side1 => repeat (first | exact (Kd.R_reads' HO658.out).2.2 | (with_reducible refine Kd.C_alloc ?_ _) | (with_reducible refine Kd.C_drewN ?_ _) | (with_reducible refine Kd.C_drew ?_))); (case side2 => exact (Kd.R_reads' HO658.out).2.1); rintro e w' ⟨rfl, ⟨nd, rfl⟩⟩; (try first | exact ⟨rfl, _, World.drewN_drewN _ _ _⟩ | exact ⟨rfl, _, Eq.trans (World.drewN_drewN _ _ _) (congrArg (World.drewN _) (Nat.add_assoc _ _ _))⟩))))
         go_meet
         case rel => exact ⟨_, (true), (by first | rfl | (simp; done) | (simp [*]; done)), H', ⟨by first | omega | exact Nat.le_refl _⟩, ⟨by (with_reducible repeat (first | apply Kd.R_alloc | apply Kd.R_drewN | apply Kd.R_drew)); exact Kd.R_mono HO654.out (fun _ hk => hk.1.2)⟩, ⟨by (with_reducible repeat (first | apply Kd.R_alloc | apply Kd.R_drewN | apply Kd.R_drew)); exact Kd.R_mono HO658.out (fun _ hk => hk.1.2)⟩, ⟨by repeat (first | (with_reducible first | exact HB.out | apply below_alloc | apply pw_below_drewN | apply below_drew1) | exact HB.out)⟩⟩
      ·as_aux_lemma =>
       rw [if_neg c25] at H
       have c25b0 : (t663 == t670) = false := beq_eq_false_iff_ne.mpr c25
       have c25b1 : (t663 != t670) = true := bne_iff_ne.mpr c25
       have H' := Aside0.mk H
       clear H
       obtain ⟨Ao44, co44, eo44⟩ := Kd.R_slice HO658.out
       subst eo44
       obtain ⟨Ao45, co45, eo45⟩ := Kd.R_slice HO662.out
       subst eo45
       go_wp2_with (first | (go_at_call 47; (with_reducible refine (laws_zSame.calls k _ _ t655 _ _ t659 true _ ?side1 ?side2 ?side3 ?side4 A19.out).mono ?_); (case side1 => repeat (first | exact (Kd.R_reads' HO658.out).2.2 | (with_reducible refine Kd.C_alloc ?_ _) | (with_reducible refine Kd.C_drewN ?_ _) | (with_reducible refine Kd.C_drew ?_))); (case side2 => exact (Kd.R_reads' HO658.out).2.1); (case side3 => repeat (first | exact (Kd.R_reads' HO662.out).2.2 | (with_reducible refine Kd.C_alloc ?_ _) | (with_reducible refine Kd.C_drewN ?_ _) | (with_reducible refine Kd.C_drew ?_))); (case side4 => exact (Kd.R_reads' HO662.out).2.1); rintro e w' ⟨rfl, ⟨nd, rfl⟩⟩; (try first | exact ⟨rfl, _, World.drewN_drewN _ _ _⟩ | exact ⟨rfl, _, Eq.trans (World.drewN_drewN _ _ _) (congrArg (World.drewN _) (Nat.add_assoc _ _ _))⟩)) | (go_at_call 48; (with_reducible refine (laws_zSum.calls k _ _ t655 t670 _ ?side1 ?side2 A24.out).mono ?_); (case side1 => repeat (first | exact (Kd.R_reads' HO658.out).2.2 | (with_reducible refine Kd.C_alloc ?_ _) | (with_reducible refine Kd.C_drewN ?_ _) | (with_reducible refine Kd.C_drew ?_))); (case side2 => exact (Kd.R_reads' HO658.out).2.1); rintro e w' ⟨rfl, ⟨nd, rfl⟩⟩; (try first | exact ⟨rfl, _, World.drewN_drewN _ _ _⟩ | exact ⟨rfl, _, Eq.trans (World.drewN_drewN _ _ _) (congrArg (World.drewN _) (Nat.add_assoc _ _ _))⟩)))
       repeat (go_quiet (first | (go_at_call 47; (with_reducible refine (laws_zSame.calls k _ _ t655 _ _ t659 true _ ?side1 ?side2 ?side3 ?side4 A19.out).mono ?_); (case side1 => repeat (first | exact (Kd.R_reads' HO658.out).2.2 | (with_reducible refine Kd.C_alloc ?_ _) | (with_reducible refine Kd.C_drewN ?_ _) | (with_reducible refine Kd.C_drew ?_))); (case side2 => exact (Kd.R_reads' HO658.out).2.1); (case side3 => repeat (first | exact (Kd.R_reads' HO662.out).2.2 | (with_reducible refine Kd.C_alloc ?_ _) | (with_reducible refine Kd.C_drewN ?_ _) | (with_reducible refine Kd.C_drew ?_))); (case side4 => exact (Kd.R_reads' HO662.out).2.1); rintro e w' ⟨rfl, ⟨nd, rfl⟩⟩; (try first | exact ⟨rfl, _, World.drewN_drewN _ _ _⟩ | exact ⟨rfl, _, Eq.trans (World.drewN_drewN _ _ _) (congrArg (World.drewN _) (Nat.add_assoc _ _ _))⟩)) | (go_at_call 48; (with_reducible refine (laws_zSum.calls k _ _ t655 t670 _ ?side1 ?side2 A24.out).mono ?_); (case side1 => repeat (first | exact (Kd.R_reads' HO658.out).2.2 | (with_reducible refine Kd.C_alloc ?_ _) | (with_reducible refine Kd.C_drewN ?_ _) | (with_reducible refine Kd.C_drew ?_))); (case side2 => exact (Kd.R_reads' HO658.out).2.1); rintro e w' ⟨rfl, ⟨nd, rfl⟩⟩; (try first | exact ⟨rfl, _, World.drewN_drewN _ _ _⟩ | exact ⟨rfl, _, Eq.trans (World.drewN_drewN _ _ _) (congrArg (World.drewN _) (Nat.add_assoc _ _ _))⟩))); try go_wp2_with (first | (go_at_call 47; (with_reducible refine (laws_zSame.calls k _ _ t655 _ _ t659 true _ ?side1 ?side2 ?side3 ?side4 A19.out).mono ?_); (case side1 => repeat (first | exact (Kd.R_reads' HO658.out).2.2 | (with_reducible refine Kd.C_alloc ?_ _) | (with_reducible refine Kd.C_drewN ?_ _) | (with_reducible refine Kd.C_drew ?_))); (case side2 => exact (Kd.R_reads' HO658.out).2.1); (case side3 => repeat (first | exact (Kd.R_reads' HO662.out).2.2 | (with_reducible refine Kd.C_alloc ?_ _) | (with_reducible refine Kd.C_drewN ?_ _) | (with_reducible refine Kd.C_drew ?_))); (case side4 => exact (Kd.R_reads' HO662.out).2.1); rintro e w' ⟨rfl, ⟨nd, rfl⟩⟩; (try first | exact ⟨rfl, _, World.drewN_drewN _ _ _⟩ | exact ⟨rfl, _, Eq.trans (World.drewN_drewN _ _ _) (congrArg (World.drewN _) (Nat.add_assoc _ _ _))⟩)) | (go_at_call 48; (with_reducible refine (laws_zSum.calls k _ _ t655 t670 _ ?side1 ?side2 A24.out).mono ?_); (case side1 => repeat (first | exact (Kd.R_reads' HO658.out).2.2 | (with_reducible refine Kd.C_alloc ?_ _) | (with_reducible refine Kd.C_drewN ?_ _) | (with_reducible refine Kd.C_drew ?_))); (case side2 => exact (Kd.R_reads' HO658.out).2.1); rintro e w' ⟨rfl, ⟨nd, rfl⟩⟩; (try first | exact ⟨rfl, _, World.drewN_drewN _ _ _⟩ | exact ⟨rfl, _, Eq.trans (World.drewN_drewN _ _ _) (congrArg (World.drewN _) (Nat.add_assoc _ _ _))⟩))))
       go_meet
       case rel => exact ⟨_, (true), (by first | rfl | (simp; done) | (simp [*]; done)), H', ⟨by first | omega | exact Nat.le_refl _⟩, ⟨by (with_reducible repeat (first | apply Kd.R_alloc | apply Kd.R_drewN | apply Kd.R_drew)); exact Kd.R_mono HO654.out (fun _ hk => hk.1.2)⟩, ⟨by (with_reducible repeat (first | apply Kd.R_alloc | apply Kd.R_drewN | apply Kd.R_drew)); exact Kd.R_mono HO658.out (fun _ hk => hk.1.2)⟩, ⟨by repeat (first | (with_reducible first | exact HB.out | apply below_alloc | apply pw_below_drewN | apply below_drew1) | exact HB.out)⟩⟩
    ·as_aux_lemma =>
     replace c20 := Bool.eq_false_iff.mpr c20
     subst c20
     have H1 : (laws_FnElectionsEnd.j0 k l1 t652 t655 t656 t663 t665 true) = some r := by rw [if_neg (show ¬ (false = true) by decide)] at H; exact H
     clear H
     have H := H1
     clear H1
     have H' := Aside0.mk H
     clear H
     obtain ⟨Ao46, co46, eo46⟩ := Kd.R_slice HO658.out
     subst eo46
     obtain ⟨Ao47, co47, eo47⟩ := Kd.R_slice HO662.out
     subst eo47
     go_wp2_with (first | (go_at_call 47; (with_reducible refine (laws_zSame.calls k _ _ t655 _ _ t659 false _ ?side1 ?side2 ?side3 ?side4 A19.out).mono ?_); (case side1 => repeat (first | exact (Kd.R_reads' HO658.out).2.2 | (with_reducible refine Kd.C_alloc ?_ _) | (with_reducible refine Kd.C_drewN ?_ _) | (with_reducible refine Kd.C_drew ?_))); (case side2 => exact (Kd.R_reads' HO658.out).2.1); (case side3 => repeat (first | exact (Kd.R_reads' HO662.out).2.2 | (with_reducible refine Kd.C_alloc ?_ _) | (with_reducible refine Kd.C_drewN ?_ _) | (with_reducible refine Kd.C_drew ?_))); (case side4 => exact (Kd.R_reads' HO662.out).2.1); rintro e w' ⟨rfl, ⟨nd, rfl⟩⟩; (try first | exact ⟨rfl, _, World.drewN_drewN _ _ _⟩ | exact ⟨rfl, _, Eq.trans (World.drewN_drewN _ _ _) (congrArg (World.drewN _) (Nat.add_assoc _ _ _))⟩)))
     repeat (go_quiet (first | (go_at_call 47; (with_reducible refine (laws_zSame.calls k _ _ t655 _ _ t659 false _ ?side1 ?side2 ?side3 ?side4 A19.out).mono ?_); (case side1 => repeat (first | exact (Kd.R_reads' HO658.out).2.2 | (with_reducible refine Kd.C_alloc ?_ _) | (with_reducible refine Kd.C_drewN ?_ _) | (with_reducible refine Kd.C_drew ?_))); (case side2 => exact (Kd.R_reads' HO658.out).2.1); (case side3 => repeat (first | exact (Kd.R_reads' HO662.out).2.2 | (with_reducible refine Kd.C_alloc ?_ _) | (with_reducible refine Kd.C_drewN ?_ _) | (with_reducible refine Kd.C_drew ?_))); (case side4 => exact (Kd.R_reads' HO662.out).2.1); rintro e w' ⟨rfl, ⟨nd, rfl⟩⟩; (try first | exact ⟨rfl, _, World.drewN_drewN _ _ _⟩ | exact ⟨rfl, _, Eq.trans (World.drewN_drewN _ _ _) (congrArg (World.drewN _) (Nat.add_assoc _ _ _))⟩))); try go_wp2_with (first | (go_at_call 47; (with_reducible refine (laws_zSame.calls k _ _ t655 _ _ t659 false _ ?side1 ?side2 ?side3 ?side4 A19.out).mono ?_); (case side1 => repeat (first | exact (Kd.R_reads' HO658.out).2.2 | (with_reducible refine Kd.C_alloc ?_ _) | (with_reducible refine Kd.C_drewN ?_ _) | (with_reducible refine Kd.C_drew ?_))); (case side2 => exact (Kd.R_reads' HO658.out).2.1); (case side3 => repeat (first | exact (Kd.R_reads' HO662.out).2.2 | (with_reducible refine Kd.C_alloc ?_ _) | (with_reducible refine Kd.C_drewN ?_ _) | (with_reducible refine Kd.C_drew ?_))); (case side4 => exact (Kd.R_reads' HO662.out).2.1); rintro e w' ⟨rfl, ⟨nd, rfl⟩⟩; (try first | exact ⟨rfl, _, World.drewN_drewN _ _ _⟩ | exact ⟨rfl, _, Eq.trans (World.drewN_drewN _ _ _) (congrArg (World.drewN _) (Nat.add_assoc _ _ _))⟩))))
     go_meet
     case rel => exact ⟨_, (true), (by first | rfl | (simp; done) | (simp [*]; done)), H', ⟨by first | omega | exact Nat.le_refl _⟩, ⟨by (with_reducible repeat (first | apply Kd.R_alloc | apply Kd.R_drewN | apply Kd.R_drew)); exact Kd.R_mono HO654.out (fun _ hk => hk.1.2)⟩, ⟨by (with_reducible repeat (first | apply Kd.R_alloc | apply Kd.R_drewN | apply Kd.R_drew)); exact Kd.R_mono HO658.out (fun _ hk => hk.1.2)⟩, ⟨by repeat (first | (with_reducible first | exact HB.out | apply below_alloc | apply pw_below_drewN | apply below_drew1) | exact HB.out)⟩⟩
  case rest => as_aux_lemma =>
   clear HC11
   try clear c1
   try clear c2
   try clear p2
   try clear c3
   try clear c4
   try clear c14
   try clear c18
   try clear c18b0
   try clear c18b1
   try clear c18b2
   try clear c20
   try clear c21
   try clear c21b0
   try clear c21b1
   try clear c21b2
   try clear c25
   try clear c25b0
   try clear c25b1
   try clear c26
   try clear c26b0
   try clear c26b1
   try clear c26b2
   try clear c29
   try clear c29b0
   try clear c29b1
   try clear c30
   try clear c30b0
   try clear c30b1
   try clear c30b2
   try clear c34
   try clear c34b0
   try clear c34b1
   try clear c34b2
   obtain ⟨kq, x123_10, rfl, HA, HJ10, HO_5, HO_6, HB⟩ := hcut
   cases kq with
   | zero => exact absurd HA.out (by simp [laws_FnElectionsEnd.j0])
   | succ kj10 =>
    have H := HA.out
    clear HA
    simp only [laws_FnElectionsEnd.j0] at H
    by_cases c48 : x123_10 = true
    ·as_aux_lemma =>
     subst c48
     have H1 : (some false) = some r := by rw [if_pos rfl] at H; exact H
     clear H
     have H := H1
     clear H1
     obtain rfl := Option.some.inj H
     go_wp2
     repeat (go_quiet (fail); try go_wp2)
     go_ret
     exact ⟨by first | rfl | (simp [errW_none, errW_some] <;> rfl) | (simp [*, errW_none, errW_some] <;> rfl), by repeat (first | (with_reducible first | exact HB.out | apply below_alloc | apply pw_below_drewN | apply below_drew1) | exact HB.out)⟩
    ·as_aux_lemma =>
     replace c48 := Bool.eq_false_iff.mpr c48
     subst c48
     have H1 : (if t656 = true then (laws_FnElectionsEnd.l0 kj10 l1 t652 t663 t665 (t652.length : Int) t655 (t655.length : Int) 0) else (laws_FnElectionsEnd.j5 kj10 l1)) = some r := by rw [if_neg (show ¬ (false = true) by decide)] at H; exact H
     clear H
     have H := H1
     clear H1
     have HC49 := Aside0.mk H
     clear H
     go_upto_if 124 with (fail)
     repeat (go_quiet (fail); go_upto_if 124 with (fail))
     go_cut [] (fun wc => ∃ (kq : Nat), Aside0 (laws_FnElectionsEnd.j5 kq l1 = some r) ∧ Aside0 (kq ≤ kj10) ∧ Aside0 (Below w.heap.size w wc))
     case first => as_aux_lemma =>
      have H := HC49.out
      clear HC49
      by_cases c50 : t656 = true
      ·as_aux_lemma =>
       subst c50
       have H1 : (laws_FnElectionsEnd.l0 kj10 l1 t652 t663 t665 (t652.length : Int) t655 (t655.length : Int) 0) = some r := by rw [if_pos rfl] at H; exact H
       clear H
       have H := H1
       clear H1
       have H' := Aside0.mk H
       clear H
       obtain ⟨Ao51, co51, eo51⟩ := Kd.R_slice HO_6.out
       subst eo51
       go_wp2
       repeat (go_quiet (fail); try go_wp2)
       go_loopg [129] kj10 (fun kq v129 w' => ∃ (x129_2 : Int), v129 = .int .i64 x129_2 ∧ Aside0 (laws_FnElectionsEnd.l0 kq l1 t652 t663 t665 (t652.length : Int) t655 (t655.length : Int) x129_2 = some r) ∧ Aside0 (kq ≤ kj10) ∧ Aside0 (Kd.R (Kd.int .i64) 3 w' w.heap.size (fun k_ => some k_ ≠ ((.slice Ao51 t655.length co51) : Value).ownBlock) (.slice Ao13 t652.length co13) t652) ∧ Aside0 (Kd.R (Kd.int .i64) 3 w' w.heap.size (fun k_ => some k_ ≠ ((.slice Ao13 t652.length co13) : Value).ownBlock) (.slice Ao51 t655.length co51) t655) ∧ Aside0 (Below w.heap.size w w'))
       case atStart => exact ⟨(0), (by first | rfl | (simp; done) | (simp [*]; done)), H', ⟨Nat.le_refl _⟩, ⟨by (with_reducible repeat (first | apply Kd.R_alloc | apply Kd.R_drewN | apply Kd.R_drew)); exact HO_5.out⟩, ⟨by (with_reducible repeat (first | apply Kd.R_alloc | apply Kd.R_drewN | apply Kd.R_drew)); exact HO_6.out⟩, ⟨by repeat (first | (with_reducible first | exact HB.out | apply below_alloc | apply pw_below_drewN | apply below_drew1) | exact HB.out)⟩⟩
       case round => as_aux_lemma =>
        clear H'
        try clear c1
        try clear c2
        try clear p2
        try clear c3
        try clear c4
        try clear c5
        try clear c14
        try clear c18
        try clear c18b0
        try clear c18b1
        try clear c18b2
        try clear c20
        try clear c21
        try clear c21b0
        try clear c21b1
        try clear c21b2
        try clear c25
        try clear c25b0
        try clear c25b1
        try clear c26
        try clear c26b0
        try clear c26b1
        try clear c26b2
        try clear c29
        try clear c29b0
        try clear c29b1
        try clear c30
        try clear c30b0
        try clear c30b1
        try clear c30b2
        try clear c34
        try clear c34b0
        try clear c34b1
        try clear c34b2
        try clear c48
        try clear c50
        try clear p2
        obtain ⟨x129_2, rfl, HA, HK2, HO_5, HO_127, HB⟩ := hrel
        cases gk with
        | zero => exact absurd HA.out (by simp [laws_FnElectionsEnd.l0])
        | succ k2 =>
         have H := HA.out
         clear HA
         simp only [laws_FnElectionsEnd.l0] at H
         by_cases c52 : x129_2 < (t655.length : Int)
         ·as_aux_lemma =>
          rw [if_pos c52] at H
          have c52b0 : decide (x129_2 < (t655.length : Int)) = true := decide_eq_true c52
          clear c52
          (first | rw [c52b0] | (simp only [i64_w, i32_w]; rw [c52b0]) | skip)
          by_cases c53 : 0 ≤ x129_2
          ·as_aux_lemma =>
           rw [if_pos c53] at H
           have c53b0 : decide (0 ≤ x129_2) = true := decide_eq_true c53
           clear c53
           by_cases c54 : x129_2 < (t655.length : Int)
           ·as_aux_lemma =>
            rw [if_pos c54] at H
            have c54b0 : decide (x129_2 < (t655.length : Int)) = true := decide_eq_true c54
            clear c54
            have HC55 := Aside0.mk H
            clear H
            have p673 : 0 ≤ (x129_2 : Int) := of_decide_eq_true (by first | (with_reducible assumption) | assumption)
            have q673 : x129_2 < (t655.length : Int) := of_decide_eq_true (by first | (with_reducible assumption) | assumption)
            obtain ⟨ad673, e673, hx673_0⟩ := Kd.at_int (Kd.R_reads' HO_127.out).2.2 x129_2 p673 q673
            cases e673
            replace p673 := eq_true p673
            replace q673 := eq_true q673
            go_upto_region 16 with (fail)
            repeat (go_quiet (fail); go_upto_region 16 with (fail))
            go_cut [164] (fun v164 wc => ∃ (kq : Nat) (x164_54 : Bool), v164 = .bool x164_54 ∧ Aside0 (laws_FnElectionsEnd.j2 kq l1 t652 t663 t665 (t652.length : Int) x129_2 (rd t655 x129_2) t655 (t655.length : Int) x129_2 x164_54 = some r) ∧ Aside0 (kq ≤ k2) ∧ Aside0 (Kd.R (Kd.int .i64) 3 wc w.heap.size (fun k_ => some k_ ≠ ((.slice (some ad673) t655.length co51) : Value).ownBlock) (.slice Ao13 t652.length co13) t652) ∧ Aside0 (Kd.R (Kd.int .i64) 3 wc w.heap.size (fun k_ => some k_ ≠ ((.slice Ao13 t652.length co13) : Value).ownBlock) (.slice (some ad673) t655.length co51) t655) ∧ Aside0 (Below w.heap.size w wc))
            case first => as_aux_lemma =>
             have H := HC55.out
             clear HC55
             by_cases c56 : (((rd t655 x129_2) == (t652.length : Int)) != (x129_2 == t665)) = true
             ·as_aux_lemma =>
              rw [if_pos c56] at H
              have c56b0 : (((rd t655 x129_2) == (t652.length : Int)) != (x129_2 == t665)) = true := c56
              (try (have c56b1 : decide (((rd t655 x129_2) == (t652.length : Int)) = (x129_2 == t665)) = false := by simpa using c56))
              (try (have c56b2 : (((rd t655 x129_2) == (t652.length : Int)) == (x129_2 == t665)) = false := by simpa using c56))
              (try (have c56b3 : ¬ (((rd t655 x129_2) == (t652.length : Int)) = (x129_2 == t665)) := by simpa using c56))
              clear c56
              (first | rw [c56b0] | (simp only [i64_w, i32_w]; rw [c56b0]) | skip)
              have H' := Aside0.mk H
              clear H
              go_wp2
              repeat (go_quiet (fail); try go_wp2)
              go_meet
              case rel => exact ⟨_, (true), (by first | rfl | (simp; done) | (simp [*]; done)), H', ⟨by have := HJ10.out; have := HK2.out; first | omega | exact Nat.le_refl _⟩, ⟨by (with_reducible repeat (first | apply Kd.R_alloc | apply Kd.R_drewN | apply Kd.R_drew)); exact HO_5.out⟩, ⟨by (with_reducible repeat (first | apply Kd.R_alloc | apply Kd.R_drewN | apply Kd.R_drew)); exact HO_127.out⟩, ⟨by repeat (first | (with_reducible first | exact HB.out | apply below_alloc | apply pw_below_drewN | apply below_drew1) | exact HB.out)⟩⟩
             ·as_aux_lemma =>
              rw [if_neg c56] at H
              have c56b0 : (((rd t655 x129_2) == (t652.length : Int)) != (x129_2 == t665)) = false := by simpa using c56
              (try (have c56b1 : decide (((rd t655 x129_2) == (t652.length : Int)) = (x129_2 == t665)) = true := by simpa using c56))
              (try (have c56b2 : (((rd t655 x129_2) == (t652.length : Int)) == (x129_2 == t665)) = true := by simpa using c56))
              clear c56
              (first | rw [c56b0] | (simp only [i64_w, i32_w]; rw [c56b0]) | skip)
              by_cases c57 : (rd t655 x129_2) < 1
              ·as_aux_lemma =>
               rw [if_pos c57] at H
               have c57b0 : decide ((rd t655 x129_2) < 1) = true := decide_eq_true c57
               clear c57
               have H' := Aside0.mk H
               clear H
               go_wp2
               repeat (go_quiet (fail); try go_wp2)
               go_meet
               case rel => exact ⟨_, (true), (by first | rfl | (simp; done) | (simp [*]; done)), H', ⟨by have := HJ10.out; have := HK2.out; first | omega | exact Nat.le_refl _⟩, ⟨by (with_reducible repeat (first | apply Kd.R_alloc | apply Kd.R_drewN | apply Kd.R_drew)); exact HO_5.out⟩, ⟨by (with_reducible repeat (first | apply Kd.R_alloc | apply Kd.R_drewN | apply Kd.R_drew)); exact HO_127.out⟩, ⟨by repeat (first | (with_reducible first | exact HB.out | apply below_alloc | apply pw_below_drewN | apply below_drew1) | exact HB.out)⟩⟩
              ·as_aux_lemma =>
               rw [if_neg c57] at H
               have c57b0 : decide ((rd t655 x129_2) < 1) = false := decide_eq_false c57
               clear c57
               by_cases c58 : (rd t655 x129_2) < (t652.length : Int)
               ·as_aux_lemma =>
                rw [if_pos c58] at H
                have c58b0 : decide ((rd t655 x129_2) < (t652.length : Int)) = true := decide_eq_true c58
                clear c58
                by_cases c59 : (t652.length : Int) = 0
                ·as_aux_lemma =>
                 rw [if_pos c59] at H
                 exact absurd H (by simp)
                ·as_aux_lemma =>
                 rw [if_neg c59] at H
                 have c59b0 : ((t652.length : Int) == 0) = false := beq_eq_false_iff_ne.mpr c59
                 have c59b1 : ((t652.length : Int) != 0) = true := bne_iff_ne.mpr c59
                 have c59b2 : ¬ (t652 = []) := fun h_ => c59 (by rw [h_]; rfl)
                 obtain ⟨ji60, hji60⟩ : ∃ j_ : Int, (Int.tmod (wrap64 (x129_2 + (rd t655 x129_2))) (t652.length : Int)) = j_ := ⟨_, rfl⟩
                 replace H : (if 0 ≤ (ji60) then (if (ji60) < (t652.length : Int) then (if x129_2 < (t652.length : Int) then (laws_FnElectionsEnd.j2 k2 l1 t652 t663 t665 (t652.length : Int) x129_2 (rd t655 x129_2) t655 (t655.length : Int) x129_2 (decide ((rd t652 (ji60)) < (rd t652 x129_2)))) else (none)) else (none)) else (none)) = some r := by first | (rw [hji60] at H; exact H) | (simp only [hji60] at H ⊢; exact H)
                 by_cases c61 : 0 ≤ (ji60)
                 ·as_aux_lemma =>
                  rw [if_pos c61] at H
                  have c61b0 : decide (0 ≤ (ji60)) = true := decide_eq_true c61
                  clear c61
                  by_cases c62 : (ji60) < (t652.length : Int)
                  ·as_aux_lemma =>
                   rw [if_pos c62] at H
                   have c62b0 : decide ((ji60) < (t652.length : Int)) = true := decide_eq_true c62
                   clear c62
                   by_cases c63 : x129_2 < (t652.length : Int)
                   ·as_aux_lemma =>
                    rw [if_pos c63] at H
                    have c63b0 : decide (x129_2 < (t652.length : Int)) = true := decide_eq_true c63
                    clear c63
                    have H' := Aside0.mk H
                    clear H
                    have p674 : 0 ≤ ((ji60) : Int) := of_decide_eq_true (by first | (with_reducible assumption) | assumption)
                    have q674 : (ji60) < (t652.length : Int) := of_decide_eq_true (by first | (with_reducible assumption) | assumption)
                    obtain ⟨ad674, e674, hx674_0⟩ := Kd.at_int (Kd.R_reads' HO_5.out).2.2 (ji60) p674 q674
                    cases e674
                    replace p674 := eq_true p674
                    replace q674 := eq_true q674
                    have p675 : 0 ≤ (x129_2 : Int) := of_decide_eq_true (by first | (with_reducible assumption) | assumption)
                    have q675 : x129_2 < (t652.length : Int) := of_decide_eq_true (by first | (with_reducible assumption) | assumption)
                    obtain ⟨ad675, e675, hx675_0⟩ := Kd.at_int (Kd.R_reads' HO_5.out).2.2 x129_2 p675 q675
                    obtain rfl : ad674 = ad675 := (by injection e675)
                    replace p675 := eq_true p675
                    replace q675 := eq_true q675
                    go_wp2
                    repeat (go_quiet (fail); try go_wp2)
                    go_meet
                    case rel => exact ⟨_, (decide ((rd t652 (ji60)) < (rd t652 x129_2))), (by first | rfl | (simp; done) | (simp only [← hji60] <;> (first | rfl | simp)) | (simp [*]; done)), H', ⟨by have := HJ10.out; have := HK2.out; first | omega | exact Nat.le_refl _⟩, ⟨by (with_reducible repeat (first | apply Kd.R_alloc | apply Kd.R_drewN | apply Kd.R_drew)); exact HO_5.out⟩, ⟨by (with_reducible repeat (first | apply Kd.R_alloc | apply Kd.R_drewN | apply Kd.R_drew)); exact HO_127.out⟩, ⟨by repeat (first | (with_reducible first | exact HB.out | apply below_alloc | apply pw_below_drewN | apply below_drew1) | exact HB.out)⟩⟩
                   ·as_aux_lemma =>
                    rw [if_neg c63] at H
                    exact absurd H (by simp)
                  ·as_aux_lemma =>
                   rw [if_neg c62] at H
                   exact absurd H (by simp)
                 ·as_aux_lemma =>
                  rw [if_neg c61] at H
                  exact absurd H (by simp)
               ·as_aux_lemma =>
                rw [if_neg c58] at H
                have c58b0 : decide ((rd t655 x129_2) < (t652.length : Int)) = false := decide_eq_false c58
                clear c58
                have H' := Aside0.mk H
                clear H
                go_wp2
                repeat (go_quiet (fail); try go_wp2)
                go_meet
                case rel => exact ⟨_, (false), (by first | rfl | (simp; done) | (simp [*]; done)), H', ⟨by have := HJ10.out; have := HK2.out; first | omega | exact Nat.le_refl _⟩, ⟨by (with_reducible repeat (first | apply Kd.R_alloc | apply Kd.R_drewN | apply Kd.R_drew)); exact HO_5.out⟩, ⟨by (with_reducible repeat (first | apply Kd.R_alloc | apply Kd.R_drewN | apply Kd.R_drew)); exact HO_127.out⟩, ⟨by repeat (first | (with_reducible first | exact HB.out | apply below_alloc | apply pw_below_drewN | apply below_drew1) | exact HB.out)⟩⟩
            case rest => as_aux_lemma =>
             clear HC55
             try clear c1
             try clear c2
             try clear p2
             try clear c3
             try clear c4
             try clear c5
             try clear c6
             try clear p6
             try clear q6
             try clear hx6
             try clear c14
             try clear c18
             try clear c18b0
             try clear c18b1
             try clear c18b2
             try clear c20
             try clear c21
             try clear c21b0
             try clear c21b1
             try clear c21b2
             try clear c25
             try clear c25b0
             try clear c25b1
             try clear c26
             try clear c26b0
             try clear c26b1
             try clear c26b2
             try clear c29
             try clear c29b0
             try clear c29b1
             try clear c30
             try clear c30b0
             try clear c30b1
             try clear c30b2
             try clear c34
             try clear c34b0
             try clear c34b1
             try clear c34b2
             try clear c48
             try clear c50
             try clear c52
             try clear c52b0
             try clear c53
             try clear c53b0
             try clear c54
             try clear c54b0
             try clear c56
             try clear c56b0
             try clear c56b1
             try clear c56b2
             try clear c57
             try clear c57b0
             try clear c58
             try clear c58b0
             try clear c59
             try clear c59b0
             try clear c59b1
             try clear c59b2
             try clear c61
             try clear c61b0
             try clear c62
             try clear c62b0
             try clear c63
             try clear c63b0
             try clear hx673_0
             try clear hx674_0
             try clear hx675_0
             try clear p2
             try clear p673
             try clear p674
             try clear p675
             try clear q673
             try clear q674
             try clear q675
             obtain ⟨kq, x164_54, rfl, HA, HJ54, HO_5, HO_127, HB⟩ := hcut
             cases kq with
             | zero => exact absurd HA.out (by simp [laws_FnElectionsEnd.j2])
             | succ kj54 =>
              have H := HA.out
              clear HA
              simp only [laws_FnElectionsEnd.j2] at H
              by_cases c64 : x164_54 = true
              ·as_aux_lemma =>
               subst c64
               have H1 : (some false) = some r := by rw [if_pos rfl] at H; exact H
               clear H
               have H := H1
               clear H1
               obtain rfl := Option.some.inj H
               go_wp2
               repeat (go_quiet (fail); try go_wp2)
               go_ret
               exact ⟨by first | rfl | (simp [errW_none, errW_some] <;> rfl) | (simp [*, errW_none, errW_some] <;> rfl), by repeat (first | (with_reducible first | exact HB.out | apply below_alloc | apply pw_below_drewN | apply below_drew1) | exact HB.out)⟩
              ·as_aux_lemma =>
               replace c64 := Bool.eq_false_iff.mpr c64
               subst c64
               have H1 : (laws_FnElectionsEnd.l1 kj54 l1 t652 t663 t665 (t652.length : Int) x129_2 (rd t655 x129_2) 1 t655 (t655.length : Int) x129_2) = some r := by rw [if_neg (show ¬ (false = true) by decide)] at H; exact H
               clear H
               have H := H1
               clear H1
               have H' := Aside0.mk H
               clear H
               go_wp2
               repeat (go_quiet (fail); try go_wp2)
               go_loopg [19] kj54 (fun kq v19 w' => ∃ (x19_4 : Int), v19 = .int .i64 x19_4 ∧ Aside0 (laws_FnElectionsEnd.l1 kq l1 t652 t663 t665 (t652.length : Int) x129_2 (rd t655 x129_2) x19_4 t655 (t655.length : Int) x129_2 = some r) ∧ Aside0 (kq ≤ kj54) ∧ Aside0 (Kd.R (Kd.int .i64) 3 w' w.heap.size (fun k_ => some k_ ≠ ((.slice (some ad673) t655.length co51) : Value).ownBlock) (.slice Ao13 t652.length co13) t652) ∧ Aside0 (Kd.R (Kd.int .i64) 3 w' w.heap.size (fun k_ => some k_ ≠ ((.slice Ao13 t652.length co13) : Value).ownBlock) (.slice (some ad673) t655.length co51) t655) ∧ Aside0 (Below w.heap.size w w'))
               case atStart => exact ⟨(1), (by first | rfl | (simp; done) | (simp [*]; done)), H', ⟨Nat.le_refl _⟩, ⟨by (with_reducible repeat (first | apply Kd.R_alloc | apply Kd.R_drewN | apply Kd.R_drew)); exact HO_5.out⟩, ⟨by (with_reducible repeat (first | apply Kd.R_alloc | apply Kd.R_drewN | apply Kd.R_drew)); exact HO_127.out⟩, ⟨by repeat (first | (with_reducible first | exact HB.out | apply below_alloc | apply pw_below_drewN | apply below_drew1) | exact HB.out)⟩⟩
               case round => as_aux_lemma =>
                clear H'
                try clear c1
                try clear c2
                try clear p2
                try clear c3
                try clear c4
                try clear c5
                try clear c6
                try clear p6
                try clear q6
                try clear hx6
                try clear c14
                try clear c18
                try clear c18b0
                try clear c18b1
                try clear c18b2
                try clear c20
                try clear c21
                try clear c21b0
                try clear c21b1
                try clear c21b2
                try clear c25
                try clear c25b0
                try clear c25b1
                try clear c26
                try clear c26b0
                try clear c26b1
                try clear c26b2
                try clear c29
                try clear c29b0
                try clear c29b1
                try clear c30
                try clear c30b0
                try clear c30b1
                try clear c30b2
                try clear c34
                try clear c34b0
                try clear c34b1
                try clear c34b2
                try clear c48
                try clear c50
                try clear c52
                try clear c52b0
                try clear c53
                try clear c53b0
                try clear c54
                try clear c54b0
                try clear c56
                try clear c56b0
                try clear c56b1
                try clear c56b2
                try clear c57
                try clear c57b0
                try clear c58
                try clear c58b0
                try clear c59
                try clear c59b0
                try clear c59b1
                try clear c59b2
                try clear c61
                try clear c61b0
                try clear c62
                try clear c62b0
                try clear c63
                try clear c63b0
                try clear c64
                try clear p64
                try clear hx673_0
                try clear hx674_0
                try clear hx675_0
                try clear p2
                try clear p6
                try clear p673
                try clear p674
                try clear p675
                try clear q6
                try clear q673
                try clear q674
                try clear q675
                obtain ⟨x19_4, rfl, HA, HK4, HO_5, HO_127, HB⟩ := hrel
                cases gk with
                | zero => exact absurd HA.out (by simp [laws_FnElectionsEnd.l1])
                | succ k4 =>
                 have H := HA.out
                 clear HA
                 simp only [laws_FnElectionsEnd.l1] at H
                 have HC65 := Aside0.mk H
                 clear H
                 go_upto_region 19 with (fail)
                 repeat (go_quiet (fail); go_upto_region 19 with (fail))
                 go_cut [172] (fun v172 wc => ∃ (kq : Nat) (x172_64 : Bool), v172 = .bool x172_64 ∧ Aside0 (laws_FnElectionsEnd.j4 kq l1 t652 t663 t665 (t652.length : Int) x129_2 (rd t655 x129_2) x19_4 t655 (t655.length : Int) x129_2 x172_64 = some r) ∧ Aside0 (kq ≤ k4) ∧ Aside0 (Kd.R (Kd.int .i64) 3 wc w.heap.size (fun k_ => some k_ ≠ ((.slice (some ad673) t655.length co51) : Value).ownBlock) (.slice Ao13 t652.length co13) t652) ∧ Aside0 (Kd.R (Kd.int .i64) 3 wc w.heap.size (fun k_ => some k_ ≠ ((.slice Ao13 t652.length co13) : Value).ownBlock) (.slice (some ad673) t655.length co51) t655) ∧ Aside0 (Below w.heap.size w wc))
                 case first => as_aux_lemma =>
                  have H := HC65.out
                  clear HC65
                  by_cases c66 : x19_4 < (rd t655 x129_2)
                  ·as_aux_lemma =>
                   rw [if_pos c66] at H
                   have c66b0 : decide (x19_4 < (rd t655 x129_2)) = true := decide_eq_true c66
                   clear c66
                   (first | rw [c66b0] | (simp only [i64_w, i32_w]; rw [c66b0]) | skip)
                   have H' := Aside0.mk H
                   clear H
                   go_wp2
                   repeat (go_quiet (fail); try go_wp2)
                   go_meet
                   case rel => exact ⟨_, (decide (x19_4 < (t652.length : Int))), (by first | rfl | (simp; done) | (simp [*]; done)), H', ⟨by have := HJ10.out; have := HK2.out; have := HJ54.out; have := HK4.out; first | omega | exact Nat.le_refl _⟩, ⟨by (with_reducible repeat (first | apply Kd.R_alloc | apply Kd.R_drewN | apply Kd.R_drew)); exact HO_5.out⟩, ⟨by (with_reducible repeat (first | apply Kd.R_alloc | apply Kd.R_drewN | apply Kd.R_drew)); exact HO_127.out⟩, ⟨by repeat (first | (with_reducible first | exact HB.out | apply below_alloc | apply pw_below_drewN | apply below_drew1) | exact HB.out)⟩⟩
                  ·as_aux_lemma =>
                   rw [if_neg c66] at H
                   have c66b0 : decide (x19_4 < (rd t655 x129_2)) = false := decide_eq_false c66
                   clear c66
                   (first | rw [c66b0] | (simp only [i64_w, i32_w]; rw [c66b0]) | skip)
                   have H' := Aside0.mk H
                   clear H
                   go_wp2
                   repeat (go_quiet (fail); try go_wp2)
                   go_meet
                   case rel => exact ⟨_, (false), (by first | rfl | (simp; done) | (simp [*]; done)), H', ⟨by have := HJ10.out; have := HK2.out; have := HJ54.out; have := HK4.out; first | omega | exact Nat.le_refl _⟩, ⟨by (with_reducible repeat (first | apply Kd.R_alloc | apply Kd.R_drewN | apply Kd.R_drew)); exact HO_5.out⟩, ⟨by (with_reducible repeat (first | apply Kd.R_alloc | apply Kd.R_drewN | apply Kd.R_drew)); exact HO_127.out⟩, ⟨by repeat (first | (with_reducible first | exact HB.out | apply below_alloc | apply pw_below_drewN | apply below_drew1) | exact HB.out)⟩⟩
                 case rest => as_aux_lemma =>
                  clear HC65
                  try clear c1
                  try clear c2
                  try clear p2
                  try clear c3
                  try clear c4
                  try clear c5
                  try clear c6
                  try clear p6
                  try clear q6
                  try clear hx6
                  try clear c14
                  try clear c18
                  try clear c18b0
                  try clear c18b1
                  try clear c18b2
                  try clear c20
                  try clear c21
                  try clear c21b0
                  try clear c21b1
                  try clear c21b2
                  try clear c25
                  try clear c25b0
                  try clear c25b1
                  try clear c26
                  try clear c26b0
                  try clear c26b1
                  try clear c26b2
                  try clear c29
                  try clear c29b0
                  try clear c29b1
                  try clear c30
                  try clear c30b0
                  try clear c30b1
                  try clear c30b2
                  try clear c34
                  try clear c34b0
                  try clear c34b1
                  try clear c34b2
                  try clear c48
                  try clear c50
                  try clear c52
                  try clear c52b0
                  try clear c53
                  try clear c53b0
                  try clear c54
                  try clear c54b0
                  try clear c56
                  try clear c56b0
                  try clear c56b1
                  try clear c56b2
                  try clear c57
                  try clear c57b0
                  try clear c58
                  try clear c58b0
                  try clear c59
                  try clear c59b0
                  try clear c59b1
                  try clear c59b2
                  try clear c61
                  try clear c61b0
                  try clear c62
                  try clear c62b0
                  try clear c63
                  try clear c63b0
                  try clear c64
                  try clear p64
                  try clear c66
                  try clear c66b0
                  try clear hx673_0
                  try clear hx674_0
                  try clear hx675_0
                  try clear p2
                  try clear p6
                  try clear p64
                  try clear p673
                  try clear p674
                  try clear p675
                  try clear q6
                  try clear q673
                  try clear q674
                  try clear q675
                  obtain ⟨kq, x172_64, rfl, HA, HJ64, HO_5, HO_127, HB⟩ := hcut
                  cases kq with
                  | zero => exact absurd HA.out (by simp [laws_FnElectionsEnd.j4])
                  | succ kj64 =>
                   have H := HA.out
                   clear HA
                   simp only [laws_FnElectionsEnd.j4] at H
                   by_cases c67 : x172_64 = true
                   ·as_aux_lemma =>
                    subst c67
                    have H1 : (if (t652.length : Int) = 0 then (none) else (if 0 ≤ (Int.tmod (wrap64 (x129_2 + x19_4)) (t652.length : Int)) then (if (Int.tmod (wrap64 (x129_2 + x19_4)) (t652.length : Int)) < (t652.length : Int) then (if 0 ≤ x129_2 then (if x129_2 < (t652.length : Int) then (if (rd t652 (Int.tmod (wrap64 (x129_2 + x19_4)) (t652.length : Int))) > (rd t652 x129_2) then (some false) else (laws_FnElectionsEnd.l1 kj64 l1 t652 t663 t665 (t652.length : Int) x129_2 (rd t655 x129_2) (wrap64 (x19_4 + 1)) t655 (t655.length : Int) x129_2)) else (none)) else (none)) else (none)) else (none))) = some r := by rw [if_pos rfl] at H; exact H
                    clear H
                    have H := H1
                    clear H1
                    by_cases c68 : (t652.length : Int) = 0
                    ·as_aux_lemma =>
                     rw [if_pos c68] at H
                     exact absurd H (by simp)
                    ·as_aux_lemma =>
                     rw [if_neg c68] at H
                     have c68b0 : ((t652.length : Int) == 0) = false := beq_eq_false_iff_ne.mpr c68
                     have c68b1 : ((t652.length : Int) != 0) = true := bne_iff_ne.mpr c68
                     have c68b2 : ¬ (t652 = []) := fun h_ => c68 (by rw [h_]; rfl)
                     obtain ⟨ji69, hji69⟩ : ∃ j_ : Int, (Int.tmod (wrap64 (x129_2 + x19_4)) (t652.length : Int)) = j_ := ⟨_, rfl⟩
                     replace H : (if 0 ≤ (ji69) then (if (ji69) < (t652.length : Int) then (if 0 ≤ x129_2 then (if x129_2 < (t652.length : Int) then (if (rd t652 (ji69)) > (rd t652 x129_2) then (some false) else (laws_FnElectionsEnd.l1 kj64 l1 t652 t663 t665 (t652.length : Int) x129_2 (rd t655 x129_2) (wrap64 (x19_4 + 1)) t655 (t655.length : Int) x129_2)) else (none)) else (none)) else (none)) else (none)) = some r := by first | (rw [hji69] at H; exact H) | (simp only [hji69] at H ⊢; exact H)
                     by_cases c70 : 0 ≤ (ji69)
                     ·as_aux_lemma =>
                      rw [if_pos c70] at H
                      have c70b0 : decide (0 ≤ (ji69)) = true := decide_eq_true c70
                      clear c70
                      by_cases c71 : (ji69) < (t652.length : Int)
                      ·as_aux_lemma =>
                       rw [if_pos c71] at H
                       have c71b0 : decide ((ji69) < (t652.length : Int)) = true := decide_eq_true c71
                       clear c71
                       by_cases c72 : 0 ≤ x129_2
                       ·as_aux_lemma =>
                        rw [if_pos c72] at H
                        have c72b0 : decide (0 ≤ x129_2) = true := decide_eq_true c72
                        clear c72
                        by_cases c73 : x129_2 < (t652.length : Int)
                        ·as_aux_lemma =>
                         rw [if_pos c73] at H
                         have c73b0 : decide (x129_2 < (t652.length : Int)) = true := decide_eq_true c73
                         clear c73
                         by_cases c74 : (rd t652 (ji69)) > (rd t652 x129_2)
                         ·as_aux_lemma =>
                          rw [if_pos c74] at H
                          have c74b0 : decide ((rd t652 x129_2) < (rd t652 (ji69))) = true := decide_eq_true c74
                          clear c74
                          obtain rfl := Option.some.inj H
                          have p676 : 0 ≤ ((ji69) : Int) := of_decide_eq_true (by first | (with_reducible assumption) | assumption)
                          have q676 : (ji69) < (t652.length : Int) := of_decide_eq_true (by first | (with_reducible assumption) | assumption)
                          obtain ⟨ad676, e676, hx676_0⟩ := Kd.at_int (Kd.R_reads' HO_5.out).2.2 (ji69) p676 q676
                          cases e676
                          replace p676 := eq_true p676
                          replace q676 := eq_true q676
                          have p677 : 0 ≤ (x129_2 : Int) := of_decide_eq_true (by first | (with_reducible assumption) | assumption)
                          have q677 : x129_2 < (t652.length : Int) := of_decide_eq_true (by first | (with_reducible assumption) | assumption)
                          obtain ⟨ad677, e677, hx677_0⟩ := Kd.at_int (Kd.R_reads' HO_5.out).2.2 x129_2 p677 q677
                          obtain rfl : ad676 = ad677 := (by injection e677)
                          replace p677 := eq_true p677
                          replace q677 := eq_true q677
                          go_wp2
                          repeat (go_quiet (fail); try go_wp2)
                          go_ret
                          exact ⟨by first | rfl | (simp [errW_none, errW_some] <;> rfl) | (simp only [← hji69]; first | rfl | (simp [errW_none, errW_some] <;> rfl)) | (simp [*, errW_none, errW_some] <;> rfl), by repeat (first | (with_reducible first | exact HB.out | apply below_alloc | apply pw_below_drewN | apply below_drew1) | exact HB.out)⟩
                         ·as_aux_lemma =>
                          rw [if_neg c74] at H
                          have c74b0 : decide ((rd t652 x129_2) < (rd t652 (ji69))) = false := decide_eq_false c74
                          clear c74
                          have H' := Aside0.mk H
                          clear H
                          have p676 : 0 ≤ ((ji69) : Int) := of_decide_eq_true (by first | (with_reducible assumption) | assumption)
                          have q676 : (ji69) < (t652.length : Int) := of_decide_eq_true (by first | (with_reducible assumption) | assumption)
                          obtain ⟨ad676, e676, hx676_0⟩ := Kd.at_int (Kd.R_reads' HO_5.out).2.2 (ji69) p676 q676
                          cases e676
                          replace p676 := eq_true p676
                          replace q676 := eq_true q676
                          have p677 : 0 ≤ (x129_2 : Int) := of_decide_eq_true (by first | (with_reducible assumption) | assumption)
                          have q677 : x129_2 < (t652.length : Int) := of_decide_eq_true (by first | (with_reducible assumption) | assumption)
                          obtain ⟨ad677, e677, hx677_0⟩ := Kd.at_int (Kd.R_reads' HO_5.out).2.2 x129_2 p677 q677
                          obtain rfl : ad676 = ad677 := (by injection e677)
                          replace p677 := eq_true p677
                          replace q677 := eq_true q677
                          go_wp2
                          repeat (go_quiet (fail); try go_wp2)
                          go_roundg kj64
                          case measure => have := HJ10.out; have := HK2.out; have := HJ54.out; have := HK4.out; have := HJ64.out; omega
                          case rel => exact ⟨(wrap64 (x19_4 + 1)), (by first | rfl | (simp; done) | (simp [*]; done)), H', ⟨by have := HJ10.out; have := HK2.out; have := HJ54.out; have := HK4.out; have := HJ64.out; omega⟩, ⟨by (with_reducible repeat (first | apply Kd.R_alloc | apply Kd.R_drewN | apply Kd.R_drew)); exact HO_5.out⟩, ⟨by (with_reducible repeat (first | apply Kd.R_alloc | apply Kd.R_drewN | apply Kd.R_drew)); exact HO_127.out⟩, ⟨by repeat (first | (with_reducible first | exact HB.out | apply below_alloc | apply pw_below_drewN | apply below_drew1) | exact HB.out)⟩⟩
                        ·as_aux_lemma =>
                         rw [if_neg c73] at H
                         exact absurd H (by simp)
                       ·as_aux_lemma =>
                        rw [if_neg c72] at H
                        exact absurd H (by simp)
                      ·as_aux_lemma =>
                       rw [if_neg c71] at H
                       exact absurd H (by simp)
                     ·as_aux_lemma =>
                      rw [if_neg c70] at H
                      exact absurd H (by simp)
                   ·as_aux_lemma =>
                    replace c67 := Bool.eq_false_iff.mpr c67
                    subst c67
                    have H1 : (laws_FnElectionsEnd.l0 kj64 l1 t652 t663 t665 (t652.length : Int) t655 (t655.length : Int) (wrap64 (x129_2 + 1))) = some r := by rw [if_neg (show ¬ (false = true) by decide)] at H; exact H
                    clear H
                    have H := H1
                    clear H1
                    have H' := Aside0.mk H
                    clear H
                    go_wp2
                    repeat (go_quiet (fail); try go_wp2)
                    go_roundg kj64
                    case measure => have := HJ10.out; have := HK2.out; have := HJ54.out; have := HK4.out; have := HJ64.out; omega
                    case rel => exact ⟨(wrap64 (x129_2 + 1)), (by first | rfl | (simp; done) | (simp [*]; done)), H', ⟨by have := HJ10.out; have := HK2.out; have := HJ54.out; have := HK4.out; have := HJ64.out; omega⟩, ⟨by (with_reducible repeat (first | apply Kd.R_alloc | apply Kd.R_drewN | apply Kd.R_drew)); exact HO_5.out⟩, ⟨by (with_reducible repeat (first | apply Kd.R_alloc | apply Kd.R_drewN | apply Kd.R_drew)); exact HO_127.out⟩, ⟨by repeat (first | (with_reducible first | exact HB.out | apply below_alloc | apply pw_below_drewN | apply below_drew1) | exact HB.out)⟩⟩
           ·as_aux_lemma =>
            rw [if_neg c54] at H
            exact absurd H (by simp)
          ·as_aux_lemma =>
           rw [if_neg c53] at H
           exact absurd H (by simp)
         ·as_aux_lemma =>
          rw [if_neg c52] at H
          have c52b0 : decide (x129_2 < (t655.length : Int)) = false := decide_eq_false c52
          clear c52
          (first | rw [c52b0] | (simp only [i64_w, i32_w]; rw [c52b0]) | skip)
          by_cases c75 : t663 < (wrap64 ((wrap64 (2 * (t652.length : Int))) - 1))
          ·as_aux_lemma =>
           rw [if_pos c75] at H
           have c75b0 : decide (t663 < (wrap64 ((wrap64 (2 * (t652.length : Int))) - 1))) = true := decide_eq_true c75
           clear c75
           obtain rfl := Option.some.inj H
           go_wp2
           repeat (go_quiet (fail); try go_wp2)
           go_ret
           exact ⟨by first | rfl | (simp [errW_none, errW_some] <;> rfl) | (simp [*, errW_none, errW_some] <;> rfl), by repeat (first | (with_reducible first | exact HB.out | apply below_alloc | apply pw_below_drewN | apply below_drew1) | exact HB.out)⟩
          ·as_aux_lemma =>
           rw [if_neg c75] at H
           have c75b0 : decide (t663 < (wrap64 ((wrap64 (2 * (t652.length : Int))) - 1))) = false := decide_eq_false c75
           clear c75
           by_cases c76 : t663 > (wrap64 (Int.tdiv (wrap64 ((t652.length : Int) * (wrap64 ((t652.length : Int) + 1)))) 2))
           ·as_aux_lemma =>
            rw [if_pos c76] at H
            have c76b0 : decide ((wrap64 (Int.tdiv (wrap64 ((t652.length : Int) * (wrap64 ((t652.length : Int) + 1)))) 2)) < t663) = true := decide_eq_true c76
            clear c76
            obtain rfl := Option.some.inj H
            go_wp2
            repeat (go_quiet (fail); try go_wp2)
            go_ret
            exact ⟨by first | rfl | (simp [errW_none, errW_some] <;> rfl) | (simp [*, errW_none, errW_some] <;> rfl), by repeat (first | (with_reducible first | exact HB.out | apply below_alloc | apply pw_below_drewN | apply below_drew1) | exact HB.out)⟩
           ·as_aux_lemma =>
            rw [if_neg c76] at H
            have c76b0 : decide ((wrap64 (Int.tdiv (wrap64 ((t652.length : Int) * (wrap64 ((t652.length : Int) + 1)))) 2)) < t663) = false := decide_eq_false c76
            clear c76
            have H' := Aside0.mk H
            clear H
            go_wp2
            repeat (go_quiet (fail); try go_wp2)
            go_meet
            case rel => exact ⟨_, H', ⟨by have := HJ10.out; have := HK2.out; first | omega | exact Nat.le_refl _⟩, ⟨by repeat (first | (with_reducible first | exact HB.out | apply below_alloc | apply pw_below_drewN | apply below_drew1) | exact HB.out)⟩⟩
      ·as_aux_lemma =>
       replace c50 := Bool.eq_false_iff.mpr c50
       subst c50
       have H1 : (laws_FnElectionsEnd.j5 kj10 l1) = some r := by rw [if_neg (show ¬ (false = true) by decide)] at H; exact H
       clear H
       have H := H1
       clear H1
       have H' := Aside0.mk H
       clear H
       go_wp2
       repeat (go_quiet (fail); try go_wp2)
       go_meet
       case rel => exact ⟨_, H', ⟨by have := HJ10.out; first | omega | exact Nat.le_refl _⟩, ⟨by repeat (first | (with_reducible first | exact HB.out | apply below_alloc | apply pw_below_drewN | apply below_drew1) | exact HB.out)⟩⟩
     case rest => as_aux_lemma =>
      clear HC49
      try clear c1
      try clear c2
      try clear p2
      try clear c3
      try clear c4
      try clear c5
      try clear c6
      try clear p6
      try clear q6
      try clear hx6
      try clear c7
      try clear c14
      try clear c18
      try clear c18b0
      try clear c18b1
      try clear c18b2
      try clear c20
      try clear c21
      try clear c21b0
      try clear c21b1
      try clear c21b2
      try clear c25
      try clear c25b0
      try clear c25b1
      try clear c26
      try clear c26b0
      try clear c26b1
      try clear c26b2
      try clear c29
      try clear c29b0
      try clear c29b1
      try clear c30
      try clear c30b0
      try clear c30b1
      try clear c30b2
      try clear c34
      try clear c34b0
      try clear c34b1
      try clear c34b2
      try clear c48
      try clear c50
      try clear c52
      try clear c52b0
      try clear c53
      try clear c53b0
      try clear c54
      try clear c54b0
      try clear c56
      try clear c56b0
      try clear c56b1
      try clear c56b2
      try clear c57
      try clear c57b0
      try clear c58
      try clear c58b0
      try clear c59
      try clear c59b0
      try clear c59b1
      try clear c59b2
      try clear c61
      try clear c61b0
      try clear c62
      try clear c62b0
      try clear c63
      try clear c63b0
      try clear c64
      try clear p64
      try clear c66
      try clear c66b0
      try clear c67
      try clear p67
      try clear q67
      try clear hx67
      try clear c68
      try clear c68b0
      try clear c68b1
      try clear c68b2
      try clear c70
      try clear c70b0
      try clear c71
      try clear c71b0
      try clear c72
      try clear c72b0
      try clear c73
      try clear c73b0
      try clear c74
      try clear c74b0
      try clear c75
      try clear c75b0
      try clear c76
      try clear c76b0
      try clear hx673_0
      try clear hx674_0
      try clear hx675_0
      try clear hx676_0
      try clear hx677_0
      try clear p2
      try clear p6
      try clear p64
      try clear p673
      try clear p674
      try clear p675
      try clear p676
      try clear p677
      try clear q6
      try clear q673
      try clear q674
      try clear q675
      try clear q676
      try clear q677
      obtain ⟨kq, HA, HJ48, HB⟩ := hcut
      cases kq with
      | zero => exact absurd HA.out (by simp [laws_FnElectionsEnd.j5])
      | succ kj48 =>
       have H := HA.out
       clear HA
       simp only [laws_FnElectionsEnd.j5] at H
       replace H := Option.bind_eq_some_iff.mp H
       obtain ⟨t678, A770, H⟩ := H
       replace H : ((impl_WorstNames.f kj48 t678).bind fun bt679 => ((spec_WorstNames.f kj48 t678).bind fun bt683 => ((impl_BestNames.f kj48 t678).bind fun bt687 => ((spec_BestNames.f kj48 t678).bind fun bt691 => (if (bt679.2 != bt683.2) = true then (laws_FnElectionsEnd.j6 kj48 l1 t678 bt679.1 bt679.2 bt687.1 true) else ((laws_zSame.f kj48 bt679.1 bt683.1).bind fun t695 => (if t695 = true then (if (bt687.2 != bt691.2) = true then (laws_FnElectionsEnd.j6 kj48 l1 t678 bt679.1 bt679.2 bt687.1 true) else ((laws_zSame.f kj48 bt687.1 bt691.1).bind fun t696 => (laws_FnElectionsEnd.j6 kj48 l1 t678 bt679.1 bt679.2 bt687.1 (!t696)))) else (laws_FnElectionsEnd.j6 kj48 l1 t678 bt679.1 bt679.2 bt687.1 true)))))))) = some r := H
       have A77 := Aside0.mk A770
       clear A770
       replace H := Option.bind_eq_some_iff.mp H
       obtain ⟨⟨t679, t680⟩, A780, H⟩ := H
       replace H : ((spec_WorstNames.f kj48 t678).bind fun bt683 => ((impl_BestNames.f kj48 t678).bind fun bt687 => ((spec_BestNames.f kj48 t678).bind fun bt691 => (if (t680 != bt683.2) = true then (laws_FnElectionsEnd.j6 kj48 l1 t678 t679 t680 bt687.1 true) else ((laws_zSame.f kj48 t679 bt683.1).bind fun t695 => (if t695 = true then (if (bt687.2 != bt691.2) = true then (laws_FnElectionsEnd.j6 kj48 l1 t678 t679 t680 bt687.1 true) else ((laws_zSame.f kj48 bt687.1 bt691.1).bind fun t696 => (laws_FnElectionsEnd.j6 kj48 l1 t678 t679 t680 bt687.1 (!t696)))) else (laws_FnElectionsEnd.j6 kj48 l1 t678 t679 t680 bt687.1 true))))))) = some r := H
       have A78 := Aside0.mk A780
       clear A780
       replace H := Option.bind_eq_some_iff.mp H
       obtain ⟨⟨t683, t686⟩, A790, H⟩ := H
       replace H : ((impl_BestNames.f kj48 t678).bind fun bt687 => ((spec_BestNames.f kj48 t678).bind fun bt691 => (if (t680 != t686) = true then (laws_FnElectionsEnd.j6 kj48 l1 t678 t679 t680 bt687.1 true) else ((laws_zSame.f kj48 t679 t683).bind fun t695 => (if t695 = true then (if (bt687.2 != bt691.2) = true then (laws_FnElectionsEnd.j6 kj48 l1 t678 t679 t680 bt687.1 true) else ((laws_zSame.f kj48 bt687.1 bt691.1).bind fun t696 => (laws_FnElectionsEnd.j6 kj48 l1 t678 t679 t680 bt687.1 (!t696)))) else (laws_FnElectionsEnd.j6 kj48 l1 t678 t679 t680 bt687.1 true)))))) = some r := H
       have A79 := Aside0.mk A790
       clear A790
       replace H := Option.bind_eq_some_iff.mp H
       obtain ⟨⟨t687, t688⟩, A800, H⟩ := H
       replace H : ((spec_BestNames.f kj48 t678).bind fun bt691 => (if (t680 != t686) = true then (laws_FnElectionsEnd.j6 kj48 l1 t678 t679 t680 t687 true) else ((laws_zSame.f kj48 t679 t683).bind fun t695 => (if t695 = true then (if (t688 != bt691.2) = true then (laws_FnElectionsEnd.j6 kj48 l1 t678 t679 t680 t687 true) else ((laws_zSame.f kj48 t687 bt691.1).bind fun t696 => (laws_FnElectionsEnd.j6 kj48 l1 t678 t679 t680 t687 (!t696)))) else (laws_FnElectionsEnd.j6 kj48 l1 t678 t679 t680 t687 true))))) = some r := H
       have A80 := Aside0.mk A800
       clear A800
       replace H := Option.bind_eq_some_iff.mp H
       obtain ⟨⟨t691, t694⟩, A810, H⟩ := H
       replace H : (if (t680 != t686) = true then (laws_FnElectionsEnd.j6 kj48 l1 t678 t679 t680 t687 true) else ((laws_zSame.f kj48 t679 t683).bind fun t695 => (if t695 = true then (if (t688 != t694) = true then (laws_FnElectionsEnd.j6 kj48 l1 t678 t679 t680 t687 true) else ((laws_zSame.f kj48 t687 t691).bind fun t696 => (laws_FnElectionsEnd.j6 kj48 l1 t678 t679 t680 t687 (!t696)))) else (laws_FnElectionsEnd.j6 kj48 l1 t678 t679 t680 t687 true)))) = some r := H
       have A81 := Aside0.mk A810
       clear A810
       have HC82 := Aside0.mk H
       clear H
       go_upto_region 31 with (first | (go_at_call 49; (with_reducible refine (spec_DrawWorstNames.calls _ _ l1 t678 _ ?side1 ?side2 A77.out).mono ?_); (case side1 => repeat (first | exact (Kd.C_below HR1.out HB.out) | (with_reducible refine Kd.C_alloc ?_ _) | (with_reducible refine Kd.C_drewN ?_ _) | (with_reducible refine Kd.C_drew ?_))); (case side2 => exact HC1.out); rintro e w83 ⟨rfl, hb⟩; have n0_ := Aside0.mk (below_step (by repeat (first | (with_reducible first | exact HB.out | apply below_alloc | apply pw_below_drewN | apply below_drew1) | exact HB.out)) hb); clear HB; have HB := n0_; clear n0_; (try clear hb); (try clear hb2); (try clear hk); (try clear hi)) | (go_at_call 32; (with_reducible refine (impl_WorstNames.calls kj48 t678 t679 t680 _ A78.out).mono ?_); rintro e w84 ⟨v681, rfl, ho0, hb⟩; have n0_ := Aside0.mk (Kd.R_lower ho0 (below_size (by repeat (first | (with_reducible first | exact HB.out | apply below_alloc | apply pw_below_drewN | apply below_drew1) | exact HB.out)))); have n1_ := Aside0.mk (below_step (by repeat (first | (with_reducible first | exact HB.out | apply below_alloc | apply pw_below_drewN | apply below_drew1) | exact HB.out)) hb); clear HB; have HO682 := n0_; have HB := n1_; clear n0_ n1_; (try clear hb); (try clear hb2); (try clear hk); (try clear hi); (try clear ho0)) | (go_at_call 31; (with_reducible refine (spec_WorstNames.calls kj48 t678 t683 t686 _ A79.out).mono ?_); rintro e w85 ⟨v684, rfl, ho0, hb⟩; have n0_ := Aside0.mk (Kd.R_below (by (with_reducible repeat (first | apply Kd.R_alloc | apply Kd.R_drewN | apply Kd.R_drew)); exact HO682.out) hb); have n1_ := Aside0.mk (Kd.V_lower (Kd.V_mono (ok' := fun k_ => some k_ ≠ (v681 : Value).ownBlock) ho0 (fun k_ hk_ => (Kd.fresh' (Kd.R_lt (by (with_reducible repeat (first | apply Kd.R_alloc | apply Kd.R_drewN | apply Kd.R_drew)); exact HO682.out)) k_ hk_))) (below_size (by repeat (first | (with_reducible first | exact HB.out | apply below_alloc | apply pw_below_drewN | apply below_drew1) | exact HB.out)))); have n2_ := Aside0.mk (below_step (by repeat (first | (with_reducible first | exact HB.out | apply below_alloc | apply pw_below_drewN | apply below_drew1) | exact HB.out)) hb); clear HO682; clear HB; have HO682 := n0_; have HO685 := n1_; have HB := n2_; clear n0_ n1_ n2_; (try clear hb); (try clear hb2); (try clear hk); (try clear hi); (try clear ho0)) | (go_at_call 30; (with_reducible refine (impl_BestNames.calls kj48 t678 t687 t688 _ A80.out).mono ?_); rintro e w86 ⟨v689, rfl, ho0, hb⟩; have n0_ := Aside0.mk (Kd.R_elder' (by (with_reducible repeat (first | apply Kd.R_alloc | apply Kd.R_drewN | apply Kd.R_drew)); exact HO682.out) (Kd.R_base ho0) hb); have n1_ := Aside0.mk (Kd.V_elder' (by (with_reducible repeat (first | apply Kd.V_alloc | apply Kd.V_drewN | apply Kd.V_drew)); exact HO685.out) (Kd.R_base ho0) hb); have n2_ := Aside0.mk (Kd.R_lower (Kd.R_new' ho0 (Kd.R_lt (by (with_reducible repeat (first | apply Kd.R_alloc | apply Kd.R_drewN | apply Kd.R_drew)); exact HO682.out))) (below_size (by repeat (first | (with_reducible first | exact HB.out | apply below_alloc | apply pw_below_drewN | apply below_drew1) | exact HB.out)))); have n3_ := Aside0.mk (below_step (by repeat (first | (with_reducible first | exact HB.out | apply below_alloc | apply pw_below_drewN | apply below_drew1) | exact HB.out)) hb); clear HO682; clear HO685; clear HB; have HO682 := n0_; have HO685 := n1_; have HO690 := n2_; have HB := n3_; clear n0_ n1_ n2_ n3_; (try clear hb); (try clear hb2); (try clear hk); (try clear hi); (try clear ho0)) | (go_at_call 29; (with_reducible refine (spec_BestNames.calls kj48 t678 t691 t694 _ A81.out).mono ?_); rintro e w87 ⟨v692, rfl, ho0, hb⟩; have n0_ := Aside0.mk (Kd.R_below (by (with_reducible repeat (first | apply Kd.R_alloc | apply Kd.R_drewN | apply Kd.R_drew)); exact HO682.out) hb); have n1_ := Aside0.mk (Kd.V_below (by (with_reducible repeat (first | apply Kd.V_alloc | apply Kd.V_drewN | apply Kd.V_drew)); exact HO685.out) hb); have n2_ := Aside0.mk (Kd.R_below (by (with_reducible repeat (first | apply Kd.R_alloc | apply Kd.R_drewN | apply Kd.R_drew)); exact HO690.out) hb); have n3_ := Aside0.mk (Kd.V_lower (Kd.V_mono (ok' := fun k_ => some k_ ≠ (v681 : Value).ownBlock ∧ some k_ ≠ (v689 : Value).ownBlock) ho0 (fun k_ hk_ => ⟨(Kd.fresh' (Kd.R_lt (by (with_reducible repeat (first | apply Kd.R_alloc | apply Kd.R_drewN | apply Kd.R_drew)); exact HO682.out)) k_ hk_), (Kd.fresh' (Kd.R_lt (by (with_reducible repeat (first | apply Kd.R_alloc | apply Kd.R_drewN | apply Kd.R_drew)); exact HO690.out)) k_ hk_)⟩)) (below_size (by repeat (first | (with_reducible first | exact HB.out | apply below_alloc | apply pw_below_drewN | apply below_drew1) | exact HB.out)))); have n4_ := Aside0.mk (below_step (by repeat (first | (with_reducible first | exact HB.out | apply below_alloc | apply pw_below_drewN | apply below_drew1) | exact HB.out)) hb); clear HO682; clear HO685; clear HO690; clear HB; have HO682 := n0_; have HO685 := n1_; have HO690 := n2_; have HO693 := n3_; have HB := n4_; clear n0_ n1_ n2_ n3_ n4_; (try clear hb); (try clear hb2); (try clear hk); (try clear hi); (try clear ho0)))
       repeat (go_quiet (first | (go_at_call 49; (with_reducible refine (spec_DrawWorstNames.calls _ _ l1 t678 _ ?side1 ?side2 A77.out).mono ?_); (case side1 => repeat (first | exact (Kd.C_below HR1.out HB.out) | (with_reducible refine Kd.C_alloc ?_ _) | (with_reducible refine Kd.C_drewN ?_ _) | (with_reducible refine Kd.C_drew ?_))); (case side2 => exact HC1.out); rintro e w83 ⟨rfl, hb⟩; have n0_ := Aside0.mk (below_step (by repeat (first | (with_reducible first | exact HB.out | apply below_alloc | apply pw_below_drewN | apply below_drew1) | exact HB.out)) hb); clear HB; have HB := n0_; clear n0_; (try clear hb); (try clear hb2); (try clear hk); (try clear hi)) | (go_at_call 32; (with_reducible refine (impl_WorstNames.calls kj48 t678 t679 t680 _ A78.out).mono ?_); rintro e w84 ⟨v681, rfl, ho0, hb⟩; have n0_ := Aside0.mk (Kd.R_lower ho0 (below_size (by repeat (first | (with_reducible first | exact HB.out | apply below_alloc | apply pw_below_drewN | apply below_drew1) | exact HB.out)))); have n1_ := Aside0.mk (below_step (by repeat (first | (with_reducible first | exact HB.out | apply below_alloc | apply pw_below_drewN | apply below_drew1) | exact HB.out)) hb); clear HB; have HO682 := n0_; have HB := n1_; clear n0_ n1_; (try clear hb); (try clear hb2); (try clear hk); (try clear hi); (try clear ho0)) | (go_at_call 31; (with_reducible refine (spec_WorstNames.calls kj48 t678 t683 t686 _ A79.out).mono ?_); rintro e w85 ⟨v684, rfl, ho0, hb⟩; have n0_ := Aside0.mk (Kd.R_below (by (with_reducible repeat (first | apply Kd.R_alloc | apply Kd.R_drewN | apply Kd.R_drew)); exact HO682.out) hb); have n1_ := Aside0.mk (Kd.V_lower (Kd.V_mono (ok' := fun k_ => some k_ ≠ (v681 : Value).ownBlock) ho0 (fun k_ hk_ => (Kd.fresh' (Kd.R_lt (by (with_reducible repeat (first | apply Kd.R_alloc | apply Kd.R_drewN | apply Kd.R_drew)); exact HO682.out)) k_ hk_))) (below_size (by repeat (first | (with_reducible first | exact HB.out | apply below_alloc | apply pw_below_drewN | apply below_drew1) | exact HB.out)))); have n2_ := Aside0.mk (below_step (by repeat (first | (with_reducible first | exact HB.out | apply below_alloc | apply pw_below_drewN | apply below_drew1) | exact HB.out)) hb); clear HO682; clear HB; have HO682 := n0_; have HO685 := n1_; have HB := n2_; clear n0_ n1_ n2_; (try clear hb); (try clear hb2); (try clear hk); (try clear hi); (try clear ho0)) | (go_at_call 30; (with_reducible refine (impl_BestNames.calls kj48 t678 t687 t688 _ A80.out).mono ?_); rintro e w86 ⟨v689, rfl, ho0, hb⟩; have n0_ := Aside0.mk (Kd.R_elder' (by (with_reducible repeat (first | apply Kd.R_alloc | apply Kd.R_drewN | apply Kd.R_drew)); exact HO682.out) (Kd.R_base ho0) hb); have n1_ := Aside0.mk (Kd.V_elder' (by (with_reducible repeat (first | apply Kd.V_alloc | apply Kd.V_drewN | apply Kd.V_drew)); exact HO685.out) (Kd.R_base ho0) hb); have n2_ := Aside0.mk (Kd.R_lower (Kd.R_new' ho0 (Kd.R_lt (by (with_reducible repeat (first | apply Kd.R_alloc | apply Kd.R_drewN | apply Kd.R_drew)); exact HO682.out))) (below_size (by repeat (first | (with_reducible first | exact HB.out | apply below_alloc | apply pw_below_drewN | apply below_drew1) | exact HB.out)))); have n3_ := Aside0.mk (below_step (by repeat (first | (with_reducible first | exact HB.out | apply below_alloc | apply pw_below_drewN | apply below_drew1) | exact HB.out)) hb); clear HO682; clear HO685; clear HB; have HO682 := n0_; have HO685 := n1_; have HO690 := n2_; have HB := n3_; clear n0_ n1_ n2_ n3_; (try clear hb); (try clear hb2); (try clear hk); (try clear hi); (try clear ho0)) | (go_at_call 29; (with_reducible refine (spec_BestNames.calls kj48 t678 t691 t694 _ A81.out).mono ?_); rintro e w87 ⟨v692, rfl, ho0, hb⟩; have n0_ := Aside0.mk (Kd.R_below (by (with_reducible repeat (first | apply Kd.R_alloc | apply Kd.R_drewN | apply Kd.R_drew)); exact HO682.out) hb); have n1_ := Aside0.mk (Kd.V_below (by (with_reducible repeat (first | apply Kd.V_alloc | apply Kd.V_drewN | apply Kd.V_drew)); exact HO685.out) hb); have n2_ := Aside0.mk (Kd.R_below (by (with_reducible repeat (first | apply Kd.R_alloc | apply Kd.R_drewN | apply Kd.R_drew)); exact HO690.out) hb); have n3_ := Aside0.mk (Kd.V_lower (Kd.V_mono (ok' := fun k_ => some k_ ≠ (v681 : Value).ownBlock ∧ some k_ ≠ (v689 : Value).ownBlock) ho0 (fun k_ hk_ => ⟨(Kd.fresh' (Kd.R_lt (by (with_reducible repeat (first | apply Kd.R_alloc | apply Kd.R_drewN | apply Kd.R_drew)); exact HO682.out)) k_ hk_), (Kd.fresh' (Kd.R_lt (by (with_reducible repeat (first | apply Kd.R_alloc | apply Kd.R_drewN | apply Kd.R_drew)); exact HO690.out)) k_ hk_)⟩)) (below_size (by repeat (first | (with_reducible first | exact HB.out | apply below_alloc | apply pw_below_drewN | apply below_drew1) | exact HB.out)))); have n4_ := Aside0.mk (below_step (by repeat (first | (with_reducible first | exact HB.out | apply below_alloc | apply pw_below_drewN | apply below_drew1) | exact HB.out)) hb); clear HO682; clear HO685; clear HO690; clear HB; have HO682 := n0_; have HO685 := n1_; have HO690 := n2_; have HO693 := n3_; have HB := n4_; clear n0_ n1_ n2_ n3_ n4_; (try clear hb); (try clear hb2); (try clear hk); (try clear hi); (try clear ho0))); go_upto_region 31 with (first | (go_at_call 49; (with_reducible refine (spec_DrawWorstNames.calls _ _ l1 t678 _ ?side1 ?side2 A77.out).mono ?_); (case side1 => repeat (first | exact (Kd.C_below HR1.out HB.out) | (with_reducible refine Kd.C_alloc ?_ _) | (with_reducible refine Kd.C_drewN ?_ _) | (with_reducible refine Kd.C_drew ?_))); (case side2 => exact HC1.out); rintro e w83 ⟨rfl, hb⟩; have n0_ := Aside0.mk (below_step (by repeat (first | (with_reducible first | exact HB.out | apply below_alloc | apply pw_below_drewN | apply below_drew1) | exact HB.out)) hb); clear HB; have HB := n0_; clear n0_; (try clear hb); (try clear hb2); (try clear hk); (try clear hi)) | (go_at_call 32; (with_reducible refine (impl_WorstNames.calls kj48 t678 t679 t680 _ A78.out).mono ?_); rintro e w84 ⟨v681, rfl, ho0, hb⟩; have n0_ := Aside0.mk (Kd.R_lower ho0 (below_size (by repeat (first | (with_reducible first | exact HB.out | apply below_alloc | apply pw_below_drewN | apply below_drew1) | exact HB.out)))); have n1_ := Aside0.mk (below_step (by repeat (first | (with_reducible first | exact HB.out | apply below_alloc | apply pw_below_drewN | apply below_drew1) | exact HB.out)) hb); clear HB; have HO682 := n0_; have HB := n1_; clear n0_ n1_; (try clear hb); (try clear hb2); (try clear hk); (try clear hi); (try clear ho0)) | (go_at_call 31; (with_reducible refine (spec_WorstNames.calls kj48 t678 t683 t686 _ A79.out).mono ?_); rintro e w85 ⟨v684, rfl, ho0, hb⟩; have n0_ := Aside0.mk (Kd.R_below (by (with_reducible repeat (first | apply Kd.R_alloc | apply Kd.R_drewN | apply Kd.R_drew)); exact HO682.out) hb); have n1_ := Aside0.mk (Kd.V_lower (Kd.V_mono (ok' := fun k_ => some k_ ≠ (v681 : Value).ownBlock) ho0 (fun k_ hk_ => (Kd.fresh' (Kd.R_lt (by (with_reducible repeat (first | apply Kd.R_alloc | apply Kd.R_drewN | apply Kd.R_drew)); exact HO682.out)) k_ hk_))) (below_size (by repeat (first | (with_reducible first | exact HB.out | apply below_alloc | apply pw_below_drewN | apply below_drew1) | exact HB.out)))); have n2_ := Aside0.mk (below_step (by repeat (first | (with_reducible first | exact HB.out | apply below_alloc | apply pw_below_drewN | apply below_drew1) | exact HB.out)) hb); clear HO682; clear HB; have HO682 := n0_; have HO685 := n1_; have HB := n2_; clear n0_ n1_ n2_; (try clear hb); (try clear hb2); (try clear hk); (try clear hi); (try clear ho0)) | (go_at_call 30; (with_reducible refine (impl_BestNames.calls kj48 t678 t687 t688 _ A80.out).mono ?_); rintro e w86 ⟨v689, rfl, ho0, hb⟩; have n0_ := Aside0.mk (Kd.R_elder' (by (with_reducible repeat (first | apply Kd.R_alloc | apply Kd.R_drewN | apply Kd.R_drew)); exact HO682.out) (Kd.R_base ho0) hb); have n1_ := Aside0.mk (Kd.V_elder' (by (with_reducible repeat (first | apply Kd.V_alloc | apply Kd.V_drewN | apply Kd.V_drew)); exact HO685.out) (Kd.R_base ho0) hb); have n2_ := Aside0.mk (Kd.R_lower (Kd.R_new' ho0 (Kd.R_lt (by (with_reducible repeat (first | apply Kd.R_alloc | apply Kd.R_drewN | apply Kd.R_drew)); exact HO682.out))) (below_size (by repeat (first | (with_reducible first | exact HB.out | apply below_alloc | apply pw_below_drewN | apply below_drew1) | exact HB.out)))); have n3_ := Aside0.mk (below_step (by repeat (first | (with_reducible first | exact HB.out | apply below_alloc | apply pw_below_drewN | apply below_drew1) | exact HB.out)) hb); clear HO682; clear HO685; clear HB; have HO682 := n0_; have HO685 := n1_; have HO690 := n2_; have HB := n3_; clear n0_ n1_ n2_ n3_; (try clear hb); (try clear hb2); (try clear hk); (try clear hi); (try clear ho0)) | (go_at_call 29; (with_reducible refine (spec_BestNames.calls kj48 t678 t691 t694 _ A81.out).mono ?_); rintro e w87 ⟨v692, rfl, ho0, hb⟩; have n0_ := Aside0.mk (Kd.R_below (by (with_reducible repeat (first | apply Kd.R_alloc | apply Kd.R_drewN | apply Kd.R_drew)); exact HO682.out) hb); have n1_ := Aside0.mk (Kd.V_below (by (with_reducible repeat (first | apply Kd.V_alloc | apply Kd.V_drewN | apply Kd.V_drew)); exact HO685.out) hb); have n2_ := Aside0.mk (Kd.R_below (by (with_reducible repeat (first | apply Kd.R_alloc | apply Kd.R_drewN | apply Kd.R_drew)); exact HO690.out) hb); have n3_ := Aside0.mk (Kd.V_lower (Kd.V_mono (ok' := fun k_ => some k_ ≠ (v681 : Value).ownBlock ∧ some k_ ≠ (v689 : Value).ownBlock) ho0 (fun k_ hk_ => ⟨(Kd.fresh' (Kd.R_lt (by (with_reducible repeat (first | apply Kd.R_alloc | apply Kd.R_drewN | apply Kd.R_drew)); exact HO682.out)) k_ hk_), (Kd.fresh' (Kd.R_lt (by (with_reducible repeat (first | apply Kd.R_alloc | apply Kd.R_drewN | apply Kd.R_drew)); exact HO690.out)) k_ hk_)⟩)) (below_size (by repeat (first | (with_reducible first | exact HB.out | apply below_alloc | apply pw_below_drewN | apply below_drew1) | exact HB.out)))); have n4_ := Aside0.mk (below_step (by repeat (first | (with_reducible first | exact HB.out | apply below_alloc | apply pw_below_drewN | apply below_drew1) | exact HB.out)) hb); clear HO682; clear HO685; clear HO690; clear HB; have HO682 := n0_; have HO685 := n1_; have HO690 := n2_; have HO693 := n3_; have HB := n4_; clear n0_ n1_ n2_ n3_ n4_; (try clear hb); (try clear hb2); (try clear hk); (try clear hi); (try clear ho0))))
       (try simp only [Act.put, List.setIfInBounds_toArray, List.set_cons_zero, List.set_cons_succ])
       go_cut [244] (fun v244 wc => ∃ (kq : Nat) (x244_81 : Bool), v244 = .bool x244_81 ∧ Aside0 (laws_FnElectionsEnd.j6 kq l1 t678 t679 t680 t687 x244_81 = some r) ∧ Aside0 (kq ≤ kj48) ∧ Aside0 (Kd.R (Kd.int .i64) 3 wc w.heap.size (fun k_ => some k_ ≠ (v689 : Value).ownBlock) v681 t679) ∧ Aside0 (Kd.R (Kd.int .i64) 3 wc w.heap.size (fun k_ => some k_ ≠ (v681 : Value).ownBlock) v689 t687) ∧ Aside0 (Below w.heap.size w wc))
       case first => as_aux_lemma =>
        have H := HC82.out
        clear HC82
        by_cases c88 : (t680 != t686) = true
        ·as_aux_lemma =>
         rw [if_pos c88] at H
         have c88b0 : (t680 != t686) = true := c88
         (try (have c88b1 : decide (t680 = t686) = false := by simpa using c88))
         (try (have c88b2 : (t680 == t686) = false := by simpa using c88))
         (try (have c88b3 : ¬ (t680 = t686) := by simpa using c88))
         clear c88
         (first | rw [c88b0] | (simp only [i64_w, i32_w]; rw [c88b0]) | skip)
         have H' := Aside0.mk H
         clear H
         go_wp2
         repeat (go_quiet (fail); try go_wp2)
         go_meet
         case rel => exact ⟨_, (true), (by first | rfl | (simp; done) | (simp [*]; done)), H', ⟨by have := HJ10.out; have := HJ48.out; first | omega | exact Nat.le_refl _⟩, ⟨by (with_reducible repeat (first | apply Kd.R_alloc | apply Kd.R_drewN | apply Kd.R_drew)); exact Kd.R_mono HO682.out (fun _ hk => hk.2)⟩, ⟨by (with_reducible repeat (first | apply Kd.R_alloc | apply Kd.R_drewN | apply Kd.R_drew)); exact Kd.R_mono HO690.out (fun _ hk => hk.2)⟩, ⟨by repeat (first | (with_reducible first | exact HB.out | apply below_alloc | apply pw_below_drewN | apply below_drew1) | exact HB.out)⟩⟩
        ·as_aux_lemma =>
         rw [if_neg c88] at H
         have c88b0 : (t680 != t686) = false := by simpa using c88
         (try (have c88b1 : decide (t680 = t686) = true := by simpa using c88))
         (try (have c88b2 : (t680 == t686) = true := by simpa using c88))
         clear c88
         (first | rw [c88b0] | (simp only [i64_w, i32_w]; rw [c88b0]) | skip)
         replace H := Option.bind_eq_some_iff.mp H
         obtain ⟨t695, A890, H⟩ := H
         replace H : (if t695 = true then (if (t688 != t694) = true then (laws_FnElectionsEnd.j6 kj48 l1 t678 t679 t680 t687 true) else ((laws_zSame.f kj48 t687 t691).bind fun t696 => (laws_FnElectionsEnd.j6 kj48 l1 t678 t679 t680 t687 (!t696)))) else (laws_FnElectionsEnd.j6 kj48 l1 t678 t679 t680 t687 true)) = some r := H
         have A89 := Aside0.mk A890
         clear A890
         by_cases c90 : t695 = true
         ·as_aux_lemma =>
          subst c90
          have H1 : (if (t688 != t694) = true then (laws_FnElectionsEnd.j6 kj48 l1 t678 t679 t680 t687 true) else ((laws_zSame.f kj48 t687 t691).bind fun t696 => (laws_FnElectionsEnd.j6 kj48 l1 t678 t679 t680 t687 (!t696)))) = some r := by rw [if_pos rfl] at H; exact H
          clear H
          have H := H1
          clear H1
          by_cases c91 : (t688 != t694) = true
          ·as_aux_lemma =>
           rw [if_pos c91] at H
           have c91b0 : (t688 != t694) = true := c91
           (try (have c91b1 : decide (t688 = t694) = false := by simpa using c91))
           (try (have c91b2 : (t688 == t694) = false := by simpa using c91))
           (try (have c91b3 : ¬ (t688 = t694) := by simpa using c91))
           clear c91
           have H' := Aside0.mk H
           clear H
           obtain ⟨Ao92, co92, eo92⟩ := Kd.R_slice HO682.out
           subst eo92
           obtain ⟨Ao93, co93, eo93⟩ := Kd.V_slice HO685.out
           subst eo93
           go_wp2_with (first | (go_at_call 47; (with_reducible refine (laws_zSame.calls kj48 _ _ t679 _ _ t683 true _ ?side1 ?side2 ?side3 ?side4 A89.out).mono ?_); (case side1 => repeat (first | exact (Kd.R_reads' HO682.out).2.2 | (with_reducible refine Kd.C_alloc ?_ _) | (with_reducible refine Kd.C_drewN ?_ _) | (with_reducible refine Kd.C_drew ?_))); (case side2 => exact (Kd.R_reads' HO682.out).2.1); (case side3 => repeat (first | exact (Kd.V_reads' HO685.out).2.2 | (with_reducible refine Kd.C_alloc ?_ _) | (with_reducible refine Kd.C_drewN ?_ _) | (with_reducible refine Kd.C_drew ?_))); (case side4 => exact (Kd.V_reads' HO685.out).2.1); rintro e w' ⟨rfl, ⟨nd, rfl⟩⟩; (try first | exact ⟨rfl, _, World.drewN_drewN _ _ _⟩ | exact ⟨rfl, _, Eq.trans (World.drewN_drewN _ _ _) (congrArg (World.drewN _) (Nat.add_assoc _ _ _))⟩)))
           repeat (go_quiet (first | (go_at_call 47; (with_reducible refine (laws_zSame.calls kj48 _ _ t679 _ _ t683 true _ ?side1 ?side2 ?side3 ?side4 A89.out).mono ?_); (case side1 => repeat (first | exact (Kd.R_reads' HO682.out).2.2 | (with_reducible refine Kd.C_alloc ?_ _) | (with_reducible refine Kd.C_drewN ?_ _) | (with_reducible refine Kd.C_drew ?_))); (case side2 => exact (Kd.R_reads' HO682.out).2.1); (case side3 => repeat (first | exact (Kd.V_reads' HO685.out).2.2 | (with_reducible refine Kd.C_alloc ?_ _) | (with_reducible refine Kd.C_drewN ?_ _) | (with_reducible refine Kd.C_drew ?_))); (case side4 => exact (Kd.V_reads' HO685.out).2.1); rintro e w' ⟨rfl, ⟨nd, rfl⟩⟩; (try first | exact ⟨rfl, _, World.drewN_drewN _ _ _⟩ | exact ⟨rfl, _, Eq.trans (World.drewN_drewN _ _ _) (congrArg (World.drewN _) (Nat.add_assoc _ _ _))⟩))); try go_wp2_with (first | (go_at_call 47; (with_reducible refine (laws_zSame.calls kj48 _ _ t679 _ _ t683 true _ ?side1 ?side2 ?side3 ?side4 A89.out).mono ?_); (case side1 => repeat (first | exact (Kd.R_reads' HO682.out).2.2 | (with_reducible refine Kd.C_alloc ?_ _) | (with_reducible refine Kd.C_drewN ?_ _) | (with_reducible refine Kd.C_drew ?_))); (case side2 => exact (Kd.R_reads' HO682.out).2.1); (case side3 => repeat (first | exact (Kd.V_reads' HO685.out).2.2 | (with_reducible refine Kd.C_alloc ?_ _) | (with_reducible refine Kd.C_drewN ?_ _) | (with_reducible refine Kd.C_drew ?_))); (case side4 => exact (Kd.V_reads' HO685.out).2.1); rintro e w' ⟨rfl, ⟨nd, rfl⟩⟩; (try first | exact ⟨rfl, _, World.drewN_drewN _ _ _⟩ | exact ⟨rfl, _, Eq.trans (World.drewN_drewN _ _ _) (congrArg (World.drewN _) (Nat.add_assoc _ _ _))⟩))))
           go_meet
           case rel => exact ⟨_, (true), (by first | rfl | (simp; done) | (simp [*]; done)), H', ⟨by have := HJ10.out; have := HJ48.out; first | omega | exact Nat.le_refl _⟩, ⟨by (with_reducible repeat (first | apply Kd.R_alloc | apply Kd.R_drewN | apply Kd.R_drew)); exact Kd.R_mono HO682.out (fun _ hk => hk.2)⟩, ⟨by (with_reducible repeat (first | apply Kd.R_alloc | apply Kd.R_drewN | apply Kd.R_drew)); exact Kd.R_mono HO690.out (fun _ hk => hk.2)⟩, ⟨by repeat (first | (with_reducible first | exact HB.out | apply below_alloc | apply pw_below_drewN | apply below_drew1) | exact HB.out)⟩⟩
          ·as_aux_lemma =>
           rw [if_neg c91] at H
           have c91b0 : (t688 != t694) = false := by simpa using c91
           (try (have c91b1 : decide (t688 = t694) = true := by simpa using c91))
           (try (have c91b2 : (t688 == t694) = true := by simpa using c91))
           clear c91
           replace H := Option.bind_eq_some_iff.mp H
           obtain ⟨t696, A940, H⟩ := H
           replace H : (laws_FnElectionsEnd.j6 kj48 l1 t678 t679 t680 t687 (!t696)) = some r := H
           have A94 := Aside0.mk A940
           clear A940
           have H' := Aside0.mk H
           clear H
           obtain ⟨Ao95, co95, eo95⟩ := Kd.R_slice HO682.out
           subst eo95
           obtain ⟨Ao96, co96, eo96⟩ := Kd.V_slice HO685.out
           subst eo96
           go_wp2_with (first | (go_at_call 47; (with_reducible refine (laws_zSame.calls kj48 _ _ t679 _ _ t683 true _ ?side1 ?side2 ?side3 ?side4 A89.out).mono ?_); (case side1 => repeat (first | exact (Kd.R_reads' HO682.out).2.2 | (with_reducible refine Kd.C_alloc ?_ _) | (with_reducible refine Kd.C_drewN ?_ _) | (with_reducible refine Kd.C_drew ?_))); (case side2 => exact (Kd.R_reads' HO682.out).2.1); (case side3 => repeat (first | exact (Kd.V_reads' HO685.out).2.2 | (with_reducible refine Kd.C_alloc ?_ _) | (with_reducible refine Kd.C_drewN ?_ _) | (with_reducible refine Kd.C_drew ?_))); (case side4 => exact (Kd.V_reads' HO685.out).2.1); rintro e w' ⟨rfl, ⟨nd, rfl⟩⟩; (try first | exact ⟨rfl, _, World.drewN_drewN _ _ _⟩ | exact ⟨rfl, _, Eq.trans (World.drewN_drewN _ _ _) (congrArg (World.drewN _) (Nat.add_assoc _ _ _))⟩); obtain ⟨Ao97, co97, eo97⟩ := Kd.R_slice HO690.out; subst eo97; obtain ⟨Ao98, co98, eo98⟩ := Kd.V_slice HO693.out; subst eo98) | (go_at_call 47; (with_reducible refine (laws_zSame.calls kj48 _ _ t687 _ _ t691 t696 _ ?side1 ?side2 ?side3 ?side4 A94.out).mono ?_); (case side1 => repeat (first | exact (Kd.R_reads' HO690.out).2.2 | (with_reducible refine Kd.C_alloc ?_ _) | (with_reducible refine Kd.C_drewN ?_ _) | (with_reducible refine Kd.C_drew ?_))); (case side2 => exact (Kd.R_reads' HO690.out).2.1); (case side3 => repeat (first | exact (Kd.V_reads' HO693.out).2.2 | (with_reducible refine Kd.C_alloc ?_ _) | (with_reducible refine Kd.C_drewN ?_ _) | (with_reducible refine Kd.C_drew ?_))); (case side4 => exact (Kd.V_reads' HO693.out).2.1); rintro e w' ⟨rfl, ⟨nd, rfl⟩⟩; (try first | exact ⟨rfl, _, World.drewN_drewN _ _ _⟩ | exact ⟨rfl, _, Eq.trans (World.drewN_drewN _ _ _) (congrArg (World.drewN _) (Nat.add_assoc _ _ _))⟩)))
           repeat (go_quiet (first | (go_at_call 47; (with_reducible refine (laws_zSame.calls kj48 _ _ t679 _ _ t683 true _ ?side1 ?side2 ?side3 ?side4 A89.out).mono ?_); (case side1 => repeat (first | exact (Kd.R_reads' HO682.out).2.2 | (with_reducible refine Kd.C_alloc ?_ _) | (with_reducible refine Kd.C_drewN ?_ _) | (with_reducible refine Kd.C_drew ?_))); (case side2 => exact (Kd.R_reads' HO682.out).2.1); (case side3 => repeat (first | exact (Kd.V_reads' HO685.out).2.2 | (with_reducible refine Kd.C_alloc ?_ _) | (with_reducible refine Kd.C_drewN ?_ _) | (with_reducible refine Kd.C_drew ?_))); (case side4 => exact (Kd.V_reads' HO685.out).2.1); rintro e w' ⟨rfl, ⟨nd, rfl⟩⟩; (try first | exact ⟨rfl, _, World.drewN_drewN _ _ _⟩ | exact ⟨rfl, _, Eq.trans (World.drewN_drewN _ _ _) (congrArg (World.drewN _) (Nat.add_assoc _ _ _))⟩); obtain ⟨Ao97, co97, eo97⟩ := Kd.R_slice HO690.out; subst eo97; obtain ⟨Ao98, co98, eo98⟩ := Kd.V_slice HO693.out; subst eo98) | (go_at_call 47; (with_reducible refine (laws_zSame.calls kj48 _ _ t687 _ _ t691 t696 _ ?side1 ?side2 ?side3 ?side4 A94.out).mono ?_); (case side1 => repeat (first | exact (Kd.R_reads' HO690.out).2.2 | (with_reducible refine Kd.C_alloc ?_ _) | (with_reducible refine Kd.C_drewN ?_ _) | (with_reducible refine Kd.C_drew ?_))); (case side2 => exact (Kd.R_reads' HO690.out).2.1); (case side3 => repeat (first | exact (Kd.V_reads' HO693.out).2.2 | (with_reducible refine Kd.C_alloc ?_ _) | (with_reducible refine Kd.C_drewN ?_ _) | (with_reducible refine Kd.C_drew ?_))); (case side4 => exact (Kd.V_reads' HO693.out).2.1); rintro e w' ⟨rfl, ⟨nd, rfl⟩⟩; (try first | exact ⟨rfl, _, World.drewN_drewN _ _ _⟩ | exact ⟨rfl, _, Eq.trans (World.drewN_drewN _ _ _) (congrArg (World.drewN _) (Nat.add_assoc _ _ _))⟩))); try go_wp2_with (first | (go_at_call 47; (with_reducible refine (laws_zSame.calls kj48 _ _ t679 _ _ t683 true _ ?side1 ?side2 ?side3 ?side4 A89.out).mono ?_); (case side1 => repeat (first | exact (Kd.R_reads' HO682.out).2.2 | (with_reducible refine Kd.C_alloc ?_ _) | (with_reducible refine Kd.C_drewN ?_ _) | (with_reducible refine Kd.C_drew ?_))); (case side2 => exact (Kd.R_reads' HO682.out).2.1); (case side3 => repeat (first | exact (Kd.V_reads' HO685.out).2.2 | (with_reducible refine Kd.C_alloc ?_ _) | (with_reducible refine Kd.C_drewN ?_ _) | (with_reducible refine Kd.C_drew ?_))); (case side4 => exact (Kd.V_reads' HO685.out).2.1); rintro e w' ⟨rfl, ⟨nd, rfl⟩⟩; (try first | exact ⟨rfl, _, World.drewN_drewN _ _ _⟩ | exact ⟨rfl, _, Eq.trans (World.drewN_drewN _ _ _) (congrArg (World.drewN _) (Nat.add_assoc _ _ _))⟩); obtain ⟨Ao97, co97, eo97⟩ := Kd.R_slice HO690.out; subst eo97; obtain ⟨Ao98, co98, eo98⟩ := Kd.V_slice HO693.out; subst eo98) | (go_at_call 47; (with_reducible refine (laws_zSame.calls kj48 _ _ t687 _ _ t691 t696 _ ?side1 ?side2 ?side3 ?side4 A94.out).mono ?_); (case side1 => repeat (first | exact (Kd.R_reads' HO690.out).2.2 | (with_reducible refine Kd.C_alloc ?_ _) | (with_reducible refine Kd.C_drewN ?_ _) | (with_reducible refine Kd.C_drew ?_))); (case side2 => exact (Kd.R_reads' HO690.out).2.1); (case side3 => repeat (first | exact (Kd.V_reads' HO693.out).2.2 | (with_reducible refine Kd.C_alloc ?_ _) | (with_reducible refine Kd.C_drewN ?_ _) | (with_reducible refine Kd.C_drew ?_))); (case side4 => exact (Kd.V_reads' HO693.out).2.1); rintro e w' ⟨rfl, ⟨nd, rfl⟩⟩; (try first | exact ⟨rfl, _, World.drewN_drewN _ _ _⟩ | exact ⟨rfl, _, Eq.trans (World.drewN_drewN _ _ _) (congrArg (World.drewN _) (Nat.add_assoc _ _ _))⟩))))
           go_meet
           case rel => exact ⟨_, (!t696), (by first | rfl | (simp; done) | (simp [*]; done)), H', ⟨by have := HJ10.out; have := HJ48.out; first | omega | exact Nat.le_refl _⟩, ⟨by (with_reducible repeat (first | apply Kd.R_alloc | apply Kd.R_drewN | apply Kd.R_drew)); exact Kd.R_mono HO682.out (fun _ hk => hk.2)⟩, ⟨by (with_reducible repeat (first | apply Kd.R_alloc | apply Kd.R_drewN | apply Kd.R_drew)); exact Kd.R_mono HO690.out (fun _ hk => hk.2)⟩, ⟨by repeat (first | (with_reducible first | exact HB.out | apply below_alloc | apply pw_below_drewN | apply below_drew1) | exact HB.out)⟩⟩
         ·as_aux_lemma =>
          replace c90 := Bool.eq_false_iff.mpr c90
          subst c90
          have H1 : (laws_FnElectionsEnd.j6 kj48 l1 t678 t679 t680 t687 true) = some r := by rw [if_neg (show ¬ (false = true) by decide)] at H; exact H
          clear H
          have H := H1
          clear H1
          have H' := Aside0.mk H
          clear H
          obtain ⟨Ao99, co99, eo99⟩ := Kd.R_slice HO682.out
          subst eo99
          obtain ⟨Ao100, co100, eo100⟩ := Kd.V_slice HO685.out
          subst eo100
          go_wp2_with (first | (go_at_call 47; (with_reducible refine (laws_zSame.calls kj48 _ _ t679 _ _ t683 false _ ?side1 ?side2 ?side3 ?side4 A89.out).mono ?_); (case side1 => repeat (first | exact (Kd.R_reads' HO682.out).2.2 | (with_reducible refine Kd.C_alloc ?_ _) | (with_reducible refine Kd.C_drewN ?_ _) | (with_reducible refine Kd.C_drew ?_))); (case side2 => exact (Kd.R_reads' HO682.out).2.1); (case side3 => repeat (first | exact (Kd.V_reads' HO685.out).2.2 | (with_reducible refine Kd.C_alloc ?_ _) | (with_reducible refine Kd.C_drewN ?_ _) | (with_reducible refine Kd.C_drew ?_))); (case side4 => exact (Kd.V_reads' HO685.out).2.1); rintro e w' ⟨rfl, ⟨nd, rfl⟩⟩; (try first | exact ⟨rfl, _, World.drewN_drewN _ _ _⟩ | exact ⟨rfl, _, Eq.trans (World.drewN_drewN _ _ _) (congrArg (World.drewN _) (Nat.add_assoc _ _ _))⟩)))
          repeat (go_quiet (first | (go_at_call 47; (with_reducible refine (laws_zSame.calls kj48 _ _ t679 _ _ t683 false _ ?side1 ?side2 ?side3 ?side4 A89.out).mono ?_); (case side1 => repeat (first | exact (Kd.R_reads' HO682.out).2.2 | (with_reducible refine Kd.C_alloc ?_ _) | (with_reducible refine Kd.C_drewN ?_ _) | (with_reducible refine Kd.C_drew ?_))); (case side2 => exact (Kd.R_reads' HO682.out).2.1); (case side3 => repeat (first | exact (Kd.V_reads' HO685.out).2.2 | (with_reducible refine Kd.C_alloc ?_ _) | (with_reducible refine Kd.C_drewN ?_ _) | (with_reducible refine Kd.C_drew ?_))); (case side4 => exact (Kd.V_reads' HO685.out).2.1); rintro e w' ⟨rfl, ⟨nd, rfl⟩⟩; (try first | exact ⟨rfl, _, World.drewN_drewN _ _ _⟩ | exact ⟨rfl, _, Eq.trans (World.drewN_drewN _ _ _) (congrArg (World.drewN _) (Nat.add_assoc _ _ _))⟩))); try go_wp2_with (first | (go_at_call 47; (with_reducible refine (laws_zSame.calls kj48 _ _ t679 _ _ t683 false _ ?side1 ?side2 ?side3 ?side4 A89.out).mono ?_); (case side1 => repeat (first | exact (Kd.R_reads' HO682.out).2.2 | (with_reducible refine Kd.C_alloc ?_ _) | (with_reducible refine Kd.C_drewN ?_ _) | (with_reducible refine Kd.C_drew ?_))); (case side2 => exact (Kd.R_reads' HO682.out).2.1); (case side3 => repeat (first | exact (Kd.V_reads' HO685.out).2.2 | (with_reducible refine Kd.C_alloc ?_ _) | (with_reducible refine Kd.C_drewN ?_ _) | (with_reducible refine Kd.C_drew ?_))); (case side4 => exact (Kd.V_reads' HO685.out).2.1); rintro e w' ⟨rfl, ⟨nd, rfl⟩⟩; (try first | exact ⟨rfl, _, World.drewN_drewN _ _ _⟩ | exact ⟨rfl, _, Eq.trans (World.drewN_drewN _ _ _) (congrArg (World.drewN _) (Nat.add_assoc _ _ _))⟩))))
          go_meet
          case rel => exact ⟨_, (true), (by first | rfl | (simp; done) | (simp [*]; done)), H', ⟨by have := HJ10.out; have := HJ48.out; first | omega | exact Nat.le_refl _⟩, ⟨by (with_reducible repeat (first | apply Kd.R_alloc | apply Kd.R_drewN | apply Kd.R_drew)); exact Kd.R_mono HO682.out (fun _ hk => hk.2)⟩, ⟨by (with_reducible repeat (first | apply Kd.R_alloc | apply Kd.R_drewN | apply Kd.R_drew)); exact Kd.R_mono HO690.out (fun _ hk => hk.2)⟩, ⟨by repeat (first | (with_reducible first | exact HB.out | apply below_alloc | apply pw_below_drewN | apply below_drew1) | exact HB.out)⟩⟩
       case rest => as_aux_lemma =>
        clear HC82
        try clear c1
        try clear c2
        try clear p2
        try clear c3
        try clear c4
        try clear c5
        try clear c6
        try clear p6
        try clear q6
        try clear hx6
        try clear c7
        try clear c8
        try clear c9
        try clear c14
        try clear c18
        try clear c18b0
        try clear c18b1
        try clear c18b2
        try clear c20
        try clear c21
        try clear c21b0
        try clear c21b1
        try clear c21b2
        try clear c25
        try clear c25b0
        try clear c25b1
        try clear c26
        try clear c26b0
        try clear c26b1
        try clear c26b2
        try clear c29
        try clear c29b0
        try clear c29b1
        try clear c30
        try clear c30b0
        try clear c30b1
        try clear c30b2
        try clear c34
        try clear c34b0
        try clear c34b1
        try clear c34b2
        try clear c48
        try clear c50
        try clear c52
        try clear c52b0
        try clear c53
        try clear c53b0
        try clear c54
        try clear c54b0
        try clear c56
        try clear c56b0
        try clear c56b1
        try clear c56b2
        try clear c57
        try clear c57b0
        try clear c58
        try clear c58b0
        try clear c59
        try clear c59b0
        try clear c59b1
        try clear c59b2
        try clear c61
        try clear c61b0
        try clear c62
        try clear c62b0
        try clear c63
        try clear c63b0
        try clear c64
        try clear p64
        try clear c66
        try clear c66b0
        try clear c67
        try clear p67
        try clear q67
        try clear hx67
        try clear c68
        try clear c68b0
        try clear c68b1
        try clear c68b2
        try clear c70
        try clear c70b0
        try clear c71
        try clear c71b0
        try clear c72
        try clear c72b0
        try clear c73
        try clear c73b0
        try clear c74
        try clear c74b0
        try clear c75
        try clear c75b0
        try clear c76
        try clear c76b0
        try clear c88
        try clear c88b0
        try clear c88b1
        try clear c88b2
        try clear c90
        try clear c91
        try clear c91b0
        try clear c91b1
        try clear c91b2
        try clear hx673_0
        try clear hx674_0
        try clear hx675_0
        try clear hx676_0
        try clear hx677_0
        try clear p2
        try clear p6
        try clear p64
        try clear p67
        try clear p673
        try clear p674
        try clear p675
        try clear p676
        try clear p677
        try clear q6
        try clear q67
        try clear q673
        try clear q674
        try clear q675
        try clear q676
        try clear q677
        obtain ⟨kq, x244_81, rfl, HA, HJ81, HO_21, HO_25, HB⟩ := hcut
        cases kq with
        | zero => exact absurd HA.out (by simp [laws_FnElectionsEnd.j6])
        | succ kj81 =>
         have H := HA.out
         clear HA
         simp only [laws_FnElectionsEnd.j6] at H
         by_cases c101 : x244_81 = true
         ·as_aux_lemma =>
          subst c101
          have H1 : (some false) = some r := by rw [if_pos rfl] at H; exact H
          clear H
          have H := H1
          clear H1
          obtain rfl := Option.some.inj H
          go_wp2
          repeat (go_quiet (fail); try go_wp2)
          go_ret
          exact ⟨by first | rfl | (simp [errW_none, errW_some] <;> rfl) | (simp [*, errW_none, errW_some] <;> rfl), by repeat (first | (with_reducible first | exact HB.out | apply below_alloc | apply pw_below_drewN | apply below_drew1) | exact HB.out)⟩
         ·as_aux_lemma =>
          replace c101 := Bool.eq_false_iff.mpr c101
          subst c101
          have H1 : (if t680 = true then ((impl_SimpleMessages.f kj81 t679).bind fun bt697 => ((impl_SimpleMessages.f kj81 t687).bind fun bt699 => (if bt697.2 = true then (if bt697.1 = (wrap64 (Int.tdiv (wrap64 (t678 * (wrap64 (t678 + 1)))) 2)) then (if bt699.2 = true then (if bt699.1 = (wrap64 ((wrap64 (2 * t678)) - 1)) then (laws_FnElectionsEnd.j7 kj81 l1) else (some false)) else (some false)) else (some false)) else (some false)))) else (laws_FnElectionsEnd.j7 kj81 l1)) = some r := by rw [if_neg (show ¬ (false = true) by decide)] at H; exact H
          clear H
          have H := H1
          clear H1
          have HC102 := Aside0.mk H
          clear H
          go_upto_if 245 with (fail)
          repeat (go_quiet (fail); go_upto_if 245 with (fail))
          go_cut [] (fun wc => ∃ (kq : Nat), Aside0 (laws_FnElectionsEnd.j7 kq l1 = some r) ∧ Aside0 (kq ≤ kj81) ∧ Aside0 (Below w.heap.size w wc))
          case first => as_aux_lemma =>
           have H := HC102.out
           clear HC102
           by_cases c103 : t680 = true
           ·as_aux_lemma =>
            subst c103
            have H1 : ((impl_SimpleMessages.f kj81 t679).bind fun bt697 => ((impl_SimpleMessages.f kj81 t687).bind fun bt699 => (if bt697.2 = true then (if bt697.1 = (wrap64 (Int.tdiv (wrap64 (t678 * (wrap64 (t678 + 1)))) 2)) then (if bt699.2 = true then (if bt699.1 = (wrap64 ((wrap64 (2 * t678)) - 1)) then (laws_FnElectionsEnd.j7 kj81 l1) else (some false)) else (some false)) else (some false)) else (some false)))) = some r := by rw [if_pos rfl] at H; exact H
            clear H
            have H := H1
            clear H1
            replace H := Option.bind_eq_some_iff.mp H
            obtain ⟨⟨t697, t698⟩, A1040, H⟩ := H
            replace H : ((impl_SimpleMessages.f kj81 t687).bind fun bt699 => (if t698 = true then (if t697 = (wrap64 (Int.tdiv (wrap64 (t678 * (wrap64 (t678 + 1)))) 2)) then (if bt699.2 = true then (if bt699.1 = (wrap64 ((wrap64 (2 * t678)) - 1)) then (laws_FnElectionsEnd.j7 kj81 l1) else (some false)) else (some false)) else (some false)) else (some false))) = some r := H
            have A104 := Aside0.mk A1040
            clear A1040
            replace H := Option.bind_eq_some_iff.mp H
            obtain ⟨⟨t699, t700⟩, A1050, H⟩ := H
            replace H : (if t698 = true then (if t697 = (wrap64 (Int.tdiv (wrap64 (t678 * (wrap64 (t678 + 1)))) 2)) then (if t700 = true then (if t699 = (wrap64 ((wrap64 (2 * t678)) - 1)) then (laws_FnElectionsEnd.j7 kj81 l1) else (some false)) else (some false)) else (some false)) else (some false)) = some r := H
            have A105 := Aside0.mk A1050
            clear A1050
            by_cases c106 : t698 = true
            ·as_aux_lemma =>
             subst c106
             have H1 : (if t697 = (wrap64 (Int.tdiv (wrap64 (t678 * (wrap64 (t678 + 1)))) 2)) then (if t700 = true then (if t699 = (wrap64 ((wrap64 (2 * t678)) - 1)) then (laws_FnElectionsEnd.j7 kj81 l1) else (some false)) else (some false)) else (some false)) = some r := by rw [if_pos rfl] at H; exact H
             clear H
             have H := H1
             clear H1
             by_cases c107 : t697 = (wrap64 (Int.tdiv (wrap64 (t678 * (wrap64 (t678 + 1)))) 2))
             ·as_aux_lemma =>
              rw [if_pos c107] at H
              have c107b0 : (t697 == (wrap64 (Int.tdiv (wrap64 (t678 * (wrap64 (t678 + 1)))) 2))) = true := beq_iff_eq.mpr c107
              have c107b1 : (t697 != (wrap64 (Int.tdiv (wrap64 (t678 * (wrap64 (t678 + 1)))) 2))) = false := bne_eq_false_iff_eq.mpr c107
              clear c107
              (first | rw [c107b0] | (simp only [i64_w, i32_w]; rw [c107b0]) | skip)
              by_cases c108 : t700 = true
              ·as_aux_lemma =>
               subst c108
               have H1 : (if t699 = (wrap64 ((wrap64 (2 * t678)) - 1)) then (laws_FnElectionsEnd.j7 kj81 l1) else (some false)) = some r := by rw [if_pos rfl] at H; exact H
               clear H
               have H := H1
               clear H1
               by_cases c109 : t699 = (wrap64 ((wrap64 (2 * t678)) - 1))
               ·as_aux_lemma =>
                rw [if_pos c109] at H
                have c109b0 : (t699 == (wrap64 ((wrap64 (2 * t678)) - 1))) = true := beq_iff_eq.mpr c109
                have c109b1 : (t699 != (wrap64 ((wrap64 (2 * t678)) - 1))) = false := bne_eq_false_iff_eq.mpr c109
                clear c109
                have H' := Aside0.mk H
                clear H
                obtain ⟨Ao110, co110, eo110⟩ := Kd.R_slice HO_21.out
                subst eo110
                go_wp2_with (first | (go_at_call 28; (with_reducible refine (impl_SimpleMessages.calls kj81 _ _ t679 t697 true _ ?side1 ?side2 A104.out).mono ?_); (case side1 => repeat (first | exact (Kd.R_reads' HO_21.out).2.2 | (with_reducible refine Kd.C_alloc ?_ _) | (with_reducible refine Kd.C_drewN ?_ _) | (with_reducible refine Kd.C_drew ?_))); (case side2 => exact (Kd.R_reads' HO_21.out).2.1); rintro e w111 ⟨rfl, hb⟩; have n0_ := Aside0.mk (Kd.R_below (by (with_reducible repeat (first | apply Kd.R_alloc | apply Kd.R_drewN | apply Kd.R_drew)); exact HO_21.out) hb); have n1_ := Aside0.mk (Kd.R_below (by (with_reducible repeat (first | apply Kd.R_alloc | apply Kd.R_drewN | apply Kd.R_drew)); exact HO_25.out) hb); have n2_ := Aside0.mk (below_step (by repeat (first | (with_reducible first | exact HB.out | apply below_alloc | apply pw_below_drewN | apply below_drew1) | exact HB.out)) hb); clear HO_21; clear HO_25; clear HB; have HO_21 := n0_; have HO_25 := n1_; have HB := n2_; clear n0_ n1_ n2_; (try clear hb); (try clear hb2); (try clear hk); (try clear hi); obtain ⟨Ao112, co112, eo112⟩ := Kd.R_slice HO_25.out; subst eo112) | (go_at_call 28; (with_reducible refine (impl_SimpleMessages.calls kj81 _ _ t687 t699 true _ ?side1 ?side2 A105.out).mono ?_); (case side1 => repeat (first | exact (Kd.R_reads' HO_25.out).2.2 | (with_reducible refine Kd.C_alloc ?_ _) | (with_reducible refine Kd.C_drewN ?_ _) | (with_reducible refine Kd.C_drew ?_))); (case side2 => exact (Kd.R_reads' HO_25.out).2.1); rintro e w113 ⟨rfl, hb⟩; have n0_ := Aside0.mk (Kd.R_below (by (with_reducible repeat (first | apply Kd.R_alloc | apply Kd.R_drewN | apply Kd.R_drew)); exact HO_21.out) hb); have n1_ := Aside0.mk (Kd.R_below (by (with_reducible repeat (first | apply Kd.R_alloc | apply Kd.R_drewN | apply Kd.R_drew)); exact HO_25.out) hb); have n2_ := Aside0.mk (below_step (by repeat (first | (with_reducible first | exact HB.out | apply below_alloc | apply pw_below_drewN | apply below_drew1) | exact HB.out)) hb); clear HO_21; clear HO_25; clear HB; have HO_21 := n0_; have HO_25 := n1_; have HB := n2_; clear n0_ n1_ n2_; (try clear hb); (try clear hb2); (try clear hk); (try clear hi)))
                repeat (go_quiet (first | (go_at_call 28; (with_reducible refine (impl_SimpleMessages.calls kj81 _ _ t679 t697 true _ ?side1 ?side2 A104.out).mono ?_); (case side1 => repeat (first | exact (Kd.R_reads' HO_21.out).2.2 | (with_reducible refine Kd.C_alloc ?_ _) | (with_reducible refine Kd.C_drewN ?_ _) | (with_reducible refine Kd.C_drew ?_))); (case side2 => exact (Kd.R_reads' HO_21.out).2.1); rintro e w111 ⟨rfl, hb⟩; have n0_ := Aside0.mk (Kd.R_below (by (with_reducible repeat (first | apply Kd.R_alloc | apply Kd.R_drewN | apply Kd.R_drew)); exact HO_21.out) hb); have n1_ := Aside0.mk (Kd.R_below (by (with_reducible repeat (first | apply Kd.R_alloc | apply Kd.R_drewN | apply Kd.R_drew)); exact HO_25.out) hb); have n2_ := Aside0.mk (below_step (by repeat (first | (with_reducible first | exact HB.out | apply below_alloc | apply pw_below_drewN | apply below_drew1) | exact HB.out)) hb); clear HO_21; clear HO_25; clear HB; have HO_21 := n0_; have HO_25 := n1_; have HB := n2_; clear n0_ n1_ n2_; (try clear hb); (try clear hb2); (try clear hk); (try clear hi); obtain ⟨Ao112, co112, eo112⟩ := Kd.R_slice HO_25.out; subst eo112) | (go_at_call 28; (with_reducible refine (impl_SimpleMessages.calls kj81 _ _ t687 t699 true _ ?side1 ?side2 A105.out).mono ?_); (case side1 => repeat (first | exact (Kd.R_reads' HO_25.out).2.2 | (with_reducible refine Kd.C_alloc ?_ _) | (with_reducible refine Kd.C_drewN ?_ _) | (with_reducible refine Kd.C_drew ?_))); (case side2 => exact (Kd.R_reads' HO_25.out).2.1); rintro e w113 ⟨rfl, hb⟩; have n0_ := Aside0.mk (Kd.R_below (by (with_reducible repeat (first | apply Kd.R_alloc | apply Kd.R_drewN | apply Kd.R_drew)); exact HO_21.out) hb); have n1_ := Aside0.mk (Kd.R_below (by (with_reducible repeat (first | apply Kd.R_alloc | apply Kd.R_drewN | apply Kd.R_drew)); exact HO_25.out) hb); have n2_ := Aside0.mk (below_step (by repeat (first | (with_reducible first | exact HB.out | apply below_alloc | apply pw_below_drewN | apply below_drew1) | exact HB.out)) hb); clear HO_21; clear HO_25; clear HB; have HO_21 := n0_; have HO_25 := n1_; have HB := n2_; clear n0_ n1_ n2_; (try clear hb); (try clear hb2); (try clear hk); (try clear hi))); try go_wp2_with (first | (go_at_call 28; (with_reducible refine (impl_SimpleMessages.calls kj81 _ _ t679 t697 true _ ?side1 ?side2 A104.out).mono ?_); (case side1 => repeat (first | exact (Kd.R_reads' HO_21.out).2.2 | (with_reducible refine Kd.C_alloc ?_ _) | (with_reducible refine Kd.C_drewN ?_ _) | (with_reducible refine Kd.C_drew ?_))); (case side2 => exact (Kd.R_reads' HO_21.out).2.1); rintro e w111 ⟨rfl, hb⟩; have n0_ := Aside0.mk (Kd.R_below (by (with_reducible repeat (first | apply Kd.R_alloc | apply Kd.R_drewN | apply Kd.R_drew)); exact HO_21.out) hb); have n1_ := Aside0.mk (Kd.R_below (by (with_reducible repeat (first | apply Kd.R_alloc | apply Kd.R_drewN | apply Kd.R_drew)); exact HO_25.out) hb); have n2_ := Aside0.mk (below_step (by repeat (first | (with_reducible first | exact HB.out | apply below_alloc | apply pw_below_drewN | apply below_drew1) | exact HB.out)) hb); clear HO_21; clear HO_25; clear HB; have HO_21 := n0_; have HO_25 := n1_; have HB := n2_; clear n0_ n1_ n2_; (try clear hb); (try clear hb2); (try clear hk); (try clear hi); obtain ⟨Ao112, co112, eo112⟩ := Kd.R_slice HO_25.out; subst eo112) | (go_at_call 28; (with_reducible refine (impl_SimpleMessages.calls kj81 _ _ t687 t699 true _ ?side1 ?side2 A105.out).mono ?_); (case side1 => repeat (first | exact (Kd.R_reads' HO_25.out).2.2 | (with_reducible refine Kd.C_alloc ?_ _) | (with_reducible refine Kd.C_drewN ?_ _) | (with_reducible refine Kd.C_drew ?_))); (case side2 => exact (Kd.R_reads' HO_25.out).2.1); rintro e w113 ⟨rfl, hb⟩; have n0_ := Aside0.mk (Kd.R_below (by (with_reducible repeat (first | apply Kd.R_alloc | apply Kd.R_drewN | apply Kd.R_drew)); exact HO_21.out) hb); have n1_ := Aside0.mk (Kd.R_below (by (with_reducible repeat (first | apply Kd.R_alloc | apply Kd.R_drewN | apply Kd.R_drew)); exact HO_25.out) hb); have n2_ := Aside0.mk (below_step (by repeat (first | (with_reducible first | exact HB.out | apply below_alloc | apply pw_below_drewN | apply below_drew1) | exact HB.out)) hb); clear HO_21; clear HO_25; clear HB; have HO_21 := n0_; have HO_25 := n1_; have HB := n2_; clear n0_ n1_ n2_; (try clear hb); (try clear hb2); (try clear hk); (try clear hi))))
                go_meet
                case rel => exact ⟨_, H', ⟨by have := HJ10.out; have := HJ48.out; have := HJ81.out; first | omega | exact Nat.le_refl _⟩, ⟨by repeat (first | (with_reducible first | exact HB.out | apply below_alloc | apply pw_below_drewN | apply below_drew1) | exact HB.out)⟩⟩
               ·as_aux_lemma =>
                rw [if_neg c109] at H
                have c109b0 : (t699 == (wrap64 ((wrap64 (2 * t678)) - 1))) = false := beq_eq_false_iff_ne.mpr c109
                have c109b1 : (t699 != (wrap64 ((wrap64 (2 * t678)) - 1))) = true := bne_iff_ne.mpr c109
                obtain rfl := Option.some.inj H
                obtain ⟨Ao114, co114, eo114⟩ := Kd.R_slice HO_21.out
                subst eo114
                go_wp2_with (first | (go_at_call 28; (with_reducible refine (impl_SimpleMessages.calls kj81 _ _ t679 t697 true _ ?side1 ?side2 A104.out).mono ?_); (case side1 => repeat (first | exact (Kd.R_reads' HO_21.out).2.2 | (with_reducible refine Kd.C_alloc ?_ _) | (with_reducible refine Kd.C_drewN ?_ _) | (with_reducible refine Kd.C_drew ?_))); (case side2 => exact (Kd.R_reads' HO_21.out).2.1); rintro e w115 ⟨rfl, hb⟩; have n0_ := Aside0.mk (Kd.R_below (by (with_reducible repeat (first | apply Kd.R_alloc | apply Kd.R_drewN | apply Kd.R_drew)); exact HO_21.out) hb); have n1_ := Aside0.mk (Kd.R_below (by (with_reducible repeat (first | apply Kd.R_alloc | apply Kd.R_drewN | apply Kd.R_drew)); exact HO_25.out) hb); have n2_ := Aside0.mk (below_step (by repeat (first | (with_reducible first | exact HB.out | apply below_alloc | apply pw_below_drewN | apply below_drew1) | exact HB.out)) hb); clear HO_21; clear HO_25; clear HB; have HO_21 := n0_; have HO_25 := n1_; have HB := n2_; clear n0_ n1_ n2_; (try clear hb); (try clear hb2); (try clear hk); (try clear hi); obtain ⟨Ao116, co116, eo116⟩ := Kd.R_slice HO_25.out; subst eo116) | (go_at_call 28; (with_reducible refine (impl_SimpleMessages.calls kj81 _ _ t687 t699 true _ ?side1 ?side2 A105.out).mono ?_); (case side1 => repeat (first | exact (Kd.R_reads' HO_25.out).2.2 | (with_reducible refine Kd.C_alloc ?_ _) | (with_reducible refine Kd.C_drewN ?_ _) | (with_reducible refine Kd.C_drew ?_))); (case side2 => exact (Kd.R_reads' HO_25.out).2.1); rintro e w117 ⟨rfl, hb⟩; have n0_ := Aside0.mk (Kd.R_below (by (with_reducible repeat (first | apply Kd.R_alloc | apply Kd.R_drewN | apply Kd.R_drew)); exact HO_21.out) hb); have n1_ := Aside0.mk (Kd.R_below (by (with_reducible repeat (first | apply Kd.R_alloc | apply Kd.R_drewN | apply Kd.R_drew)); exact HO_25.out) hb); have n2_ := Aside0.mk (below_step (by repeat (first | (with_reducible first | exact HB.out | apply below_alloc | apply pw_below_drewN | apply below_drew1) | exact HB.out)) hb); clear HO_21; clear HO_25; clear HB; have HO_21 := n0_; have HO_25 := n1_; have HB := n2_; clear n0_ n1_ n2_; (try clear hb); (try clear hb2); (try clear hk); (try clear hi)))
                repeat (go_quiet (first | (go_at_call 28; (with_reducible refine (impl_SimpleMessages.calls kj81 _ _ t679 t697 true _ ?side1 ?side2 A104.out).mono ?_); (case side1 => repeat (first | exact (Kd.R_reads' HO_21.out).2.2 | (with_reducible refine Kd.C_alloc ?_ _) | (with_reducible refine Kd.C_drewN ?_ _) | (with_reducible refine Kd.C_drew ?_))); (case side2 => exact (Kd.R_reads' HO_21.out).2.1); rintro e w115 ⟨rfl, hb⟩; have n0_ := Aside0.mk (Kd.R_below (by (with_reducible repeat (first | apply Kd.R_alloc | apply Kd.R_drewN | apply Kd.R_drew)); exact HO_21.out) hb); have n1_ := Aside0.mk (Kd.R_below (by (with_reducible repeat (first | apply Kd.R_alloc | apply Kd.R_drewN | apply Kd.R_drew)); exact HO_25.out) hb); have n2_ := Aside0.mk (below_step (by repeat (first | (with_reducible first | exact HB.out | apply below_alloc | apply pw_below_drewN | apply below_drew1) | exact HB.out)) hb); clear HO_21; clear HO_25; clear HB; have HO_21 := n0_; have HO_25 := n1_; have HB := n2_; clear n0_ n1_ n2_; (try clear hb); (try clear hb2); (try clear hk); (try clear hi); obtain ⟨Ao116, co116, eo116⟩ := Kd.R_slice HO_25.out; subst eo116) | (go_at_call 28; (with_reducible refine (impl_SimpleMessages.calls kj81 _ _ t687 t699 true _ ?side1 ?side2 A105.out).mono ?_); (case side1 => repeat (first | exact (Kd.R_reads' HO_25.out).2.2 | (with_reducible refine Kd.C_alloc ?_ _) | (with_reducible refine Kd.C_drewN ?_ _) | (with_reducible refine Kd.C_drew ?_))); (case side2 => exact (Kd.R_reads' HO_25.out).2.1); rintro e w117 ⟨rfl, hb⟩; have n0_ := Aside0.mk (Kd.R_below (by (with_reducible repeat (first | apply Kd.R_alloc | apply Kd.R_drewN | apply Kd.R_drew)); exact HO_21.out) hb); have n1_ := Aside0.mk (Kd.R_below (by (with_reducible repeat (first | apply Kd.R_alloc | apply Kd.R_drewN | apply Kd.R_drew)); exact HO_25.out) hb); have n2_ := Aside0.mk (below_step (by repeat (first | (with_reducible first | exact HB.out | apply below_alloc | apply pw_below_drewN | apply below_drew1) | exact HB.out)) hb); clear HO_21; clear HO_25; clear HB; have HO_21 := n0_; have HO_25 := n1_; have HB := n2_; clear n0_ n1_ n2_; (try clear hb); (try clear hb2); (try clear hk); (try clear hi))); try go_wp2_with (first | (go_at_call 28; (with_reducible refine (impl_SimpleMessages.calls kj81 _ _ t679 t697 true _ ?side1 ?side2 A104.out).mono ?_); (case side1 => repeat (first | exact (Kd.R_reads' HO_21.out).2.2 | (with_reducible refine Kd.C_alloc ?_ _) | (with_reducible refine Kd.C_drewN ?_ _) | (with_reducible refine Kd.C_drew ?_))); (case side2 => exact (Kd.R_reads' HO_21.out).2.1); rintro e w115 ⟨rfl, hb⟩; have n0_ := Aside0.mk (Kd.R_below (by (with_reducible repeat (first | apply Kd.R_alloc | apply Kd.R_drewN | apply Kd.R_drew)); exact HO_21.out) hb); have n1_ := Aside0.mk (Kd.R_below (by (with_reducible repeat (first | apply Kd.R_alloc | apply Kd.R_drewN | apply Kd.R_drew)); exact HO_25.out) hb); have n2_ := Aside0.mk (below_step (by repeat (first | (with_reducible first | exact HB.out | apply below_alloc | apply pw_below_drewN | apply below_drew1) | exact HB.out)) hb); clear HO_21; clear HO_25; clear HB; have HO_21 := n0_; have HO_25 := n1_; have HB := n2_; clear n0_ n1_ n2_; (try clear hb); (try clear hb2); (try clear hk); (try clear hi); obtain ⟨Ao116, co116, eo116⟩ := Kd.R_slice HO_25.out; subst eo116) | (go_at_call 28; (with_reducible refine (impl_SimpleMessages.calls kj81 _ _ t687 t699 true _ ?side1 ?side2 A105.out).mono ?_); (case side1 => repeat (first | exact (Kd.R_reads' HO_25.out).2.2 | (with_reducible refine Kd.C_alloc ?_ _) | (with_reducible refine Kd.C_drewN ?_ _) | (with_reducible refine Kd.C_drew ?_))); (case side2 => exact (Kd.R_reads' HO_25.out).2.1); rintro e w117 ⟨rfl, hb⟩; have n0_ := Aside0.mk (Kd.R_below (by (with_reducible repeat (first | apply Kd.R_alloc | apply Kd.R_drewN | apply Kd.R_drew)); exact HO_21.out) hb); have n1_ := Aside0.mk (Kd.R_below (by (with_reducible repeat (first | apply Kd.R_alloc | apply Kd.R_drewN | apply Kd.R_drew)); exact HO_25.out) hb); have n2_ := Aside0.mk (below_step (by repeat (first | (with_reducible first | exact HB.out | apply below_alloc | apply pw_below_drewN | apply below_drew1) | exact HB.out)) hb); clear HO_21; clear HO_25; clear HB; have HO_21 := n0_; have HO_25 := n1_; have HB := n2_; clear n0_ n1_ n2_; (try clear hb); (try clear hb2); (try clear hk); (try clear hi))))
                go_ret
                exact ⟨by first | rfl | (simp [errW_none, errW_some] <;> rfl) | (simp [*, errW_none, errW_some] <;> rfl), by repeat (first | (with_reducible first | exact HB.out | apply below_alloc | apply pw_below_drewN | apply below_drew1) | exact HB.out)⟩
              ·as_aux_lemma =>
               replace c108 := Bool.eq_false_iff.mpr c108
               subst c108
               have H1 : (some false) = some r := by rw [if_neg (show ¬ (false = true) by decide)] at H; exact H
               clear H
               have H := H1
               clear H1
               obtain rfl := Option.some.inj H
               obtain ⟨Ao118, co118, eo118⟩ := Kd.R_slice HO_21.out
               subst eo118
               go_wp2_with (first | (go_at_call 28; (with_reducible refine (impl_SimpleMessages.calls kj81 _ _ t679 t697 true _ ?side1 ?side2 A104.out).mono ?_); (case side1 => repeat (first | exact (Kd.R_reads' HO_21.out).2.2 | (with_reducible refine Kd.C_alloc ?_ _) | (with_reducible refine Kd.C_drewN ?_ _) | (with_reducible refine Kd.C_drew ?_))); (case side2 => exact (Kd.R_reads' HO_21.out).2.1); rintro e w119 ⟨rfl, hb⟩; have n0_ := Aside0.mk (Kd.R_below (by (with_reducible repeat (first | apply Kd.R_alloc | apply Kd.R_drewN | apply Kd.R_drew)); exact HO_21.out) hb); have n1_ := Aside0.mk (Kd.R_below (by (with_reducible repeat (first | apply Kd.R_alloc | apply Kd.R_drewN | apply Kd.R_drew)); exact HO_25.out) hb); have n2_ := Aside0.mk (below_step (by repeat (first | (with_reducible first | exact HB.out | apply below_alloc | apply pw_below_drewN | apply below_drew1) | exact HB.out)) hb); clear HO_21; clear HO_25; clear HB; have HO_21 := n0_; have HO_25 := n1_; have HB := n2_; clear n0_ n1_ n2_; (try clear hb); (try clear hb2); (try clear hk); (try clear hi); obtain ⟨Ao120, co120, eo120⟩ := Kd.R_slice HO_25.out; subst eo120) | (go_at_call 28; (with_reducible refine (impl_SimpleMessages.calls kj81 _ _ t687 t699 false _ ?side1 ?side2 A105.out).mono ?_); (case side1 => repeat (first | exact (Kd.R_reads' HO_25.out).2.2 | (with_reducible refine Kd.C_alloc ?_ _) | (with_reducible refine Kd.C_drewN ?_ _) | (with_reducible refine Kd.C_drew ?_))); (case side2 => exact (Kd.R_reads' HO_25.out).2.1); rintro e w121 ⟨rfl, hb⟩; have n0_ := Aside0.mk (Kd.R_below (by (with_reducible repeat (first | apply Kd.R_alloc | apply Kd.R_drewN | apply Kd.R_drew)); exact HO_21.out) hb); have n1_ := Aside0.mk (Kd.R_below (by (with_reducible repeat (first | apply Kd.R_alloc | apply Kd.R_drewN | apply Kd.R_drew)); exact HO_25.out) hb); have n2_ := Aside0.mk (below_step (by repeat (first | (with_reducible first | exact HB.out | apply below_alloc | apply pw_below_drewN | apply below_drew1) | exact HB.out)) hb); clear HO_21; clear HO_25; clear HB; have HO_21 := n0_; have HO_25 := n1_; have HB := n2_; clear n0_ n1_ n2_; (try clear hb); (try clear hb2); (try clear hk); (try clear hi)))
               repeat (go_quiet (first | (go_at_call 28; (with_reducible refine (impl_SimpleMessages.calls kj81 _ _ t679 t697 true _ ?side1 ?side2 A104.out).mono ?_); (case side1 => repeat (first | exact (Kd.R_reads' HO_21.out).2.2 | (with_reducible refine Kd.C_alloc ?_ _) | (with_reducible refine Kd.C_drewN ?_ _) | (with_reducible refine Kd.C_drew ?_))); (case side2 => exact (Kd.R_reads' HO_21.out).2.1); rintro e w119 ⟨rfl, hb⟩; have n0_ := Aside0.mk (Kd.R_below (by (with_reducible repeat (first | apply Kd.R_alloc | apply Kd.R_drewN | apply Kd.R_drew)); exact HO_21.out) hb); have n1_ := Aside0.mk (Kd.R_below (by (with_reducible repeat (first | apply Kd.R_alloc | apply Kd.R_drewN | apply Kd.R_drew)); exact HO_25.out) hb); have n2_ := Aside0.mk (below_step (by repeat (first | (with_reducible first | exact HB.out | apply below_alloc | apply pw_below_drewN | apply below_drew1) | exact HB.out)) hb); clear HO_21; clear HO_25; clear HB; have HO_21 := n0_; have HO_25 := n1_; have HB := n2_; clear n0_ n1_ n2_; (try clear hb); (try clear hb2); (try clear hk); (try clear hi); obtain ⟨Ao120, co120, eo120⟩ := Kd.R_slice HO_25.out; subst eo120) | (go_at_call 28; (with_reducible refine (impl_SimpleMessages.calls kj81 _ _ t687 t699 false _ ?side1 ?side2 A105.out).mono ?_); (case side1 => repeat (first | exact (Kd.R_reads' HO_25.out).2.2 | (with_reducible refine Kd.C_alloc ?_ _) | (with_reducible refine Kd.C_drewN ?_ _) | (with_reducible refine Kd.C_drew ?_))); (case side2 => exact (Kd.R_reads' HO_25.out).2.1); rintro e w121 ⟨rfl, hb⟩; have n0_ := Aside0.mk (Kd.R_below (by (with_reducible repeat (first | apply Kd.R_alloc | apply Kd.R_drewN | apply Kd.R_drew)); exact HO_21.out) hb); have n1_ := Aside0.mk (Kd.R_below (by (with_reducible repeat (first | apply Kd.R_alloc | apply Kd.R_drewN | apply Kd.R_drew)); exact HO_25.out) hb); have n2_ := Aside0.mk (below_step (by repeat (first | (with_reducible first | exact HB.out | apply below_alloc | apply pw_below_drewN | apply below_drew1) | exact HB.out)) hb); clear HO_21; clear HO_25; clear HB; have HO_21 := n0_; have HO_25 := n1_; have HB := n2_; clear n0_ n1_ n2_; (try clear hb); (try clear hb2); (try clear hk); (try clear hi))); try go_wp2_with (first | (go_at_call 28; (with_reducible refine (impl_SimpleMessages.calls kj81 _ _ t679 t697 true _ ?side1 ?side2 A104.out).mono ?_); (case side1 => repeat (first | exact (Kd.R_reads' HO_21.out).2.2 | (with_reducible refine Kd.C_alloc ?_ _) | (with_reducible refine Kd.C_drewN ?_ _) | (with_reducible refine Kd.C_drew ?_))); (case side2 => exact (Kd.R_reads' HO_21.out).2.1); rintro e w119 ⟨rfl, hb⟩; have n0_ := Aside0.mk (Kd.R_below (by (with_reducible repeat (first | apply Kd.R_alloc | apply Kd.R_drewN | apply Kd.R_drew)); exact HO_21.out) hb); have n1_ := Aside0.mk (Kd.R_below (by (with_reducible repeat (first | apply Kd.R_alloc | apply Kd.R_drewN | apply Kd.R_drew)); exact HO_25.out) hb); have n2_ := Aside0.mk (below_step (by repeat (first | (with_reducible first | exact HB.out | apply below_alloc | apply pw_below_drewN | apply below_drew1) | exact HB.out)) hb); clear HO_21; clear HO_25; clear HB; have HO_21 := n0_; have HO_25 := n1_; have HB := n2_; clear n0_ n1_ n2_; (try clear hb); (try clear hb2); (try clear hk); (try clear hi); obtain ⟨Ao120, co120, eo120⟩ := Kd.R_slice HO_25.out; subst eo120) | (go_at_call 28; (with_reducible refine (impl_SimpleMessages.calls kj81 _ _ t687 t699 false _ ?side1 ?side2 A105.out).mono ?_); (case side1 => repeat (first | exact (Kd.R_reads' HO_25.out).2.2 | (with_reducible refine Kd.C_alloc ?_ _) | (with_reducible refine Kd.C_drewN ?_ _) | (with_reducible refine Kd.C_drew ?_))); (case side2 => exact (Kd.R_reads' HO_25.out).2.1); rintro e w121 ⟨rfl, hb⟩; have n0_ := Aside0.mk (Kd.R_below (by (with_reducible repeat (first | apply Kd.R_alloc | apply Kd.R_drewN | apply Kd.R_drew)); exact HO_21.out) hb); have n1_ := Aside0.mk (Kd.R_below (by (with_reducible repeat (first | apply Kd.R_alloc | apply Kd.R_drewN | apply Kd.R_drew)); exact HO_25.out) hb); have n2_ := Aside0.mk (below_step (by repeat (first | (with_reducible first | exact HB.out | apply below_alloc | apply pw_below_drewN | apply below_drew1) | exact HB.out)) hb); clear HO_21; clear HO_25; clear HB; have HO_21 := n0_; have HO_25 := n1_; have HB := n2_; clear n0_ n1_ n2_; (try clear hb); (try clear hb2); (try clear hk); (try clear hi))))
               go_ret
               exact ⟨by first | rfl | (simp [errW_none, errW_some] <;> rfl) | (simp [*, errW_none, errW_some] <;> rfl), by repeat (first | (with_reducible first | exact HB.out | apply below_alloc | apply pw_below_drewN | apply below_drew1) | exact HB.out)⟩
             ·as_aux_lemma =>
              rw [if_neg c107] at H
              have c107b0 : (t697 == (wrap64 (Int.tdiv (wrap64 (t678 * (wrap64 (t678 + 1)))) 2))) = false := beq_eq_false_iff_ne.mpr c107
              have c107b1 : (t697 != (wrap64 (Int.tdiv (wrap64 (t678 * (wrap64 (t678 + 1)))) 2))) = true := bne_iff_ne.mpr c107
              (first | rw [c107b0] | (simp only [i64_w, i32_w]; rw [c107b0]) | skip)
              obtain rfl := Option.some.inj H
              obtain ⟨Ao122, co122, eo122⟩ := Kd.R_slice HO_21.out
              subst eo122
              go_wp2_with (first | (go_at_call 28; (with_reducible refine (impl_SimpleMessages.calls kj81 _ _ t679 t697 true _ ?side1 ?side2 A104.out).mono ?_); (case side1 => repeat (first | exact (Kd.R_reads' HO_21.out).2.2 | (with_reducible refine Kd.C_alloc ?_ _) | (with_reducible refine Kd.C_drewN ?_ _) | (with_reducible refine Kd.C_drew ?_))); (case side2 => exact (Kd.R_reads' HO_21.out).2.1); rintro e w123 ⟨rfl, hb⟩; have n0_ := Aside0.mk (Kd.R_below (by (with_reducible repeat (first | apply Kd.R_alloc | apply Kd.R_drewN | apply Kd.R_drew)); exact HO_21.out) hb); have n1_ := Aside0.mk (Kd.R_below (by (with_reducible repeat (first | apply Kd.R_alloc | apply Kd.R_drewN | apply Kd.R_drew)); exact HO_25.out) hb); have n2_ := Aside0.mk (below_step (by repeat (first | (with_reducible first | exact HB.out | apply below_alloc | apply pw_below_drewN | apply below_drew1) | exact HB.out)) hb); clear HO_21; clear HO_25; clear HB; have HO_21 := n0_; have HO_25 := n1_; have HB := n2_; clear n0_ n1_ n2_; (try clear hb); (try clear hb2); (try clear hk); (try clear hi); obtain ⟨Ao124, co124, eo124⟩ := Kd.R_slice HO_25.out; subst eo124) | (go_at_call 28; (with_reducible refine (impl_SimpleMessages.calls kj81 _ _ t687 t699 t700 _ ?side1 ?side2 A105.out).mono ?_); (case side1 => repeat (first | exact (Kd.R_reads' HO_25.out).2.2 | (with_reducible refine Kd.C_alloc ?_ _) | (with_reducible refine Kd.C_drewN ?_ _) | (with_reducible refine Kd.C_drew ?_))); (case side2 => exact (Kd.R_reads' HO_25.out).2.1); rintro e w125 ⟨rfl, hb⟩; have n0_ := Aside0.mk (Kd.R_below (by (with_reducible repeat (first | apply Kd.R_alloc | apply Kd.R_drewN | apply Kd.R_drew)); exact HO_21.out) hb); have n1_ := Aside0.mk (Kd.R_below (by (with_reducible repeat (first | apply Kd.R_alloc | apply Kd.R_drewN | apply Kd.R_drew)); exact HO_25.out) hb); have n2_ := Aside0.mk (below_step (by repeat (first | (with_reducible first | exact HB.out | apply below_alloc | apply pw_below_drewN | apply below_drew1) | exact HB.out)) hb); clear HO_21; clear HO_25; clear HB; have HO_21 := n0_; have HO_25 := n1_; have HB := n2_; clear n0_ n1_ n2_; (try clear hb); (try clear hb2); (try clear hk); (try clear hi)))
              repeat (go_quiet (first | (go_at_call 28; (with_reducible refine (impl_SimpleMessages.calls kj81 _ _ t679 t697 true _ ?side1 ?side2 A104.out).mono ?_); (case side1 => repeat (first | exact (Kd.R_reads' HO_21.out).2.2 | (with_reducible refine Kd.C_alloc ?_ _) | (with_reducible refine Kd.C_drewN ?_ _) | (with_reducible refine Kd.C_drew ?_))); (case side2 => exact (Kd.R_reads' HO_21.out).2.1); rintro e w123 ⟨rfl, hb⟩; have n0_ := Aside0.mk (Kd.R_below (by (with_reducible repeat (first | apply Kd.R_alloc | apply Kd.R_drewN | apply Kd.R_drew)); exact HO_21.out) hb); have n1_ := Aside0.mk (Kd.R_below (by (with_reducible repeat (first | apply Kd.R_alloc | apply Kd.R_drewN | apply Kd.R_drew)); exact HO_25.out) hb); have n2_ := Aside0.mk (below_step (by repeat (first | (with_reducible first | exact HB.out | apply below_alloc | apply pw_below_drewN | apply below_drew1) | exact HB.out)) hb); clear HO_21; clear HO_25; clear HB; have HO_21 := n0_; have HO_25 := n1_; have HB := n2_; clear n0_ n1_ n2_; (try clear hb); (try clear hb2); (try clear hk); (try clear hi); obtain ⟨Ao124, co124, eo124⟩ := Kd.R_slice HO_25.out; subst eo124) | (go_at_call 28; (with_reducible refine (impl_SimpleMessages.calls kj81 _ _ t687 t699 t700 _ ?side1 ?side2 A105.out).mono ?_); (case side1 => repeat (first | exact (Kd.R_reads' HO_25.out).2.2 | (with_reducible refine Kd.C_alloc ?_ _) | (with_reducible refine Kd.C_drewN ?_ _) | (with_reducible refine Kd.C_drew ?_))); (case side2 => exact (Kd.R_reads' HO_25.out).2.1); rintro e w125 ⟨rfl, hb⟩; have n0_ := Aside0.mk (Kd.R_below (by (with_reducible repeat (first | apply Kd.R_alloc | apply Kd.R_drewN | apply Kd.R_drew)); exact HO_21.out) hb); have n1_ := Aside0.mk (Kd.R_below (by (with_reducible repeat (first | apply Kd.R_alloc | apply Kd.R_drewN | apply Kd.R_drew)); exact HO_25.out) hb); have n2_ := Aside0.mk (below_step (by repeat (first | (with_reducible first | exact HB.out | apply below_alloc | apply pw_below_drewN | apply below_drew1) | exact HB.out)) hb); clear HO_21; clear HO_25; clear HB; have HO_21 := n0_; have HO_25 := n1_; have HB := n2_; clear n0_ n1_ n2_; (try clear hb); (try clear hb2); (try clear hk); (try clear hi))); try go_wp2_with (first | (go_at_call 28; (with_reducible refine (impl_SimpleMessages.calls kj81 _ _ t679 t697 true _ ?side1 ?side2 A104.out).mono ?_); (case side1 => repeat (first | exact (Kd.R_reads' HO_21.out).2.2 | (with_reducible refine Kd.C_alloc ?_ _) | (with_reducible refine Kd.C_drewN ?_ _) | (with_reducible refine Kd.C_drew ?_))); (case side2 => exact (Kd.R_reads' HO_21.out).2.1); rintro e w123 ⟨rfl, hb⟩; have n0_ := Aside0.mk (Kd.R_below (by (with_reducible repeat (first | apply Kd.R_alloc | apply Kd.R_drewN | apply Kd.R_drew)); exact HO_21.out) hb); have n1_ := Aside0.mk (Kd.R_below (by (with_reducible repeat (first | apply Kd.R_alloc | apply Kd.R_drewN | apply Kd.R_drew)); exact HO_25.out) hb); have n2_ := Aside0.mk (below_step (by repeat (first | (with_reducible first | exact HB.out | apply below_alloc | apply pw_below_drewN | apply below_drew1) | exact HB.out)) hb); clear HO_21; clear HO_25; clear HB; have HO_21 := n0_; have HO_25 := n1_; have HB := n2_; clear n0_ n1_ n2_; (try clear hb); (try clear hb2); (try clear hk); (try clear hi); obtain ⟨Ao124, co124, eo124⟩ := Kd.R_slice HO_25.out; subst eo124) | (go_at_call 28; (with_reducible refine (impl_SimpleMessages.calls kj81 _ _ t687 t699 t700 _ ?side1 ?side2 A105.out).mono ?_); (case side1 => repeat (first | exact (Kd.R_reads' HO_25.out).2.2 | (with_reducible refine Kd.C_alloc ?_ _) | (with_reducible refine Kd.C_drewN ?_ _) | (with_reducible refine Kd.C_drew ?_))); (case side2 => exact (Kd.R_reads' HO_25.out).2.1); rintro e w125 ⟨rfl, hb⟩; have n0_ := Aside0.mk (Kd.R_below (by (with_reducible repeat (first | apply Kd.R_alloc | apply Kd.R_drewN | apply Kd.R_drew)); exact HO_21.out) hb); have n1_ := Aside0.mk (Kd.R_below (by (with_reducible repeat (first | apply Kd.R_alloc | apply Kd.R_drewN | apply Kd.R_drew)); exact HO_25.out) hb); have n2_ := Aside0.mk (below_step (by repeat (first | (with_reducible first | exact HB.out | apply below_alloc | apply pw_below_drewN | apply below_drew1) | exact HB.out)) hb); clear HO_21; clear HO_25; clear HB; have HO_21 := n0_; have HO_25 := n1_; have HB := n2_; clear n0_ n1_ n2_; (try clear hb); (try clear hb2); (try clear hk); (try clear hi))))
              go_ret
              exact ⟨by first | rfl | (simp [errW_none, errW_some] <;> rfl) | (simp [*, errW_none, errW_some] <;> rfl), by repeat (first | (with_reducible first | exact HB.out | apply below_alloc | apply pw_below_drewN | apply below_drew1) | exact HB.out)⟩
            ·as_aux_lemma =>
             replace c106 := Bool.eq_false_iff.mpr c106
             subst c106
             have H1 : (some false) = some r := by rw [if_neg (show ¬ (false = true) by decide)] at H; exact H
             clear H
             have H := H1
             clear H1
             obtain rfl := Option.some.inj H
             obtain ⟨Ao126, co126, eo126⟩ := Kd.R_slice HO_21.out
             subst eo126
             go_wp2_with (first | (go_at_call 28; (with_reducible refine (impl_SimpleMessages.calls kj81 _ _ t679 t697 false _ ?side1 ?side2 A104.out).mono ?_); (case side1 => repeat (first | exact (Kd.R_reads' HO_21.out).2.2 | (with_reducible refine Kd.C_alloc ?_ _) | (with_reducible refine Kd.C_drewN ?_ _) | (with_reducible refine Kd.C_drew ?_))); (case side2 => exact (Kd.R_reads' HO_21.out).2.1); rintro e w127 ⟨rfl, hb⟩; have n0_ := Aside0.mk (Kd.R_below (by (with_reducible repeat (first | apply Kd.R_alloc | apply Kd.R_drewN | apply Kd.R_drew)); exact HO_21.out) hb); have n1_ := Aside0.mk (Kd.R_below (by (with_reducible repeat (first | apply Kd.R_alloc | apply Kd.R_drewN | apply Kd.R_drew)); exact HO_25.out) hb); have n2_ := Aside0.mk (below_step (by repeat (first | (with_reducible first | exact HB.out | apply below_alloc | apply pw_below_drewN | apply below_drew1) | exact HB.out)) hb); clear HO_21; clear HO_25; clear HB; have HO_21 := n0_; have HO_25 := n1_; have HB := n2_; clear n0_ n1_ n2_; (try clear hb); (try clear hb2); (try clear hk); (try clear hi); obtain ⟨Ao128, co128, eo128⟩ := Kd.R_slice HO_25.out; subst eo128) | (go_at_call 28; (with_reducible refine (impl_SimpleMessages.calls kj81 _ _ t687 t699 t700 _ ?side1 ?side2 A105.out).mono ?_); (case side1 => repeat (first | exact (Kd.R_reads' HO_25.out).2.2 | (with_reducible refine Kd.C_alloc ?_ _) | (with_reducible refine Kd.C_drewN ?_ _) | (with_reducible refine Kd.C_drew ?_))); (case side2 => exact (Kd.R_reads' HO_25.out).2.1); rintro e w129 ⟨rfl, hb⟩; have n0_ := Aside0.mk (Kd.R_below (by (with_reducible repeat (first | apply Kd.R_alloc | apply Kd.R_drewN | apply Kd.R_drew)); exact HO_21.out) hb); have n1_ := Aside0.mk (Kd.R_below (by (with_reducible repeat (first | apply Kd.R_alloc | apply Kd.R_drewN | apply Kd.R_drew)); exact HO_25.out) hb); have n2_ := Aside0.mk (below_step (by repeat (first | (with_reducible first | exact HB.out | apply below_alloc | apply pw_below_drewN | apply below_drew1) | exact HB.out)) hb); clear HO_21; clear HO_25; clear HB; have HO_21 := n0_; have HO_25 := n1_; have HB := n2_; clear n0_ n1_ n2_; (try clear hb); (try clear hb2); (try clear hk); (try clear hi)))
             repeat (go_quiet (first | (go_at_call 28; (with_reducible refine (impl_SimpleMessages.calls kj81 _ _ t679 t697 false _ ?side1 ?side2 A104.out).mono ?_); (case side1 => repeat (first | exact (Kd.R_reads' HO_21.out).2.2 | (with_reducible refine Kd.C_alloc ?_ _) | (with_reducible refine Kd.C_drewN ?_ _) | (with_reducible refine Kd.C_drew ?_))); (case side2 => exact (Kd.R_reads' HO_21.out).2.1); rintro e w127 ⟨rfl, hb⟩; have n0_ := Aside0.mk (Kd.R_below (by (with_reducible repeat (first | apply Kd.R_alloc | apply Kd.R_drewN | apply Kd.R_drew)); exact HO_21.out) hb); have n1_ := Aside0.mk (Kd.R_below (by (with_reducible repeat (first | apply Kd.R_alloc | apply Kd.R_drewN | apply Kd.R_drew)); exact HO_25.out) hb); have n2_ := Aside0.mk (below_step (by repeat (first | (with_reducible first | exact HB.out | apply below_alloc | apply pw_below_drewN | apply below_drew1) | exact HB.out)) hb); clear HO_21; clear HO_25; clear HB; have HO_21 := n0_; have HO_25 := n1_; have HB := n2_; clear n0_ n1_ n2_; (try clear hb); (try clear hb2); (try clear hk); (try clear hi); obtain ⟨Ao128, co128, eo128⟩ := Kd.R_slice HO_25.out; subst eo128) | (go_at_call 28; (with_reducible refine (impl_SimpleMessages.calls kj81 _ _ t687 t699 t700 _ ?side1 ?side2 A105.out).mono ?_); (case side1 => repeat (first | exact (Kd.R_reads' HO_25.out).2.2 | (with_reducible refine Kd.C_alloc ?_ _) | (with_reducible refine Kd.C_drewN ?_ _) | (with_reducible refine Kd.C_drew ?_))); (case side2 => exact (Kd.R_reads' HO_25.out).2.1); rintro e w129 ⟨rfl, hb⟩; have n0_ := Aside0.mk (Kd.R_below (by (with_reducible repeat (first | apply Kd.R_alloc | apply Kd.R_drewN | apply Kd.R_drew)); exact HO_21.out) hb); have n1_ := Aside0.mk (Kd.R_below (by (with_reducible repeat (first | apply Kd.R_alloc | apply Kd.R_drewN | apply Kd.R_drew)); exact HO_25.out) hb); have n2_ := Aside0.mk (below_step (by repeat (first | (with_reducible first | exact HB.out | apply below_alloc | apply pw_below_drewN | apply below_drew1) | exact HB.out)) hb); clear HO_21; clear HO_25; clear HB; have HO_21 := n0_; have HO_25 := n1_; have HB := n2_; clear n0_ n1_ n2_; (try clear hb); (try clear hb2); (try clear hk); (try clear hi))); try go_wp2_with (first | (go_at_call 28; (with_reducible refine (impl_SimpleMessages.calls kj81 _ _ t679 t697 false _ ?side1 ?side2 A104.out).mono ?_); (case side1 => repeat (first | exact (Kd.R_reads' HO_21.out).2.2 | (with_reducible refine Kd.C_alloc ?_ _) | (with_reducible refine Kd.C_drewN ?_ _) | (with_reducible refine Kd.C_drew ?_))); (case side2 => exact (Kd.R_reads' HO_21.out).2.1); rintro e w127 ⟨rfl, hb⟩; have n0_ := Aside0.mk (Kd.R_below (by (with_reducible repeat (first | apply Kd.R_alloc | apply Kd.R_drewN | apply Kd.R_drew)); exact HO_21.out) hb); have n1_ := Aside0.mk (Kd.R_below (by (with_reducible repeat (first | apply Kd.R_alloc | apply Kd.R_drewN | apply Kd.R_drew)); exact HO_25.out) hb); have n2_ := Aside0.mk (below_step (by repeat (first | (with_reducible first | exact HB.out | apply below_alloc | apply pw_below_drewN | apply below_drew1) | exact HB.out)) hb); clear HO_21; clear HO_25; clear HB; have HO_21 := n0_; have HO_25 := n1_; have HB := n2_; clear n0_ n1_ n2_; (try clear hb); (try clear hb2); (try clear hk); (try clear hi); obtain ⟨Ao128, co128, eo128⟩ := Kd.R_slice HO_25.out; subst eo128) | (go_at_call 28; (with_reducible refine (impl_SimpleMessages.calls kj81 _ _ t687 t699 t700 _ ?side1 ?side2 A105.out).mono ?_); (case side1 => repeat (first | exact (Kd.R_reads' HO_25.out).2.2 | (with_reducible refine Kd.C_alloc ?_ _) | (with_reducible refine Kd.C_drewN ?_ _) | (with_reducible refine Kd.C_drew ?_))); (case side2 => exact (Kd.R_reads' HO_25.out).2.1); rintro e w129 ⟨rfl, hb⟩; have n0_ := Aside0.mk (Kd.R_below (by (with_reducible repeat (first | apply Kd.R_alloc | apply Kd.R_drewN | apply Kd.R_drew)); exact HO_21.out) hb); have n1_ := Aside0.mk (Kd.R_below (by (with_reducible repeat (first | apply Kd.R_alloc | apply Kd.R_drewN | apply Kd.R_drew)); exact HO_25.out) hb); have n2_ := Aside0.mk (below_step (by repeat (first | (with_reducible first | exact HB.out | apply below_alloc | apply pw_below_drewN | apply below_drew1) | exact HB.out)) hb); clear HO_21; clear HO_25; clear HB; have HO_21 := n0_; have HO_25 := n1_; have HB := n2_; clear n0_ n1_ n2_; (try clear hb); (try clear hb2); (try clear hk); (try clear hi))))
             go_ret
             exact ⟨by first | rfl | (simp [errW_none, errW_some] <;> rfl) | (simp [*, errW_none, errW_some] <;> rfl), by repeat (first | (with_reducible first | exact HB.out | apply below_alloc | apply pw_below_drewN | apply below_drew1) | exact HB.out)⟩
           ·as_aux_lemma =>
            replace c103 := Bool.eq_false_iff.mpr c103
            subst c103
            have H1 : (laws_FnElectionsEnd.j7 kj81 l1) = some r := by rw [if_neg (show ¬ (false = true) by decide)] at H; exact H
            clear H
            have H := H1
            clear H1
            have H' := Aside0.mk H
            clear H
            go_wp2
            repeat (go_quiet (fail); try go_wp2)
            go_meet
            case rel => exact ⟨_, H', ⟨by have := HJ10.out; have := HJ48.out; have := HJ81.out; first | omega | exact Nat.le_refl _⟩, ⟨by repeat (first | (with_reducible first | exact HB.out | apply below_alloc | apply pw_below_drewN | apply below_drew1) | exact HB.out)⟩⟩
          case rest => as_aux_lemma =>
           clear HC102
           try clear c1
           try clear c2
           try clear p2
           try clear c3
           try clear c4
           try clear c5
           try clear c6
           try clear p6
           try clear q6
           try clear hx6
           try clear c7
           try clear c8
           try clear c9
           try clear c10
           try clear c14
           try clear c18
           try clear c18b0
           try clear c18b1
           try clear c18b2
           try clear c20
           try clear c21
           try clear c21b0
           try clear c21b1
           try clear c21b2
           try clear c25
           try clear c25b0
           try clear c25b1
           try clear c26
           try clear c26b0
           try clear c26b1
           try clear c26b2
           try clear c29
           try clear c29b0
           try clear c29b1
           try clear c30
           try clear c30b0
           try clear c30b1
           try clear c30b2
           try clear c34
           try clear c34b0
           try clear c34b1
           try clear c34b2
           try clear c48
           try clear c50
           try clear c52
           try clear c52b0
           try clear c53
           try clear c53b0
           try clear c54
           try clear c54b0
           try clear c56
           try clear c56b0
           try clear c56b1
           try clear c56b2
           try clear c57
           try clear c57b0
           try clear c58
           try clear c58b0
           try clear c59
           try clear c59b0
           try clear c59b1
           try clear c59b2
           try clear c61
           try clear c61b0
           try clear c62
           try clear c62b0
           try clear c63
           try clear c63b0
           try clear c64
           try clear p64
           try clear c66
           try clear c66b0
           try clear c67
           try clear p67
           try clear q67
           try clear hx67
           try clear c68
           try clear c68b0
           try clear c68b1
           try clear c68b2
           try clear c70
           try clear c70b0
           try clear c71
           try clear c71b0
           try clear c72
           try clear c72b0
           try clear c73
           try clear c73b0
           try clear c74
           try clear c74b0
           try clear c75
           try clear c75b0
           try clear c76
           try clear c76b0
           try clear c88
           try clear c88b0
           try clear c88b1
           try clear c88b2
           try clear c90
           try clear c91
           try clear c91b0
           try clear c91b1
           try clear c91b2
           try clear c101
           try clear c103
           try clear c106
           try clear c107
           try clear c107b0
           try clear c107b1
           try clear c108
           try clear c109
           try clear c109b0
           try clear c109b1
           try clear hx673_0
           try clear hx674_0
           try clear hx675_0
           try clear hx676_0
           try clear hx677_0
           try clear p2
           try clear p6
           try clear p64
           try clear p67
           try clear p673
           try clear p674
           try clear p675
           try clear p676
           try clear p677
           try clear q6
           try clear q67
           try clear q673
           try clear q674
           try clear q675
           try clear q676
           try clear q677
           obtain ⟨kq, HA, HJ101, HB⟩ := hcut
           cases kq with
           | zero => exact absurd HA.out (by simp [laws_FnElectionsEnd.j7])
           | succ kj101 =>
            have H := HA.out
            clear HA
            simp only [laws_FnElectionsEnd.j7] at H
            replace H := Option.bind_eq_some_iff.mp H
            obtain ⟨t701, A1300, H⟩ := H
            replace H : ((impl_SumOfMessages.f kj101 t701).bind fun bt702 => ((spec_SumOfMessages.f kj101 t701).bind fun bt704 => (if (bt702.2 != bt704.2) = true then (laws_FnElectionsEnd.j8 kj101 t701 bt702.1 bt702.2 true) else (laws_FnElectionsEnd.j8 kj101 t701 bt702.1 bt702.2 (bt702.1 != bt704.1))))) = some r := H
            have A130 := Aside0.mk A1300
            clear A1300
            replace H := Option.bind_eq_some_iff.mp H
            obtain ⟨⟨t702, t703⟩, A1310, H⟩ := H
            replace H : ((spec_SumOfMessages.f kj101 t701).bind fun bt704 => (if (t703 != bt704.2) = true then (laws_FnElectionsEnd.j8 kj101 t701 t702 t703 true) else (laws_FnElectionsEnd.j8 kj101 t701 t702 t703 (t702 != bt704.1)))) = some r := H
            have A131 := Aside0.mk A1310
            clear A1310
            replace H := Option.bind_eq_some_iff.mp H
            obtain ⟨⟨t704, t705⟩, A1320, H⟩ := H
            replace H : (if (t703 != t705) = true then (laws_FnElectionsEnd.j8 kj101 t701 t702 t703 true) else (laws_FnElectionsEnd.j8 kj101 t701 t702 t703 (t702 != t704))) = some r := H
            have A132 := Aside0.mk A1320
            clear A1320
            have HC133 := Aside0.mk H
            clear H
            go_upto_region 41 with (first | (go_at_call 50; (with_reducible refine (spec_DrawSumOfMessages.calls _ _ l1 t701 _ ?side1 ?side2 A130.out).mono ?_); (case side1 => repeat (first | exact (Kd.C_below HR1.out HB.out) | (with_reducible refine Kd.C_alloc ?_ _) | (with_reducible refine Kd.C_drewN ?_ _) | (with_reducible refine Kd.C_drew ?_))); (case side2 => exact HC1.out); rintro e w134 ⟨rfl, hb⟩; have n0_ := Aside0.mk (below_step (by repeat (first | (with_reducible first | exact HB.out | apply below_alloc | apply pw_below_drewN | apply below_drew1) | exact HB.out)) hb); clear HB; have HB := n0_; clear n0_; (try clear hb); (try clear hb2); (try clear hk); (try clear hi)) | (go_at_call 16; (with_reducible refine (impl_SumOfMessages.calls kj101 t701 t702 t703 _ A131.out).mono ?_); rintro e w' ⟨rfl, ⟨nd, rfl⟩⟩; (try first | exact ⟨rfl, _, World.drewN_drewN _ _ _⟩ | exact ⟨rfl, _, Eq.trans (World.drewN_drewN _ _ _) (congrArg (World.drewN _) (Nat.add_assoc _ _ _))⟩)) | (go_at_call 15; (with_reducible refine (spec_SumOfMessages.calls kj101 t701 t704 t705 _ A132.out).mono ?_); rintro e w' ⟨rfl, ⟨nd, rfl⟩⟩; (try first | exact ⟨rfl, _, World.drewN_drewN _ _ _⟩ | exact ⟨rfl, _, Eq.trans (World.drewN_drewN _ _ _) (congrArg (World.drewN _) (Nat.add_assoc _ _ _))⟩)))
            repeat (go_quiet (first | (go_at_call 50; (with_reducible refine (spec_DrawSumOfMessages.calls _ _ l1 t701 _ ?side1 ?side2 A130.out).mono ?_); (case side1 => repeat (first | exact (Kd.C_below HR1.out HB.out) | (with_reducible refine Kd.C_alloc ?_ _) | (with_reducible refine Kd.C_drewN ?_ _) | (with_reducible refine Kd.C_drew ?_))); (case side2 => exact HC1.out); rintro e w134 ⟨rfl, hb⟩; have n0_ := Aside0.mk (below_step (by repeat (first | (with_reducible first | exact HB.out | apply below_alloc | apply pw_below_drewN | apply below_drew1) | exact HB.out)) hb); clear HB; have HB := n0_; clear n0_; (try clear hb); (try clear hb2); (try clear hk); (try clear hi)) | (go_at_call 16; (with_reducible refine (impl_SumOfMessages.calls kj101 t701 t702 t703 _ A131.out).mono ?_); rintro e w' ⟨rfl, ⟨nd, rfl⟩⟩; (try first | exact ⟨rfl, _, World.drewN_drewN _ _ _⟩ | exact ⟨rfl, _, Eq.trans (World.drewN_drewN _ _ _) (congrArg (World.drewN _) (Nat.add_assoc _ _ _))⟩)) | (go_at_call 15; (with_reducible refine (spec_SumOfMessages.calls kj101 t701 t704 t705 _ A132.out).mono ?_); rintro e w' ⟨rfl, ⟨nd, rfl⟩⟩; (try first | exact ⟨rfl, _, World.drewN_drewN _ _ _⟩ | exact ⟨rfl, _, Eq.trans (World.drewN_drewN _ _ _) (congrArg (World.drewN _) (Nat.add_assoc _ _ _))⟩))); go_upto_region 41 with (first | (go_at_call 50; (with_reducible refine (spec_DrawSumOfMessages.calls _ _ l1 t701 _ ?side1 ?side2 A130.out).mono ?_); (case side1 => repeat (first | exact (Kd.C_below HR1.out HB.out) | (with_reducible refine Kd.C_alloc ?_ _) | (with_reducible refine Kd.C_drewN ?_ _) | (with_reducible refine Kd.C_drew ?_))); (case side2 => exact HC1.out); rintro e w134 ⟨rfl, hb⟩; have n0_ := Aside0.mk (below_step (by repeat (first | (with_reducible first | exact HB.out | apply below_alloc | apply pw_below_drewN | apply below_drew1) | exact HB.out)) hb); clear HB; have HB := n0_; clear n0_; (try clear hb); (try clear hb2); (try clear hk); (try clear hi)) | (go_at_call 16; (with_reducible refine (impl_SumOfMessages.calls kj101 t701 t702 t703 _ A131.out).mono ?_); rintro e w' ⟨rfl, ⟨nd, rfl⟩⟩; (try first | exact ⟨rfl, _, World.drewN_drewN _ _ _⟩ | exact ⟨rfl, _, Eq.trans (World.drewN_drewN _ _ _) (congrArg (World.drewN _) (Nat.add_assoc _ _ _))⟩)) | (go_at_call 15; (with_reducible refine (spec_SumOfMessages.calls kj101 t701 t704 t705 _ A132.out).mono ?_); rintro e w' ⟨rfl, ⟨nd, rfl⟩⟩; (try first | exact ⟨rfl, _, World.drewN_drewN _ _ _⟩ | exact ⟨rfl, _, Eq.trans (World.drewN_drewN _ _ _) (congrArg (World.drewN _) (Nat.add_assoc _ _ _))⟩))))
            (try simp only [Act.put, List.setIfInBounds_toArray, List.set_cons_zero, List.set_cons_succ])
            go_cut [297] (fun v297 wc => ∃ (kq : Nat) (x297_132 : Bool), v297 = .bool x297_132 ∧ Aside0 (laws_FnElectionsEnd.j8 kq t701 t702 t703 x297_132 = some r) ∧ Aside0 (kq ≤ kj101) ∧ Aside0 (Below w.heap.size w wc))
            case first => as_aux_lemma =>
             have H := HC133.out
             clear HC133
             by_cases c135 : (t703 != t705) = true
             ·as_aux_lemma =>
              rw [if_pos c135] at H
              have c135b0 : (t703 != t705) = true := c135
              (try (have c135b1 : decide (t703 = t705) = false := by simpa using c135))
              (try (have c135b2 : (t703 == t705) = false := by simpa using c135))
              (try (have c135b3 : ¬ (t703 = t705) := by simpa using c135))
              clear c135
              (first | rw [c135b0] | (simp only [i64_w, i32_w]; rw [c135b0]) | skip)
              have H' := Aside0.mk H
              clear H
              go_wp2
              repeat (go_quiet (fail); try go_wp2)
              go_meet
              case rel => exact ⟨_, (true), (by first | rfl | (simp; done) | (simp [*]; done)), H', ⟨by have := HJ10.out; have := HJ48.out; have := HJ81.out; have := HJ101.out; first | omega | exact Nat.le_refl _⟩, ⟨by repeat (first | (with_reducible first | exact HB.out | apply below_alloc | apply pw_below_drewN | apply below_drew1) | exact HB.out)⟩⟩
             ·as_aux_lemma =>
              rw [if_neg c135] at H
              have c135b0 : (t703 != t705) = false := by simpa using c135
              (try (have c135b1 : decide (t703 = t705) = true := by simpa using c135))
              (try (have c135b2 : (t703 == t705) = true := by simpa using c135))
              clear c135
              (first | rw [c135b0] | (simp only [i64_w, i32_w]; rw [c135b0]) | skip)
              have H' := Aside0.mk H
              clear H
              go_wp2
              repeat (go_quiet (fail); try go_wp2)
              go_meet
              case rel => exact ⟨_, ((t702 != t704)), (by first | rfl | (simp; done) | (simp [*]; done)), H', ⟨by have := HJ10.out; have := HJ48.out; have := HJ81.out; have := HJ101.out; first | omega | exact Nat.le_refl _⟩, ⟨by repeat (first | (with_reducible first | exact HB.out | apply below_alloc | apply pw_below_drewN | apply below_drew1) | exact HB.out)⟩⟩
            case rest => as_aux_lemma =>
             clear HC133
             try clear c1
             try clear c2
             try clear p2
             try clear c3
             try clear c4
             try clear c5
             try clear c6
             try clear p6
             try clear q6
             try clear hx6
             try clear c7
             try clear c8
             try clear c9
             try clear c10
             try clear c13
             try clear c14
             try clear c18
             try clear c18b0
             try clear c18b1
             try clear c18b2
             try clear c20
             try clear c21
             try clear c21b0
             try clear c21b1
             try clear c21b2
             try clear c25
             try clear c25b0
             try clear c25b1
             try clear c26
             try clear c26b0
             try clear c26b1
             try clear c26b2
             try clear c29
             try clear c29b0
             try clear c29b1
             try clear c30
             try clear c30b0
             try clear c30b1
             try clear c30b2
             try clear c34
             try clear c34b0
             try clear c34b1
             try clear c34b2
             try clear c48
             try clear c50
             try clear c52
             try clear c52b0
             try clear c53
             try clear c53b0
             try clear c54
             try clear c54b0
             try clear c56
             try clear c56b0
             try clear c56b1
             try clear c56b2
             try clear c57
             try clear c57b0
             try clear c58
             try clear c58b0
             try clear c59
             try clear c59b0
             try clear c59b1
             try clear c59b2
             try clear c61
             try clear c61b0
             try clear c62
             try clear c62b0
             try clear c63
             try clear c63b0
             try clear c64
             try clear p64
             try clear c66
             try clear c66b0
             try clear c67
             try clear p67
             try clear q67
             try clear hx67
             try clear c68
             try clear c68b0
             try clear c68b1
             try clear c68b2
             try clear c70
             try clear c70b0
             try clear c71
             try clear c71b0
             try clear c72
             try clear c72b0
             try clear c73
             try clear c73b0
             try clear c74
             try clear c74b0
             try clear c75
             try clear c75b0
             try clear c76
             try clear c76b0
             try clear c88
             try clear c88b0
             try clear c88b1
             try clear c88b2
             try clear c90
             try clear c91
             try clear c91b0
             try clear c91b1
             try clear c91b2
             try clear c101
             try clear c103
             try clear c106
             try clear c107
             try clear c107b0
             try clear c107b1
             try clear c108
             try clear c109
             try clear c109b0
             try clear c109b1
             try clear c135
             try clear c135b0
             try clear c135b1
             try clear c135b2
             try clear hx673_0
             try clear hx674_0
             try clear hx675_0
             try clear hx676_0
             try clear hx677_0
             try clear p2
             try clear p6
             try clear p64
             try clear p67
             try clear p673
             try clear p674
             try clear p675
             try clear p676
             try clear p677
             try clear q6
             try clear q67
             try clear q673
             try clear q674
             try clear q675
             try clear q676
             try clear q677
             obtain ⟨kq, x297_132, rfl, HA, HJ132, HB⟩ := hcut
             cases kq with
             | zero => exact absurd HA.out (by simp [laws_FnElectionsEnd.j8])
             | succ kj132 =>
              have H := HA.out
              clear HA
              simp only [laws_FnElectionsEnd.j8] at H
              by_cases c136 : x297_132 = true
              ·as_aux_lemma =>
               subst c136
               have H1 : (some false) = some r := by rw [if_pos rfl] at H; exact H
               clear H
               have H := H1
               clear H1
               obtain rfl := Option.some.inj H
               go_wp2
               repeat (go_quiet (fail); try go_wp2)
               go_ret
               exact ⟨by first | rfl | (simp [errW_none, errW_some] <;> rfl) | (simp [*, errW_none, errW_some] <;> rfl), by repeat (first | (with_reducible first | exact HB.out | apply below_alloc | apply pw_below_drewN | apply below_drew1) | exact HB.out)⟩
              ·as_aux_lemma =>
               replace c136 := Bool.eq_false_iff.mpr c136
               subst c136
               have H1 : (if t703 = true then (laws_FnElectionsEnd.j9 kj132 t701 t702 (decide (t701 ≤ 4))) else (laws_FnElectionsEnd.j9 kj132 t701 t702 false)) = some r := by rw [if_neg (show ¬ (false = true) by decide)] at H; exact H
               clear H
               have H := H1
               clear H1
               have HC137 := Aside0.mk H
               clear H
               go_upto_region 43 with (fail)
               repeat (go_quiet (fail); go_upto_region 43 with (fail))
               go_cut [302] (fun v302 wc => ∃ (kq : Nat) (x302_136 : Bool), v302 = .bool x302_136 ∧ Aside0 (laws_FnElectionsEnd.j9 kq t701 t702 x302_136 = some r) ∧ Aside0 (kq ≤ kj132) ∧ Aside0 (Below w.heap.size w wc))
               case first => as_aux_lemma =>
                have H := HC137.out
                clear HC137
                by_cases c138 : t703 = true
                ·as_aux_lemma =>
                 subst c138
                 have H1 : (laws_FnElectionsEnd.j9 kj132 t701 t702 (decide (t701 ≤ 4))) = some r := by rw [if_pos rfl] at H; exact H
                 clear H
                 have H := H1
                 clear H1
                 have H' := Aside0.mk H
                 clear H
                 go_wp2
                 repeat (go_quiet (fail); try go_wp2)
                 go_meet
                 case rel => exact ⟨_, (decide (t701 ≤ 4)), (by first | rfl | (simp; done) | (simp [*]; done)), H', ⟨by have := HJ10.out; have := HJ48.out; have := HJ81.out; have := HJ101.out; have := HJ132.out; first | omega | exact Nat.le_refl _⟩, ⟨by repeat (first | (with_reducible first | exact HB.out | apply below_alloc | apply pw_below_drewN | apply below_drew1) | exact HB.out)⟩⟩
                ·as_aux_lemma =>
                 replace c138 := Bool.eq_false_iff.mpr c138
                 subst c138
                 have H1 : (laws_FnElectionsEnd.j9 kj132 t701 t702 false) = some r := by rw [if_neg (show ¬ (false = true) by decide)] at H; exact H
                 clear H
                 have H := H1
                 clear H1
                 have H' := Aside0.mk H
                 clear H
                 go_wp2
                 repeat (go_quiet (fail); try go_wp2)
                 go_meet
                 case rel => exact ⟨_, (false), (by first | rfl | (simp; done) | (simp [*]; done)), H', ⟨by have := HJ10.out; have := HJ48.out; have := HJ81.out; have := HJ101.out; have := HJ132.out; first | omega | exact Nat.le_refl _⟩, ⟨by repeat (first | (with_reducible first | exact HB.out | apply below_alloc | apply pw_below_drewN | apply below_drew1) | exact HB.out)⟩⟩
               case rest => as_aux_lemma =>
                clear HC137
                try clear c1
                try clear c2
                try clear p2
                try clear c3
                try clear c4
                try clear c5
                try clear c6
                try clear p6
                try clear q6
                try clear hx6
                try clear c7
                try clear c8
                try clear c9
                try clear c10
                try clear c13
                try clear c14
                try clear c18
                try clear c18b0
                try clear c18b1
                try clear c18b2
                try clear c20
                try clear c21
                try clear c21b0
                try clear c21b1
                try clear c21b2
                try clear c25
                try clear c25b0
                try clear c25b1
                try clear c26
                try clear c26b0
                try clear c26b1
                try clear c26b2
                try clear c29
                try clear c29b0
                try clear c29b1
                try clear c30
                try clear c30b0
                try clear c30b1
                try clear c30b2
                try clear c34
                try clear c34b0
                try clear c34b1
                try clear c34b2
                try clear c48
                try clear c50
                try clear c52
                try clear c52b0
                try clear c53
                try clear c53b0
                try clear c54
                try clear c54b0
                try clear c56
                try clear c56b0
                try clear c56b1
                try clear c56b2
                try clear c57
                try clear c57b0
                try clear c58
                try clear c58b0
                try clear c59
                try clear c59b0
                try clear c59b1
                try clear c59b2
                try clear c61
                try clear c61b0
                try clear c62
                try clear c62b0
                try clear c63
                try clear c63b0
                try clear c64
                try clear p64
                try clear c66
                try clear c66b0
                try clear c67
                try clear p67
                try clear q67
                try clear hx67
                try clear c68
                try clear c68b0
                try clear c68b1
                try clear c68b2
                try clear c70
                try clear c70b0
                try clear c71
                try clear c71b0
                try clear c72
                try clear c72b0
                try clear c73
                try clear c73b0
                try clear c74
                try clear c74b0
                try clear c75
                try clear c75b0
                try clear c76
                try clear c76b0
                try clear c88
                try clear c88b0
                try clear c88b1
                try clear c88b2
                try clear c90
                try clear c91
                try clear c91b0
                try clear c91b1
                try clear c91b2
                try clear c101
                try clear c103
                try clear c106
                try clear c107
                try clear c107b0
                try clear c107b1
                try clear c108
                try clear c109
                try clear c109b0
                try clear c109b1
                try clear c135
                try clear c135b0
                try clear c135b1
                try clear c135b2
                try clear c136
                try clear c138
                try clear hx673_0
                try clear hx674_0
                try clear hx675_0
                try clear hx676_0
                try clear hx677_0
                try clear p2
                try clear p6
                try clear p64
                try clear p67
                try clear p673
                try clear p674
                try clear p675
                try clear p676
                try clear p677
                try clear q6
                try clear q67
                try clear q673
                try clear q674
                try clear q675
                try clear q676
                try clear q677
                obtain ⟨kq, x302_136, rfl, HA, HJ136, HB⟩ := hcut
                cases kq with
                | zero => exact absurd HA.out (by simp [laws_FnElectionsEnd.j9])
                | succ kj136 =>
                 have H := HA.out
                 clear HA
                 simp only [laws_FnElectionsEnd.j9] at H
                 by_cases c139 : x302_136 = true
                 ·as_aux_lemma =>
                  subst c139
                  have H1 : (laws_FnElectionsEnd.l2 kj136 t701 t702 0 1 0) = some r := by rw [if_pos rfl] at H; exact H
                  clear H
                  have H := H1
                  clear H1
                  have H' := Aside0.mk H
                  clear H
                  go_wp2
                  repeat (go_quiet (fail); try go_wp2)
                  go_loopg [39, 40] kj136 (fun kq v39 v40 w' => ∃ (x39_7 : Int) (x40_7 : Int), v39 = .int .i64 x39_7 ∧ v40 = .int .i64 x40_7 ∧ Aside0 (laws_FnElectionsEnd.l2 kq t701 t702 0 x39_7 x40_7 = some r) ∧ Aside0 (kq ≤ kj136) ∧ Aside0 (Below w.heap.size w w'))
                  case atStart => exact ⟨(1), (0), (by first | rfl | (simp; done) | (simp [*]; done)), (by first | rfl | (simp; done) | (simp [*]; done)), H', ⟨Nat.le_refl _⟩, ⟨by repeat (first | (with_reducible first | exact HB.out | apply below_alloc | apply pw_below_drewN | apply below_drew1) | exact HB.out)⟩⟩
                  case round => as_aux_lemma =>
                   clear H'
                   try clear c1
                   try clear c2
                   try clear p2
                   try clear c3
                   try clear c4
                   try clear c5
                   try clear c6
                   try clear p6
                   try clear q6
                   try clear hx6
                   try clear c7
                   try clear c8
                   try clear c9
                   try clear c10
                   try clear c13
                   try clear c14
                   try clear c18
                   try clear c18b0
                   try clear c18b1
                   try clear c18b2
                   try clear c20
                   try clear c21
                   try clear c21b0
                   try clear c21b1
                   try clear c21b2
                   try clear c25
                   try clear c25b0
                   try clear c25b1
                   try clear c26
                   try clear c26b0
                   try clear c26b1
                   try clear c26b2
                   try clear c29
                   try clear c29b0
                   try clear c29b1
                   try clear c30
                   try clear c30b0
                   try clear c30b1
                   try clear c30b2
                   try clear c34
                   try clear c34b0
                   try clear c34b1
                   try clear c34b2
                   try clear c48
                   try clear c50
                   try clear c52
                   try clear c52b0
                   try clear c53
                   try clear c53b0
                   try clear c54
                   try clear c54b0
                   try clear c56
                   try clear c56b0
                   try clear c56b1
                   try clear c56b2
                   try clear c57
                   try clear c57b0
                   try clear c58
                   try clear c58b0
                   try clear c59
                   try clear c59b0
                   try clear c59b1
                   try clear c59b2
                   try clear c61
                   try clear c61b0
                   try clear c62
                   try clear c62b0
                   try clear c63
                   try clear c63b0
                   try clear c64
                   try clear p64
                   try clear c66
                   try clear c66b0
                   try clear c67
                   try clear p67
                   try clear q67
                   try clear hx67
                   try clear c68
                   try clear c68b0
                   try clear c68b1
                   try clear c68b2
                   try clear c70
                   try clear c70b0
                   try clear c71
                   try clear c71b0
                   try clear c72
                   try clear c72b0
                   try clear c73
                   try clear c73b0
                   try clear c74
                   try clear c74b0
                   try clear c75
                   try clear c75b0
                   try clear c76
                   try clear c76b0
                   try clear c88
                   try clear c88b0
                   try clear c88b1
                   try clear c88b2
                   try clear c90
                   try clear c91
                   try clear c91b0
                   try clear c91b1
                   try clear c91b2
                   try clear c101
                   try clear c103
                   try clear c106
                   try clear c107
                   try clear c107b0
                   try clear c107b1
                   try clear c108
                   try clear c109
                   try clear c109b0
                   try clear c109b1
                   try clear c135
                   try clear c135b0
                   try clear c135b1
                   try clear c135b2
                   try clear c136
                   try clear c138
                   try clear c139
                   try clear hx673_0
                   try clear hx674_0
                   try clear hx675_0
                   try clear hx676_0
                   try clear hx677_0
                   try clear p2
                   try clear p6
                   try clear p64
                   try clear p67
                   try clear p673
                   try clear p674
                   try clear p675
                   try clear p676
                   try clear p677
                   try clear q6
                   try clear q67
                   try clear q673
                   try clear q674
                   try clear q675
                   try clear q676
                   try clear q677
                   obtain ⟨x39_7, x40_7, rfl, rfl, HA, HK7, HB⟩ := hrel
                   cases gk with
                   | zero => exact absurd HA.out (by simp [laws_FnElectionsEnd.l2])
                   | succ k7 =>
                    have H := HA.out
                    clear HA
                    simp only [laws_FnElectionsEnd.l2] at H
                    by_cases c140 : x40_7 < t701
                    ·as_aux_lemma =>
                     rw [if_pos c140] at H
                     have c140b0 : decide (x40_7 < t701) = true := decide_eq_true c140
                     clear c140
                     have H' := Aside0.mk H
                     clear H
                     go_wp2
                     repeat (go_quiet (fail); try go_wp2)
                     go_roundg k7
                     case measure => have := HJ10.out; have := HJ48.out; have := HJ81.out; have := HJ101.out; have := HJ132.out; have := HJ136.out; have := HK7.out; omega
                     case rel => exact ⟨(wrap64 (x39_7 * t701)), (wrap64 (x40_7 + 1)), (by first | rfl | (simp; done) | (simp [*]; done)), (by first | rfl | (simp; done) | (simp [*]; done)), H', ⟨by have := HJ10.out; have := HJ48.out; have := HJ81.out; have := HJ101.out; have := HJ132.out; have := HJ136.out; have := HK7.out; omega⟩, ⟨by repeat (first | (with_reducible first | exact HB.out | apply below_alloc | apply pw_below_drewN | apply below_drew1) | exact HB.out)⟩⟩
                    ·as_aux_lemma =>
                     rw [if_neg c140] at H
                     have c140b0 : decide (x40_7 < t701) = false := decide_eq_false c140
                     clear c140
                     have H' := Aside0.mk H
                     clear H
                     go_wp2
                     repeat (go_quiet (fail); try go_wp2)
                     go_loopg [38, 41] k7 (fun kq v38 v41 w' => ∃ (x38_8 : Int) (x41_8 : Int), v38 = .int .i64 x38_8 ∧ v41 = .int .i64 x41_8 ∧ Aside0 (laws_FnElectionsEnd.l3 kq t701 t702 x38_8 x39_7 x41_8 = some r) ∧ Aside0 (kq ≤ k7) ∧ Aside0 (Below w.heap.size w w'))
                     case atStart => exact ⟨(0), (0), (by first | rfl | (simp; done) | (simp [*]; done)), (by first | rfl | (simp; done) | (simp [*]; done)), H', ⟨Nat.le_refl _⟩, ⟨by repeat (first | (with_reducible first | exact HB.out | apply below_alloc | apply pw_below_drewN | apply below_drew1) | exact HB.out)⟩⟩
                     case round => as_aux_lemma =>
                      clear H'
                      try clear c1
                      try clear c2
                      try clear p2
                      try clear c3
                      try clear c4
                      try clear c5
                      try clear c6
                      try clear p6
                      try clear q6
                      try clear hx6
                      try clear c7
                      try clear c8
                      try clear c9
                      try clear c10
                      try clear c13
                      try clear c14
                      try clear c18
                      try clear c18b0
                      try clear c18b1
                      try clear c18b2
                      try clear c20
                      try clear c21
                      try clear c21b0
                      try clear c21b1
                      try clear c21b2
                      try clear c25
                      try clear c25b0
                      try clear c25b1
                      try clear c26
                      try clear c26b0
                      try clear c26b1
                      try clear c26b2
                      try clear c29
                      try clear c29b0
                      try clear c29b1
                      try clear c30
                      try clear c30b0
                      try clear c30b1
                      try clear c30b2
                      try clear c34
                      try clear c34b0
                      try clear c34b1
                      try clear c34b2
                      try clear c48
                      try clear c50
                      try clear c52
                      try clear c52b0
                      try clear c53
                      try clear c53b0
                      try clear c54
                      try clear c54b0
                      try clear c56
                      try clear c56b0
                      try clear c56b1
                      try clear c56b2
                      try clear c57
                      try clear c57b0
                      try clear c58
                      try clear c58b0
                      try clear c59
                      try clear c59b0
                      try clear c59b1
                      try clear c59b2
                      try clear c61
                      try clear c61b0
                      try clear c62
                      try clear c62b0
                      try clear c63
                      try clear c63b0
                      try clear c64
                      try clear p64
                      try clear c66
                      try clear c66b0
                      try clear c67
                      try clear p67
                      try clear q67
                      try clear hx67
                      try clear c68
                      try clear c68b0
                      try clear c68b1
                      try clear c68b2
                      try clear c70
                      try clear c70b0
                      try clear c71
                      try clear c71b0
                      try clear c72
                      try clear c72b0
                      try clear c73
                      try clear c73b0
                      try clear c74
                      try clear c74b0
                      try clear c75
                      try clear c75b0
                      try clear c76
                      try clear c76b0
                      try clear c88
                      try clear c88b0
                      try clear c88b1
                      try clear c88b2
                      try clear c90
                      try clear c91
                      try clear c91b0
                      try clear c91b1
                      try clear c91b2
                      try clear c101
                      try clear c103
                      try clear c106
                      try clear c107
                      try clear c107b0
                      try clear c107b1
                      try clear c108
                      try clear c109
                      try clear c109b0
                      try clear c109b1
                      try clear c135
                      try clear c135b0
                      try clear c135b1
                      try clear c135b2
                      try clear c136
                      try clear c138
                      try clear c139
                      try clear c140
                      try clear c140b0
                      try clear hx673_0
                      try clear hx674_0
                      try clear hx675_0
                      try clear hx676_0
                      try clear hx677_0
                      try clear p2
                      try clear p6
                      try clear p64
                      try clear p67
                      try clear p673
                      try clear p674
                      try clear p675
                      try clear p676
                      try clear p677
                      try clear q6
                      try clear q67
                      try clear q673
                      try clear q674
                      try clear q675
                      try clear q676
                      try clear q677
                      obtain ⟨x38_8, x41_8, rfl, rfl, HA, HK8, HB⟩ := hrel
                      cases gk with
                      | zero => exact absurd HA.out (by simp [laws_FnElectionsEnd.l3])
                      | succ k8 =>
                       have H := HA.out
                       clear HA
                       simp only [laws_FnElectionsEnd.l3] at H
                       by_cases c141 : x41_8 < x39_7
                       ·as_aux_lemma =>
                        rw [if_pos c141] at H
                        have c141b0 : decide (x41_8 < x39_7) = true := decide_eq_true c141
                        clear c141
                        by_cases c142 : 0 ≤ t701
                        ·as_aux_lemma =>
                         rw [if_pos c142] at H
                         have c142b0 := eq_true c142
                         have c142b1 : decide (0 ≤ t701) = true := decide_eq_true c142
                         clear c142
                         by_cases c143 : (t701 : Int).toNat ≤ 35184372088832
                         ·as_aux_lemma =>
                          rw [if_pos c143] at H
                          have c143b0 := eq_true c143
                          have c143b1 : decide ((t701 : Int).toNat ≤ 35184372088832) = true := decide_eq_true c143
                          clear c143
                          obtain ⟨y706, hy706⟩ : ∃ y_ : List Int, y_ = (List.replicate (t701 : Int).toNat 0) := ⟨_, rfl⟩
                          replace H : (laws_FnElectionsEnd.l4 k8 t701 t702 x38_8 x39_7 x41_8 y706 x41_8 (y706.length : Int) 0) = some r := by first | (rw [hy706]; with_reducible exact H) | (have H2_ := (Option.bind_some _ _).symm.trans H; rw [hy706]; with_reducible exact H2_) | (have H2_ := (Option.bind_some _ _).symm.trans H; with_reducible exact H2_) | with_reducible exact H | (rw [hy706]; exact H) | exact H
                          have Ny706 := Aside0.mk hy706
                          clear hy706
                          have H' := Aside0.mk H
                          clear H
                          go_wp2_with (first | ((with_reducible refine gate_dst (N := 317) rfl ?_); refine Kd.R_make (Kd.int .i64) _ 3 rfl (N := 317) rfl 25 _ _ rfl t701 rfl rfl Try.underlying25 (.int .i64 0) 8 info3 rfl (by decide) (by omega) 0 (ok := fun _ => True) (okp := fun _ => True) rfl (fun _ hk => hk) trivial (of_decide_eq_true (by first | (with_reducible assumption) | assumption)) (Nat.le_trans (Nat.mul_le_mul_right _ (of_decide_eq_true (by first | (with_reducible assumption) | assumption) : t701.toNat ≤ 35184372088832)) (by omega)) (Below.refl _ _) (Nat.le_refl _) ?_; intro v707 w144 ho145 hb hg_ hnew_; clear hg_ hnew_; (first | rw [← Ny706.out] at ho145 | (simp only [Int.reduceToNat] at ho145; rw [← Ny706.out] at ho145)); have n0_ := Aside0.mk (Kd.R_lower ho145 (below_size (by repeat (first | (with_reducible first | exact HB.out | apply below_alloc | apply pw_below_drewN | apply below_drew1) | exact HB.out)))); have n1_ := Aside0.mk (below_step (by repeat (first | (with_reducible first | exact HB.out | apply below_alloc | apply pw_below_drewN | apply below_drew1) | exact HB.out)) hb); clear HB; have HO708 := n0_; have HB := n1_; clear n0_ n1_; clear hb ho145; obtain ⟨Ao146, co146, eo146⟩ := Kd.R_slice HO708.out; subst eo146))
                          repeat (go_quiet (first | ((with_reducible refine gate_dst (N := 317) rfl ?_); refine Kd.R_make (Kd.int .i64) _ 3 rfl (N := 317) rfl 25 _ _ rfl t701 rfl rfl Try.underlying25 (.int .i64 0) 8 info3 rfl (by decide) (by omega) 0 (ok := fun _ => True) (okp := fun _ => True) rfl (fun _ hk => hk) trivial (of_decide_eq_true (by first | (with_reducible assumption) | assumption)) (Nat.le_trans (Nat.mul_le_mul_right _ (of_decide_eq_true (by first | (with_reducible assumption) | assumption) : t701.toNat ≤ 35184372088832)) (by omega)) (Below.refl _ _) (Nat.le_refl _) ?_; intro v707 w144 ho145 hb hg_ hnew_; clear hg_ hnew_; (first | rw [← Ny706.out] at ho145 | (simp only [Int.reduceToNat] at ho145; rw [← Ny706.out] at ho145)); have n0_ := Aside0.mk (Kd.R_lower ho145 (below_size (by repeat (first | (with_reducible first | exact HB.out | apply below_alloc | apply pw_below_drewN | apply below_drew1) | exact HB.out)))); have n1_ := Aside0.mk (below_step (by repeat (first | (with_reducible first | exact HB.out | apply below_alloc | apply pw_below_drewN | apply below_drew1) | exact HB.out)) hb); clear HB; have HO708 := n0_; have HB := n1_; clear n0_ n1_; clear hb ho145; obtain ⟨Ao146, co146, eo146⟩ := Kd.R_slice HO708.out; subst eo146)); try go_wp2_with (first | ((with_reducible refine gate_dst (N := 317) rfl ?_); refine Kd.R_make (Kd.int .i64) _ 3 rfl (N := 317) rfl 25 _ _ rfl t701 rfl rfl Try.underlying25 (.int .i64 0) 8 info3 rfl (by decide) (by omega) 0 (ok := fun _ => True) (okp := fun _ => True) rfl (fun _ hk => hk) trivial (of_decide_eq_true (by first | (with_reducible assumption) | assumption)) (Nat.le_trans (Nat.mul_le_mul_right _ (of_decide_eq_true (by first | (with_reducible assumption) | assumption) : t701.toNat ≤ 35184372088832)) (by omega)) (Below.refl _ _) (Nat.le_refl _) ?_; intro v707 w144 ho145 hb hg_ hnew_; clear hg_ hnew_; (first | rw [← Ny706.out] at ho145 | (simp only [Int.reduceToNat] at ho145; rw [← Ny706.out] at ho145)); have n0_ := Aside0.mk (Kd.R_lower ho145 (below_size (by repeat (first | (with_reducible first | exact HB.out | apply below_alloc | apply pw_below_drewN | apply below_drew1) | exact HB.out)))); have n1_ := Aside0.mk (below_step (by repeat (first | (with_reducible first | exact HB.out | apply below_alloc | apply pw_below_drewN | apply below_drew1) | exact HB.out)) hb); clear HB; have HO708 := n0_; have HB := n1_; clear n0_ n1_; clear hb ho145; obtain ⟨Ao146, co146, eo146⟩ := Kd.R_slice HO708.out; subst eo146)))
                          go_loopg [43, 321] k8 (fun kq v43 v321 w' => ∃ (x42_9 : List Int) (x43_9 : Int) (x321_9 : Int), v43 = .int .i64 x43_9 ∧ v321 = .int .i64 x321_9 ∧ Aside0 (laws_FnElectionsEnd.l4 kq t701 t702 x38_8 x39_7 x41_8 x42_9 x43_9 (y706.length : Int) x321_9 = some r) ∧ Aside0 (kq ≤ k8) ∧ Aside0 (Kd.R (Kd.int .i64) 3 w' w.heap.size (fun _ => True) (.slice Ao146 y706.length co146) x42_9) ∧ Aside0 (Below w.heap.size w w'))
                          case atStart => exact ⟨(y706), (x41_8), (0), (by first | rfl | (simp; done) | (simp [*]; done)), (by first | rfl | (simp; done) | (simp [*]; done)), H', ⟨Nat.le_refl _⟩, ⟨by (with_reducible repeat (first | apply Kd.R_alloc | apply Kd.R_drewN | apply Kd.R_drew)); exact HO708.out⟩, ⟨by repeat (first | (with_reducible first | exact HB.out | apply below_alloc | apply pw_below_drewN | apply below_drew1) | exact HB.out)⟩⟩
                          case round => as_aux_lemma =>
                           clear H'
                           try clear c1
                           try clear c2
                           try clear p2
                           try clear c3
                           try clear c4
                           try clear c5
                           try clear c6
                           try clear p6
                           try clear q6
                           try clear hx6
                           try clear c7
                           try clear c8
                           try clear c9
                           try clear c10
                           try clear c13
                           try clear c14
                           try clear c18
                           try clear c18b0
                           try clear c18b1
                           try clear c18b2
                           try clear c20
                           try clear c21
                           try clear c21b0
                           try clear c21b1
                           try clear c21b2
                           try clear c25
                           try clear c25b0
                           try clear c25b1
                           try clear c26
                           try clear c26b0
                           try clear c26b1
                           try clear c26b2
                           try clear c29
                           try clear c29b0
                           try clear c29b1
                           try clear c30
                           try clear c30b0
                           try clear c30b1
                           try clear c30b2
                           try clear c34
                           try clear c34b0
                           try clear c34b1
                           try clear c34b2
                           try clear c48
                           try clear c50
                           try clear c52
                           try clear c52b0
                           try clear c53
                           try clear c53b0
                           try clear c54
                           try clear c54b0
                           try clear c56
                           try clear c56b0
                           try clear c56b1
                           try clear c56b2
                           try clear c57
                           try clear c57b0
                           try clear c58
                           try clear c58b0
                           try clear c59
                           try clear c59b0
                           try clear c59b1
                           try clear c59b2
                           try clear c61
                           try clear c61b0
                           try clear c62
                           try clear c62b0
                           try clear c63
                           try clear c63b0
                           try clear c64
                           try clear p64
                           try clear c66
                           try clear c66b0
                           try clear c67
                           try clear p67
                           try clear q67
                           try clear hx67
                           try clear c68
                           try clear c68b0
                           try clear c68b1
                           try clear c68b2
                           try clear c70
                           try clear c70b0
                           try clear c71
                           try clear c71b0
                           try clear c72
                           try clear c72b0
                           try clear c73
                           try clear c73b0
                           try clear c74
                           try clear c74b0
                           try clear c75
                           try clear c75b0
                           try clear c76
                           try clear c76b0
                           try clear c88
                           try clear c88b0
                           try clear c88b1
                           try clear c88b2
                           try clear c90
                           try clear c91
                           try clear c91b0
                           try clear c91b1
                           try clear c91b2
                           try clear c101
                           try clear c103
                           try clear c106
                           try clear c107
                           try clear c107b0
                           try clear c107b1
                           try clear c108
                           try clear c109
                           try clear c109b0
                           try clear c109b1
                           try clear c135
                           try clear c135b0
                           try clear c135b1
                           try clear c135b2
                           try clear c136
                           try clear c138
                           try clear c139
                           try clear c140
                           try clear c140b0
                           try clear c141
                           try clear c141b0
                           try clear c142
                           try clear c142b0
                           try clear c142b1
                           try clear c143
                           try clear c143b0
                           try clear c143b1
                           try clear hx673_0
                           try clear hx674_0
                           try clear hx675_0
                           try clear hx676_0
                           try clear hx677_0
                           try clear p2
                           try clear p6
                           try clear p64
                           try clear p67
                           try clear p673
                           try clear p674
                           try clear p675
                           try clear p676
                           try clear p677
                           try clear q6
                           try clear q67
                           try clear q673
                           try clear q674
                           try clear q675
                           try clear q676
                           try clear q677
                           obtain ⟨x42_9, x43_9, x321_9, rfl, rfl, HA, HK9, HO_42, HB⟩ := hrel
                           have hl42_9 := (Kd.R_reads' HO_42.out).1
                           rw [hl42_9] at HO_42
                           (try simp only [hl42_9])
                           cases gk with
                           | zero => exact absurd HA.out (by simp [laws_FnElectionsEnd.l4])
                           | succ k9 =>
                            have H := HA.out
                            clear HA
                            simp only [laws_FnElectionsEnd.l4] at H
                            by_cases c147 : x321_9 < (y706.length : Int)
                            ·as_aux_lemma =>
                             rw [if_pos c147] at H
                             have c147b0 : decide (x321_9 < (y706.length : Int)) = true := decide_eq_true c147
                             clear c147
                             by_cases c148 : t701 = 0
                             ·as_aux_lemma =>
                              rw [if_pos c148] at H
                              exact absurd H (by simp)
                             ·as_aux_lemma =>
                              rw [if_neg c148] at H
                              have c148b0 : (t701 == 0) = false := beq_eq_false_iff_ne.mpr c148
                              have c148b1 : (t701 != 0) = true := bne_iff_ne.mpr c148
                              by_cases c149 : 0 ≤ x321_9
                              ·as_aux_lemma =>
                               rw [if_pos c149] at H
                               have c149b0 : decide (0 ≤ x321_9) = true := decide_eq_true c149
                               clear c149
                               by_cases c150 : x321_9 < (x42_9.length : Int)
                               ·as_aux_lemma =>
                                rw [if_pos c150] at H
                                have c150b0 : decide (x321_9 < (x42_9.length : Int)) = true := decide_eq_true c150
                                clear c150
                                obtain ⟨y709, hy709⟩ : ∃ y_ : List Int, y_ = (x42_9.set (x321_9 : Int).toNat (Int.tmod x43_9 t701)) := ⟨_, rfl⟩
                                replace H : (laws_FnElectionsEnd.l4 k9 t701 t702 x38_8 x39_7 x41_8 y709 (wrap64 (Int.tdiv x43_9 t701)) (y706.length : Int) (wrap64 (x321_9 + 1))) = some r := by first | (rw [hy709]; with_reducible exact H) | (have H2_ := (Option.bind_some _ _).symm.trans H; rw [hy709]; with_reducible exact H2_) | (have H2_ := (Option.bind_some _ _).symm.trans H; with_reducible exact H2_) | with_reducible exact H | (rw [hy709]; exact H) | exact H
                                have Ny709 := Aside0.mk hy709
                                clear hy709
                                have H' := Aside0.mk H
                                clear H
                                have p151 : 0 ≤ (x321_9 : Int) := of_decide_eq_true (by first | (with_reducible assumption) | assumption)
                                have q151 : (x321_9 : Int) < ((x42_9.length : Int) : Int) := of_decide_eq_true (by first | (with_reducible assumption) | assumption)
                                obtain ⟨go151, co151, eo151, gb151, gl151, cl151, HG151⟩ := Kd.R_form HO_42.out (by omega)
                                (first | cases eo151 | (injection eo151 with ea_ en_ ec_; (first | subst ea_ | (injection ea_ with ea_; subst ea_)); subst ec_; clear en_))
                                have GB151 := Aside0.mk gb151
                                have GG151 := Aside0.mk HG151
                                clear gb151 gl151 HG151
                                obtain ⟨hx151_0, hf151_0⟩ := Kd.R_celln 0 HO_42.out (x321_9 : Int) p151 q151
                                replace p151 := eq_true p151
                                replace q151 := eq_true q151
                                have HP152 := Kd.R_putg HO_42.out (x321_9 : Int) (Int.tmod x43_9 t701)
                                go_wp2_with (first | ((with_reducible refine gate_store (t := 3) (p := 329) rfl ?_); (try (rw [drewN_self wr]; generalize hq_ : World.drewN wr _ = wr; have n0_ := Aside0.mk (Kd.R_at hq_ HO_42.out); have n1_ := Aside0.mk (below_at hq_ HB.out); clear hq_ HO_42 HB; have HO_42 := n0_; have HB := n1_; clear n0_ n1_; (try (have HP152 := Kd.R_putg HO_42.out (x321_9 : Int) (Int.tmod x43_9 t701))))); refine store_event (t := 3) (p := 329) (v := ?vo_w153) (w1 := (wr.setCell ⟨go151, (x321_9 : Int).toNat, none⟩ (.int .i64 (Int.tmod x43_9 t701)))) ?hg ?ho ?hn ?hr ?_; (case ho => rfl); (case hg => rfl); (case hn => rfl); (case hr => first | (go_simp; done) | (go_simp; rfl)); intro w153 hw; have hg : wr.grownBy w153 (some go151) := (by rw [hw]; exact HP152.2); have hp_ : Kd.R (Kd.int .i64) 3 w153 w.heap.size (fun _ => True) (.slice (some ⟨go151, 0, none⟩) x42_9.length co146) y709 := (by rw [hw, Ny709.out]; exact HP152.1); clear HP152; have n0_ := Aside0.mk (hp_); have n1_ := Aside0.mk ((by rw [hw]; exact below_set (HB.out) GB151.out : Below w.heap.size w w153)); clear HO_42; clear HB; have HO_42 := n0_; have HB := n1_; clear n0_ n1_; clear hg hw hp_))
                                repeat (go_quiet (first | ((with_reducible refine gate_store (t := 3) (p := 329) rfl ?_); (try (rw [drewN_self wr]; generalize hq_ : World.drewN wr _ = wr; have n0_ := Aside0.mk (Kd.R_at hq_ HO_42.out); have n1_ := Aside0.mk (below_at hq_ HB.out); clear hq_ HO_42 HB; have HO_42 := n0_; have HB := n1_; clear n0_ n1_; (try (have HP152 := Kd.R_putg HO_42.out (x321_9 : Int) (Int.tmod x43_9 t701))))); refine store_event (t := 3) (p := 329) (v := ?vo_w153) (w1 := (wr.setCell ⟨go151, (x321_9 : Int).toNat, none⟩ (.int .i64 (Int.tmod x43_9 t701)))) ?hg ?ho ?hn ?hr ?_; (case ho => rfl); (case hg => rfl); (case hn => rfl); (case hr => first | (go_simp; done) | (go_simp; rfl)); intro w153 hw; have hg : wr.grownBy w153 (some go151) := (by rw [hw]; exact HP152.2); have hp_ : Kd.R (Kd.int .i64) 3 w153 w.heap.size (fun _ => True) (.slice (some ⟨go151, 0, none⟩) x42_9.length co146) y709 := (by rw [hw, Ny709.out]; exact HP152.1); clear HP152; have n0_ := Aside0.mk (hp_); have n1_ := Aside0.mk ((by rw [hw]; exact below_set (HB.out) GB151.out : Below w.heap.size w w153)); clear HO_42; clear HB; have HO_42 := n0_; have HB := n1_; clear n0_ n1_; clear hg hw hp_)); try go_wp2_with (first | ((with_reducible refine gate_store (t := 3) (p := 329) rfl ?_); (try (rw [drewN_self wr]; generalize hq_ : World.drewN wr _ = wr; have n0_ := Aside0.mk (Kd.R_at hq_ HO_42.out); have n1_ := Aside0.mk (below_at hq_ HB.out); clear hq_ HO_42 HB; have HO_42 := n0_; have HB := n1_; clear n0_ n1_; (try (have HP152 := Kd.R_putg HO_42.out (x321_9 : Int) (Int.tmod x43_9 t701))))); refine store_event (t := 3) (p := 329) (v := ?vo_w153) (w1 := (wr.setCell ⟨go151, (x321_9 : Int).toNat, none⟩ (.int .i64 (Int.tmod x43_9 t701)))) ?hg ?ho ?hn ?hr ?_; (case ho => rfl); (case hg => rfl); (case hn => rfl); (case hr => first | (go_simp; done) | (go_simp; rfl)); intro w153 hw; have hg : wr.grownBy w153 (some go151) := (by rw [hw]; exact HP152.2); have hp_ : Kd.R (Kd.int .i64) 3 w153 w.heap.size (fun _ => True) (.slice (some ⟨go151, 0, none⟩) x42_9.length co146) y709 := (by rw [hw, Ny709.out]; exact HP152.1); clear HP152; have n0_ := Aside0.mk (hp_); have n1_ := Aside0.mk ((by rw [hw]; exact below_set (HB.out) GB151.out : Below w.heap.size w w153)); clear HO_42; clear HB; have HO_42 := n0_; have HB := n1_; clear n0_ n1_; clear hg hw hp_)))
                                (try simp only [← hl42_9])
                                go_roundg k9
                                case measure => have := HJ10.out; have := HJ48.out; have := HJ81.out; have := HJ101.out; have := HJ132.out; have := HJ136.out; have := HK7.out; have := HK8.out; have := HK9.out; omega
                                case rel => exact ⟨(y709), (wrap64 (Int.tdiv x43_9 t701)), (wrap64 (x321_9 + 1)), (by first | rfl | (simp; done) | (simp [*]; done)), (by first | rfl | (simp; done) | (simp [*]; done)), H', ⟨by have := HJ10.out; have := HJ48.out; have := HJ81.out; have := HJ101.out; have := HJ132.out; have := HJ136.out; have := HK7.out; have := HK8.out; have := HK9.out; omega⟩, ⟨by (try simp only [hl42_9]); (with_reducible repeat (first | apply Kd.R_alloc | apply Kd.R_drewN | apply Kd.R_drew)); exact HO_42.out⟩, ⟨by repeat (first | (with_reducible first | exact HB.out | apply below_alloc | apply pw_below_drewN | apply below_drew1) | exact HB.out)⟩⟩
                               ·as_aux_lemma =>
                                rw [if_neg c150] at H
                                exact absurd H (by simp)
                              ·as_aux_lemma =>
                               rw [if_neg c149] at H
                               exact absurd H (by simp)
                            ·as_aux_lemma =>
                             rw [if_neg c147] at H
                             have c147b0 : decide (x321_9 < (y706.length : Int)) = false := decide_eq_false c147
                             have c147b9 : decide (x321_9 < (x42_9.length : Int)) = false := by rw [← hl42_9]; exact c147b0
                             clear c147
                             replace H := Option.bind_eq_some_iff.mp H
                             obtain ⟨⟨t710, t711⟩, A1540, H⟩ := H
                             replace H : (if t711 = true then (laws_FnElectionsEnd.l3 k9 t701 t702 (wrap64 (x38_8 + t710)) x39_7 (wrap64 (x41_8 + 1))) else (laws_FnElectionsEnd.l3 k9 t701 t702 x38_8 x39_7 (wrap64 (x41_8 + 1)))) = some r := H
                             have A154 := Aside0.mk A1540
                             clear A1540
                             by_cases c155 : t711 = true
                             ·as_aux_lemma =>
                              subst c155
                              have H1 : (laws_FnElectionsEnd.l3 k9 t701 t702 (wrap64 (x38_8 + t710)) x39_7 (wrap64 (x41_8 + 1))) = some r := by rw [if_pos rfl] at H; exact H
                              clear H
                              have H := H1
                              clear H1
                              have H' := Aside0.mk H
                              clear H
                              go_wp2_with (first | (go_at_call 28; (with_reducible refine (impl_SimpleMessages.calls k9 _ _ x42_9 t710 true _ ?side1 ?side2 A154.out).mono ?_); (case side1 => repeat (first | exact (Kd.R_reads' HO_42.out).2.2 | (with_reducible refine Kd.C_alloc ?_ _) | (with_reducible refine Kd.C_drewN ?_ _) | (with_reducible refine Kd.C_drew ?_))); (case side2 => exact (Kd.R_reads' HO_42.out).2.1); rintro e w156 ⟨rfl, hb⟩; have n0_ := Aside0.mk (Kd.R_below (by (with_reducible repeat (first | apply Kd.R_alloc | apply Kd.R_drewN | apply Kd.R_drew)); exact HO_42.out) hb); have n1_ := Aside0.mk (below_step (by repeat (first | (with_reducible first | exact HB.out | apply below_alloc | apply pw_below_drewN | apply below_drew1) | exact HB.out)) hb); clear HO_42; clear HB; have HO_42 := n0_; have HB := n1_; clear n0_ n1_; (try clear hb); (try clear hb2); (try clear hk); (try clear hi)))
                              repeat (go_quiet (first | (go_at_call 28; (with_reducible refine (impl_SimpleMessages.calls k9 _ _ x42_9 t710 true _ ?side1 ?side2 A154.out).mono ?_); (case side1 => repeat (first | exact (Kd.R_reads' HO_42.out).2.2 | (with_reducible refine Kd.C_alloc ?_ _) | (with_reducible refine Kd.C_drewN ?_ _) | (with_reducible refine Kd.C_drew ?_))); (case side2 => exact (Kd.R_reads' HO_42.out).2.1); rintro e w156 ⟨rfl, hb⟩; have n0_ := Aside0.mk (Kd.R_below (by (with_reducible repeat (first | apply Kd.R_alloc | apply Kd.R_drewN | apply Kd.R_drew)); exact HO_42.out) hb); have n1_ := Aside0.mk (below_step (by repeat (first | (with_reducible first | exact HB.out | apply below_alloc | apply pw_below_drewN | apply below_drew1) | exact HB.out)) hb); clear HO_42; clear HB; have HO_42 := n0_; have HB := n1_; clear n0_ n1_; (try clear hb); (try clear hb2); (try clear hk); (try clear hi))); try go_wp2_with (first | (go_at_call 28; (with_reducible refine (impl_SimpleMessages.calls k9 _ _ x42_9 t710 true _ ?side1 ?side2 A154.out).mono ?_); (case side1 => repeat (first | exact (Kd.R_reads' HO_42.out).2.2 | (with_reducible refine Kd.C_alloc ?_ _) | (with_reducible refine Kd.C_drewN ?_ _) | (with_reducible refine Kd.C_drew ?_))); (case side2 => exact (Kd.R_reads' HO_42.out).2.1); rintro e w156 ⟨rfl, hb⟩; have n0_ := Aside0.mk (Kd.R_below (by (with_reducible repeat (first | apply Kd.R_alloc | apply Kd.R_drewN | apply Kd.R_drew)); exact HO_42.out) hb); have n1_ := Aside0.mk (below_step (by repeat (first | (with_reducible first | exact HB.out | apply below_alloc | apply pw_below_drewN | apply below_drew1) | exact HB.out)) hb); clear HO_42; clear HB; have HO_42 := n0_; have HB := n1_; clear n0_ n1_; (try clear hb); (try clear hb2); (try clear hk); (try clear hi))))
                              (try simp only [← hl42_9])
                              go_roundg k9
                              case measure => have := HJ10.out; have := HJ48.out; have := HJ81.out; have := HJ101.out; have := HJ132.out; have := HJ136.out; have := HK7.out; have := HK8.out; have := HK9.out; omega
                              case rel => exact ⟨(wrap64 (x38_8 + t710)), (wrap64 (x41_8 + 1)), (by first | rfl | (simp; done) | (simp [*]; done)), (by first | rfl | (simp; done) | (simp [*]; done)), H', ⟨by have := HJ10.out; have := HJ48.out; have := HJ81.out; have := HJ101.out; have := HJ132.out; have := HJ136.out; have := HK7.out; have := HK8.out; have := HK9.out; omega⟩, ⟨by repeat (first | (with_reducible first | exact HB.out | apply below_alloc | apply pw_below_drewN | apply below_drew1) | exact HB.out)⟩⟩
                             ·as_aux_lemma =>
                              replace c155 := Bool.eq_false_iff.mpr c155
                              subst c155
                              have H1 : (laws_FnElectionsEnd.l3 k9 t701 t702 x38_8 x39_7 (wrap64 (x41_8 + 1))) = some r := by rw [if_neg (show ¬ (false = true) by decide)] at H; exact H
                              clear H
                              have H := H1
                              clear H1
                              have H' := Aside0.mk H
                              clear H
                              go_wp2_with (first | (go_at_call 28; (with_reducible refine (impl_SimpleMessages.calls k9 _ _ x42_9 t710 false _ ?side1 ?side2 A154.out).mono ?_); (case side1 => repeat (first | exact (Kd.R_reads' HO_42.out).2.2 | (with_reducible refine Kd.C_alloc ?_ _) | (with_reducible refine Kd.C_drewN ?_ _) | (with_reducible refine Kd.C_drew ?_))); (case side2 => exact (Kd.R_reads' HO_42.out).2.1); rintro e w157 ⟨rfl, hb⟩; have n0_ := Aside0.mk (Kd.R_below (by (with_reducible repeat (first | apply Kd.R_alloc | apply Kd.R_drewN | apply Kd.R_drew)); exact HO_42.out) hb); have n1_ := Aside0.mk (below_step (by repeat (first | (with_reducible first | exact HB.out | apply below_alloc | apply pw_below_drewN | apply below_drew1) | exact HB.out)) hb); clear HO_42; clear HB; have HO_42 := n0_; have HB := n1_; clear n0_ n1_; (try clear hb); (try clear hb2); (try clear hk); (try clear hi)))
                              repeat (go_quiet (first | (go_at_call 28; (with_reducible refine (impl_SimpleMessages.calls k9 _ _ x42_9 t710 false _ ?side1 ?side2 A154.out).mono ?_); (case side1 => repeat (first | exact (Kd.R_reads' HO_42.out).2.2 | (with_reducible refine Kd.C_alloc ?_ _) | (with_reducible refine Kd.C_drewN ?_ _) | (with_reducible refine Kd.C_drew ?_))); (case side2 => exact (Kd.R_reads' HO_42.out).2.1); rintro e w157 ⟨rfl, hb⟩; have n0_ := Aside0.mk (Kd.R_below (by (with_reducible repeat (first | apply Kd.R_alloc | apply Kd.R_drewN | apply Kd.R_drew)); exact HO_42.out) hb); have n1_ := Aside0.mk (below_step (by repeat (first | (with_reducible first | exact HB.out | apply below_alloc | apply pw_below_drewN | apply below_drew1) | exact HB.out)) hb); clear HO_42; clear HB; have HO_42 := n0_; have HB := n1_; clear n0_ n1_; (try clear hb); (try clear hb2); (try clear hk); (try clear hi))); try go_wp2_with (first | (go_at_call 28; (with_reducible refine (impl_SimpleMessages.calls k9 _ _ x42_9 t710 false _ ?side1 ?side2 A154.out).mono ?_); (case side1 => repeat (first | exact (Kd.R_reads' HO_42.out).2.2 | (with_reducible refine Kd.C_alloc ?_ _) | (with_reducible refine Kd.C_drewN ?_ _) | (with_reducible refine Kd.C_drew ?_))); (case side2 => exact (Kd.R_reads' HO_42.out).2.1); rintro e w157 ⟨rfl, hb⟩; have n0_ := Aside0.mk (Kd.R_below (by (with_reducible repeat (first | apply Kd.R_alloc | apply Kd.R_drewN | apply Kd.R_drew)); exact HO_42.out) hb); have n1_ := Aside0.mk (below_step (by repeat (first | (with_reducible first | exact HB.out | apply below_alloc | apply pw_below_drewN | apply below_drew1) | exact HB.out)) hb); clear HO_42; clear HB; have HO_42 := n0_; have HB := n1_; clear n0_ n1_; (try clear hb); (try clear hb2); (try clear hk); (try clear hi))))
                              (try simp only [← hl42_9])
                              go_roundg k9
                              case measure => have := HJ10.out; have := HJ48.out; have := HJ81.out; have := HJ101.out; have := HJ132.out; have := HJ136.out; have := HK7.out; have := HK8.out; have := HK9.out; omega
                              case rel => exact ⟨(x38_8), (wrap64 (x41_8 + 1)), (by first | rfl | (simp; done) | (simp [*]; done)), (by first | rfl | (simp; done) | (simp [*]; done)), H', ⟨by have := HJ10.out; have := HJ48.out; have := HJ81.out; have := HJ101.out; have := HJ132.out; have := HJ136.out; have := HK7.out; have := HK8.out; have := HK9.out; omega⟩, ⟨by repeat (first | (with_reducible first | exact HB.out | apply below_alloc | apply pw_below_drewN | apply below_drew1) | exact HB.out)⟩⟩
                         ·as_aux_lemma =>
                          rw [if_neg c143] at H
                          exact absurd H (by simp)
                        ·as_aux_lemma =>
                         rw [if_neg c142] at H
                         exact absurd H (by simp)
                       ·as_aux_lemma =>
                        rw [if_neg c141] at H
                        have c141b0 : decide (x41_8 < x39_7) = false := decide_eq_false c141
                        clear c141
                        obtain rfl := Option.some.inj H
                        go_wp2
                        repeat (go_quiet (fail); try go_wp2)
                        go_ret
                        exact ⟨by first | rfl | (simp [errW_none, errW_some] <;> rfl) | (simp [*, errW_none, errW_some] <;> rfl), by repeat (first | (with_reducible first | exact HB.out | apply below_alloc | apply pw_below_drewN | apply below_drew1) | exact HB.out)⟩
                 ·as_aux_lemma =>
                  replace c139 := Bool.eq_false_iff.mpr c139
                  subst c139
                  have H1 : (some true) = some r := by rw [if_neg (show ¬ (false = true) by decide)] at H; exact H
                  clear H
                  have H := H1
                  clear H1
                  obtain rfl := Option.some.inj H
                  go_wp2
                  repeat (go_quiet (fail); try go_wp2)
                  go_ret
                  exact ⟨by first | rfl | (simp [errW_none, errW_some] <;> rfl) | (simp [*, errW_none, errW_some] <;> rfl), by repeat (first | (with_reducible first | exact HB.out | apply below_alloc | apply pw_below_drewN | apply below_drew1) | exact HB.out)⟩

end Go.Proofs.Ytbiiklkkfkipeaa.X
