/- Several texts of this session in one: X34, X35, X37, PlEv, PlEqInt, PlMarks, PlStructs, PlAll, PlJobs, PlStarts, PlStructMarks, PureFnExactAgedStarts, Rw. -/
import Derived.Test.YtkkgnjdepgmjlaaMFnExactAgedStarts0
import Derived.Test.YtkkgnjdepgmjlaaMFnExactAgedStarts1
import Derived.Test.YtkkgnjdepgmjlaaMFnExactAgedStarts2
import Derived.Test.YtkkgnjdepgmjlaaMFnExactAgedStarts3
import Derived.Test.YtkkgnjdepgmjlaaWWords
import Derived.Test.YtkkgnjdepgmjlaaWMore
import Derived.Deep.Slices
import Derived.Deep.Fields
import Derived.ChangeSame
import Derived.Lib.SmallJoins
import Derived.SizedLaws
import Derived.ChangeSlices
/- What the functions of the program come to, and that they do: written by this session's program wip/xprint.py out of the translation; parts named extern are typed by hand. -/
namespace Go.Proofs.Ytkkgnjdepgmjlaa.X
open Go.RowKit Go.Proofs.YtkkgnjdepgmjlaaW.PrintWords Go.Proofs.YtkkgnjdepgmjlaaW.PrintLast Go.Proofs.YtkkgnjdepgmjlaaW.PrintMore
attribute [local go_sem] max2_int min2_int max_two min_two max_three min_three max_four min_four   -- for this text's walks alone
set_option linter.unusedVariables false
set_option linter.unusedSimpArgs false

/-! ### laws_FnExactAgedStarts: function 6 -/
mutual
def laws_FnExactAgedStarts.j0 : Nat → List (S45) → Int → List Int → Bool → List (S43) → List Int → Bool → Bool → Option (Bool)
  | 0, _, _, _, _, _, _, _, _ => none
  | k + 1, x0, x1, x6, x7, x8, x9, x10, x44 => if x44 = true then (some false) else ((laws_toJobS.f k x0).bind fun t388 => ((laws_eqJobS.f k x8 t388).bind fun t391 => (if t391 = true then ((laws_markJobS.f k x8 1).bind fun bt392 => (if bt392.1 < 0 then (laws_FnExactAgedStarts.j1 k x0 x1 x6 x7 x9 true) else ((laws_eqIntS.f k x9 x6).bind fun t394 => (if t394 = true then (laws_FnExactAgedStarts.j1 k x0 x1 x6 x7 x9 (x10 != x7)) else (laws_FnExactAgedStarts.j1 k x0 x1 x6 x7 x9 true))))) else (some false))))
def laws_FnExactAgedStarts.j1 : Nat → List (S45) → Int → List Int → Bool → List Int → Bool → Option (Bool)
  | 0, _, _, _, _, _, _ => none
  | k + 1, x0, x1, x6, x7, x9, x65 => if x65 = true then (some false) else ((laws_markIntS.f k x9 1).bind fun bt395 => ((laws_heldIntS.f k bt395.2 1).bind fun t397 => (if t397 < 0 then (some false) else (if t397 = bt395.1 then ((laws_toJobS.f k x0).bind fun t398 => ((impl_AgedStarts.f k t398 x1).bind fun bt401 => ((laws_eqIntS.f k bt401.1 x6).bind fun t405 => (if t405 = true then (laws_FnExactAgedStarts.j2 k bt395.2 bt395.1 (bt401.2 != x7)) else (laws_FnExactAgedStarts.j2 k bt395.2 bt395.1 true))))) else (some false)))))
def laws_FnExactAgedStarts.j2 : Nat → List Int → Int → Bool → Option (Bool)
  | 0, _, _, _ => none
  | k + 1, x9, x12, x92 => if x92 = true then (some false) else ((laws_heldIntS.f k x9 1).bind fun t406 => (if t406 < 0 then (some false) else (if t406 = x12 then (some true) else (some false))))
end
def laws_FnExactAgedStarts.f (k : Nat) (l0 : List (S45)) (a1 : Int) : Option (Bool) := (laws_szJobS.f l0 1048576).bind fun t372 => (if t372 < 0 then (some true) else ((laws_toJobS.f k l0).bind fun t373 => ((spec_AgedStarts.f k t373 a1).bind fun bt376 => ((laws_toJobS.f k l0).bind fun t380 => ((impl_AgedStarts.f k t380 a1).bind fun bt383 => ((laws_eqIntS.f k bt383.1 bt376.1).bind fun t387 => (if t387 = true then (laws_FnExactAgedStarts.j0 k l0 a1 bt376.1 bt376.2 t380 bt383.1 bt383.2 (bt383.2 != bt376.2)) else (laws_FnExactAgedStarts.j0 k l0 a1 bt376.1 bt376.2 t380 bt383.1 bt383.2 true))))))))
set_option maxHeartbeats 8000000 in
set_option maxRecDepth 100000 in
theorem laws_FnExactAgedStarts.calls (k : Nat) (A0 : Option Addr) (c0 : Nat) (l0 : List (S45)) (a1 : Int) (r : Bool) (w : World) (hr0 : Kd.C k45 w A0 l0.length l0) (hc0 : l0.length ≤ c0) (h : laws_FnExactAgedStarts.f k l0 a1 = some r) :
    Calls Try.prog 6 #[.slice A0 l0.length c0, .int .i64 a1] w fun e w' => e = .returned (.bool r) ∧ Below w.heap.size w w' := by
  have HR0 := Aside0.mk hr0
  have HC0 := Aside0.mk hc0
  clear hr0 hc0
  have HB := Aside0.mk (Below.refl w.heap.size w)
  have H : ((laws_szJobS.f l0 1048576).bind fun t372 => (if t372 < 0 then (some true) else ((laws_toJobS.f k l0).bind fun t373 => ((spec_AgedStarts.f k t373 a1).bind fun bt376 => ((laws_toJobS.f k l0).bind fun t380 => ((impl_AgedStarts.f k t380 a1).bind fun bt383 => ((laws_eqIntS.f k bt383.1 bt376.1).bind fun t387 => (if t387 = true then (laws_FnExactAgedStarts.j0 k l0 a1 bt376.1 bt376.2 t380 bt383.1 bt383.2 (bt383.2 != bt376.2)) else (laws_FnExactAgedStarts.j0 k l0 a1 bt376.1 bt376.2 t380 bt383.1 bt383.2 true))))))))) = some r := h
  clear h
  replace H := Option.bind_eq_some_iff.mp H
  obtain ⟨t372, A30, H⟩ := H
  replace H : (if t372 < 0 then (some true) else ((laws_toJobS.f k l0).bind fun t373 => ((spec_AgedStarts.f k t373 a1).bind fun bt376 => ((laws_toJobS.f k l0).bind fun t380 => ((impl_AgedStarts.f k t380 a1).bind fun bt383 => ((laws_eqIntS.f k bt383.1 bt376.1).bind fun t387 => (if t387 = true then (laws_FnExactAgedStarts.j0 k l0 a1 bt376.1 bt376.2 t380 bt383.1 bt383.2 (bt383.2 != bt376.2)) else (laws_FnExactAgedStarts.j0 k l0 a1 bt376.1 bt376.2 t380 bt383.1 bt383.2 true)))))))) = some r := H
  have A3 := Aside0.mk A30
  clear A30
  by_cases c4 : t372 < 0
  · rw [if_pos c4] at H
    have c4b0 : decide (t372 < 0) = true := decide_eq_true c4
    clear c4
    obtain rfl := Option.some.inj H
    go_enter Try.func6, Try.ntmps6
    go_wp2_with (first | ((with_reducible refine gate_callee (f := 11) rfl ?_); refine goesL_ (some 18) rfl rfl Try.func11 (by kernel_rfl) rfl #[.slice A0 l0.length c0, .int .i64 1048576] rfl (by (try simp only [List.map_toArray, List.map_cons, List.map_nil]); first | done | rfl | (simp only [List.length_drop, List.length_take]; rfl)) ?_; (with_reducible refine (laws_szJobS.calls _ _ l0 1048576 t372 _ ?side1 ?side2 A3.out).mono ?_); (case side1 => repeat (first | exact HR0.out | (with_reducible refine Kd.C_alloc ?_ _) | (with_reducible refine Kd.C_drewN ?_ _) | (with_reducible refine Kd.C_drew ?_))); (case side2 => exact HC0.out); rintro e w' ⟨rfl, ⟨nd, rfl⟩⟩; refine ⟨_, rfl, ?_⟩))
    go_ret
    exact ⟨by first | rfl | (simp [errW_none, errW_some] <;> rfl) | (simp [*, errW_none, errW_some] <;> rfl), by repeat (first | (with_reducible first | exact HB.out | apply below_alloc | apply pw_below_drewN | apply below_drew1) | exact HB.out)⟩
  · rw [if_neg c4] at H
    have c4b0 : decide (t372 < 0) = false := decide_eq_false c4
    clear c4
    replace H := Option.bind_eq_some_iff.mp H
    obtain ⟨t373, A50, H⟩ := H
    replace H : ((spec_AgedStarts.f k t373 a1).bind fun bt376 => ((laws_toJobS.f k l0).bind fun t380 => ((impl_AgedStarts.f k t380 a1).bind fun bt383 => ((laws_eqIntS.f k bt383.1 bt376.1).bind fun t387 => (if t387 = true then (laws_FnExactAgedStarts.j0 k l0 a1 bt376.1 bt376.2 t380 bt383.1 bt383.2 (bt383.2 != bt376.2)) else (laws_FnExactAgedStarts.j0 k l0 a1 bt376.1 bt376.2 t380 bt383.1 bt383.2 true)))))) = some r := H
    have A5 := Aside0.mk A50
    clear A50
    replace H := Option.bind_eq_some_iff.mp H
    obtain ⟨⟨t376, t377⟩, A60, H⟩ := H
    replace H : ((laws_toJobS.f k l0).bind fun t380 => ((impl_AgedStarts.f k t380 a1).bind fun bt383 => ((laws_eqIntS.f k bt383.1 t376).bind fun t387 => (if t387 = true then (laws_FnExactAgedStarts.j0 k l0 a1 t376 t377 t380 bt383.1 bt383.2 (bt383.2 != t377)) else (laws_FnExactAgedStarts.j0 k l0 a1 t376 t377 t380 bt383.1 bt383.2 true))))) = some r := H
    have A6 := Aside0.mk A60
    clear A60
    replace H := Option.bind_eq_some_iff.mp H
    obtain ⟨t380, A70, H⟩ := H
    replace H : ((impl_AgedStarts.f k t380 a1).bind fun bt383 => ((laws_eqIntS.f k bt383.1 t376).bind fun t387 => (if t387 = true then (laws_FnExactAgedStarts.j0 k l0 a1 t376 t377 t380 bt383.1 bt383.2 (bt383.2 != t377)) else (laws_FnExactAgedStarts.j0 k l0 a1 t376 t377 t380 bt383.1 bt383.2 true)))) = some r := H
    have A7 := Aside0.mk A70
    clear A70
    replace H := Option.bind_eq_some_iff.mp H
    obtain ⟨⟨t383, t384⟩, A80, H⟩ := H
    replace H : ((laws_eqIntS.f k t383 t376).bind fun t387 => (if t387 = true then (laws_FnExactAgedStarts.j0 k l0 a1 t376 t377 t380 t383 t384 (t384 != t377)) else (laws_FnExactAgedStarts.j0 k l0 a1 t376 t377 t380 t383 t384 true))) = some r := H
    have A8 := Aside0.mk A80
    clear A80
    have HC9 := Aside0.mk H
    clear H
    go_enter Try.func6, Try.ntmps6
    go_upto_region 8 with (first | ((with_reducible refine gate_callee (f := 11) rfl ?_); refine goesL_ (some 18) rfl rfl Try.func11 (by kernel_rfl) rfl #[.slice A0 l0.length c0, .int .i64 1048576] rfl (by (try simp only [List.map_toArray, List.map_cons, List.map_nil]); first | done | rfl | (simp only [List.length_drop, List.length_take]; rfl)) ?_; (with_reducible refine (laws_szJobS.calls _ _ l0 1048576 t372 _ ?side1 ?side2 A3.out).mono ?_); (case side1 => repeat (first | exact HR0.out | (with_reducible refine Kd.C_alloc ?_ _) | (with_reducible refine Kd.C_drewN ?_ _) | (with_reducible refine Kd.C_drew ?_))); (case side2 => exact HC0.out); rintro e w' ⟨rfl, ⟨nd, rfl⟩⟩; refine ⟨_, rfl, ?_⟩) | ((with_reducible refine gate_callee (f := 13) rfl ?_); refine goesL_ (some 23) rfl rfl Try.func13 (by kernel_rfl) rfl #[.slice A0 l0.length c0] rfl (by (try simp only [List.map_toArray, List.map_cons, List.map_nil]); first | done | rfl | (simp only [List.length_drop, List.length_take]; rfl)) ?_; (with_reducible refine (laws_toJobS.calls k _ _ l0 t373 _ ?side1 ?side2 A5.out).mono ?_); (case side1 => repeat (first | exact HR0.out | (with_reducible refine Kd.C_alloc ?_ _) | (with_reducible refine Kd.C_drewN ?_ _) | (with_reducible refine Kd.C_drew ?_))); (case side2 => exact HC0.out); rintro e w10 ⟨v374, rfl, ho0, hb⟩; refine ⟨_, rfl, ?_⟩; have n0_ := Aside0.mk (Kd.R_lower ho0 (below_size (by repeat (first | (with_reducible first | exact HB.out | apply below_alloc | apply pw_below_drewN | apply below_drew1) | exact HB.out)))); have n1_ := Aside0.mk (below_step (by repeat (first | (with_reducible first | exact HB.out | apply below_alloc | apply pw_below_drewN | apply below_drew1) | exact HB.out)) hb); clear HB; have HO375 := n0_; have HB := n1_; clear n0_ n1_; (try clear hb); (try clear hb2); (try clear hk); (try clear hi); (try clear ho0); obtain ⟨Ao11, co11, eo11⟩ := Kd.R_slice HO375.out; subst eo11) | ((with_reducible refine gate_callee (f := 25) rfl ?_); refine goesL_ (some 25) rfl rfl Try.func25 (by kernel_rfl) rfl #[.slice Ao11 t373.length co11, .int .i64 a1] rfl (by (try simp only [List.map_toArray, List.map_cons, List.map_nil]); first | done | rfl | (simp only [List.length_drop, List.length_take]; rfl)) ?_; (with_reducible refine (spec_AgedStarts.calls k _ _ t373 a1 t376 t377 _ ?side1 ?side2 A6.out).mono ?_); (case side1 => repeat (first | exact (Kd.R_reads' HO375.out).2.2 | (with_reducible refine Kd.C_alloc ?_ _) | (with_reducible refine Kd.C_drewN ?_ _) | (with_reducible refine Kd.C_drew ?_))); (case side2 => exact (Kd.R_reads' HO375.out).2.1); rintro e w12 ⟨v378, rfl, ho0, hb⟩; refine ⟨_, rfl, ?_⟩; have n0_ := Aside0.mk (Kd.R_below (by (with_reducible repeat (first | apply Kd.R_alloc | apply Kd.R_drewN | apply Kd.R_drew)); exact HO375.out) hb); have n1_ := Aside0.mk (Kd.R_lower ho0 (below_size (by repeat (first | (with_reducible first | exact HB.out | apply below_alloc | apply pw_below_drewN | apply below_drew1) | exact HB.out)))); have n2_ := Aside0.mk (below_step (by repeat (first | (with_reducible first | exact HB.out | apply below_alloc | apply pw_below_drewN | apply below_drew1) | exact HB.out)) hb); clear HO375; clear HB; have HO375 := n0_; have HO379 := n1_; have HB := n2_; clear n0_ n1_ n2_; (try clear hb); (try clear hb2); (try clear hk); (try clear hi); (try clear ho0)) | ((with_reducible refine gate_callee (f := 13) rfl ?_); refine goesL_ (some 29) rfl rfl Try.func13 (by kernel_rfl) rfl #[.slice A0 l0.length c0] rfl (by (try simp only [List.map_toArray, List.map_cons, List.map_nil]); first | done | rfl | (simp only [List.length_drop, List.length_take]; rfl)) ?_; (with_reducible refine (laws_toJobS.calls k _ _ l0 t380 _ ?side1 ?side2 A7.out).mono ?_); (case side1 => repeat (first | exact (Kd.C_below HR0.out HB.out) | (with_reducible refine Kd.C_alloc ?_ _) | (with_reducible refine Kd.C_drewN ?_ _) | (with_reducible refine Kd.C_drew ?_))); (case side2 => exact HC0.out); rintro e w13 ⟨v381, rfl, ho0, hb⟩; refine ⟨_, rfl, ?_⟩; have n0_ := Aside0.mk (Kd.R_elder' (by (with_reducible repeat (first | apply Kd.R_alloc | apply Kd.R_drewN | apply Kd.R_drew)); exact HO375.out) (Kd.R_base ho0) hb); have n1_ := Aside0.mk (Kd.R_below (by (with_reducible repeat (first | apply Kd.R_alloc | apply Kd.R_drewN | apply Kd.R_drew)); exact HO379.out) hb); have n2_ := Aside0.mk (Kd.R_lower (Kd.R_new' ho0 (Kd.R_lt (by (with_reducible repeat (first | apply Kd.R_alloc | apply Kd.R_drewN | apply Kd.R_drew)); exact HO375.out))) (below_size (by repeat (first | (with_reducible first | exact HB.out | apply below_alloc | apply pw_below_drewN | apply below_drew1) | exact HB.out)))); have n3_ := Aside0.mk (below_step (by repeat (first | (with_reducible first | exact HB.out | apply below_alloc | apply pw_below_drewN | apply below_drew1) | exact HB.out)) hb); clear HO375; clear HO379; clear HB; have HO375 := n0_; have HO379 := n1_; have HO382 := n2_; have HB := n3_; clear n0_ n1_ n2_ n3_; (try clear hb); (try clear hb2); (try clear hk); (try clear hi); (try clear ho0); obtain ⟨Ao14, co14, eo14⟩ := Kd.R_slice HO382.out; subst eo14) | ((with_reducible refine gate_callee (f := 26) rfl ?_); refine goesL_ (some 33) rfl rfl Try.func26 (by kernel_rfl) rfl #[.slice Ao14 t380.length co14, .int .i64 a1] rfl (by (try simp only [List.map_toArray, List.map_cons, List.map_nil]); first | done | rfl | (simp only [List.length_drop, List.length_take]; rfl)) ?_; (with_reducible refine (impl_AgedStarts.calls k _ _ t380 a1 t383 t384 _ ?side1 ?side2 A8.out).mono ?_); (case side1 => repeat (first | exact (Kd.R_reads' HO382.out).2.2 | (with_reducible refine Kd.C_alloc ?_ _) | (with_reducible refine Kd.C_drewN ?_ _) | (with_reducible refine Kd.C_drew ?_))); (case side2 => exact (Kd.R_reads' HO382.out).2.1); rintro e w15 ⟨v385, rfl, ho0, hb⟩; refine ⟨_, rfl, ?_⟩; have n0_ := Aside0.mk (Kd.R_below (by (with_reducible repeat (first | apply Kd.R_alloc | apply Kd.R_drewN | apply Kd.R_drew)); exact HO375.out) hb); have n1_ := Aside0.mk (Kd.R_elder' (by (with_reducible repeat (first | apply Kd.R_alloc | apply Kd.R_drewN | apply Kd.R_drew)); exact HO379.out) (Kd.R_base ho0) hb); have n2_ := Aside0.mk (Kd.R_below (by (with_reducible repeat (first | apply Kd.R_alloc | apply Kd.R_drewN | apply Kd.R_drew)); exact HO382.out) hb); have n3_ := Aside0.mk (Kd.R_lower (Kd.R_new' ho0 (Kd.R_lt (by (with_reducible repeat (first | apply Kd.R_alloc | apply Kd.R_drewN | apply Kd.R_drew)); exact HO379.out))) (below_size (by repeat (first | (with_reducible first | exact HB.out | apply below_alloc | apply pw_below_drewN | apply below_drew1) | exact HB.out)))); have n4_ := Aside0.mk (below_step (by repeat (first | (with_reducible first | exact HB.out | apply below_alloc | apply pw_below_drewN | apply below_drew1) | exact HB.out)) hb); clear HO375; clear HO379; clear HO382; clear HB; have HO375 := n0_; have HO379 := n1_; have HO382 := n2_; have HO386 := n3_; have HB := n4_; clear n0_ n1_ n2_ n3_ n4_; (try clear hb); (try clear hb2); (try clear hk); (try clear hi); (try clear ho0)))
    (try simp only [Act.put, List.setIfInBounds_toArray, List.set_cons_zero, List.set_cons_succ])
    go_cut [44] (fun v44 wc => ∃ (kq : Nat) (x44_8 : Bool), v44 = .bool x44_8 ∧ Aside0 (laws_FnExactAgedStarts.j0 kq l0 a1 t376 t377 t380 t383 t384 x44_8 = some r) ∧ Aside0 (kq ≤ k) ∧ Aside0 (Kd.R (Kd.int .i64) 3 wc w.heap.size (fun k_ => some k_ ≠ (v385 : Value).ownBlock) v378 t376) ∧ Aside0 (Kd.R k43 43 wc w.heap.size (fun _ => True) (.slice Ao14 t380.length co14) t380) ∧ Aside0 (Kd.R (Kd.int .i64) 3 wc w.heap.size (fun k_ => some k_ ≠ (v378 : Value).ownBlock) v385 t383) ∧ Aside0 (Below w.heap.size w wc))
    case first =>
      have H := HC9.out
      clear HC9
      replace H := Option.bind_eq_some_iff.mp H
      obtain ⟨t387, A160, H⟩ := H
      replace H : (if t387 = true then (laws_FnExactAgedStarts.j0 k l0 a1 t376 t377 t380 t383 t384 (t384 != t377)) else (laws_FnExactAgedStarts.j0 k l0 a1 t376 t377 t380 t383 t384 true)) = some r := H
      have A16 := Aside0.mk A160
      clear A160
      by_cases c17 : t387 = true
      · subst c17
        have H1 : (laws_FnExactAgedStarts.j0 k l0 a1 t376 t377 t380 t383 t384 (t384 != t377)) = some r := by rw [if_pos rfl] at H; exact H
        clear H
        have H := H1
        clear H1
        have H' := Aside0.mk H
        clear H
        obtain ⟨Ao18, co18, eo18⟩ := Kd.R_slice HO386.out
        subst eo18
        obtain ⟨Ao19, co19, eo19⟩ := Kd.R_slice HO379.out
        subst eo19
        go_wp2_with (first | ((with_reducible refine gate_callee (f := 16) rfl ?_); refine goesL_ (some 38) rfl rfl Try.func16 (by kernel_rfl) rfl #[.slice Ao18 t383.length co18, .slice Ao19 t376.length co19] rfl (by (try simp only [List.map_toArray, List.map_cons, List.map_nil]); first | done | rfl | (simp only [List.length_drop, List.length_take]; rfl)) ?_; (with_reducible refine (laws_eqIntS.calls k _ _ t383 _ _ t376 true _ ?side1 ?side2 ?side3 ?side4 A16.out).mono ?_); (case side1 => repeat (first | exact (Kd.R_reads' HO386.out).2.2 | (with_reducible refine Kd.C_alloc ?_ _) | (with_reducible refine Kd.C_drewN ?_ _) | (with_reducible refine Kd.C_drew ?_))); (case side2 => exact (Kd.R_reads' HO386.out).2.1); (case side3 => repeat (first | exact (Kd.R_reads' HO379.out).2.2 | (with_reducible refine Kd.C_alloc ?_ _) | (with_reducible refine Kd.C_drewN ?_ _) | (with_reducible refine Kd.C_drew ?_))); (case side4 => exact (Kd.R_reads' HO379.out).2.1); rintro e w' ⟨rfl, ⟨nd, rfl⟩⟩; refine ⟨_, rfl, ?_⟩))
        go_meet
        case rel => exact ⟨_, ((t384 != t377)), (by first | rfl | (simp; done) | (simp [*]; done)), H', ⟨by first | omega | exact Nat.le_refl _⟩, ⟨by (with_reducible repeat (first | apply Kd.R_alloc | apply Kd.R_drewN | apply Kd.R_drew)); exact Kd.R_mono HO379.out (fun _ hk => hk.2)⟩, ⟨by (with_reducible repeat (first | apply Kd.R_alloc | apply Kd.R_drewN | apply Kd.R_drew)); exact Kd.R_mono HO382.out (fun _ hk => trivial)⟩, ⟨by (with_reducible repeat (first | apply Kd.R_alloc | apply Kd.R_drewN | apply Kd.R_drew)); exact Kd.R_mono HO386.out (fun _ hk => hk.2)⟩, ⟨by repeat (first | (with_reducible first | exact HB.out | apply below_alloc | apply pw_below_drewN | apply below_drew1) | exact HB.out)⟩⟩
      · replace c17 := Bool.eq_false_iff.mpr c17
        subst c17
        have H1 : (laws_FnExactAgedStarts.j0 k l0 a1 t376 t377 t380 t383 t384 true) = some r := by rw [if_neg (show ¬ (false = true) by decide)] at H; exact H
        clear H
        have H := H1
        clear H1
        have H' := Aside0.mk H
        clear H
        obtain ⟨Ao20, co20, eo20⟩ := Kd.R_slice HO386.out
        subst eo20
        obtain ⟨Ao21, co21, eo21⟩ := Kd.R_slice HO379.out
        subst eo21
        go_wp2_with (first | ((with_reducible refine gate_callee (f := 16) rfl ?_); refine goesL_ (some 38) rfl rfl Try.func16 (by kernel_rfl) rfl #[.slice Ao20 t383.length co20, .slice Ao21 t376.length co21] rfl (by (try simp only [List.map_toArray, List.map_cons, List.map_nil]); first | done | rfl | (simp only [List.length_drop, List.length_take]; rfl)) ?_; (with_reducible refine (laws_eqIntS.calls k _ _ t383 _ _ t376 false _ ?side1 ?side2 ?side3 ?side4 A16.out).mono ?_); (case side1 => repeat (first | exact (Kd.R_reads' HO386.out).2.2 | (with_reducible refine Kd.C_alloc ?_ _) | (with_reducible refine Kd.C_drewN ?_ _) | (with_reducible refine Kd.C_drew ?_))); (case side2 => exact (Kd.R_reads' HO386.out).2.1); (case side3 => repeat (first | exact (Kd.R_reads' HO379.out).2.2 | (with_reducible refine Kd.C_alloc ?_ _) | (with_reducible refine Kd.C_drewN ?_ _) | (with_reducible refine Kd.C_drew ?_))); (case side4 => exact (Kd.R_reads' HO379.out).2.1); rintro e w' ⟨rfl, ⟨nd, rfl⟩⟩; refine ⟨_, rfl, ?_⟩))
        go_meet
        case rel => exact ⟨_, (true), (by first | rfl | (simp; done) | (simp [*]; done)), H', ⟨by first | omega | exact Nat.le_refl _⟩, ⟨by (with_reducible repeat (first | apply Kd.R_alloc | apply Kd.R_drewN | apply Kd.R_drew)); exact Kd.R_mono HO379.out (fun _ hk => hk.2)⟩, ⟨by (with_reducible repeat (first | apply Kd.R_alloc | apply Kd.R_drewN | apply Kd.R_drew)); exact Kd.R_mono HO382.out (fun _ hk => trivial)⟩, ⟨by (with_reducible repeat (first | apply Kd.R_alloc | apply Kd.R_drewN | apply Kd.R_drew)); exact Kd.R_mono HO386.out (fun _ hk => hk.2)⟩, ⟨by repeat (first | (with_reducible first | exact HB.out | apply below_alloc | apply pw_below_drewN | apply below_drew1) | exact HB.out)⟩⟩
    case rest =>
      clear HC9
      try clear c1
      try clear c2
      try clear p2
      try clear c4
      try clear c4b0
      try clear c6
      try clear c11
      try clear c13
      try clear c16
      try clear c17
      obtain ⟨kq, x44_8, rfl, HA, HJ8, HO_6, HO_8, HO_9, HB⟩ := hcut
      cases kq with
      | zero => exact absurd HA.out (by simp [laws_FnExactAgedStarts.j0])
      | succ kj8 =>
        have H := HA.out
        clear HA
        simp only [laws_FnExactAgedStarts.j0] at H
        by_cases c22 : x44_8 = true
        · subst c22
          have H1 : (some false) = some r := by rw [if_pos rfl] at H; exact H
          clear H
          have H := H1
          clear H1
          obtain rfl := Option.some.inj H
          go_wp2
          go_ret
          exact ⟨by first | rfl | (simp [errW_none, errW_some] <;> rfl) | (simp [*, errW_none, errW_some] <;> rfl), by repeat (first | (with_reducible first | exact HB.out | apply below_alloc | apply pw_below_drewN | apply below_drew1) | exact HB.out)⟩
        · replace c22 := Bool.eq_false_iff.mpr c22
          subst c22
          have H1 : ((laws_toJobS.f kj8 l0).bind fun t388 => ((laws_eqJobS.f kj8 t380 t388).bind fun t391 => (if t391 = true then ((laws_markJobS.f kj8 t380 1).bind fun bt392 => (if bt392.1 < 0 then (laws_FnExactAgedStarts.j1 kj8 l0 a1 t376 t377 t383 true) else ((laws_eqIntS.f kj8 t383 t376).bind fun t394 => (if t394 = true then (laws_FnExactAgedStarts.j1 kj8 l0 a1 t376 t377 t383 (t384 != t377)) else (laws_FnExactAgedStarts.j1 kj8 l0 a1 t376 t377 t383 true))))) else (some false)))) = some r := by rw [if_neg (show ¬ (false = true) by decide)] at H; exact H
          clear H
          have H := H1
          clear H1
          replace H := Option.bind_eq_some_iff.mp H
          obtain ⟨t388, A230, H⟩ := H
          replace H : ((laws_eqJobS.f kj8 t380 t388).bind fun t391 => (if t391 = true then ((laws_markJobS.f kj8 t380 1).bind fun bt392 => (if bt392.1 < 0 then (laws_FnExactAgedStarts.j1 kj8 l0 a1 t376 t377 t383 true) else ((laws_eqIntS.f kj8 t383 t376).bind fun t394 => (if t394 = true then (laws_FnExactAgedStarts.j1 kj8 l0 a1 t376 t377 t383 (t384 != t377)) else (laws_FnExactAgedStarts.j1 kj8 l0 a1 t376 t377 t383 true))))) else (some false))) = some r := H
          have A23 := Aside0.mk A230
          clear A230
          replace H := Option.bind_eq_some_iff.mp H
          obtain ⟨t391, A240, H⟩ := H
          replace H : (if t391 = true then ((laws_markJobS.f kj8 t380 1).bind fun bt392 => (if bt392.1 < 0 then (laws_FnExactAgedStarts.j1 kj8 l0 a1 t376 t377 t383 true) else ((laws_eqIntS.f kj8 t383 t376).bind fun t394 => (if t394 = true then (laws_FnExactAgedStarts.j1 kj8 l0 a1 t376 t377 t383 (t384 != t377)) else (laws_FnExactAgedStarts.j1 kj8 l0 a1 t376 t377 t383 true))))) else (some false)) = some r := H
          have A24 := Aside0.mk A240
          clear A240
          by_cases c25 : t391 = true
          · subst c25
            have H1 : ((laws_markJobS.f kj8 t380 1).bind fun bt392 => (if bt392.1 < 0 then (laws_FnExactAgedStarts.j1 kj8 l0 a1 t376 t377 t383 true) else ((laws_eqIntS.f kj8 t383 t376).bind fun t394 => (if t394 = true then (laws_FnExactAgedStarts.j1 kj8 l0 a1 t376 t377 t383 (t384 != t377)) else (laws_FnExactAgedStarts.j1 kj8 l0 a1 t376 t377 t383 true))))) = some r := by rw [if_pos rfl] at H; exact H
            clear H
            have H := H1
            clear H1
            replace H := Option.bind_eq_some_iff.mp H
            obtain ⟨⟨t392, t393⟩, A260, H⟩ := H
            replace H : (if t392 < 0 then (laws_FnExactAgedStarts.j1 kj8 l0 a1 t376 t377 t383 true) else ((laws_eqIntS.f kj8 t383 t376).bind fun t394 => (if t394 = true then (laws_FnExactAgedStarts.j1 kj8 l0 a1 t376 t377 t383 (t384 != t377)) else (laws_FnExactAgedStarts.j1 kj8 l0 a1 t376 t377 t383 true)))) = some r := H
            have A26 := Aside0.mk A260
            clear A260
            have HC27 := Aside0.mk H
            clear H
            go_upto_region 14 with (first | ((with_reducible refine gate_callee (f := 13) rfl ?_); refine goesL_ (some 47) rfl rfl Try.func13 (by kernel_rfl) rfl #[.slice A0 l0.length c0] rfl (by (try simp only [List.map_toArray, List.map_cons, List.map_nil]); first | done | rfl | (simp only [List.length_drop, List.length_take]; rfl)) ?_; (with_reducible refine (laws_toJobS.calls kj8 _ _ l0 t388 _ ?side1 ?side2 A23.out).mono ?_); (case side1 => repeat (first | exact (Kd.C_below HR0.out HB.out) | (with_reducible refine Kd.C_alloc ?_ _) | (with_reducible refine Kd.C_drewN ?_ _) | (with_reducible refine Kd.C_drew ?_))); (case side2 => exact HC0.out); rintro e w28 ⟨v389, rfl, ho0, hb⟩; refine ⟨_, rfl, ?_⟩; have n0_ := Aside0.mk (Kd.R_below (by (with_reducible repeat (first | apply Kd.R_alloc | apply Kd.R_drewN | apply Kd.R_drew)); exact HO_6.out) hb); have n1_ := Aside0.mk (Kd.R_elder' (by (with_reducible repeat (first | apply Kd.R_alloc | apply Kd.R_drewN | apply Kd.R_drew)); exact HO_8.out) (Kd.R_base ho0) hb); have n2_ := Aside0.mk (Kd.R_below (by (with_reducible repeat (first | apply Kd.R_alloc | apply Kd.R_drewN | apply Kd.R_drew)); exact HO_9.out) hb); have n3_ := Aside0.mk (Kd.R_lower (Kd.R_new' ho0 (Kd.R_lt (by (with_reducible repeat (first | apply Kd.R_alloc | apply Kd.R_drewN | apply Kd.R_drew)); exact HO_8.out))) (below_size (by repeat (first | (with_reducible first | exact HB.out | apply below_alloc | apply pw_below_drewN | apply below_drew1) | exact HB.out)))); have n4_ := Aside0.mk (below_step (by repeat (first | (with_reducible first | exact HB.out | apply below_alloc | apply pw_below_drewN | apply below_drew1) | exact HB.out)) hb); clear HO_6; clear HO_8; clear HO_9; clear HB; have HO_6 := n0_; have HO_8 := n1_; have HO_9 := n2_; have HO390 := n3_; have HB := n4_; clear n0_ n1_ n2_ n3_ n4_; (try clear hb); (try clear hb2); (try clear hk); (try clear hi); (try clear ho0); obtain ⟨Ao29, co29, eo29⟩ := Kd.R_slice HO390.out; subst eo29) | ((with_reducible refine gate_callee (f := 17) rfl ?_); refine goesL_ (some 48) rfl rfl Try.func17 (by kernel_rfl) rfl #[.slice Ao14 t380.length co14, .slice Ao29 t388.length co29] rfl (by (try simp only [List.map_toArray, List.map_cons, List.map_nil]); first | done | rfl | (simp only [List.length_drop, List.length_take]; rfl)) ?_; (with_reducible refine (laws_eqJobS.calls kj8 _ _ t380 _ _ t388 true _ ?side1 ?side2 ?side3 ?side4 A24.out).mono ?_); (case side1 => repeat (first | exact (Kd.R_reads' HO_8.out).2.2 | (with_reducible refine Kd.C_alloc ?_ _) | (with_reducible refine Kd.C_drewN ?_ _) | (with_reducible refine Kd.C_drew ?_))); (case side2 => exact (Kd.R_reads' HO_8.out).2.1); (case side3 => repeat (first | exact (Kd.R_reads' HO390.out).2.2 | (with_reducible refine Kd.C_alloc ?_ _) | (with_reducible refine Kd.C_drewN ?_ _) | (with_reducible refine Kd.C_drew ?_))); (case side4 => exact (Kd.R_reads' HO390.out).2.1); rintro e w30 ⟨rfl, hb⟩; refine ⟨_, rfl, ?_⟩; have n0_ := Aside0.mk (Kd.R_below (by (with_reducible repeat (first | apply Kd.R_alloc | apply Kd.R_drewN | apply Kd.R_drew)); exact HO_6.out) hb); have n1_ := Aside0.mk (Kd.R_below (by (with_reducible repeat (first | apply Kd.R_alloc | apply Kd.R_drewN | apply Kd.R_drew)); exact HO_8.out) hb); have n2_ := Aside0.mk (Kd.R_below (by (with_reducible repeat (first | apply Kd.R_alloc | apply Kd.R_drewN | apply Kd.R_drew)); exact HO_9.out) hb); have n3_ := Aside0.mk (Kd.R_below (by (with_reducible repeat (first | apply Kd.R_alloc | apply Kd.R_drewN | apply Kd.R_drew)); exact HO390.out) hb); have n4_ := Aside0.mk (below_step (by repeat (first | (with_reducible first | exact HB.out | apply below_alloc | apply pw_below_drewN | apply below_drew1) | exact HB.out)) hb); clear HO_6; clear HO_8; clear HO_9; clear HO390; clear HB; have HO_6 := n0_; have HO_8 := n1_; have HO_9 := n2_; have HO390 := n3_; have HB := n4_; clear n0_ n1_ n2_ n3_ n4_; (try clear hb); (try clear hb2); (try clear hk); (try clear hi)) | ((with_reducible refine gate_callee (f := 18) rfl ?_); refine goesL_ (some 52) rfl rfl Try.func18 (by kernel_rfl) rfl #[.slice Ao14 t380.length co14, .int .i64 1] rfl (by (try simp only [List.map_toArray, List.map_cons, List.map_nil]); first | done | rfl | (simp only [List.length_drop, List.length_take]; rfl)) ?_; (with_reducible refine (laws_markJobS.calls kj8 (fun k_ => some k_ = (.slice Ao14 t380.length co14 : Value).ownBlock) (.slice Ao14 t380.length co14) t380 1 t392 t393 w _ ?side1 ?side2 A26.out).mono ?_); (case side1 => repeat (first | (with_reducible first | exact HB.out | apply below_alloc | apply pw_below_drewN | apply below_drew1) | exact HB.out)); (case side2 => exact Kd.R_tight rfl HO_8.out); rintro e w31 ⟨rfl, hy0, hb, hkp⟩; refine ⟨_, rfl, ?_⟩; have n0_ := Aside0.mk (Kd.R_mono (ok' := fun k_ => some k_ ≠ (v385 : Value).ownBlock) (Kd.R_keptB ((Kd.R_apart' HO_6.out (Kd.R_typed HO_8.out) (by decide))) hkp (fun k_ hk_ hs_ => (hk_.2) hs_)) (fun k_ hk_ => hk_.1.1)); have n1_ := Aside0.mk (Kd.R_reok rfl hy0 (fun k_ e_ => HO_8.out.1 k_ e_)); have n2_ := Aside0.mk (Kd.R_mono (ok' := fun k_ => some k_ ≠ (v378 : Value).ownBlock) (Kd.R_keptB ((Kd.R_apart' HO_9.out (Kd.R_typed HO_8.out) (by decide))) hkp (fun k_ hk_ hs_ => (hk_.2) hs_)) (fun k_ hk_ => hk_.1.1)); have n3_ := Aside0.mk (Kd.R_mono (ok' := fun k_ => some k_ ≠ (.slice Ao14 t380.length co14 : Value).ownBlock) (Kd.R_keptB (HO390.out) hkp (fun k_ hk_ hs_ => (hk_.2) hs_)) (fun k_ hk_ => hk_.1.2)); have n4_ := Aside0.mk (hb); clear HO_6; clear HO_8; clear HO_9; clear HO390; clear HB; have HO_6 := n0_; have HO_8 := n1_; have HO_9 := n2_; have HO390 := n3_; have HB := n4_; clear n0_ n1_ n2_ n3_ n4_; (try clear hb); (try clear hkp); (try clear hy0)))
            (try simp only [Act.put, List.setIfInBounds_toArray, List.set_cons_zero, List.set_cons_succ])
            go_cut [65] (fun v65 wc => ∃ (kq : Nat) (x65_26 : Bool), v65 = .bool x65_26 ∧ Aside0 (laws_FnExactAgedStarts.j1 kq l0 a1 t376 t377 t383 x65_26 = some r) ∧ Aside0 (kq ≤ kj8) ∧ Aside0 (Kd.R (Kd.int .i64) 3 wc w.heap.size (fun k_ => some k_ ≠ (v385 : Value).ownBlock) v378 t376) ∧ Aside0 (Kd.R (Kd.int .i64) 3 wc w.heap.size (fun k_ => some k_ ≠ (v378 : Value).ownBlock) v385 t383) ∧ Aside0 (Below w.heap.size w wc))
            case first =>
              have H := HC27.out
              clear HC27
              by_cases c32 : t392 < 0
              · rw [if_pos c32] at H
                have c32b0 : decide (t392 < 0) = true := decide_eq_true c32
                clear c32
                (first | rw [c32b0] | (simp only [i64_w, i32_w]; rw [c32b0]) | skip)
                have H' := Aside0.mk H
                clear H
                go_wp2
                go_meet
                case rel => exact ⟨_, (true), (by first | rfl | (simp; done) | (simp [*]; done)), H', ⟨by have := HJ8.out; first | omega | exact Nat.le_refl _⟩, ⟨by (with_reducible repeat (first | apply Kd.R_alloc | apply Kd.R_drewN | apply Kd.R_drew)); exact HO_6.out⟩, ⟨by (with_reducible repeat (first | apply Kd.R_alloc | apply Kd.R_drewN | apply Kd.R_drew)); exact HO_9.out⟩, ⟨by repeat (first | (with_reducible first | exact HB.out | apply below_alloc | apply pw_below_drewN | apply below_drew1) | exact HB.out)⟩⟩
              · rw [if_neg c32] at H
                have c32b0 : decide (t392 < 0) = false := decide_eq_false c32
                clear c32
                (first | rw [c32b0] | (simp only [i64_w, i32_w]; rw [c32b0]) | skip)
                replace H := Option.bind_eq_some_iff.mp H
                obtain ⟨t394, A330, H⟩ := H
                replace H : (if t394 = true then (laws_FnExactAgedStarts.j1 kj8 l0 a1 t376 t377 t383 (t384 != t377)) else (laws_FnExactAgedStarts.j1 kj8 l0 a1 t376 t377 t383 true)) = some r := H
                have A33 := Aside0.mk A330
                clear A330
                by_cases c34 : t394 = true
                · subst c34
                  have H1 : (laws_FnExactAgedStarts.j1 kj8 l0 a1 t376 t377 t383 (t384 != t377)) = some r := by rw [if_pos rfl] at H; exact H
                  clear H
                  have H := H1
                  clear H1
                  have H' := Aside0.mk H
                  clear H
                  obtain ⟨Ao35, co35, eo35⟩ := Kd.R_slice HO_9.out
                  subst eo35
                  obtain ⟨Ao36, co36, eo36⟩ := Kd.R_slice HO_6.out
                  subst eo36
                  go_wp2_with (first | (go_at_call 16; (with_reducible refine (laws_eqIntS.calls kj8 _ _ t383 _ _ t376 true _ ?side1 ?side2 ?side3 ?side4 A33.out).mono ?_); (case side1 => repeat (first | exact (Kd.R_reads' HO_9.out).2.2 | (with_reducible refine Kd.C_alloc ?_ _) | (with_reducible refine Kd.C_drewN ?_ _) | (with_reducible refine Kd.C_drew ?_))); (case side2 => exact (Kd.R_reads' HO_9.out).2.1); (case side3 => repeat (first | exact (Kd.R_reads' HO_6.out).2.2 | (with_reducible refine Kd.C_alloc ?_ _) | (with_reducible refine Kd.C_drewN ?_ _) | (with_reducible refine Kd.C_drew ?_))); (case side4 => exact (Kd.R_reads' HO_6.out).2.1); rintro e w' ⟨rfl, ⟨nd, rfl⟩⟩))
                  go_meet
                  case rel => exact ⟨_, ((t384 != t377)), (by first | rfl | (simp; done) | (simp [*]; done)), H', ⟨by have := HJ8.out; first | omega | exact Nat.le_refl _⟩, ⟨by (with_reducible repeat (first | apply Kd.R_alloc | apply Kd.R_drewN | apply Kd.R_drew)); exact HO_6.out⟩, ⟨by (with_reducible repeat (first | apply Kd.R_alloc | apply Kd.R_drewN | apply Kd.R_drew)); exact HO_9.out⟩, ⟨by repeat (first | (with_reducible first | exact HB.out | apply below_alloc | apply pw_below_drewN | apply below_drew1) | exact HB.out)⟩⟩
                · replace c34 := Bool.eq_false_iff.mpr c34
                  subst c34
                  have H1 : (laws_FnExactAgedStarts.j1 kj8 l0 a1 t376 t377 t383 true) = some r := by rw [if_neg (show ¬ (false = true) by decide)] at H; exact H
                  clear H
                  have H := H1
                  clear H1
                  have H' := Aside0.mk H
                  clear H
                  obtain ⟨Ao37, co37, eo37⟩ := Kd.R_slice HO_9.out
                  subst eo37
                  obtain ⟨Ao38, co38, eo38⟩ := Kd.R_slice HO_6.out
                  subst eo38
                  go_wp2_with (first | (go_at_call 16; (with_reducible refine (laws_eqIntS.calls kj8 _ _ t383 _ _ t376 false _ ?side1 ?side2 ?side3 ?side4 A33.out).mono ?_); (case side1 => repeat (first | exact (Kd.R_reads' HO_9.out).2.2 | (with_reducible refine Kd.C_alloc ?_ _) | (with_reducible refine Kd.C_drewN ?_ _) | (with_reducible refine Kd.C_drew ?_))); (case side2 => exact (Kd.R_reads' HO_9.out).2.1); (case side3 => repeat (first | exact (Kd.R_reads' HO_6.out).2.2 | (with_reducible refine Kd.C_alloc ?_ _) | (with_reducible refine Kd.C_drewN ?_ _) | (with_reducible refine Kd.C_drew ?_))); (case side4 => exact (Kd.R_reads' HO_6.out).2.1); rintro e w' ⟨rfl, ⟨nd, rfl⟩⟩))
                  go_meet
                  case rel => exact ⟨_, (true), (by first | rfl | (simp; done) | (simp [*]; done)), H', ⟨by have := HJ8.out; first | omega | exact Nat.le_refl _⟩, ⟨by (with_reducible repeat (first | apply Kd.R_alloc | apply Kd.R_drewN | apply Kd.R_drew)); exact HO_6.out⟩, ⟨by (with_reducible repeat (first | apply Kd.R_alloc | apply Kd.R_drewN | apply Kd.R_drew)); exact HO_9.out⟩, ⟨by repeat (first | (with_reducible first | exact HB.out | apply below_alloc | apply pw_below_drewN | apply below_drew1) | exact HB.out)⟩⟩
            case rest =>
              clear HC27
              try clear c1
              try clear c2
              try clear p2
              try clear c3
              try clear c4
              try clear c4b0
              try clear c6
              try clear c11
              try clear c13
              try clear c16
              try clear c17
              try clear c18
              try clear c22
              try clear c25
              try clear c26
              try clear c32
              try clear c32b0
              try clear c34
              try clear p2
              obtain ⟨kq, x65_26, rfl, HA, HJ26, HO_6, HO_9, HB⟩ := hcut
              cases kq with
              | zero => exact absurd HA.out (by simp [laws_FnExactAgedStarts.j1])
              | succ kj26 =>
                have H := HA.out
                clear HA
                simp only [laws_FnExactAgedStarts.j1] at H
                by_cases c39 : x65_26 = true
                · subst c39
                  have H1 : (some false) = some r := by rw [if_pos rfl] at H; exact H
                  clear H
                  have H := H1
                  clear H1
                  obtain rfl := Option.some.inj H
                  go_wp2
                  go_ret
                  exact ⟨by first | rfl | (simp [errW_none, errW_some] <;> rfl) | (simp [*, errW_none, errW_some] <;> rfl), by repeat (first | (with_reducible first | exact HB.out | apply below_alloc | apply pw_below_drewN | apply below_drew1) | exact HB.out)⟩
                · replace c39 := Bool.eq_false_iff.mpr c39
                  subst c39
                  have H1 : ((laws_markIntS.f kj26 t383 1).bind fun bt395 => ((laws_heldIntS.f kj26 bt395.2 1).bind fun t397 => (if t397 < 0 then (some false) else (if t397 = bt395.1 then ((laws_toJobS.f kj26 l0).bind fun t398 => ((impl_AgedStarts.f kj26 t398 a1).bind fun bt401 => ((laws_eqIntS.f kj26 bt401.1 t376).bind fun t405 => (if t405 = true then (laws_FnExactAgedStarts.j2 kj26 bt395.2 bt395.1 (bt401.2 != t377)) else (laws_FnExactAgedStarts.j2 kj26 bt395.2 bt395.1 true))))) else (some false))))) = some r := by rw [if_neg (show ¬ (false = true) by decide)] at H; exact H
                  clear H
                  have H := H1
                  clear H1
                  replace H := Option.bind_eq_some_iff.mp H
                  obtain ⟨⟨t395, t396⟩, A400, H⟩ := H
                  replace H : ((laws_heldIntS.f kj26 t396 1).bind fun t397 => (if t397 < 0 then (some false) else (if t397 = t395 then ((laws_toJobS.f kj26 l0).bind fun t398 => ((impl_AgedStarts.f kj26 t398 a1).bind fun bt401 => ((laws_eqIntS.f kj26 bt401.1 t376).bind fun t405 => (if t405 = true then (laws_FnExactAgedStarts.j2 kj26 t396 t395 (bt401.2 != t377)) else (laws_FnExactAgedStarts.j2 kj26 t396 t395 true))))) else (some false)))) = some r := H
                  have A40 := Aside0.mk A400
                  clear A400
                  replace H := Option.bind_eq_some_iff.mp H
                  obtain ⟨t397, A410, H⟩ := H
                  replace H : (if t397 < 0 then (some false) else (if t397 = t395 then ((laws_toJobS.f kj26 l0).bind fun t398 => ((impl_AgedStarts.f kj26 t398 a1).bind fun bt401 => ((laws_eqIntS.f kj26 bt401.1 t376).bind fun t405 => (if t405 = true then (laws_FnExactAgedStarts.j2 kj26 t396 t395 (bt401.2 != t377)) else (laws_FnExactAgedStarts.j2 kj26 t396 t395 true))))) else (some false))) = some r := H
                  have A41 := Aside0.mk A410
                  clear A410
                  by_cases c42 : t397 < 0
                  · rw [if_pos c42] at H
                    have c42b0 : decide (t397 < 0) = true := decide_eq_true c42
                    clear c42
                    obtain rfl := Option.some.inj H
                    obtain ⟨Ao43, co43, eo43⟩ := Kd.R_slice HO_9.out
                    subst eo43
                    go_wp2_with (first | ((with_reducible refine gate_callee (f := 19) rfl ?_); refine goesL_ (some 68) rfl rfl Try.func19 (by kernel_rfl) rfl #[.slice Ao43 t383.length co43, .int .i64 1] rfl (by (try simp only [List.map_toArray, List.map_cons, List.map_nil]); first | done | rfl | (simp only [List.length_drop, List.length_take]; rfl)) ?_; (with_reducible refine (laws_markIntS.calls kj26 (fun k_ => some k_ = (.slice Ao43 t383.length co43 : Value).ownBlock) (.slice Ao43 t383.length co43) t383 1 t395 t396 w _ ?side1 ?side2 A40.out).mono ?_); (case side1 => repeat (first | (with_reducible first | exact HB.out | apply below_alloc | apply pw_below_drewN | apply below_drew1) | exact HB.out)); (case side2 => exact Kd.R_tight rfl HO_9.out); rintro e w44 ⟨rfl, hy0, hb, hkp⟩; refine ⟨_, rfl, ?_⟩; have n0_ := Aside0.mk (Kd.R_mono (ok' := fun k_ => some k_ ≠ (.slice Ao43 t383.length co43 : Value).ownBlock) (Kd.R_keptB (HO_6.out) hkp (fun k_ hk_ hs_ => (hk_) hs_)) (fun k_ hk_ => hk_.1)); have n1_ := Aside0.mk (Kd.R_reok rfl hy0 (fun k_ e_ => HO_9.out.1 k_ e_)); have n2_ := Aside0.mk (hb); clear HO_6; clear HO_9; clear HB; have HO_6 := n0_; have HO_9 := n1_; have HB := n2_; clear n0_ n1_ n2_; (try clear hb); (try clear hkp); (try clear hy0)) | ((with_reducible refine gate_callee (f := 20) rfl ?_); refine goesL_ (some 71) rfl rfl Try.func20 (by kernel_rfl) rfl #[.slice Ao43 t396.length co43, .int .i64 1] rfl (by (try simp only [List.map_toArray, List.map_cons, List.map_nil]); first | done | (rw [show t396.length = t383.length from (Kd.R_reads' HO_9.out).1.symm] <;> rfl) | rfl | (simp only [List.length_drop, List.length_take]; rfl)) ?_; (with_reducible refine (laws_heldIntS.calls kj26 _ _ t396 1 t397 _ ?side1 ?side2 A41.out).mono ?_); (case side1 => repeat (first | exact (Kd.R_reads' HO_9.out).2.2 | (with_reducible refine Kd.C_alloc ?_ _) | (with_reducible refine Kd.C_drewN ?_ _) | (with_reducible refine Kd.C_drew ?_))); (case side2 => rw [show t396.length = t383.length from (Kd.R_reads' HO_9.out).1.symm]; exact (Kd.R_reads' HO_9.out).2.1); rintro e w' ⟨rfl, ⟨nd, rfl⟩⟩; refine ⟨_, rfl, ?_⟩))
                    go_ret
                    exact ⟨by first | rfl | (simp [errW_none, errW_some] <;> rfl) | (simp [*, errW_none, errW_some] <;> rfl), by repeat (first | (with_reducible first | exact HB.out | apply below_alloc | apply pw_below_drewN | apply below_drew1) | exact HB.out)⟩
                  · rw [if_neg c42] at H
                    have c42b0 : decide (t397 < 0) = false := decide_eq_false c42
                    clear c42
                    by_cases c45 : t397 = t395
                    · rw [if_pos c45] at H
                      have c45b0 : (t397 == t395) = true := beq_iff_eq.mpr c45
                      have c45b1 : (t397 != t395) = false := bne_eq_false_iff_eq.mpr c45
                      clear c45
                      replace H := Option.bind_eq_some_iff.mp H
                      obtain ⟨t398, A460, H⟩ := H
                      replace H : ((impl_AgedStarts.f kj26 t398 a1).bind fun bt401 => ((laws_eqIntS.f kj26 bt401.1 t376).bind fun t405 => (if t405 = true then (laws_FnExactAgedStarts.j2 kj26 t396 t395 (bt401.2 != t377)) else (laws_FnExactAgedStarts.j2 kj26 t396 t395 true)))) = some r := H
                      have A46 := Aside0.mk A460
                      clear A460
                      replace H := Option.bind_eq_some_iff.mp H
                      obtain ⟨⟨t401, t402⟩, A470, H⟩ := H
                      replace H : ((laws_eqIntS.f kj26 t401 t376).bind fun t405 => (if t405 = true then (laws_FnExactAgedStarts.j2 kj26 t396 t395 (t402 != t377)) else (laws_FnExactAgedStarts.j2 kj26 t396 t395 true))) = some r := H
                      have A47 := Aside0.mk A470
                      clear A470
                      have HC48 := Aside0.mk H
                      clear H
                      obtain ⟨Ao49, co49, eo49⟩ := Kd.R_slice HO_9.out
                      subst eo49
                      go_upto_region 25 with (first | ((with_reducible refine gate_callee (f := 19) rfl ?_); refine goesL_ (some 68) rfl rfl Try.func19 (by kernel_rfl) rfl #[.slice Ao49 t383.length co49, .int .i64 1] rfl (by (try simp only [List.map_toArray, List.map_cons, List.map_nil]); first | done | rfl | (simp only [List.length_drop, List.length_take]; rfl)) ?_; (with_reducible refine (laws_markIntS.calls kj26 (fun k_ => some k_ = (.slice Ao49 t383.length co49 : Value).ownBlock) (.slice Ao49 t383.length co49) t383 1 t395 t396 w _ ?side1 ?side2 A40.out).mono ?_); (case side1 => repeat (first | (with_reducible first | exact HB.out | apply below_alloc | apply pw_below_drewN | apply below_drew1) | exact HB.out)); (case side2 => exact Kd.R_tight rfl HO_9.out); rintro e w50 ⟨rfl, hy0, hb, hkp⟩; refine ⟨_, rfl, ?_⟩; have n0_ := Aside0.mk (Kd.R_mono (ok' := fun k_ => some k_ ≠ (.slice Ao49 t383.length co49 : Value).ownBlock) (Kd.R_keptB (HO_6.out) hkp (fun k_ hk_ hs_ => (hk_) hs_)) (fun k_ hk_ => hk_.1)); have n1_ := Aside0.mk (Kd.R_reok rfl hy0 (fun k_ e_ => HO_9.out.1 k_ e_)); have n2_ := Aside0.mk (hb); clear HO_6; clear HO_9; clear HB; have HO_6 := n0_; have HO_9 := n1_; have HB := n2_; clear n0_ n1_ n2_; (try clear hb); (try clear hkp); (try clear hy0)) | ((with_reducible refine gate_callee (f := 20) rfl ?_); refine goesL_ (some 71) rfl rfl Try.func20 (by kernel_rfl) rfl #[.slice Ao49 t396.length co49, .int .i64 1] rfl (by (try simp only [List.map_toArray, List.map_cons, List.map_nil]); first | done | (rw [show t396.length = t383.length from (Kd.R_reads' HO_9.out).1.symm] <;> rfl) | rfl | (simp only [List.length_drop, List.length_take]; rfl)) ?_; (with_reducible refine (laws_heldIntS.calls kj26 _ _ t396 1 t397 _ ?side1 ?side2 A41.out).mono ?_); (case side1 => repeat (first | exact (Kd.R_reads' HO_9.out).2.2 | (with_reducible refine Kd.C_alloc ?_ _) | (with_reducible refine Kd.C_drewN ?_ _) | (with_reducible refine Kd.C_drew ?_))); (case side2 => rw [show t396.length = t383.length from (Kd.R_reads' HO_9.out).1.symm]; exact (Kd.R_reads' HO_9.out).2.1); rintro e w' ⟨rfl, ⟨nd, rfl⟩⟩; refine ⟨_, rfl, ?_⟩) | ((with_reducible refine gate_callee (f := 13) rfl ?_); refine goesL_ (some 79) rfl rfl Try.func13 (by kernel_rfl) rfl #[.slice A0 l0.length c0] rfl (by (try simp only [List.map_toArray, List.map_cons, List.map_nil]); first | done | rfl | (simp only [List.length_drop, List.length_take]; rfl)) ?_; (with_reducible refine (laws_toJobS.calls kj26 _ _ l0 t398 _ ?side1 ?side2 A46.out).mono ?_); (case side1 => repeat (first | exact (Kd.C_below HR0.out (by repeat (first | (with_reducible first | exact HB.out | apply below_alloc | apply pw_below_drewN | apply below_drew1) | exact HB.out))) | (with_reducible refine Kd.C_alloc ?_ _) | (with_reducible refine Kd.C_drewN ?_ _) | (with_reducible refine Kd.C_drew ?_))); (case side2 => exact HC0.out); rintro e w51 ⟨v399, rfl, ho0, hb⟩; refine ⟨_, rfl, ?_⟩; have n0_ := Aside0.mk (Kd.R_below (by (with_reducible repeat (first | apply Kd.R_alloc | apply Kd.R_drewN | apply Kd.R_drew)); exact HO_6.out) hb); have n1_ := Aside0.mk (Kd.R_below (by (with_reducible repeat (first | apply Kd.R_alloc | apply Kd.R_drewN | apply Kd.R_drew)); exact HO_9.out) hb); have n2_ := Aside0.mk (Kd.R_lower ho0 (below_size (by repeat (first | (with_reducible first | exact HB.out | apply below_alloc | apply pw_below_drewN | apply below_drew1) | exact HB.out)))); have n3_ := Aside0.mk (below_step (by repeat (first | (with_reducible first | exact HB.out | apply below_alloc | apply pw_below_drewN | apply below_drew1) | exact HB.out)) hb); clear HO_6; clear HO_9; clear HB; have HO_6 := n0_; have HO_9 := n1_; have HO400 := n2_; have HB := n3_; clear n0_ n1_ n2_ n3_; (try clear hb); (try clear hb2); (try clear hk); (try clear hi); (try clear ho0); obtain ⟨Ao52, co52, eo52⟩ := Kd.R_slice HO400.out; subst eo52) | ((with_reducible refine gate_callee (f := 26) rfl ?_); refine goesL_ (some 81) rfl rfl Try.func26 (by kernel_rfl) rfl #[.slice Ao52 t398.length co52, .int .i64 a1] rfl (by (try simp only [List.map_toArray, List.map_cons, List.map_nil]); first | done | rfl | (simp only [List.length_drop, List.length_take]; rfl)) ?_; (with_reducible refine (impl_AgedStarts.calls kj26 _ _ t398 a1 t401 t402 _ ?side1 ?side2 A47.out).mono ?_); (case side1 => repeat (first | exact (Kd.R_reads' HO400.out).2.2 | (with_reducible refine Kd.C_alloc ?_ _) | (with_reducible refine Kd.C_drewN ?_ _) | (with_reducible refine Kd.C_drew ?_))); (case side2 => exact (Kd.R_reads' HO400.out).2.1); rintro e w53 ⟨v403, rfl, ho0, hb⟩; refine ⟨_, rfl, ?_⟩; have n0_ := Aside0.mk (Kd.R_elder' (by (with_reducible repeat (first | apply Kd.R_alloc | apply Kd.R_drewN | apply Kd.R_drew)); exact HO_6.out) (Kd.R_base ho0) hb); have n1_ := Aside0.mk (Kd.R_elder' (by (with_reducible repeat (first | apply Kd.R_alloc | apply Kd.R_drewN | apply Kd.R_drew)); exact HO_9.out) (Kd.R_base ho0) hb); have n2_ := Aside0.mk (Kd.R_below (by (with_reducible repeat (first | apply Kd.R_alloc | apply Kd.R_drewN | apply Kd.R_drew)); exact HO400.out) hb); have n3_ := Aside0.mk (Kd.R_lower (Kd.R_new' (Kd.R_new' ho0 (Kd.R_lt (by (with_reducible repeat (first | apply Kd.R_alloc | apply Kd.R_drewN | apply Kd.R_drew)); exact HO_6.out))) (Kd.R_lt (by (with_reducible repeat (first | apply Kd.R_alloc | apply Kd.R_drewN | apply Kd.R_drew)); exact HO_9.out))) (below_size (by repeat (first | (with_reducible first | exact HB.out | apply below_alloc | apply pw_below_drewN | apply below_drew1) | exact HB.out)))); have n4_ := Aside0.mk (below_step (by repeat (first | (with_reducible first | exact HB.out | apply below_alloc | apply pw_below_drewN | apply below_drew1) | exact HB.out)) hb); clear HO_6; clear HO_9; clear HO400; clear HB; have HO_6 := n0_; have HO_9 := n1_; have HO400 := n2_; have HO404 := n3_; have HB := n4_; clear n0_ n1_ n2_ n3_ n4_; (try clear hb); (try clear hb2); (try clear hk); (try clear hi); (try clear ho0)))
                      (try simp only [Act.put, List.setIfInBounds_toArray, List.set_cons_zero, List.set_cons_succ])
                      go_cut [92] (fun v92 wc => ∃ (kq : Nat) (x92_47 : Bool), v92 = .bool x92_47 ∧ Aside0 (laws_FnExactAgedStarts.j2 kq t396 t395 x92_47 = some r) ∧ Aside0 (kq ≤ kj26) ∧ Aside0 (Kd.R (Kd.int .i64) 3 wc w.heap.size (fun _ => True) (.slice Ao49 t383.length co49) t396) ∧ Aside0 (Below w.heap.size w wc))
                      case first =>
                        have H := HC48.out
                        clear HC48
                        replace H := Option.bind_eq_some_iff.mp H
                        obtain ⟨t405, A540, H⟩ := H
                        replace H : (if t405 = true then (laws_FnExactAgedStarts.j2 kj26 t396 t395 (t402 != t377)) else (laws_FnExactAgedStarts.j2 kj26 t396 t395 true)) = some r := H
                        have A54 := Aside0.mk A540
                        clear A540
                        by_cases c55 : t405 = true
                        · subst c55
                          have H1 : (laws_FnExactAgedStarts.j2 kj26 t396 t395 (t402 != t377)) = some r := by rw [if_pos rfl] at H; exact H
                          clear H
                          have H := H1
                          clear H1
                          have H' := Aside0.mk H
                          clear H
                          obtain ⟨Ao56, co56, eo56⟩ := Kd.R_slice HO404.out
                          subst eo56
                          obtain ⟨Ao57, co57, eo57⟩ := Kd.R_slice HO_6.out
                          subst eo57
                          go_wp2_with (first | ((with_reducible refine gate_callee (f := 16) rfl ?_); refine goesL_ (some 86) rfl rfl Try.func16 (by kernel_rfl) rfl #[.slice Ao56 t401.length co56, .slice Ao57 t376.length co57] rfl (by (try simp only [List.map_toArray, List.map_cons, List.map_nil]); first | done | rfl | (simp only [List.length_drop, List.length_take]; rfl)) ?_; (with_reducible refine (laws_eqIntS.calls kj26 _ _ t401 _ _ t376 true _ ?side1 ?side2 ?side3 ?side4 A54.out).mono ?_); (case side1 => repeat (first | exact (Kd.R_reads' HO404.out).2.2 | (with_reducible refine Kd.C_alloc ?_ _) | (with_reducible refine Kd.C_drewN ?_ _) | (with_reducible refine Kd.C_drew ?_))); (case side2 => exact (Kd.R_reads' HO404.out).2.1); (case side3 => repeat (first | exact (Kd.R_reads' HO_6.out).2.2 | (with_reducible refine Kd.C_alloc ?_ _) | (with_reducible refine Kd.C_drewN ?_ _) | (with_reducible refine Kd.C_drew ?_))); (case side4 => exact (Kd.R_reads' HO_6.out).2.1); rintro e w' ⟨rfl, ⟨nd, rfl⟩⟩; refine ⟨_, rfl, ?_⟩))
                          go_meet
                          case rel => exact ⟨_, ((t402 != t377)), (by first | rfl | (simp; done) | (simp [*]; done)), H', ⟨by have := HJ8.out; have := HJ26.out; first | omega | exact Nat.le_refl _⟩, ⟨by (with_reducible repeat (first | apply Kd.R_alloc | apply Kd.R_drewN | apply Kd.R_drew)); exact Kd.R_mono HO_9.out (fun _ hk => trivial)⟩, ⟨by repeat (first | (with_reducible first | exact HB.out | apply below_alloc | apply pw_below_drewN | apply below_drew1) | exact HB.out)⟩⟩
                        · replace c55 := Bool.eq_false_iff.mpr c55
                          subst c55
                          have H1 : (laws_FnExactAgedStarts.j2 kj26 t396 t395 true) = some r := by rw [if_neg (show ¬ (false = true) by decide)] at H; exact H
                          clear H
                          have H := H1
                          clear H1
                          have H' := Aside0.mk H
                          clear H
                          obtain ⟨Ao58, co58, eo58⟩ := Kd.R_slice HO404.out
                          subst eo58
                          obtain ⟨Ao59, co59, eo59⟩ := Kd.R_slice HO_6.out
                          subst eo59
                          go_wp2_with (first | ((with_reducible refine gate_callee (f := 16) rfl ?_); refine goesL_ (some 86) rfl rfl Try.func16 (by kernel_rfl) rfl #[.slice Ao58 t401.length co58, .slice Ao59 t376.length co59] rfl (by (try simp only [List.map_toArray, List.map_cons, List.map_nil]); first | done | rfl | (simp only [List.length_drop, List.length_take]; rfl)) ?_; (with_reducible refine (laws_eqIntS.calls kj26 _ _ t401 _ _ t376 false _ ?side1 ?side2 ?side3 ?side4 A54.out).mono ?_); (case side1 => repeat (first | exact (Kd.R_reads' HO404.out).2.2 | (with_reducible refine Kd.C_alloc ?_ _) | (with_reducible refine Kd.C_drewN ?_ _) | (with_reducible refine Kd.C_drew ?_))); (case side2 => exact (Kd.R_reads' HO404.out).2.1); (case side3 => repeat (first | exact (Kd.R_reads' HO_6.out).2.2 | (with_reducible refine Kd.C_alloc ?_ _) | (with_reducible refine Kd.C_drewN ?_ _) | (with_reducible refine Kd.C_drew ?_))); (case side4 => exact (Kd.R_reads' HO_6.out).2.1); rintro e w' ⟨rfl, ⟨nd, rfl⟩⟩; refine ⟨_, rfl, ?_⟩))
                          go_meet
                          case rel => exact ⟨_, (true), (by first | rfl | (simp; done) | (simp [*]; done)), H', ⟨by have := HJ8.out; have := HJ26.out; first | omega | exact Nat.le_refl _⟩, ⟨by (with_reducible repeat (first | apply Kd.R_alloc | apply Kd.R_drewN | apply Kd.R_drew)); exact Kd.R_mono HO_9.out (fun _ hk => trivial)⟩, ⟨by repeat (first | (with_reducible first | exact HB.out | apply below_alloc | apply pw_below_drewN | apply below_drew1) | exact HB.out)⟩⟩
                      case rest =>
                        clear HC48
                        try clear c1
                        try clear c2
                        try clear p2
                        try clear c3
                        try clear c4
                        try clear c4b0
                        try clear c5
                        try clear c6
                        try clear c11
                        try clear c13
                        try clear c16
                        try clear c17
                        try clear c18
                        try clear c19
                        try clear c20
                        try clear c22
                        try clear c25
                        try clear c26
                        try clear c32
                        try clear c32b0
                        try clear c34
                        try clear c39
                        try clear c42
                        try clear c42b0
                        try clear c45
                        try clear c45b0
                        try clear c45b1
                        try clear c55
                        try clear p2
                        obtain ⟨kq, x92_47, rfl, HA, HJ47, HO_9, HB⟩ := hcut
                        have hl9_47 := (Kd.R_reads' HO_9.out).1
                        rw [hl9_47] at HO_9
                        (try simp only [hl9_47])
                        cases kq with
                        | zero => exact absurd HA.out (by simp [laws_FnExactAgedStarts.j2])
                        | succ kj47 =>
                          have H := HA.out
                          clear HA
                          simp only [laws_FnExactAgedStarts.j2] at H
                          by_cases c60 : x92_47 = true
                          · subst c60
                            have H1 : (some false) = some r := by rw [if_pos rfl] at H; exact H
                            clear H
                            have H := H1
                            clear H1
                            obtain rfl := Option.some.inj H
                            go_wp2
                            go_ret
                            exact ⟨by first | rfl | (simp [errW_none, errW_some] <;> rfl) | (simp [*, errW_none, errW_some] <;> rfl), by repeat (first | (with_reducible first | exact HB.out | apply below_alloc | apply pw_below_drewN | apply below_drew1) | exact HB.out)⟩
                          · replace c60 := Bool.eq_false_iff.mpr c60
                            subst c60
                            have H1 : ((laws_heldIntS.f kj47 t396 1).bind fun t406 => (if t406 < 0 then (some false) else (if t406 = t395 then (some true) else (some false)))) = some r := by rw [if_neg (show ¬ (false = true) by decide)] at H; exact H
                            clear H
                            have H := H1
                            clear H1
                            replace H := Option.bind_eq_some_iff.mp H
                            obtain ⟨t406, A610, H⟩ := H
                            replace H : (if t406 < 0 then (some false) else (if t406 = t395 then (some true) else (some false))) = some r := H
                            have A61 := Aside0.mk A610
                            clear A610
                            by_cases c62 : t406 < 0
                            · rw [if_pos c62] at H
                              have c62b0 : decide (t406 < 0) = true := decide_eq_true c62
                              clear c62
                              obtain rfl := Option.some.inj H
                              go_wp2_with (first | ((with_reducible refine gate_callee (f := 20) rfl ?_); refine goesL_ (some 95) rfl rfl Try.func20 (by kernel_rfl) rfl #[.slice Ao49 t396.length co49, .int .i64 1] rfl (by (try simp only [List.map_toArray, List.map_cons, List.map_nil]); first | done | rfl | (simp only [List.length_drop, List.length_take]; rfl)) ?_; (with_reducible refine (laws_heldIntS.calls kj47 _ _ t396 1 t406 _ ?side1 ?side2 A61.out).mono ?_); (case side1 => repeat (first | exact (Kd.R_reads' HO_9.out).2.2 | (with_reducible refine Kd.C_alloc ?_ _) | (with_reducible refine Kd.C_drewN ?_ _) | (with_reducible refine Kd.C_drew ?_))); (case side2 => exact (Kd.R_reads' HO_9.out).2.1); rintro e w' ⟨rfl, ⟨nd, rfl⟩⟩; refine ⟨_, rfl, ?_⟩))
                              go_ret
                              exact ⟨by first | rfl | (simp [errW_none, errW_some] <;> rfl) | (simp [*, errW_none, errW_some] <;> rfl), by repeat (first | (with_reducible first | exact HB.out | apply below_alloc | apply pw_below_drewN | apply below_drew1) | exact HB.out)⟩
                            · rw [if_neg c62] at H
                              have c62b0 : decide (t406 < 0) = false := decide_eq_false c62
                              clear c62
                              by_cases c63 : t406 = t395
                              · rw [if_pos c63] at H
                                have c63b0 : (t406 == t395) = true := beq_iff_eq.mpr c63
                                have c63b1 : (t406 != t395) = false := bne_eq_false_iff_eq.mpr c63
                                clear c63
                                obtain rfl := Option.some.inj H
                                go_wp2_with (first | ((with_reducible refine gate_callee (f := 20) rfl ?_); refine goesL_ (some 95) rfl rfl Try.func20 (by kernel_rfl) rfl #[.slice Ao49 t396.length co49, .int .i64 1] rfl (by (try simp only [List.map_toArray, List.map_cons, List.map_nil]); first | done | rfl | (simp only [List.length_drop, List.length_take]; rfl)) ?_; (with_reducible refine (laws_heldIntS.calls kj47 _ _ t396 1 t406 _ ?side1 ?side2 A61.out).mono ?_); (case side1 => repeat (first | exact (Kd.R_reads' HO_9.out).2.2 | (with_reducible refine Kd.C_alloc ?_ _) | (with_reducible refine Kd.C_drewN ?_ _) | (with_reducible refine Kd.C_drew ?_))); (case side2 => exact (Kd.R_reads' HO_9.out).2.1); rintro e w' ⟨rfl, ⟨nd, rfl⟩⟩; refine ⟨_, rfl, ?_⟩))
                                go_ret
                                exact ⟨by first | rfl | (simp [errW_none, errW_some] <;> rfl) | (simp [*, errW_none, errW_some] <;> rfl), by repeat (first | (with_reducible first | exact HB.out | apply below_alloc | apply pw_below_drewN | apply below_drew1) | exact HB.out)⟩
                              · rw [if_neg c63] at H
                                have c63b0 : (t406 == t395) = false := beq_eq_false_iff_ne.mpr c63
                                have c63b1 : (t406 != t395) = true := bne_iff_ne.mpr c63
                                obtain rfl := Option.some.inj H
                                go_wp2_with (first | ((with_reducible refine gate_callee (f := 20) rfl ?_); refine goesL_ (some 95) rfl rfl Try.func20 (by kernel_rfl) rfl #[.slice Ao49 t396.length co49, .int .i64 1] rfl (by (try simp only [List.map_toArray, List.map_cons, List.map_nil]); first | done | rfl | (simp only [List.length_drop, List.length_take]; rfl)) ?_; (with_reducible refine (laws_heldIntS.calls kj47 _ _ t396 1 t406 _ ?side1 ?side2 A61.out).mono ?_); (case side1 => repeat (first | exact (Kd.R_reads' HO_9.out).2.2 | (with_reducible refine Kd.C_alloc ?_ _) | (with_reducible refine Kd.C_drewN ?_ _) | (with_reducible refine Kd.C_drew ?_))); (case side2 => exact (Kd.R_reads' HO_9.out).2.1); rintro e w' ⟨rfl, ⟨nd, rfl⟩⟩; refine ⟨_, rfl, ?_⟩))
                                go_ret
                                exact ⟨by first | rfl | (simp [errW_none, errW_some] <;> rfl) | (simp [*, errW_none, errW_some] <;> rfl), by repeat (first | (with_reducible first | exact HB.out | apply below_alloc | apply pw_below_drewN | apply below_drew1) | exact HB.out)⟩
                    · rw [if_neg c45] at H
                      have c45b0 : (t397 == t395) = false := beq_eq_false_iff_ne.mpr c45
                      have c45b1 : (t397 != t395) = true := bne_iff_ne.mpr c45
                      obtain rfl := Option.some.inj H
                      obtain ⟨Ao64, co64, eo64⟩ := Kd.R_slice HO_9.out
                      subst eo64
                      go_wp2_with (first | ((with_reducible refine gate_callee (f := 19) rfl ?_); refine goesL_ (some 68) rfl rfl Try.func19 (by kernel_rfl) rfl #[.slice Ao64 t383.length co64, .int .i64 1] rfl (by (try simp only [List.map_toArray, List.map_cons, List.map_nil]); first | done | rfl | (simp only [List.length_drop, List.length_take]; rfl)) ?_; (with_reducible refine (laws_markIntS.calls kj26 (fun k_ => some k_ = (.slice Ao64 t383.length co64 : Value).ownBlock) (.slice Ao64 t383.length co64) t383 1 t395 t396 w _ ?side1 ?side2 A40.out).mono ?_); (case side1 => repeat (first | (with_reducible first | exact HB.out | apply below_alloc | apply pw_below_drewN | apply below_drew1) | exact HB.out)); (case side2 => exact Kd.R_tight rfl HO_9.out); rintro e w65 ⟨rfl, hy0, hb, hkp⟩; refine ⟨_, rfl, ?_⟩; have n0_ := Aside0.mk (Kd.R_mono (ok' := fun k_ => some k_ ≠ (.slice Ao64 t383.length co64 : Value).ownBlock) (Kd.R_keptB (HO_6.out) hkp (fun k_ hk_ hs_ => (hk_) hs_)) (fun k_ hk_ => hk_.1)); have n1_ := Aside0.mk (Kd.R_reok rfl hy0 (fun k_ e_ => HO_9.out.1 k_ e_)); have n2_ := Aside0.mk (hb); clear HO_6; clear HO_9; clear HB; have HO_6 := n0_; have HO_9 := n1_; have HB := n2_; clear n0_ n1_ n2_; (try clear hb); (try clear hkp); (try clear hy0)) | ((with_reducible refine gate_callee (f := 20) rfl ?_); refine goesL_ (some 71) rfl rfl Try.func20 (by kernel_rfl) rfl #[.slice Ao64 t396.length co64, .int .i64 1] rfl (by (try simp only [List.map_toArray, List.map_cons, List.map_nil]); first | done | (rw [show t396.length = t383.length from (Kd.R_reads' HO_9.out).1.symm] <;> rfl) | rfl | (simp only [List.length_drop, List.length_take]; rfl)) ?_; (with_reducible refine (laws_heldIntS.calls kj26 _ _ t396 1 t397 _ ?side1 ?side2 A41.out).mono ?_); (case side1 => repeat (first | exact (Kd.R_reads' HO_9.out).2.2 | (with_reducible refine Kd.C_alloc ?_ _) | (with_reducible refine Kd.C_drewN ?_ _) | (with_reducible refine Kd.C_drew ?_))); (case side2 => rw [show t396.length = t383.length from (Kd.R_reads' HO_9.out).1.symm]; exact (Kd.R_reads' HO_9.out).2.1); rintro e w' ⟨rfl, ⟨nd, rfl⟩⟩; refine ⟨_, rfl, ?_⟩))
                      go_ret
                      exact ⟨by first | rfl | (simp [errW_none, errW_some] <;> rfl) | (simp [*, errW_none, errW_some] <;> rfl), by repeat (first | (with_reducible first | exact HB.out | apply below_alloc | apply pw_below_drewN | apply below_drew1) | exact HB.out)⟩
          · replace c25 := Bool.eq_false_iff.mpr c25
            subst c25
            have H1 : (some false) = some r := by rw [if_neg (show ¬ (false = true) by decide)] at H; exact H
            clear H
            have H := H1
            clear H1
            obtain rfl := Option.some.inj H
            go_wp2_with (first | ((with_reducible refine gate_callee (f := 13) rfl ?_); refine goesL_ (some 47) rfl rfl Try.func13 (by kernel_rfl) rfl #[.slice A0 l0.length c0] rfl (by (try simp only [List.map_toArray, List.map_cons, List.map_nil]); first | done | rfl | (simp only [List.length_drop, List.length_take]; rfl)) ?_; (with_reducible refine (laws_toJobS.calls kj8 _ _ l0 t388 _ ?side1 ?side2 A23.out).mono ?_); (case side1 => repeat (first | exact (Kd.C_below HR0.out HB.out) | (with_reducible refine Kd.C_alloc ?_ _) | (with_reducible refine Kd.C_drewN ?_ _) | (with_reducible refine Kd.C_drew ?_))); (case side2 => exact HC0.out); rintro e w66 ⟨v389, rfl, ho0, hb⟩; refine ⟨_, rfl, ?_⟩; have n0_ := Aside0.mk (Kd.R_below (by (with_reducible repeat (first | apply Kd.R_alloc | apply Kd.R_drewN | apply Kd.R_drew)); exact HO_6.out) hb); have n1_ := Aside0.mk (Kd.R_elder' (by (with_reducible repeat (first | apply Kd.R_alloc | apply Kd.R_drewN | apply Kd.R_drew)); exact HO_8.out) (Kd.R_base ho0) hb); have n2_ := Aside0.mk (Kd.R_below (by (with_reducible repeat (first | apply Kd.R_alloc | apply Kd.R_drewN | apply Kd.R_drew)); exact HO_9.out) hb); have n3_ := Aside0.mk (Kd.R_lower (Kd.R_new' ho0 (Kd.R_lt (by (with_reducible repeat (first | apply Kd.R_alloc | apply Kd.R_drewN | apply Kd.R_drew)); exact HO_8.out))) (below_size (by repeat (first | (with_reducible first | exact HB.out | apply below_alloc | apply pw_below_drewN | apply below_drew1) | exact HB.out)))); have n4_ := Aside0.mk (below_step (by repeat (first | (with_reducible first | exact HB.out | apply below_alloc | apply pw_below_drewN | apply below_drew1) | exact HB.out)) hb); clear HO_6; clear HO_8; clear HO_9; clear HB; have HO_6 := n0_; have HO_8 := n1_; have HO_9 := n2_; have HO390 := n3_; have HB := n4_; clear n0_ n1_ n2_ n3_ n4_; (try clear hb); (try clear hb2); (try clear hk); (try clear hi); (try clear ho0); obtain ⟨Ao67, co67, eo67⟩ := Kd.R_slice HO390.out; subst eo67) | ((with_reducible refine gate_callee (f := 17) rfl ?_); refine goesL_ (some 48) rfl rfl Try.func17 (by kernel_rfl) rfl #[.slice Ao14 t380.length co14, .slice Ao67 t388.length co67] rfl (by (try simp only [List.map_toArray, List.map_cons, List.map_nil]); first | done | rfl | (simp only [List.length_drop, List.length_take]; rfl)) ?_; (with_reducible refine (laws_eqJobS.calls kj8 _ _ t380 _ _ t388 false _ ?side1 ?side2 ?side3 ?side4 A24.out).mono ?_); (case side1 => repeat (first | exact (Kd.R_reads' HO_8.out).2.2 | (with_reducible refine Kd.C_alloc ?_ _) | (with_reducible refine Kd.C_drewN ?_ _) | (with_reducible refine Kd.C_drew ?_))); (case side2 => exact (Kd.R_reads' HO_8.out).2.1); (case side3 => repeat (first | exact (Kd.R_reads' HO390.out).2.2 | (with_reducible refine Kd.C_alloc ?_ _) | (with_reducible refine Kd.C_drewN ?_ _) | (with_reducible refine Kd.C_drew ?_))); (case side4 => exact (Kd.R_reads' HO390.out).2.1); rintro e w68 ⟨rfl, hb⟩; refine ⟨_, rfl, ?_⟩; have n0_ := Aside0.mk (Kd.R_below (by (with_reducible repeat (first | apply Kd.R_alloc | apply Kd.R_drewN | apply Kd.R_drew)); exact HO_6.out) hb); have n1_ := Aside0.mk (Kd.R_below (by (with_reducible repeat (first | apply Kd.R_alloc | apply Kd.R_drewN | apply Kd.R_drew)); exact HO_8.out) hb); have n2_ := Aside0.mk (Kd.R_below (by (with_reducible repeat (first | apply Kd.R_alloc | apply Kd.R_drewN | apply Kd.R_drew)); exact HO_9.out) hb); have n3_ := Aside0.mk (Kd.R_below (by (with_reducible repeat (first | apply Kd.R_alloc | apply Kd.R_drewN | apply Kd.R_drew)); exact HO390.out) hb); have n4_ := Aside0.mk (below_step (by repeat (first | (with_reducible first | exact HB.out | apply below_alloc | apply pw_below_drewN | apply below_drew1) | exact HB.out)) hb); clear HO_6; clear HO_8; clear HO_9; clear HO390; clear HB; have HO_6 := n0_; have HO_8 := n1_; have HO_9 := n2_; have HO390 := n3_; have HB := n4_; clear n0_ n1_ n2_ n3_ n4_; (try clear hb); (try clear hb2); (try clear hk); (try clear hi)))
            go_ret
            exact ⟨by first | rfl | (simp [errW_none, errW_some] <;> rfl) | (simp [*, errW_none, errW_some] <;> rfl), by repeat (first | (with_reducible first | exact HB.out | apply below_alloc | apply pw_below_drewN | apply below_drew1) | exact HB.out)⟩

end Go.Proofs.Ytkkgnjdepgmjlaa.X

/- What the functions of the program come to, and that they do: written by this session's program wip/xprint.py out of the translation; parts named extern are typed by hand. -/
namespace Go.Proofs.Ytkkgnjdepgmjlaa.X
open Go.RowKit Go.Proofs.YtkkgnjdepgmjlaaW.PrintWords Go.Proofs.YtkkgnjdepgmjlaaW.PrintLast Go.Proofs.YtkkgnjdepgmjlaaW.PrintMore
attribute [local go_sem] max2_int min2_int max_two min_two max_three min_three max_four min_four   -- for this text's walks alone
set_option linter.unusedVariables false
set_option linter.unusedSimpArgs false

/-! ### spec_FirstStarts: function 27 -/
/-! ### impl_FirstStarts: function 28 -/
/- EXTERN, by hand (wip/hand/threestarts.py). -/
end Go.Proofs.Ytkkgnjdepgmjlaa.X

/- What the functions of the program come to, and that they do: written by this session's program wip/xprint.py out of the translation; parts named extern are typed by hand. -/
namespace Go.Proofs.Ytkkgnjdepgmjlaa.X
open Go.RowKit Go.Proofs.YtkkgnjdepgmjlaaW.PrintWords Go.Proofs.YtkkgnjdepgmjlaaW.PrintLast Go.Proofs.YtkkgnjdepgmjlaaW.PrintMore
attribute [local go_sem] max2_int min2_int max_two min_two max_three min_three max_four min_four   -- for this text's walks alone
set_option linter.unusedVariables false
set_option linter.unusedSimpArgs false

/-! ### spec_StrictStarts: function 29 -/
/-! ### impl_StrictStarts: function 30 -/
/- EXTERN, by hand (wip/hand/threestarts.py). -/
end Go.Proofs.Ytkkgnjdepgmjlaa.X

/- Plain lemmas: what a function with rounds comes to. -/
namespace Go.Proofs.Ytkkgnjdepgmjlaa.X
set_option linter.unusedSimpArgs false
set_option linter.unusedVariables false
open Go.RowKit Go.Proofs.YtkkgnjdepgmjlaaW.PrintWords
theorem w64 {x : Int} (h1 : -9223372036854775808 ≤ x) (h2 : x ≤ 9223372036854775807) : wrap64 x = x := by unfold wrap64; omega
theorem evPos {α : Type} {c : Prop} [Decidable c] {A B : Nat → Option α} {r : α} (h : c) (hA : Ev A r) : Ev (fun k => if c then A k else B k) r := by
  simpa only [if_pos h] using hA
/-- One round: the next state's answer is this state's. -/
theorem evNext {α : Type} {g f : Nat → Option α} {r : α} (h : ∀ k, g (k + 1) = f k) (k : Ev f r) : Ev g r := Ev.step h k
theorem evEnd {α : Type} {g : Nat → Option α} {r : α} (h : ∀ k, g (k + 1) = some r) : Ev g r := Ev.step (f := fun _ => some r) h (Ev.now r)
/-- A counter that goes up: an invariant, and each round hands the answer on. -/
theorem evUp {σ ρ : Type} (n : Nat) (L : Nat → σ → Nat → Option ρ) (I : Nat → σ → Prop) (r : ρ)
    (hs : ∀ i s, i < n → I i s → (∃ s', I (i + 1) s' ∧ (Ev (fun k => L k s' (i + 1)) r → Ev (fun k => L k s i) r)) ∨ Ev (fun k => L k s i) r)
    (he : ∀ s, I n s → Ev (fun k => L k s n) r) : ∀ i s, i ≤ n → I i s → Ev (fun k => L k s i) r := by
  have key : ∀ d i s, i + d = n → I i s → Ev (fun k => L k s i) r := by
    intro d
    induction d with
    | zero =>
      intro i s hd hI
      obtain rfl : i = n := by omega
      exact he s hI
    | succ d ih =>
      intro i s hd hI
      rcases hs i s (by omega) hI with ⟨s', hI', hk⟩ | h
      · exact hk (ih (i + 1) s' (by omega) hI')
      · exact h
  intro i s hi hI
  exact key (n - i) i s (by omega) hI
/-- The same from zero on. -/
theorem evUp0 {σ ρ : Type} (n : Nat) (L : Nat → σ → Nat → Option ρ) (I : Nat → σ → Prop) (r : ρ) (s : σ) (h0 : I 0 s)
    (hs : ∀ i s, i < n → I i s → (∃ s', I (i + 1) s' ∧ (Ev (fun k => L k s' (i + 1)) r → Ev (fun k => L k s i) r)) ∨ Ev (fun k => L k s i) r)
    (he : ∀ s, I n s → Ev (fun k => L k s n) r) : Ev (fun k => L k s 0) r := evUp n L I r hs he 0 s (Nat.zero_le _) h0
theorem rd_at (l : List Int) (i : Nat) (h : i < l.length) : rd l (i : Int) = l[i] := by
  simp [rd, List.getD_eq_getElem?_getD, List.getElem?_eq_getElem h]
end Go.Proofs.Ytkkgnjdepgmjlaa.X

/- Plain lemmas: the laws' own equality of slices of whole numbers. -/
namespace Go.Proofs.Ytkkgnjdepgmjlaa.X
set_option linter.unusedSimpArgs false
set_option linter.unusedVariables false
open Go.RowKit Go.Proofs.YtkkgnjdepgmjlaaW.PrintWords
theorem eqIntS_loop (a b : List Int) (hl : a.length = b.length) (ha : a.length ≤ 9223372036854775806) : Ev (fun k => laws_eqIntS.l0 k a b ((0 : Nat) : Int)) (decide (a = b)) := by
  refine evUp0 a.length (fun k (_ : Unit) (i : Nat) => laws_eqIntS.l0 k a b (i : Int)) (fun i _ => a.take i = b.take i) _ () (by simp) ?_ ?_
  · intro i s hi hI
    by_cases e : a[i] = b[i]'(by omega)
    · refine .inl ⟨(), ?_, fun h => evNext (fun k => ?_) h⟩
      · rw [List.take_succ_eq_append_getElem hi, List.take_succ_eq_append_getElem (by omega), hI, e]
      · show laws_eqIntS.l0 (k + 1) a b (i : Int) = laws_eqIntS.l0 k a b (i + 1 : Nat)
        simp only [laws_eqIntS.l0]
        rw [if_pos (by omega), if_pos (by omega), if_pos (by omega), rd_at a i hi, rd_at b i (by omega), if_pos e, w64 (by omega) (by omega)]
        rfl
    · refine .inr (evEnd fun k => ?_)
      show laws_eqIntS.l0 (k + 1) a b (i : Int) = _
      simp only [laws_eqIntS.l0]
      rw [if_pos (by omega), if_pos (by omega), if_pos (by omega), rd_at a i hi, rd_at b i (by omega), if_neg e, decide_eq_false]
      intro h
      subst h
      exact e rfl
  · intro s hI
    refine evEnd fun k => ?_
    show laws_eqIntS.l0 (k + 1) a b (a.length : Int) = _
    simp only [laws_eqIntS.l0]
    rw [if_neg (by omega), decide_eq_true]
    rw [List.take_length, hl, List.take_length] at hI
    exact hI
theorem eqIntS_ev (a b : List Int) (ha : a.length ≤ 9223372036854775806) : Ev (fun k => laws_eqIntS.f k a b) (decide (a = b)) := by
  by_cases hl : a.length = b.length
  · refine Ev.congr (f := fun k => laws_eqIntS.l0 k a b ((0 : Nat) : Int)) (fun k => ?_) (eqIntS_loop a b hl ha)
    unfold laws_eqIntS.f
    rw [if_pos (by omega)]
    rfl
  · refine Ev.congr (f := fun _ => some (decide (a = b))) (fun k => ?_) (Ev.now _)
    unfold laws_eqIntS.f
    rw [if_neg (by omega), decide_eq_false]
    intro h
    exact hl (by rw [h])
end Go.Proofs.Ytkkgnjdepgmjlaa.X

/- Plain lemmas: the laws' marks on slices of whole numbers. -/
namespace Go.Proofs.Ytkkgnjdepgmjlaa.X
set_option linter.unusedSimpArgs false
set_option linter.unusedVariables false
open Go.RowKit Go.Proofs.YtkkgnjdepgmjlaaW.PrintWords
/-- The row that the marks leave. -/
def marks (n : Nat) (a : Int) : List Int := (List.range n).map (fun (j : Nat) => a + (j : Int))
theorem marks_length (n : Nat) (a : Int) : (marks n a).length = n := by simp [marks]
theorem marks_at (n : Nat) (a : Int) (i : Nat) (h : i < n) : rd (marks n a) (i : Int) = a + i := by
  rw [rd_at _ _ (by rw [marks_length]; exact h)]
  simp [marks]
theorem markIntS_ev (l : List Int) (a : Int) (h0 : 0 ≤ a) (h1 : a + l.length ≤ 9223372036854775806) : Ev (fun k => laws_markIntS.f k l a) (a + l.length, marks l.length a) := by
  have key := evUp0 l.length (fun k (s : List Int) (i : Nat) => laws_markIntS.l0 k s (a + i) (i : Int)) (fun i s => s = (marks l.length a).take i ++ l.drop i) (a + l.length, marks l.length a) l (by simp)
    (by
      intro i s hi hI
      have hsl : s.length = l.length := by rw [hI]; simp [marks_length]; omega
      refine .inl ⟨(marks l.length a).take (i + 1) ++ l.drop (i + 1), rfl, fun h => evNext (fun k => ?_) h⟩
      show laws_markIntS.l0 (k + 1) s (a + i) (i : Int) = laws_markIntS.l0 k _ (a + (i + 1 : Nat)) (i + 1 : Nat)
      simp only [laws_markIntS.l0]
      rw [if_pos (by omega), if_pos (by omega), w64 (by omega) (by omega), w64 (by omega) (by omega), Int.toNat_natCast]
      congr 1
      · subst hI
        have hm : i < (marks l.length a).length := by rw [marks_length]; exact hi
        rw [List.take_succ_eq_append_getElem hm, List.append_assoc, List.set_append_right _ _ (by simp; omega)]
        congr 1
        have e1 : (List.take i (marks l.length a)).length = i := by simp [marks_length]; omega
        rw [e1, Nat.sub_self, List.drop_eq_getElem_cons hi, List.set_cons_zero]
        simp only [marks, List.getElem_map, List.getElem_range]
        rfl
      · omega)
    (by
      intro s hI
      refine evEnd fun k => ?_
      show laws_markIntS.l0 (k + 1) s (a + (l.length : Nat)) ((l.length : Nat) : Int) = _
      have hsl : s.length = l.length := by rw [hI]; simp [marks_length]
      simp only [laws_markIntS.l0]
      rw [if_neg (by omega), hI]
      congr 2
      rw [List.take_of_length_le (by rw [marks_length]; exact Nat.le_refl _)]
      simp)
  refine Ev.congr (fun k => ?_) key
  unfold laws_markIntS.f
  simp
theorem heldIntS_ev (n : Nat) (a : Int) (h0 : 0 ≤ a) (h1 : a + n ≤ 9223372036854775806) : Ev (fun k => laws_heldIntS.f k (marks n a) a) (a + n) := by
  have key := evUp0 n (fun k (_ : Unit) (i : Nat) => laws_heldIntS.l0 k (marks n a) (a + i) (i : Int)) (fun _ _ => True) (a + n) () trivial
    (by
      intro i s hi _
      refine .inl ⟨(), trivial, fun h => evNext (fun k => ?_) h⟩
      show laws_heldIntS.l0 (k + 1) (marks n a) (a + i) (i : Int) = laws_heldIntS.l0 k (marks n a) (a + (i + 1 : Nat)) (i + 1 : Nat)
      simp only [laws_heldIntS.l0]
      rw [if_pos (by rw [marks_length]; omega), if_pos (by omega), if_pos (marks_at n a i hi), w64 (by omega) (by omega), w64 (by omega) (by omega)]
      congr 1
      omega)
    (by
      intro s _
      refine evEnd fun k => ?_
      show laws_heldIntS.l0 (k + 1) (marks n a) (a + (n : Nat)) ((n : Nat) : Int) = _
      simp only [laws_heldIntS.l0]
      rw [if_neg (by rw [marks_length]; omega)])
  refine Ev.congr (fun k => ?_) key
  unfold laws_heldIntS.f
  simp
end Go.Proofs.Ytkkgnjdepgmjlaa.X

/- Plain lemmas: the laws' own helpers over slices of Jobs. -/
namespace Go.Proofs.Ytkkgnjdepgmjlaa.X
set_option linter.unusedSimpArgs false
set_option linter.unusedVariables false
open Go.RowKit Go.Proofs.YtkkgnjdepgmjlaaW.PrintWords
theorem rdS_at (l : List S43) (i : Nat) (h : i < l.length) : rd_T43 l (i : Int) = l[i] := by
  simp [rd_T43, List.getD_eq_getElem?_getD, List.getElem?_eq_getElem h]
theorem rdL_at (l : List S45) (i : Nat) (h : i < l.length) : rd_T45 l (i : Int) = l[i] := by
  simp [rd_T45, List.getD_eq_getElem?_getD, List.getElem?_eq_getElem h]
def toL (l : List S45) : List S43 := l.map (fun x => ⟨x.f0, x.f1, x.f2⟩)
theorem toL_length (l : List S45) : (toL l).length = l.length := by simp [toL]
theorem sz_big (l : List S45) (h : 1048576 < l.length) (h2 : l.length ≤ 9223372036854775807) : laws_szJobS.f l 1048576 = some (-1) := by
  unfold laws_szJobS.f
  rw [w64 (by omega) (by omega), if_pos (by omega)]
theorem sz_small (l : List S45) (h : l.length ≤ 1048576) : laws_szJobS.f l 1048576 = some (1048576 - (l.length : Int)) := by
  unfold laws_szJobS.f
  rw [w64 (by omega) (by omega), if_neg (by omega)]
theorem toS_ev (l : List S45) (hn : l.length ≤ 1048576) : Ev (fun k => laws_toJobS.f k l) (toL l) := by
  have key := evUp l.length (fun k (s : List S43) (i : Nat) => laws_toJobS.l0 k l s (i : Int)) (fun i s => s = (toL l).take i ++ List.replicate (l.length - i) z43) (toL l)
    (by
      intro i s hi hI
      have hsl : s.length = l.length := by rw [hI]; simp [toL_length]; omega
      refine .inl ⟨(toL l).take (i + 1) ++ List.replicate (l.length - (i + 1)) z43, rfl, fun h => evNext (fun k => ?_) h⟩
      show laws_toJobS.l0 (k + 1) l s (i : Int) = laws_toJobS.l0 k l _ (i + 1 : Nat)
      simp only [laws_toJobS.l0, laws_toJob.f, Option.bind_some]
      rw [if_pos (by omega), if_pos (by omega), if_pos (by omega), w64 (by omega) (by omega), rdL_at l i hi]
      congr 1
      subst hI
      rw [Int.toNat_natCast]
      have htl := toL_length l
      apply List.ext_getElem
      · simp [toL_length]; omega
      · intro j h1 h2
        rw [List.getElem_set]
        by_cases e : i = j
        · subst e
          rw [if_pos rfl, List.getElem_append_left (by simp [toL_length]; omega)]
          simp [toL]
        · rw [if_neg e]
          by_cases hj : j < i
          · rw [List.getElem_append_left (by simp [toL_length]; omega), List.getElem_append_left (by simp [toL_length]; omega)]
            simp
          · rw [List.getElem_append_right (by simp [toL_length]; omega), List.getElem_append_right (by simp [toL_length]; omega)]
            simp)
    (by
      intro s hI
      refine evEnd fun k => ?_
      show laws_toJobS.l0 (k + 1) l s (l.length : Int) = some (toL l)
      simp only [laws_toJobS.l0]
      rw [if_neg (by omega), hI, List.take_of_length_le (by rw [toL_length]; exact Nat.le_refl _)]
      simp) 0 (List.replicate l.length z43) (by omega) (by simp)
  refine Ev.congr (fun k => ?_) key
  unfold laws_toJobS.f
  rw [if_pos (by omega), if_pos (by omega), Int.toNat_natCast]
  rfl
theorem eqOne (x : S43) : laws_eqJob.f x.f0 x.f1 x.f2 x.f0 x.f1 x.f2 = some true := by simp [laws_eqJob.f]
theorem eqS_ev (l : List S43) (hn : l.length ≤ 1048576) : Ev (fun k => laws_eqJobS.f k l l) true := by
  have key := evUp0 l.length (fun k (_ : Unit) (i : Nat) => laws_eqJobS.l0 k l l (i : Int)) (fun _ _ => True) true () trivial
    (by
      intro i s hi _
      refine .inl ⟨(), trivial, fun h => evNext (fun k => ?_) h⟩
      show laws_eqJobS.l0 (k + 1) l l (i : Int) = laws_eqJobS.l0 k l l (i + 1 : Nat)
      simp only [laws_eqJobS.l0]
      rw [if_pos (by omega), if_pos (by omega), if_pos (by omega), eqOne, w64 (by omega) (by omega)]
      simp only [Option.bind_some, if_true]
      rfl)
    (by
      intro s _
      refine evEnd fun k => ?_
      show laws_eqJobS.l0 (k + 1) l l (l.length : Int) = _
      simp only [laws_eqJobS.l0]
      rw [if_neg (by omega)])
  refine Ev.congr (fun k => ?_) key
  unfold laws_eqJobS.f
  rw [if_pos rfl]
  rfl
end Go.Proofs.Ytkkgnjdepgmjlaa.X

/- Plain lemmas: whether all numbers lie between two others; traffic; buckets. -/
namespace Go.Proofs.Ytkkgnjdepgmjlaa.X
set_option linter.unusedSimpArgs false
set_option linter.unusedVariables false
open Go.RowKit Go.Proofs.YtkkgnjdepgmjlaaW.PrintWords
theorem l1In_eq (n lo hi : Int) : spec_l1In.f n lo hi = some (inB lo hi n) := by
  unfold spec_l1In.f inB
  by_cases h : lo ≤ n
  · rw [if_pos (by omega), decide_eq_true h]; simp
  · rw [if_neg (by omega), decide_eq_false h]; simp
theorem within_eq (n lo hi : Int) : impl_within.f n lo hi = some (inB lo hi n) := by
  unfold impl_within.f inB
  by_cases h : lo ≤ n
  · rw [if_pos (by omega), decide_eq_true h]; simp
  · rw [if_neg (by omega), decide_eq_false h]; simp
theorem inB_iff {lo hi n : Int} : inB lo hi n = true ↔ lo ≤ n ∧ n ≤ hi := by simp [inB]
end Go.Proofs.Ytkkgnjdepgmjlaa.X

/- Plain lemmas: jobs, starts of jobs, schedules. -/
namespace Go.Proofs.Ytkkgnjdepgmjlaa.X
set_option linter.unusedSimpArgs false
set_option linter.unusedVariables false
open Go.RowKit Go.Proofs.YtkkgnjdepgmjlaaW.PrintWords
def okJob (x : S43) : Bool := inB 0 1000 x.f0 && (inB 0 7 x.f1 && inB 1 20 x.f2)
def jobAt (l : List S43) (i : Nat) : Bool := okJob (rd_T43 l (i : Int)) && (decide (i = 0) || decide ((rd_T43 l ((i : Int) - 1)).f0 ≤ (rd_T43 l (i : Int)).f0))
def jobsTo (l : List S43) : Nat → Bool
  | 0 => true
  | n + 1 => jobsTo l n && jobAt l n
def isJobs (l : List S43) : Bool := decide (l.length ≤ 20) && jobsTo l l.length
theorem jobsTo_false (l : List S43) (n : Nat) (h : jobAt l n = false) : ∀ m, n < m → jobsTo l m = false
  | 0, hm => by omega
  | m + 1, hm => by
    by_cases e : n = m
    · subst e
      simp [jobsTo, h]
    · simp [jobsTo, jobsTo_false l n h m (by omega)]
theorem jobsTo_at {l : List S43} (n : Nat) (h : jobsTo l n = true) (i : Nat) (hi : i < n) : jobAt l i = true := by
  cases hj : jobAt l i with
  | true => rfl
  | false =>
    have := jobsTo_false l i hj n hi
    rw [this] at h
    cases h
theorem specJobs_step (l : List S43) (i : Nat) (hi : i < l.length) (hl : l.length ≤ 1048576) (k : Nat) :
    spec_prJobs.l0 (k + 1) l l (l.length : Int) (i : Int) = if jobAt l i = true then spec_prJobs.l0 k l l (l.length : Int) ((i + 1 : Nat) : Int) else some false := by
  simp only [spec_prJobs.l0]
  rw [if_pos (by omega), if_pos (by omega), if_pos (by omega)]
  simp only [l1In_eq, Option.bind_some]
  unfold jobAt okJob
  rw [w64 (x := (i : Int) + 1) (by omega) (by omega)]
  cases inB 0 1000 (rd_T43 l (i : Int)).f0 <;> cases inB 0 7 (rd_T43 l (i : Int)).f1 <;> cases inB 1 20 (rd_T43 l (i : Int)).f2 <;> simp
  by_cases h0 : i = 0
  · subst h0
    simp
  · rw [if_pos (by omega), w64 (by omega) (by omega), if_pos (by omega), if_pos (by omega)]
    by_cases hc : (rd_T43 l ((i : Int) - 1)).f0 ≤ (rd_T43 l (i : Int)).f0
    · rw [if_neg (by omega), if_pos (.inr hc)]
    · rw [if_pos (by omega), if_neg (by omega)]
theorem implJobs_step (l : List S43) (i : Nat) (hi : i < l.length) (hl : l.length ≤ 1048576) (k : Nat) :
    impl_AreJobs.l0 (k + 1) l l (l.length : Int) (i : Int) = if jobAt l i = true then impl_AreJobs.l0 k l l (l.length : Int) ((i + 1 : Nat) : Int) else some false := by
  simp only [impl_AreJobs.l0]
  rw [if_pos (by omega), if_pos (by omega), if_pos (by omega)]
  simp only [impl_isTick.f, within_eq, Option.bind_some]
  unfold jobAt okJob
  rw [w64 (x := (i : Int) + 1) (by omega) (by omega)]
  cases inB 0 1000 (rd_T43 l (i : Int)).f0 <;> cases inB 0 7 (rd_T43 l (i : Int)).f1 <;> cases inB 1 20 (rd_T43 l (i : Int)).f2 <;> simp
  by_cases h0 : i = 0
  · subst h0
    simp
  · rw [if_pos (by omega), w64 (by omega) (by omega), if_pos (by omega), if_pos (by omega)]
    by_cases hc : (rd_T43 l ((i : Int) - 1)).f0 ≤ (rd_T43 l (i : Int)).f0
    · rw [if_neg (by omega), if_pos (.inr hc)]
    · rw [if_pos (by omega), if_neg (by omega)]
theorem specJobs_ev (l : List S43) (hl : l.length ≤ 1048576) : Ev (fun k => spec_prJobs.f k l) (isJobs l) := by
  unfold isJobs
  by_cases hn : l.length ≤ 20
  · rw [decide_eq_true hn, Bool.true_and]
    have key := evUp0 l.length (fun k (_ : Unit) (i : Nat) => spec_prJobs.l0 k l l (l.length : Int) (i : Int)) (fun i _ => jobsTo l i = true) (jobsTo l l.length) () rfl
      (by
        intro i s hi hI
        cases hj : jobAt l i with
        | true => exact .inl ⟨(), by simp [jobsTo, hI, hj], fun h => evNext (fun k => by rw [specJobs_step l i hi hl k, if_pos hj]) h⟩
        | false => exact .inr (evEnd fun k => by rw [specJobs_step l i hi hl k, hj, jobsTo_false l i hj l.length hi]; simp))
      (by
        intro s hI
        refine evEnd fun k => ?_
        show spec_prJobs.l0 (k + 1) l l (l.length : Int) (l.length : Int) = _
        simp only [spec_prJobs.l0]
        rw [if_neg (by omega), hI])
    refine Ev.congr (fun k => ?_) key
    unfold spec_prJobs.f
    rw [if_neg (by omega)]
    rfl
  · rw [decide_eq_false hn, Bool.false_and]
    refine Ev.congr (f := fun _ => some false) (fun k => ?_) (Ev.now _)
    unfold spec_prJobs.f
    rw [if_pos (by omega)]
theorem implJobs_ev (l : List S43) (hl : l.length ≤ 1048576) : Ev (fun k => impl_AreJobs.f k l) (isJobs l) := by
  have key := evUp0 l.length (fun k (_ : Unit) (i : Nat) => impl_AreJobs.l0 k l l (l.length : Int) (i : Int)) (fun i _ => jobsTo l i = true) (isJobs l) () rfl
    (by
      intro i s hi hI
      cases hj : jobAt l i with
      | true => exact .inl ⟨(), by simp [jobsTo, hI, hj], fun h => evNext (fun k => by rw [implJobs_step l i hi hl k, if_pos hj]) h⟩
      | false => exact .inr (evEnd fun k => by rw [implJobs_step l i hi hl k, hj]; simp [isJobs, jobsTo_false l i hj l.length hi]))
    (by
      intro s hI
      refine evEnd fun k => ?_
      show impl_AreJobs.l0 (k + 1) l l (l.length : Int) (l.length : Int) = _
      simp only [impl_AreJobs.l0]
      rw [if_neg (by omega)]
      unfold isJobs
      rw [hI, Bool.and_true]
      congr 1
      by_cases h : l.length ≤ 20
      · rw [decide_eq_true h, decide_eq_true (by omega)]
      · rw [decide_eq_false h, decide_eq_false (by omega)])
  exact key
/-- What is known of jobs. -/
theorem isJobs_at {l : List S43} (h : isJobs l = true) : l.length ≤ 20 ∧ ∀ i : Nat, i < l.length → 0 ≤ (rd_T43 l (i : Int)).f0 ∧ (rd_T43 l (i : Int)).f0 ≤ 1000 ∧ 0 ≤ (rd_T43 l (i : Int)).f1 ∧ (rd_T43 l (i : Int)).f1 ≤ 7 ∧ 1 ≤ (rd_T43 l (i : Int)).f2 ∧ (rd_T43 l (i : Int)).f2 ≤ 20 := by
  unfold isJobs at h
  simp only [Bool.and_eq_true, decide_eq_true_eq] at h
  refine ⟨h.1, fun i hi => ?_⟩
  have := jobsTo_at l.length h.2 i hi
  unfold jobAt okJob at this
  simp only [Bool.and_eq_true] at this
  have h1 := inB_iff.1 this.1.1
  have h2 := inB_iff.1 this.1.2.1
  have h3 := inB_iff.1 this.1.2.2
  omega
end Go.Proofs.Ytkkgnjdepgmjlaa.X

/- Starts by the greatest number: the reference's line and the program's come to the same. -/
namespace Go.Proofs.Ytkkgnjdepgmjlaa.X
set_option linter.unusedSimpArgs false
set_option linter.unusedVariables false
open Go.RowKit Go.Proofs.YtkkgnjdepgmjlaaW.PrintWords
/-- The waiting jobs, of the first m ones. -/
def wlTo (J : List S43) (st : List Int) (t : Int) : Nat → List Int
  | 0 => []
  | m + 1 => if waitsB J st t m = true then wlTo J st t m ++ [(m : Int)] else wlTo J st t m
theorem wlTo_len (J : List S43) (st : List Int) (t : Int) : ∀ m, (wlTo J st t m).length ≤ m
  | 0 => by simp [wlTo]
  | m + 1 => by
    have := wlTo_len J st t m
    unfold wlTo
    split
    · simp; omega
    · omega
theorem wlTo_mem {J : List S43} {st : List Int} {t x : Int} : ∀ m, x ∈ wlTo J st t m → ∃ i : Nat, x = (i : Int) ∧ i < m ∧ waitsB J st t i = true
  | 0, h => by simp [wlTo] at h
  | m + 1, h => by
    unfold wlTo at h
    split at h
    · rename_i hw
      rcases List.mem_append.1 h with h | h
      · obtain ⟨i, h1, h2, h3⟩ := wlTo_mem m h
        exact ⟨i, h1, by omega, h3⟩
      · simp at h
        exact ⟨m, h, by omega, hw⟩
    · obtain ⟨i, h1, h2, h3⟩ := wlTo_mem m h
      exact ⟨i, h1, by omega, h3⟩
theorem wlTo_some (J : List S43) (st : List Int) (t : Int) : ∀ m, someB J st t m = decide (0 < (wlTo J st t m).length)
  | 0 => by simp [wlTo, someB]
  | m + 1 => by
    unfold wlTo someB
    rw [wlTo_some J st t m]
    by_cases h : waitsB J st t m = true
    · rw [if_pos h, h]; simp
    · rw [if_neg h, Bool.eq_false_iff.mpr h]; simp
theorem waiting_ev (J : List S43) (st : List Int) (t : Int) (hl : st.length = J.length) (hn : J.length ≤ 20) : Ev (fun k => impl_line_waiting.f k J t st) (wlTo J st t J.length, t) := by
  have key := evUp0 J.length (fun k (s : List Int) (i : Nat) => impl_line_waiting.l0 k s J (J.length : Int) (i : Int) J t st) (fun i s => s = wlTo J st t i) (wlTo J st t J.length, t) [] rfl
    (by
      intro i s hi hI
      have hlen := wlTo_len J st t i
      refine .inl ⟨wlTo J st t (i + 1), rfl, fun h => evNext (fun k => ?_) h⟩
      show impl_line_waiting.l0 (k + 1) s J (J.length : Int) (i : Int) J t st = impl_line_waiting.l0 k (wlTo J st t (i + 1)) J (J.length : Int) (i + 1 : Nat) J t st
      simp only [impl_line_waiting.l0]
      rw [if_pos (by omega), if_pos (by omega), if_pos (by omega), if_pos (by omega), w64 (by omega) (by omega)]
      subst hI
      by_cases c1 : rd st (i : Int) < 0
      · rw [if_pos c1]
        by_cases c2 : (rd_T43 J (i : Int)).f0 ≤ t
        · have hw : waitsB J st t i = true := by unfold waitsB; simp [c1, c2]
          rw [if_pos c2, if_pos (by omega), wlTo, if_pos hw]
          rfl
        · have hw : ¬ waitsB J st t i = true := by unfold waitsB; simp [c2]
          rw [if_neg c2, wlTo, if_neg hw]
          rfl
      · have hw : ¬ waitsB J st t i = true := by unfold waitsB; simp [c1]
        rw [if_neg c1, wlTo, if_neg hw]
        rfl)
    (by
      intro s hI
      refine evEnd fun k => ?_
      show impl_line_waiting.l0 (k + 1) s J (J.length : Int) (J.length : Int) J t st = _
      simp only [impl_line_waiting.l0]
      rw [if_neg (by omega), hI])
  exact key
theorem index_none (st : List Int) (hn : st.length ≤ 20) (h : ∀ i : Nat, i < st.length → rd st (i : Int) ≠ -1) : Ev (fun k => slices_Index_int_int.f k st (-1)) (-1) := by
  have key := evUp0 st.length (fun k (_ : Unit) (i : Nat) => slices_Index_int_int.l0 k st (-1) (st.length : Int) (i : Int)) (fun _ _ => True) (-1) () trivial
    (by
      intro i s hi _
      refine .inl ⟨(), trivial, fun h2 => evNext (fun k => ?_) h2⟩
      show slices_Index_int_int.l0 (k + 1) st (-1) (st.length : Int) (i : Int) = slices_Index_int_int.l0 k st (-1) (st.length : Int) (i + 1 : Nat)
      simp only [slices_Index_int_int.l0]
      rw [if_pos (by omega), if_pos (by omega), if_pos (by omega), if_neg (fun e => h i hi e.symm), w64 (by omega) (by omega)]
      rfl)
    (by
      intro s _
      refine evEnd fun k => ?_
      show slices_Index_int_int.l0 (k + 1) st (-1) (st.length : Int) (st.length : Int) = _
      simp only [slices_Index_int_int.l0]
      rw [if_neg (by omega)])
  exact key
theorem index_some (st : List Int) (hn : st.length ≤ 20) (m : Nat) (hm : m < st.length) (h1 : rd st (m : Int) = -1) (h : ∀ i : Nat, i < m → rd st (i : Int) ≠ -1) : Ev (fun k => slices_Index_int_int.f k st (-1)) (m : Int) := by
  have key := evUp0 m (fun k (_ : Unit) (i : Nat) => slices_Index_int_int.l0 k st (-1) (st.length : Int) (i : Int)) (fun _ _ => True) (m : Int) () trivial
    (by
      intro i s hi _
      refine .inl ⟨(), trivial, fun h2 => evNext (fun k => ?_) h2⟩
      show slices_Index_int_int.l0 (k + 1) st (-1) (st.length : Int) (i : Int) = slices_Index_int_int.l0 k st (-1) (st.length : Int) (i + 1 : Nat)
      simp only [slices_Index_int_int.l0]
      rw [if_pos (by omega), if_pos (by omega), if_pos (by omega), if_neg (fun e => h i hi e.symm), w64 (by omega) (by omega)]
      rfl)
    (by
      intro s _
      refine evEnd fun k => ?_
      show slices_Index_int_int.l0 (k + 1) st (-1) (st.length : Int) (m : Int) = _
      simp only [slices_Index_int_int.l0]
      rw [if_pos (by omega), if_pos (by omega), if_pos (by omega), if_pos h1.symm])
  exact key
/-- The first of a list with the greatest number. -/
def fbest (of : S43 → Int) (J : List S43) (l : List Int) (b : Int × Int) : Int × Int := l.foldl (fun b i => if b.2 < of (rd_T43 J i) then (i, of (rd_T43 J i)) else b) b
theorem prBest_fold (cls : Bool) (step : Int) (J : List S43) (st : List Int) (t : Int) : ∀ m, prBest cls step J st t m = fbest (prRank cls step t) J (wlTo J st t m) (-1, -1)
  | 0 => rfl
  | m + 1 => by
    have ih := prBest_fold cls step J st t m
    unfold prBest wlTo
    by_cases hw : waitsB J st t m = true
    · rw [if_pos hw, ih]
      simp only [hw, true_and]
      unfold fbest
      rw [List.foldl_append]
      rfl
    · rw [if_neg hw, if_neg (fun h => hw h.1), ih]
theorem gBest_fold (of : S43 → Int) (J : List S43) (wl : List Int) : ∀ m, m ≤ wl.length → (gBest of J wl m, of (rd_T43 J (gBest of J wl m))) = fbest of J (wl.take m) (rd wl 0, of (rd_T43 J (rd wl 0)))
  | 0, _ => by simp [gBest, fbest]
  | m + 1, hm => by
    have ih := gBest_fold of J wl m (by omega)
    have h1 : wl.take (m + 1) = wl.take m ++ [rd wl (m : Int)] := by rw [rd_at wl m (by omega), List.take_succ_eq_append_getElem (by omega)]
    have h2 : fbest of J (wl.take (m + 1)) (rd wl 0, of (rd_T43 J (rd wl 0))) = fbest of J [rd wl (m : Int)] (fbest of J (wl.take m) (rd wl 0, of (rd_T43 J (rd wl 0)))) := by
      rw [h1]
      unfold fbest
      rw [List.foldl_append]
    rw [h2, ← ih]
    show _ = (if of (rd_T43 J (gBest of J wl m)) < of (rd_T43 J (rd wl (m : Int))) then (rd wl (m : Int), of (rd_T43 J (rd wl (m : Int)))) else (gBest of J wl m, of (rd_T43 J (gBest of J wl m))))
    rw [gBest]
    split <;> rfl
theorem best_same (of : S43 → Int) (J : List S43) (wl : List Int) (hp : 0 < wl.length) (h0 : ∀ x ∈ wl, 0 ≤ of (rd_T43 J x)) : (fbest of J wl (-1, -1)).1 = gBest of J wl wl.length := by
  have h := gBest_fold of J wl wl.length (Nat.le_refl _)
  rw [List.take_length] at h
  have h2 : fbest of J wl (rd wl 0, of (rd_T43 J (rd wl 0))) = fbest of J wl (-1, -1) := by
    cases wl with
    | nil => simp at hp
    | cons w rest =>
      have e : rd (w :: rest) 0 = w := rfl
      have := h0 w (by simp)
      rw [e]
      unfold fbest
      rw [List.foldl_cons, List.foldl_cons]
      dsimp only
      rw [if_neg (by omega), if_pos (by omega)]
  rw [← h2, ← h]
theorem least_of {P : Nat → Prop} [DecidablePred P] : ∀ n, (∃ i, i < n ∧ P i) → ∃ m, m < n ∧ P m ∧ ∀ i, i < m → ¬ P i
  | 0, ⟨i, h, _⟩ => absurd h (by omega)
  | n + 1, ⟨i, h, hp⟩ => by
    by_cases c : ∃ i, i < n ∧ P i
    · obtain ⟨m, h1, h2, h3⟩ := least_of n c
      exact ⟨m, by omega, h2, h3⟩
    · have hin : i = n := Nat.le_antisymm (by omega) (Nat.le_of_not_lt fun hlt => c ⟨i, hlt, hp⟩)
      subst hin
      exact ⟨i, by omega, hp, fun j hj hpj => c ⟨j, hj, hpj⟩⟩
theorem isJobs_next {J : List S43} (h : isJobs J = true) (i : Nat) (hi : i + 1 < J.length) : (rd_T43 J (i : Int)).f0 ≤ (rd_T43 J ((i + 1 : Nat) : Int)).f0 := by
  unfold isJobs at h
  simp only [Bool.and_eq_true, decide_eq_true_eq] at h
  have := jobsTo_at J.length h.2 (i + 1) hi
  unfold jobAt at this
  simp only [Bool.and_eq_true, Bool.or_eq_true, decide_eq_true_eq] at this
  rcases this.2 with h2 | h2
  · omega
  · rw [show (((i + 1 : Nat) : Int) - 1) = (i : Int) by omega] at h2
    exact h2
theorem isJobs_sorted {J : List S43} (h : isJobs J = true) (i : Nat) : ∀ d, i + d < J.length → (rd_T43 J (i : Int)).f0 ≤ (rd_T43 J ((i + d : Nat) : Int)).f0
  | 0, _ => Int.le_refl _
  | d + 1, hd => Int.le_trans (isJobs_sorted h i d (by omega)) (isJobs_next h (i + d) hd)
theorem prNext_at {J : List S43} (hJ : isJobs J = true) (st : List Int) (x : Nat) (hx : x < J.length) (h1 : rd st (x : Int) < 0) (h2 : ∀ i : Nat, i < x → ¬ rd st (i : Int) < 0) : ∀ m, m ≤ J.length → prNext J st m = if x < m then (rd_T43 J (x : Int)).f0 else 5000
  | 0, _ => by simp [prNext]
  | m + 1, hm => by
    have ih := prNext_at hJ st x hx h1 h2 m (by omega)
    have hb := (isJobs_at hJ).2 x hx
    unfold prNext
    rw [ih]
    by_cases c : x < m
    · rw [if_pos c, if_pos (show x < m + 1 by omega)]
      have hs := isJobs_sorted hJ x (m - x) (by omega)
      rw [show x + (m - x) = m by omega] at hs
      by_cases c2 : rd st (m : Int) < 0
      · rw [if_pos c2]
        split
        · rfl
        · omega
      · rw [if_neg c2]
    · rw [if_neg c]
      by_cases c3 : x = m
      · subst c3
        rw [if_pos h1, if_pos (show x < x + 1 by omega), if_neg (by omega)]
      · rw [if_neg (h2 m (by omega)), if_neg (show ¬ x < m + 1 by omega)]
def startedN (st : List Int) : Nat := st.countP (fun x => decide (0 ≤ x))
theorem started_all {st : List Int} (h : startedN st = st.length) (i : Nat) (hi : i < st.length) : rd st (i : Int) ≠ -1 := by
  have := List.countP_eq_length.1 h st[i] (List.getElem_mem hi)
  rw [rd_at st i hi]
  simp at this
  omega
theorem started_some {st : List Int} (h : startedN st < st.length) (hst : ∀ i : Nat, i < st.length → rd st (i : Int) = -1 ∨ 0 ≤ rd st (i : Int)) : ∃ i, i < st.length ∧ rd st (i : Int) = -1 := by
  refine Classical.byContradiction fun hc => ?_
  have : startedN st = st.length := by
    refine List.countP_eq_length.2 fun x hx => ?_
    obtain ⟨i, hi, rfl⟩ := List.getElem_of_mem hx
    rcases hst i hi with h1 | h1
    · exact absurd ⟨i, hi, h1⟩ hc
    · rw [rd_at st i hi] at h1
      simpa using h1
  omega
theorem started_set {st : List Int} (c : Nat) (hc : c < st.length) (h1 : rd st (c : Int) = -1) (t : Int) (ht : 0 ≤ t) : startedN (st.set c t) = startedN st + 1 := by
  unfold startedN
  rw [List.countP_set hc]
  rw [rd_at st c hc] at h1
  simp [h1, ht]
theorem rd_set_of (st : List Int) (c i : Nat) (t : Int) (hi : i < st.length) : rd (st.set c t) (i : Int) = if c = i then t else rd st (i : Int) := by
  rw [rd_at _ i (by rw [List.length_set]; exact hi), List.getElem_set, rd_at st i hi]
theorem starts_main {J : List S43} (hJ : isJobs J = true) (cls : Bool) (step : Int) (of : Int → S43 → Int) (hof : ∀ t x, of t x = prRank cls step t x)
    (h0 : ∀ (i : Nat) (t : Int), i < J.length → (rd_T43 J (i : Int)).f0 ≤ t → t ≤ 2000 → 0 ≤ of t (rd_T43 J (i : Int))) :
    ∀ (d : Nat) (st : List Int) (now : Int), startedN st + d = J.length → st.length = J.length → (∀ i : Nat, i < st.length → rd st (i : Int) = -1 ∨ 0 ≤ rd st (i : Int)) → 0 ≤ now → now ≤ 1000 + 20 * (startedN st : Int) →
      ∃ r : List Int, r.length ≤ 20 ∧ Ev (fun k => spec_prBy.l0 J cls step k st now (startedN st : Int)) r ∧ Ev (fun k => startsByL J (gChoose of J) id k st now ()) r := by
  obtain ⟨hn, hat⟩ := isJobs_at hJ
  intro d
  induction d with
  | zero =>
    intro st now hd hl hst hn0 hn1
    refine ⟨st, by omega, evEnd fun k => ?_, ?_⟩
    · rw [spec_prBy.l0, if_neg (by omega)]
    · obtain ⟨K1, e1⟩ := index_none st (by omega) (fun i hi => started_all (by omega) i hi)
      refine ⟨K1 + 1, fun n hn => ?_⟩
      obtain ⟨m, rfl⟩ : ∃ m, n = m + 1 := ⟨n - 1, by omega⟩
      dsimp only at e1 ⊢
      rw [startsByL, e1 m (by omega), Option.bind_some, if_pos (by omega)]
  | succ d ih =>
    intro st now hd hl hst hn0 hn1
    obtain ⟨x, hx, hx1, hx2⟩ := least_of (P := fun i => rd st ((i : Nat) : Int) = -1) st.length (started_some (by omega) hst)
    have hx3 : ∀ i : Nat, i < x → ¬ rd st (i : Int) < 0 := fun i hi => by
      have h1 := hx2 i hi
      rcases hst i (by omega) with h2 | h2
      · exact absurd h2 h1
      · omega
    have hpx := prNext_at hJ st x (by omega) (by omega) hx3 J.length (Nat.le_refl _)
    rw [if_pos (by omega)] at hpx
    have hbx := hat x (by omega)
    obtain ⟨t1, ht1⟩ : ∃ t1, prNow J st now (startedN st : Int) = t1 := ⟨_, rfl⟩
    have hdn : ((startedN st : Int) != (J.length : Int)) = true := by simp; omega
    have hsb := wlTo_some J st now J.length
    have htt : (if ((wlTo J st now J.length).length : Int) = 0 then (rd_T43 J (x : Int)).f0 else now) = t1 := by
      rw [← ht1]
      unfold prNow skipB
      rw [hsb, hdn, hpx]
      by_cases c : (wlTo J st now J.length).length = 0
      · rw [if_pos (by omega), c]; rfl
      · rw [if_neg (by omega), show decide (0 < (wlTo J st now J.length).length) = true by simp; omega]; rfl
    have htb : 0 ≤ t1 ∧ t1 ≤ 1000 + 20 * (startedN st : Int) := by
      rw [← htt]
      split <;> omega
    have hw1 : 0 < (wlTo J st t1 J.length).length := by
      have h1 : someB J st t1 J.length = true := by
        by_cases c : (wlTo J st now J.length).length = 0
        · rw [if_pos (by omega)] at htt
          refine someB_of (i := x) ?_ J.length (by omega)
          unfold waitsB
          rw [← htt]
          simp
          omega
        · rw [if_neg (by omega)] at htt
          rw [← htt, hsb]
          simp
          omega
      rw [wlTo_some] at h1
      simpa using h1
    have hwl := wlTo_len J st t1 J.length
    have hin : ∀ y ∈ wlTo J st t1 J.length, 0 ≤ y ∧ y < (J.length : Int) := fun y hy => by
      obtain ⟨i, h1, h2, _⟩ := wlTo_mem _ hy
      omega
    have hall : ((wlTo J st t1 J.length).all fun y => decide (0 ≤ y) && decide (y < (J.length : Int))) = true := List.all_eq_true.2 fun y hy => by
      have := hin y hy
      simp only [Bool.and_eq_true, decide_eq_true_eq]
      exact this
    have hbest := best_same (of t1) J (wlTo J st t1 J.length) hw1 (fun y hy => by
      obtain ⟨i, h1, h2, h3⟩ := wlTo_mem _ hy
      unfold waitsB at h3
      simp only [Bool.and_eq_true, decide_eq_true_eq] at h3
      rw [h1]
      exact h0 i t1 h2 h3.2 (by omega))
    have hfn : fbest (of t1) J (wlTo J st t1 J.length) (-1, -1) = fbest (prRank cls step t1) J (wlTo J st t1 J.length) (-1, -1) := by
      rw [show of t1 = prRank cls step t1 from funext (hof t1)]
    have hpb := prBest_fold cls step J st t1 J.length
    rw [← hfn] at hpb
    have hmem : gBest (of t1) J (wlTo J st t1 J.length) (wlTo J st t1 J.length).length ∈ wlTo J st t1 J.length := by
      have key : ∀ m, m ≤ (wlTo J st t1 J.length).length → gBest (of t1) J (wlTo J st t1 J.length) m ∈ wlTo J st t1 J.length := by
        have hr : ∀ j : Nat, j < (wlTo J st t1 J.length).length → rd (wlTo J st t1 J.length) (j : Int) ∈ wlTo J st t1 J.length := fun j hj => by
          rw [rd_at _ j hj]
          exact List.getElem_mem hj
        intro m
        induction m with
        | zero => intro _; exact hr 0 hw1
        | succ m ihm =>
          intro hm
          unfold gBest
          split
          · exact hr m (by omega)
          · exact ihm (by omega)
      exact key _ (Nat.le_refl _)
    obtain ⟨c, hc1, hc2, hc3⟩ := wlTo_mem _ hmem
    have hbc : (prBest cls step J st t1 J.length).1 = (c : Int) := by rw [hpb, hbest, hc1]
    have hcs : rd st (c : Int) = -1 := by
      unfold waitsB at hc3
      simp only [Bool.and_eq_true, decide_eq_true_eq] at hc3
      rcases hst c (by omega) with h1 | h1
      · exact h1
      · omega
    have hcb := hat c hc2
    have hset := started_set (st := st) c (by omega) hcs t1 htb.1
    obtain ⟨r, hr1, hr2, hr3⟩ := ih (st.set c t1) (t1 + (rd_T43 J (c : Int)).f2) (by omega) (by rw [List.length_set]; exact hl)
      (fun i hi => by
        rw [List.length_set] at hi
        rw [rd_set_of st c i t1 hi]
        split
        · exact .inr htb.1
        · exact hst i hi) (by omega) (by rw [hset]; omega)
    rw [hset] at hr2
    refine ⟨r, hr1, evNext (fun k => ?_) hr2, ?_⟩
    · rw [spec_prBy.l0, if_pos (by omega), ht1, hbc, if_pos (by omega), Int.toNat_natCast, w64 (by omega) (by omega), w64 (by omega) (by omega)]
      rfl
    · obtain ⟨K1, e1⟩ := index_some st (by omega) x hx hx1 hx2
      obtain ⟨K2, e2⟩ := waiting_ev J st now hl hn
      obtain ⟨K3, e3⟩ := waiting_ev J st t1 hl hn
      obtain ⟨K4, e4⟩ := hr3
      refine ⟨K1 + K2 + K3 + K4 + 1, fun n hn5 => ?_⟩
      obtain ⟨m, rfl⟩ : ∃ m, n = m + 1 := ⟨n - 1, by omega⟩
      dsimp only at e1 e2 e3 e4 ⊢
      rw [startsByL, e1 m (by omega), Option.bind_some, if_neg (by omega), e2 m (by omega), Option.bind_some]
      dsimp only
      rw [if_pos (by omega), htt]
      have hch : gChoose of J m st t1 () = some ((c : Int), ()) := by
        unfold gChoose
        rw [e3 m (by omega), Option.bind_some]
        dsimp only
        rw [if_pos ⟨hw1, by omega, hall⟩, hc1]
      rw [show (if ((wlTo J st now J.length).length : Int) = 0 then id () else ()) = () from rfl, hch, Option.bind_some]
      dsimp only
      rw [if_pos (by omega), Int.toNat_natCast, w64 (by omega) (by omega)]
      exact e4 m (by omega)
theorem starts_all {J : List S43} (hJ : isJobs J = true) (cls : Bool) (step : Int) (of : Int → S43 → Int) (hof : ∀ t x, of t x = prRank cls step t x) (hs : 0 ≤ step ∧ (0 < step → cls = true))
    (h0 : ∀ (i : Nat) (t : Int), i < J.length → (rd_T43 J (i : Int)).f0 ≤ t → t ≤ 2000 → 0 ≤ of t (rd_T43 J (i : Int))) :
    ∃ r : List Int, r.length ≤ 20 ∧ Ev (fun k => spec_prBy.f k J cls step) r ∧ Ev (fun k => startsByL J (gChoose of J) id k (List.replicate J.length (-1)) 0 ()) r := by
  have hn := (isJobs_at hJ).1
  have hz : startedN (List.replicate J.length (-1 : Int)) = 0 := by simp [startedN, List.countP_replicate]
  obtain ⟨r, h1, h2, h3⟩ := starts_main hJ cls step of hof h0 J.length (List.replicate J.length (-1)) 0 (by omega) List.length_replicate (fun i hi => .inl (by rw [rd_at _ i hi]; simp)) (Int.le_refl _) (by omega)
  refine ⟨r, h1, ?_, h3⟩
  rw [hz] at h2
  unfold spec_prBy.f
  exact evPos ⟨hn, hs.1, hs.2⟩ h2
theorem aged_pos {J : List S43} (hJ : isJobs J = true) {step : Int} (h1 : 1 ≤ step) (h2 : step ≤ 100) (i : Nat) (t : Int) (hi : i < J.length) (h3 : (rd_T43 J (i : Int)).f0 ≤ t) (h4 : t ≤ 2000) : 0 ≤ agedOf step t (rd_T43 J (i : Int)) := by
  have hb := (isJobs_at hJ).2 i hi
  unfold agedOf
  rw [w64 (x := t - (rd_T43 J (i : Int)).f0) (by omega) (by omega)]
  have hq : 0 ≤ Int.tdiv (t - (rd_T43 J (i : Int)).f0) step := Int.tdiv_nonneg (by omega) (by omega)
  have hq2 : Int.tdiv (t - (rd_T43 J (i : Int)).f0) step ≤ t - (rd_T43 J (i : Int)).f0 := by
    rw [Int.tdiv_eq_ediv_of_nonneg (by omega)]
    exact Int.ediv_le_self _ (by omega)
  rw [w64 (x := Int.tdiv (t - (rd_T43 J (i : Int)).f0) step) (by omega) (by omega), w64 (by omega) (by omega)]
  omega
theorem l1In_100 (a : Int) : spec_l1In.f a 1 100 = some (decide (1 ≤ a ∧ a ≤ 100)) := by
  unfold spec_l1In.f
  by_cases h1 : 1 ≤ a <;> by_cases h2 : a ≤ 100 <;> simp [h1, h2] <;> omega
theorem AgedStarts_same (L : List S45) (a : Int) (h : (L.length ≤ maxLen ∧ (∀ x ∈ L, (Lit.int .i64 x.f0).wf = true ∧ (Lit.int .i64 x.f1).wf = true ∧ (Lit.int .i64 x.f2).wf = true) ∧ (Lit.int .i64 a).wf = true ∧ L.length ≤ 1048576)) :
    ∃ v, Ev (fun k => spec_AgedStarts.f k (toL L) a) v ∧ Ev (fun k => impl_AgedStarts.f k (toL L) a) v ∧ v.1.length ≤ 1000000 := by
  have htl := toL_length L
  generalize toL L = J at htl ⊢
  obtain ⟨K1, e1⟩ := specJobs_ev J (by omega)
  obtain ⟨K2, e2⟩ := implJobs_ev J (by omega)
  dsimp only at e1 e2
  have e5 := l1In_100 a
  cases hJ : isJobs J with
  | false =>
    rw [hJ] at e1 e2
    refine ⟨([], false), ⟨K1 + 9, fun n hn => ?_⟩, ⟨K2 + 9, fun n hn => ?_⟩, by simp⟩
    · simp (disch := omega) [spec_AgedStarts.f, e1]
    · simp (disch := omega) [impl_AgedStarts.f, e2]
  | true =>
    rw [hJ] at e1 e2
    by_cases hs : 1 ≤ a ∧ a ≤ 100
    · obtain ⟨r, h1, ⟨K3, e3⟩, ⟨K4, e4⟩⟩ := starts_all hJ true a (agedOf a) (fun t x => by unfold prRank agedOf; rw [if_pos rfl, if_pos (by omega)]) ⟨by omega, fun _ => rfl⟩ (fun i t hi h3 h4 => aged_pos hJ hs.1 hs.2 i t hi h3 h4)
      have h20 := (isJobs_at hJ).1
      dsimp only at e3 e4
      rw [decide_eq_true hs] at e5
      refine ⟨(r, true), ⟨K1 + K3 + 9, fun n hn => ?_⟩, ⟨K2 + K4 + 9, fun n hn => ?_⟩, by simp; omega⟩
      · simp (disch := omega) only [spec_AgedStarts.f, e1, e3, e5, Option.bind_some, if_true]
      · simp (disch := omega) only [impl_AgedStarts.f, e2, e4, h20, hs, Option.bind_some, if_true, and_self]
    · rw [decide_eq_false hs] at e5
      refine ⟨([], false), ⟨K1 + 9, fun n hn => ?_⟩, ⟨K2 + 9, fun n hn => ?_⟩, by simp⟩
      · simp (disch := omega) [spec_AgedStarts.f, e1, e5]
      · simp (disch := omega) only [impl_AgedStarts.f, e2, Option.bind_some, if_true, if_neg hs]
end Go.Proofs.Ytkkgnjdepgmjlaa.X

/- Plain lemmas: the laws' marks on slices of Jobs. -/
namespace Go.Proofs.Ytkkgnjdepgmjlaa.X
set_option linter.unusedSimpArgs false
set_option linter.unusedVariables false
open Go.RowKit Go.Proofs.YtkkgnjdepgmjlaaW.PrintWords
def marksS (n : Nat) (a : Int) : List S43 := (List.range n).map (fun (j : Nat) => ⟨a + 3 * (j : Int), a + 3 * (j : Int) + 1, a + 3 * (j : Int) + 2⟩)
theorem marksS_length (n : Nat) (a : Int) : (marksS n a).length = n := by simp [marksS]
theorem markS_ev (l : List S43) (a : Int) (h0 : 0 ≤ a ∧ a ≤ 1000000) (h1 : l.length ≤ 1048576) : Ev (fun k => laws_markJobS.f k l a) (a + 3 * (l.length : Int), marksS l.length a) := by
  have key := evUp0 l.length (fun k (s : List S43) (i : Nat) => laws_markJobS.l0 k s (a + 3 * (i : Int)) (i : Int)) (fun i s => s = (marksS l.length a).take i ++ l.drop i) (a + 3 * (l.length : Int), marksS l.length a) l (by simp)
    (by
      intro i s hi hI
      have hsl : s.length = l.length := by rw [hI]; simp [marksS_length]; omega
      refine .inl ⟨(marksS l.length a).take (i + 1) ++ l.drop (i + 1), rfl, fun h => evNext (fun k => ?_) h⟩
      show laws_markJobS.l0 (k + 1) s (a + 3 * (i : Int)) (i : Int) = laws_markJobS.l0 k _ (a + 3 * ((i + 1 : Nat) : Int)) (i + 1 : Nat)
      simp only [laws_markJobS.l0, Option.bind_some]
      rw [if_pos (by omega), if_pos (by omega)]
      simp (disch := omega) only [w64, Int.toNat_natCast]
      rw [rdS_at s i (by omega), rdS_at _ i (by simp; omega), rdS_at _ i (by simp; omega)]
      simp only [List.getElem_set_self, List.set_set]
      congr 1
      · subst hI
        have hm : i < (marksS l.length a).length := by rw [marksS_length]; exact hi
        rw [List.take_succ_eq_append_getElem hm, List.append_assoc, List.set_append_right _ _ (by simp; omega)]
        congr 1
        have e1 : (List.take i (marksS l.length a)).length = i := by simp [marksS_length]; omega
        rw [e1, Nat.sub_self, List.drop_eq_getElem_cons hi, List.set_cons_zero]
        simp only [marksS, List.getElem_map, List.getElem_range]
        show _ = [_] ++ _
        rw [List.singleton_append]
        congr 2
        omega
      · omega)
    (by
      intro s hI
      refine evEnd fun k => ?_
      show laws_markJobS.l0 (k + 1) s (a + 3 * ((l.length : Nat) : Int)) ((l.length : Nat) : Int) = _
      have hsl : s.length = l.length := by rw [hI]; simp [marksS_length]
      simp only [laws_markJobS.l0]
      rw [if_neg (by omega), hI, List.take_of_length_le (by rw [marksS_length]; exact Nat.le_refl _)]
      simp)
  refine Ev.congr (fun k => ?_) key
  unfold laws_markJobS.f
  simp
end Go.Proofs.Ytkkgnjdepgmjlaa.X

/- AgedStarts answers as the reference does, for every input: the pure statement. -/
namespace Go.Proofs.Ytkkgnjdepgmjlaa.Pure
set_option linter.unusedSimpArgs false
set_option linter.unusedVariables false
set_option linter.unusedSimpArgs false
open Go.RowKit Go.Proofs.Ytkkgnjdepgmjlaa.X Go.Proofs.YtkkgnjdepgmjlaaW.PrintWords Go.Proofs.YtkkgnjdepgmjlaaW.PrintLast
set_option maxHeartbeats 1000000 in
theorem FnExactAgedStarts : ∀ (l0 : List S45) (a1 : Int), l0.length ≤ maxLen → (∀ x ∈ l0, (Lit.int .i64 x.f0).wf = true ∧ (Lit.int .i64 x.f1).wf = true ∧ (Lit.int .i64 x.f2).wf = true) → (Lit.int .i64 a1).wf = true → ∃ k, laws_FnExactAgedStarts.f k l0 a1 = some true := by
  intro l0 a1 h0_ h1_ h2_
  by_cases hs : 1048576 < l0.length
  · exact ⟨9, by simp [laws_FnExactAgedStarts.f, sz_big l0 (by omega) (by unfold maxLen at *; omega)]⟩
  have hm : l0.length ≤ 1048576 := by omega
  obtain ⟨⟨r, b⟩, hS, hI, hr⟩ := AgedStarts_same l0 a1 (by first | exact ⟨h0_, h1_, h2_, hm⟩ | trivial)
  obtain ⟨K1, e1⟩ := hS
  obtain ⟨K2, e2⟩ := hI
  dsimp only at hr
  obtain ⟨K3, e3⟩ := eqIntS_ev r r (by omega)
  obtain ⟨K4, e4⟩ := markIntS_ev r 1 (by omega) (by omega)
  obtain ⟨K5, e5⟩ := heldIntS_ev r.length 1 (by omega) (by omega)
  have htl_l0 := toL_length l0
  obtain ⟨K6, e6⟩ := markS_ev (toL l0) (1) (by omega) (by omega)
  have n_k : ¬ (1 + 3 * ((toL l0).length : Int) < 0) := by omega
  have n_r : ¬ (1 + (r.length : Int) < 0) := by omega
  have es_l0 := sz_small l0 (by omega)
  have ns_l0 : ¬ (1048576 - (l0.length : Int) < 0) := by omega
  obtain ⟨K7, e7⟩ := toS_ev l0 (by omega)
  -- structs
  obtain ⟨K8, e8⟩ := eqS_ev (toL l0) (by rw [toL_length]; omega)
  dsimp only at e1 e2 e3 e4 e5 e6 e7 e8
  refine ⟨K1 + K2 + K3 + K4 + K5 + K6 + K7 + K8 + 9, ?_⟩
  simp (disch := omega) only [laws_FnExactAgedStarts.f, e1, e2, e3, e4, e5, e6, e7, e8, es_l0, n_k, n_r, ns_l0, Option.bind_some, eq_self, decide_true, bne_self_eq_false, Bool.false_eq_true, Bool.not_true, Bool.not_false, ↓reduceIte]
  all_goals (try rw [laws_FnExactAgedStarts.j0.eq_2])
  all_goals (try simp (disch := omega) only [laws_FnExactAgedStarts.f, e1, e2, e3, e4, e5, e6, e7, e8, es_l0, n_k, n_r, ns_l0, Option.bind_some, eq_self, decide_true, bne_self_eq_false, Bool.false_eq_true, Bool.not_true, Bool.not_false, ↓reduceIte])
  all_goals (try rw [laws_FnExactAgedStarts.j1.eq_2])
  all_goals (try simp (disch := omega) only [laws_FnExactAgedStarts.f, e1, e2, e3, e4, e5, e6, e7, e8, es_l0, n_k, n_r, ns_l0, Option.bind_some, eq_self, decide_true, bne_self_eq_false, Bool.false_eq_true, Bool.not_true, Bool.not_false, ↓reduceIte])
  all_goals (try rw [laws_FnExactAgedStarts.j2.eq_2])
  all_goals (try simp (disch := omega) only [laws_FnExactAgedStarts.f, e1, e2, e3, e4, e5, e6, e7, e8, es_l0, n_k, n_r, ns_l0, Option.bind_some, eq_self, decide_true, bne_self_eq_false, Bool.false_eq_true, Bool.not_true, Bool.not_false, ↓reduceIte])
end Go.Proofs.Ytkkgnjdepgmjlaa.Pure

/- Plain lemmas for the rows: a slice of structs of three whole numbers that came in, opened to cells. -/
namespace Go.Proofs.Ytkkgnjdepgmjlaa.Rw
open Go.ChangeShapes Go.WideShapes Go.Deep Go.RowKit
section
variable {H : Type} {enc : TypeId × Value → H} {P : Program} {w : World} {base : Nat} {spare : Nat → Bool} {held : Bool}
def numAt (w : World) (a : Addr) : Int := match w.cell? a with
  | some (.int _ n) => n
  | _ => 0
theorem open_rows3 {t e : TypeId} {f0 f1 f2 : Field} {fuel : Nat} {A : Option Addr} {len cap : Nat} {x : DataW H × List MemPlace} (ht : P.underlying t = some (.slice e)) (he : P.underlying e = some (.struct #[f0, f1, f2]))
    (hone : oneCellFields P #[f0, f1, f2] = true) (hC : P.cellsOf e = 3) (h0 : P.underlying f0.type = some (.int .i64)) (h1 : P.underlying f1.type = some (.int .i64)) (h2 : P.underlying f2.type = some (.int .i64))
    (h : DataW.trod enc P w base spare held fuel t [.slice A len cap] = some x) :
    len ≤ cap ∧ len ≤ 9223372036854775807 ∧ ∃ l : List (Int × Int × Int), l.length = len ∧ (∀ p ∈ l, (Lit.int .i64 p.1).wf = true ∧ (Lit.int .i64 p.2.1).wf = true ∧ (Lit.int .i64 p.2.2).wf = true) ∧
      (0 < len → ∃ ad, A = some ad ∧ ∀ j p, l[j]? = some p → w.cell? (ad.add (j * 3 + 0)) = some (.int .i64 p.1) ∧ w.cell? (ad.add (j * 3 + 1)) = some (.int .i64 p.2.1) ∧ w.cell? (ad.add (j * 3 + 2)) = some (.int .i64 p.2.2)) := by
  rcases open_slice ht h with ⟨hcs, _⟩ | ⟨a, len', cap', m, n, D, Pl, hcs, hb, hl, hm, hmm, hx, hi⟩
  · injection hcs with hcs
    injection hcs with ha hl hc
    subst ha hl hc
    exact ⟨Nat.le_refl _, by omega, [], rfl, by simp, fun h => absurd h (by omega)⟩
  · injection hcs with hcs
    injection hcs with ha hl' hc'
    subst ha hl' hc'
    have hml : len ≤ m := by rw [hmm]; split <;> omega
    have key : ∀ i, i < len → ∃ n0 n1 n2 : Int, w.cell? (a.add (i * 3 + 0)) = some (.int .i64 n0) ∧ w.cell? (a.add (i * 3 + 1)) = some (.int .i64 n1) ∧ w.cell? (a.add (i * 3 + 2)) = some (.int .i64 n2) ∧
        (Lit.int .i64 n0).wf = true ∧ (Lit.int .i64 n1).wf = true ∧ (Lit.int .i64 n2).wf = true := by
      intro i hil
      obtain ⟨cs', hc, ht'⟩ := hi i (by omega)
      rw [hC] at hc
      obtain ⟨ys, n', hn', hy, hlen, hyl, hf⟩ := DataW.trod_struct he ht'
      obtain ⟨_, hcl, hat⟩ := World.cells?_some hc
      have one : ∀ (j : Nat) (f : Field), j < 3 → (#[f0, f1, f2] : Array Field)[j]? = some f → P.underlying f.type = some (.int .i64) → ∃ n0 : Int, w.cell? (a.add (i * 3 + j)) = some (.int .i64 n0) ∧ (Lit.int .i64 n0).wf = true := by
        intro j f hj3 hj hu
        obtain ⟨ho, hk⟩ := hone_of hone j f hj
        have hcell := hat j hj3
        have hv : cs'[j]? = some (cs'[j]'(by omega)) := List.getElem?_eq_getElem (by omega)
        have g1 := hf j f hj
        rw [ho, hk] at g1
        have hone' : (cs'.drop j).take 1 = [cs'[j]'(by omega)] := by
          rw [List.drop_eq_getElem_cons (by omega)]
          rfl
        rw [hone'] at g1
        have hys : ys[j]? = some (ys[j]'(by simp at hyl; omega)) := List.getElem?_eq_getElem (by simp at hyl; omega)
        obtain ⟨n0, e0, _, wf0⟩ := DataW.trod_int hu (g1.trans hys)
        refine ⟨n0, ?_, wf0⟩
        rw [← Go.Deep.add_add, hcell, hv]
        injection e0 with e0
        rw [e0]
      obtain ⟨n0, c0, w0⟩ := one 0 f0 (by omega) rfl h0
      obtain ⟨n1, c1, w1⟩ := one 1 f1 (by omega) rfl h1
      obtain ⟨n2, c2, w2⟩ := one 2 f2 (by omega) rfl h2
      exact ⟨n0, n1, n2, c0, c1, c2, w0, w1, w2⟩
    refine ⟨hl, by unfold maxLen at hm; omega, (List.range len).map (fun i => (numAt w (a.add (i * 3 + 0)), numAt w (a.add (i * 3 + 1)), numAt w (a.add (i * 3 + 2)))), by simp, ?_, fun _ => ⟨a, rfl, ?_⟩⟩
    · intro p hp
      obtain ⟨i, hir, rfl⟩ := List.mem_map.1 hp
      obtain ⟨n0, n1, n2, c0, c1, c2, w0, w1, w2⟩ := key i (List.mem_range.1 hir)
      simp only [numAt, c0, c1, c2]
      exact ⟨w0, w1, w2⟩
    · intro j p hj
      obtain ⟨hjl, hp⟩ := List.getElem?_eq_some_iff.1 hj
      have hjl' : j < len := by simpa using hjl
      obtain ⟨n0, n1, n2, c0, c1, c2, w0, w1, w2⟩ := key j hjl'
      have : p = (n0, n1, n2) := by
        rw [← hp]
        simp only [List.getElem_map, List.getElem_range, numAt, c0, c1, c2]
      subst this
      exact ⟨c0, c1, c2⟩
end
end Go.Proofs.Ytkkgnjdepgmjlaa.Rw
