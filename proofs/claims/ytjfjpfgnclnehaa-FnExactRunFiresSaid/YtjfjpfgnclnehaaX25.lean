/- What the functions of the program come to, and that they do: written by this session's program wip/xprint.py out of the translation; parts named extern are typed by hand. -/
import Derived.Test.YtjfjpfgnclnehaaX0
import Derived.Test.YtjfjpfgnclnehaaX2
import Derived.Test.YtjfjpfgnclnehaaX4
import Derived.Test.YtjfjpfgnclnehaaX15
import Derived.Test.YtjfjpfgnclnehaaX21
import Derived.Test.YtjfjpfgnclnehaaX22
import Derived.Test.YtjfjpfgnclnehaaX23
import Derived.Test.YtjfjpfgnclnehaaX24
namespace Go.Proofs.Ytjfjpfgnclnehaa.X
open Go.RowKit Go.Proofs.YtjfjpfgnclnehaaW.PrintWords Go.Proofs.YtjfjpfgnclnehaaW.PrintLast Go.Proofs.YtjfjpfgnclnehaaW.PrintMore
attribute [local go_sem] max2_int min2_int max_two min_two max_three min_three max_four min_four   -- for this text's walks alone
set_option linter.unusedVariables false
set_option linter.unusedSimpArgs false

/-! ### laws_FnExactRunFires: function 8 -/
/- EXTERN, by wip/lawrows.py: the law, along its one way. -/
def laws_FnExactRunFires.f (k : Nat) (l0 : List Int) (a1 : Int) (l2 : List Int) : Option Bool := if (l0.length : Int) > 1048576 then some true else if (l2.length : Int) > 1048576 then some true else (laws_toIntS.f k l0).bind fun c0_ => (laws_toIntS.f k l2).bind fun c2_ => (spec_RunFires.f k c0_ a1 c2_).bind fun s_ => (impl_RunFires.f k c0_ a1 c2_).bind fun g_ => (laws_eqIntSS.f k g_.1 s_.1).bind fun q_ => (laws_eqIntS.f k c0_ c0_).bind fun q0_ => (laws_eqIntS.f k c2_ c2_).bind fun q2_ => (laws_markIntS.f k c0_ 1).bind fun m0_ => (laws_markIntS.f k c2_ m0_.1).bind fun m2_ => (laws_markIntSS.f k g_.1 1).bind fun mg_ => (laws_heldIntSS.f k mg_.2 1).bind fun hq_ => if q_ = true ∧ q0_ = true ∧ q2_ = true ∧ g_.2 = s_.2 ∧ 0 ≤ m2_.1 ∧ 0 ≤ hq_ ∧ hq_ = mg_.1 then some true else none
theorem laws_FnExactRunFires_R_iv {α : Type} {d : Kd α} {e base : Nat} {ok : Nat → Prop} {W w1 : World} {v : Value} {xs : List α} (h : Kd.R d e w1 W.heap.size ok v xs) (hb : base ≤ W.heap.size) : Kd.R d e w1 base (fun k => W.heap.size ≤ k ∧ k < w1.heap.size) v xs := Kd.R_lower (Kd.R_mono (Kd.R_bound h) (fun k hk => ⟨hk.2.1, hk.2.2.1⟩)) hb
theorem laws_FnExactRunFires_S_iv {α : Type} {d : Kd α} {e base : Nat} {ok : Nat → Prop} {W w1 : World} {v : Value} {xs : List α} (h : Kd.S d e w1 W.heap.size ok v xs) (hb : base ≤ W.heap.size) : Kd.S d e w1 base (fun k => W.heap.size ≤ k ∧ k < w1.heap.size) v xs := Kd.S_lower (Kd.S_mono (Kd.S_bound h) (fun k hk => ⟨hk.2.1, hk.2.2.1⟩)) hb
theorem laws_FnExactRunFires_N_iv {α : Type} {d : Kd α} {e base : Nat} {W w1 : World} {v : Value} {xs : List α} (h : Kd.N d e w1 W.heap.size (fun k => W.heap.size ≤ k) v xs) (hb : base ≤ W.heap.size) : Kd.N d e w1 base (fun k => W.heap.size ≤ k ∧ k < w1.heap.size) v xs := Kd.N_lower (Kd.N_mono (Kd.N_bound h) (fun k hk => ⟨hk.1, hk.2⟩)) hb
set_option maxHeartbeats 8000000 in
set_option maxRecDepth 100000 in
theorem laws_FnExactRunFires.calls (k : Nat) (A0 : Option Addr) (c0 : Nat) (l0 : List Int) (a1 : Int) (A2 : Option Addr) (c2 : Nat) (l2 : List Int) (r : Bool) (w : World) (hr0 : Kd.C (Kd.int .i64) w A0 l0.length l0) (hc0 : l0.length ≤ c0) (hr2 : Kd.C (Kd.int .i64) w A2 l2.length l2) (hc2 : l2.length ≤ c2) (h : laws_FnExactRunFires.f k l0 a1 l2 = some r) :
    Calls Try.prog 8 #[.slice A0 l0.length c0, .int .i64 a1, .slice A2 l2.length c2] w fun e w' => e = .returned (.bool r) ∧ Below w.heap.size w w' := by
  have HR0 := Aside0.mk hr0
  have HC0 := Aside0.mk hc0
  clear hr0 hc0
  have HR2 := Aside0.mk hr2
  have HC2 := Aside0.mk hc2
  clear hr2 hc2
  have HB := Aside0.mk (Below.refl w.heap.size w)
  unfold laws_FnExactRunFires.f at h
  by_cases c0b : (l0.length : Int) > 1048576
  · rw [if_pos c0b] at h
    have d00 : decide (1048576 < (l0.length : Int)) = true := decide_eq_true c0b
    have d01 : decide (1048576 < l0.length) = true := decide_eq_true (by omega)
    clear c0b
    obtain rfl := Option.some.inj h
    go_enter Try.func8, Try.ntmps8
    go_wp2
    go_ret
    exact ⟨rfl, (by repeat (first | (with_reducible first | exact HB.out | apply below_alloc | apply pw_below_drewN | apply below_drew1) | exact HB.out))⟩
  · rw [if_neg c0b] at h
    have d00 : decide (1048576 < (l0.length : Int)) = false := decide_eq_false c0b
    have d01 : decide (1048576 < l0.length) = false := decide_eq_false (by omega)
    clear c0b
    by_cases c2b : (l2.length : Int) > 1048576
    · rw [if_pos c2b] at h
      have d20 : decide (1048576 < (l2.length : Int)) = true := decide_eq_true c2b
      have d21 : decide (1048576 < l2.length) = true := decide_eq_true (by omega)
      clear c2b
      obtain rfl := Option.some.inj h
      go_enter Try.func8, Try.ntmps8
      go_wp2
      go_ret
      exact ⟨rfl, (by repeat (first | (with_reducible first | exact HB.out | apply below_alloc | apply pw_below_drewN | apply below_drew1) | exact HB.out))⟩
    · rw [if_neg c2b] at h
      have d20 : decide (1048576 < (l2.length : Int)) = false := decide_eq_false c2b
      have d21 : decide (1048576 < l2.length) = false := decide_eq_false (by omega)
      clear c2b
      replace h := Option.bind_eq_some_iff.mp h
      obtain ⟨c0_, E00, h⟩ := h
      have E_c0_ := Aside0.mk E00
      clear E00
      replace h := Option.bind_eq_some_iff.mp h
      obtain ⟨c2_, E10, h⟩ := h
      have E_c2_ := Aside0.mk E10
      clear E10
      replace h := Option.bind_eq_some_iff.mp h
      obtain ⟨⟨s1, s2⟩, E20, h⟩ := h
      have E_s_ := Aside0.mk E20
      clear E20
      replace h := Option.bind_eq_some_iff.mp h
      obtain ⟨⟨g1, g2⟩, E30, h⟩ := h
      have E_g_ := Aside0.mk E30
      clear E30
      replace h := Option.bind_eq_some_iff.mp h
      obtain ⟨q_, E40, h⟩ := h
      have E_q_ := Aside0.mk E40
      clear E40
      replace h := Option.bind_eq_some_iff.mp h
      obtain ⟨q0_, E50, h⟩ := h
      have E_q0_ := Aside0.mk E50
      clear E50
      replace h := Option.bind_eq_some_iff.mp h
      obtain ⟨q2_, E60, h⟩ := h
      have E_q2_ := Aside0.mk E60
      clear E60
      replace h := Option.bind_eq_some_iff.mp h
      obtain ⟨⟨m0a, m0b⟩, E70, h⟩ := h
      have E_m0_ := Aside0.mk E70
      clear E70
      replace h := Option.bind_eq_some_iff.mp h
      obtain ⟨⟨m2a, m2b⟩, E80, h⟩ := h
      have E_m2_ := Aside0.mk E80
      clear E80
      replace h := Option.bind_eq_some_iff.mp h
      obtain ⟨⟨mg1, mg2⟩, E90, h⟩ := h
      have E_mg_ := Aside0.mk E90
      clear E90
      replace h := Option.bind_eq_some_iff.mp h
      obtain ⟨hq_, E100, h⟩ := h
      have E_hq_ := Aside0.mk E100
      clear E100
      dsimp only at h
      split at h
      case isFalse => cases h
      rename_i hall
      obtain rfl := Option.some.inj h
      clear h
      obtain ⟨rfl, rfl, rfl, rfl, hm, hq0, hq1⟩ := hall
      have t1 : decide (m2a < 0) = false := decide_eq_false (by omega)
      have t2 : decide (hq_ < 0) = false := decide_eq_false (by omega)
      have t3 : (hq_ == mg1) = true := beq_iff_eq.mpr hq1
      have t4 : (hq_ != mg1) = false := bne_eq_false_iff_eq.mpr hq1
      clear hm hq0 hq1
      go_enter Try.func8, Try.ntmps8
      go_wp2_with (first | ((with_reducible refine gate_callee (f := 11) rfl ?_); refine goesL_ (some 26) rfl rfl Try.func11 (by kernel_rfl) rfl #[.slice A0 l0.length c0] rfl (by (try simp only [List.map_toArray, List.map_cons, List.map_nil]); first | done | rfl) ?_; (with_reducible refine (laws_toIntS.calls k _ _ l0 c0_ _ ?side1 ?side2 E_c0_.out).mono ?_); (case side1 => repeat (first | exact (Kd.C_below HR0.out (by repeat (first | (with_reducible first | exact HB.out | apply below_alloc | apply pw_below_drewN | apply below_drew1) | exact HB.out))) | (with_reducible refine Kd.C_alloc ?_ _) | (with_reducible refine Kd.C_drewN ?_ _) | (with_reducible refine Kd.C_drew ?_))); (case side2 => exact HC0.out); rintro e wz1 ⟨v26, rfl, ho0, hb⟩; refine ⟨_, rfl, ?_⟩; have Zwz1 := Aside0.mk (show w.heap.size ≤ wz1.heap.size from hb.size); have FA0 := Aside0.mk (show Kd.R (Kd.int .i64) 3 wz1 w.heap.size (fun k_ => w.heap.size ≤ k_ ∧ k_ < wz1.heap.size) v26 c0_ from laws_FnExactRunFires_R_iv ho0 (below_size (by repeat (first | (with_reducible first | exact HB.out | apply below_alloc | apply pw_below_drewN | apply below_drew1) | exact HB.out)))); have n_ := Aside0.mk (below_step (by repeat (first | (with_reducible first | exact HB.out | apply below_alloc | apply pw_below_drewN | apply below_drew1) | exact HB.out)) hb); clear HB; have HB := n_; clear n_; clear hb ho0; obtain ⟨A_FA0, cc_FA0, eo_⟩ := Kd.R_slice FA0.out; subst eo_) | ((with_reducible refine gate_callee (f := 11) rfl ?_); refine goesL_ (some 29) rfl rfl Try.func11 (by kernel_rfl) rfl #[.slice A2 l2.length c2] rfl (by (try simp only [List.map_toArray, List.map_cons, List.map_nil]); first | done | rfl) ?_; (with_reducible refine (laws_toIntS.calls k _ _ l2 c2_ _ ?side1 ?side2 E_c2_.out).mono ?_); (case side1 => repeat (first | exact (Kd.C_below HR2.out (by repeat (first | (with_reducible first | exact HB.out | apply below_alloc | apply pw_below_drewN | apply below_drew1) | exact HB.out))) | (with_reducible refine Kd.C_alloc ?_ _) | (with_reducible refine Kd.C_drewN ?_ _) | (with_reducible refine Kd.C_drew ?_))); (case side2 => exact HC2.out); rintro e wz2 ⟨v29, rfl, ho0, hb⟩; refine ⟨_, rfl, ?_⟩; have n_ := Aside0.mk (Kd.R_below (by (with_reducible repeat (first | apply Kd.R_alloc | apply Kd.R_drewN | apply Kd.R_drew)); exact FA0.out) hb); clear FA0; have FA0 := n_; clear n_; have Zwz2 := Aside0.mk (show wz1.heap.size ≤ wz2.heap.size from hb.size); have FA2 := Aside0.mk (show Kd.R (Kd.int .i64) 3 wz2 w.heap.size (fun k_ => wz1.heap.size ≤ k_ ∧ k_ < wz2.heap.size) v29 c2_ from laws_FnExactRunFires_R_iv ho0 (below_size (by repeat (first | (with_reducible first | exact HB.out | apply below_alloc | apply pw_below_drewN | apply below_drew1) | exact HB.out)))); have n_ := Aside0.mk (below_step (by repeat (first | (with_reducible first | exact HB.out | apply below_alloc | apply pw_below_drewN | apply below_drew1) | exact HB.out)) hb); clear HB; have HB := n_; clear n_; clear hb ho0; obtain ⟨A_FA2, cc_FA2, eo_⟩ := Kd.R_slice FA2.out; subst eo_) | ((with_reducible refine gate_callee (f := 24) rfl ?_); refine goesL_ (some 30) rfl rfl Try.func24 (by kernel_rfl) rfl #[.slice A_FA0 c0_.length cc_FA0, .int .i64 a1, .slice A_FA2 c2_.length cc_FA2] rfl (by (try simp only [List.map_toArray, List.map_cons, List.map_nil]); first | done | rfl) ?_; (with_reducible refine (spec_RunFires.calls k _ _ c0_ a1 _ _ c2_ s1 g2 _ ?side1 ?side2 ?side3 ?side4 E_s_.out).mono ?_); (case side1 => repeat (first | exact (Kd.R_reads' FA0.out).2.2 | (with_reducible refine Kd.C_alloc ?_ _) | (with_reducible refine Kd.C_drewN ?_ _) | (with_reducible refine Kd.C_drew ?_))); (case side2 => exact (Kd.R_reads' FA0.out).2.1); (case side3 => repeat (first | exact (Kd.R_reads' FA2.out).2.2 | (with_reducible refine Kd.C_alloc ?_ _) | (with_reducible refine Kd.C_drewN ?_ _) | (with_reducible refine Kd.C_drew ?_))); (case side4 => exact (Kd.R_reads' FA2.out).2.1); rintro e wz3 ⟨v30, rfl, ho0, hb⟩; refine ⟨_, rfl, ?_⟩; clear FA0; clear FA2; have Zwz3 := Aside0.mk (show wz2.heap.size ≤ wz3.heap.size from hb.size); have FS := Aside0.mk (show Kd.N (Kd.slice 3 (Kd.int .i64)) 22 wz3 w.heap.size (fun k_ => wz2.heap.size ≤ k_ ∧ k_ < wz3.heap.size) v30 s1 from laws_FnExactRunFires_N_iv ho0 (below_size (by repeat (first | (with_reducible first | exact HB.out | apply below_alloc | apply pw_below_drewN | apply below_drew1) | exact HB.out)))); have n_ := Aside0.mk (below_step (by repeat (first | (with_reducible first | exact HB.out | apply below_alloc | apply pw_below_drewN | apply below_drew1) | exact HB.out)) hb); clear HB; have HB := n_; clear n_; clear hb ho0; obtain ⟨A_FS, cc_FS, eo_⟩ := Kd.N_slice FS.out; subst eo_) | ((with_reducible refine gate_callee (f := 11) rfl ?_); refine goesL_ (some 34) rfl rfl Try.func11 (by kernel_rfl) rfl #[.slice A0 l0.length c0] rfl (by (try simp only [List.map_toArray, List.map_cons, List.map_nil]); first | done | rfl) ?_; (with_reducible refine (laws_toIntS.calls k _ _ l0 c0_ _ ?side1 ?side2 E_c0_.out).mono ?_); (case side1 => repeat (first | exact (Kd.C_below HR0.out (by repeat (first | (with_reducible first | exact HB.out | apply below_alloc | apply pw_below_drewN | apply below_drew1) | exact HB.out))) | (with_reducible refine Kd.C_alloc ?_ _) | (with_reducible refine Kd.C_drewN ?_ _) | (with_reducible refine Kd.C_drew ?_))); (case side2 => exact HC0.out); rintro e wz4 ⟨v34, rfl, ho0, hb⟩; refine ⟨_, rfl, ?_⟩; have n_ := Aside0.mk (Kd.N_below (by (with_reducible repeat (first | apply Kd.N_alloc | apply Kd.N_drewN | apply Kd.N_drew)); exact FS.out) hb); clear FS; have FS := n_; clear n_; have Zwz4 := Aside0.mk (show wz3.heap.size ≤ wz4.heap.size from hb.size); have FX0 := Aside0.mk (show Kd.R (Kd.int .i64) 3 wz4 w.heap.size (fun k_ => wz3.heap.size ≤ k_ ∧ k_ < wz4.heap.size) v34 c0_ from laws_FnExactRunFires_R_iv ho0 (below_size (by repeat (first | (with_reducible first | exact HB.out | apply below_alloc | apply pw_below_drewN | apply below_drew1) | exact HB.out)))); have n_ := Aside0.mk (below_step (by repeat (first | (with_reducible first | exact HB.out | apply below_alloc | apply pw_below_drewN | apply below_drew1) | exact HB.out)) hb); clear HB; have HB := n_; clear n_; clear hb ho0; obtain ⟨A_FX0, cc_FX0, eo_⟩ := Kd.R_slice FX0.out; subst eo_) | ((with_reducible refine gate_callee (f := 11) rfl ?_); refine goesL_ (some 36) rfl rfl Try.func11 (by kernel_rfl) rfl #[.slice A2 l2.length c2] rfl (by (try simp only [List.map_toArray, List.map_cons, List.map_nil]); first | done | rfl) ?_; (with_reducible refine (laws_toIntS.calls k _ _ l2 c2_ _ ?side1 ?side2 E_c2_.out).mono ?_); (case side1 => repeat (first | exact (Kd.C_below HR2.out (by repeat (first | (with_reducible first | exact HB.out | apply below_alloc | apply pw_below_drewN | apply below_drew1) | exact HB.out))) | (with_reducible refine Kd.C_alloc ?_ _) | (with_reducible refine Kd.C_drewN ?_ _) | (with_reducible refine Kd.C_drew ?_))); (case side2 => exact HC2.out); rintro e wz5 ⟨v36, rfl, ho0, hb⟩; refine ⟨_, rfl, ?_⟩; have n_ := Aside0.mk (Kd.N_below (by (with_reducible repeat (first | apply Kd.N_alloc | apply Kd.N_drewN | apply Kd.N_drew)); exact FS.out) hb); clear FS; have FS := n_; clear n_; have n_ := Aside0.mk (Kd.R_below (by (with_reducible repeat (first | apply Kd.R_alloc | apply Kd.R_drewN | apply Kd.R_drew)); exact FX0.out) hb); clear FX0; have FX0 := n_; clear n_; have Zwz5 := Aside0.mk (show wz4.heap.size ≤ wz5.heap.size from hb.size); have FX2 := Aside0.mk (show Kd.R (Kd.int .i64) 3 wz5 w.heap.size (fun k_ => wz4.heap.size ≤ k_ ∧ k_ < wz5.heap.size) v36 c2_ from laws_FnExactRunFires_R_iv ho0 (below_size (by repeat (first | (with_reducible first | exact HB.out | apply below_alloc | apply pw_below_drewN | apply below_drew1) | exact HB.out)))); have n_ := Aside0.mk (below_step (by repeat (first | (with_reducible first | exact HB.out | apply below_alloc | apply pw_below_drewN | apply below_drew1) | exact HB.out)) hb); clear HB; have HB := n_; clear n_; clear hb ho0; obtain ⟨A_FX2, cc_FX2, eo_⟩ := Kd.R_slice FX2.out; subst eo_) | ((with_reducible refine gate_callee (f := 25) rfl ?_); refine goesL_ (some 41) rfl rfl Try.func25 (by kernel_rfl) rfl #[.slice A_FX0 c0_.length cc_FX0, .int .i64 a1, .slice A_FX2 c2_.length cc_FX2] rfl (by (try simp only [List.map_toArray, List.map_cons, List.map_nil]); first | done | rfl) ?_; (with_reducible refine (impl_RunFires.calls k (fun k_ => some k_ = (.slice A_FX0 c0_.length cc_FX0 : Value).ownBlock) _ _ c0_ a1 _ _ c2_ g1 g2 _ ?side1 ?side2 ?side3 E_g_.out).mono ?_); (case side1 => exact Kd.R_V (Kd.R_tight rfl (by (with_reducible repeat (first | apply Kd.R_alloc | apply Kd.R_drewN | apply Kd.R_drew)); exact FX0.out))); (case side2 => repeat (first | exact (Kd.R_reads' FX2.out).2.2 | (with_reducible refine Kd.C_alloc ?_ _) | (with_reducible refine Kd.C_drewN ?_ _) | (with_reducible refine Kd.C_drew ?_))); (case side3 => exact (Kd.R_reads' FX2.out).2.1); rintro e wz6 ⟨v41, rfl, ho0, hb⟩; refine ⟨_, rfl, ?_⟩; have n_ := Aside0.mk (Kd.N_below (by (with_reducible repeat (first | apply Kd.N_alloc | apply Kd.N_drewN | apply Kd.N_drew)); exact FS.out) hb); clear FS; have FS := n_; clear n_; have n_ := Aside0.mk (Kd.R_below (by (with_reducible repeat (first | apply Kd.R_alloc | apply Kd.R_drewN | apply Kd.R_drew)); exact FX0.out) hb); clear FX0; have FX0 := n_; clear n_; have n_ := Aside0.mk (Kd.R_below (by (with_reducible repeat (first | apply Kd.R_alloc | apply Kd.R_drewN | apply Kd.R_drew)); exact FX2.out) hb); clear FX2; have FX2 := n_; clear n_; have Zwz6 := Aside0.mk (show wz5.heap.size ≤ wz6.heap.size from hb.size); have FG := Aside0.mk (show Kd.S (Kd.slice 3 (Kd.int .i64)) 22 wz6 w.heap.size (fun k_ => wz5.heap.size ≤ k_ ∧ k_ < wz6.heap.size) v41 g1 from laws_FnExactRunFires_S_iv ho0 (below_size (by repeat (first | (with_reducible first | exact HB.out | apply below_alloc | apply pw_below_drewN | apply below_drew1) | exact HB.out)))); have n_ := Aside0.mk (below_step (by repeat (first | (with_reducible first | exact HB.out | apply below_alloc | apply pw_below_drewN | apply below_drew1) | exact HB.out)) hb); clear HB; have HB := n_; clear n_; clear hb ho0; obtain ⟨A_FG, cc_FG, eo_⟩ := Kd.S_slice FG.out; subst eo_) | ((with_reducible refine gate_callee (f := 26) rfl ?_); refine goesL_ (some 46) rfl rfl Try.func26 (by kernel_rfl) rfl #[.slice A_FG g1.length cc_FG, .slice A_FS s1.length cc_FS] rfl (by (try simp only [List.map_toArray, List.map_cons, List.map_nil]); first | done | rfl) ?_; (with_reducible refine (laws_eqIntSS.calls k _ _ g1 _ _ s1 true _ ?side1 ?side2 ?side3 ?side4 E_q_.out).mono ?_); (case side1 => repeat (first | exact (Kd.S_reads' FG.out).2.2 | (with_reducible refine Kd.C_alloc ?_ _) | (with_reducible refine Kd.C_drewN ?_ _) | (with_reducible refine Kd.C_drew ?_))); (case side2 => exact (Kd.S_reads' FG.out).2.1); (case side3 => repeat (first | exact (Kd.N_reads' FS.out).2.2 | (with_reducible refine Kd.C_alloc ?_ _) | (with_reducible refine Kd.C_drewN ?_ _) | (with_reducible refine Kd.C_drew ?_))); (case side4 => exact (Kd.N_reads' FS.out).2.1); rintro e w' ⟨rfl, ⟨nd, rfl⟩⟩; refine ⟨_, rfl, ?_⟩) | ((with_reducible refine gate_callee (f := 11) rfl ?_); refine goesL_ (some 55) rfl rfl Try.func11 (by kernel_rfl) rfl #[.slice A0 l0.length c0] rfl (by (try simp only [List.map_toArray, List.map_cons, List.map_nil]); first | done | rfl) ?_; (with_reducible refine (laws_toIntS.calls k _ _ l0 c0_ _ ?side1 ?side2 E_c0_.out).mono ?_); (case side1 => repeat (first | exact (Kd.C_below HR0.out (by repeat (first | (with_reducible first | exact HB.out | apply below_alloc | apply pw_below_drewN | apply below_drew1) | exact HB.out))) | (with_reducible refine Kd.C_alloc ?_ _) | (with_reducible refine Kd.C_drewN ?_ _) | (with_reducible refine Kd.C_drew ?_))); (case side2 => exact HC0.out); rintro e wz7 ⟨v55, rfl, ho0, hb⟩; refine ⟨_, rfl, ?_⟩; have n_ := Aside0.mk (Kd.N_below (by (with_reducible repeat (first | apply Kd.N_alloc | apply Kd.N_drewN | apply Kd.N_drew)); exact FS.out) hb); clear FS; have FS := n_; clear n_; have n_ := Aside0.mk (Kd.R_below (by (with_reducible repeat (first | apply Kd.R_alloc | apply Kd.R_drewN | apply Kd.R_drew)); exact FX0.out) hb); clear FX0; have FX0 := n_; clear n_; have n_ := Aside0.mk (Kd.R_below (by (with_reducible repeat (first | apply Kd.R_alloc | apply Kd.R_drewN | apply Kd.R_drew)); exact FX2.out) hb); clear FX2; have FX2 := n_; clear n_; have n_ := Aside0.mk (Kd.S_below (by (with_reducible repeat (first | apply Kd.S_alloc | apply Kd.S_drewN | apply Kd.S_drew)); exact FG.out) hb); clear FG; have FG := n_; clear n_; have Zwz7 := Aside0.mk (show wz6.heap.size ≤ wz7.heap.size from hb.size); have FY0 := Aside0.mk (show Kd.R (Kd.int .i64) 3 wz7 w.heap.size (fun k_ => wz6.heap.size ≤ k_ ∧ k_ < wz7.heap.size) v55 c0_ from laws_FnExactRunFires_R_iv ho0 (below_size (by repeat (first | (with_reducible first | exact HB.out | apply below_alloc | apply pw_below_drewN | apply below_drew1) | exact HB.out)))); have n_ := Aside0.mk (below_step (by repeat (first | (with_reducible first | exact HB.out | apply below_alloc | apply pw_below_drewN | apply below_drew1) | exact HB.out)) hb); clear HB; have HB := n_; clear n_; clear hb ho0; obtain ⟨A_FY0, cc_FY0, eo_⟩ := Kd.R_slice FY0.out; subst eo_) | ((with_reducible refine gate_callee (f := 13) rfl ?_); refine goesL_ (some 56) rfl rfl Try.func13 (by kernel_rfl) rfl #[.slice A_FX0 c0_.length cc_FX0, .slice A_FY0 c0_.length cc_FY0] rfl (by (try simp only [List.map_toArray, List.map_cons, List.map_nil]); first | done | rfl) ?_; (with_reducible refine (laws_eqIntS.calls k _ _ c0_ _ _ c0_ true _ ?side1 ?side2 ?side3 ?side4 E_q0_.out).mono ?_); (case side1 => repeat (first | exact (Kd.R_reads' FX0.out).2.2 | (with_reducible refine Kd.C_alloc ?_ _) | (with_reducible refine Kd.C_drewN ?_ _) | (with_reducible refine Kd.C_drew ?_))); (case side2 => exact (Kd.R_reads' FX0.out).2.1); (case side3 => repeat (first | exact (Kd.R_reads' FY0.out).2.2 | (with_reducible refine Kd.C_alloc ?_ _) | (with_reducible refine Kd.C_drewN ?_ _) | (with_reducible refine Kd.C_drew ?_))); (case side4 => exact (Kd.R_reads' FY0.out).2.1); rintro e w' ⟨rfl, ⟨nd, rfl⟩⟩; refine ⟨_, rfl, ?_⟩) | ((with_reducible refine gate_callee (f := 11) rfl ?_); refine goesL_ (some 60) rfl rfl Try.func11 (by kernel_rfl) rfl #[.slice A2 l2.length c2] rfl (by (try simp only [List.map_toArray, List.map_cons, List.map_nil]); first | done | rfl) ?_; (with_reducible refine (laws_toIntS.calls k _ _ l2 c2_ _ ?side1 ?side2 E_c2_.out).mono ?_); (case side1 => repeat (first | exact (Kd.C_below HR2.out (by repeat (first | (with_reducible first | exact HB.out | apply below_alloc | apply pw_below_drewN | apply below_drew1) | exact HB.out))) | (with_reducible refine Kd.C_alloc ?_ _) | (with_reducible refine Kd.C_drewN ?_ _) | (with_reducible refine Kd.C_drew ?_))); (case side2 => exact HC2.out); rintro e wz8 ⟨v60, rfl, ho0, hb⟩; refine ⟨_, rfl, ?_⟩; have n_ := Aside0.mk (Kd.N_below (by (with_reducible repeat (first | apply Kd.N_alloc | apply Kd.N_drewN | apply Kd.N_drew)); exact FS.out) hb); clear FS; have FS := n_; clear n_; have n_ := Aside0.mk (Kd.R_below (by (with_reducible repeat (first | apply Kd.R_alloc | apply Kd.R_drewN | apply Kd.R_drew)); exact FX0.out) hb); clear FX0; have FX0 := n_; clear n_; have n_ := Aside0.mk (Kd.R_below (by (with_reducible repeat (first | apply Kd.R_alloc | apply Kd.R_drewN | apply Kd.R_drew)); exact FX2.out) hb); clear FX2; have FX2 := n_; clear n_; have n_ := Aside0.mk (Kd.S_below (by (with_reducible repeat (first | apply Kd.S_alloc | apply Kd.S_drewN | apply Kd.S_drew)); exact FG.out) hb); clear FG; have FG := n_; clear n_; have n_ := Aside0.mk (Kd.R_below (by (with_reducible repeat (first | apply Kd.R_alloc | apply Kd.R_drewN | apply Kd.R_drew)); exact FY0.out) hb); clear FY0; have FY0 := n_; clear n_; have Zwz8 := Aside0.mk (show wz7.heap.size ≤ wz8.heap.size from hb.size); have FY2 := Aside0.mk (show Kd.R (Kd.int .i64) 3 wz8 w.heap.size (fun k_ => wz7.heap.size ≤ k_ ∧ k_ < wz8.heap.size) v60 c2_ from laws_FnExactRunFires_R_iv ho0 (below_size (by repeat (first | (with_reducible first | exact HB.out | apply below_alloc | apply pw_below_drewN | apply below_drew1) | exact HB.out)))); have n_ := Aside0.mk (below_step (by repeat (first | (with_reducible first | exact HB.out | apply below_alloc | apply pw_below_drewN | apply below_drew1) | exact HB.out)) hb); clear HB; have HB := n_; clear n_; clear hb ho0; obtain ⟨A_FY2, cc_FY2, eo_⟩ := Kd.R_slice FY2.out; subst eo_) | ((with_reducible refine gate_callee (f := 13) rfl ?_); refine goesL_ (some 61) rfl rfl Try.func13 (by kernel_rfl) rfl #[.slice A_FX2 c2_.length cc_FX2, .slice A_FY2 c2_.length cc_FY2] rfl (by (try simp only [List.map_toArray, List.map_cons, List.map_nil]); first | done | rfl) ?_; (with_reducible refine (laws_eqIntS.calls k _ _ c2_ _ _ c2_ true _ ?side1 ?side2 ?side3 ?side4 E_q2_.out).mono ?_); (case side1 => repeat (first | exact (Kd.R_reads' FX2.out).2.2 | (with_reducible refine Kd.C_alloc ?_ _) | (with_reducible refine Kd.C_drewN ?_ _) | (with_reducible refine Kd.C_drew ?_))); (case side2 => exact (Kd.R_reads' FX2.out).2.1); (case side3 => repeat (first | exact (Kd.R_reads' FY2.out).2.2 | (with_reducible refine Kd.C_alloc ?_ _) | (with_reducible refine Kd.C_drewN ?_ _) | (with_reducible refine Kd.C_drew ?_))); (case side4 => exact (Kd.R_reads' FY2.out).2.1); rintro e w' ⟨rfl, ⟨nd, rfl⟩⟩; refine ⟨_, rfl, ?_⟩) | ((with_reducible refine gate_callee (f := 20) rfl ?_); refine goesL_ (some 65) rfl rfl Try.func20 (by kernel_rfl) rfl #[.slice A_FX0 c0_.length cc_FX0, .int .i64 1] rfl (by (try simp only [List.map_toArray, List.map_cons, List.map_nil]); first | done | rfl) ?_; (with_reducible refine (laws_markIntS.calls k (fun k_ => some k_ = (.slice A_FX0 c0_.length cc_FX0 : Value).ownBlock) (.slice A_FX0 c0_.length cc_FX0) c0_ 1 m0a m0b w _ ?side1 ?side2 E_m0_.out).mono ?_); (case side1 => exact (by repeat (first | (with_reducible first | exact HB.out | apply below_alloc | apply pw_below_drewN | apply below_drew1) | exact HB.out))); (case side2 => exact Kd.R_tight rfl (by (with_reducible repeat (first | apply Kd.R_alloc | apply Kd.R_drewN | apply Kd.R_drew)); exact FX0.out)); rintro e wz9 ⟨rfl, hy0, hb, hkp⟩; refine ⟨_, rfl, ?_⟩; clear FY0; clear FY2; have n_ := Aside0.mk (Kd.N_kept (by (with_reducible repeat (first | apply Kd.N_alloc | apply Kd.N_drewN | apply Kd.N_drew)); exact FS.out) hkp (fun k_ hk_ hs_ => by obtain ⟨i1_, i2_⟩ := hk_; obtain ⟨j1_, j2_⟩ := FX0.out.1 k_ hs_.symm; have zZwz1 := Zwz1.out; have zZwz2 := Zwz2.out; have zZwz3 := Zwz3.out; have zZwz4 := Zwz4.out; have zZwz5 := Zwz5.out; have zZwz6 := Zwz6.out; have zZwz7 := Zwz7.out; have zZwz8 := Zwz8.out; omega)); clear FS; have FS := n_; clear n_; have n_ := Aside0.mk (Kd.R_kept (by (with_reducible repeat (first | apply Kd.R_alloc | apply Kd.R_drewN | apply Kd.R_drew)); exact FX2.out) hkp (fun k_ hk_ hs_ => by obtain ⟨i1_, i2_⟩ := hk_; obtain ⟨j1_, j2_⟩ := FX0.out.1 k_ hs_.symm; have zZwz1 := Zwz1.out; have zZwz2 := Zwz2.out; have zZwz3 := Zwz3.out; have zZwz4 := Zwz4.out; have zZwz5 := Zwz5.out; have zZwz6 := Zwz6.out; have zZwz7 := Zwz7.out; have zZwz8 := Zwz8.out; omega)); clear FX2; have FX2 := n_; clear n_; have n_ := Aside0.mk (Kd.S_kept (by (with_reducible repeat (first | apply Kd.S_alloc | apply Kd.S_drewN | apply Kd.S_drew)); exact FG.out) hkp (fun k_ hk_ hs_ => by obtain ⟨i1_, i2_⟩ := hk_; obtain ⟨j1_, j2_⟩ := FX0.out.1 k_ hs_.symm; have zZwz1 := Zwz1.out; have zZwz2 := Zwz2.out; have zZwz3 := Zwz3.out; have zZwz4 := Zwz4.out; have zZwz5 := Zwz5.out; have zZwz6 := Zwz6.out; have zZwz7 := Zwz7.out; have zZwz8 := Zwz8.out; omega)); clear FG; have FG := n_; clear n_; have Zwz9 := Aside0.mk (show wz8.heap.size ≤ wz9.heap.size from hkp.1); clear FX0; clear HB; have HB := Aside0.mk hb; clear hb hkp hy0) | ((with_reducible refine gate_callee (f := 20) rfl ?_); refine goesL_ (some 68) rfl rfl Try.func20 (by kernel_rfl) rfl #[.slice A_FX2 c2_.length cc_FX2, .int .i64 m0a] rfl (by (try simp only [List.map_toArray, List.map_cons, List.map_nil]); first | done | rfl) ?_; (with_reducible refine (laws_markIntS.calls k (fun k_ => some k_ = (.slice A_FX2 c2_.length cc_FX2 : Value).ownBlock) (.slice A_FX2 c2_.length cc_FX2) c2_ m0a m2a m2b w _ ?side1 ?side2 E_m2_.out).mono ?_); (case side1 => exact (by repeat (first | (with_reducible first | exact HB.out | apply below_alloc | apply pw_below_drewN | apply below_drew1) | exact HB.out))); (case side2 => exact Kd.R_tight rfl (by (with_reducible repeat (first | apply Kd.R_alloc | apply Kd.R_drewN | apply Kd.R_drew)); exact FX2.out)); rintro e wz10 ⟨rfl, hy0, hb, hkp⟩; refine ⟨_, rfl, ?_⟩; have n_ := Aside0.mk (Kd.N_kept (by (with_reducible repeat (first | apply Kd.N_alloc | apply Kd.N_drewN | apply Kd.N_drew)); exact FS.out) hkp (fun k_ hk_ hs_ => by obtain ⟨i1_, i2_⟩ := hk_; obtain ⟨j1_, j2_⟩ := FX2.out.1 k_ hs_.symm; have zZwz1 := Zwz1.out; have zZwz2 := Zwz2.out; have zZwz3 := Zwz3.out; have zZwz4 := Zwz4.out; have zZwz5 := Zwz5.out; have zZwz6 := Zwz6.out; have zZwz7 := Zwz7.out; have zZwz8 := Zwz8.out; have zZwz9 := Zwz9.out; omega)); clear FS; have FS := n_; clear n_; have n_ := Aside0.mk (Kd.S_kept (by (with_reducible repeat (first | apply Kd.S_alloc | apply Kd.S_drewN | apply Kd.S_drew)); exact FG.out) hkp (fun k_ hk_ hs_ => by obtain ⟨i1_, i2_⟩ := hk_; obtain ⟨j1_, j2_⟩ := FX2.out.1 k_ hs_.symm; have zZwz1 := Zwz1.out; have zZwz2 := Zwz2.out; have zZwz3 := Zwz3.out; have zZwz4 := Zwz4.out; have zZwz5 := Zwz5.out; have zZwz6 := Zwz6.out; have zZwz7 := Zwz7.out; have zZwz8 := Zwz8.out; have zZwz9 := Zwz9.out; omega)); clear FG; have FG := n_; clear n_; have Zwz10 := Aside0.mk (show wz9.heap.size ≤ wz10.heap.size from hkp.1); clear FX2; clear HB; have HB := Aside0.mk hb; clear hb hkp hy0) | (go_at_call 26; (with_reducible refine (laws_eqIntSS.calls k _ _ g1 _ _ s1 true _ ?side1 ?side2 ?side3 ?side4 E_q_.out).mono ?_); (case side1 => repeat (first | exact (Kd.S_reads' FG.out).2.2 | (with_reducible refine Kd.C_alloc ?_ _) | (with_reducible refine Kd.C_drewN ?_ _) | (with_reducible refine Kd.C_drew ?_))); (case side2 => exact (Kd.S_reads' FG.out).2.1); (case side3 => repeat (first | exact (Kd.N_reads' FS.out).2.2 | (with_reducible refine Kd.C_alloc ?_ _) | (with_reducible refine Kd.C_drewN ?_ _) | (with_reducible refine Kd.C_drew ?_))); (case side4 => exact (Kd.N_reads' FS.out).2.1); rintro e w' ⟨rfl, ⟨nd, rfl⟩⟩) | ((with_reducible refine gate_callee (f := 27) rfl ?_); refine goesL_ (some 84) rfl rfl Try.func27 (by kernel_rfl) rfl #[.slice A_FG g1.length cc_FG, .int .i64 1] rfl (by (try simp only [List.map_toArray, List.map_cons, List.map_nil]); first | done | rfl) ?_; (with_reducible refine (laws_markIntSS.calls k (fun k_ => wz5.heap.size ≤ k_ ∧ k_ < wz6.heap.size) (.slice A_FG g1.length cc_FG) g1 1 mg1 mg2 w _ ?side1 ?side2 E_mg_.out).mono ?_); (case side1 => exact (by repeat (first | (with_reducible first | exact HB.out | apply below_alloc | apply pw_below_drewN | apply below_drew1) | exact HB.out))); (case side2 => exact (by (with_reducible repeat (first | apply Kd.S_alloc | apply Kd.S_drewN | apply Kd.S_drew)); exact FG.out)); rintro e wz11 ⟨rfl, hy0, hb, hkp⟩; refine ⟨_, rfl, ?_⟩; have n_ := Aside0.mk (Kd.N_kept (by (with_reducible repeat (first | apply Kd.N_alloc | apply Kd.N_drewN | apply Kd.N_drew)); exact FS.out) hkp (fun k_ hk_ hs_ => by obtain ⟨i1_, i2_⟩ := hk_; obtain ⟨j1_, j2_⟩ := hs_; have zZwz1 := Zwz1.out; have zZwz2 := Zwz2.out; have zZwz3 := Zwz3.out; have zZwz4 := Zwz4.out; have zZwz5 := Zwz5.out; have zZwz6 := Zwz6.out; have zZwz7 := Zwz7.out; have zZwz8 := Zwz8.out; have zZwz9 := Zwz9.out; have zZwz10 := Zwz10.out; omega)); clear FS; have FS := n_; clear n_; have Zwz11 := Aside0.mk (show wz10.heap.size ≤ wz11.heap.size from hkp.1); have GL := Aside0.mk (show mg2.length = g1.length from by have a_ := (Kd.S_reads' hy0).1; exact a_.symm); have n_ := Aside0.mk hy0; clear FG; have FG := n_; clear n_; clear HB; have HB := Aside0.mk hb; clear hb hkp hy0) | ((with_reducible refine gate_callee (f := 28) rfl ?_); refine goesL_ (some 87) rfl rfl Try.func28 (by kernel_rfl) rfl #[.slice A_FG mg2.length cc_FG, .int .i64 1] rfl (by (try simp only [List.map_toArray, List.map_cons, List.map_nil]); first | done | (rw [GL.out] <;> rfl) | rfl) ?_; (with_reducible refine (laws_heldIntSS.calls k _ _ mg2 1 hq_ _ ?side1 ?side2 E_hq_.out).mono ?_); (case side1 => repeat (first | exact (Kd.S_reads' FG.out).2.2 | (with_reducible refine Kd.C_alloc ?_ _) | (with_reducible refine Kd.C_drewN ?_ _) | (with_reducible refine Kd.C_drew ?_))); (case side2 => rw [GL.out]; exact (Kd.S_reads' FG.out).2.1); rintro e w' ⟨rfl, ⟨nd, rfl⟩⟩; refine ⟨_, rfl, ?_⟩) | ((with_reducible refine gate_callee (f := 11) rfl ?_); refine goesL_ (some 95) rfl rfl Try.func11 (by kernel_rfl) rfl #[.slice A0 l0.length c0] rfl (by (try simp only [List.map_toArray, List.map_cons, List.map_nil]); first | done | rfl) ?_; (with_reducible refine (laws_toIntS.calls k _ _ l0 c0_ _ ?side1 ?side2 E_c0_.out).mono ?_); (case side1 => repeat (first | exact (Kd.C_below HR0.out (by repeat (first | (with_reducible first | exact HB.out | apply below_alloc | apply pw_below_drewN | apply below_drew1) | exact HB.out))) | (with_reducible refine Kd.C_alloc ?_ _) | (with_reducible refine Kd.C_drewN ?_ _) | (with_reducible refine Kd.C_drew ?_))); (case side2 => exact HC0.out); rintro e wz12 ⟨v95, rfl, ho0, hb⟩; refine ⟨_, rfl, ?_⟩; have n_ := Aside0.mk (Kd.N_below (by (with_reducible repeat (first | apply Kd.N_alloc | apply Kd.N_drewN | apply Kd.N_drew)); exact FS.out) hb); clear FS; have FS := n_; clear n_; have n_ := Aside0.mk (Kd.S_below (by (with_reducible repeat (first | apply Kd.S_alloc | apply Kd.S_drewN | apply Kd.S_drew)); exact FG.out) hb); clear FG; have FG := n_; clear n_; have Zwz12 := Aside0.mk (show wz11.heap.size ≤ wz12.heap.size from hb.size); have FB0 := Aside0.mk (show Kd.R (Kd.int .i64) 3 wz12 w.heap.size (fun k_ => wz11.heap.size ≤ k_ ∧ k_ < wz12.heap.size) v95 c0_ from laws_FnExactRunFires_R_iv ho0 (below_size (by repeat (first | (with_reducible first | exact HB.out | apply below_alloc | apply pw_below_drewN | apply below_drew1) | exact HB.out)))); have n_ := Aside0.mk (below_step (by repeat (first | (with_reducible first | exact HB.out | apply below_alloc | apply pw_below_drewN | apply below_drew1) | exact HB.out)) hb); clear HB; have HB := n_; clear n_; clear hb ho0; obtain ⟨A_FB0, cc_FB0, eo_⟩ := Kd.R_slice FB0.out; subst eo_) | ((with_reducible refine gate_callee (f := 11) rfl ?_); refine goesL_ (some 98) rfl rfl Try.func11 (by kernel_rfl) rfl #[.slice A2 l2.length c2] rfl (by (try simp only [List.map_toArray, List.map_cons, List.map_nil]); first | done | rfl) ?_; (with_reducible refine (laws_toIntS.calls k _ _ l2 c2_ _ ?side1 ?side2 E_c2_.out).mono ?_); (case side1 => repeat (first | exact (Kd.C_below HR2.out (by repeat (first | (with_reducible first | exact HB.out | apply below_alloc | apply pw_below_drewN | apply below_drew1) | exact HB.out))) | (with_reducible refine Kd.C_alloc ?_ _) | (with_reducible refine Kd.C_drewN ?_ _) | (with_reducible refine Kd.C_drew ?_))); (case side2 => exact HC2.out); rintro e wz13 ⟨v98, rfl, ho0, hb⟩; refine ⟨_, rfl, ?_⟩; have n_ := Aside0.mk (Kd.N_below (by (with_reducible repeat (first | apply Kd.N_alloc | apply Kd.N_drewN | apply Kd.N_drew)); exact FS.out) hb); clear FS; have FS := n_; clear n_; have n_ := Aside0.mk (Kd.S_below (by (with_reducible repeat (first | apply Kd.S_alloc | apply Kd.S_drewN | apply Kd.S_drew)); exact FG.out) hb); clear FG; have FG := n_; clear n_; have n_ := Aside0.mk (Kd.R_below (by (with_reducible repeat (first | apply Kd.R_alloc | apply Kd.R_drewN | apply Kd.R_drew)); exact FB0.out) hb); clear FB0; have FB0 := n_; clear n_; have Zwz13 := Aside0.mk (show wz12.heap.size ≤ wz13.heap.size from hb.size); have FB2 := Aside0.mk (show Kd.R (Kd.int .i64) 3 wz13 w.heap.size (fun k_ => wz12.heap.size ≤ k_ ∧ k_ < wz13.heap.size) v98 c2_ from laws_FnExactRunFires_R_iv ho0 (below_size (by repeat (first | (with_reducible first | exact HB.out | apply below_alloc | apply pw_below_drewN | apply below_drew1) | exact HB.out)))); have n_ := Aside0.mk (below_step (by repeat (first | (with_reducible first | exact HB.out | apply below_alloc | apply pw_below_drewN | apply below_drew1) | exact HB.out)) hb); clear HB; have HB := n_; clear n_; clear hb ho0; obtain ⟨A_FB2, cc_FB2, eo_⟩ := Kd.R_slice FB2.out; subst eo_) | ((with_reducible refine gate_callee (f := 25) rfl ?_); refine goesL_ (some 99) rfl rfl Try.func25 (by kernel_rfl) rfl #[.slice A_FB0 c0_.length cc_FB0, .int .i64 a1, .slice A_FB2 c2_.length cc_FB2] rfl (by (try simp only [List.map_toArray, List.map_cons, List.map_nil]); first | done | rfl) ?_; (with_reducible refine (impl_RunFires.calls k (fun k_ => some k_ = (.slice A_FB0 c0_.length cc_FB0 : Value).ownBlock) _ _ c0_ a1 _ _ c2_ g1 g2 _ ?side1 ?side2 ?side3 E_g_.out).mono ?_); (case side1 => exact Kd.R_V (Kd.R_tight rfl (by (with_reducible repeat (first | apply Kd.R_alloc | apply Kd.R_drewN | apply Kd.R_drew)); exact FB0.out))); (case side2 => repeat (first | exact (Kd.R_reads' FB2.out).2.2 | (with_reducible refine Kd.C_alloc ?_ _) | (with_reducible refine Kd.C_drewN ?_ _) | (with_reducible refine Kd.C_drew ?_))); (case side3 => exact (Kd.R_reads' FB2.out).2.1); rintro e wz14 ⟨v99, rfl, ho0, hb⟩; refine ⟨_, rfl, ?_⟩; have n_ := Aside0.mk (Kd.N_below (by (with_reducible repeat (first | apply Kd.N_alloc | apply Kd.N_drewN | apply Kd.N_drew)); exact FS.out) hb); clear FS; have FS := n_; clear n_; have n_ := Aside0.mk (Kd.S_below (by (with_reducible repeat (first | apply Kd.S_alloc | apply Kd.S_drewN | apply Kd.S_drew)); exact FG.out) hb); clear FG; have FG := n_; clear n_; have n_ := Aside0.mk (Kd.R_below (by (with_reducible repeat (first | apply Kd.R_alloc | apply Kd.R_drewN | apply Kd.R_drew)); exact FB0.out) hb); clear FB0; have FB0 := n_; clear n_; have n_ := Aside0.mk (Kd.R_below (by (with_reducible repeat (first | apply Kd.R_alloc | apply Kd.R_drewN | apply Kd.R_drew)); exact FB2.out) hb); clear FB2; have FB2 := n_; clear n_; have Zwz14 := Aside0.mk (show wz13.heap.size ≤ wz14.heap.size from hb.size); have FH := Aside0.mk (show Kd.S (Kd.slice 3 (Kd.int .i64)) 22 wz14 w.heap.size (fun k_ => wz13.heap.size ≤ k_ ∧ k_ < wz14.heap.size) v99 g1 from laws_FnExactRunFires_S_iv ho0 (below_size (by repeat (first | (with_reducible first | exact HB.out | apply below_alloc | apply pw_below_drewN | apply below_drew1) | exact HB.out)))); have n_ := Aside0.mk (below_step (by repeat (first | (with_reducible first | exact HB.out | apply below_alloc | apply pw_below_drewN | apply below_drew1) | exact HB.out)) hb); clear HB; have HB := n_; clear n_; clear hb ho0; obtain ⟨A_FH, cc_FH, eo_⟩ := Kd.S_slice FH.out; subst eo_) | ((with_reducible refine gate_callee (f := 26) rfl ?_); refine goesL_ (some 104) rfl rfl Try.func26 (by kernel_rfl) rfl #[.slice A_FH g1.length cc_FH, .slice A_FS s1.length cc_FS] rfl (by (try simp only [List.map_toArray, List.map_cons, List.map_nil]); first | done | rfl) ?_; (with_reducible refine (laws_eqIntSS.calls k _ _ g1 _ _ s1 true _ ?side1 ?side2 ?side3 ?side4 E_q_.out).mono ?_); (case side1 => repeat (first | exact (Kd.S_reads' FH.out).2.2 | (with_reducible refine Kd.C_alloc ?_ _) | (with_reducible refine Kd.C_drewN ?_ _) | (with_reducible refine Kd.C_drew ?_))); (case side2 => exact (Kd.S_reads' FH.out).2.1); (case side3 => repeat (first | exact (Kd.N_reads' FS.out).2.2 | (with_reducible refine Kd.C_alloc ?_ _) | (with_reducible refine Kd.C_drewN ?_ _) | (with_reducible refine Kd.C_drew ?_))); (case side4 => exact (Kd.N_reads' FS.out).2.1); rintro e w' ⟨rfl, ⟨nd, rfl⟩⟩; refine ⟨_, rfl, ?_⟩) | ((with_reducible refine gate_callee (f := 28) rfl ?_); refine goesL_ (some 113) rfl rfl Try.func28 (by kernel_rfl) rfl #[.slice A_FG mg2.length cc_FG, .int .i64 1] rfl (by (try simp only [List.map_toArray, List.map_cons, List.map_nil]); first | done | (rw [GL.out] <;> rfl) | rfl) ?_; (with_reducible refine (laws_heldIntSS.calls k _ _ mg2 1 hq_ _ ?side1 ?side2 E_hq_.out).mono ?_); (case side1 => repeat (first | exact (Kd.S_reads' FG.out).2.2 | (with_reducible refine Kd.C_alloc ?_ _) | (with_reducible refine Kd.C_drewN ?_ _) | (with_reducible refine Kd.C_drew ?_))); (case side2 => rw [GL.out]; exact (Kd.S_reads' FG.out).2.1); rintro e w' ⟨rfl, ⟨nd, rfl⟩⟩; refine ⟨_, rfl, ?_⟩))
      go_ret
      exact ⟨rfl, (by repeat (first | (with_reducible first | exact HB.out | apply below_alloc | apply pw_below_drewN | apply below_drew1) | exact HB.out))⟩

/-! ### spec_elIndex: function 51 -/
def spec_elIndex.l0 : Nat → Int → Int → List Int → Int → Int → Option (Int)
  | 0, _, _, _, _, _ => none
  | k + 1, x1, x5, x8, x9, x10 => if x10 < x9 then (if 0 ≤ x10 then (if x10 < (x8.length : Int) then (spec_elIndex.l0 k x1 (wrap64 ((wrap64 (x5 * x1)) + (rd x8 x10))) x8 x9 (wrap64 (x10 + 1))) else (none)) else (none)) else (some x5)
def spec_elIndex.f (k : Nat) (l0 : List Int) (a1 : Int) : Option (Int) := spec_elIndex.l0 k a1 0 l0 (l0.length : Int) 0
theorem spec_elIndex.mono_l : ∀ k, (∀ y0 y1 y2 y3 y4, LeO (spec_elIndex.l0 k y0 y1 y2 y3 y4) (spec_elIndex.l0 (k + 1) y0 y1 y2 y3 y4))
  | 0 => fun _ _ _ _ _ r h => by simp [spec_elIndex.l0] at h
  | k + 1 => by
    have ih0 := spec_elIndex.mono_l k
    · intro y0 y1 y2 y3 y4
      unfold spec_elIndex.l0
      repeat' first
      | (with_reducible exact ih0 _ _ _ _ _)
      | (with_reducible exact LeO.refl _)
      | (with_reducible exact LeO.none _)
      | (with_reducible refine LeO.ite ?_ ?_)
      | (with_reducible refine LeO.bind ?_ (fun _ => ?_))
      | exact ih0 _ _ _ _ _
      | exact LeO.none _
      | refine LeO.ite ?_ ?_
      | refine LeO.bind ?_ (fun _ => ?_)
theorem spec_elIndex.mono : ∀ a0 a1 k, LeO (spec_elIndex.f k a0 a1) (spec_elIndex.f (k + 1) a0 a1) := by
  intro a0 a1 k
  have ih0 := spec_elIndex.mono_l k
  unfold spec_elIndex.f
  repeat' first
      | (with_reducible exact ih0 _ _ _ _ _)
      | (with_reducible exact LeO.refl _)
      | (with_reducible exact LeO.none _)
      | (with_reducible refine LeO.ite ?_ ?_)
      | (with_reducible refine LeO.bind ?_ (fun _ => ?_))
      | exact ih0 _ _ _ _ _
      | exact LeO.none _
      | refine LeO.ite ?_ ?_
      | refine LeO.bind ?_ (fun _ => ?_)
set_option maxHeartbeats 8000000 in
set_option maxRecDepth 100000 in
theorem spec_elIndex.calls (k : Nat) (A0 : Option Addr) (c0 : Nat) (l0 : List Int) (a1 : Int) (r : Int) (w : World) (hr0 : Kd.C (Kd.int .i64) w A0 l0.length l0) (hc0 : l0.length ≤ c0) (h : spec_elIndex.f k l0 a1 = some r) :
    Calls Try.prog 51 #[.slice A0 l0.length c0, .int .i64 a1] w fun e w' => e = .returned (.int .i64 r) ∧ Drawn0 w w' := by
  have HR0 := Aside0.mk hr0
  have HC0 := Aside0.mk hc0
  clear hr0 hc0
  have H : (spec_elIndex.l0 k a1 0 l0 (l0.length : Int) 0) = some r := h
  clear h
  have H' := Aside0.mk H
  clear H
  go_enter Try.func51, Try.ntmps51
  go_wp2
  go_loopg [5, 10] k (fun kq v5 v10 w' => ∃ (x5_1 : Int) (x10_1 : Int), v5 = .int .i64 x5_1 ∧ v10 = .int .i64 x10_1 ∧ Aside0 (spec_elIndex.l0 kq a1 x5_1 l0 (l0.length : Int) x10_1 = some r) ∧ Aside0 (kq ≤ k) ∧ Drawn0 w w')
  case atStart => exact ⟨(0), (0), (by first | rfl | (simp; done) | (simp [*]; done)), (by first | rfl | (simp; done) | (simp [*]; done)), H', ⟨Nat.le_refl _⟩, by repeat (first | exact Drawn0.refl _ | apply Drawn0.step)⟩
  case round =>
    clear H'
    try clear p2
    obtain ⟨x5_1, x10_1, rfl, rfl, HA, HK1, ⟨m1, rfl⟩⟩ := hrel
    cases gk with
    | zero => exact absurd HA.out (by simp [spec_elIndex.l0])
    | succ k1 =>
      have H := HA.out
      clear HA
      simp only [spec_elIndex.l0] at H
      by_cases c3 : x10_1 < (l0.length : Int)
      · rw [if_pos c3] at H
        have c3b0 : decide (x10_1 < (l0.length : Int)) = true := decide_eq_true c3
        clear c3
        by_cases c4 : 0 ≤ x10_1
        · rw [if_pos c4] at H
          have c4b0 : decide (0 ≤ x10_1) = true := decide_eq_true c4
          clear c4
          by_cases c5 : x10_1 < (l0.length : Int)
          · rw [if_pos c5] at H
            have c5b0 : decide (x10_1 < (l0.length : Int)) = true := decide_eq_true c5
            clear c5
            have H' := Aside0.mk H
            clear H
            have p365 : 0 ≤ (x10_1 : Int) := of_decide_eq_true (by first | (with_reducible assumption) | assumption)
            have q365 : x10_1 < (l0.length : Int) := of_decide_eq_true (by first | (with_reducible assumption) | assumption)
            obtain ⟨ad365, e365, hx365_0⟩ := Kd.at_int HR0.out x10_1 p365 q365
            cases e365
            replace p365 := eq_true p365
            replace q365 := eq_true q365
            go_wp2
            go_roundg k1
            case measure => have := HK1.out; omega
            case rel => exact ⟨(wrap64 ((wrap64 (x5_1 * a1)) + (rd l0 x10_1))), (wrap64 (x10_1 + 1)), (by first | rfl | (simp; done) | (simp [*]; done)), (by first | rfl | (simp; done) | (simp [*]; done)), H', ⟨by have := HK1.out; omega⟩, by repeat (first | exact Drawn0.refl _ | apply Drawn0.step)⟩
          · rw [if_neg c5] at H
            exact absurd H (by simp)
        · rw [if_neg c4] at H
          exact absurd H (by simp)
      · rw [if_neg c3] at H
        have c3b0 : decide (x10_1 < (l0.length : Int)) = false := decide_eq_false c3
        clear c3
        obtain rfl := Option.some.inj H
        go_wp2
        go_ret
        exact ⟨by first | rfl | (simp; done) | (simp [*]; done), by repeat (first | exact Drawn0.refl _ | apply Drawn0.step)⟩

/-! ### spec_l1Most: function 52 -/
def spec_l1Most.f (a0 : Int) (a1 : Int) : Option (Int) := if a0 > a1 then (some a0) else (some a1)
set_option maxHeartbeats 8000000 in
set_option maxRecDepth 100000 in
theorem spec_l1Most.calls (a0 : Int) (a1 : Int) (r : Int) (w : World) (h : spec_l1Most.f a0 a1 = some r) :
    Calls Try.prog 52 #[.int .i64 a0, .int .i64 a1] w fun e w' => e = .returned (.int .i64 r) ∧ Drawn0 w w' := by
  have H : (if a0 > a1 then (some a0) else (some a1)) = some r := h
  clear h
  by_cases c3 : a0 > a1
  · rw [if_pos c3] at H
    have c3b0 : decide (a1 < a0) = true := decide_eq_true c3
    clear c3
    obtain rfl := Option.some.inj H
    go_enter Try.func52, Try.ntmps52
    go_wp2
    go_ret
    exact ⟨by first | rfl | (simp; done) | (simp [*]; done), by repeat (first | exact Drawn0.refl _ | apply Drawn0.step)⟩
  · rw [if_neg c3] at H
    have c3b0 : decide (a1 < a0) = false := decide_eq_false c3
    clear c3
    obtain rfl := Option.some.inj H
    go_enter Try.func52, Try.ntmps52
    go_wp2
    go_ret
    exact ⟨by first | rfl | (simp; done) | (simp [*]; done), by repeat (first | exact Drawn0.refl _ | apply Drawn0.step)⟩

end Go.Proofs.Ytjfjpfgnclnehaa.X
