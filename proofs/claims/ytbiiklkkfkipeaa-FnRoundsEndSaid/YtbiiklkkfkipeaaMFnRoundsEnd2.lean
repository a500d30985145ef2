/- Several texts of this session in one: X43, X44, X45, X46, X470. -/
import Derived.Test.YtbiiklkkfkipeaaMFnRoundsEnd0
import Derived.Test.YtbiiklkkfkipeaaMFnRoundsEnd1
/- What the functions of the program come to, and that they do: written by this session's program wip/xprint.py out of the translation; parts named extern are typed by hand. -/
namespace Go.Proofs.Ytbiiklkkfkipeaa.X
open Go.RowKit Go.Proofs.YtbiiklkkfkipeaaW.PrintWords Go.Proofs.YtbiiklkkfkipeaaW.PrintLast Go.Proofs.YtbiiklkkfkipeaaW.PrintMore
attribute [local go_sem] max2_int min2_int max_two min_two max_three min_three max_four min_four   -- for this text's walks alone
set_option linter.unusedVariables false
set_option linter.unusedSimpArgs false

/-! ### spec_l1Cur_names: function 83 -/
def spec_l1Cur_names.l0 : Nat → Int → List Int → Int → Int → List Int → Int → Int → Option (List Int × Int × Int)
  | 0, _, _, _, _, _, _, _ => none
  | k + 1, x3, x4, x5, x6, x1000, x1001, x1002 => if x6 < x3 then ((spec_l1Cur_pick.f x1000 x1001 x1002 (wrap64 (x6 + 1))).bind fun bt529 => (if 0 ≤ bt529.1 then (if bt529.1 ≤ (x4.length : Int) then ((spec_l1Own.f (x4.take (bt529.1 : Int).toNat)).bind fun t536 => (if t536.length < 17592186044416 then ((some (t536 ++ [wrap64 ((wrap64 (x6 * x5)) + x6)] : List Int)).bind fun y539 => ((some (x4.drop (bt529.1 : Int).toNat : List Int)).bind fun y542 => (if y539.length + y542.length < 17592186044416 then (spec_l1Cur_names.l0 k x3 (y539 ++ y542) x5 (wrap64 (x6 + 1)) x1000 bt529.2.1 bt529.2.2) else (none)))) else (none))) else (none)) else (none))) else ((spec_l1Cur_pick.f x1000 x1001 x1002 16).bind fun bt549 => (if bt549.1 = 0 then ((spec_l1Cur_pick.f x1000 bt549.2.1 bt549.2.2 (x4.length : Int)).bind fun bt552 => ((spec_l1Cur_among.f x1000 bt552.2.1 bt552.2.2 (([(-1), 999, 1000, 4611686018427387904] : List Int))).bind fun bt558 => (if 0 ≤ bt552.1 then (if bt552.1 < (x4.length : Int) then (some ((x4.set (bt552.1 : Int).toNat bt558.1), bt558.2.1, bt558.2.2)) else (none)) else (none)))) else (if bt549.1 = 1 then (if 0 < (x4.length : Int) then (if x4.length < 17592186044416 then (some ((x4 ++ [rd x4 0]), bt549.2.1, bt549.2.2)) else (none)) else (none)) else (if bt549.1 = 2 then (if 1 ≤ (x4.length : Int) then (some ((x4.take (1 : Int).toNat), bt549.2.1, bt549.2.2)) else (none)) else (some (x4, bt549.2.1, bt549.2.2))))))
def spec_l1Cur_names.f (k : Nat) (s0_0 : List Int) (s0_1 : Int) (s0_2 : Int) : Option (List Int × Int × Int) := (spec_l1Cur_among.f s0_0 s0_1 s0_2 (([2, 3, 4, 5, 6, 7, 8, 12] : List Int))).bind fun bt523 => ((spec_l1Cur_pick.f s0_0 bt523.2.1 bt523.2.2 40).bind fun bt526 => (spec_l1Cur_names.l0 k bt523.1 ([] : List Int) bt526.1 0 s0_0 bt526.2.1 bt526.2.2))
set_option maxHeartbeats 8000000 in
set_option maxRecDepth 100000 in
theorem spec_l1Cur_names.calls (k : Nat) (g : Nat) (s0_0 : List Int) (s0_1 : Int) (s0_2 : Int) (r1 : List Int) (r2 : Int) (r3 : Int) (w0 w : World) (hI : IsS55 w0 w g s0_0 s0_1 s0_2) (hB : Below w0.heap.size w0 w) (h : spec_l1Cur_names.f k s0_0 s0_1 s0_2 = some (r1, r2, r3)) :
    Calls Try.prog 83 #[.pointer (some ⟨g, 0, none⟩)] w fun e w' => ∃ v0_ : Value, e = .returned (v0_) ∧ Kd.R (Kd.int .i64) 3 w' w.heap.size (fun _ => True) v0_ r1 ∧ IsS55 w0 w' g s0_0 r2 r3 ∧ Below w0.heap.size w0 w' ∧ KeepBut w w' g none := by
  have HI0 := Aside0.mk hI
  have HK := Aside0.mk (KeepBut.refl w g none)
  have HL := Aside0.mk hB.size
  clear hI
  have HW0 := Aside0.mk hB.size
  have HB := Aside0.mk hB
  clear hB
  have H : ((spec_l1Cur_among.f s0_0 s0_1 s0_2 (([2, 3, 4, 5, 6, 7, 8, 12] : List Int))).bind fun bt523 => ((spec_l1Cur_pick.f s0_0 bt523.2.1 bt523.2.2 40).bind fun bt526 => (spec_l1Cur_names.l0 k bt523.1 ([] : List Int) bt526.1 0 s0_0 bt526.2.1 bt526.2.2))) = some (r1, r2, r3) := h
  clear h
  obtain ⟨y520, hy520⟩ : ∃ y_ : List Int, y_ = (([2, 3, 4, 5, 6, 7, 8, 12] : List Int)) := ⟨_, rfl⟩
  replace H : ((spec_l1Cur_among.f s0_0 s0_1 s0_2 y520).bind fun bt523 => ((spec_l1Cur_pick.f s0_0 bt523.2.1 bt523.2.2 40).bind fun bt526 => (spec_l1Cur_names.l0 k bt523.1 ([] : List Int) bt526.1 0 s0_0 bt526.2.1 bt526.2.2))) = some (r1, r2, r3) := by first | (rw [hy520]; with_reducible exact H) | (have H2_ := (Option.bind_some _ _).symm.trans H; rw [hy520]; with_reducible exact H2_) | (have H2_ := (Option.bind_some _ _).symm.trans H; with_reducible exact H2_) | with_reducible exact H | (rw [hy520]; exact H) | exact H
  have Ny520 := Aside0.mk hy520
  clear hy520
  replace H := Option.bind_eq_some_iff.mp H
  obtain ⟨⟨t523, t524, t525⟩, A20, H⟩ := H
  replace H : ((spec_l1Cur_pick.f s0_0 t524 t525 40).bind fun bt526 => (spec_l1Cur_names.l0 k t523 ([] : List Int) bt526.1 0 s0_0 bt526.2.1 bt526.2.2)) = some (r1, r2, r3) := H
  have A2 := Aside0.mk A20
  clear A20
  replace H := Option.bind_eq_some_iff.mp H
  obtain ⟨⟨t526, t527, t528⟩, A30, H⟩ := H
  replace H : (spec_l1Cur_names.l0 k t523 ([] : List Int) t526 0 s0_0 t527 t528) = some (r1, r2, r3) := H
  have A3 := Aside0.mk A30
  clear A30
  have H' := Aside0.mk H
  clear H
  go_enter Try.func83, Try.ntmps83
  go_wp2_with (first | ((with_reducible refine gate_dst (N := 10) rfl ?_); refine Kd.R_lit (Kd.int .i64) _ 3 ?hg (N := 10) ?hd (xs := ([2, 3, 4, 5, 6, 7, 8, 12] : List Int)) (inner := [.int .i64 2, .int .i64 3, .int .i64 4, .int .i64 5, .int .i64 6, .int .i64 7, .int .i64 8, .int .i64 12]) (ok := fun _ => True) (okp := fun _ => True) ?hr ?hp (fun _ hk => hk) trivial (Below.refl _ _) (Nat.le_refl _) (by simp) ?_; (case hd => rfl); (case hg => rfl); (case hr => first | (go_simp; done) | (go_simp; rfl)); (case hp => exact (Reps.one (show Kd.M (Kd.int .i64) _ _ _ 2 [.int .i64 2] from rfl) (Reps.one (show Kd.M (Kd.int .i64) _ _ _ 3 [.int .i64 3] from rfl) (Reps.one (show Kd.M (Kd.int .i64) _ _ _ 4 [.int .i64 4] from rfl) (Reps.one (show Kd.M (Kd.int .i64) _ _ _ 5 [.int .i64 5] from rfl) (Reps.one (show Kd.M (Kd.int .i64) _ _ _ 6 [.int .i64 6] from rfl) (Reps.one (show Kd.M (Kd.int .i64) _ _ _ 7 [.int .i64 7] from rfl) (Reps.one (show Kd.M (Kd.int .i64) _ _ _ 8 [.int .i64 8] from rfl) (Reps.one (show Kd.M (Kd.int .i64) _ _ _ 12 [.int .i64 12] from rfl) (Reps.none _ _)))))))))); intro v521 w4 ho5 hb hg_ hnew_; clear hg_ hnew_; (first | rw [← Ny520.out] at ho5 | (simp only [Int.reduceToNat] at ho5; rw [← Ny520.out] at ho5)); have n0_ := Aside0.mk (Kd.R_lower ho5 (keep_size (w := w) (g := g) (row := none) (by repeat (first | (with_reducible first | exact HK.out | apply KeepBut.set_ | apply keep_drewN | apply keep_drew | apply keep_alloc) | exact HK.out)))); have n1_ := Aside0.mk (IsS55.below (by repeat (first | (with_reducible first | exact HI0.out | apply IsS55.alloc | apply IsS55.drewN | apply IsS55.drew | apply IsS55.set_1 | apply IsS55.set_2) | exact HI0.out)) hb); have n2_ := Aside0.mk (KeepBut.trans (by repeat (first | (with_reducible first | exact HK.out | apply KeepBut.set_ | apply keep_drewN | apply keep_drew | apply keep_alloc) | exact HK.out)) (KeepBut.of_below hb g none) (.inl rfl)); have n3_ := Aside0.mk (below_step (by repeat (first | (with_reducible first | exact HB.out | apply below_alloc | apply pw_below_drewN | apply below_drew1 | refine below_set ?_ (IsS55.ge HI0.out)) | exact HB.out)) hb); clear HI0; clear HK; clear HB; have HO522 := n0_; have HI0 := n1_; have HK := n2_; have HB := n3_; clear n0_ n1_ n2_ n3_; clear hb ho5; obtain ⟨Ao6, co6, eo6⟩ := Kd.R_slice HO522.out; subst eo6) | ((with_reducible refine gate_callee (f := 71) rfl ?_); refine goesL_ (some 11) rfl rfl Try.func71 (by kernel_rfl) rfl #[.pointer (some ⟨g, 0, none⟩), .slice Ao6 y520.length co6] rfl (by (try simp only [List.map_toArray, List.map_cons, List.map_nil]); first | done | rfl | (simp only [List.length_drop, List.length_take]; rfl)) ?_; (with_reducible refine (spec_l1Cur_among.calls g s0_0 s0_1 s0_2 _ _ y520 t523 t524 t525 w0 _ ?side1 ?side2 ?side3 ?side4 ?side5 A2.out).mono ?_); (case side1 => repeat (first | (with_reducible first | exact HI0.out | apply IsS55.alloc | apply IsS55.drewN | apply IsS55.drew | apply IsS55.set_1 | apply IsS55.set_2) | exact HI0.out)); (case side2 => repeat (first | (with_reducible first | exact HB.out | apply below_alloc | apply pw_below_drewN | apply below_drew1 | refine below_set ?_ (IsS55.ge HI0.out)) | exact HB.out)); (case side3 => repeat (first | exact (Kd.R_reads' HO522.out).2.2 | (with_reducible refine Kd.C_alloc ?_ _) | (with_reducible refine Kd.C_drewN ?_ _) | (with_reducible refine Kd.C_drew ?_))); (case side4 => exact (Kd.R_reads' HO522.out).2.1); (case side5 => exact far_slice (IsS55.own_ne HI0.out HO522.out (by decide))); rintro e w7 ⟨rfl, hi, hb, hk⟩; refine ⟨_, rfl, ?_⟩; have n0_ := Aside0.mk (Kd.R_mono (Kd.R_keep (IsS55.apart (show IsS55 w0 _ g s0_0 s0_1 s0_2 from by repeat (first | (with_reducible first | exact HI0.out | apply IsS55.alloc | apply IsS55.drewN | apply IsS55.drew | apply IsS55.set_1 | apply IsS55.set_2) | exact HI0.out)) (by (with_reducible repeat (first | apply Kd.R_alloc | apply Kd.R_drewN | apply Kd.R_drew)); exact HO522.out) (by decide)) hk (fun _ h => h.2)) (fun _ h => h.1)); have n1_ := Aside0.mk (KeepBut.trans (by repeat (first | (with_reducible first | exact HK.out | apply KeepBut.set_ | apply keep_drewN | apply keep_drew | apply keep_alloc) | exact HK.out)) hk (.inl rfl)); have n2_ := Aside0.mk (hb); have n3_ := Aside0.mk (hi); clear HO522; clear HK; clear HB; clear HI0; have HO522 := n0_; have HK := n1_; have HB := n2_; have HI0 := n3_; clear n0_ n1_ n2_ n3_; (try clear hb); (try clear hb2); (try clear hk); (try clear hi)) | ((with_reducible refine gate_callee (f := 84) rfl ?_); refine goesL_ (some 13) rfl rfl Try.func84 (by kernel_rfl) rfl #[.pointer (some ⟨g, 0, none⟩), .int .i64 40] rfl (by (try simp only [List.map_toArray, List.map_cons, List.map_nil]); first | done | rfl | (simp only [List.length_drop, List.length_take]; rfl)) ?_; (with_reducible refine (spec_l1Cur_pick.calls g s0_0 t524 t525 40 t526 t527 t528 w0 _ ?side1 ?side2 A3.out).mono ?_); (case side1 => repeat (first | (with_reducible first | exact HI0.out | apply IsS55.alloc | apply IsS55.drewN | apply IsS55.drew | apply IsS55.set_1 | apply IsS55.set_2) | exact HI0.out)); (case side2 => repeat (first | (with_reducible first | exact HB.out | apply below_alloc | apply pw_below_drewN | apply below_drew1 | refine below_set ?_ (IsS55.ge HI0.out)) | exact HB.out)); rintro e w8 ⟨rfl, hi, hb, hk⟩; refine ⟨_, rfl, ?_⟩; have n0_ := Aside0.mk (Kd.R_mono (Kd.R_keep (IsS55.apart (show IsS55 w0 _ g s0_0 t524 t525 from by repeat (first | (with_reducible first | exact HI0.out | apply IsS55.alloc | apply IsS55.drewN | apply IsS55.drew | apply IsS55.set_1 | apply IsS55.set_2) | exact HI0.out)) (by (with_reducible repeat (first | apply Kd.R_alloc | apply Kd.R_drewN | apply Kd.R_drew)); exact HO522.out) (by decide)) hk (fun _ h => h.2)) (fun _ h => h.1)); have n1_ := Aside0.mk (KeepBut.trans (by repeat (first | (with_reducible first | exact HK.out | apply KeepBut.set_ | apply keep_drewN | apply keep_drew | apply keep_alloc) | exact HK.out)) hk (.inl rfl)); have n2_ := Aside0.mk (hb); have n3_ := Aside0.mk (hi); clear HO522; clear HK; clear HB; clear HI0; have HO522 := n0_; have HK := n1_; have HB := n2_; have HI0 := n3_; clear n0_ n1_ n2_ n3_; (try clear hb); (try clear hb2); (try clear hk); (try clear hi)))
  go_loopg [4, 6] k (fun kq v4 v6 w' => ∃ (x4_1 : List Int) (x6_1 : Int) (x1001_1 : Int) (x1002_1 : Int), v6 = .int .i64 x6_1 ∧ Aside0 (spec_l1Cur_names.l0 kq t523 x4_1 t526 x6_1 s0_0 x1001_1 x1002_1 = some (r1, r2, r3)) ∧ Aside0 (kq ≤ k) ∧ Aside0 (Kd.R (Kd.int .i64) 3 w' w.heap.size (fun _ => True) v4 x4_1) ∧ Aside0 (IsS55 w0 w' g s0_0 x1001_1 x1002_1) ∧ Aside0 (KeepBut w w' g none) ∧ Aside0 (Below w0.heap.size w0 w'))
  case atStart => exact ⟨(([] : List Int)), (0), (t527), (t528), (by first | rfl | (simp; done) | (simp [*]; done)), H', ⟨Nat.le_refl _⟩, ⟨by first | exact Kd.R_nil _ _ _ _ _ | exact Kd.N_nil _ _ _ _ _ | exact Kd.V_nil _ _ _ _ _ | exact Kd.Q_nil _ _ _ _ _ | exact Kd.S_nil _ _ _ _ _⟩, ⟨by repeat (first | (with_reducible first | exact HI0.out | apply IsS55.alloc | apply IsS55.drewN | apply IsS55.drew | apply IsS55.set_1 | apply IsS55.set_2) | exact HI0.out)⟩, ⟨by repeat (first | (with_reducible first | exact HK.out | apply KeepBut.set_ | apply keep_drewN | apply keep_drew | apply keep_alloc) | exact HK.out)⟩, ⟨by repeat (first | (with_reducible first | exact HB.out | apply below_alloc | apply pw_below_drewN | apply below_drew1 | refine below_set ?_ (IsS55.ge HI0.out)) | exact HB.out)⟩⟩
  case round =>
    clear H'
    try clear p2
    try clear c7
    try clear c8
    obtain ⟨x4_1, x6_1, x1001_1, x1002_1, rfl, HA, HK1, HO_4, HI0, HK, HB⟩ := hrel
    cases gk with
    | zero => exact absurd HA.out (by simp [spec_l1Cur_names.l0])
    | succ k1 =>
      have H := HA.out
      clear HA
      simp only [spec_l1Cur_names.l0] at H
      by_cases c9 : x6_1 < t523
      · rw [if_pos c9] at H
        have c9b0 : decide (x6_1 < t523) = true := decide_eq_true c9
        clear c9
        replace H := Option.bind_eq_some_iff.mp H
        obtain ⟨⟨t529, t530, t531⟩, A100, H⟩ := H
        replace H : (if 0 ≤ t529 then (if t529 ≤ (x4_1.length : Int) then ((spec_l1Own.f (x4_1.take (t529 : Int).toNat)).bind fun t536 => (if t536.length < 17592186044416 then ((some (t536 ++ [wrap64 ((wrap64 (x6_1 * t526)) + x6_1)] : List Int)).bind fun y539 => ((some (x4_1.drop (t529 : Int).toNat : List Int)).bind fun y542 => (if y539.length + y542.length < 17592186044416 then (spec_l1Cur_names.l0 k1 t523 (y539 ++ y542) t526 (wrap64 (x6_1 + 1)) s0_0 t530 t531) else (none)))) else (none))) else (none)) else (none)) = some (r1, r2, r3) := H
        have A10 := Aside0.mk A100
        clear A100
        by_cases c11 : 0 ≤ t529
        · rw [if_pos c11] at H
          have c11b0 := eq_true c11
          have c11b1 : decide (0 ≤ t529) = true := decide_eq_true c11
          clear c11
          by_cases c12 : t529 ≤ (x4_1.length : Int)
          · rw [if_pos c12] at H
            have c12b0 := eq_true c12
            have c12b1 : decide (t529 ≤ (x4_1.length : Int)) = true := decide_eq_true c12
            clear c12
            obtain ⟨y532, hy532⟩ : ∃ y_ : List Int, y_ = (x4_1.take (t529 : Int).toNat) := ⟨_, rfl⟩
            replace H : ((spec_l1Own.f y532).bind fun t536 => (if t536.length < 17592186044416 then ((some (t536 ++ [wrap64 ((wrap64 (x6_1 * t526)) + x6_1)] : List Int)).bind fun y539 => ((some (x4_1.drop (t529 : Int).toNat : List Int)).bind fun y542 => (if y539.length + y542.length < 17592186044416 then (spec_l1Cur_names.l0 k1 t523 (y539 ++ y542) t526 (wrap64 (x6_1 + 1)) s0_0 t530 t531) else (none)))) else (none))) = some (r1, r2, r3) := by first | (rw [hy532]; with_reducible exact H) | (have H2_ := (Option.bind_some _ _).symm.trans H; rw [hy532]; with_reducible exact H2_) | (have H2_ := (Option.bind_some _ _).symm.trans H; with_reducible exact H2_) | with_reducible exact H | (rw [hy532]; exact H) | exact H
            have Ny532 := Aside0.mk hy532
            clear hy532
            replace H := Option.bind_eq_some_iff.mp H
            obtain ⟨t536, A130, H⟩ := H
            replace H : (if t536.length < 17592186044416 then ((some (t536 ++ [wrap64 ((wrap64 (x6_1 * t526)) + x6_1)] : List Int)).bind fun y539 => ((some (x4_1.drop (t529 : Int).toNat : List Int)).bind fun y542 => (if y539.length + y542.length < 17592186044416 then (spec_l1Cur_names.l0 k1 t523 (y539 ++ y542) t526 (wrap64 (x6_1 + 1)) s0_0 t530 t531) else (none)))) else (none)) = some (r1, r2, r3) := H
            have A13 := Aside0.mk A130
            clear A130
            by_cases c14 : t536.length < 17592186044416
            · rw [if_pos c14] at H
              have LMc14 := Aside0.mk c14
              clear c14
              obtain ⟨y539, hy539⟩ : ∃ y_ : List Int, y_ = (t536 ++ [wrap64 ((wrap64 (x6_1 * t526)) + x6_1)]) := ⟨_, rfl⟩
              replace H : ((some (x4_1.drop (t529 : Int).toNat : List Int)).bind fun y542 => (if y539.length + y542.length < 17592186044416 then (spec_l1Cur_names.l0 k1 t523 (y539 ++ y542) t526 (wrap64 (x6_1 + 1)) s0_0 t530 t531) else (none))) = some (r1, r2, r3) := by first | (rw [hy539]; with_reducible exact H) | (have H2_ := (Option.bind_some _ _).symm.trans H; rw [hy539]; with_reducible exact H2_) | (have H2_ := (Option.bind_some _ _).symm.trans H; with_reducible exact H2_) | with_reducible exact H | (rw [hy539]; exact H) | exact H
              have Ny539 := Aside0.mk hy539
              clear hy539
              have c15b0 := eq_true (of_decide_eq_true (by first | (with_reducible assumption) | assumption) : 0 ≤ t529)
              have c16b0 := eq_true (of_decide_eq_true (by first | (with_reducible assumption) | assumption) : t529 ≤ (x4_1.length : Int))
              obtain ⟨y542, hy542⟩ : ∃ y_ : List Int, y_ = (x4_1.drop (t529 : Int).toNat) := ⟨_, rfl⟩
              replace H : (if y539.length + y542.length < 17592186044416 then (spec_l1Cur_names.l0 k1 t523 (y539 ++ y542) t526 (wrap64 (x6_1 + 1)) s0_0 t530 t531) else (none)) = some (r1, r2, r3) := by first | (rw [hy542]; with_reducible exact H) | (have H2_ := (Option.bind_some _ _).symm.trans H; rw [hy542]; with_reducible exact H2_) | (have H2_ := (Option.bind_some _ _).symm.trans H; with_reducible exact H2_) | with_reducible exact H | (rw [hy542]; exact H) | exact H
              have Ny542 := Aside0.mk hy542
              clear hy542
              by_cases c17 : y539.length + y542.length < 17592186044416
              · rw [if_pos c17] at H
                have LMc17 := Aside0.mk c17
                clear c17
                obtain ⟨y546, hy546⟩ : ∃ y_ : List Int, y_ = (y539 ++ y542) := ⟨_, rfl⟩
                replace H : (spec_l1Cur_names.l0 k1 t523 y546 t526 (wrap64 (x6_1 + 1)) s0_0 t530 t531) = some (r1, r2, r3) := by first | (rw [hy546]; with_reducible exact H) | (have H2_ := (Option.bind_some _ _).symm.trans H; rw [hy546]; with_reducible exact H2_) | (have H2_ := (Option.bind_some _ _).symm.trans H; with_reducible exact H2_) | with_reducible exact H | (rw [hy546]; exact H) | exact H
                have Ny546 := Aside0.mk hy546
                clear hy546
                have H' := Aside0.mk H
                clear H
                go_wp2_with (first | ((with_reducible refine gate_callee (f := 84) rfl ?_); refine goesL_ (some 22) rfl rfl Try.func84 (by kernel_rfl) rfl #[.pointer (some ⟨g, 0, none⟩), .int .i64 (wrap64 (x6_1 + 1))] rfl (by (try simp only [List.map_toArray, List.map_cons, List.map_nil]); first | done | rfl | (simp only [List.length_drop, List.length_take]; rfl)) ?_; (with_reducible refine (spec_l1Cur_pick.calls g s0_0 x1001_1 x1002_1 (wrap64 (x6_1 + 1)) t529 t530 t531 w0 _ ?side1 ?side2 A10.out).mono ?_); (case side1 => repeat (first | (with_reducible first | exact HI0.out | apply IsS55.alloc | apply IsS55.drewN | apply IsS55.drew | apply IsS55.set_1 | apply IsS55.set_2) | exact HI0.out)); (case side2 => repeat (first | (with_reducible first | exact HB.out | apply below_alloc | apply pw_below_drewN | apply below_drew1 | refine below_set ?_ (IsS55.ge HI0.out)) | exact HB.out)); rintro e w18 ⟨rfl, hi, hb, hk⟩; refine ⟨_, rfl, ?_⟩; have n0_ := Aside0.mk (Kd.R_mono (Kd.R_keep (IsS55.apart (show IsS55 w0 _ g s0_0 x1001_1 x1002_1 from by repeat (first | (with_reducible first | exact HI0.out | apply IsS55.alloc | apply IsS55.drewN | apply IsS55.drew | apply IsS55.set_1 | apply IsS55.set_2) | exact HI0.out)) (by (with_reducible repeat (first | apply Kd.R_alloc | apply Kd.R_drewN | apply Kd.R_drew)); exact HO_4.out) (by decide)) hk (fun _ h => h.2)) (fun _ h => h.1)); have n1_ := Aside0.mk (KeepBut.trans (by repeat (first | (with_reducible first | exact HK.out | apply KeepBut.set_ | apply keep_drewN | apply keep_drew | apply keep_alloc) | exact HK.out)) hk (.inl rfl)); have n2_ := Aside0.mk (hb); have n3_ := Aside0.mk (hi); clear HO_4; clear HK; clear HB; clear HI0; have HO_4 := n0_; have HK := n1_; have HB := n2_; have HI0 := n3_; clear n0_ n1_ n2_ n3_; (try clear hb); (try clear hb2); (try clear hk); (try clear hi); obtain ⟨Ao20, co20, eo20⟩ := Kd.R_slice HO_4.out; subst eo20; have q19 : (t529 : Int) ≤ ((x4_1.length : Int) : Int) := of_decide_eq_true (by first | (with_reducible assumption) | assumption); obtain ⟨i019, hi019, _, hsz19, _⟩ := info_parts info3; have hroom19 : x4_1.length ≤ co20 := (Kd.R_reads' HO_4.out).2.1; have hC19 : Kd.C (Kd.int .i64) _ Ao20 x4_1.length x4_1 := (Kd.R_reads' HO_4.out).2.2; have hcut19 := cut_to (P := Try.prog) 25 3 .i64 Try.underlying25 hi019 Ao20 x4_1.length co20 t529 (of_decide_eq_true (by first | (with_reducible assumption) | assumption)) q19 hroom19; have hr19 := Kd.C_take (m := (t529 : Int).toNat) hC19 (by omega); have hy19 : y532.length = (t529 : Int).toNat := (by rw [Ny532.out, List.length_take]; omega); rw [← Ny532.out] at hr19; rw [← hy19] at hcut19; have HR535 := Aside0.mk hr19; have HC535 := Aside0.mk (show y532.length ≤ co20 from by omega); clear hr19 hC19 hroom19 hi019 hsz19; have KY19 := Aside0.mk hy19; clear hy19; have KL19 := Aside0.mk (show (t529 : Int).toNat ≤ x4_1.length from by omega); replace q19 := eq_true q19) | ((with_reducible refine gate_callee (f := 82) rfl ?_); refine goesL_ (some 26) rfl rfl Try.func82 (by kernel_rfl) rfl #[.slice Ao20 y532.length co20] rfl (by (try simp only [List.map_toArray, List.map_cons, List.map_nil]); first | done | rfl | (simp only [List.length_drop, List.length_take]; rfl)) ?_; (with_reducible refine (spec_l1Own.calls _ _ y532 t536 _ ?side1 ?side2 A13.out).mono ?_); (case side1 => repeat (first | exact (by repeat (first | (with_reducible exact HR535.out) | (with_reducible refine Kd.C_alloc ?_ _) | (with_reducible refine Kd.C_drewN ?_ _) | (with_reducible refine Kd.C_drew ?_) | exact HR535.out)) | (with_reducible refine Kd.C_alloc ?_ _) | (with_reducible refine Kd.C_drewN ?_ _) | (with_reducible refine Kd.C_drew ?_))); (case side2 => exact HC535.out); rintro e w21 ⟨v537, rfl, ho0, hb⟩; refine ⟨_, rfl, ?_⟩; have n0_ := Aside0.mk (Kd.R_elder' (by (with_reducible repeat (first | apply Kd.R_alloc | apply Kd.R_drewN | apply Kd.R_drew)); exact HO_4.out) (Kd.R_base ho0) hb); have n1_ := Aside0.mk (Kd.R_lower (Kd.R_new' ho0 (Kd.R_lt (by (with_reducible repeat (first | apply Kd.R_alloc | apply Kd.R_drewN | apply Kd.R_drew)); exact HO_4.out))) (keep_size (w := w) (g := g) (row := none) (by repeat (first | (with_reducible first | exact HK.out | apply KeepBut.set_ | apply keep_drewN | apply keep_drew | apply keep_alloc) | exact HK.out)))); have n2_ := Aside0.mk (IsS55.below (by repeat (first | (with_reducible first | exact HI0.out | apply IsS55.alloc | apply IsS55.drewN | apply IsS55.drew | apply IsS55.set_1 | apply IsS55.set_2) | exact HI0.out)) hb); have n3_ := Aside0.mk (Kd.C_below (by repeat (first | (with_reducible exact HR535.out) | (with_reducible refine Kd.C_alloc ?_ _) | (with_reducible refine Kd.C_drewN ?_ _) | (with_reducible refine Kd.C_drew ?_) | exact HR535.out)) hb); have n4_ := Aside0.mk (KeepBut.trans (by repeat (first | (with_reducible first | exact HK.out | apply KeepBut.set_ | apply keep_drewN | apply keep_drew | apply keep_alloc) | exact HK.out)) (KeepBut.of_below hb g none) (.inl rfl)); have n5_ := Aside0.mk (below_step (by repeat (first | (with_reducible first | exact HB.out | apply below_alloc | apply pw_below_drewN | apply below_drew1 | refine below_set ?_ (IsS55.ge HI0.out)) | exact HB.out)) hb); clear HO_4; clear HI0; clear HR535; clear HK; clear HB; have HO_4 := n0_; have HO538 := n1_; have HI0 := n2_; have HR535 := n3_; have HK := n4_; have HB := n5_; clear n0_ n1_ n2_ n3_ n4_ n5_; (try clear hb); (try clear hb2); (try clear hk); (try clear hi); (try clear ho0)) | ((with_reducible refine gate_builtin (b := .append) (xs := #[.tmp 26, .tmp 32]) rfl ?_); at_builtin; refine Kd.R_append (Kd.int .i64) w.heap.size rfl (.tmp 26) (.tmp 32) 25 3 (.int .i64 0) 8 rfl Try.underlying25 info3 rfl (by decide) (by omega) v537 t536 (wrap64 ((wrap64 (x6_1 * t526)) + x6_1)) [.int .i64 (wrap64 ((wrap64 (x6_1 * t526)) + x6_1))] (fun k_ => some k_ ≠ (.slice Ao20 x4_1.length co20 : Value).ownBlock) (fun _ => False) rfl rfl ?aP (fun _ hk => hk.elim) ?aF ?aO (Below.refl _ _) ?aS ?aL ?_; (case aP => exact rfl); (case aF => exact (fun k_ hk => Kd.fresh' (Kd.R_lt (by (with_reducible repeat (first | apply Kd.R_alloc | apply Kd.R_drewN | apply Kd.R_drew)); exact HO_4.out)) k_ hk)); (case aO => exact (by (with_reducible repeat (first | apply Kd.R_alloc | apply Kd.R_drewN | apply Kd.R_drew)); exact Kd.R_mono HO538.out (fun _ hk => hk.2))); (case aS => exact (keep_size (w := w) (g := g) (row := none) (by repeat (first | (with_reducible first | exact HK.out | apply KeepBut.set_ | apply keep_drewN | apply keep_drew | apply keep_alloc) | exact HK.out)))); (case aL => have := LMc14.out; omega); intro v540 w22 ho hb hg hat; rw [← Ny539.out] at ho; have n0_ := Aside0.mk (Kd.R_after (ok := (fun _ => True)) (by (with_reducible repeat (first | apply Kd.R_alloc | apply Kd.R_drewN | apply Kd.R_drew)); exact HO_4.out) hg hat); have n1_ := Aside0.mk (IsS55.grown (by repeat (first | (with_reducible first | exact HI0.out | apply IsS55.alloc | apply IsS55.drewN | apply IsS55.drew | apply IsS55.set_1 | apply IsS55.set_2) | exact HI0.out)) hg (IsS55.own_ne HI0.out HO538.out (by decide))); have n2_ := Aside0.mk (below_weaken (by repeat (first | (with_reducible first | exact HB.out | apply below_alloc | apply pw_below_drewN | apply below_drew1 | refine below_set ?_ (IsS55.ge HI0.out)) | exact HB.out)) HL.out hb); have n3_ := Aside0.mk (KeepBut.trans (by repeat (first | (with_reducible first | exact HK.out | apply KeepBut.set_ | apply keep_drewN | apply keep_drew | apply keep_alloc) | exact HK.out)) (KeepBut.of_grown hg g) (Kd.R_base2 HO538.out)); have n4_ := Aside0.mk ((show Kd.C (Kd.int .i64) w22 Ao20 y532.length y532 from by rw [Ny532.out]; exact Kd.C_take (m := (t529 : Int).toNat) ((Kd.R_reads' (Kd.R_after (ok := (fun _ => True)) (by (with_reducible repeat (first | apply Kd.R_alloc | apply Kd.R_drewN | apply Kd.R_drew)); exact HO_4.out) hg hat)).2.2) KL19.out)); have n5_ := Aside0.mk (ho); clear HO_4; clear HI0; clear HB; clear HK; clear HR535; clear HO538; have HO_4 := n0_; have HI0 := n1_; have HB := n2_; have HK := n3_; have HR535 := n4_; have HO541 := n5_; clear n0_ n1_ n2_ n3_ n4_ n5_; clear ho hb hg hat; have q23 : (t529 : Int) ≤ ((x4_1.length : Int) : Int) := of_decide_eq_true (by first | (with_reducible assumption) | assumption); obtain ⟨i023, hi023, _, hsz23, _⟩ := info_parts info3; have hroom23 : x4_1.length ≤ co20 := (Kd.R_reads' HO_4.out).2.1; have hC23 : Kd.C (Kd.int .i64) _ Ao20 x4_1.length x4_1 := (Kd.R_reads' HO_4.out).2.2; have q023 : (0 : Int) ≤ (t529 : Int) := of_decide_eq_true (by first | (with_reducible assumption) | assumption); have hcut23 := cut_from (P := Try.prog) 25 3 .i64 Try.underlying25 hi023 1 hsz23 Ao20 x4_1.length co20 t529 q023 q23; have hr23 := Kd.C_drop (m := (t529 : Int).toNat) (c := co20) hC23 (by omega) hroom23; obtain ⟨A23, hA23⟩ : ∃ A1, A1 = (if co20 = (t529 : Int).toNat then Ao20 else (Ao20 : Option Addr).map (·.add ((t529 : Int).toNat * 1))) := ⟨_, rfl⟩; obtain ⟨c23, hc23⟩ : ∃ c1, c1 = co20 - (t529 : Int).toNat := ⟨_, rfl⟩; have hy23 : y542.length = x4_1.length - (t529 : Int).toNat := (by rw [Ny542.out, List.length_drop] <;> omega); rw [show (x4_1).drop (t529 : Int).toNat = y542 from Ny542.out.symm] at hr23; replace hr23 : Kd.C (Kd.int .i64) _ A23 y542.length y542 := (by rw [hA23]; exact hr23); rw [← hy23, ← hA23, ← hc23] at hcut23; have HR545 := Aside0.mk hr23; have HC545 := Aside0.mk (show y542.length ≤ c23 from by rw [hy23, hc23]; exact Nat.sub_le_sub_right hroom23 _); clear hr23 hC23 hroom23 hi023 hsz23 hc23; have KY23 := Aside0.mk hy23; have KA23 := Aside0.mk hA23; clear hy23 hA23; have KL23 := Aside0.mk (show (t529 : Int).toNat ≤ x4_1.length from by omega); replace q23 := eq_true q23) | ((with_reducible refine gate_builtin (b := .append) (xs := #[.tmp 34, .tmp 37]) rfl ?_); at_builtin; refine Kd.R_append_rows (Kd.int .i64) w.heap.size rfl (.tmp 34) (.tmp 37) 25 3 (.int .i64 0) 8 rfl Try.underlying25 info3 rfl (by decide) (by omega) v540 y539 y542 _ _ _ (fun k_ => some k_ ≠ (.slice Ao20 x4_1.length co20 : Value).ownBlock) (fun _ => False) rfl rfl ?aO ?aR (fun _ _ h => h) (fun _ h => h.elim) ?aF (Below.refl _ _) ?aS ?aL ?_; (case aR => repeat (first | exact (by repeat (first | (with_reducible exact HR545.out) | (with_reducible refine Kd.C_alloc ?_ _) | (with_reducible refine Kd.C_drewN ?_ _) | (with_reducible refine Kd.C_drew ?_) | exact HR545.out)) | (with_reducible refine Kd.C_alloc ?_ _) | (with_reducible refine Kd.C_drewN ?_ _) | (with_reducible refine Kd.C_drew ?_))); (case aF => exact (fun k_ hk => Kd.fresh' (Kd.R_lt (by (with_reducible repeat (first | apply Kd.R_alloc | apply Kd.R_drewN | apply Kd.R_drew)); exact HO_4.out)) k_ hk)); (case aO => exact (by (with_reducible repeat (first | apply Kd.R_alloc | apply Kd.R_drewN | apply Kd.R_drew)); exact HO541.out)); (case aS => exact (keep_size (w := w) (g := g) (row := none) (by repeat (first | (with_reducible first | exact HK.out | apply KeepBut.set_ | apply keep_drewN | apply keep_drew | apply keep_alloc) | exact HK.out)))); (case aL => have := LMc17.out; omega); intro v547 w24 ho hb hg hat; rw [← Ny546.out] at ho; have n0_ := Aside0.mk (Kd.R_after (ok := (fun _ => True)) (by (with_reducible repeat (first | apply Kd.R_alloc | apply Kd.R_drewN | apply Kd.R_drew)); exact HO_4.out) hg hat); have n1_ := Aside0.mk (IsS55.grown (by repeat (first | (with_reducible first | exact HI0.out | apply IsS55.alloc | apply IsS55.drewN | apply IsS55.drew | apply IsS55.set_1 | apply IsS55.set_2) | exact HI0.out)) hg (IsS55.own_ne HI0.out HO541.out (by decide))); have n2_ := Aside0.mk (below_weaken (by repeat (first | (with_reducible first | exact HB.out | apply below_alloc | apply pw_below_drewN | apply below_drew1 | refine below_set ?_ (IsS55.ge HI0.out)) | exact HB.out)) HL.out hb); have n3_ := Aside0.mk (KeepBut.trans (by repeat (first | (with_reducible first | exact HK.out | apply KeepBut.set_ | apply keep_drewN | apply keep_drew | apply keep_alloc) | exact HK.out)) (KeepBut.of_grown hg g) (Kd.R_base2 HO541.out)); have n4_ := Aside0.mk ((show Kd.C (Kd.int .i64) w24 Ao20 y532.length y532 from by rw [Ny532.out]; exact Kd.C_take (m := (t529 : Int).toNat) ((Kd.R_reads' (Kd.R_after (ok := (fun _ => True)) (by (with_reducible repeat (first | apply Kd.R_alloc | apply Kd.R_drewN | apply Kd.R_drew)); exact HO_4.out) hg hat)).2.2) KL19.out)); have n5_ := Aside0.mk ((show Kd.C (Kd.int .i64) w24 A23 y542.length y542 from by rw [Ny542.out, KA23.out]; exact Kd.C_drop (m := (t529 : Int).toNat) (c := co20) ((Kd.R_reads' (Kd.R_after (ok := (fun _ => True)) (by (with_reducible repeat (first | apply Kd.R_alloc | apply Kd.R_drewN | apply Kd.R_drew)); exact HO_4.out) hg hat)).2.2) KL23.out ((Kd.R_reads' (Kd.R_after (ok := (fun _ => True)) (by (with_reducible repeat (first | apply Kd.R_alloc | apply Kd.R_drewN | apply Kd.R_drew)); exact HO_4.out) hg hat)).2.1))); have n6_ := Aside0.mk (ho); clear HO_4; clear HI0; clear HB; clear HK; clear HR535; clear HR545; clear HO541; have HO_4 := n0_; have HI0 := n1_; have HB := n2_; have HK := n3_; have HR535 := n4_; have HR545 := n5_; have HO548 := n6_; clear n0_ n1_ n2_ n3_ n4_ n5_ n6_; clear ho hb hg hat))
                go_roundg k1
                case measure => have := HK1.out; omega
                case rel => exact ⟨(y546), (wrap64 (x6_1 + 1)), (t530), (t531), (by first | rfl | (simp; done) | (simp [*]; done)), H', ⟨by have := HK1.out; omega⟩, ⟨by (with_reducible repeat (first | apply Kd.R_alloc | apply Kd.R_drewN | apply Kd.R_drew)); exact Kd.R_mono HO548.out (fun _ hk => trivial)⟩, ⟨by repeat (first | (with_reducible first | exact HI0.out | apply IsS55.alloc | apply IsS55.drewN | apply IsS55.drew | apply IsS55.set_1 | apply IsS55.set_2) | exact HI0.out)⟩, ⟨by repeat (first | (with_reducible first | exact HK.out | apply KeepBut.set_ | apply keep_drewN | apply keep_drew | apply keep_alloc) | exact HK.out)⟩, ⟨by repeat (first | (with_reducible first | exact HB.out | apply below_alloc | apply pw_below_drewN | apply below_drew1 | refine below_set ?_ (IsS55.ge HI0.out)) | exact HB.out)⟩⟩
              · rw [if_neg c17] at H
                exact absurd H (by simp)
            · rw [if_neg c14] at H
              exact absurd H (by simp)
          · rw [if_neg c12] at H
            exact absurd H (by simp)
        · rw [if_neg c11] at H
          exact absurd H (by simp)
      · rw [if_neg c9] at H
        have c9b0 : decide (x6_1 < t523) = false := decide_eq_false c9
        clear c9
        replace H := Option.bind_eq_some_iff.mp H
        obtain ⟨⟨t549, t550, t551⟩, A250, H⟩ := H
        replace H : (if t549 = 0 then ((spec_l1Cur_pick.f s0_0 t550 t551 (x4_1.length : Int)).bind fun bt552 => ((spec_l1Cur_among.f s0_0 bt552.2.1 bt552.2.2 (([(-1), 999, 1000, 4611686018427387904] : List Int))).bind fun bt558 => (if 0 ≤ bt552.1 then (if bt552.1 < (x4_1.length : Int) then (some ((x4_1.set (bt552.1 : Int).toNat bt558.1), bt558.2.1, bt558.2.2)) else (none)) else (none)))) else (if t549 = 1 then (if 0 < (x4_1.length : Int) then (if x4_1.length < 17592186044416 then (some ((x4_1 ++ [rd x4_1 0]), t550, t551)) else (none)) else (none)) else (if t549 = 2 then (if 1 ≤ (x4_1.length : Int) then (some ((x4_1.take (1 : Int).toNat), t550, t551)) else (none)) else (some (x4_1, t550, t551))))) = some (r1, r2, r3) := H
        have A25 := Aside0.mk A250
        clear A250
        by_cases c26 : t549 = 0
        · rw [if_pos c26] at H
          have c26b0 : (t549 == 0) = true := beq_iff_eq.mpr c26
          have c26b1 : (t549 != 0) = false := bne_eq_false_iff_eq.mpr c26
          clear c26
          replace H := Option.bind_eq_some_iff.mp H
          obtain ⟨⟨t552, t553, t554⟩, A270, H⟩ := H
          replace H : ((spec_l1Cur_among.f s0_0 t553 t554 (([(-1), 999, 1000, 4611686018427387904] : List Int))).bind fun bt558 => (if 0 ≤ t552 then (if t552 < (x4_1.length : Int) then (some ((x4_1.set (t552 : Int).toNat bt558.1), bt558.2.1, bt558.2.2)) else (none)) else (none))) = some (r1, r2, r3) := H
          have A27 := Aside0.mk A270
          clear A270
          obtain ⟨y555, hy555⟩ : ∃ y_ : List Int, y_ = (([(-1), 999, 1000, 4611686018427387904] : List Int)) := ⟨_, rfl⟩
          replace H : ((spec_l1Cur_among.f s0_0 t553 t554 y555).bind fun bt558 => (if 0 ≤ t552 then (if t552 < (x4_1.length : Int) then (some ((x4_1.set (t552 : Int).toNat bt558.1), bt558.2.1, bt558.2.2)) else (none)) else (none))) = some (r1, r2, r3) := by first | (rw [hy555]; with_reducible exact H) | (have H2_ := (Option.bind_some _ _).symm.trans H; rw [hy555]; with_reducible exact H2_) | (have H2_ := (Option.bind_some _ _).symm.trans H; with_reducible exact H2_) | with_reducible exact H | (rw [hy555]; exact H) | exact H
          have Ny555 := Aside0.mk hy555
          clear hy555
          replace H := Option.bind_eq_some_iff.mp H
          obtain ⟨⟨t558, t559, t560⟩, A280, H⟩ := H
          replace H : (if 0 ≤ t552 then (if t552 < (x4_1.length : Int) then (some ((x4_1.set (t552 : Int).toNat t558), t559, t560)) else (none)) else (none)) = some (r1, r2, r3) := H
          have A28 := Aside0.mk A280
          clear A280
          by_cases c29 : 0 ≤ t552
          · rw [if_pos c29] at H
            have c29b0 : decide (0 ≤ t552) = true := decide_eq_true c29
            clear c29
            by_cases c30 : t552 < (x4_1.length : Int)
            · rw [if_pos c30] at H
              have c30b0 : decide (t552 < (x4_1.length : Int)) = true := decide_eq_true c30
              clear c30
              obtain ⟨y561, hy561⟩ : ∃ y_ : List Int, y_ = (x4_1.set (t552 : Int).toNat t558) := ⟨_, rfl⟩
              replace H : (some (y561, t559, t560)) = some (r1, r2, r3) := by first | (rw [hy561]; with_reducible exact H) | (have H2_ := (Option.bind_some _ _).symm.trans H; rw [hy561]; with_reducible exact H2_) | (have H2_ := (Option.bind_some _ _).symm.trans H; with_reducible exact H2_) | with_reducible exact H | (rw [hy561]; exact H) | exact H
              have Ny561 := Aside0.mk hy561
              clear hy561
              simp only [Option.some.injEq, Prod.mk.injEq] at H
              obtain ⟨rfl, rfl, rfl⟩ := H
              go_wp2_with (first | ((with_reducible refine gate_callee (f := 84) rfl ?_); refine goesL_ (some 40) rfl rfl Try.func84 (by kernel_rfl) rfl #[.pointer (some ⟨g, 0, none⟩), .int .i64 16] rfl (by (try simp only [List.map_toArray, List.map_cons, List.map_nil]); first | done | rfl | (simp only [List.length_drop, List.length_take]; rfl)) ?_; (with_reducible refine (spec_l1Cur_pick.calls g s0_0 x1001_1 x1002_1 16 t549 t550 t551 w0 _ ?side1 ?side2 A25.out).mono ?_); (case side1 => repeat (first | (with_reducible first | exact HI0.out | apply IsS55.alloc | apply IsS55.drewN | apply IsS55.drew | apply IsS55.set_1 | apply IsS55.set_2) | exact HI0.out)); (case side2 => repeat (first | (with_reducible first | exact HB.out | apply below_alloc | apply pw_below_drewN | apply below_drew1 | refine below_set ?_ (IsS55.ge HI0.out)) | exact HB.out)); rintro e w32 ⟨rfl, hi, hb, hk⟩; refine ⟨_, rfl, ?_⟩; have n0_ := Aside0.mk (Kd.R_mono (Kd.R_keep (IsS55.apart (show IsS55 w0 _ g s0_0 x1001_1 x1002_1 from by repeat (first | (with_reducible first | exact HI0.out | apply IsS55.alloc | apply IsS55.drewN | apply IsS55.drew | apply IsS55.set_1 | apply IsS55.set_2) | exact HI0.out)) (by (with_reducible repeat (first | apply Kd.R_alloc | apply Kd.R_drewN | apply Kd.R_drew)); exact HO_4.out) (by decide)) hk (fun _ h => h.2)) (fun _ h => h.1)); have n1_ := Aside0.mk (KeepBut.trans (by repeat (first | (with_reducible first | exact HK.out | apply KeepBut.set_ | apply keep_drewN | apply keep_drew | apply keep_alloc) | exact HK.out)) hk (.inl rfl)); have n2_ := Aside0.mk (hb); have n3_ := Aside0.mk (hi); clear HO_4; clear HK; clear HB; clear HI0; have HO_4 := n0_; have HK := n1_; have HB := n2_; have HI0 := n3_; clear n0_ n1_ n2_ n3_; (try clear hb); (try clear hb2); (try clear hk); (try clear hi); obtain ⟨Ao33, co33, eo33⟩ := Kd.R_slice HO_4.out; subst eo33) | ((with_reducible refine gate_callee (f := 84) rfl ?_); refine goesL_ (some 47) rfl rfl Try.func84 (by kernel_rfl) rfl #[.pointer (some ⟨g, 0, none⟩), .int .i64 (x4_1.length : Int)] rfl (by (try simp only [List.map_toArray, List.map_cons, List.map_nil]); first | done | rfl | (simp only [List.length_drop, List.length_take]; rfl)) ?_; (with_reducible refine (spec_l1Cur_pick.calls g s0_0 t550 t551 (x4_1.length : Int) t552 t553 t554 w0 _ ?side1 ?side2 A27.out).mono ?_); (case side1 => repeat (first | (with_reducible first | exact HI0.out | apply IsS55.alloc | apply IsS55.drewN | apply IsS55.drew | apply IsS55.set_1 | apply IsS55.set_2) | exact HI0.out)); (case side2 => repeat (first | (with_reducible first | exact HB.out | apply below_alloc | apply pw_below_drewN | apply below_drew1 | refine below_set ?_ (IsS55.ge HI0.out)) | exact HB.out)); rintro e w34 ⟨rfl, hi, hb, hk⟩; refine ⟨_, rfl, ?_⟩; have n0_ := Aside0.mk (Kd.R_mono (Kd.R_keep (IsS55.apart (show IsS55 w0 _ g s0_0 t550 t551 from by repeat (first | (with_reducible first | exact HI0.out | apply IsS55.alloc | apply IsS55.drewN | apply IsS55.drew | apply IsS55.set_1 | apply IsS55.set_2) | exact HI0.out)) (by (with_reducible repeat (first | apply Kd.R_alloc | apply Kd.R_drewN | apply Kd.R_drew)); exact HO_4.out) (by decide)) hk (fun _ h => h.2)) (fun _ h => h.1)); have n1_ := Aside0.mk (KeepBut.trans (by repeat (first | (with_reducible first | exact HK.out | apply KeepBut.set_ | apply keep_drewN | apply keep_drew | apply keep_alloc) | exact HK.out)) hk (.inl rfl)); have n2_ := Aside0.mk (hb); have n3_ := Aside0.mk (hi); clear HO_4; clear HK; clear HB; clear HI0; have HO_4 := n0_; have HK := n1_; have HB := n2_; have HI0 := n3_; clear n0_ n1_ n2_ n3_; (try clear hb); (try clear hb2); (try clear hk); (try clear hi)) | ((with_reducible refine gate_dst (N := 49) rfl ?_); refine Kd.R_lit (Kd.int .i64) _ 3 ?hg (N := 49) ?hd (xs := ([(-1), 999, 1000, 4611686018427387904] : List Int)) (inner := [.int .i64 (-1), .int .i64 999, .int .i64 1000, .int .i64 4611686018427387904]) (ok := fun _ => True) (okp := fun _ => True) ?hr ?hp (fun _ hk => hk) trivial (Below.refl _ _) (Nat.le_refl _) (by simp) ?_; (case hd => rfl); (case hg => rfl); (case hr => first | (go_simp; done) | (go_simp; rfl)); (case hp => exact (Reps.one (show Kd.M (Kd.int .i64) _ _ _ (-1) [.int .i64 (-1)] from rfl) (Reps.one (show Kd.M (Kd.int .i64) _ _ _ 999 [.int .i64 999] from rfl) (Reps.one (show Kd.M (Kd.int .i64) _ _ _ 1000 [.int .i64 1000] from rfl) (Reps.one (show Kd.M (Kd.int .i64) _ _ _ 4611686018427387904 [.int .i64 4611686018427387904] from rfl) (Reps.none _ _)))))); intro v556 w35 ho36 hb hg_ hnew_; clear hg_ hnew_; (first | rw [← Ny555.out] at ho36 | (simp only [Int.reduceToNat] at ho36; rw [← Ny555.out] at ho36)); have n0_ := Aside0.mk (Kd.R_elder' (by (with_reducible repeat (first | apply Kd.R_alloc | apply Kd.R_drewN | apply Kd.R_drew)); exact HO_4.out) (Kd.R_base ho36) hb); have n1_ := Aside0.mk (Kd.R_lower (Kd.R_new' ho36 (Kd.R_lt (by (with_reducible repeat (first | apply Kd.R_alloc | apply Kd.R_drewN | apply Kd.R_drew)); exact HO_4.out))) (keep_size (w := w) (g := g) (row := none) (by repeat (first | (with_reducible first | exact HK.out | apply KeepBut.set_ | apply keep_drewN | apply keep_drew | apply keep_alloc) | exact HK.out)))); have n2_ := Aside0.mk (IsS55.below (by repeat (first | (with_reducible first | exact HI0.out | apply IsS55.alloc | apply IsS55.drewN | apply IsS55.drew | apply IsS55.set_1 | apply IsS55.set_2) | exact HI0.out)) hb); have n3_ := Aside0.mk (KeepBut.trans (by repeat (first | (with_reducible first | exact HK.out | apply KeepBut.set_ | apply keep_drewN | apply keep_drew | apply keep_alloc) | exact HK.out)) (KeepBut.of_below hb g none) (.inl rfl)); have n4_ := Aside0.mk (below_step (by repeat (first | (with_reducible first | exact HB.out | apply below_alloc | apply pw_below_drewN | apply below_drew1 | refine below_set ?_ (IsS55.ge HI0.out)) | exact HB.out)) hb); clear HO_4; clear HI0; clear HK; clear HB; have HO_4 := n0_; have HO557 := n1_; have HI0 := n2_; have HK := n3_; have HB := n4_; clear n0_ n1_ n2_ n3_ n4_; clear hb ho36; obtain ⟨Ao37, co37, eo37⟩ := Kd.R_slice HO557.out; subst eo37) | ((with_reducible refine gate_callee (f := 71) rfl ?_); refine goesL_ (some 50) rfl rfl Try.func71 (by kernel_rfl) rfl #[.pointer (some ⟨g, 0, none⟩), .slice Ao37 y555.length co37] rfl (by (try simp only [List.map_toArray, List.map_cons, List.map_nil]); first | done | rfl | (simp only [List.length_drop, List.length_take]; rfl)) ?_; (with_reducible refine (spec_l1Cur_among.calls g s0_0 t553 t554 _ _ y555 t558 t559 t560 w0 _ ?side1 ?side2 ?side3 ?side4 ?side5 A28.out).mono ?_); (case side1 => repeat (first | (with_reducible first | exact HI0.out | apply IsS55.alloc | apply IsS55.drewN | apply IsS55.drew | apply IsS55.set_1 | apply IsS55.set_2) | exact HI0.out)); (case side2 => repeat (first | (with_reducible first | exact HB.out | apply below_alloc | apply pw_below_drewN | apply below_drew1 | refine below_set ?_ (IsS55.ge HI0.out)) | exact HB.out)); (case side3 => repeat (first | exact (Kd.R_reads' HO557.out).2.2 | (with_reducible refine Kd.C_alloc ?_ _) | (with_reducible refine Kd.C_drewN ?_ _) | (with_reducible refine Kd.C_drew ?_))); (case side4 => exact (Kd.R_reads' HO557.out).2.1); (case side5 => exact far_slice (IsS55.own_ne HI0.out HO557.out (by decide))); rintro e w38 ⟨rfl, hi, hb, hk⟩; refine ⟨_, rfl, ?_⟩; have n0_ := Aside0.mk (Kd.R_mono (Kd.R_keep (IsS55.apart (show IsS55 w0 _ g s0_0 t553 t554 from by repeat (first | (with_reducible first | exact HI0.out | apply IsS55.alloc | apply IsS55.drewN | apply IsS55.drew | apply IsS55.set_1 | apply IsS55.set_2) | exact HI0.out)) (by (with_reducible repeat (first | apply Kd.R_alloc | apply Kd.R_drewN | apply Kd.R_drew)); exact HO_4.out) (by decide)) hk (fun _ h => h.2)) (fun _ h => h.1)); have n1_ := Aside0.mk (Kd.R_mono (Kd.R_keep (IsS55.apart (show IsS55 w0 _ g s0_0 t553 t554 from by repeat (first | (with_reducible first | exact HI0.out | apply IsS55.alloc | apply IsS55.drewN | apply IsS55.drew | apply IsS55.set_1 | apply IsS55.set_2) | exact HI0.out)) (by (with_reducible repeat (first | apply Kd.R_alloc | apply Kd.R_drewN | apply Kd.R_drew)); exact HO557.out) (by decide)) hk (fun _ h => h.2)) (fun _ h => h.1)); have n2_ := Aside0.mk (KeepBut.trans (by repeat (first | (with_reducible first | exact HK.out | apply KeepBut.set_ | apply keep_drewN | apply keep_drew | apply keep_alloc) | exact HK.out)) hk (.inl rfl)); have n3_ := Aside0.mk (hb); have n4_ := Aside0.mk (hi); clear HO_4; clear HO557; clear HK; clear HB; clear HI0; have HO_4 := n0_; have HO557 := n1_; have HK := n2_; have HB := n3_; have HI0 := n4_; clear n0_ n1_ n2_ n3_ n4_; (try clear hb); (try clear hb2); (try clear hk); (try clear hi); have p31 : 0 ≤ (t552 : Int) := of_decide_eq_true (by first | (with_reducible assumption) | assumption); have q31 : (t552 : Int) < ((x4_1.length : Int) : Int) := of_decide_eq_true (by first | (with_reducible assumption) | assumption); obtain ⟨go31, co31, eo31, gb31, gl31, cl31, HG31⟩ := Kd.R_form HO_4.out (by omega); (first | cases eo31 | (injection eo31 with ea_ en_ ec_; (first | subst ea_ | (injection ea_ with ea_; subst ea_)); subst ec_; clear en_)); have GB31 := Aside0.mk gb31; have GG31 := Aside0.mk HG31; clear gb31 gl31 HG31; obtain ⟨hx31_0, hf31_0⟩ := Kd.R_celln 0 HO_4.out (t552 : Int) p31 q31; replace p31 := eq_true p31; replace q31 := eq_true q31; have n_ := Aside0.mk (Kd.R_mono (ok' := (fun k_ => some k_ ≠ (.slice Ao37 y555.length co37 : Value).ownBlock)) HO_4.out (fun k_ hk => hk.2)); clear HO_4; have HO_4 := n_; clear n_; obtain ⟨hy39_, hz39_⟩ := Kd.R_celln 0 HO_4.out (t552 : Int) (of_decide_eq_true (by first | (with_reducible assumption) | assumption)) (of_decide_eq_true (by first | (with_reducible assumption) | assumption)); have HP39 := Kd.R_putg HO_4.out (t552 : Int) t558) | ((with_reducible refine gate_store (t := 3) (p := 51) rfl ?_); refine store_event (t := 3) (p := 51) (v := ?vo_w40) (w1 := (w38.setCell ⟨go31, (t552 : Int).toNat, none⟩ (.int .i64 t558))) ?hg ?ho ?hn ?hr ?_; (case ho => rfl); (case hg => rfl); (case hn => rfl); (case hr => first | (go_simp; done) | (go_simp; rfl)); intro w40 hw; have hg : w38.grownBy w40 (some go31) := (by rw [hw]; exact HP39.2); have hp_ : Kd.R (Kd.int .i64) 3 w40 w.heap.size (fun k_ => some k_ ≠ (.slice Ao37 y555.length co37 : Value).ownBlock) (.slice (some ⟨go31, 0, none⟩) x4_1.length co33) y561 := (by rw [hw, Ny561.out]; exact HP39.1); clear HP39; have n0_ := Aside0.mk (hp_); have n1_ := Aside0.mk (IsS55.grown (by repeat (first | (with_reducible first | exact HI0.out | apply IsS55.alloc | apply IsS55.drewN | apply IsS55.drew | apply IsS55.set_1 | apply IsS55.set_2) | exact HI0.out)) hg (IsS55.own_ne HI0.out HO_4.out (by decide))); have n2_ := Aside0.mk (Kd.R_after (v := (.slice (some ⟨go31, 0, none⟩) x4_1.length co33)) (v1 := (.slice (some ⟨go31, 0, none⟩) x4_1.length co33)) (ok := (fun _ => True)) (by (with_reducible repeat (first | apply Kd.R_alloc | apply Kd.R_drewN | apply Kd.R_drew)); exact HO557.out) hg (.inl rfl)); have n3_ := Aside0.mk ((by rw [hw]; exact below_set (HB.out) (Nat.le_trans HL.out GB31.out) : Below w0.heap.size w0 w40)); have n4_ := Aside0.mk (KeepBut.trans (by repeat (first | (with_reducible first | exact HK.out | apply KeepBut.set_ | apply keep_drewN | apply keep_drew | apply keep_alloc) | exact HK.out)) (KeepBut.of_grown hg g) (Kd.R_base2 HO_4.out)); clear HO_4; clear HI0; clear HO557; clear HB; clear HK; have HO_4 := n0_; have HI0 := n1_; have HO557 := n2_; have HB := n3_; have HK := n4_; clear n0_ n1_ n2_ n3_ n4_; clear hg hw hp_))
              go_ret
              exact ⟨_, by first | rfl | (simp [errW_none, errW_some] <;> rfl) | (simp [*, errW_none, errW_some] <;> rfl), by (with_reducible repeat (first | apply Kd.R_alloc | apply Kd.R_drewN | apply Kd.R_drew)); exact Kd.R_mono HO_4.out (fun _ hk => trivial), by repeat (first | (with_reducible first | exact HI0.out | apply IsS55.alloc | apply IsS55.drewN | apply IsS55.drew | apply IsS55.set_1 | apply IsS55.set_2) | exact HI0.out), by repeat (first | (with_reducible first | exact HB.out | apply below_alloc | apply pw_below_drewN | apply below_drew1 | refine below_set ?_ (IsS55.ge HI0.out)) | exact HB.out), by repeat (first | (with_reducible first | exact HK.out | apply KeepBut.set_ | apply keep_drewN | apply keep_drew | apply keep_alloc) | exact HK.out)⟩
            · rw [if_neg c30] at H
              exact absurd H (by simp)
          · rw [if_neg c29] at H
            exact absurd H (by simp)
        · rw [if_neg c26] at H
          have c26b0 : (t549 == 0) = false := beq_eq_false_iff_ne.mpr c26
          have c26b1 : (t549 != 0) = true := bne_iff_ne.mpr c26
          by_cases c41 : t549 = 1
          · rw [if_pos c41] at H
            have c41b0 : (t549 == 1) = true := beq_iff_eq.mpr c41
            have c41b1 : (t549 != 1) = false := bne_eq_false_iff_eq.mpr c41
            clear c41
            by_cases c42 : 0 < (x4_1.length : Int)
            · rw [if_pos c42] at H
              have c42b0 : decide (0 < (x4_1.length : Int)) = true := decide_eq_true c42
              have c42b1 : decide (0 < x4_1.length) = true := decide_eq_true (by omega)
              clear c42
              by_cases c43 : x4_1.length < 17592186044416
              · rw [if_pos c43] at H
                have LMc43 := Aside0.mk c43
                clear c43
                obtain ⟨y563, hy563⟩ : ∃ y_ : List Int, y_ = (x4_1 ++ [rd x4_1 0]) := ⟨_, rfl⟩
                replace H : (some (y563, t550, t551)) = some (r1, r2, r3) := by first | (rw [hy563]; with_reducible exact H) | (have H2_ := (Option.bind_some _ _).symm.trans H; rw [hy563]; with_reducible exact H2_) | (have H2_ := (Option.bind_some _ _).symm.trans H; with_reducible exact H2_) | with_reducible exact H | (rw [hy563]; exact H) | exact H
                have Ny563 := Aside0.mk hy563
                clear hy563
                simp only [Option.some.injEq, Prod.mk.injEq] at H
                obtain ⟨rfl, rfl, rfl⟩ := H
                go_wp2_with (first | ((with_reducible refine gate_callee (f := 84) rfl ?_); refine goesL_ (some 40) rfl rfl Try.func84 (by kernel_rfl) rfl #[.pointer (some ⟨g, 0, none⟩), .int .i64 16] rfl (by (try simp only [List.map_toArray, List.map_cons, List.map_nil]); first | done | rfl | (simp only [List.length_drop, List.length_take]; rfl)) ?_; (with_reducible refine (spec_l1Cur_pick.calls g s0_0 x1001_1 x1002_1 16 t549 t550 t551 w0 _ ?side1 ?side2 A25.out).mono ?_); (case side1 => repeat (first | (with_reducible first | exact HI0.out | apply IsS55.alloc | apply IsS55.drewN | apply IsS55.drew | apply IsS55.set_1 | apply IsS55.set_2) | exact HI0.out)); (case side2 => repeat (first | (with_reducible first | exact HB.out | apply below_alloc | apply pw_below_drewN | apply below_drew1 | refine below_set ?_ (IsS55.ge HI0.out)) | exact HB.out)); rintro e w44 ⟨rfl, hi, hb, hk⟩; refine ⟨_, rfl, ?_⟩; have n0_ := Aside0.mk (Kd.R_mono (Kd.R_keep (IsS55.apart (show IsS55 w0 _ g s0_0 x1001_1 x1002_1 from by repeat (first | (with_reducible first | exact HI0.out | apply IsS55.alloc | apply IsS55.drewN | apply IsS55.drew | apply IsS55.set_1 | apply IsS55.set_2) | exact HI0.out)) (by (with_reducible repeat (first | apply Kd.R_alloc | apply Kd.R_drewN | apply Kd.R_drew)); exact HO_4.out) (by decide)) hk (fun _ h => h.2)) (fun _ h => h.1)); have n1_ := Aside0.mk (KeepBut.trans (by repeat (first | (with_reducible first | exact HK.out | apply KeepBut.set_ | apply keep_drewN | apply keep_drew | apply keep_alloc) | exact HK.out)) hk (.inl rfl)); have n2_ := Aside0.mk (hb); have n3_ := Aside0.mk (hi); clear HO_4; clear HK; clear HB; clear HI0; have HO_4 := n0_; have HK := n1_; have HB := n2_; have HI0 := n3_; clear n0_ n1_ n2_ n3_; (try clear hb); (try clear hb2); (try clear hk); (try clear hi); obtain ⟨Ao45, co45, eo45⟩ := Kd.R_slice HO_4.out; subst eo45; have p562 : 0 ≤ (0 : Int) := (by omega); have q562 : 0 < (x4_1.length : Int) := of_decide_eq_true (by first | (with_reducible assumption) | assumption); obtain ⟨ad562, e562, hx562_0⟩ := Kd.at_int (Kd.R_reads' HO_4.out).2.2 0 p562 q562; cases e562; have qi562 : (0 < x4_1.length) = True := eq_true (by omega); (try rw [show ((0 : Int)).toNat = 0 from rfl] at hx562_0); (try rw [Addr.add_zero'] at hx562_0); replace p562 := eq_true p562; replace q562 := eq_true q562) | ((with_reducible refine gate_builtin (b := .append) (xs := #[.tmp 54, .tmp 58]) rfl ?_); at_builtin; refine Kd.R_append (Kd.int .i64) w.heap.size rfl (.tmp 54) (.tmp 58) 25 3 (.int .i64 0) 8 rfl Try.underlying25 info3 rfl (by decide) (by omega) (.slice (some ad562) x4_1.length co45) x4_1 (rd x4_1 0) [.int .i64 (rd x4_1 0)] (fun _ => True) (fun _ => False) rfl rfl ?aP (fun _ hk => hk.elim) ?aF ?aO (Below.refl _ _) ?aS ?aL ?_; (case aP => exact rfl); (case aF => exact (fun _ _ => trivial)); (case aO => exact (by (with_reducible repeat (first | apply Kd.R_alloc | apply Kd.R_drewN | apply Kd.R_drew)); exact HO_4.out)); (case aS => exact (keep_size (w := w) (g := g) (row := none) (by repeat (first | (with_reducible first | exact HK.out | apply KeepBut.set_ | apply keep_drewN | apply keep_drew | apply keep_alloc) | exact HK.out)))); (case aL => have := LMc43.out; omega); intro v564 w46 ho hb hg hat; rw [← Ny563.out] at ho; have n0_ := Aside0.mk (IsS55.grown (by repeat (first | (with_reducible first | exact HI0.out | apply IsS55.alloc | apply IsS55.drewN | apply IsS55.drew | apply IsS55.set_1 | apply IsS55.set_2) | exact HI0.out)) hg (IsS55.own_ne HI0.out HO_4.out (by decide))); have n1_ := Aside0.mk (below_weaken (by repeat (first | (with_reducible first | exact HB.out | apply below_alloc | apply pw_below_drewN | apply below_drew1 | refine below_set ?_ (IsS55.ge HI0.out)) | exact HB.out)) HL.out hb); have n2_ := Aside0.mk (KeepBut.trans (by repeat (first | (with_reducible first | exact HK.out | apply KeepBut.set_ | apply keep_drewN | apply keep_drew | apply keep_alloc) | exact HK.out)) (KeepBut.of_grown hg g) (Kd.R_base2 HO_4.out)); have n3_ := Aside0.mk (ho); clear HI0; clear HB; clear HK; clear HO_4; have HI0 := n0_; have HB := n1_; have HK := n2_; have HO565 := n3_; clear n0_ n1_ n2_ n3_; clear ho hb hg hat))
                go_ret
                exact ⟨_, by first | rfl | (simp [errW_none, errW_some] <;> rfl) | (simp [*, errW_none, errW_some] <;> rfl), by (with_reducible repeat (first | apply Kd.R_alloc | apply Kd.R_drewN | apply Kd.R_drew)); exact HO565.out, by repeat (first | (with_reducible first | exact HI0.out | apply IsS55.alloc | apply IsS55.drewN | apply IsS55.drew | apply IsS55.set_1 | apply IsS55.set_2) | exact HI0.out), by repeat (first | (with_reducible first | exact HB.out | apply below_alloc | apply pw_below_drewN | apply below_drew1 | refine below_set ?_ (IsS55.ge HI0.out)) | exact HB.out), by repeat (first | (with_reducible first | exact HK.out | apply KeepBut.set_ | apply keep_drewN | apply keep_drew | apply keep_alloc) | exact HK.out)⟩
              · rw [if_neg c43] at H
                exact absurd H (by simp)
            · rw [if_neg c42] at H
              exact absurd H (by simp)
          · rw [if_neg c41] at H
            have c41b0 : (t549 == 1) = false := beq_eq_false_iff_ne.mpr c41
            have c41b1 : (t549 != 1) = true := bne_iff_ne.mpr c41
            by_cases c47 : t549 = 2
            · rw [if_pos c47] at H
              have c47b0 : (t549 == 2) = true := beq_iff_eq.mpr c47
              have c47b1 : (t549 != 2) = false := bne_eq_false_iff_eq.mpr c47
              clear c47
              by_cases c48 : 1 ≤ (x4_1.length : Int)
              · rw [if_pos c48] at H
                have c48b0 := eq_true c48
                have c48b1 : decide (1 ≤ (x4_1.length : Int)) = true := decide_eq_true c48
                clear c48
                obtain ⟨y566, hy566⟩ : ∃ y_ : List Int, y_ = (x4_1.take (1 : Int).toNat) := ⟨_, rfl⟩
                replace H : (some (y566, t550, t551)) = some (r1, r2, r3) := by first | (rw [hy566]; with_reducible exact H) | (have H2_ := (Option.bind_some _ _).symm.trans H; rw [hy566]; with_reducible exact H2_) | (have H2_ := (Option.bind_some _ _).symm.trans H; with_reducible exact H2_) | with_reducible exact H | (rw [hy566]; exact H) | exact H
                have Ny566 := Aside0.mk hy566
                clear hy566
                simp only [Option.some.injEq, Prod.mk.injEq] at H
                obtain ⟨rfl, rfl, rfl⟩ := H
                go_wp2_with (first | ((with_reducible refine gate_callee (f := 84) rfl ?_); refine goesL_ (some 40) rfl rfl Try.func84 (by kernel_rfl) rfl #[.pointer (some ⟨g, 0, none⟩), .int .i64 16] rfl (by (try simp only [List.map_toArray, List.map_cons, List.map_nil]); first | done | rfl | (simp only [List.length_drop, List.length_take]; rfl)) ?_; (with_reducible refine (spec_l1Cur_pick.calls g s0_0 x1001_1 x1002_1 16 t549 t550 t551 w0 _ ?side1 ?side2 A25.out).mono ?_); (case side1 => repeat (first | (with_reducible first | exact HI0.out | apply IsS55.alloc | apply IsS55.drewN | apply IsS55.drew | apply IsS55.set_1 | apply IsS55.set_2) | exact HI0.out)); (case side2 => repeat (first | (with_reducible first | exact HB.out | apply below_alloc | apply pw_below_drewN | apply below_drew1 | refine below_set ?_ (IsS55.ge HI0.out)) | exact HB.out)); rintro e w49 ⟨rfl, hi, hb, hk⟩; refine ⟨_, rfl, ?_⟩; have n0_ := Aside0.mk (Kd.R_mono (Kd.R_keep (IsS55.apart (show IsS55 w0 _ g s0_0 x1001_1 x1002_1 from by repeat (first | (with_reducible first | exact HI0.out | apply IsS55.alloc | apply IsS55.drewN | apply IsS55.drew | apply IsS55.set_1 | apply IsS55.set_2) | exact HI0.out)) (by (with_reducible repeat (first | apply Kd.R_alloc | apply Kd.R_drewN | apply Kd.R_drew)); exact HO_4.out) (by decide)) hk (fun _ h => h.2)) (fun _ h => h.1)); have n1_ := Aside0.mk (KeepBut.trans (by repeat (first | (with_reducible first | exact HK.out | apply KeepBut.set_ | apply keep_drewN | apply keep_drew | apply keep_alloc) | exact HK.out)) hk (.inl rfl)); have n2_ := Aside0.mk (hb); have n3_ := Aside0.mk (hi); clear HO_4; clear HK; clear HB; clear HI0; have HO_4 := n0_; have HK := n1_; have HB := n2_; have HI0 := n3_; clear n0_ n1_ n2_ n3_; (try clear hb); (try clear hb2); (try clear hk); (try clear hi); obtain ⟨Ao50, co50, eo50⟩ := Kd.R_slice HO_4.out; subst eo50; have q51 : (1 : Int) ≤ ((x4_1.length : Int) : Int) := of_decide_eq_true (by first | (with_reducible assumption) | assumption); obtain ⟨i051, hi051, _, hsz51, _⟩ := info_parts info3; have hcut51 := cut_to (P := Try.prog) 25 3 .i64 Try.underlying25 hi051 Ao50 x4_1.length co50 1 (by omega) q51 (Kd.R_reads' HO_4.out).2.1; have hr51 := Kd.R_take (m := (1 : Int).toNat) HO_4.out (by omega); have hy51 : y566.length = (1 : Int).toNat := (by rw [Ny566.out, List.length_take]; omega); rw [← Ny566.out] at hr51; rw [← hy51] at hr51 hcut51; clear hy51 hi051 hsz51 HO_4; have HO568 := Aside0.mk hr51; clear hr51; replace q51 := eq_true q51))
                go_ret
                exact ⟨_, by first | rfl | (simp [errW_none, errW_some] <;> rfl) | (simp [*, errW_none, errW_some] <;> rfl), by (with_reducible repeat (first | apply Kd.R_alloc | apply Kd.R_drewN | apply Kd.R_drew)); exact HO568.out, by repeat (first | (with_reducible first | exact HI0.out | apply IsS55.alloc | apply IsS55.drewN | apply IsS55.drew | apply IsS55.set_1 | apply IsS55.set_2) | exact HI0.out), by repeat (first | (with_reducible first | exact HB.out | apply below_alloc | apply pw_below_drewN | apply below_drew1 | refine below_set ?_ (IsS55.ge HI0.out)) | exact HB.out), by repeat (first | (with_reducible first | exact HK.out | apply KeepBut.set_ | apply keep_drewN | apply keep_drew | apply keep_alloc) | exact HK.out)⟩
              · rw [if_neg c48] at H
                exact absurd H (by simp)
            · rw [if_neg c47] at H
              have c47b0 : (t549 == 2) = false := beq_eq_false_iff_ne.mpr c47
              have c47b1 : (t549 != 2) = true := bne_iff_ne.mpr c47
              simp only [Option.some.injEq, Prod.mk.injEq] at H
              obtain ⟨rfl, rfl, rfl⟩ := H
              go_wp2_with (first | ((with_reducible refine gate_callee (f := 84) rfl ?_); refine goesL_ (some 40) rfl rfl Try.func84 (by kernel_rfl) rfl #[.pointer (some ⟨g, 0, none⟩), .int .i64 16] rfl (by (try simp only [List.map_toArray, List.map_cons, List.map_nil]); first | done | rfl | (simp only [List.length_drop, List.length_take]; rfl)) ?_; (with_reducible refine (spec_l1Cur_pick.calls g s0_0 x1001_1 x1002_1 16 t549 t550 t551 w0 _ ?side1 ?side2 A25.out).mono ?_); (case side1 => repeat (first | (with_reducible first | exact HI0.out | apply IsS55.alloc | apply IsS55.drewN | apply IsS55.drew | apply IsS55.set_1 | apply IsS55.set_2) | exact HI0.out)); (case side2 => repeat (first | (with_reducible first | exact HB.out | apply below_alloc | apply pw_below_drewN | apply below_drew1 | refine below_set ?_ (IsS55.ge HI0.out)) | exact HB.out)); rintro e w52 ⟨rfl, hi, hb, hk⟩; refine ⟨_, rfl, ?_⟩; have n0_ := Aside0.mk (Kd.R_mono (Kd.R_keep (IsS55.apart (show IsS55 w0 _ g s0_0 x1001_1 x1002_1 from by repeat (first | (with_reducible first | exact HI0.out | apply IsS55.alloc | apply IsS55.drewN | apply IsS55.drew | apply IsS55.set_1 | apply IsS55.set_2) | exact HI0.out)) (by (with_reducible repeat (first | apply Kd.R_alloc | apply Kd.R_drewN | apply Kd.R_drew)); exact HO_4.out) (by decide)) hk (fun _ h => h.2)) (fun _ h => h.1)); have n1_ := Aside0.mk (KeepBut.trans (by repeat (first | (with_reducible first | exact HK.out | apply KeepBut.set_ | apply keep_drewN | apply keep_drew | apply keep_alloc) | exact HK.out)) hk (.inl rfl)); have n2_ := Aside0.mk (hb); have n3_ := Aside0.mk (hi); clear HO_4; clear HK; clear HB; clear HI0; have HO_4 := n0_; have HK := n1_; have HB := n2_; have HI0 := n3_; clear n0_ n1_ n2_ n3_; (try clear hb); (try clear hb2); (try clear hk); (try clear hi)))
              go_ret
              exact ⟨_, by first | rfl | (simp [errW_none, errW_some] <;> rfl) | (simp [*, errW_none, errW_some] <;> rfl), by (with_reducible repeat (first | apply Kd.R_alloc | apply Kd.R_drewN | apply Kd.R_drew)); exact HO_4.out, by repeat (first | (with_reducible first | exact HI0.out | apply IsS55.alloc | apply IsS55.drewN | apply IsS55.drew | apply IsS55.set_1 | apply IsS55.set_2) | exact HI0.out), by repeat (first | (with_reducible first | exact HB.out | apply below_alloc | apply pw_below_drewN | apply below_drew1 | refine below_set ?_ (IsS55.ge HI0.out)) | exact HB.out), by repeat (first | (with_reducible first | exact HK.out | apply KeepBut.set_ | apply keep_drewN | apply keep_drew | apply keep_alloc) | exact HK.out)⟩

end Go.Proofs.Ytbiiklkkfkipeaa.X

/- What the functions of the program come to, and that they do: written by this session's program wip/xprint.py out of the translation; parts named extern are typed by hand. -/
namespace Go.Proofs.Ytbiiklkkfkipeaa.X
open Go.RowKit Go.Proofs.YtbiiklkkfkipeaaW.PrintWords Go.Proofs.YtbiiklkkfkipeaaW.PrintLast Go.Proofs.YtbiiklkkfkipeaaW.PrintMore
attribute [local go_sem] max2_int min2_int max_two min_two max_three min_three max_four min_four   -- for this text's walks alone
set_option linter.unusedVariables false
set_option linter.unusedSimpArgs false

/-! ### spec_DrawAreNames: function 70 -/
/- EXTERN, by hand (wip/hand/draws.py). -/
def spec_DrawAreNames.f (k : Nat) (l0 : List Int) : Option (List Int) := (spec_l1Cur_names.f k l0 0 0).bind fun r => some r.1
set_option maxHeartbeats 8000000 in
set_option maxRecDepth 100000 in
theorem spec_DrawAreNames.calls (k : Nat) (A0 : Option Addr) (c0 : Nat) (l0 : List Int) (r : List Int) (w : World) (hr0 : Kd.C (Kd.int .u8) w A0 l0.length l0) (hc0 : l0.length ≤ c0) (h : spec_DrawAreNames.f k l0 = some r) :
    Calls Try.prog 70 #[.slice A0 l0.length c0] w fun e w' => ∃ v0_ : Value, e = .returned (v0_) ∧ Kd.R (Kd.int .i64) 3 w' w.heap.size (fun _ => True) v0_ r ∧ Below w.heap.size w w' := by
  unfold spec_DrawAreNames.f at h
  obtain ⟨⟨q1, q2, q3⟩, h1, h2⟩ := Option.bind_eq_some_iff.mp h
  obtain rfl := Option.some.inj h2
  have HC := Aside0.mk hr0
  have HB := Aside0.mk (Below.refl w.heap.size w)
  have HE := Aside0.mk h1
  clear h h1 h2 hr0 hc0
  go_enter Try.func70, Try.ntmps70
  go_wp2_with (first | ((with_reducible refine gate_dst (N := 6) rfl ?_); refine box_event ?hg (N := 6) ?hd (cs := #[.slice A0 l0.length c0, .int .i64 0, .int .u64 0]) (t := 55) ?hr ?_; (case hd => rfl); (case hg => rfl); (case hr => first | (go_simp; done) | (go_simp; rfl)); intro g hg w3 hbox hb; have HI := Aside0.mk (show IsS55 w w3 g l0 0 0 from ⟨A0, c0, hbox, by rw [hg]; exact below_size (by repeat (first | (with_reducible first | exact HB.out | apply below_alloc | apply pw_below_drewN | apply below_drew1) | exact HB.out)), HC.out⟩); have HB3 := Aside0.mk (below_step (by repeat (first | (with_reducible first | exact HB.out | apply below_alloc | apply pw_below_drewN | apply below_drew1) | exact HB.out)) hb); clear HB hg hb hbox; have HB := HB3; clear HB3) | (go_at_call 83; (with_reducible refine (spec_l1Cur_names.calls k g l0 0 0 q1 q2 q3 w _ ?s1 ?s2 HE.out).mono ?_); (case s1 => repeat (first | exact HI.out | apply IsS55.drewN | apply IsS55.drew)); (case s2 => exact (by repeat (first | (with_reducible first | exact HB.out | apply below_alloc | apply pw_below_drewN | apply below_drew1) | exact HB.out))); rintro e w6 ⟨v8, rfl, ho, hi, hb, _⟩; have HR := Aside0.mk (Kd.R_lower ho (below_size (by repeat (first | (with_reducible first | exact HB.out | apply below_alloc | apply pw_below_drewN | apply below_drew1) | exact HB.out)))); clear HB hi ho; have HB := Aside0.mk hb; clear hb; obtain ⟨A9, c9, e9⟩ := Kd.R_slice HR.out; subst e9) | ((with_reducible refine gate_callee (f := 83) rfl ?_); refine goesL_ (some 8) rfl rfl Try.func83 (by kernel_rfl) rfl #[.pointer (some ⟨g, 0, none⟩)] rfl (by (try simp only [List.map_toArray, List.map_cons, List.map_nil]); first | done | rfl) ?_; (with_reducible refine (spec_l1Cur_names.calls k g l0 0 0 q1 q2 q3 w _ ?s1 ?s2 HE.out).mono ?_); (case s1 => repeat (first | exact HI.out | apply IsS55.drewN | apply IsS55.drew)); (case s2 => exact (by repeat (first | (with_reducible first | exact HB.out | apply below_alloc | apply pw_below_drewN | apply below_drew1) | exact HB.out))); rintro e w6 ⟨v8, rfl, ho, hi, hb, _⟩; have HR := Aside0.mk (Kd.R_lower ho (below_size (by repeat (first | (with_reducible first | exact HB.out | apply below_alloc | apply pw_below_drewN | apply below_drew1) | exact HB.out)))); clear HB hi ho; have HB := Aside0.mk hb; clear hb; obtain ⟨A9, c9, e9⟩ := Kd.R_slice HR.out; subst e9; refine ⟨_, rfl, ?_⟩))
  go_ret
  exact ⟨_, rfl, HR.out, HB.out⟩

/-! ### spec_DrawSurvivorsOf: function 43 -/
def spec_DrawSurvivorsOf.f (k : Nat) (l0 : List Int) : Option (List Int) := (spec_DrawAreNames.f k l0).bind fun t569 => (some t569)
set_option maxHeartbeats 8000000 in
set_option maxRecDepth 100000 in
theorem spec_DrawSurvivorsOf.calls (k : Nat) (A0 : Option Addr) (c0 : Nat) (l0 : List Int) (r : List Int) (w : World) (hr0 : Kd.C (Kd.int .u8) w A0 l0.length l0) (hc0 : l0.length ≤ c0) (h : spec_DrawSurvivorsOf.f k l0 = some r) :
    Calls Try.prog 43 #[.slice A0 l0.length c0] w fun e w' => ∃ v0_ : Value, e = .returned (v0_) ∧ Kd.R (Kd.int .i64) 3 w' w.heap.size (fun _ => True) v0_ r ∧ Below w.heap.size w w' := by
  have HR0 := Aside0.mk hr0
  have HC0 := Aside0.mk hc0
  clear hr0 hc0
  have HB := Aside0.mk (Below.refl w.heap.size w)
  have H : ((spec_DrawAreNames.f k l0).bind fun t569 => (some t569)) = some r := h
  clear h
  replace H := Option.bind_eq_some_iff.mp H
  obtain ⟨t569, A20, H⟩ := H
  replace H : (some t569) = some r := H
  have A2 := Aside0.mk A20
  clear A20
  obtain rfl := Option.some.inj H
  go_enter Try.func43, Try.ntmps43
  go_wp2_with (first | ((with_reducible refine gate_callee (f := 70) rfl ?_); refine goesL_ (some 4) rfl rfl Try.func70 (by kernel_rfl) rfl #[.slice A0 l0.length c0] rfl (by (try simp only [List.map_toArray, List.map_cons, List.map_nil]); first | done | rfl | (simp only [List.length_drop, List.length_take]; rfl)) ?_; (with_reducible refine (spec_DrawAreNames.calls k _ _ l0 t569 _ ?side1 ?side2 A2.out).mono ?_); (case side1 => repeat (first | exact HR0.out | (with_reducible refine Kd.C_alloc ?_ _) | (with_reducible refine Kd.C_drewN ?_ _) | (with_reducible refine Kd.C_drew ?_))); (case side2 => exact HC0.out); rintro e w3 ⟨v570, rfl, ho0, hb⟩; refine ⟨_, rfl, ?_⟩; have n0_ := Aside0.mk (Kd.R_lower ho0 (below_size (by repeat (first | (with_reducible first | exact HB.out | apply below_alloc | apply pw_below_drewN | apply below_drew1) | exact HB.out)))); have n1_ := Aside0.mk (below_step (by repeat (first | (with_reducible first | exact HB.out | apply below_alloc | apply pw_below_drewN | apply below_drew1) | exact HB.out)) hb); clear HB; have HO571 := n0_; have HB := n1_; clear n0_ n1_; (try clear hb); (try clear hb2); (try clear hk); (try clear hi); (try clear ho0)))
  go_ret
  exact ⟨_, by first | rfl | (simp [errW_none, errW_some] <;> rfl) | (simp [*, errW_none, errW_some] <;> rfl), by (with_reducible repeat (first | apply Kd.R_alloc | apply Kd.R_drewN | apply Kd.R_drew)); exact HO571.out, by repeat (first | (with_reducible first | exact HB.out | apply below_alloc | apply pw_below_drewN | apply below_drew1) | exact HB.out)⟩

/-! ### laws_zSame: function 47 -/
def laws_zSame.l0 : Nat → List Int → List Int → Int → Int → Option (Bool)
  | 0, _, _, _, _ => none
  | k + 1, x0, x1, x12, x13 => if x13 < x12 then (if 0 ≤ x13 then (if x13 < (x0.length : Int) then (if x13 < (x1.length : Int) then (if (rd x0 x13) = (rd x1 x13) then (laws_zSame.l0 k x0 x1 x12 (wrap64 (x13 + 1))) else (some false)) else (none)) else (none)) else (none)) else (some true)
def laws_zSame.f (k : Nat) (l0 : List Int) (l1 : List Int) : Option (Bool) := if (l0.length : Int) = (l1.length : Int) then (laws_zSame.l0 k l0 l1 (l0.length : Int) 0) else (some false)
set_option maxHeartbeats 8000000 in
set_option maxRecDepth 100000 in
theorem laws_zSame.calls (k : Nat) (A0 : Option Addr) (c0 : Nat) (l0 : List Int) (A1 : Option Addr) (c1 : Nat) (l1 : List Int) (r : Bool) (w : World) (hr0 : Kd.C (Kd.int .i64) w A0 l0.length l0) (hc0 : l0.length ≤ c0) (hr1 : Kd.C (Kd.int .i64) w A1 l1.length l1) (hc1 : l1.length ≤ c1) (h : laws_zSame.f k l0 l1 = some r) :
    Calls Try.prog 47 #[.slice A0 l0.length c0, .slice A1 l1.length c1] w fun e w' => e = .returned (.bool r) ∧ Drawn0 w w' := by
  have HR0 := Aside0.mk hr0
  have HC0 := Aside0.mk hc0
  clear hr0 hc0
  have HR1 := Aside0.mk hr1
  have HC1 := Aside0.mk hc1
  clear hr1 hc1
  have H : (if (l0.length : Int) = (l1.length : Int) then (laws_zSame.l0 k l0 l1 (l0.length : Int) 0) else (some false)) = some r := h
  clear h
  by_cases c3 : (l0.length : Int) = (l1.length : Int)
  · rw [if_pos c3] at H
    have c3b0 : ((l0.length : Int) == (l1.length : Int)) = true := beq_iff_eq.mpr c3
    have c3b1 : ((l0.length : Int) != (l1.length : Int)) = false := bne_eq_false_iff_eq.mpr c3
    have c3b2 : (l0.length == l1.length) = true := by first | simpa using c3 | (simp at c3 ⊢; omega)
    clear c3
    have H' := Aside0.mk H
    clear H
    go_enter Try.func47, Try.ntmps47
    go_wp2
    repeat (go_quiet (fail); try go_wp2)
    go_loopg [13] k (fun kq v13 w' => ∃ (x13_1 : Int), v13 = .int .i64 x13_1 ∧ Aside0 (laws_zSame.l0 kq l0 l1 (l0.length : Int) x13_1 = some r) ∧ Aside0 (kq ≤ k) ∧ Drawn0 w w')
    case atStart => exact ⟨(0), (by first | rfl | (simp; done) | (simp [*]; done)), H', ⟨Nat.le_refl _⟩, by repeat (first | exact Drawn0.refl _ | apply Drawn0.step)⟩
    case round =>
      clear H'
      try clear c1
      try clear p2
      try clear c3
      try clear c3b0
      try clear c3b1
      try clear c3b2
      obtain ⟨x13_1, rfl, HA, HK1, ⟨m1, rfl⟩⟩ := hrel
      cases gk with
      | zero => exact absurd HA.out (by simp [laws_zSame.l0])
      | succ k1 =>
        have H := HA.out
        clear HA
        simp only [laws_zSame.l0] at H
        by_cases c4 : x13_1 < (l0.length : Int)
        · rw [if_pos c4] at H
          have c4b0 : decide (x13_1 < (l0.length : Int)) = true := decide_eq_true c4
          clear c4
          by_cases c5 : 0 ≤ x13_1
          · rw [if_pos c5] at H
            have c5b0 : decide (0 ≤ x13_1) = true := decide_eq_true c5
            clear c5
            by_cases c6 : x13_1 < (l0.length : Int)
            · rw [if_pos c6] at H
              have c6b0 : decide (x13_1 < (l0.length : Int)) = true := decide_eq_true c6
              clear c6
              by_cases c7 : x13_1 < (l1.length : Int)
              · rw [if_pos c7] at H
                have c7b0 : decide (x13_1 < (l1.length : Int)) = true := decide_eq_true c7
                clear c7
                by_cases c8 : (rd l0 x13_1) = (rd l1 x13_1)
                · rw [if_pos c8] at H
                  have c8b0 : ((rd l0 x13_1) == (rd l1 x13_1)) = true := beq_iff_eq.mpr c8
                  have c8b1 : ((rd l0 x13_1) != (rd l1 x13_1)) = false := bne_eq_false_iff_eq.mpr c8
                  clear c8
                  have H' := Aside0.mk H
                  clear H
                  have p572 : 0 ≤ (x13_1 : Int) := of_decide_eq_true (by first | (with_reducible assumption) | assumption)
                  have q572 : x13_1 < (l0.length : Int) := of_decide_eq_true (by first | (with_reducible assumption) | assumption)
                  obtain ⟨ad572, e572, hx572_0⟩ := Kd.at_int HR0.out x13_1 p572 q572
                  cases e572
                  replace p572 := eq_true p572
                  replace q572 := eq_true q572
                  have p573 : 0 ≤ (x13_1 : Int) := of_decide_eq_true (by first | (with_reducible assumption) | assumption)
                  have q573 : x13_1 < (l1.length : Int) := of_decide_eq_true (by first | (with_reducible assumption) | assumption)
                  obtain ⟨ad573, e573, hx573_0⟩ := Kd.at_int HR1.out x13_1 p573 q573
                  cases e573
                  replace p573 := eq_true p573
                  replace q573 := eq_true q573
                  go_wp2
                  repeat (go_quiet (fail); try go_wp2)
                  go_roundg k1
                  case measure => have := HK1.out; omega
                  case rel => exact ⟨(wrap64 (x13_1 + 1)), (by first | rfl | (simp; done) | (simp [*]; done)), H', ⟨by have := HK1.out; omega⟩, by repeat (first | exact Drawn0.refl _ | apply Drawn0.step)⟩
                · rw [if_neg c8] at H
                  have c8b0 : ((rd l0 x13_1) == (rd l1 x13_1)) = false := beq_eq_false_iff_ne.mpr c8
                  have c8b1 : ((rd l0 x13_1) != (rd l1 x13_1)) = true := bne_iff_ne.mpr c8
                  obtain rfl := Option.some.inj H
                  have p572 : 0 ≤ (x13_1 : Int) := of_decide_eq_true (by first | (with_reducible assumption) | assumption)
                  have q572 : x13_1 < (l0.length : Int) := of_decide_eq_true (by first | (with_reducible assumption) | assumption)
                  obtain ⟨ad572, e572, hx572_0⟩ := Kd.at_int HR0.out x13_1 p572 q572
                  cases e572
                  replace p572 := eq_true p572
                  replace q572 := eq_true q572
                  have p573 : 0 ≤ (x13_1 : Int) := of_decide_eq_true (by first | (with_reducible assumption) | assumption)
                  have q573 : x13_1 < (l1.length : Int) := of_decide_eq_true (by first | (with_reducible assumption) | assumption)
                  obtain ⟨ad573, e573, hx573_0⟩ := Kd.at_int HR1.out x13_1 p573 q573
                  cases e573
                  replace p573 := eq_true p573
                  replace q573 := eq_true q573
                  go_wp2
                  repeat (go_quiet (fail); try go_wp2)
                  go_ret
                  exact ⟨by first | rfl | (simp; done) | (simp [*]; done), by repeat (first | exact Drawn0.refl _ | apply Drawn0.step)⟩
              · rw [if_neg c7] at H
                exact absurd H (by simp)
            · rw [if_neg c6] at H
              exact absurd H (by simp)
          · rw [if_neg c5] at H
            exact absurd H (by simp)
        · rw [if_neg c4] at H
          have c4b0 : decide (x13_1 < (l0.length : Int)) = false := decide_eq_false c4
          clear c4
          obtain rfl := Option.some.inj H
          go_wp2
          repeat (go_quiet (fail); try go_wp2)
          go_ret
          exact ⟨by first | rfl | (simp; done) | (simp [*]; done), by repeat (first | exact Drawn0.refl _ | apply Drawn0.step)⟩
  · rw [if_neg c3] at H
    have c3b0 : ((l0.length : Int) == (l1.length : Int)) = false := beq_eq_false_iff_ne.mpr c3
    have c3b1 : ((l0.length : Int) != (l1.length : Int)) = true := bne_iff_ne.mpr c3
    have c3b2 : (l0.length == l1.length) = false := by first | simpa using c3 | (simp at c3 ⊢; omega)
    obtain rfl := Option.some.inj H
    go_enter Try.func47, Try.ntmps47
    go_wp2
    repeat (go_quiet (fail); try go_wp2)
    go_ret
    exact ⟨by first | rfl | (simp; done) | (simp [*]; done), by repeat (first | exact Drawn0.refl _ | apply Drawn0.step)⟩

end Go.Proofs.Ytbiiklkkfkipeaa.X

/- What the functions of the program come to, and that they do: written by this session's program wip/xprint.py out of the translation; parts named extern are typed by hand. -/
namespace Go.Proofs.Ytbiiklkkfkipeaa.X
open Go.RowKit Go.Proofs.YtbiiklkkfkipeaaW.PrintWords Go.Proofs.YtbiiklkkfkipeaaW.PrintLast Go.Proofs.YtbiiklkkfkipeaaW.PrintMore
attribute [local go_sem] max2_int min2_int max_two min_two max_three min_three max_four min_four   -- for this text's walks alone
set_option linter.unusedVariables false
set_option linter.unusedSimpArgs false

/-! ### laws_zRows: function 44 -/
def laws_zRows.l0 : Nat → List (List Int) → List (List Int) → Int → Int → Option (Bool)
  | 0, _, _, _, _ => none
  | k + 1, x0, x1, x12, x13 => if x13 < x12 then (if 0 ≤ x13 then (if x13 < (x0.length : Int) then (if x13 < (x1.length : Int) then ((laws_zSame.f k (rd_L2 x0 x13) (rd_L2 x1 x13)).bind fun t576 => (if t576 = true then (laws_zRows.l0 k x0 x1 x12 (wrap64 (x13 + 1))) else (some false))) else (none)) else (none)) else (none)) else (some true)
def laws_zRows.f (k : Nat) (l0 : List (List Int)) (l1 : List (List Int)) : Option (Bool) := if (l0.length : Int) = (l1.length : Int) then (laws_zRows.l0 k l0 l1 (l0.length : Int) 0) else (some false)
set_option maxHeartbeats 8000000 in
set_option maxRecDepth 100000 in
theorem laws_zRows.calls (k : Nat) (A0 : Option Addr) (c0 : Nat) (l0 : List (List Int)) (A1 : Option Addr) (c1 : Nat) (l1 : List (List Int)) (r : Bool) (w : World) (hr0 : Kd.C (Kd.slice 3 (Kd.int .i64)) w A0 l0.length l0) (hc0 : l0.length ≤ c0) (hr1 : Kd.C (Kd.slice 3 (Kd.int .i64)) w A1 l1.length l1) (hc1 : l1.length ≤ c1) (h : laws_zRows.f k l0 l1 = some r) :
    Calls Try.prog 44 #[.slice A0 l0.length c0, .slice A1 l1.length c1] w fun e w' => e = .returned (.bool r) ∧ Drawn0 w w' := by
  have HR0 := Aside0.mk hr0
  have HC0 := Aside0.mk hc0
  clear hr0 hc0
  have HR1 := Aside0.mk hr1
  have HC1 := Aside0.mk hc1
  clear hr1 hc1
  have H : (if (l0.length : Int) = (l1.length : Int) then (laws_zRows.l0 k l0 l1 (l0.length : Int) 0) else (some false)) = some r := h
  clear h
  by_cases c3 : (l0.length : Int) = (l1.length : Int)
  · rw [if_pos c3] at H
    have c3b0 : ((l0.length : Int) == (l1.length : Int)) = true := beq_iff_eq.mpr c3
    have c3b1 : ((l0.length : Int) != (l1.length : Int)) = false := bne_eq_false_iff_eq.mpr c3
    have c3b2 : (l0.length == l1.length) = true := by first | simpa using c3 | (simp at c3 ⊢; omega)
    clear c3
    have H' := Aside0.mk H
    clear H
    go_enter Try.func44, Try.ntmps44
    go_wp2
    repeat (go_quiet (fail); try go_wp2)
    go_loopg [13] k (fun kq v13 w' => ∃ (x13_1 : Int), v13 = .int .i64 x13_1 ∧ Aside0 (laws_zRows.l0 kq l0 l1 (l0.length : Int) x13_1 = some r) ∧ Aside0 (kq ≤ k) ∧ Drawn0 w w')
    case atStart => exact ⟨(0), (by first | rfl | (simp; done) | (simp [*]; done)), H', ⟨Nat.le_refl _⟩, by repeat (first | exact Drawn0.refl _ | apply Drawn0.step)⟩
    case round =>
      clear H'
      try clear c1
      try clear p2
      try clear c3
      try clear c3b0
      try clear c3b1
      try clear c3b2
      obtain ⟨x13_1, rfl, HA, HK1, ⟨m1, rfl⟩⟩ := hrel
      cases gk with
      | zero => exact absurd HA.out (by simp [laws_zRows.l0])
      | succ k1 =>
        have H := HA.out
        clear HA
        simp only [laws_zRows.l0] at H
        by_cases c4 : x13_1 < (l0.length : Int)
        · rw [if_pos c4] at H
          have c4b0 : decide (x13_1 < (l0.length : Int)) = true := decide_eq_true c4
          clear c4
          by_cases c5 : 0 ≤ x13_1
          · rw [if_pos c5] at H
            have c5b0 : decide (0 ≤ x13_1) = true := decide_eq_true c5
            clear c5
            by_cases c6 : x13_1 < (l0.length : Int)
            · rw [if_pos c6] at H
              have c6b0 : decide (x13_1 < (l0.length : Int)) = true := decide_eq_true c6
              clear c6
              by_cases c7 : x13_1 < (l1.length : Int)
              · rw [if_pos c7] at H
                have c7b0 : decide (x13_1 < (l1.length : Int)) = true := decide_eq_true c7
                clear c7
                replace H := Option.bind_eq_some_iff.mp H
                obtain ⟨t576, A80, H⟩ := H
                replace H : (if t576 = true then (laws_zRows.l0 k1 l0 l1 (l0.length : Int) (wrap64 (x13_1 + 1))) else (some false)) = some r := H
                have A8 := Aside0.mk A80
                clear A80
                by_cases c9 : t576 = true
                · subst c9
                  have H1 : (laws_zRows.l0 k1 l0 l1 (l0.length : Int) (wrap64 (x13_1 + 1))) = some r := by rw [if_pos rfl] at H; exact H
                  clear H
                  have H := H1
                  clear H1
                  have H' := Aside0.mk H
                  clear H
                  have p574 : 0 ≤ (x13_1 : Int) := of_decide_eq_true (by first | (with_reducible assumption) | assumption)
                  have q574 : x13_1 < (l0.length : Int) := of_decide_eq_true (by first | (with_reducible assumption) | assumption)
                  obtain ⟨ad574, A574_0, c574_0, e574, hx574_0, hl574_0, hi574_0⟩ := at_L2 HR0.out x13_1 p574 q574
                  cases e574
                  have HR574_0 := Aside0.mk hi574_0
                  have HC574_0 := Aside0.mk hl574_0
                  clear hi574_0 hl574_0
                  replace p574 := eq_true p574
                  replace q574 := eq_true q574
                  have p575 : 0 ≤ (x13_1 : Int) := of_decide_eq_true (by first | (with_reducible assumption) | assumption)
                  have q575 : x13_1 < (l1.length : Int) := of_decide_eq_true (by first | (with_reducible assumption) | assumption)
                  obtain ⟨ad575, A575_0, c575_0, e575, hx575_0, hl575_0, hi575_0⟩ := at_L2 HR1.out x13_1 p575 q575
                  cases e575
                  have HR575_0 := Aside0.mk hi575_0
                  have HC575_0 := Aside0.mk hl575_0
                  clear hi575_0 hl575_0
                  replace p575 := eq_true p575
                  replace q575 := eq_true q575
                  go_wp2_with (first | (go_at_call 47; (with_reducible refine (laws_zSame.calls k1 _ _ (rd_L2 l0 x13_1) _ _ (rd_L2 l1 x13_1) true _ ?side1 ?side2 ?side3 ?side4 A8.out).mono ?_); (case side1 => repeat (first | exact HR574_0.out | (with_reducible refine Kd.C_alloc ?_ _) | (with_reducible refine Kd.C_drewN ?_ _) | (with_reducible refine Kd.C_drew ?_))); (case side2 => exact HC574_0.out); (case side3 => repeat (first | exact HR575_0.out | (with_reducible refine Kd.C_alloc ?_ _) | (with_reducible refine Kd.C_drewN ?_ _) | (with_reducible refine Kd.C_drew ?_))); (case side4 => exact HC575_0.out); rintro e w' ⟨rfl, ⟨nd, rfl⟩⟩; (try first | exact ⟨rfl, _, World.drewN_drewN _ _ _⟩ | exact ⟨rfl, _, Eq.trans (World.drewN_drewN _ _ _) (congrArg (World.drewN _) (Nat.add_assoc _ _ _))⟩)))
                  repeat (go_quiet (first | (go_at_call 47; (with_reducible refine (laws_zSame.calls k1 _ _ (rd_L2 l0 x13_1) _ _ (rd_L2 l1 x13_1) true _ ?side1 ?side2 ?side3 ?side4 A8.out).mono ?_); (case side1 => repeat (first | exact HR574_0.out | (with_reducible refine Kd.C_alloc ?_ _) | (with_reducible refine Kd.C_drewN ?_ _) | (with_reducible refine Kd.C_drew ?_))); (case side2 => exact HC574_0.out); (case side3 => repeat (first | exact HR575_0.out | (with_reducible refine Kd.C_alloc ?_ _) | (with_reducible refine Kd.C_drewN ?_ _) | (with_reducible refine Kd.C_drew ?_))); (case side4 => exact HC575_0.out); rintro e w' ⟨rfl, ⟨nd, rfl⟩⟩; (try first | exact ⟨rfl, _, World.drewN_drewN _ _ _⟩ | exact ⟨rfl, _, Eq.trans (World.drewN_drewN _ _ _) (congrArg (World.drewN _) (Nat.add_assoc _ _ _))⟩))); try go_wp2_with (first | (go_at_call 47; (with_reducible refine (laws_zSame.calls k1 _ _ (rd_L2 l0 x13_1) _ _ (rd_L2 l1 x13_1) true _ ?side1 ?side2 ?side3 ?side4 A8.out).mono ?_); (case side1 => repeat (first | exact HR574_0.out | (with_reducible refine Kd.C_alloc ?_ _) | (with_reducible refine Kd.C_drewN ?_ _) | (with_reducible refine Kd.C_drew ?_))); (case side2 => exact HC574_0.out); (case side3 => repeat (first | exact HR575_0.out | (with_reducible refine Kd.C_alloc ?_ _) | (with_reducible refine Kd.C_drewN ?_ _) | (with_reducible refine Kd.C_drew ?_))); (case side4 => exact HC575_0.out); rintro e w' ⟨rfl, ⟨nd, rfl⟩⟩; (try first | exact ⟨rfl, _, World.drewN_drewN _ _ _⟩ | exact ⟨rfl, _, Eq.trans (World.drewN_drewN _ _ _) (congrArg (World.drewN _) (Nat.add_assoc _ _ _))⟩))))
                  go_roundg k1
                  case measure => have := HK1.out; omega
                  case rel => exact ⟨(wrap64 (x13_1 + 1)), (by first | rfl | (simp; done) | (simp [*]; done)), H', ⟨by have := HK1.out; omega⟩, by repeat (first | exact Drawn0.refl _ | apply Drawn0.step)⟩
                · replace c9 := Bool.eq_false_iff.mpr c9
                  subst c9
                  have H1 : (some false) = some r := by rw [if_neg (show ¬ (false = true) by decide)] at H; exact H
                  clear H
                  have H := H1
                  clear H1
                  obtain rfl := Option.some.inj H
                  have p574 : 0 ≤ (x13_1 : Int) := of_decide_eq_true (by first | (with_reducible assumption) | assumption)
                  have q574 : x13_1 < (l0.length : Int) := of_decide_eq_true (by first | (with_reducible assumption) | assumption)
                  obtain ⟨ad574, A574_0, c574_0, e574, hx574_0, hl574_0, hi574_0⟩ := at_L2 HR0.out x13_1 p574 q574
                  cases e574
                  have HR574_0 := Aside0.mk hi574_0
                  have HC574_0 := Aside0.mk hl574_0
                  clear hi574_0 hl574_0
                  replace p574 := eq_true p574
                  replace q574 := eq_true q574
                  have p575 : 0 ≤ (x13_1 : Int) := of_decide_eq_true (by first | (with_reducible assumption) | assumption)
                  have q575 : x13_1 < (l1.length : Int) := of_decide_eq_true (by first | (with_reducible assumption) | assumption)
                  obtain ⟨ad575, A575_0, c575_0, e575, hx575_0, hl575_0, hi575_0⟩ := at_L2 HR1.out x13_1 p575 q575
                  cases e575
                  have HR575_0 := Aside0.mk hi575_0
                  have HC575_0 := Aside0.mk hl575_0
                  clear hi575_0 hl575_0
                  replace p575 := eq_true p575
                  replace q575 := eq_true q575
                  go_wp2_with (first | (go_at_call 47; (with_reducible refine (laws_zSame.calls k1 _ _ (rd_L2 l0 x13_1) _ _ (rd_L2 l1 x13_1) false _ ?side1 ?side2 ?side3 ?side4 A8.out).mono ?_); (case side1 => repeat (first | exact HR574_0.out | (with_reducible refine Kd.C_alloc ?_ _) | (with_reducible refine Kd.C_drewN ?_ _) | (with_reducible refine Kd.C_drew ?_))); (case side2 => exact HC574_0.out); (case side3 => repeat (first | exact HR575_0.out | (with_reducible refine Kd.C_alloc ?_ _) | (with_reducible refine Kd.C_drewN ?_ _) | (with_reducible refine Kd.C_drew ?_))); (case side4 => exact HC575_0.out); rintro e w' ⟨rfl, ⟨nd, rfl⟩⟩; (try first | exact ⟨rfl, _, World.drewN_drewN _ _ _⟩ | exact ⟨rfl, _, Eq.trans (World.drewN_drewN _ _ _) (congrArg (World.drewN _) (Nat.add_assoc _ _ _))⟩)))
                  repeat (go_quiet (first | (go_at_call 47; (with_reducible refine (laws_zSame.calls k1 _ _ (rd_L2 l0 x13_1) _ _ (rd_L2 l1 x13_1) false _ ?side1 ?side2 ?side3 ?side4 A8.out).mono ?_); (case side1 => repeat (first | exact HR574_0.out | (with_reducible refine Kd.C_alloc ?_ _) | (with_reducible refine Kd.C_drewN ?_ _) | (with_reducible refine Kd.C_drew ?_))); (case side2 => exact HC574_0.out); (case side3 => repeat (first | exact HR575_0.out | (with_reducible refine Kd.C_alloc ?_ _) | (with_reducible refine Kd.C_drewN ?_ _) | (with_reducible refine Kd.C_drew ?_))); (case side4 => exact HC575_0.out); rintro e w' ⟨rfl, ⟨nd, rfl⟩⟩; (try first | exact ⟨rfl, _, World.drewN_drewN _ _ _⟩ | exact ⟨rfl, _, Eq.trans (World.drewN_drewN _ _ _) (congrArg (World.drewN _) (Nat.add_assoc _ _ _))⟩))); try go_wp2_with (first | (go_at_call 47; (with_reducible refine (laws_zSame.calls k1 _ _ (rd_L2 l0 x13_1) _ _ (rd_L2 l1 x13_1) false _ ?side1 ?side2 ?side3 ?side4 A8.out).mono ?_); (case side1 => repeat (first | exact HR574_0.out | (with_reducible refine Kd.C_alloc ?_ _) | (with_reducible refine Kd.C_drewN ?_ _) | (with_reducible refine Kd.C_drew ?_))); (case side2 => exact HC574_0.out); (case side3 => repeat (first | exact HR575_0.out | (with_reducible refine Kd.C_alloc ?_ _) | (with_reducible refine Kd.C_drewN ?_ _) | (with_reducible refine Kd.C_drew ?_))); (case side4 => exact HC575_0.out); rintro e w' ⟨rfl, ⟨nd, rfl⟩⟩; (try first | exact ⟨rfl, _, World.drewN_drewN _ _ _⟩ | exact ⟨rfl, _, Eq.trans (World.drewN_drewN _ _ _) (congrArg (World.drewN _) (Nat.add_assoc _ _ _))⟩))))
                  go_ret
                  exact ⟨by first | rfl | (simp; done) | (simp [*]; done), by repeat (first | exact Drawn0.refl _ | apply Drawn0.step)⟩
              · rw [if_neg c7] at H
                exact absurd H (by simp)
            · rw [if_neg c6] at H
              exact absurd H (by simp)
          · rw [if_neg c5] at H
            exact absurd H (by simp)
        · rw [if_neg c4] at H
          have c4b0 : decide (x13_1 < (l0.length : Int)) = false := decide_eq_false c4
          clear c4
          obtain rfl := Option.some.inj H
          go_wp2
          repeat (go_quiet (fail); try go_wp2)
          go_ret
          exact ⟨by first | rfl | (simp; done) | (simp [*]; done), by repeat (first | exact Drawn0.refl _ | apply Drawn0.step)⟩
  · rw [if_neg c3] at H
    have c3b0 : ((l0.length : Int) == (l1.length : Int)) = false := beq_eq_false_iff_ne.mpr c3
    have c3b1 : ((l0.length : Int) != (l1.length : Int)) = true := bne_iff_ne.mpr c3
    have c3b2 : (l0.length == l1.length) = false := by first | simpa using c3 | (simp at c3 ⊢; omega)
    obtain rfl := Option.some.inj H
    go_enter Try.func44, Try.ntmps44
    go_wp2
    repeat (go_quiet (fail); try go_wp2)
    go_ret
    exact ⟨by first | rfl | (simp; done) | (simp [*]; done), by repeat (first | exact Drawn0.refl _ | apply Drawn0.step)⟩

end Go.Proofs.Ytbiiklkkfkipeaa.X

/- What the functions of the program come to, and that they do: written by this session's program wip/xprint.py out of the translation; parts named extern are typed by hand. -/
namespace Go.Proofs.Ytbiiklkkfkipeaa.X
open Go.RowKit Go.Proofs.YtbiiklkkfkipeaaW.PrintWords Go.Proofs.YtbiiklkkfkipeaaW.PrintLast Go.Proofs.YtbiiklkkfkipeaaW.PrintMore
attribute [local go_sem] max2_int min2_int max_two min_two max_three min_three max_four min_four   -- for this text's walks alone
set_option linter.unusedVariables false
set_option linter.unusedSimpArgs false

/-! ### laws_zHas: function 45 -/
def laws_zHas.l0 : Nat → Int → List Int → Int → Int → Option (Bool)
  | 0, _, _, _, _ => none
  | k + 1, x1, x7, x8, x9 => if x9 < x8 then (if 0 ≤ x9 then (if x9 < (x7.length : Int) then (if (rd x7 x9) = x1 then (some true) else (laws_zHas.l0 k x1 x7 x8 (wrap64 (x9 + 1)))) else (none)) else (none)) else (some false)
def laws_zHas.f (k : Nat) (l0 : List Int) (a1 : Int) : Option (Bool) := laws_zHas.l0 k a1 l0 (l0.length : Int) 0
set_option maxHeartbeats 8000000 in
set_option maxRecDepth 100000 in
theorem laws_zHas.calls (k : Nat) (A0 : Option Addr) (c0 : Nat) (l0 : List Int) (a1 : Int) (r : Bool) (w : World) (hr0 : Kd.C (Kd.int .i64) w A0 l0.length l0) (hc0 : l0.length ≤ c0) (h : laws_zHas.f k l0 a1 = some r) :
    Calls Try.prog 45 #[.slice A0 l0.length c0, .int .i64 a1] w fun e w' => e = .returned (.bool r) ∧ Drawn0 w w' := by
  have HR0 := Aside0.mk hr0
  have HC0 := Aside0.mk hc0
  clear hr0 hc0
  have H : (laws_zHas.l0 k a1 l0 (l0.length : Int) 0) = some r := h
  clear h
  have H' := Aside0.mk H
  clear H
  go_enter Try.func45, Try.ntmps45
  go_wp2
  go_loopg [9] k (fun kq v9 w' => ∃ (x9_1 : Int), v9 = .int .i64 x9_1 ∧ Aside0 (laws_zHas.l0 kq a1 l0 (l0.length : Int) x9_1 = some r) ∧ Aside0 (kq ≤ k) ∧ Drawn0 w w')
  case atStart => exact ⟨(0), (by first | rfl | (simp; done) | (simp [*]; done)), H', ⟨Nat.le_refl _⟩, by repeat (first | exact Drawn0.refl _ | apply Drawn0.step)⟩
  case round =>
    clear H'
    try clear p2
    obtain ⟨x9_1, rfl, HA, HK1, ⟨m1, rfl⟩⟩ := hrel
    cases gk with
    | zero => exact absurd HA.out (by simp [laws_zHas.l0])
    | succ k1 =>
      have H := HA.out
      clear HA
      simp only [laws_zHas.l0] at H
      by_cases c3 : x9_1 < (l0.length : Int)
      · rw [if_pos c3] at H
        have c3b0 : decide (x9_1 < (l0.length : Int)) = true := decide_eq_true c3
        clear c3
        by_cases c4 : 0 ≤ x9_1
        · rw [if_pos c4] at H
          have c4b0 : decide (0 ≤ x9_1) = true := decide_eq_true c4
          clear c4
          by_cases c5 : x9_1 < (l0.length : Int)
          · rw [if_pos c5] at H
            have c5b0 : decide (x9_1 < (l0.length : Int)) = true := decide_eq_true c5
            clear c5
            by_cases c6 : (rd l0 x9_1) = a1
            · rw [if_pos c6] at H
              have c6b0 : ((rd l0 x9_1) == a1) = true := beq_iff_eq.mpr c6
              have c6b1 : ((rd l0 x9_1) != a1) = false := bne_eq_false_iff_eq.mpr c6
              clear c6
              obtain rfl := Option.some.inj H
              have p577 : 0 ≤ (x9_1 : Int) := of_decide_eq_true (by first | (with_reducible assumption) | assumption)
              have q577 : x9_1 < (l0.length : Int) := of_decide_eq_true (by first | (with_reducible assumption) | assumption)
              obtain ⟨ad577, e577, hx577_0⟩ := Kd.at_int HR0.out x9_1 p577 q577
              cases e577
              replace p577 := eq_true p577
              replace q577 := eq_true q577
              go_wp2
              go_ret
              exact ⟨by first | rfl | (simp; done) | (simp [*]; done), by repeat (first | exact Drawn0.refl _ | apply Drawn0.step)⟩
            · rw [if_neg c6] at H
              have c6b0 : ((rd l0 x9_1) == a1) = false := beq_eq_false_iff_ne.mpr c6
              have c6b1 : ((rd l0 x9_1) != a1) = true := bne_iff_ne.mpr c6
              have H' := Aside0.mk H
              clear H
              have p577 : 0 ≤ (x9_1 : Int) := of_decide_eq_true (by first | (with_reducible assumption) | assumption)
              have q577 : x9_1 < (l0.length : Int) := of_decide_eq_true (by first | (with_reducible assumption) | assumption)
              obtain ⟨ad577, e577, hx577_0⟩ := Kd.at_int HR0.out x9_1 p577 q577
              cases e577
              replace p577 := eq_true p577
              replace q577 := eq_true q577
              go_wp2
              go_roundg k1
              case measure => have := HK1.out; omega
              case rel => exact ⟨(wrap64 (x9_1 + 1)), (by first | rfl | (simp; done) | (simp [*]; done)), H', ⟨by have := HK1.out; omega⟩, by repeat (first | exact Drawn0.refl _ | apply Drawn0.step)⟩
          · rw [if_neg c5] at H
            exact absurd H (by simp)
        · rw [if_neg c4] at H
          exact absurd H (by simp)
      · rw [if_neg c3] at H
        have c3b0 : decide (x9_1 < (l0.length : Int)) = false := decide_eq_false c3
        clear c3
        obtain rfl := Option.some.inj H
        go_wp2
        go_ret
        exact ⟨by first | rfl | (simp; done) | (simp [*]; done), by repeat (first | exact Drawn0.refl _ | apply Drawn0.step)⟩

end Go.Proofs.Ytbiiklkkfkipeaa.X

/- What the functions of the program come to, and that they do: written by this session's program wip/xprint.py out of the translation; parts named extern are typed by hand. -/
namespace Go.Proofs.Ytbiiklkkfkipeaa.X
open Go.RowKit Go.Proofs.YtbiiklkkfkipeaaW.PrintWords Go.Proofs.YtbiiklkkfkipeaaW.PrintLast Go.Proofs.YtbiiklkkfkipeaaW.PrintMore
attribute [local go_sem] max2_int min2_int max_two min_two max_three min_three max_four min_four   -- for this text's walks alone
set_option linter.unusedVariables false
set_option linter.unusedSimpArgs false

theorem clone_same1 {l r : List Int} (h : slices_Clone_int_int.f l = some r) : r = l := by
  unfold slices_Clone_int_int.f at h
  split at h
  · exact (Option.some.inj h).symm
  · cases h
def cA : Code → Code
  | .seq a _ => a
  | .cond _ a _ => a
  | .block _ a => a
  | .loop a => a
  | .scope a => a
  | c => c
def cB : Code → Code
  | .seq _ b => b
  | .cond _ _ b => b
  | c => c
def cOps : Code → Array Oper
  | .region _ o _ => o
  | _ => #[]
theorem ev_same {a : Act} {d : Nat} {v : Value} (h : d < a.tmps.size) : (a.put (some d) v).eval (.tmp d) = v := by
  simp [Act.put, Act.eval, Array.getD, h]
theorem ev_ne {a : Act} {d t : Nat} {v : Value} (h : d ≠ t) : (a.put (some d) v).eval (.tmp t) = a.eval (.tmp t) := by
  simp [Act.put, Act.eval, Array.getD_eq_getD_getElem?, Array.getElem?_setIfInBounds_ne h]
theorem ev_get {a : Act} {t : Nat} {v : Value} (h : a.eval (.tmp t) = v) (ht : t < a.tmps.size) : a.tmps[t] = v := by
  rw [← h]
  simp [Act.eval, Array.getD, ht]
theorem sz_put {a : Act} {d : Nat} {v : Value} : (a.put (some d) v).tmps.size = a.tmps.size := by simp [Act.put]
theorem put_comm {a : Act} {i j : Nat} {x y : Value} (h : i ≠ j) : (a.put (some i) x).put (some j) y = (a.put (some j) y).put (some i) x := by
  simp only [Act.put]
  rw [Array.setIfInBounds_comm _ _ h]
set_option maxHeartbeats 4000000 in
set_option maxRecDepth 100000 in
theorem turn_region {Q : Exit → Act → World → Prop} {a : Act} {wc : World} {ad : Addr} {c : Nat} {names y : List Int} (hQ : ∀ c (a : Act) (d : Nat) v w, Q (.panic c) (a.put (some d) v) w → Q (.panic c) a w) (hsz : a.tmps.size = 307) (h5 : a.eval (.tmp 5) = .slice (some ad) names.length c)
    (hC : Kd.C (Kd.int .i64) wc (some ad) names.length names) (hc : names.length ≤ c) (h1 : 1 ≤ names.length) (h100 : names.length ≤ 17592186044416) (hy : y = names.drop 1 ++ [rd names 0])
    (h : ∀ (v272 v274 v275 v279 v : Value) (w' : World), Kd.R (Kd.int .i64) 3 w' wc.heap.size (fun _ => True) v y → Below wc.heap.size wc w' → Q .normal (putAll a [(273, .slice (some ad) names.length c), (274, v274), (276, .slice (some ad) names.length c), (277, .pointer (some ad)), (278, .int .i64 (rd names 0)), (272, v272), (275, v275), (279, v279), (280, v), (33, v)]) w') :
    (Code.region 45 (cOps (cA (cB (cB (cB (cB (cB (cB (cB (cB (cB (cB (cA (cB (cA (cB (cB (cB (cB (cB (cB (cB (cB (cB (cB (Try.f13.body.getD .skip)))))))))))))))))))))))))) true).wp Try.prog Q a wc := by
  dsimp only [cOps, cA, cB, Try.f13, Option.getD]
  obtain ⟨ad', e', hx⟩ := Kd.at_int hC 0 (by omega) (by omega)
  cases e'
  rw [show ((0 : Int)).toNat = 0 from rfl, Addr.add_zero'] at hx
  refine start_ (n := 10) (S := fun w' => w'.cell? ad = some (.int .i64 (rd names 0))) (ds := []) #[false, false, false, false, false, false, false, false, false, false] (by kernel_rfl) rfl rfl (by simpa using hx) (fun hHeld => ?_)
  have hC0 : Kd.C (Kd.int .i64) wc.drew (some ad) names.length names := Kd.C_drew hC
  have hB0 : Below wc.heap.size wc wc.drew := below_drew1 (Below.refl _ _)
  have hsize : wc.drew.heap.size = wc.heap.size := rfl
  obtain ⟨W, eW⟩ : ∃ W, wc.drew = W := ⟨_, rfl⟩
  rw [eW] at hC0 hB0 hHeld hsize ⊢
  refine pure_ (i := 1) (N := some 273) (v := .slice (some ad) names.length c) (a' := a.put (some 273) (.slice (some ad) names.length c)) #[false, true, false, false, false, false, false, false, false, false] rfl rfl (by kernel_rfl) (fun c a w hh => hQ c a _ _ w hh) (Or.inl ⟨by rfl, fun w' => ?_⟩) rfl ?_
  · rw [← h5]; rfl
  obtain ⟨a1, ea1⟩ : ∃ a1, a.put (some 273) (.slice (some ad) names.length c) = a1 := ⟨_, rfl⟩
  have s1 : a1.tmps.size = 307 := by rw [← ea1, sz_put, hsz]
  have e1 : a1.eval (.tmp 273) = .slice (some ad) names.length c := by rw [← ea1, ev_same (by omega)]
  have e15 : a1.eval (.tmp 5) = .slice (some ad) names.length c := by rw [← ea1, ev_ne (by decide), h5]
  rw [ea1]
  obtain ⟨i0, hi0, _, hszi, _⟩ := info_parts info3
  have hcut := cut_from (P := Try.prog) 25 3 .i64 Try.underlying25 hi0 1 hszi (some ad) names.length c 1 (by omega) (by omega)
  have hCd := Kd.C_drop (m := (1 : Int).toNat) (c := c) hC (by simp; omega) hc
  obtain ⟨A2, hA2⟩ : ∃ A2, (if c = (1 : Int).toNat then some ad else (some ad : Option Addr).map (·.add ((1 : Int).toNat * 1))) = A2 := ⟨_, rfl⟩
  have hCd' : Kd.C (Kd.int .i64) wc A2 (names.drop 1).length (names.drop 1) := by rw [← hA2]; exact hCd
  have hlen2 : (names.drop 1).length = names.length - 1 := List.length_drop
  rw [hA2] at hcut
  have hcut' : ∀ W : World, (Instr.slice 25 (.slice (some ad) names.length c) (some (.int .i64 1)) none none).run Try.prog W = .ok (.slice A2 (names.drop 1).length (c - 1)) W := fun W => by rw [hlen2]; exact hcut W
  refine pure_ (i := 2) (N := some 274) (v := .slice A2 (names.drop 1).length (c - 1)) (a' := a1.put (some 274) (.slice A2 (names.drop 1).length (c - 1))) #[false, true, true, false, false, false, false, false, false, false] rfl rfl (by kernel_rfl) (fun c a w hh => hQ c a _ _ w hh) (Or.inl ⟨by rfl, fun w' => ?_⟩) rfl ?_
  · have g := ev_get e1 (by omega)
    go_simp
  obtain ⟨a2, ea2⟩ : ∃ x, a1.put (some 274) (.slice A2 (names.drop 1).length (c - 1)) = x := ⟨_, rfl⟩
  have s2 : a2.tmps.size = 307 := by rw [← ea2, sz_put, s1]
  have e2 : a2.eval (.tmp 274) = .slice A2 (names.drop 1).length (c - 1) := by rw [← ea2, ev_same (by omega)]
  have e25 : a2.eval (.tmp 5) = .slice (some ad) names.length c := by rw [← ea2, ev_ne (by decide), e15]
  rw [ea2]
  refine pure_ (i := 4) (N := some 276) (v := .slice (some ad) names.length c) (a' := a2.put (some 276) (.slice (some ad) names.length c)) #[false, true, true, false, true, false, false, false, false, false] rfl rfl (by kernel_rfl) (fun c a w hh => hQ c a _ _ w hh) (Or.inl ⟨by rfl, fun w' => ?_⟩) rfl ?_
  · rw [← e25]; rfl
  obtain ⟨a3, ea3⟩ : ∃ x, a2.put (some 276) (.slice (some ad) names.length c) = x := ⟨_, rfl⟩
  have s3 : a3.tmps.size = 307 := by rw [← ea3, sz_put, s2]
  have e3 : a3.eval (.tmp 276) = .slice (some ad) names.length c := by rw [← ea3, ev_same (by omega)]
  have e32 : a3.eval (.tmp 274) = .slice A2 (names.drop 1).length (c - 1) := by rw [← ea3, ev_ne (by decide), e2]
  rw [ea3]
  refine pure_ (i := 5) (N := some 277) (v := .pointer (some ad)) (a' := a3.put (some 277) (.pointer (some ad))) #[false, true, true, false, true, true, false, false, false, false] rfl rfl (by kernel_rfl) (fun c a w hh => hQ c a _ _ w hh) (Or.inl ⟨by rfl, fun w' => ?_⟩) rfl ?_
  · have g := ev_get e3 (by omega)
    have q1 : (0 < names.length) = True := eq_true (by omega)
    go_simp
  obtain ⟨a4, ea4⟩ : ∃ x, a3.put (some 277) (.pointer (some ad)) = x := ⟨_, rfl⟩
  have s4 : a4.tmps.size = 307 := by rw [← ea4, sz_put, s3]
  have e4 : a4.eval (.tmp 277) = .pointer (some ad) := by rw [← ea4, ev_same (by omega)]
  have e42 : a4.eval (.tmp 274) = .slice A2 (names.drop 1).length (c - 1) := by rw [← ea4, ev_ne (by decide), e32]
  rw [ea4]
  refine take_ (i := 6) (N := some 278) (v := .int .i64 (rd names 0)) (a' := a4.put (some 278) (.int .i64 (rd names 0))) #[false, true, true, false, true, true, true, false, false, false] rfl rfl (by kernel_rfl) (fun c a w hh => hQ c a _ _ w hh) (Or.inl ⟨by rfl, fun w' hS => ?_⟩) hHeld rfl ?_
  · have g := ev_get e4 (by omega)
    go_simp
  obtain ⟨b, eb⟩ : ∃ x, a4.put (some 278) (.int .i64 (rd names 0)) = x := ⟨_, rfl⟩
  have sb : b.tmps.size = 307 := by rw [← eb, sz_put, s4]
  have eb8 : b.eval (.tmp 278) = .int .i64 (rd names 0) := by rw [← eb, ev_same (by omega)]
  have eb4 : b.eval (.tmp 274) = .slice A2 (names.drop 1).length (c - 1) := by rw [← eb, ev_ne (by decide), e42]
  rw [eb]
  have eall : putAll a [(273, .slice (some ad) names.length c), (274, .slice A2 (names.drop 1).length (c - 1)), (276, .slice (some ad) names.length c), (277, .pointer (some ad)), (278, .int .i64 (rd names 0))] = b := by
    rw [← eb, ← ea4, ← ea3, ← ea2, ← ea1]; rfl
  refine join_ (σ := Value × Value × Value) 2 #[true, true, true, true, true, true, true, true, false, false] (fun s_ => [(272, s_.1), (275, s_.2.1), (279, s_.2.2)]) (fun s_ w' => Kd.R (Kd.int .i64) 3 w' wc.heap.size (fun k_ => some k_ ≠ (s_.2.2 : Value).ownBlock) s_.2.1 (names.drop 1) ∧ Kd.R (Kd.int .i64) 3 w' wc.heap.size (fun k_ => some k_ ≠ (s_.2.1 : Value).ownBlock) s_.2.2 [rd names 0] ∧ Below wc.heap.size wc w') ?_ ?_
  · rintro ⟨v0, v3, v7⟩ w3 ⟨f1, f2, f3⟩
    dsimp only at f1 f2 f3 ⊢
    obtain ⟨A7, c7, e7⟩ := Kd.R_slice f2
    subst e7
    obtain ⟨b3, eb3⟩ : ∃ x, putAll b [(272, v0), (275, v3), (279, .slice A7 ([rd names 0] : List Int).length c7)] = x := ⟨_, rfl⟩
    have sb3 : b3.tmps.size = 307 := by rw [← eb3]; simp only [putAll, sz_put, sb]
    have g5 : b3.eval (.tmp 275) = v3 := by rw [← eb3]; simp only [putAll]; rw [ev_ne (by decide), ev_same (by rw [sz_put]; omega)]
    have g9 : b3.eval (.tmp 279) = .slice A7 ([rd names 0] : List Int).length c7 := by rw [← eb3]; simp only [putAll]; rw [ev_same (by rw [sz_put, sz_put]; omega)]
    rw [eb3]
    refine one_ (i := 8) (N := some 280) #[true, true, true, true, true, true, true, true, true, false] rfl rfl (by kernel_rfl) (by decide) (fun K hK => ?_)
    refine Kd.R_append_rows_step (Kd.int .i64) (w0 := wc) wc.heap.size (by rfl) (.tmp 275) (.tmp 279) 25 3 (.int .i64 0) 8 rfl Try.underlying25 info3 rfl (by decide) (by omega) v3 (names.drop 1) [rd names 0] _ _ _ (fun k_ => some k_ ≠ (.slice A7 ([rd names 0] : List Int).length c7 : Value).ownBlock) (fun _ => False) g5 g9 ?aO ?aR (fun _ _ h => h) (fun _ h => h.elim) ?aF ?aB ?aS ?aL ?_; (case aR => exact (Kd.R_reads' f2).2.2); (case aB => exact f3); (case aF => exact (fun k_ hk => Kd.fresh' (Kd.R_lt f2) k_ hk)); (case aO => exact f1); (case aS => exact (below_size f3)); (case aL => (simp only [List.length_nil, List.length_cons]; omega))
    intro v w4 ho hb hg hat
    refine hK.out _ _ (by have hxx := hx; exact (hb.cell (World.block_lt_of_cell? wc _ hxx)).trans hxx) (fun hHeld => ?_)
    refine pure_ (i := 9) (N := some 33) (v := v) (a' := (b3.put (some 280) v).put (some 33) v) #[true, true, true, true, true, true, true, true, true, true] rfl rfl (by kernel_rfl) (fun c a w hh => hQ c a _ _ w hh) (Or.inl ⟨by rfl, fun w' => ?_⟩) rfl ?_
    · have g : (b3.put (some 280) v).eval (.tmp 280) = v := ev_same (by omega)
      refine Eq.trans (b := Result.ok (Next.value ((b3.put (some 280) v).eval (.tmp 280))) w') rfl ?_
      rw [g]
    refine done_ (by kernel_rfl) ?_
    have hfin := h v0 (.slice A2 (names.drop 1).length (c - 1)) v3 (.slice A7 ([rd names 0] : List Int).length c7) v w4 (by rw [hy]; exact Kd.R_mono ho (fun _ _ => trivial)) hb
    rw [← eb3, ← eall]
    exact hfin
  · intro hCont
    refine two_ (i := 0) (j := 7) (Ni := some 272) (Nj := some 279) #[true, true, true, false, true, true, true, false, false, false] #[false, true, true, false, true, true, true, true, false, false] rfl rfl rfl rfl (by kernel_rfl) (by decide) (by decide) (fun K hK => ?_) (fun K hK => ?_)
    · refine Kd.R_lit_step (Kd.int .i64) _ 3 ?hg (N := 272) ?hd (xs := ([] : List Int)) (inner := []) (ok := fun _ => True) (okp := fun _ => True) ?hr ?hp (fun _ hk => hk) trivial (Below.refl _ _) (Nat.le_refl _) (by simp) ?_; (case hd => rfl); (case hg => rfl); (case hr => first | (go_simp; done) | (go_simp; rfl)); (case hp => exact (Reps.none _ _))
      intro v0 w1 ho hb hg_ hnew_
      have r0 : Kd.R (Kd.int .i64) 3 w1 wc.heap.size (fun _ => True) v0 ([] : List Int) := Kd.R_lower ho (below_size hB0)
      have hB1 : Below wc.heap.size wc w1 := below_step hB0 hb
      clear ho hb hg_ hnew_
      refine hK.out _ _ (by have hxx := hx; exact (hB1.cell (World.block_lt_of_cell? wc _ hxx)).trans hxx) (fun hHeld => ?_)
      clear hK K
      obtain ⟨b1, eb1⟩ : ∃ x, b.put (some 272) v0 = x := ⟨_, rfl⟩
      have sb1 : b1.tmps.size = 307 := by rw [← eb1, sz_put, sb]
      have g2 : b1.eval (.tmp 272) = v0 := by rw [← eb1, ev_same (by omega)]
      have g4 : b1.eval (.tmp 274) = .slice A2 (names.drop 1).length (c - 1) := by rw [← eb1, ev_ne (by decide), eb4]
      have g8 : b1.eval (.tmp 278) = .int .i64 (rd names 0) := by rw [← eb1, ev_ne (by decide), eb8]
      refine norm_ eb1 ?_
      refine two_ (i := 3) (j := 7) (Ni := some 275) (Nj := some 279) #[true, true, true, true, true, true, true, false, false, false] #[true, true, true, false, true, true, true, true, false, false] rfl rfl rfl rfl (by kernel_rfl) (by decide) (by decide) (fun K hK => ?_) (fun K hK => ?_)
      · refine Kd.R_append_rows_step (Kd.int .i64) (w0 := wc) wc.heap.size (by rfl) (.tmp 272) (.tmp 274) 25 3 (.int .i64 0) 8 rfl Try.underlying25 info3 rfl (by decide) (by omega) v0 [] (names.drop 1) _ _ _ (fun _ => True) (fun _ => False) g2 g4 ?aO ?aR (fun _ _ h => h) (fun _ h => h.elim) ?aF ?aB ?aS ?aL ?_; (case aR => exact (Kd.C_below hCd' hB1)); (case aB => exact hB1); (case aF => exact (fun _ _ => trivial)); (case aO => exact r0); (case aS => exact (below_size hB1)); (case aL => (simp only [List.length_nil, List.length_cons]; omega))
        intro v3 w2 ho hb hg hat
        have r3 : Kd.R (Kd.int .i64) 3 w2 wc.heap.size (fun _ => True) v3 (names.drop 1) := ho
        have hB2 : Below wc.heap.size wc w2 := hb
        clear ho hb hg hat
        refine hK.out _ _ (by have hxx := hx; exact (hB2.cell (World.block_lt_of_cell? wc _ hxx)).trans hxx) (fun hHeld => ?_)
        clear hK K
        have g8' : (b1.put (some 275) v3).eval (.tmp 278) = .int .i64 (rd names 0) := by rw [ev_ne (by decide), g8]
        have sb2 : (b1.put (some 275) v3).tmps.size = 307 := by rw [sz_put, sb1]
        obtain ⟨b2, eb2⟩ : ∃ x, b1.put (some 275) v3 = x := ⟨_, rfl⟩
        rw [eb2] at g8' sb2
        refine norm_ eb2 ?_
        refine one_ (i := 7) (N := some 279) #[true, true, true, true, true, true, true, true, false, false] rfl rfl (by kernel_rfl) (by decide) (fun K hK => ?_)
        refine Kd.R_lit_step (Kd.int .i64) _ 3 ?hg (N := 279) ?hd (xs := ([rd names 0] : List Int)) (inner := [.int .i64 (rd names 0)]) (ok := fun _ => True) (okp := fun _ => True) ?hr ?hp (fun _ hk => hk) trivial (Below.refl _ _) (Nat.le_refl _) (by simp) ?_; (case hd => rfl); (case hg => rfl); (case hr => have g := ev_get g8' (by omega); first | (go_simp; done) | (go_simp; rfl)); (case hp => exact (Reps.one (show Kd.M (Kd.int .i64) _ _ _ (rd names 0) [.int .i64 (rd names 0)] from rfl) (Reps.none _ _)))
        intro v7 w3 ho hb hg_ hnew_
        have k3 := Kd.R_elder' r3 (Kd.R_base ho) hb
        have k7 := Kd.R_lower (Kd.R_new' ho (Kd.R_lt r3)) (below_size hB2)
        have hB3 : Below wc.heap.size wc w3 := below_step hB2 hb
        refine hK.out _ _ (by have hxx := hx; exact (hB3.cell (World.block_lt_of_cell? wc _ hxx)).trans hxx) (fun hHeld => ?_)
        refine norm_ (a' := putAll b [(272, v0), (275, v3), (279, v7)]) (by rw [← eb2, ← eb1]; rfl) ?_
        exact hCont (v0, v3, v7) w3 ⟨Kd.R_mono k3 (fun _ hk => hk.2), Kd.R_mono k7 (fun _ hk => hk.2), hB3⟩
      · refine Kd.R_lit_step (Kd.int .i64) _ 3 ?hg (N := 279) ?hd (xs := ([rd names 0] : List Int)) (inner := [.int .i64 (rd names 0)]) (ok := fun _ => True) (okp := fun _ => True) ?hr ?hp (fun _ hk => hk) trivial (Below.refl _ _) (Nat.le_refl _) (by simp) ?_; (case hd => rfl); (case hg => rfl); (case hr => have g := ev_get g8 (by omega); first | (go_simp; done) | (go_simp; rfl)); (case hp => exact (Reps.one (show Kd.M (Kd.int .i64) _ _ _ (rd names 0) [.int .i64 (rd names 0)] from rfl) (Reps.none _ _)))
        intro v7 w2 ho hb hg_ hnew_
        have k0 := Kd.R_elder' r0 (Kd.R_base ho) hb
        have k7 := Kd.R_lower (Kd.R_new' ho (Kd.R_lt r0)) (below_size hB1)
        have hB2 : Below wc.heap.size wc w2 := below_step hB1 hb
        clear ho hb hg_ hnew_
        refine hK.out _ _ (by have hxx := hx; exact (hB2.cell (World.block_lt_of_cell? wc _ hxx)).trans hxx) (fun hHeld => ?_)
        clear hK K
        obtain ⟨b2, eb2⟩ : ∃ x, b1.put (some 279) v7 = x := ⟨_, rfl⟩
        have g2' : b2.eval (.tmp 272) = v0 := by rw [← eb2, ev_ne (by decide), g2]
        have g4' : b2.eval (.tmp 274) = .slice A2 (names.drop 1).length (c - 1) := by rw [← eb2, ev_ne (by decide), g4]
        refine norm_ eb2 ?_
        refine one_ (i := 3) (N := some 275) #[true, true, true, true, true, true, true, true, false, false] rfl rfl (by kernel_rfl) (by decide) (fun K hK => ?_)
        refine Kd.R_append_rows_step (Kd.int .i64) (w0 := wc) wc.heap.size (by rfl) (.tmp 272) (.tmp 274) 25 3 (.int .i64 0) 8 rfl Try.underlying25 info3 rfl (by decide) (by omega) v0 [] (names.drop 1) _ _ _ (fun k_ => some k_ ≠ (v7 : Value).ownBlock) (fun _ => False) g2' g4' ?aO ?aR (fun _ _ h => h) (fun _ h => h.elim) ?aF ?aB ?aS ?aL ?_; (case aR => exact (Kd.C_below hCd' hB2)); (case aB => exact hB2); (case aF => exact (fun k_ hk => Kd.fresh' (Kd.R_lt k7) k_ hk)); (case aO => exact (Kd.R_mono k0 (fun _ hk => hk.2))); (case aS => exact (below_size hB2)); (case aL => (simp only [List.length_nil, List.length_cons]; omega))
        intro v3 w3 ho hb hg hat
        have k7' := Kd.R_after (ok := fun _ => True) (Kd.R_mono k7 (fun _ hk => ⟨trivial, hk.2⟩)) hg hat
        have r3 : Kd.R (Kd.int .i64) 3 w3 wc.heap.size (fun k_ => some k_ ≠ (v7 : Value).ownBlock) v3 (names.drop 1) := ho
        refine hK.out _ _ (by have hxx := hx; exact (hb.cell (World.block_lt_of_cell? wc _ hxx)).trans hxx) (fun hHeld => ?_)
        refine norm_ (a' := putAll b [(272, v0), (275, v3), (279, v7)]) (by rw [← eb2, ← eb1]; show ((b.put (some 272) v0).put (some 279) v7).put (some 275) v3 = _; rw [put_comm (i := 279) (j := 275) (by decide)]; rfl) ?_
        exact hCont (v0, v3, v7) w3 ⟨r3, Kd.R_mono k7' (fun _ hk => hk.2), hb⟩
    · refine Kd.R_lit_step (Kd.int .i64) _ 3 ?hg (N := 279) ?hd (xs := ([rd names 0] : List Int)) (inner := [.int .i64 (rd names 0)]) (ok := fun _ => True) (okp := fun _ => True) ?hr ?hp (fun _ hk => hk) trivial (Below.refl _ _) (Nat.le_refl _) (by simp) ?_; (case hd => rfl); (case hg => rfl); (case hr => have g := ev_get eb8 (by omega); first | (go_simp; done) | (go_simp; rfl)); (case hp => exact (Reps.one (show Kd.M (Kd.int .i64) _ _ _ (rd names 0) [.int .i64 (rd names 0)] from rfl) (Reps.none _ _)))
      intro v7 w1 ho hb hg_ hnew_
      have r7 : Kd.R (Kd.int .i64) 3 w1 wc.heap.size (fun _ => True) v7 [rd names 0] := Kd.R_lower ho (below_size hB0)
      have hB1 : Below wc.heap.size wc w1 := below_step hB0 hb
      clear ho hb hg_ hnew_
      refine hK.out _ _ (by have hxx := hx; exact (hB1.cell (World.block_lt_of_cell? wc _ hxx)).trans hxx) (fun hHeld => ?_)
      clear hK K
      obtain ⟨b1, eb1⟩ : ∃ x, b.put (some 279) v7 = x := ⟨_, rfl⟩
      have sb1 : b1.tmps.size = 307 := by rw [← eb1, sz_put, sb]
      have g4 : b1.eval (.tmp 274) = .slice A2 (names.drop 1).length (c - 1) := by rw [← eb1, ev_ne (by decide), eb4]
      refine norm_ eb1 ?_
      refine one_ (i := 0) (N := some 272) #[true, true, true, false, true, true, true, true, false, false] rfl rfl (by kernel_rfl) (by decide) (fun K hK => ?_)
      refine Kd.R_lit_step (Kd.int .i64) _ 3 ?hg (N := 272) ?hd (xs := ([] : List Int)) (inner := []) (ok := fun _ => True) (okp := fun _ => True) ?hr ?hp (fun _ hk => hk) trivial (Below.refl _ _) (Nat.le_refl _) (by simp) ?_; (case hd => rfl); (case hg => rfl); (case hr => first | (go_simp; done) | (go_simp; rfl)); (case hp => exact (Reps.none _ _))
      intro v0 w2 ho hb hg_ hnew_
      have k7 := Kd.R_elder' r7 (Kd.R_base ho) hb
      have k0 := Kd.R_lower (Kd.R_new' ho (Kd.R_lt r7)) (below_size hB1)
      have hB2 : Below wc.heap.size wc w2 := below_step hB1 hb
      clear ho hb hg_ hnew_
      refine hK.out _ _ (by have hxx := hx; exact (hB2.cell (World.block_lt_of_cell? wc _ hxx)).trans hxx) (fun hHeld => ?_)
      clear hK K
      obtain ⟨b2, eb2⟩ : ∃ x, b1.put (some 272) v0 = x := ⟨_, rfl⟩
      have g2' : b2.eval (.tmp 272) = v0 := by rw [← eb2, ev_same (by omega)]
      have g4' : b2.eval (.tmp 274) = .slice A2 (names.drop 1).length (c - 1) := by rw [← eb2, ev_ne (by decide), g4]
      refine norm_ eb2 ?_
      refine one_ (i := 3) (N := some 275) #[true, true, true, true, true, true, true, true, false, false] rfl rfl (by kernel_rfl) (by decide) (fun K hK => ?_)
      refine Kd.R_append_rows_step (Kd.int .i64) (w0 := wc) wc.heap.size (by rfl) (.tmp 272) (.tmp 274) 25 3 (.int .i64 0) 8 rfl Try.underlying25 info3 rfl (by decide) (by omega) v0 [] (names.drop 1) _ _ _ (fun k_ => some k_ ≠ (v7 : Value).ownBlock) (fun _ => False) g2' g4' ?aO ?aR (fun _ _ h => h) (fun _ h => h.elim) ?aF ?aB ?aS ?aL ?_; (case aR => exact (Kd.C_below hCd' hB2)); (case aB => exact hB2); (case aF => exact (fun k_ hk => Kd.fresh' (Kd.R_lt k7) k_ hk)); (case aO => exact (Kd.R_mono k0 (fun _ hk => hk.2))); (case aS => exact (below_size hB2)); (case aL => (simp only [List.length_nil, List.length_cons]; omega))
      intro v3 w3 ho hb hg hat
      have k7' := Kd.R_after (ok := fun _ => True) (Kd.R_mono k7 (fun _ hk => ⟨trivial, hk.2⟩)) hg hat
      have r3 : Kd.R (Kd.int .i64) 3 w3 wc.heap.size (fun k_ => some k_ ≠ (v7 : Value).ownBlock) v3 (names.drop 1) := ho
      refine hK.out _ _ (by have hxx := hx; exact (hb.cell (World.block_lt_of_cell? wc _ hxx)).trans hxx) (fun hHeld => ?_)
      refine norm_ (a' := putAll b [(272, v0), (275, v3), (279, v7)]) (by rw [← eb2, ← eb1]; show ((b.put (some 279) v7).put (some 272) v0).put (some 275) v3 = _; rw [put_comm (i := 279) (j := 272) (by decide), put_comm (i := 279) (j := 275) (by decide)]; rfl) ?_
      exact hCont (v0, v3, v7) w3 ⟨r3, Kd.R_mono k7' (fun _ hk => hk.2), hb⟩
/-! ### laws_FnRoundsEnd: function 13 -/
mutual
def laws_FnRoundsEnd.j0 : Nat → List Int → List (List Int) → Bool → Int → Int → Bool → Option (Bool)
  | 0, _, _, _, _, _, _ => none
  | k + 1, x5, x6, x7, x10, x14, x111 => if x111 = true then (some false) else (if x7 = true then (if 0 < (x6.length : Int) then (if ((rd_L2 x6 0).length : Int) = (x5.length : Int) then (if 0 ≤ (wrap64 ((x6.length : Int) - 1)) then (if (wrap64 ((x6.length : Int) - 1)) < (x6.length : Int) then (if ((rd_L2 x6 (wrap64 ((x6.length : Int) - 1))).length : Int) = 1 then (laws_FnRoundsEnd.j1 k x5 x6 x10 x14 (x5.length : Int) (x10 != (wrap64 ((wrap64 (2 * (x5.length : Int))) * (wrap64 ((x6.length : Int) - 1)))))) else (laws_FnRoundsEnd.j1 k x5 x6 x10 x14 (x5.length : Int) true)) else (none)) else (none)) else (laws_FnRoundsEnd.j1 k x5 x6 x10 x14 (x5.length : Int) true)) else (none)) else (some true))
def laws_FnRoundsEnd.j1 : Nat → List Int → List (List Int) → Int → Int → Int → Bool → Option (Bool)
  | 0, _, _, _, _, _, _ => none
  | k + 1, x5, x6, x10, x14, x18, x140 => if x140 = true then (some false) else (laws_FnRoundsEnd.l0 k x5 x6 x10 x14 x18 1)
def laws_FnRoundsEnd.l0 : Nat → List Int → List (List Int) → Int → Int → Int → Int → Option (Bool)
  | 0, _, _, _, _, _, _ => none
  | k + 1, x5, x6, x10, x14, x18, x19 => if x19 < (x6.length : Int) then (if 0 ≤ x19 then (if 0 ≤ (wrap64 (x19 - 1)) then (if (wrap64 (x19 - 1)) < (x6.length : Int) then (if (wrap64 (2 * ((rd_L2 x6 x19).length : Int))) > ((rd_L2 x6 (wrap64 (x19 - 1))).length : Int) then (laws_FnRoundsEnd.j3 k x5 x6 x10 x14 x18 x19 true) else (laws_FnRoundsEnd.j3 k x5 x6 x10 x14 x18 x19 (decide (((rd_L2 x6 x19).length : Int) < 1)))) else (none)) else (none)) else (none)) else ((impl_WinnerOf.f k x5).bind fun bt610 => (if bt610.2 = true then (if x14 < x18 then (laws_FnRoundsEnd.j6 k x5 x6 x10 x14 x18 true) else (laws_FnRoundsEnd.j6 k x5 x6 x10 x14 x18 (decide (bt610.1 < 0)))) else (laws_FnRoundsEnd.j6 k x5 x6 x10 x14 x18 true)))
def laws_FnRoundsEnd.j3 : Nat → List Int → List (List Int) → Int → Int → Int → Int → Bool → Option (Bool)
  | 0, _, _, _, _, _, _, _ => none
  | k + 1, x5, x6, x10, x14, x18, x19, x167 => if x167 = true then (some false) else (if 0 ≤ x19 then (if x19 < (x6.length : Int) then (laws_FnRoundsEnd.l1 k x5 x6 x10 x14 x18 x19 (rd_L2 x6 x19) ((rd_L2 x6 x19).length : Int) 0) else (none)) else (none))
def laws_FnRoundsEnd.l1 : Nat → List Int → List (List Int) → Int → Int → Int → Int → List Int → Int → Int → Option (Bool)
  | 0, _, _, _, _, _, _, _, _, _ => none
  | k + 1, x5, x6, x10, x14, x18, x19, x171, x172, x173 => if x173 < x172 then (if 0 ≤ x173 then (if x173 < (x171.length : Int) then (if 0 ≤ (wrap64 (x19 - 1)) then (if (wrap64 (x19 - 1)) < (x6.length : Int) then ((laws_zHas.f k (rd_L2 x6 (wrap64 (x19 - 1))) (rd x171 x173)).bind fun t607 => (if t607 = true then (if x173 > 0 then (if 0 ≤ x19 then (if x19 < (x6.length : Int) then (if 0 ≤ (wrap64 (x173 - 1)) then (if (wrap64 (x173 - 1)) < ((rd_L2 x6 x19).length : Int) then (laws_FnRoundsEnd.j5 k x5 x6 x10 x14 x18 x19 x171 x172 x173 (decide ((rd (rd_L2 x6 x19) (wrap64 (x173 - 1))) ≥ (rd x171 x173)))) else (none)) else (none)) else (none)) else (none)) else (laws_FnRoundsEnd.j5 k x5 x6 x10 x14 x18 x19 x171 x172 x173 false)) else (laws_FnRoundsEnd.j5 k x5 x6 x10 x14 x18 x19 x171 x172 x173 true))) else (none)) else (none)) else (none)) else (none)) else (laws_FnRoundsEnd.l0 k x5 x6 x10 x14 x18 (wrap64 (x19 + 1)))
def laws_FnRoundsEnd.j5 : Nat → List Int → List (List Int) → Int → Int → Int → Int → List Int → Int → Int → Bool → Option (Bool)
  | 0, _, _, _, _, _, _, _, _, _, _ => none
  | k + 1, x5, x6, x10, x14, x18, x19, x171, x172, x173, x201 => if x201 = true then (some false) else (laws_FnRoundsEnd.l1 k x5 x6 x10 x14 x18 x19 x171 x172 (wrap64 (x173 + 1)))
def laws_FnRoundsEnd.j6 : Nat → List Int → List (List Int) → Int → Int → Int → Bool → Option (Bool)
  | 0, _, _, _, _, _, _ => none
  | k + 1, x5, x6, x10, x14, x18, x218 => if x218 = true then (some false) else (if 0 ≤ x18 then (if (x18 : Int).toNat ≤ 35184372088832 then (laws_FnRoundsEnd.l2 k x5 x6 x10 x14 (List.replicate (x18 : Int).toNat 0) x5 (x5.length : Int) 0) else (none)) else (none))
def laws_FnRoundsEnd.l2 : Nat → List Int → List (List Int) → Int → Int → List Int → List Int → Int → Int → Option (Bool)
  | 0, _, _, _, _, _, _, _, _ => none
  | k + 1, x5, x6, x10, x14, x24, x221, x222, x223 => if x223 < x222 then (if 0 ≤ x223 then (if x223 < (x221.length : Int) then (laws_FnRoundsEnd.l3 k x5 x6 x10 x14 x24 x223 (rd x221 x223) x221 x222 x223 x5 (x5.length : Int) 0) else (none)) else (none)) else ((impl_SurvivorsOf.f k x24).bind fun bt619 => ((impl_BothWays.f k x24).bind fun bt623 => (if bt619.2 = true then ((laws_zRows.f k bt619.1 x6).bind fun t625 => (if t625 = true then (if bt623.2 = true then (laws_FnRoundsEnd.j9 k x5 x10 x14 (bt623.1 != x14)) else (laws_FnRoundsEnd.j9 k x5 x10 x14 true)) else (laws_FnRoundsEnd.j9 k x5 x10 x14 true))) else (laws_FnRoundsEnd.j9 k x5 x10 x14 true))))
def laws_FnRoundsEnd.l3 : Nat → List Int → List (List Int) → Int → Int → List Int → Int → Int → List Int → Int → Int → List Int → Int → Int → Option (Bool)
  | 0, _, _, _, _, _, _, _, _, _, _, _, _, _ => none
  | k + 1, x5, x6, x10, x14, x24, x25, x26, x221, x222, x223, x228, x229, x230 => if x230 < x229 then (if 0 ≤ x230 then (if x230 < (x228.length : Int) then (if (rd x228 x230) < x26 then (if 0 ≤ x25 then (if x25 < (x24.length : Int) then (laws_FnRoundsEnd.l3 k x5 x6 x10 x14 (x24.set (x25 : Int).toNat (wrap64 ((rd x24 x25) + 1))) x25 x26 x221 x222 x223 x228 x229 (wrap64 (x230 + 1))) else (none)) else (none)) else (laws_FnRoundsEnd.l3 k x5 x6 x10 x14 x24 x25 x26 x221 x222 x223 x228 x229 (wrap64 (x230 + 1)))) else (none)) else (none)) else (laws_FnRoundsEnd.l2 k x5 x6 x10 x14 x24 x221 x222 (wrap64 (x223 + 1)))
def laws_FnRoundsEnd.j9 : Nat → List Int → Int → Int → Bool → Option (Bool)
  | 0, _, _, _, _ => none
  | k + 1, x5, x10, x14, x271 => if x271 = true then (some false) else (if 1 ≤ (x5.length : Int) then ((slices_Clone_int_int.f (x5.drop 1)).bind fun t630 => (if 0 < (x5.length : Int) then ((some (([rd x5 0] : List Int) : List Int)).bind fun y634 => (if t630.length + y634.length < 17592186044416 then ((some (t630 ++ y634 : List Int)).bind fun y637 => ((impl_BothWays.f k y637).bind fun bt640 => ((impl_RoundMessages.f k y637).bind fun bt642 => (if bt640.2 = true then (if bt640.1 = x14 then (if bt642.2 = true then (laws_FnRoundsEnd.j10 k (bt642.1 != x10)) else (laws_FnRoundsEnd.j10 k true)) else (laws_FnRoundsEnd.j10 k true)) else (laws_FnRoundsEnd.j10 k true))))) else (none))) else (none))) else (none))
def laws_FnRoundsEnd.j10 : Nat → Bool → Option (Bool)
  | 0, _ => none
  | k + 1, x306 => if x306 = true then (some false) else (some true)
end
def laws_FnRoundsEnd.f (k : Nat) (l0 : List Int) (l1 : List Int) : Option (Bool) := (laws_big.f l0 l1).bind fun t578 => (if t578 = true then (some true) else ((spec_DrawSurvivorsOf.f k l0).bind fun t579 => ((impl_SurvivorsOf.f k t579).bind fun bt582 => ((spec_SurvivorsOf.f k t579).bind fun bt586 => ((impl_RoundMessages.f k t579).bind fun bt590 => ((spec_RoundMessages.f k t579).bind fun bt592 => ((impl_BothWays.f k t579).bind fun bt594 => ((spec_BothWays.f k t579).bind fun bt596 => (if (bt582.2 != bt586.2) = true then (laws_FnRoundsEnd.j0 k t579 bt582.1 bt582.2 bt590.1 bt594.1 true) else ((laws_zRows.f k bt582.1 bt586.1).bind fun t598 => (if t598 = true then (if (bt590.2 != bt592.2) = true then (laws_FnRoundsEnd.j0 k t579 bt582.1 bt582.2 bt590.1 bt594.1 true) else (if bt590.1 = bt592.1 then (if (bt594.2 != bt596.2) = true then (laws_FnRoundsEnd.j0 k t579 bt582.1 bt582.2 bt590.1 bt594.1 true) else (if bt594.1 = bt596.1 then (if (bt590.2 != bt582.2) = true then (laws_FnRoundsEnd.j0 k t579 bt582.1 bt582.2 bt590.1 bt594.1 true) else (laws_FnRoundsEnd.j0 k t579 bt582.1 bt582.2 bt590.1 bt594.1 (bt594.2 != bt582.2))) else (laws_FnRoundsEnd.j0 k t579 bt582.1 bt582.2 bt590.1 bt594.1 true))) else (laws_FnRoundsEnd.j0 k t579 bt582.1 bt582.2 bt590.1 bt594.1 true))) else (laws_FnRoundsEnd.j0 k t579 bt582.1 bt582.2 bt590.1 bt594.1 true))))))))))))
def laws_FnRoundsEnd.T19 : Bool × List (List Nat × List Nat) := (true, [([], []), ([], []), ([0, 1], [0, 1]), ([2], [2]), ([3], [3]), ([4], [4]), ([], []), ([], []), ([7], [7]), ([6, 8], [6, 8]), ([9], [9]), ([10], [10]), ([5, 11], [5, 11]), ([12], [12]), ([13], [13]), ([13], [13]), ([14, 15, 13], [13, 14, 15]), ([16, 13], [13, 16]), ([17, 13], [13, 17]), ([18, 13], [13, 18]), ([13, 19], [13, 19])])
def laws_FnRoundsEnd.B19 : List Nat := [0, 0, 3, 7, 15, 31, 0, 0, 128, 448, 960, 1984, 4095, 8191, 16383, 16383, 65535, 131071, 262143, 524287, 1048575]
theorem laws_FnRoundsEnd.tab19 : rtab .any (opsOf Try.f13 19) = laws_FnRoundsEnd.T19 := by kernel_rfl
theorem laws_FnRoundsEnd.bits19 : waitsOk laws_FnRoundsEnd.T19.2 laws_FnRoundsEnd.B19 = true := by kernel_rfl
/-- The body of the law, by itself. -/
noncomputable def P13 : Code := Try.f13.body.getD .skip
end Go.Proofs.Ytbiiklkkfkipeaa.X
