/- What the functions of the program come to, and that they do: written by this session's program wip/xprint.py out of the translation; parts named extern are typed by hand. -/
import Derived.Test.YtbiiklkkfkipeaaX0
import Derived.Test.YtbiiklkkfkipeaaX4
import Derived.Test.YtbiiklkkfkipeaaX11
import Derived.Test.YtbiiklkkfkipeaaX25
namespace Go.Proofs.Ytbiiklkkfkipeaa.X
open Go.RowKit Go.Proofs.YtbiiklkkfkipeaaW.PrintWords Go.Proofs.YtbiiklkkfkipeaaW.PrintLast Go.Proofs.YtbiiklkkfkipeaaW.PrintMore
attribute [local go_sem] max2_int min2_int max_two min_two max_three min_three max_four min_four   -- for this text's walks alone
set_option linter.unusedVariables false
set_option linter.unusedSimpArgs false

/-! ### spec_BothWays: function 35 -/
mutual
def spec_BothWays.l0 : Nat → List Int → Int → List Int → Int → Int → Option (Int × Bool)
  | 0, _, _, _, _, _ => none
  | k + 1, x0, x4, x5, x22, x23 => if x23 < x22 then (if x5.length < 17592186044416 then (spec_BothWays.l0 k x0 x4 (x5 ++ [x23]) x22 (wrap64 (x23 + 1))) else (none)) else (spec_BothWays.l1 k x0 x4 x5 0 1)
def spec_BothWays.l1 : Nat → List Int → Int → List Int → Int → Int → Option (Int × Bool)
  | 0, _, _, _, _, _ => none
  | k + 1, x0, x4, x5, x7, x8 => spec_BothWays.l2 k x0 x4 x7 x8 ([] : List Int) x5 (x5.length : Int) 0
def spec_BothWays.l2 : Nat → List Int → Int → Int → Int → List Int → List Int → Int → Int → Option (Int × Bool)
  | 0, _, _, _, _, _, _, _, _ => none
  | k + 1, x0, x4, x7, x8, x9, x33, x34, x35 => if x35 < x34 then (if 0 ≤ x35 then (if x35 < (x33.length : Int) then (if x8 ≥ x4 then ((spec_elWinner.f k x0).bind fun t383 => (spec_BothWays.j3 k x0 x4 x7 x8 x9 (rd x33 x35) x33 x34 x35 ((rd x33 x35) == t383))) else (spec_BothWays.j3 k x0 x4 x7 x8 x9 (rd x33 x35) x33 x34 x35 false)) else (none)) else (none)) else (if x8 ≥ x4 then (some (x7, true)) else (spec_BothWays.l1 k x0 x4 x9 x7 (wrap64 (x8 * 2))))
def spec_BothWays.j3 : Nat → List Int → Int → Int → Int → List Int → Int → List Int → Int → Int → Bool → Option (Int × Bool)
  | 0, _, _, _, _, _, _, _, _, _, _ => none
  | k + 1, x0, x4, x7, x8, x9, x11, x33, x34, x35, x47 => if x47 = true then (spec_BothWays.l2 k x0 x4 (wrap64 (x7 + x4)) x8 x9 x33 x34 (wrap64 (x35 + 1))) else ((spec_l1Least.f x8 x4).bind fun t384 => ((spec_elSent.f k x0 x11 (-1) t384).bind fun bt385 => ((spec_l1Least.f x8 x4).bind fun t387 => ((spec_elSent.f k x0 x11 1 t387).bind fun bt388 => (if bt385.2 = true then (spec_BothWays.j4 k x0 x4 (wrap64 ((wrap64 (x7 + (wrap64 (bt385.1 + bt388.1)))) + bt385.1)) x8 x9 x11 bt385.2 bt388.1 bt388.2 x33 x34 x35) else (spec_BothWays.j4 k x0 x4 (wrap64 (x7 + (wrap64 (bt385.1 + bt388.1)))) x8 x9 x11 bt385.2 bt388.1 bt388.2 x33 x34 x35))))))
def spec_BothWays.j4 : Nat → List Int → Int → Int → Int → List Int → Int → Bool → Int → Bool → List Int → Int → Int → Option (Int × Bool)
  | 0, _, _, _, _, _, _, _, _, _, _, _, _ => none
  | k + 1, x0, x4, x7, x8, x9, x11, x13, x14, x15, x33, x34, x35 => if x15 = true then (if x13 = true then (if x9.length < 17592186044416 then (spec_BothWays.l2 k x0 x4 (wrap64 (x7 + x14)) x8 (x9 ++ [x11]) x33 x34 (wrap64 (x35 + 1))) else (none)) else (spec_BothWays.l2 k x0 x4 (wrap64 (x7 + x14)) x8 x9 x33 x34 (wrap64 (x35 + 1)))) else (if x13 = true then (spec_BothWays.l2 k x0 x4 x7 x8 x9 x33 x34 (wrap64 (x35 + 1))) else (spec_BothWays.l2 k x0 x4 x7 x8 x9 x33 x34 (wrap64 (x35 + 1))))
end
def spec_BothWays.f (k : Nat) (l0 : List Int) : Option (Int × Bool) := (spec_elNames.f k l0).bind fun t378 => (if t378 = true then (spec_BothWays.l0 k l0 (l0.length : Int) ([] : List Int) (l0.length : Int) 0) else (some (0, false)))
theorem spec_BothWays.mono_l : ∀ k, (∀ y0 y1 y2 y3 y4, LeO (spec_BothWays.l0 k y0 y1 y2 y3 y4) (spec_BothWays.l0 (k + 1) y0 y1 y2 y3 y4)) ∧ (∀ y0 y1 y2 y3 y4, LeO (spec_BothWays.l1 k y0 y1 y2 y3 y4) (spec_BothWays.l1 (k + 1) y0 y1 y2 y3 y4)) ∧ (∀ y0 y1 y2 y3 y4 y5 y6 y7, LeO (spec_BothWays.l2 k y0 y1 y2 y3 y4 y5 y6 y7) (spec_BothWays.l2 (k + 1) y0 y1 y2 y3 y4 y5 y6 y7)) ∧ (∀ y0 y1 y2 y3 y4 y5 y6 y7 y8 y9, LeO (spec_BothWays.j3 k y0 y1 y2 y3 y4 y5 y6 y7 y8 y9) (spec_BothWays.j3 (k + 1) y0 y1 y2 y3 y4 y5 y6 y7 y8 y9)) ∧ (∀ y0 y1 y2 y3 y4 y5 y6 y7 y8 y9 y10 y11, LeO (spec_BothWays.j4 k y0 y1 y2 y3 y4 y5 y6 y7 y8 y9 y10 y11) (spec_BothWays.j4 (k + 1) y0 y1 y2 y3 y4 y5 y6 y7 y8 y9 y10 y11))
  | 0 => ⟨fun _ _ _ _ _ r h => by simp [spec_BothWays.l0] at h, fun _ _ _ _ _ r h => by simp [spec_BothWays.l1] at h, fun _ _ _ _ _ _ _ _ r h => by simp [spec_BothWays.l2] at h, fun _ _ _ _ _ _ _ _ _ _ r h => by simp [spec_BothWays.j3] at h, fun _ _ _ _ _ _ _ _ _ _ _ _ r h => by simp [spec_BothWays.j4] at h⟩
  | k + 1 => by
    obtain ⟨ih0, ih1, ih2, ih3, ih4⟩ := spec_BothWays.mono_l k
    refine ⟨?_, ?_, ?_, ?_, ?_⟩
    · intro y0 y1 y2 y3 y4
      unfold spec_BothWays.l0
      repeat' first
      | (with_reducible exact ih0 _ _ _ _ _)
      | (with_reducible exact ih1 _ _ _ _ _)
      | (with_reducible exact ih2 _ _ _ _ _ _ _ _)
      | (with_reducible exact ih3 _ _ _ _ _ _ _ _ _ _)
      | (with_reducible exact ih4 _ _ _ _ _ _ _ _ _ _ _ _)
      | (with_reducible exact spec_elNames.mono _ _)
      | (with_reducible exact spec_elSent.mono _ _ _ _ _)
      | (with_reducible exact spec_elWinner.mono _ _)
      | (with_reducible exact LeO.refl _)
      | (with_reducible exact LeO.none _)
      | (with_reducible refine LeO.ite ?_ ?_)
      | (with_reducible refine LeO.bind ?_ (fun _ => ?_))
      | exact ih0 _ _ _ _ _
      | exact ih1 _ _ _ _ _
      | exact ih2 _ _ _ _ _ _ _ _
      | exact ih3 _ _ _ _ _ _ _ _ _ _
      | exact ih4 _ _ _ _ _ _ _ _ _ _ _ _
      | exact spec_elNames.mono _ _
      | exact spec_elSent.mono _ _ _ _ _
      | exact spec_elWinner.mono _ _
      | exact LeO.none _
      | refine LeO.ite ?_ ?_
      | refine LeO.bind ?_ (fun _ => ?_)
    · intro y0 y1 y2 y3 y4
      unfold spec_BothWays.l1
      repeat' first
      | (with_reducible exact ih0 _ _ _ _ _)
      | (with_reducible exact ih1 _ _ _ _ _)
      | (with_reducible exact ih2 _ _ _ _ _ _ _ _)
      | (with_reducible exact ih3 _ _ _ _ _ _ _ _ _ _)
      | (with_reducible exact ih4 _ _ _ _ _ _ _ _ _ _ _ _)
      | (with_reducible exact spec_elNames.mono _ _)
      | (with_reducible exact spec_elSent.mono _ _ _ _ _)
      | (with_reducible exact spec_elWinner.mono _ _)
      | (with_reducible exact LeO.refl _)
      | (with_reducible exact LeO.none _)
      | (with_reducible refine LeO.ite ?_ ?_)
      | (with_reducible refine LeO.bind ?_ (fun _ => ?_))
      | exact ih0 _ _ _ _ _
      | exact ih1 _ _ _ _ _
      | exact ih2 _ _ _ _ _ _ _ _
      | exact ih3 _ _ _ _ _ _ _ _ _ _
      | exact ih4 _ _ _ _ _ _ _ _ _ _ _ _
      | exact spec_elNames.mono _ _
      | exact spec_elSent.mono _ _ _ _ _
      | exact spec_elWinner.mono _ _
      | exact LeO.none _
      | refine LeO.ite ?_ ?_
      | refine LeO.bind ?_ (fun _ => ?_)
    · intro y0 y1 y2 y3 y4 y5 y6 y7
      unfold spec_BothWays.l2
      repeat' first
      | (with_reducible exact ih0 _ _ _ _ _)
      | (with_reducible exact ih1 _ _ _ _ _)
      | (with_reducible exact ih2 _ _ _ _ _ _ _ _)
      | (with_reducible exact ih3 _ _ _ _ _ _ _ _ _ _)
      | (with_reducible exact ih4 _ _ _ _ _ _ _ _ _ _ _ _)
      | (with_reducible exact spec_elNames.mono _ _)
      | (with_reducible exact spec_elSent.mono _ _ _ _ _)
      | (with_reducible exact spec_elWinner.mono _ _)
      | (with_reducible exact LeO.refl _)
      | (with_reducible exact LeO.none _)
      | (with_reducible refine LeO.ite ?_ ?_)
      | (with_reducible refine LeO.bind ?_ (fun _ => ?_))
      | exact ih0 _ _ _ _ _
      | exact ih1 _ _ _ _ _
      | exact ih2 _ _ _ _ _ _ _ _
      | exact ih3 _ _ _ _ _ _ _ _ _ _
      | exact ih4 _ _ _ _ _ _ _ _ _ _ _ _
      | exact spec_elNames.mono _ _
      | exact spec_elSent.mono _ _ _ _ _
      | exact spec_elWinner.mono _ _
      | exact LeO.none _
      | refine LeO.ite ?_ ?_
      | refine LeO.bind ?_ (fun _ => ?_)
    · intro y0 y1 y2 y3 y4 y5 y6 y7 y8 y9
      unfold spec_BothWays.j3
      repeat' first
      | (with_reducible exact ih0 _ _ _ _ _)
      | (with_reducible exact ih1 _ _ _ _ _)
      | (with_reducible exact ih2 _ _ _ _ _ _ _ _)
      | (with_reducible exact ih3 _ _ _ _ _ _ _ _ _ _)
      | (with_reducible exact ih4 _ _ _ _ _ _ _ _ _ _ _ _)
      | (with_reducible exact spec_elNames.mono _ _)
      | (with_reducible exact spec_elSent.mono _ _ _ _ _)
      | (with_reducible exact spec_elWinner.mono _ _)
      | (with_reducible exact LeO.refl _)
      | (with_reducible exact LeO.none _)
      | (with_reducible refine LeO.ite ?_ ?_)
      | (with_reducible refine LeO.bind ?_ (fun _ => ?_))
      | exact ih0 _ _ _ _ _
      | exact ih1 _ _ _ _ _
      | exact ih2 _ _ _ _ _ _ _ _
      | exact ih3 _ _ _ _ _ _ _ _ _ _
      | exact ih4 _ _ _ _ _ _ _ _ _ _ _ _
      | exact spec_elNames.mono _ _
      | exact spec_elSent.mono _ _ _ _ _
      | exact spec_elWinner.mono _ _
      | exact LeO.none _
      | refine LeO.ite ?_ ?_
      | refine LeO.bind ?_ (fun _ => ?_)
    · intro y0 y1 y2 y3 y4 y5 y6 y7 y8 y9 y10 y11
      unfold spec_BothWays.j4
      repeat' first
      | (with_reducible exact ih0 _ _ _ _ _)
      | (with_reducible exact ih1 _ _ _ _ _)
      | (with_reducible exact ih2 _ _ _ _ _ _ _ _)
      | (with_reducible exact ih3 _ _ _ _ _ _ _ _ _ _)
      | (with_reducible exact ih4 _ _ _ _ _ _ _ _ _ _ _ _)
      | (with_reducible exact spec_elNames.mono _ _)
      | (with_reducible exact spec_elSent.mono _ _ _ _ _)
      | (with_reducible exact spec_elWinner.mono _ _)
      | (with_reducible exact LeO.refl _)
      | (with_reducible exact LeO.none _)
      | (with_reducible refine LeO.ite ?_ ?_)
      | (with_reducible refine LeO.bind ?_ (fun _ => ?_))
      | exact ih0 _ _ _ _ _
      | exact ih1 _ _ _ _ _
      | exact ih2 _ _ _ _ _ _ _ _
      | exact ih3 _ _ _ _ _ _ _ _ _ _
      | exact ih4 _ _ _ _ _ _ _ _ _ _ _ _
      | exact spec_elNames.mono _ _
      | exact spec_elSent.mono _ _ _ _ _
      | exact spec_elWinner.mono _ _
      | exact LeO.none _
      | refine LeO.ite ?_ ?_
      | refine LeO.bind ?_ (fun _ => ?_)
theorem spec_BothWays.mono : ∀ a0 k, LeO (spec_BothWays.f k a0) (spec_BothWays.f (k + 1) a0) := by
  intro a0 k
  obtain ⟨ih0, ih1, ih2, ih3, ih4⟩ := spec_BothWays.mono_l k
  unfold spec_BothWays.f
  repeat' first
      | (with_reducible exact ih0 _ _ _ _ _)
      | (with_reducible exact ih1 _ _ _ _ _)
      | (with_reducible exact ih2 _ _ _ _ _ _ _ _)
      | (with_reducible exact ih3 _ _ _ _ _ _ _ _ _ _)
      | (with_reducible exact ih4 _ _ _ _ _ _ _ _ _ _ _ _)
      | (with_reducible exact spec_elNames.mono _ _)
      | (with_reducible exact spec_elSent.mono _ _ _ _ _)
      | (with_reducible exact spec_elWinner.mono _ _)
      | (with_reducible exact LeO.refl _)
      | (with_reducible exact LeO.none _)
      | (with_reducible refine LeO.ite ?_ ?_)
      | (with_reducible refine LeO.bind ?_ (fun _ => ?_))
      | exact ih0 _ _ _ _ _
      | exact ih1 _ _ _ _ _
      | exact ih2 _ _ _ _ _ _ _ _
      | exact ih3 _ _ _ _ _ _ _ _ _ _
      | exact ih4 _ _ _ _ _ _ _ _ _ _ _ _
      | exact spec_elNames.mono _ _
      | exact spec_elSent.mono _ _ _ _ _
      | exact spec_elWinner.mono _ _
      | exact LeO.none _
      | refine LeO.ite ?_ ?_
      | refine LeO.bind ?_ (fun _ => ?_)
set_option maxHeartbeats 8000000 in
set_option maxRecDepth 100000 in
theorem spec_BothWays.calls (k : Nat) (A0 : Option Addr) (c0 : Nat) (l0 : List Int) (r1 : Int) (r2 : Bool) (w : World) (hr0 : Kd.C (Kd.int .i64) w A0 l0.length l0) (hc0 : l0.length ≤ c0) (h : spec_BothWays.f k l0 = some (r1, r2)) :
    Calls Try.prog 35 #[.slice A0 l0.length c0] w fun e w' => e = .returned (.tuple #[.int .i64 r1, .bool r2]) ∧ Below w.heap.size w w' := by
  have HR0 := Aside0.mk hr0
  have HC0 := Aside0.mk hc0
  clear hr0 hc0
  have HB := Aside0.mk (Below.refl w.heap.size w)
  have H : ((spec_elNames.f k l0).bind fun t378 => (if t378 = true then (spec_BothWays.l0 k l0 (l0.length : Int) ([] : List Int) (l0.length : Int) 0) else (some (0, false)))) = some (r1, r2) := h
  clear h
  replace H := Option.bind_eq_some_iff.mp H
  obtain ⟨t378, A20, H⟩ := H
  replace H : (if t378 = true then (spec_BothWays.l0 k l0 (l0.length : Int) ([] : List Int) (l0.length : Int) 0) else (some (0, false))) = some (r1, r2) := H
  have A2 := Aside0.mk A20
  clear A20
  by_cases c3 : t378 = true
  · subst c3
    have H1 : (spec_BothWays.l0 k l0 (l0.length : Int) ([] : List Int) (l0.length : Int) 0) = some (r1, r2) := by rw [if_pos rfl] at H; exact H
    clear H
    have H := H1
    clear H1
    have H' := Aside0.mk H
    clear H
    go_enter Try.func35, Try.ntmps35
    go_wp2_with (first | ((with_reducible refine gate_callee (f := 53) rfl ?_); refine goesL_ (some 17) rfl rfl Try.func53 (by kernel_rfl) rfl #[.slice A0 l0.length c0] rfl (by (try simp only [List.map_toArray, List.map_cons, List.map_nil]); first | done | rfl | (simp only [List.length_drop, List.length_take]; rfl)) ?_; (with_reducible refine (spec_elNames.calls k _ _ l0 true _ ?side1 ?side2 A2.out).mono ?_); (case side1 => repeat (first | exact HR0.out | (with_reducible refine Kd.C_alloc ?_ _) | (with_reducible refine Kd.C_drewN ?_ _) | (with_reducible refine Kd.C_drew ?_))); (case side2 => exact HC0.out); rintro e w' ⟨rfl, ⟨nd, rfl⟩⟩; refine ⟨_, rfl, ?_⟩))
    go_loopg [5, 23] k (fun kq v5 v23 w' => ∃ (x5_1 : List Int) (x23_1 : Int), v23 = .int .i64 x23_1 ∧ Aside0 (spec_BothWays.l0 kq l0 (l0.length : Int) x5_1 (l0.length : Int) x23_1 = some (r1, r2)) ∧ Aside0 (kq ≤ k) ∧ Aside0 (Kd.R (Kd.int .i64) 3 w' w.heap.size (fun _ => True) v5 x5_1) ∧ Aside0 (Below w.heap.size w w'))
    case atStart => exact ⟨(([] : List Int)), (0), (by first | rfl | (simp; done) | (simp [*]; done)), H', ⟨Nat.le_refl _⟩, ⟨by first | exact Kd.R_nil _ _ _ _ _ | exact Kd.N_nil _ _ _ _ _ | exact Kd.V_nil _ _ _ _ _ | exact Kd.Q_nil _ _ _ _ _ | exact Kd.S_nil _ _ _ _ _⟩, ⟨by repeat (first | (with_reducible first | exact HB.out | apply below_alloc | apply pw_below_drewN | apply below_drew1) | exact HB.out)⟩⟩
    case round =>
      clear H'
      try clear p2
      try clear c3
      obtain ⟨x5_1, x23_1, rfl, HA, HK1, HO_5, HB⟩ := hrel
      cases gk with
      | zero => exact absurd HA.out (by simp [spec_BothWays.l0])
      | succ k1 =>
        have H := HA.out
        clear HA
        simp only [spec_BothWays.l0] at H
        by_cases c4 : x23_1 < (l0.length : Int)
        · rw [if_pos c4] at H
          have c4b0 : decide (x23_1 < (l0.length : Int)) = true := decide_eq_true c4
          clear c4
          by_cases c5 : x5_1.length < 17592186044416
          · rw [if_pos c5] at H
            have LMc5 := Aside0.mk c5
            clear c5
            obtain ⟨y379, hy379⟩ : ∃ y_ : List Int, y_ = (x5_1 ++ [x23_1]) := ⟨_, rfl⟩
            replace H : (spec_BothWays.l0 k1 l0 (l0.length : Int) y379 (l0.length : Int) (wrap64 (x23_1 + 1))) = some (r1, r2) := by first | (rw [hy379]; with_reducible exact H) | (have H2_ := (Option.bind_some _ _).symm.trans H; rw [hy379]; with_reducible exact H2_) | (have H2_ := (Option.bind_some _ _).symm.trans H; with_reducible exact H2_) | with_reducible exact H | (rw [hy379]; exact H) | exact H
            have Ny379 := Aside0.mk hy379
            clear hy379
            have H' := Aside0.mk H
            clear H
            go_wp2_with (first | ((with_reducible refine gate_builtin (b := .append) (xs := #[.tmp 26, .tmp 28]) rfl ?_); at_builtin; refine Kd.R_append (Kd.int .i64) (w0 := w) w.heap.size rfl (.tmp 26) (.tmp 28) 25 3 (.int .i64 0) 8 rfl Try.underlying25 info3 rfl (by decide) (by omega) u5 x5_1 x23_1 [.int .i64 x23_1] (fun _ => True) (fun _ => False) rfl rfl ?aP (fun _ hk => hk.elim) ?aF ?aO ?aB ?aS ?aL ?_; (case aP => exact rfl); (case aB => exact (by repeat (first | (with_reducible first | exact HB.out | apply below_alloc | apply pw_below_drewN | apply below_drew1) | exact HB.out))); (case aF => exact (fun _ _ => trivial)); (case aO => exact (by (with_reducible repeat (first | apply Kd.R_alloc | apply Kd.R_drewN | apply Kd.R_drew)); exact HO_5.out)); (case aS => exact (below_size (by repeat (first | (with_reducible first | exact HB.out | apply below_alloc | apply pw_below_drewN | apply below_drew1) | exact HB.out)))); (case aL => have := LMc5.out; omega); intro v380 w6 ho hb hg hat; rw [← Ny379.out] at ho; have n0_ := Aside0.mk (hb); have n1_ := Aside0.mk (ho); clear HB; clear HO_5; have HB := n0_; have HO381 := n1_; clear n0_ n1_; clear ho hb hg hat))
            go_roundg k1
            case measure => have := HK1.out; omega
            case rel => exact ⟨(y379), (wrap64 (x23_1 + 1)), (by first | rfl | (simp; done) | (simp [*]; done)), H', ⟨by have := HK1.out; omega⟩, ⟨by (with_reducible repeat (first | apply Kd.R_alloc | apply Kd.R_drewN | apply Kd.R_drew)); exact HO381.out⟩, ⟨by repeat (first | (with_reducible first | exact HB.out | apply below_alloc | apply pw_below_drewN | apply below_drew1) | exact HB.out)⟩⟩
          · rw [if_neg c5] at H
            exact absurd H (by simp)
        · rw [if_neg c4] at H
          have c4b0 : decide (x23_1 < (l0.length : Int)) = false := decide_eq_false c4
          clear c4
          have H' := Aside0.mk H
          clear H
          go_wp2
          go_loopg [5, 7, 8] k1 (fun kq v5 v7 v8 w' => ∃ (x5_2 : List Int) (x7_2 : Int) (x8_2 : Int), v7 = .int .i64 x7_2 ∧ v8 = .int .i64 x8_2 ∧ Aside0 (spec_BothWays.l1 kq l0 (l0.length : Int) x5_2 x7_2 x8_2 = some (r1, r2)) ∧ Aside0 (kq ≤ k1) ∧ Aside0 (Kd.R (Kd.int .i64) 3 w' w.heap.size (fun _ => True) v5 x5_2) ∧ Aside0 (Below w.heap.size w w'))
          case atStart => exact ⟨(x5_1), (0), (1), (by first | rfl | (simp; done) | (simp [*]; done)), (by first | rfl | (simp; done) | (simp [*]; done)), H', ⟨Nat.le_refl _⟩, ⟨by (with_reducible repeat (first | apply Kd.R_alloc | apply Kd.R_drewN | apply Kd.R_drew)); exact HO_5.out⟩, ⟨by repeat (first | (with_reducible first | exact HB.out | apply below_alloc | apply pw_below_drewN | apply below_drew1) | exact HB.out)⟩⟩
          case round =>
            clear H'
            try clear p2
            try clear c3
            try clear c4
            try clear c4b0
            try clear c5
            try clear p6
            try clear p2
            obtain ⟨x5_2, x7_2, x8_2, rfl, rfl, HA, HK2, HO_5, HB⟩ := hrel
            cases gk with
            | zero => exact absurd HA.out (by simp [spec_BothWays.l1])
            | succ k2 =>
              have H := HA.out
              clear HA
              simp only [spec_BothWays.l1] at H
              have H' := Aside0.mk H
              clear H
              obtain ⟨Ao7, co7, eo7⟩ := Kd.R_slice HO_5.out
              subst eo7
              go_wp2
              go_loopg [7, 9, 35] k2 (fun kq v7 v9 v35 w' => ∃ (x7_3 : Int) (x9_3 : List Int) (x35_3 : Int), v7 = .int .i64 x7_3 ∧ v35 = .int .i64 x35_3 ∧ Aside0 (spec_BothWays.l2 kq l0 (l0.length : Int) x7_3 x8_2 x9_3 x5_2 (x5_2.length : Int) x35_3 = some (r1, r2)) ∧ Aside0 (kq ≤ k2) ∧ Aside0 (Kd.R (Kd.int .i64) 3 w' w.heap.size (fun k_ => some k_ ≠ ((.slice Ao7 x5_2.length co7) : Value).ownBlock) v9 x9_3) ∧ Aside0 (Kd.R (Kd.int .i64) 3 w' w.heap.size (fun k_ => some k_ ≠ (v9 : Value).ownBlock) (.slice Ao7 x5_2.length co7) x5_2) ∧ Aside0 (Below w.heap.size w w'))
              case atStart => exact ⟨(x7_2), (([] : List Int)), (0), (by first | rfl | (simp; done) | (simp [*]; done)), (by first | rfl | (simp; done) | (simp [*]; done)), H', ⟨Nat.le_refl _⟩, ⟨by first | exact Kd.R_nil _ _ _ _ _ | exact Kd.N_nil _ _ _ _ _ | exact Kd.V_nil _ _ _ _ _ | exact Kd.Q_nil _ _ _ _ _ | exact Kd.S_nil _ _ _ _ _⟩, ⟨by (with_reducible repeat (first | apply Kd.R_alloc | apply Kd.R_drewN | apply Kd.R_drew)); exact Kd.R_mono HO_5.out (fun _ hk => (by simp [Value.ownBlock]))⟩, ⟨by repeat (first | (with_reducible first | exact HB.out | apply below_alloc | apply pw_below_drewN | apply below_drew1) | exact HB.out)⟩⟩
              case round =>
                clear H'
                try clear p2
                try clear c3
                try clear c4
                try clear c4b0
                try clear c5
                try clear p6
                try clear p2
                try clear p6
                obtain ⟨x7_3, x9_3, x35_3, rfl, rfl, HA, HK3, HO_9, HO_33, HB⟩ := hrel
                cases gk with
                | zero => exact absurd HA.out (by simp [spec_BothWays.l2])
                | succ k3 =>
                  have H := HA.out
                  clear HA
                  simp only [spec_BothWays.l2] at H
                  by_cases c8 : x35_3 < (x5_2.length : Int)
                  · rw [if_pos c8] at H
                    have c8b0 : decide (x35_3 < (x5_2.length : Int)) = true := decide_eq_true c8
                    clear c8
                    by_cases c9 : 0 ≤ x35_3
                    · rw [if_pos c9] at H
                      have c9b0 : decide (0 ≤ x35_3) = true := decide_eq_true c9
                      clear c9
                      by_cases c10 : x35_3 < (x5_2.length : Int)
                      · rw [if_pos c10] at H
                        have c10b0 : decide (x35_3 < (x5_2.length : Int)) = true := decide_eq_true c10
                        clear c10
                        have HC11 := Aside0.mk H
                        clear H
                        have p382 : 0 ≤ (x35_3 : Int) := of_decide_eq_true (by first | (with_reducible assumption) | assumption)
                        have q382 : x35_3 < (x5_2.length : Int) := of_decide_eq_true (by first | (with_reducible assumption) | assumption)
                        obtain ⟨ad382, e382, hx382_0⟩ := Kd.at_int (Kd.R_reads' HO_33.out).2.2 x35_3 p382 q382
                        cases e382
                        replace p382 := eq_true p382
                        replace q382 := eq_true q382
                        go_upto_region 17 with (fail)
                        go_cut [47] (fun v47 wc => ∃ (kq : Nat) (x47_10 : Bool), v47 = .bool x47_10 ∧ Aside0 (spec_BothWays.j3 kq l0 (l0.length : Int) x7_3 x8_2 x9_3 (rd x5_2 x35_3) x5_2 (x5_2.length : Int) x35_3 x47_10 = some (r1, r2)) ∧ Aside0 (kq ≤ k3) ∧ Aside0 (Kd.R (Kd.int .i64) 3 wc w.heap.size (fun k_ => some k_ ≠ ((.slice (some ad382) x5_2.length co7) : Value).ownBlock) u9 x9_3) ∧ Aside0 (Kd.R (Kd.int .i64) 3 wc w.heap.size (fun k_ => some k_ ≠ (u9 : Value).ownBlock) (.slice (some ad382) x5_2.length co7) x5_2) ∧ Aside0 (Below w.heap.size w wc))
                        case first =>
                          have H := HC11.out
                          clear HC11
                          by_cases c12 : x8_2 ≥ (l0.length : Int)
                          · rw [if_pos c12] at H
                            have c12b0 : decide ((l0.length : Int) ≤ x8_2) = true := decide_eq_true c12
                            clear c12
                            (first | rw [c12b0] | (simp only [i64_w, i32_w]; rw [c12b0]) | skip)
                            replace H := Option.bind_eq_some_iff.mp H
                            obtain ⟨t383, A130, H⟩ := H
                            replace H : (spec_BothWays.j3 k3 l0 (l0.length : Int) x7_3 x8_2 x9_3 (rd x5_2 x35_3) x5_2 (x5_2.length : Int) x35_3 ((rd x5_2 x35_3) == t383)) = some (r1, r2) := H
                            have A13 := Aside0.mk A130
                            clear A130
                            have H' := Aside0.mk H
                            clear H
                            go_wp2_with (first | (go_at_call 57; (with_reducible refine (spec_elWinner.calls k3 _ _ l0 t383 _ ?side1 ?side2 A13.out).mono ?_); (case side1 => repeat (first | exact (Kd.C_below HR0.out HB.out) | (with_reducible refine Kd.C_alloc ?_ _) | (with_reducible refine Kd.C_drewN ?_ _) | (with_reducible refine Kd.C_drew ?_))); (case side2 => exact HC0.out); rintro e w' ⟨rfl, ⟨nd, rfl⟩⟩))
                            go_meet
                            case rel => exact ⟨_, (((rd x5_2 x35_3) == t383)), (by first | rfl | (simp; done) | (simp [*]; done)), H', ⟨by have := HK1.out; have := HK2.out; have := HK3.out; first | omega | exact Nat.le_refl _⟩, ⟨by (with_reducible repeat (first | apply Kd.R_alloc | apply Kd.R_drewN | apply Kd.R_drew)); exact HO_9.out⟩, ⟨by (with_reducible repeat (first | apply Kd.R_alloc | apply Kd.R_drewN | apply Kd.R_drew)); exact HO_33.out⟩, ⟨by repeat (first | (with_reducible first | exact HB.out | apply below_alloc | apply pw_below_drewN | apply below_drew1) | exact HB.out)⟩⟩
                          · rw [if_neg c12] at H
                            have c12b0 : decide ((l0.length : Int) ≤ x8_2) = false := decide_eq_false c12
                            clear c12
                            (first | rw [c12b0] | (simp only [i64_w, i32_w]; rw [c12b0]) | skip)
                            have H' := Aside0.mk H
                            clear H
                            go_wp2
                            go_meet
                            case rel => exact ⟨_, (false), (by first | rfl | (simp; done) | (simp [*]; done)), H', ⟨by have := HK1.out; have := HK2.out; have := HK3.out; first | omega | exact Nat.le_refl _⟩, ⟨by (with_reducible repeat (first | apply Kd.R_alloc | apply Kd.R_drewN | apply Kd.R_drew)); exact HO_9.out⟩, ⟨by (with_reducible repeat (first | apply Kd.R_alloc | apply Kd.R_drewN | apply Kd.R_drew)); exact HO_33.out⟩, ⟨by repeat (first | (with_reducible first | exact HB.out | apply below_alloc | apply pw_below_drewN | apply below_drew1) | exact HB.out)⟩⟩
                        case rest =>
                          clear HC11
                          try clear c1
                          try clear p2
                          try clear c3
                          try clear p3
                          try clear q3
                          try clear hx3
                          try clear c4
                          try clear c4b0
                          try clear c5
                          try clear p6
                          try clear c8
                          try clear c8b0
                          try clear c9
                          try clear c9b0
                          try clear c10
                          try clear c10b0
                          try clear c12
                          try clear c12b0
                          try clear hx382_0
                          try clear p2
                          try clear p382
                          try clear p6
                          try clear q382
                          obtain ⟨kq, x47_10, rfl, HA, HJ10, HO_9, HO_33, HB⟩ := hcut
                          cases kq with
                          | zero => exact absurd HA.out (by simp [spec_BothWays.j3])
                          | succ kj10 =>
                            have H := HA.out
                            clear HA
                            simp only [spec_BothWays.j3] at H
                            by_cases c14 : x47_10 = true
                            · subst c14
                              have H1 : (spec_BothWays.l2 kj10 l0 (l0.length : Int) (wrap64 (x7_3 + (l0.length : Int))) x8_2 x9_3 x5_2 (x5_2.length : Int) (wrap64 (x35_3 + 1))) = some (r1, r2) := by rw [if_pos rfl] at H; exact H
                              clear H
                              have H := H1
                              clear H1
                              have H' := Aside0.mk H
                              clear H
                              go_wp2
                              go_roundg kj10
                              case measure => have := HK1.out; have := HK2.out; have := HK3.out; have := HJ10.out; omega
                              case rel => exact ⟨(wrap64 (x7_3 + (l0.length : Int))), (x9_3), (wrap64 (x35_3 + 1)), (by first | rfl | (simp; done) | (simp [*]; done)), (by first | rfl | (simp; done) | (simp [*]; done)), H', ⟨by have := HK1.out; have := HK2.out; have := HK3.out; have := HJ10.out; omega⟩, ⟨by (with_reducible repeat (first | apply Kd.R_alloc | apply Kd.R_drewN | apply Kd.R_drew)); exact HO_9.out⟩, ⟨by (with_reducible repeat (first | apply Kd.R_alloc | apply Kd.R_drewN | apply Kd.R_drew)); exact HO_33.out⟩, ⟨by repeat (first | (with_reducible first | exact HB.out | apply below_alloc | apply pw_below_drewN | apply below_drew1) | exact HB.out)⟩⟩
                            · replace c14 := Bool.eq_false_iff.mpr c14
                              subst c14
                              have H1 : ((spec_l1Least.f x8_2 (l0.length : Int)).bind fun t384 => ((spec_elSent.f kj10 l0 (rd x5_2 x35_3) (-1) t384).bind fun bt385 => ((spec_l1Least.f x8_2 (l0.length : Int)).bind fun t387 => ((spec_elSent.f kj10 l0 (rd x5_2 x35_3) 1 t387).bind fun bt388 => (if bt385.2 = true then (spec_BothWays.j4 kj10 l0 (l0.length : Int) (wrap64 ((wrap64 (x7_3 + (wrap64 (bt385.1 + bt388.1)))) + bt385.1)) x8_2 x9_3 (rd x5_2 x35_3) bt385.2 bt388.1 bt388.2 x5_2 (x5_2.length : Int) x35_3) else (spec_BothWays.j4 kj10 l0 (l0.length : Int) (wrap64 (x7_3 + (wrap64 (bt385.1 + bt388.1)))) x8_2 x9_3 (rd x5_2 x35_3) bt385.2 bt388.1 bt388.2 x5_2 (x5_2.length : Int) x35_3)))))) = some (r1, r2) := by rw [if_neg (show ¬ (false = true) by decide)] at H; exact H
                              clear H
                              have H := H1
                              clear H1
                              replace H := Option.bind_eq_some_iff.mp H
                              obtain ⟨t384, A150, H⟩ := H
                              replace H : ((spec_elSent.f kj10 l0 (rd x5_2 x35_3) (-1) t384).bind fun bt385 => ((spec_l1Least.f x8_2 (l0.length : Int)).bind fun t387 => ((spec_elSent.f kj10 l0 (rd x5_2 x35_3) 1 t387).bind fun bt388 => (if bt385.2 = true then (spec_BothWays.j4 kj10 l0 (l0.length : Int) (wrap64 ((wrap64 (x7_3 + (wrap64 (bt385.1 + bt388.1)))) + bt385.1)) x8_2 x9_3 (rd x5_2 x35_3) bt385.2 bt388.1 bt388.2 x5_2 (x5_2.length : Int) x35_3) else (spec_BothWays.j4 kj10 l0 (l0.length : Int) (wrap64 (x7_3 + (wrap64 (bt385.1 + bt388.1)))) x8_2 x9_3 (rd x5_2 x35_3) bt385.2 bt388.1 bt388.2 x5_2 (x5_2.length : Int) x35_3))))) = some (r1, r2) := H
                              have A15 := Aside0.mk A150
                              clear A150
                              replace H := Option.bind_eq_some_iff.mp H
                              obtain ⟨⟨t385, t386⟩, A160, H⟩ := H
                              replace H : ((spec_l1Least.f x8_2 (l0.length : Int)).bind fun t387 => ((spec_elSent.f kj10 l0 (rd x5_2 x35_3) 1 t387).bind fun bt388 => (if t386 = true then (spec_BothWays.j4 kj10 l0 (l0.length : Int) (wrap64 ((wrap64 (x7_3 + (wrap64 (t385 + bt388.1)))) + t385)) x8_2 x9_3 (rd x5_2 x35_3) t386 bt388.1 bt388.2 x5_2 (x5_2.length : Int) x35_3) else (spec_BothWays.j4 kj10 l0 (l0.length : Int) (wrap64 (x7_3 + (wrap64 (t385 + bt388.1)))) x8_2 x9_3 (rd x5_2 x35_3) t386 bt388.1 bt388.2 x5_2 (x5_2.length : Int) x35_3)))) = some (r1, r2) := H
                              have A16 := Aside0.mk A160
                              clear A160
                              replace H := Option.bind_eq_some_iff.mp H
                              obtain ⟨t387, A170, H⟩ := H
                              replace H : ((spec_elSent.f kj10 l0 (rd x5_2 x35_3) 1 t387).bind fun bt388 => (if t386 = true then (spec_BothWays.j4 kj10 l0 (l0.length : Int) (wrap64 ((wrap64 (x7_3 + (wrap64 (t385 + bt388.1)))) + t385)) x8_2 x9_3 (rd x5_2 x35_3) t386 bt388.1 bt388.2 x5_2 (x5_2.length : Int) x35_3) else (spec_BothWays.j4 kj10 l0 (l0.length : Int) (wrap64 (x7_3 + (wrap64 (t385 + bt388.1)))) x8_2 x9_3 (rd x5_2 x35_3) t386 bt388.1 bt388.2 x5_2 (x5_2.length : Int) x35_3))) = some (r1, r2) := H
                              have A17 := Aside0.mk A170
                              clear A170
                              replace H := Option.bind_eq_some_iff.mp H
                              obtain ⟨⟨t388, t389⟩, A180, H⟩ := H
                              replace H : (if t386 = true then (spec_BothWays.j4 kj10 l0 (l0.length : Int) (wrap64 ((wrap64 (x7_3 + (wrap64 (t385 + t388)))) + t385)) x8_2 x9_3 (rd x5_2 x35_3) t386 t388 t389 x5_2 (x5_2.length : Int) x35_3) else (spec_BothWays.j4 kj10 l0 (l0.length : Int) (wrap64 (x7_3 + (wrap64 (t385 + t388)))) x8_2 x9_3 (rd x5_2 x35_3) t386 t388 t389 x5_2 (x5_2.length : Int) x35_3)) = some (r1, r2) := H
                              have A18 := Aside0.mk A180
                              clear A180
                              have HC19 := Aside0.mk H
                              clear H
                              go_upto_if 74 with (first | ((with_reducible refine gate_callee (f := 68) rfl ?_); refine goesL_ (some 56) rfl rfl Try.func68 (by kernel_rfl) rfl #[.int .i64 x8_2, .int .i64 (l0.length : Int)] rfl (by (try simp only [List.map_toArray, List.map_cons, List.map_nil]); first | done | rfl | (simp only [List.length_drop, List.length_take]; rfl)) ?_; (with_reducible refine (spec_l1Least.calls x8_2 (l0.length : Int) t384 _ A15.out).mono ?_); rintro e w' ⟨rfl, ⟨nd, rfl⟩⟩; refine ⟨_, rfl, ?_⟩) | ((with_reducible refine gate_callee (f := 67) rfl ?_); refine goesL_ (some 57) rfl rfl Try.func67 (by kernel_rfl) rfl #[.slice A0 l0.length c0, .int .i64 (rd x5_2 x35_3), .int .i64 (-1), .int .i64 t384] rfl (by (try simp only [List.map_toArray, List.map_cons, List.map_nil]); first | done | rfl | (simp only [List.length_drop, List.length_take]; rfl)) ?_; (with_reducible refine (spec_elSent.calls kj10 _ _ l0 (rd x5_2 x35_3) (-1) t384 t385 t386 _ ?side1 ?side2 A16.out).mono ?_); (case side1 => repeat (first | exact (Kd.C_below HR0.out (by repeat (first | (with_reducible first | exact HB.out | apply below_alloc | apply pw_below_drewN | apply below_drew1) | exact HB.out))) | (with_reducible refine Kd.C_alloc ?_ _) | (with_reducible refine Kd.C_drewN ?_ _) | (with_reducible refine Kd.C_drew ?_))); (case side2 => exact HC0.out); rintro e w' ⟨rfl, ⟨nd, rfl⟩⟩; refine ⟨_, rfl, ?_⟩) | ((with_reducible refine gate_callee (f := 68) rfl ?_); refine goesL_ (some 65) rfl rfl Try.func68 (by kernel_rfl) rfl #[.int .i64 x8_2, .int .i64 (l0.length : Int)] rfl (by (try simp only [List.map_toArray, List.map_cons, List.map_nil]); first | done | rfl | (simp only [List.length_drop, List.length_take]; rfl)) ?_; (with_reducible refine (spec_l1Least.calls x8_2 (l0.length : Int) t387 _ A17.out).mono ?_); rintro e w' ⟨rfl, ⟨nd, rfl⟩⟩; refine ⟨_, rfl, ?_⟩) | ((with_reducible refine gate_callee (f := 67) rfl ?_); refine goesL_ (some 66) rfl rfl Try.func67 (by kernel_rfl) rfl #[.slice A0 l0.length c0, .int .i64 (rd x5_2 x35_3), .int .i64 1, .int .i64 t387] rfl (by (try simp only [List.map_toArray, List.map_cons, List.map_nil]); first | done | rfl | (simp only [List.length_drop, List.length_take]; rfl)) ?_; (with_reducible refine (spec_elSent.calls kj10 _ _ l0 (rd x5_2 x35_3) 1 t387 t388 t389 _ ?side1 ?side2 A18.out).mono ?_); (case side1 => repeat (first | exact (Kd.C_below HR0.out (by repeat (first | (with_reducible first | exact HB.out | apply below_alloc | apply pw_below_drewN | apply below_drew1) | exact HB.out))) | (with_reducible refine Kd.C_alloc ?_ _) | (with_reducible refine Kd.C_drewN ?_ _) | (with_reducible refine Kd.C_drew ?_))); (case side2 => exact HC0.out); rintro e w' ⟨rfl, ⟨nd, rfl⟩⟩; refine ⟨_, rfl, ?_⟩))
                              (try simp only [Act.put, List.setIfInBounds_toArray, List.set_cons_zero, List.set_cons_succ])
                              go_cut [7] (fun v7 wc => ∃ (kq : Nat) (x7_18 : Int), v7 = .int .i64 x7_18 ∧ Aside0 (spec_BothWays.j4 kq l0 (l0.length : Int) x7_18 x8_2 x9_3 (rd x5_2 x35_3) t386 t388 t389 x5_2 (x5_2.length : Int) x35_3 = some (r1, r2)) ∧ Aside0 (kq ≤ kj10) ∧ Aside0 (Kd.R (Kd.int .i64) 3 wc w.heap.size (fun k_ => some k_ ≠ ((.slice (some ad382) x5_2.length co7) : Value).ownBlock) u9 x9_3) ∧ Aside0 (Kd.R (Kd.int .i64) 3 wc w.heap.size (fun k_ => some k_ ≠ (u9 : Value).ownBlock) (.slice (some ad382) x5_2.length co7) x5_2) ∧ Aside0 (Below w.heap.size w wc))
                              case first =>
                                have H := HC19.out
                                clear HC19
                                by_cases c20 : t386 = true
                                · subst c20
                                  have H1 : (spec_BothWays.j4 kj10 l0 (l0.length : Int) (wrap64 ((wrap64 (x7_3 + (wrap64 (t385 + t388)))) + t385)) x8_2 x9_3 (rd x5_2 x35_3) true t388 t389 x5_2 (x5_2.length : Int) x35_3) = some (r1, r2) := by rw [if_pos rfl] at H; exact H
                                  clear H
                                  have H := H1
                                  clear H1
                                  have H' := Aside0.mk H
                                  clear H
                                  go_wp2
                                  go_meet
                                  case rel => exact ⟨_, (wrap64 ((wrap64 (x7_3 + (wrap64 (t385 + t388)))) + t385)), (by first | rfl | (simp; done) | (simp [*]; done)), H', ⟨by have := HK1.out; have := HK2.out; have := HK3.out; have := HJ10.out; first | omega | exact Nat.le_refl _⟩, ⟨by (with_reducible repeat (first | apply Kd.R_alloc | apply Kd.R_drewN | apply Kd.R_drew)); exact HO_9.out⟩, ⟨by (with_reducible repeat (first | apply Kd.R_alloc | apply Kd.R_drewN | apply Kd.R_drew)); exact HO_33.out⟩, ⟨by repeat (first | (with_reducible first | exact HB.out | apply below_alloc | apply pw_below_drewN | apply below_drew1) | exact HB.out)⟩⟩
                                · replace c20 := Bool.eq_false_iff.mpr c20
                                  subst c20
                                  have H1 : (spec_BothWays.j4 kj10 l0 (l0.length : Int) (wrap64 (x7_3 + (wrap64 (t385 + t388)))) x8_2 x9_3 (rd x5_2 x35_3) false t388 t389 x5_2 (x5_2.length : Int) x35_3) = some (r1, r2) := by rw [if_neg (show ¬ (false = true) by decide)] at H; exact H
                                  clear H
                                  have H := H1
                                  clear H1
                                  have H' := Aside0.mk H
                                  clear H
                                  go_wp2
                                  go_meet
                                  case rel => exact ⟨_, (wrap64 (x7_3 + (wrap64 (t385 + t388)))), (by first | rfl | (simp; done) | (simp [*]; done)), H', ⟨by have := HK1.out; have := HK2.out; have := HK3.out; have := HJ10.out; first | omega | exact Nat.le_refl _⟩, ⟨by (with_reducible repeat (first | apply Kd.R_alloc | apply Kd.R_drewN | apply Kd.R_drew)); exact HO_9.out⟩, ⟨by (with_reducible repeat (first | apply Kd.R_alloc | apply Kd.R_drewN | apply Kd.R_drew)); exact HO_33.out⟩, ⟨by repeat (first | (with_reducible first | exact HB.out | apply below_alloc | apply pw_below_drewN | apply below_drew1) | exact HB.out)⟩⟩
                              case rest =>
                                clear HC19
                                try clear c1
                                try clear c2
                                try clear p2
                                try clear c3
                                try clear p3
                                try clear q3
                                try clear hx3
                                try clear c4
                                try clear c4b0
                                try clear c5
                                try clear c6
                                try clear p6
                                try clear c8
                                try clear c8b0
                                try clear c9
                                try clear c9b0
                                try clear c10
                                try clear c10b0
                                try clear c12
                                try clear c12b0
                                try clear c14
                                try clear c20
                                try clear hx382_0
                                try clear p2
                                try clear p3
                                try clear p382
                                try clear p6
                                try clear q3
                                try clear q382
                                obtain ⟨kq, x7_18, rfl, HA, HJ18, HO_9, HO_33, HB⟩ := hcut
                                cases kq with
                                | zero => exact absurd HA.out (by simp [spec_BothWays.j4])
                                | succ kj18 =>
                                  have H := HA.out
                                  clear HA
                                  simp only [spec_BothWays.j4] at H
                                  by_cases c21 : t389 = true
                                  · subst c21
                                    have H1 : (if t386 = true then (if x9_3.length < 17592186044416 then (spec_BothWays.l2 kj18 l0 (l0.length : Int) (wrap64 (x7_18 + t388)) x8_2 (x9_3 ++ [(rd x5_2 x35_3)]) x5_2 (x5_2.length : Int) (wrap64 (x35_3 + 1))) else (none)) else (spec_BothWays.l2 kj18 l0 (l0.length : Int) (wrap64 (x7_18 + t388)) x8_2 x9_3 x5_2 (x5_2.length : Int) (wrap64 (x35_3 + 1)))) = some (r1, r2) := by rw [if_pos rfl] at H; exact H
                                    clear H
                                    have H := H1
                                    clear H1
                                    by_cases c22 : t386 = true
                                    · subst c22
                                      have H1 : (if x9_3.length < 17592186044416 then (spec_BothWays.l2 kj18 l0 (l0.length : Int) (wrap64 (x7_18 + t388)) x8_2 (x9_3 ++ [(rd x5_2 x35_3)]) x5_2 (x5_2.length : Int) (wrap64 (x35_3 + 1))) else (none)) = some (r1, r2) := by rw [if_pos rfl] at H; exact H
                                      clear H
                                      have H := H1
                                      clear H1
                                      by_cases c23 : x9_3.length < 17592186044416
                                      · rw [if_pos c23] at H
                                        have LMc23 := Aside0.mk c23
                                        clear c23
                                        obtain ⟨y390, hy390⟩ : ∃ y_ : List Int, y_ = (x9_3 ++ [(rd x5_2 x35_3)]) := ⟨_, rfl⟩
                                        replace H : (spec_BothWays.l2 kj18 l0 (l0.length : Int) (wrap64 (x7_18 + t388)) x8_2 y390 x5_2 (x5_2.length : Int) (wrap64 (x35_3 + 1))) = some (r1, r2) := by first | (rw [hy390]; with_reducible exact H) | (have H2_ := (Option.bind_some _ _).symm.trans H; rw [hy390]; with_reducible exact H2_) | (have H2_ := (Option.bind_some _ _).symm.trans H; with_reducible exact H2_) | with_reducible exact H | (rw [hy390]; exact H) | exact H
                                        have Ny390 := Aside0.mk hy390
                                        clear hy390
                                        have H' := Aside0.mk H
                                        clear H
                                        go_wp2_with (first | ((with_reducible refine gate_builtin (b := .append) (xs := #[.tmp 86, .tmp 88]) rfl ?_); at_builtin; refine Kd.R_append (Kd.int .i64) (w0 := w) w.heap.size rfl (.tmp 86) (.tmp 88) 25 3 (.int .i64 0) 8 rfl Try.underlying25 info3 rfl (by decide) (by omega) u9 x9_3 (rd x5_2 x35_3) [.int .i64 (rd x5_2 x35_3)] (fun k_ => some k_ ≠ (.slice (some ad382) x5_2.length co7 : Value).ownBlock) (fun _ => False) rfl rfl ?aP (fun _ hk => hk.elim) ?aF ?aO ?aB ?aS ?aL ?_; (case aP => exact rfl); (case aB => exact (by repeat (first | (with_reducible first | exact HB.out | apply below_alloc | apply pw_below_drewN | apply below_drew1) | exact HB.out))); (case aF => exact (fun k_ hk => Kd.fresh' (Kd.R_lt (by (with_reducible repeat (first | apply Kd.R_alloc | apply Kd.R_drewN | apply Kd.R_drew)); exact HO_33.out)) k_ hk)); (case aO => exact (by (with_reducible repeat (first | apply Kd.R_alloc | apply Kd.R_drewN | apply Kd.R_drew)); exact HO_9.out)); (case aS => exact (below_size (by repeat (first | (with_reducible first | exact HB.out | apply below_alloc | apply pw_below_drewN | apply below_drew1) | exact HB.out)))); (case aL => have := LMc23.out; omega); intro v391 w24 ho hb hg hat; rw [← Ny390.out] at ho; have n0_ := Aside0.mk (Kd.R_after (ok := (fun _ => True)) (by (with_reducible repeat (first | apply Kd.R_alloc | apply Kd.R_drewN | apply Kd.R_drew)); exact Kd.R_mono HO_33.out (fun _ hk => ⟨trivial, hk⟩)) hg hat); have n1_ := Aside0.mk (hb); have n2_ := Aside0.mk (ho); clear HO_33; clear HB; clear HO_9; have HO_33 := n0_; have HB := n1_; have HO392 := n2_; clear n0_ n1_ n2_; clear ho hb hg hat))
                                        go_roundg kj18
                                        case measure => have := HK1.out; have := HK2.out; have := HK3.out; have := HJ10.out; have := HJ18.out; omega
                                        case rel => exact ⟨(wrap64 (x7_18 + t388)), (y390), (wrap64 (x35_3 + 1)), (by first | rfl | (simp; done) | (simp [*]; done)), (by first | rfl | (simp; done) | (simp [*]; done)), H', ⟨by have := HK1.out; have := HK2.out; have := HK3.out; have := HJ10.out; have := HJ18.out; omega⟩, ⟨by (with_reducible repeat (first | apply Kd.R_alloc | apply Kd.R_drewN | apply Kd.R_drew)); exact HO392.out⟩, ⟨by (with_reducible repeat (first | apply Kd.R_alloc | apply Kd.R_drewN | apply Kd.R_drew)); exact Kd.R_mono HO_33.out (fun _ hk => hk.2)⟩, ⟨by repeat (first | (with_reducible first | exact HB.out | apply below_alloc | apply pw_below_drewN | apply below_drew1) | exact HB.out)⟩⟩
                                      · rw [if_neg c23] at H
                                        exact absurd H (by simp)
                                    · replace c22 := Bool.eq_false_iff.mpr c22
                                      subst c22
                                      have H1 : (spec_BothWays.l2 kj18 l0 (l0.length : Int) (wrap64 (x7_18 + t388)) x8_2 x9_3 x5_2 (x5_2.length : Int) (wrap64 (x35_3 + 1))) = some (r1, r2) := by rw [if_neg (show ¬ (false = true) by decide)] at H; exact H
                                      clear H
                                      have H := H1
                                      clear H1
                                      have H' := Aside0.mk H
                                      clear H
                                      go_wp2
                                      go_roundg kj18
                                      case measure => have := HK1.out; have := HK2.out; have := HK3.out; have := HJ10.out; have := HJ18.out; omega
                                      case rel => exact ⟨(wrap64 (x7_18 + t388)), (x9_3), (wrap64 (x35_3 + 1)), (by first | rfl | (simp; done) | (simp [*]; done)), (by first | rfl | (simp; done) | (simp [*]; done)), H', ⟨by have := HK1.out; have := HK2.out; have := HK3.out; have := HJ10.out; have := HJ18.out; omega⟩, ⟨by (with_reducible repeat (first | apply Kd.R_alloc | apply Kd.R_drewN | apply Kd.R_drew)); exact HO_9.out⟩, ⟨by (with_reducible repeat (first | apply Kd.R_alloc | apply Kd.R_drewN | apply Kd.R_drew)); exact HO_33.out⟩, ⟨by repeat (first | (with_reducible first | exact HB.out | apply below_alloc | apply pw_below_drewN | apply below_drew1) | exact HB.out)⟩⟩
                                  · replace c21 := Bool.eq_false_iff.mpr c21
                                    subst c21
                                    have H1 : (if t386 = true then (spec_BothWays.l2 kj18 l0 (l0.length : Int) x7_18 x8_2 x9_3 x5_2 (x5_2.length : Int) (wrap64 (x35_3 + 1))) else (spec_BothWays.l2 kj18 l0 (l0.length : Int) x7_18 x8_2 x9_3 x5_2 (x5_2.length : Int) (wrap64 (x35_3 + 1)))) = some (r1, r2) := by rw [if_neg (show ¬ (false = true) by decide)] at H; exact H
                                    clear H
                                    have H := H1
                                    clear H1
                                    by_cases c25 : t386 = true
                                    · subst c25
                                      have H1 : (spec_BothWays.l2 kj18 l0 (l0.length : Int) x7_18 x8_2 x9_3 x5_2 (x5_2.length : Int) (wrap64 (x35_3 + 1))) = some (r1, r2) := by rw [if_pos rfl] at H; exact H
                                      clear H
                                      have H := H1
                                      clear H1
                                      have H' := Aside0.mk H
                                      clear H
                                      go_wp2
                                      go_roundg kj18
                                      case measure => have := HK1.out; have := HK2.out; have := HK3.out; have := HJ10.out; have := HJ18.out; omega
                                      case rel => exact ⟨(x7_18), (x9_3), (wrap64 (x35_3 + 1)), (by first | rfl | (simp; done) | (simp [*]; done)), (by first | rfl | (simp; done) | (simp [*]; done)), H', ⟨by have := HK1.out; have := HK2.out; have := HK3.out; have := HJ10.out; have := HJ18.out; omega⟩, ⟨by (with_reducible repeat (first | apply Kd.R_alloc | apply Kd.R_drewN | apply Kd.R_drew)); exact HO_9.out⟩, ⟨by (with_reducible repeat (first | apply Kd.R_alloc | apply Kd.R_drewN | apply Kd.R_drew)); exact HO_33.out⟩, ⟨by repeat (first | (with_reducible first | exact HB.out | apply below_alloc | apply pw_below_drewN | apply below_drew1) | exact HB.out)⟩⟩
                                    · replace c25 := Bool.eq_false_iff.mpr c25
                                      subst c25
                                      have H1 : (spec_BothWays.l2 kj18 l0 (l0.length : Int) x7_18 x8_2 x9_3 x5_2 (x5_2.length : Int) (wrap64 (x35_3 + 1))) = some (r1, r2) := by rw [if_neg (show ¬ (false = true) by decide)] at H; exact H
                                      clear H
                                      have H := H1
                                      clear H1
                                      have H' := Aside0.mk H
                                      clear H
                                      go_wp2
                                      go_roundg kj18
                                      case measure => have := HK1.out; have := HK2.out; have := HK3.out; have := HJ10.out; have := HJ18.out; omega
                                      case rel => exact ⟨(x7_18), (x9_3), (wrap64 (x35_3 + 1)), (by first | rfl | (simp; done) | (simp [*]; done)), (by first | rfl | (simp; done) | (simp [*]; done)), H', ⟨by have := HK1.out; have := HK2.out; have := HK3.out; have := HJ10.out; have := HJ18.out; omega⟩, ⟨by (with_reducible repeat (first | apply Kd.R_alloc | apply Kd.R_drewN | apply Kd.R_drew)); exact HO_9.out⟩, ⟨by (with_reducible repeat (first | apply Kd.R_alloc | apply Kd.R_drewN | apply Kd.R_drew)); exact HO_33.out⟩, ⟨by repeat (first | (with_reducible first | exact HB.out | apply below_alloc | apply pw_below_drewN | apply below_drew1) | exact HB.out)⟩⟩
                      · rw [if_neg c10] at H
                        exact absurd H (by simp)
                    · rw [if_neg c9] at H
                      exact absurd H (by simp)
                  · rw [if_neg c8] at H
                    have c8b0 : decide (x35_3 < (x5_2.length : Int)) = false := decide_eq_false c8
                    clear c8
                    by_cases c26 : x8_2 ≥ (l0.length : Int)
                    · rw [if_pos c26] at H
                      have c26b0 : decide ((l0.length : Int) ≤ x8_2) = true := decide_eq_true c26
                      clear c26
                      simp only [Option.some.injEq, Prod.mk.injEq] at H
                      obtain ⟨rfl, rfl⟩ := H
                      go_wp2
                      go_ret2
                      exact ⟨by first | rfl | (simp [errW_none, errW_some] <;> rfl) | (simp [*, errW_none, errW_some] <;> rfl), by repeat (first | (with_reducible first | exact HB.out | apply below_alloc | apply pw_below_drewN | apply below_drew1) | exact HB.out)⟩
                    · rw [if_neg c26] at H
                      have c26b0 : decide ((l0.length : Int) ≤ x8_2) = false := decide_eq_false c26
                      clear c26
                      have H' := Aside0.mk H
                      clear H
                      go_wp2
                      go_roundg k3
                      case measure => have := HK1.out; have := HK2.out; have := HK3.out; omega
                      case rel => exact ⟨(x9_3), (x7_3), (wrap64 (x8_2 * 2)), (by first | rfl | (simp; done) | (simp [*]; done)), (by first | rfl | (simp; done) | (simp [*]; done)), H', ⟨by have := HK1.out; have := HK2.out; have := HK3.out; omega⟩, ⟨by (with_reducible repeat (first | apply Kd.R_alloc | apply Kd.R_drewN | apply Kd.R_drew)); exact Kd.R_mono HO_9.out (fun _ hk => trivial)⟩, ⟨by repeat (first | (with_reducible first | exact HB.out | apply below_alloc | apply pw_below_drewN | apply below_drew1) | exact HB.out)⟩⟩
  · replace c3 := Bool.eq_false_iff.mpr c3
    subst c3
    have H1 : (some (0, false)) = some (r1, r2) := by rw [if_neg (show ¬ (false = true) by decide)] at H; exact H
    clear H
    have H := H1
    clear H1
    simp only [Option.some.injEq, Prod.mk.injEq] at H
    obtain ⟨rfl, rfl⟩ := H
    go_enter Try.func35, Try.ntmps35
    go_wp2_with (first | ((with_reducible refine gate_callee (f := 53) rfl ?_); refine goesL_ (some 17) rfl rfl Try.func53 (by kernel_rfl) rfl #[.slice A0 l0.length c0] rfl (by (try simp only [List.map_toArray, List.map_cons, List.map_nil]); first | done | rfl | (simp only [List.length_drop, List.length_take]; rfl)) ?_; (with_reducible refine (spec_elNames.calls k _ _ l0 false _ ?side1 ?side2 A2.out).mono ?_); (case side1 => repeat (first | exact HR0.out | (with_reducible refine Kd.C_alloc ?_ _) | (with_reducible refine Kd.C_drewN ?_ _) | (with_reducible refine Kd.C_drew ?_))); (case side2 => exact HC0.out); rintro e w' ⟨rfl, ⟨nd, rfl⟩⟩; refine ⟨_, rfl, ?_⟩))
    go_ret2
    exact ⟨by first | rfl | (simp [errW_none, errW_some] <;> rfl) | (simp [*, errW_none, errW_some] <;> rfl), by repeat (first | (with_reducible first | exact HB.out | apply below_alloc | apply pw_below_drewN | apply below_drew1) | exact HB.out)⟩

end Go.Proofs.Ytbiiklkkfkipeaa.X
