/- Several texts of this session in one: X27, X28, X29, X30, X31, X32, X33, X34, X35, PlEv, PlInts, PlMarks, PlRows, PlSurvDefs, PlSurv, PlAll, PlHas, PlNames, PlSurvSame, PureFnExactSurvivorsOf, Rw. -/
import Derived.Test.YtbiiklkkfkipeaaMFnExactSurvivorsOf0
import Derived.Test.YtbiiklkkfkipeaaWWords
import Derived.Test.YtbiiklkkfkipeaaWMore
import Derived.Deep.Slices
import Derived.Deep.Fields
import Derived.ChangeSame
import Derived.Lib.SmallJoins
import Derived.SizedLaws
import Derived.ChangeSlices
/- What the functions of the program come to, and that they do: written by this session's program wip/xprint.py out of the translation; parts named extern are typed by hand. -/
namespace Go.Proofs.Ytbiiklkkfkipeaa.X
open Go.RowKit Go.Proofs.YtbiiklkkfkipeaaW.PrintWords Go.Proofs.YtbiiklkkfkipeaaW.PrintLast Go.Proofs.YtbiiklkkfkipeaaW.PrintMore
attribute [local go_sem] max2_int min2_int max_two min_two max_three min_three max_four min_four   -- for this text's walks alone
set_option linter.unusedVariables false
set_option linter.unusedSimpArgs false

/-! ### impl_survivors: function 66 -/
mutual
def impl_survivors.l0 : Nat → List Int → List Int → List (List Int) → Int → Int → Option ((List (List Int)))
  | 0, _, _, _, _, _ => none
  | k + 1, x3, x4, x5, x19, x20 => if x20 < x19 then (if x3.length < 17592186044416 then (impl_survivors.l0 k (x3 ++ [x20]) x4 x5 x19 (wrap64 (x20 + 1))) else (none)) else (impl_survivors.l1 k x3 x4 x5)
def impl_survivors.l1 : Nat → List Int → List Int → List (List Int) → Option ((List (List Int)))
  | 0, _, _, _ => none
  | k + 1, x3, x4, x5 => (slices_Clone_int_int.f x3).bind fun t368 => (if x5.length < 5864062014805 then ((some (x5 ++ [t368] : List (List Int))).bind fun y371 => (if (x3.length : Int) = 1 then (some y371) else ((slices_Clone_int_int.f x4).bind fun t377 => (impl_survivors.l2 k x3 x4 y371 (x3.length : Int) (([] : List Int)) t377 x3 (x3.length : Int) 0)))) else (none))
def impl_survivors.l2 : Nat → List Int → List Int → List (List Int) → Int → List Int → List Int → List Int → Int → Int → Option ((List (List Int)))
  | 0, _, _, _, _, _, _, _, _, _ => none
  | k + 1, x3, x4, x5, x7, x8, x9, x40, x41, x42 => if x42 < x41 then (if 0 ≤ x42 then (if x42 < (x40.length : Int) then (if x7 = 0 then (none) else (if 0 ≤ (Int.tmod (wrap64 ((wrap64 (x42 + x7)) - 1)) x7) then (if (Int.tmod (wrap64 ((wrap64 (x42 + x7)) - 1)) x7) < (x3.length : Int) then (if 0 ≤ (rd x3 (Int.tmod (wrap64 ((wrap64 (x42 + x7)) - 1)) x7)) then (if (rd x3 (Int.tmod (wrap64 ((wrap64 (x42 + x7)) - 1)) x7)) < (x4.length : Int) then (if 0 ≤ (Int.tmod (wrap64 ((wrap64 (x42 + (wrap64 (2 * x7)))) - 2)) x7) then (if (Int.tmod (wrap64 ((wrap64 (x42 + (wrap64 (2 * x7)))) - 2)) x7) < (x3.length : Int) then (if 0 ≤ (rd x3 (Int.tmod (wrap64 ((wrap64 (x42 + (wrap64 (2 * x7)))) - 2)) x7)) then (if (rd x3 (Int.tmod (wrap64 ((wrap64 (x42 + (wrap64 (2 * x7)))) - 2)) x7)) < (x4.length : Int) then (if (rd x4 (rd x3 (Int.tmod (wrap64 ((wrap64 (x42 + x7)) - 1)) x7))) > (rd x4 (rd x3 (Int.tmod (wrap64 ((wrap64 (x42 + (wrap64 (2 * x7)))) - 2)) x7))) then (if 0 ≤ (rd x40 x42) then (if (rd x40 x42) < (x4.length : Int) then (if (rd x4 (rd x3 (Int.tmod (wrap64 ((wrap64 (x42 + x7)) - 1)) x7))) > (rd x4 (rd x40 x42)) then (if x8.length < 17592186044416 then (if (rd x40 x42) < (x9.length : Int) then (impl_survivors.l2 k x3 x4 x5 x7 (x8 ++ [rd x40 x42]) (x9.set ((rd x40 x42) : Int).toNat (rd x4 (rd x3 (Int.tmod (wrap64 ((wrap64 (x42 + x7)) - 1)) x7)))) x40 x41 (wrap64 (x42 + 1))) else (none)) else (none)) else (impl_survivors.l2 k x3 x4 x5 x7 x8 x9 x40 x41 (wrap64 (x42 + 1)))) else (none)) else (none)) else (impl_survivors.l2 k x3 x4 x5 x7 x8 x9 x40 x41 (wrap64 (x42 + 1)))) else (none)) else (none)) else (none)) else (none)) else (none)) else (none)) else (none)) else (none))) else (none)) else (none)) else (impl_survivors.l1 k x8 x9 x5)
end
def impl_survivors.f (k : Nat) (l0 : List Int) : Option ((List (List Int))) := (slices_Clone_int_int.f l0).bind fun t359 => (impl_survivors.l0 k (([] : List Int)) t359 (([] : List (List Int))) (l0.length : Int) 0)
theorem impl_survivors.mono_l : ∀ k, (∀ y0 y1 y2 y3 y4, LeO (impl_survivors.l0 k y0 y1 y2 y3 y4) (impl_survivors.l0 (k + 1) y0 y1 y2 y3 y4)) ∧ (∀ y0 y1 y2, LeO (impl_survivors.l1 k y0 y1 y2) (impl_survivors.l1 (k + 1) y0 y1 y2)) ∧ (∀ y0 y1 y2 y3 y4 y5 y6 y7 y8, LeO (impl_survivors.l2 k y0 y1 y2 y3 y4 y5 y6 y7 y8) (impl_survivors.l2 (k + 1) y0 y1 y2 y3 y4 y5 y6 y7 y8))
  | 0 => ⟨fun _ _ _ _ _ r h => by simp [impl_survivors.l0] at h, fun _ _ _ r h => by simp [impl_survivors.l1] at h, fun _ _ _ _ _ _ _ _ _ r h => by simp [impl_survivors.l2] at h⟩
  | k + 1 => by
    obtain ⟨ih0, ih1, ih2⟩ := impl_survivors.mono_l k
    refine ⟨?_, ?_, ?_⟩
    · intro y0 y1 y2 y3 y4
      unfold impl_survivors.l0
      repeat' first
      | (with_reducible exact ih0 _ _ _ _ _)
      | (with_reducible exact ih1 _ _ _)
      | (with_reducible exact ih2 _ _ _ _ _ _ _ _ _)
      | (with_reducible exact LeO.refl _)
      | (with_reducible exact LeO.none _)
      | (with_reducible refine LeO.ite ?_ ?_)
      | (with_reducible refine LeO.bind ?_ (fun _ => ?_))
      | exact ih0 _ _ _ _ _
      | exact ih1 _ _ _
      | exact ih2 _ _ _ _ _ _ _ _ _
      | exact LeO.none _
      | refine LeO.ite ?_ ?_
      | refine LeO.bind ?_ (fun _ => ?_)
    · intro y0 y1 y2
      unfold impl_survivors.l1
      repeat' first
      | (with_reducible exact ih0 _ _ _ _ _)
      | (with_reducible exact ih1 _ _ _)
      | (with_reducible exact ih2 _ _ _ _ _ _ _ _ _)
      | (with_reducible exact LeO.refl _)
      | (with_reducible exact LeO.none _)
      | (with_reducible refine LeO.ite ?_ ?_)
      | (with_reducible refine LeO.bind ?_ (fun _ => ?_))
      | exact ih0 _ _ _ _ _
      | exact ih1 _ _ _
      | exact ih2 _ _ _ _ _ _ _ _ _
      | exact LeO.none _
      | refine LeO.ite ?_ ?_
      | refine LeO.bind ?_ (fun _ => ?_)
    · intro y0 y1 y2 y3 y4 y5 y6 y7 y8
      unfold impl_survivors.l2
      repeat' first
      | (with_reducible exact ih0 _ _ _ _ _)
      | (with_reducible exact ih1 _ _ _)
      | (with_reducible exact ih2 _ _ _ _ _ _ _ _ _)
      | (with_reducible exact LeO.refl _)
      | (with_reducible exact LeO.none _)
      | (with_reducible refine LeO.ite ?_ ?_)
      | (with_reducible refine LeO.bind ?_ (fun _ => ?_))
      | exact ih0 _ _ _ _ _
      | exact ih1 _ _ _
      | exact ih2 _ _ _ _ _ _ _ _ _
      | exact LeO.none _
      | refine LeO.ite ?_ ?_
      | refine LeO.bind ?_ (fun _ => ?_)
theorem impl_survivors.mono : ∀ a0 k, LeO (impl_survivors.f k a0) (impl_survivors.f (k + 1) a0) := by
  intro a0 k
  obtain ⟨ih0, ih1, ih2⟩ := impl_survivors.mono_l k
  unfold impl_survivors.f
  repeat' first
      | (with_reducible exact ih0 _ _ _ _ _)
      | (with_reducible exact ih1 _ _ _)
      | (with_reducible exact ih2 _ _ _ _ _ _ _ _ _)
      | (with_reducible exact LeO.refl _)
      | (with_reducible exact LeO.none _)
      | (with_reducible refine LeO.ite ?_ ?_)
      | (with_reducible refine LeO.bind ?_ (fun _ => ?_))
      | exact ih0 _ _ _ _ _
      | exact ih1 _ _ _
      | exact ih2 _ _ _ _ _ _ _ _ _
      | exact LeO.none _
      | refine LeO.ite ?_ ?_
      | refine LeO.bind ?_ (fun _ => ?_)
set_option maxHeartbeats 8000000 in
set_option maxRecDepth 100000 in
theorem impl_survivors.calls (k : Nat) (A0 : Option Addr) (c0 : Nat) (l0 : List Int) (r : List (List Int)) (w : World) (hr0 : Kd.C (Kd.int .i64) w A0 l0.length l0) (hc0 : l0.length ≤ c0) (h : impl_survivors.f k l0 = some r) :
    Calls Try.prog 66 #[.slice A0 l0.length c0] w fun e w' => ∃ v0_ : Value, e = .returned (v0_) ∧ Kd.S (Kd.slice 3 (Kd.int .i64)) 25 w' w.heap.size (fun _ => True) v0_ r ∧ Below w.heap.size w w' := by
  have HR0 := Aside0.mk hr0
  have HC0 := Aside0.mk hc0
  clear hr0 hc0
  have HB := Aside0.mk (Below.refl w.heap.size w)
  have H : ((slices_Clone_int_int.f l0).bind fun t359 => (impl_survivors.l0 k (([] : List Int)) t359 (([] : List (List Int))) (l0.length : Int) 0)) = some r := h
  clear h
  obtain ⟨y356, hy356⟩ : ∃ y_ : List Int, y_ = (([] : List Int)) := ⟨_, rfl⟩
  replace H : ((slices_Clone_int_int.f l0).bind fun t359 => (impl_survivors.l0 k y356 t359 (([] : List (List Int))) (l0.length : Int) 0)) = some r := by first | (rw [hy356]; with_reducible exact H) | (have H2_ := (Option.bind_some _ _).symm.trans H; rw [hy356]; with_reducible exact H2_) | (have H2_ := (Option.bind_some _ _).symm.trans H; with_reducible exact H2_) | with_reducible exact H | (rw [hy356]; exact H) | exact H
  have Ny356 := Aside0.mk hy356
  clear hy356
  replace H := Option.bind_eq_some_iff.mp H
  obtain ⟨t359, A20, H⟩ := H
  obtain rfl : l0 = t359 := (clone_same A20).symm
  replace H : (impl_survivors.l0 k y356 l0 (([] : List (List Int))) (l0.length : Int) 0) = some r := H
  have A2 := Aside0.mk A20
  clear A20
  obtain ⟨y362, hy362⟩ : ∃ y_ : List (List Int), y_ = (([] : List (List Int))) := ⟨_, rfl⟩
  replace H : (impl_survivors.l0 k y356 l0 y362 (l0.length : Int) 0) = some r := by first | (rw [hy362]; with_reducible exact H) | (have H2_ := (Option.bind_some _ _).symm.trans H; rw [hy362]; with_reducible exact H2_) | (have H2_ := (Option.bind_some _ _).symm.trans H; with_reducible exact H2_) | with_reducible exact H | (rw [hy362]; exact H) | exact H
  have Ny362 := Aside0.mk hy362
  clear hy362
  have H' := Aside0.mk H
  clear H
  go_enter Try.func66, Try.ntmps66
  go_wp2_with (first | ((with_reducible refine gate_dst (N := 14) rfl ?_); refine Kd.R_lit (Kd.int .i64) _ 3 ?hg (N := 14) ?hd (xs := ([] : List Int)) (inner := []) (ok := fun _ => True) (okp := fun _ => True) ?hr ?hp (fun _ hk => hk) trivial (Below.refl _ _) (Nat.le_refl _) (by simp) ?_; (case hd => rfl); (case hg => rfl); (case hr => first | (go_simp; done) | (go_simp; rfl)); (case hp => exact (Reps.none _ _)); intro v357 w3 ho4 hb hg_ hnew_; clear hg_ hnew_; (first | rw [← Ny356.out] at ho4 | (simp only [Int.reduceToNat] at ho4; rw [← Ny356.out] at ho4)); have n0_ := Aside0.mk (Kd.R_lower ho4 (below_size (by repeat (first | (with_reducible first | exact HB.out | apply below_alloc | apply pw_below_drewN | apply below_drew1) | exact HB.out)))); have n1_ := Aside0.mk (below_step (by repeat (first | (with_reducible first | exact HB.out | apply below_alloc | apply pw_below_drewN | apply below_drew1) | exact HB.out)) hb); clear HB; have HO358 := n0_; have HB := n1_; clear n0_ n1_; clear hb ho4) | (go_at_call 81; (with_reducible refine (slices_Clone_int_int.calls _ _ l0 l0 _ ?side1 ?side2 A2.out).mono ?_); (case side1 => repeat (first | exact (Kd.C_below HR0.out HB.out) | (with_reducible refine Kd.C_alloc ?_ _) | (with_reducible refine Kd.C_drewN ?_ _) | (with_reducible refine Kd.C_drew ?_))); (case side2 => exact HC0.out); rintro e w5 ⟨v360, rfl, ho0, hb⟩; have n0_ := Aside0.mk (Kd.R_elder' (by (with_reducible repeat (first | apply Kd.R_alloc | apply Kd.R_drewN | apply Kd.R_drew)); exact HO358.out) (Kd.R_base ho0) hb); have n1_ := Aside0.mk (Kd.R_lower (Kd.R_new' ho0 (Kd.R_lt (by (with_reducible repeat (first | apply Kd.R_alloc | apply Kd.R_drewN | apply Kd.R_drew)); exact HO358.out))) (below_size (by repeat (first | (with_reducible first | exact HB.out | apply below_alloc | apply pw_below_drewN | apply below_drew1) | exact HB.out)))); have n2_ := Aside0.mk (below_step (by repeat (first | (with_reducible first | exact HB.out | apply below_alloc | apply pw_below_drewN | apply below_drew1) | exact HB.out)) hb); clear HO358; clear HB; have HO358 := n0_; have HO361 := n1_; have HB := n2_; clear n0_ n1_ n2_; (try clear hb); (try clear hb2); (try clear hk); (try clear hi); (try clear ho0)) | ((with_reducible refine gate_dst (N := 17) rfl ?_); refine Kd.S_lit (Kd.slice 3 (Kd.int .i64)) _ 25 ?hg (N := 17) ?hd (xs := ([] : List (List Int))) (inner := []) (ok := fun _ => True) (okp := fun _ => True) ?hr ?hp (fun _ hk => hk) trivial (Below.refl _ _) (Nat.le_refl _) (by simp) ?_; (case hd => rfl); (case hg => rfl); (case hr => first | (go_simp; done) | (go_simp; rfl)); (case hp => exact (Reps.none _ _)); intro v363 w6 ho7 hb hg_ hnew_; clear hg_ hnew_; (first | rw [← Ny362.out] at ho7 | (simp only [Int.reduceToNat] at ho7; rw [← Ny362.out] at ho7)); have n0_ := Aside0.mk (Kd.R_below (by (with_reducible repeat (first | apply Kd.R_alloc | apply Kd.R_drewN | apply Kd.R_drew)); exact HO358.out) hb); have n1_ := Aside0.mk (Kd.R_below (by (with_reducible repeat (first | apply Kd.R_alloc | apply Kd.R_drewN | apply Kd.R_drew)); exact HO361.out) hb); have n2_ := Aside0.mk (Kd.S_lower (Kd.S_new' (Kd.S_new' ho7 (Kd.R_lt (by (with_reducible repeat (first | apply Kd.R_alloc | apply Kd.R_drewN | apply Kd.R_drew)); exact HO358.out))) (Kd.R_lt (by (with_reducible repeat (first | apply Kd.R_alloc | apply Kd.R_drewN | apply Kd.R_drew)); exact HO361.out))) (below_size (by repeat (first | (with_reducible first | exact HB.out | apply below_alloc | apply pw_below_drewN | apply below_drew1) | exact HB.out)))); have n3_ := Aside0.mk (below_step (by repeat (first | (with_reducible first | exact HB.out | apply below_alloc | apply pw_below_drewN | apply below_drew1) | exact HB.out)) hb); clear HO358; clear HO361; clear HB; have HO358 := n0_; have HO361 := n1_; have HO364 := n2_; have HB := n3_; clear n0_ n1_ n2_ n3_; clear hb ho7))
  repeat (go_quiet (first | ((with_reducible refine gate_dst (N := 14) rfl ?_); refine Kd.R_lit (Kd.int .i64) _ 3 ?hg (N := 14) ?hd (xs := ([] : List Int)) (inner := []) (ok := fun _ => True) (okp := fun _ => True) ?hr ?hp (fun _ hk => hk) trivial (Below.refl _ _) (Nat.le_refl _) (by simp) ?_; (case hd => rfl); (case hg => rfl); (case hr => first | (go_simp; done) | (go_simp; rfl)); (case hp => exact (Reps.none _ _)); intro v357 w3 ho4 hb hg_ hnew_; clear hg_ hnew_; (first | rw [← Ny356.out] at ho4 | (simp only [Int.reduceToNat] at ho4; rw [← Ny356.out] at ho4)); have n0_ := Aside0.mk (Kd.R_lower ho4 (below_size (by repeat (first | (with_reducible first | exact HB.out | apply below_alloc | apply pw_below_drewN | apply below_drew1) | exact HB.out)))); have n1_ := Aside0.mk (below_step (by repeat (first | (with_reducible first | exact HB.out | apply below_alloc | apply pw_below_drewN | apply below_drew1) | exact HB.out)) hb); clear HB; have HO358 := n0_; have HB := n1_; clear n0_ n1_; clear hb ho4) | (go_at_call 81; (with_reducible refine (slices_Clone_int_int.calls _ _ l0 l0 _ ?side1 ?side2 A2.out).mono ?_); (case side1 => repeat (first | exact (Kd.C_below HR0.out HB.out) | (with_reducible refine Kd.C_alloc ?_ _) | (with_reducible refine Kd.C_drewN ?_ _) | (with_reducible refine Kd.C_drew ?_))); (case side2 => exact HC0.out); rintro e w5 ⟨v360, rfl, ho0, hb⟩; have n0_ := Aside0.mk (Kd.R_elder' (by (with_reducible repeat (first | apply Kd.R_alloc | apply Kd.R_drewN | apply Kd.R_drew)); exact HO358.out) (Kd.R_base ho0) hb); have n1_ := Aside0.mk (Kd.R_lower (Kd.R_new' ho0 (Kd.R_lt (by (with_reducible repeat (first | apply Kd.R_alloc | apply Kd.R_drewN | apply Kd.R_drew)); exact HO358.out))) (below_size (by repeat (first | (with_reducible first | exact HB.out | apply below_alloc | apply pw_below_drewN | apply below_drew1) | exact HB.out)))); have n2_ := Aside0.mk (below_step (by repeat (first | (with_reducible first | exact HB.out | apply below_alloc | apply pw_below_drewN | apply below_drew1) | exact HB.out)) hb); clear HO358; clear HB; have HO358 := n0_; have HO361 := n1_; have HB := n2_; clear n0_ n1_ n2_; (try clear hb); (try clear hb2); (try clear hk); (try clear hi); (try clear ho0)) | ((with_reducible refine gate_dst (N := 17) rfl ?_); refine Kd.S_lit (Kd.slice 3 (Kd.int .i64)) _ 25 ?hg (N := 17) ?hd (xs := ([] : List (List Int))) (inner := []) (ok := fun _ => True) (okp := fun _ => True) ?hr ?hp (fun _ hk => hk) trivial (Below.refl _ _) (Nat.le_refl _) (by simp) ?_; (case hd => rfl); (case hg => rfl); (case hr => first | (go_simp; done) | (go_simp; rfl)); (case hp => exact (Reps.none _ _)); intro v363 w6 ho7 hb hg_ hnew_; clear hg_ hnew_; (first | rw [← Ny362.out] at ho7 | (simp only [Int.reduceToNat] at ho7; rw [← Ny362.out] at ho7)); have n0_ := Aside0.mk (Kd.R_below (by (with_reducible repeat (first | apply Kd.R_alloc | apply Kd.R_drewN | apply Kd.R_drew)); exact HO358.out) hb); have n1_ := Aside0.mk (Kd.R_below (by (with_reducible repeat (first | apply Kd.R_alloc | apply Kd.R_drewN | apply Kd.R_drew)); exact HO361.out) hb); have n2_ := Aside0.mk (Kd.S_lower (Kd.S_new' (Kd.S_new' ho7 (Kd.R_lt (by (with_reducible repeat (first | apply Kd.R_alloc | apply Kd.R_drewN | apply Kd.R_drew)); exact HO358.out))) (Kd.R_lt (by (with_reducible repeat (first | apply Kd.R_alloc | apply Kd.R_drewN | apply Kd.R_drew)); exact HO361.out))) (below_size (by repeat (first | (with_reducible first | exact HB.out | apply below_alloc | apply pw_below_drewN | apply below_drew1) | exact HB.out)))); have n3_ := Aside0.mk (below_step (by repeat (first | (with_reducible first | exact HB.out | apply below_alloc | apply pw_below_drewN | apply below_drew1) | exact HB.out)) hb); clear HO358; clear HO361; clear HB; have HO358 := n0_; have HO361 := n1_; have HO364 := n2_; have HB := n3_; clear n0_ n1_ n2_ n3_; clear hb ho7)); try go_wp2_with (first | ((with_reducible refine gate_dst (N := 14) rfl ?_); refine Kd.R_lit (Kd.int .i64) _ 3 ?hg (N := 14) ?hd (xs := ([] : List Int)) (inner := []) (ok := fun _ => True) (okp := fun _ => True) ?hr ?hp (fun _ hk => hk) trivial (Below.refl _ _) (Nat.le_refl _) (by simp) ?_; (case hd => rfl); (case hg => rfl); (case hr => first | (go_simp; done) | (go_simp; rfl)); (case hp => exact (Reps.none _ _)); intro v357 w3 ho4 hb hg_ hnew_; clear hg_ hnew_; (first | rw [← Ny356.out] at ho4 | (simp only [Int.reduceToNat] at ho4; rw [← Ny356.out] at ho4)); have n0_ := Aside0.mk (Kd.R_lower ho4 (below_size (by repeat (first | (with_reducible first | exact HB.out | apply below_alloc | apply pw_below_drewN | apply below_drew1) | exact HB.out)))); have n1_ := Aside0.mk (below_step (by repeat (first | (with_reducible first | exact HB.out | apply below_alloc | apply pw_below_drewN | apply below_drew1) | exact HB.out)) hb); clear HB; have HO358 := n0_; have HB := n1_; clear n0_ n1_; clear hb ho4) | (go_at_call 81; (with_reducible refine (slices_Clone_int_int.calls _ _ l0 l0 _ ?side1 ?side2 A2.out).mono ?_); (case side1 => repeat (first | exact (Kd.C_below HR0.out HB.out) | (with_reducible refine Kd.C_alloc ?_ _) | (with_reducible refine Kd.C_drewN ?_ _) | (with_reducible refine Kd.C_drew ?_))); (case side2 => exact HC0.out); rintro e w5 ⟨v360, rfl, ho0, hb⟩; have n0_ := Aside0.mk (Kd.R_elder' (by (with_reducible repeat (first | apply Kd.R_alloc | apply Kd.R_drewN | apply Kd.R_drew)); exact HO358.out) (Kd.R_base ho0) hb); have n1_ := Aside0.mk (Kd.R_lower (Kd.R_new' ho0 (Kd.R_lt (by (with_reducible repeat (first | apply Kd.R_alloc | apply Kd.R_drewN | apply Kd.R_drew)); exact HO358.out))) (below_size (by repeat (first | (with_reducible first | exact HB.out | apply below_alloc | apply pw_below_drewN | apply below_drew1) | exact HB.out)))); have n2_ := Aside0.mk (below_step (by repeat (first | (with_reducible first | exact HB.out | apply below_alloc | apply pw_below_drewN | apply below_drew1) | exact HB.out)) hb); clear HO358; clear HB; have HO358 := n0_; have HO361 := n1_; have HB := n2_; clear n0_ n1_ n2_; (try clear hb); (try clear hb2); (try clear hk); (try clear hi); (try clear ho0)) | ((with_reducible refine gate_dst (N := 17) rfl ?_); refine Kd.S_lit (Kd.slice 3 (Kd.int .i64)) _ 25 ?hg (N := 17) ?hd (xs := ([] : List (List Int))) (inner := []) (ok := fun _ => True) (okp := fun _ => True) ?hr ?hp (fun _ hk => hk) trivial (Below.refl _ _) (Nat.le_refl _) (by simp) ?_; (case hd => rfl); (case hg => rfl); (case hr => first | (go_simp; done) | (go_simp; rfl)); (case hp => exact (Reps.none _ _)); intro v363 w6 ho7 hb hg_ hnew_; clear hg_ hnew_; (first | rw [← Ny362.out] at ho7 | (simp only [Int.reduceToNat] at ho7; rw [← Ny362.out] at ho7)); have n0_ := Aside0.mk (Kd.R_below (by (with_reducible repeat (first | apply Kd.R_alloc | apply Kd.R_drewN | apply Kd.R_drew)); exact HO358.out) hb); have n1_ := Aside0.mk (Kd.R_below (by (with_reducible repeat (first | apply Kd.R_alloc | apply Kd.R_drewN | apply Kd.R_drew)); exact HO361.out) hb); have n2_ := Aside0.mk (Kd.S_lower (Kd.S_new' (Kd.S_new' ho7 (Kd.R_lt (by (with_reducible repeat (first | apply Kd.R_alloc | apply Kd.R_drewN | apply Kd.R_drew)); exact HO358.out))) (Kd.R_lt (by (with_reducible repeat (first | apply Kd.R_alloc | apply Kd.R_drewN | apply Kd.R_drew)); exact HO361.out))) (below_size (by repeat (first | (with_reducible first | exact HB.out | apply below_alloc | apply pw_below_drewN | apply below_drew1) | exact HB.out)))); have n3_ := Aside0.mk (below_step (by repeat (first | (with_reducible first | exact HB.out | apply below_alloc | apply pw_below_drewN | apply below_drew1) | exact HB.out)) hb); clear HO358; clear HO361; clear HB; have HO358 := n0_; have HO361 := n1_; have HO364 := n2_; have HB := n3_; clear n0_ n1_ n2_ n3_; clear hb ho7)))
  go_loopg [3, 20] k (fun kq v3 v20 w' => ∃ (x3_1 : List Int) (x20_1 : Int), v20 = .int .i64 x20_1 ∧ Aside0 (impl_survivors.l0 kq x3_1 l0 y362 (l0.length : Int) x20_1 = some r) ∧ Aside0 (kq ≤ k) ∧ Aside0 (Kd.R (Kd.int .i64) 3 w' w.heap.size (fun k_ => some k_ ≠ (v360 : Value).ownBlock) v3 x3_1) ∧ Aside0 (Kd.R (Kd.int .i64) 3 w' w.heap.size (fun k_ => some k_ ≠ (v3 : Value).ownBlock) v360 l0) ∧ Aside0 (Kd.S (Kd.slice 3 (Kd.int .i64)) 25 w' w.heap.size (fun k_ => some k_ ≠ (v3 : Value).ownBlock ∧ some k_ ≠ (v360 : Value).ownBlock) v363 y362) ∧ Aside0 (Below w.heap.size w w'))
  case atStart => exact ⟨(y356), (0), (by first | rfl | (simp; done) | (simp [*]; done)), H', ⟨Nat.le_refl _⟩, ⟨by (with_reducible repeat (first | apply Kd.R_alloc | apply Kd.R_drewN | apply Kd.R_drew)); exact Kd.R_mono HO358.out (fun _ hk => hk.2)⟩, ⟨by (with_reducible repeat (first | apply Kd.R_alloc | apply Kd.R_drewN | apply Kd.R_drew)); exact Kd.R_mono HO361.out (fun _ hk => hk.2)⟩, ⟨by (with_reducible repeat (first | apply Kd.S_alloc | apply Kd.S_drewN | apply Kd.S_drew)); exact Kd.S_mono HO364.out (fun _ hk => ⟨hk.1.2, hk.2⟩)⟩, ⟨by repeat (first | (with_reducible first | exact HB.out | apply below_alloc | apply pw_below_drewN | apply below_drew1) | exact HB.out)⟩⟩
  case round =>
    clear H'
    try clear p2
    try clear c6
    obtain ⟨x3_1, x20_1, rfl, HA, HK1, HO_3, HO_4, HO_5, HB⟩ := hrel
    cases gk with
    | zero => exact absurd HA.out (by simp [impl_survivors.l0])
    | succ k1 =>
      have H := HA.out
      clear HA
      simp only [impl_survivors.l0] at H
      by_cases c8 : x20_1 < (l0.length : Int)
      · rw [if_pos c8] at H
        have c8b0 : decide (x20_1 < (l0.length : Int)) = true := decide_eq_true c8
        clear c8
        by_cases c9 : x3_1.length < 17592186044416
        · rw [if_pos c9] at H
          have LMc9 := Aside0.mk c9
          clear c9
          obtain ⟨y365, hy365⟩ : ∃ y_ : List Int, y_ = (x3_1 ++ [x20_1]) := ⟨_, rfl⟩
          replace H : (impl_survivors.l0 k1 y365 l0 y362 (l0.length : Int) (wrap64 (x20_1 + 1))) = some r := by first | (rw [hy365]; with_reducible exact H) | (have H2_ := (Option.bind_some _ _).symm.trans H; rw [hy365]; with_reducible exact H2_) | (have H2_ := (Option.bind_some _ _).symm.trans H; with_reducible exact H2_) | with_reducible exact H | (rw [hy365]; exact H) | exact H
          have Ny365 := Aside0.mk hy365
          clear hy365
          have H' := Aside0.mk H
          clear H
          go_wp2_with (first | ((with_reducible refine gate_builtin (b := .append) (xs := #[.tmp 23, .tmp 25]) rfl ?_); at_builtin; refine Kd.R_append (Kd.int .i64) (w0 := w) w.heap.size rfl (.tmp 23) (.tmp 25) 25 3 (.int .i64 0) 8 rfl Try.underlying25 info3 rfl (by decide) (by omega) u3 x3_1 x20_1 [.int .i64 x20_1] (fun k_ => some k_ ≠ (v360 : Value).ownBlock) (fun _ => False) rfl rfl ?aP (fun _ hk => hk.elim) ?aF ?aO ?aB ?aS ?aL ?_; (case aP => exact rfl); (case aB => exact (by repeat (first | (with_reducible first | exact HB.out | apply below_alloc | apply pw_below_drewN | apply below_drew1) | exact HB.out))); (case aF => exact (fun k_ hk => Kd.fresh' (Kd.R_lt (by (with_reducible repeat (first | apply Kd.R_alloc | apply Kd.R_drewN | apply Kd.R_drew)); exact HO_4.out)) k_ hk)); (case aO => exact (by (with_reducible repeat (first | apply Kd.R_alloc | apply Kd.R_drewN | apply Kd.R_drew)); exact HO_3.out)); (case aS => exact (below_size (by repeat (first | (with_reducible first | exact HB.out | apply below_alloc | apply pw_below_drewN | apply below_drew1) | exact HB.out)))); (case aL => have := LMc9.out; omega); intro v366 w10 ho hb hg hat; rw [← Ny365.out] at ho; have n0_ := Aside0.mk (Kd.R_after (ok := (fun _ => True)) (by (with_reducible repeat (first | apply Kd.R_alloc | apply Kd.R_drewN | apply Kd.R_drew)); exact Kd.R_mono HO_4.out (fun _ hk => ⟨trivial, hk⟩)) hg hat); have n1_ := Aside0.mk (Kd.S_after (ok := (fun k_ => some k_ ≠ (v360 : Value).ownBlock)) (by (with_reducible repeat (first | apply Kd.S_alloc | apply Kd.S_drewN | apply Kd.S_drew)); exact Kd.S_mono HO_5.out (fun _ hk => ⟨hk.2, hk.1⟩)) hg hat); have n2_ := Aside0.mk (hb); have n3_ := Aside0.mk (ho); clear HO_4; clear HO_5; clear HB; clear HO_3; have HO_4 := n0_; have HO_5 := n1_; have HB := n2_; have HO367 := n3_; clear n0_ n1_ n2_ n3_; clear ho hb hg hat))
          repeat (go_quiet (first | ((with_reducible refine gate_builtin (b := .append) (xs := #[.tmp 23, .tmp 25]) rfl ?_); at_builtin; refine Kd.R_append (Kd.int .i64) (w0 := w) w.heap.size rfl (.tmp 23) (.tmp 25) 25 3 (.int .i64 0) 8 rfl Try.underlying25 info3 rfl (by decide) (by omega) u3 x3_1 x20_1 [.int .i64 x20_1] (fun k_ => some k_ ≠ (v360 : Value).ownBlock) (fun _ => False) rfl rfl ?aP (fun _ hk => hk.elim) ?aF ?aO ?aB ?aS ?aL ?_; (case aP => exact rfl); (case aB => exact (by repeat (first | (with_reducible first | exact HB.out | apply below_alloc | apply pw_below_drewN | apply below_drew1) | exact HB.out))); (case aF => exact (fun k_ hk => Kd.fresh' (Kd.R_lt (by (with_reducible repeat (first | apply Kd.R_alloc | apply Kd.R_drewN | apply Kd.R_drew)); exact HO_4.out)) k_ hk)); (case aO => exact (by (with_reducible repeat (first | apply Kd.R_alloc | apply Kd.R_drewN | apply Kd.R_drew)); exact HO_3.out)); (case aS => exact (below_size (by repeat (first | (with_reducible first | exact HB.out | apply below_alloc | apply pw_below_drewN | apply below_drew1) | exact HB.out)))); (case aL => have := LMc9.out; omega); intro v366 w10 ho hb hg hat; rw [← Ny365.out] at ho; have n0_ := Aside0.mk (Kd.R_after (ok := (fun _ => True)) (by (with_reducible repeat (first | apply Kd.R_alloc | apply Kd.R_drewN | apply Kd.R_drew)); exact Kd.R_mono HO_4.out (fun _ hk => ⟨trivial, hk⟩)) hg hat); have n1_ := Aside0.mk (Kd.S_after (ok := (fun k_ => some k_ ≠ (v360 : Value).ownBlock)) (by (with_reducible repeat (first | apply Kd.S_alloc | apply Kd.S_drewN | apply Kd.S_drew)); exact Kd.S_mono HO_5.out (fun _ hk => ⟨hk.2, hk.1⟩)) hg hat); have n2_ := Aside0.mk (hb); have n3_ := Aside0.mk (ho); clear HO_4; clear HO_5; clear HB; clear HO_3; have HO_4 := n0_; have HO_5 := n1_; have HB := n2_; have HO367 := n3_; clear n0_ n1_ n2_ n3_; clear ho hb hg hat)); try go_wp2_with (first | ((with_reducible refine gate_builtin (b := .append) (xs := #[.tmp 23, .tmp 25]) rfl ?_); at_builtin; refine Kd.R_append (Kd.int .i64) (w0 := w) w.heap.size rfl (.tmp 23) (.tmp 25) 25 3 (.int .i64 0) 8 rfl Try.underlying25 info3 rfl (by decide) (by omega) u3 x3_1 x20_1 [.int .i64 x20_1] (fun k_ => some k_ ≠ (v360 : Value).ownBlock) (fun _ => False) rfl rfl ?aP (fun _ hk => hk.elim) ?aF ?aO ?aB ?aS ?aL ?_; (case aP => exact rfl); (case aB => exact (by repeat (first | (with_reducible first | exact HB.out | apply below_alloc | apply pw_below_drewN | apply below_drew1) | exact HB.out))); (case aF => exact (fun k_ hk => Kd.fresh' (Kd.R_lt (by (with_reducible repeat (first | apply Kd.R_alloc | apply Kd.R_drewN | apply Kd.R_drew)); exact HO_4.out)) k_ hk)); (case aO => exact (by (with_reducible repeat (first | apply Kd.R_alloc | apply Kd.R_drewN | apply Kd.R_drew)); exact HO_3.out)); (case aS => exact (below_size (by repeat (first | (with_reducible first | exact HB.out | apply below_alloc | apply pw_below_drewN | apply below_drew1) | exact HB.out)))); (case aL => have := LMc9.out; omega); intro v366 w10 ho hb hg hat; rw [← Ny365.out] at ho; have n0_ := Aside0.mk (Kd.R_after (ok := (fun _ => True)) (by (with_reducible repeat (first | apply Kd.R_alloc | apply Kd.R_drewN | apply Kd.R_drew)); exact Kd.R_mono HO_4.out (fun _ hk => ⟨trivial, hk⟩)) hg hat); have n1_ := Aside0.mk (Kd.S_after (ok := (fun k_ => some k_ ≠ (v360 : Value).ownBlock)) (by (with_reducible repeat (first | apply Kd.S_alloc | apply Kd.S_drewN | apply Kd.S_drew)); exact Kd.S_mono HO_5.out (fun _ hk => ⟨hk.2, hk.1⟩)) hg hat); have n2_ := Aside0.mk (hb); have n3_ := Aside0.mk (ho); clear HO_4; clear HO_5; clear HB; clear HO_3; have HO_4 := n0_; have HO_5 := n1_; have HB := n2_; have HO367 := n3_; clear n0_ n1_ n2_ n3_; clear ho hb hg hat)))
          go_roundg k1
          case measure => have := HK1.out; omega
          case rel => exact ⟨(y365), (wrap64 (x20_1 + 1)), (by first | rfl | (simp; done) | (simp [*]; done)), H', ⟨by have := HK1.out; omega⟩, ⟨by (with_reducible repeat (first | apply Kd.R_alloc | apply Kd.R_drewN | apply Kd.R_drew)); exact HO367.out⟩, ⟨by (with_reducible repeat (first | apply Kd.R_alloc | apply Kd.R_drewN | apply Kd.R_drew)); exact Kd.R_mono HO_4.out (fun _ hk => hk.2)⟩, ⟨by (with_reducible repeat (first | apply Kd.S_alloc | apply Kd.S_drewN | apply Kd.S_drew)); exact Kd.S_mono HO_5.out (fun _ hk => ⟨hk.2, hk.1⟩)⟩, ⟨by repeat (first | (with_reducible first | exact HB.out | apply below_alloc | apply pw_below_drewN | apply below_drew1) | exact HB.out)⟩⟩
        · rw [if_neg c9] at H
          exact absurd H (by simp)
      · rw [if_neg c8] at H
        have c8b0 : decide (x20_1 < (l0.length : Int)) = false := decide_eq_false c8
        clear c8
        have H' := Aside0.mk H
        clear H
        go_wp2
        repeat (go_quiet (fail); try go_wp2)
        go_loopg [3, 4, 5] k1 (fun kq v3 v4 v5 w' => ∃ (x3_2 : List Int) (x4_2 : List Int) (x5_2 : List (List Int)), Aside0 (impl_survivors.l1 kq x3_2 x4_2 x5_2 = some r) ∧ Aside0 (kq ≤ k1) ∧ Aside0 (Kd.R (Kd.int .i64) 3 w' w.heap.size (fun k_ => some k_ ≠ (v4 : Value).ownBlock) v3 x3_2) ∧ Aside0 (Kd.R (Kd.int .i64) 3 w' w.heap.size (fun k_ => some k_ ≠ (v3 : Value).ownBlock) v4 x4_2) ∧ Aside0 (Kd.S (Kd.slice 3 (Kd.int .i64)) 25 w' w.heap.size (fun k_ => some k_ ≠ (v3 : Value).ownBlock ∧ some k_ ≠ (v4 : Value).ownBlock) v5 x5_2) ∧ Aside0 (Below w.heap.size w w'))
        case atStart => exact ⟨(x3_1), (l0), (y362), H', ⟨Nat.le_refl _⟩, ⟨by (with_reducible repeat (first | apply Kd.R_alloc | apply Kd.R_drewN | apply Kd.R_drew)); exact HO_3.out⟩, ⟨by (with_reducible repeat (first | apply Kd.R_alloc | apply Kd.R_drewN | apply Kd.R_drew)); exact HO_4.out⟩, ⟨by (with_reducible repeat (first | apply Kd.S_alloc | apply Kd.S_drewN | apply Kd.S_drew)); exact HO_5.out⟩, ⟨by repeat (first | (with_reducible first | exact HB.out | apply below_alloc | apply pw_below_drewN | apply below_drew1) | exact HB.out)⟩⟩
        case round =>
          clear H'
          try clear p2
          try clear c6
          try clear p6
          try clear c8
          try clear c8b0
          try clear c9
          try clear p2
          obtain ⟨x3_2, x4_2, x5_2, HA, HK2, HO_3, HO_4, HO_5, HB⟩ := hrel
          cases gk with
          | zero => exact absurd HA.out (by simp [impl_survivors.l1])
          | succ k2 =>
            have H := HA.out
            clear HA
            simp only [impl_survivors.l1] at H
            replace H := Option.bind_eq_some_iff.mp H
            obtain ⟨t368, A110, H⟩ := H
            obtain rfl : x3_2 = t368 := (clone_same A110).symm
            replace H : (if x5_2.length < 5864062014805 then ((some (x5_2 ++ [x3_2] : List (List Int))).bind fun y371 => (if (x3_2.length : Int) = 1 then (some y371) else ((slices_Clone_int_int.f x4_2).bind fun t377 => (impl_survivors.l2 k2 x3_2 x4_2 y371 (x3_2.length : Int) (([] : List Int)) t377 x3_2 (x3_2.length : Int) 0)))) else (none)) = some r := H
            have A11 := Aside0.mk A110
            clear A110
            by_cases c12 : x5_2.length < 5864062014805
            · rw [if_pos c12] at H
              have LMc12 := Aside0.mk c12
              clear c12
              obtain ⟨y371, hy371⟩ : ∃ y_ : List (List Int), y_ = (x5_2 ++ [x3_2]) := ⟨_, rfl⟩
              replace H : (if (x3_2.length : Int) = 1 then (some y371) else ((slices_Clone_int_int.f x4_2).bind fun t377 => (impl_survivors.l2 k2 x3_2 x4_2 y371 (x3_2.length : Int) (([] : List Int)) t377 x3_2 (x3_2.length : Int) 0))) = some r := by first | (rw [hy371]; with_reducible exact H) | (have H2_ := (Option.bind_some _ _).symm.trans H; rw [hy371]; with_reducible exact H2_) | (have H2_ := (Option.bind_some _ _).symm.trans H; with_reducible exact H2_) | with_reducible exact H | (rw [hy371]; exact H) | exact H
              have Ny371 := Aside0.mk hy371
              clear hy371
              by_cases c13 : (x3_2.length : Int) = 1
              · rw [if_pos c13] at H
                have c13b0 : ((x3_2.length : Int) == 1) = true := beq_iff_eq.mpr c13
                have c13b1 : ((x3_2.length : Int) != 1) = false := bne_eq_false_iff_eq.mpr c13
                clear c13
                obtain rfl := Option.some.inj H
                obtain ⟨Ao14, co14, eo14⟩ := Kd.R_slice HO_3.out
                subst eo14
                have n_ := Aside0.mk (R_andT HO_3.out)
                clear HO_3
                have HO_3 := n_
                clear n_
                have n_ := Aside0.mk (R_andT HO_4.out)
                clear HO_4
                have HO_4 := n_
                clear n_
                have n_ := Aside0.mk (S_andT HO_5.out)
                clear HO_5
                have HO_5 := n_
                clear n_
                go_wp2_with (first | ((with_reducible refine gate_builtin (b := .append) (xs := #[.tmp 28, .tmp 30]) rfl ?_); at_builtin; refine Kd.S_append (Kd.slice 3 (Kd.int .i64)) (w0 := w) w.heap.size rfl (.tmp 28) (.tmp 30) 34 25 (.slice none 0 0) 24 rfl Try.underlying34 info25 rfl (by decide) (by omega) u5 x5_2 x3_2 [.slice Ao14 x3_2.length co14] (fun k_ => True ∧ some k_ ≠ (u4 : Value).ownBlock) (fun k_ => some k_ = (.slice Ao14 x3_2.length co14 : Value).ownBlock) rfl rfl ?aP (fun k_ hk_ => ((Kd.R_mono (ok' := fun k_ => ((fun k_ => True ∧ some k_ ≠ (u4 : Value).ownBlock)) k_ ∧ some k_ ≠ (u5 : Value).ownBlock) (Kd.R_apart' (HO_3.out) (Kd.S_typed HO_5.out) (by decide)) (fun k_ hk => ⟨⟨trivial, hk.1.1⟩, hk.2⟩))).1 k_ hk_.symm) ?aF ?aO ?aB ?aS ?aL ?_; (case aP => exact Kd.M_row (Kd.R_mono (Kd.R_tight rfl (Kd.R_mono (ok' := fun k_ => ((fun k_ => True ∧ some k_ ≠ (u4 : Value).ownBlock)) k_ ∧ some k_ ≠ (u5 : Value).ownBlock) (Kd.R_apart' (HO_3.out) (Kd.S_typed HO_5.out) (by decide)) (fun k_ hk => ⟨⟨trivial, hk.1.1⟩, hk.2⟩))) (fun _ h_ => h_))); (case aB => exact (by repeat (first | (with_reducible first | exact HB.out | apply below_alloc | apply pw_below_drewN | apply below_drew1) | exact HB.out))); (case aF => exact (fun k_ hk => ⟨trivial, Kd.fresh' (Kd.R_lt (by (with_reducible repeat (first | apply Kd.R_alloc | apply Kd.R_drewN | apply Kd.R_drew)); exact HO_4.out)) k_ hk⟩)); (case aO => exact (by (with_reducible repeat (first | apply Kd.S_alloc | apply Kd.S_drewN | apply Kd.S_drew)); exact Kd.S_mono HO_5.out (fun k_ hk => ⟨⟨trivial, hk.1.2⟩, fun e_ => hk.1.1 e_⟩))); (case aS => exact (below_size (by repeat (first | (with_reducible first | exact HB.out | apply below_alloc | apply pw_below_drewN | apply below_drew1) | exact HB.out)))); (case aL => have := LMc12.out; omega); intro v372 w16 ho hb hg hat; rw [← Ny371.out] at ho; have n0_ := Aside0.mk (Kd.R_over' (by (with_reducible repeat (first | apply Kd.R_alloc | apply Kd.R_drewN | apply Kd.R_drew)); exact HO_3.out) (Kd.S_typed (by (with_reducible repeat (first | apply Kd.S_alloc | apply Kd.S_drewN | apply Kd.S_drew)); exact HO_5.out)) (by decide) hg); have n1_ := Aside0.mk (Kd.R_over' (by (with_reducible repeat (first | apply Kd.R_alloc | apply Kd.R_drewN | apply Kd.R_drew)); exact HO_4.out) (Kd.S_typed (by (with_reducible repeat (first | apply Kd.S_alloc | apply Kd.S_drewN | apply Kd.S_drew)); exact HO_5.out)) (by decide) hg); have n2_ := Aside0.mk (hb); have n3_ := Aside0.mk (ho); clear HO_3; clear HO_4; clear HB; clear HO_5; have HO_3 := n0_; have HO_4 := n1_; have HB := n2_; have HO373 := n3_; clear n0_ n1_ n2_ n3_; clear ho hb hg hat))
                go_ret
                exact ⟨_, by first | rfl | (simp [errW_none, errW_some] <;> rfl) | (simp [*, errW_none, errW_some] <;> rfl), by (with_reducible repeat (first | apply Kd.S_alloc | apply Kd.S_drewN | apply Kd.S_drew)); exact Kd.S_mono HO373.out (fun _ hk => trivial), by repeat (first | (with_reducible first | exact HB.out | apply below_alloc | apply pw_below_drewN | apply below_drew1) | exact HB.out)⟩
              · rw [if_neg c13] at H
                have c13b0 : ((x3_2.length : Int) == 1) = false := beq_eq_false_iff_ne.mpr c13
                have c13b1 : ((x3_2.length : Int) != 1) = true := bne_iff_ne.mpr c13
                obtain ⟨y374, hy374⟩ : ∃ y_ : List Int, y_ = (([] : List Int)) := ⟨_, rfl⟩
                replace H : ((slices_Clone_int_int.f x4_2).bind fun t377 => (impl_survivors.l2 k2 x3_2 x4_2 y371 (x3_2.length : Int) y374 t377 x3_2 (x3_2.length : Int) 0)) = some r := by first | (rw [hy374]; with_reducible exact H) | (have H2_ := (Option.bind_some _ _).symm.trans H; rw [hy374]; with_reducible exact H2_) | (have H2_ := (Option.bind_some _ _).symm.trans H; with_reducible exact H2_) | with_reducible exact H | (rw [hy374]; exact H) | exact H
                have Ny374 := Aside0.mk hy374
                clear hy374
                replace H := Option.bind_eq_some_iff.mp H
                obtain ⟨t377, A180, H⟩ := H
                replace H : (impl_survivors.l2 k2 x3_2 x4_2 y371 (x3_2.length : Int) y374 t377 x3_2 (x3_2.length : Int) 0) = some r := H
                have A18 := Aside0.mk A180
                clear A180
                have H' := Aside0.mk H
                clear H
                obtain ⟨Ao19, co19, eo19⟩ := Kd.R_slice HO_3.out
                subst eo19
                have n_ := Aside0.mk (R_andT HO_3.out)
                clear HO_3
                have HO_3 := n_
                clear n_
                have n_ := Aside0.mk (R_andT HO_4.out)
                clear HO_4
                have HO_4 := n_
                clear n_
                have n_ := Aside0.mk (S_andT HO_5.out)
                clear HO_5
                have HO_5 := n_
                clear n_
                go_wp2_with (first | ((with_reducible refine gate_builtin (b := .append) (xs := #[.tmp 28, .tmp 30]) rfl ?_); at_builtin; refine Kd.S_append (Kd.slice 3 (Kd.int .i64)) (w0 := w) w.heap.size rfl (.tmp 28) (.tmp 30) 34 25 (.slice none 0 0) 24 rfl Try.underlying34 info25 rfl (by decide) (by omega) u5 x5_2 x3_2 [.slice Ao19 x3_2.length co19] (fun k_ => True ∧ some k_ ≠ (u4 : Value).ownBlock) (fun k_ => some k_ = (.slice Ao19 x3_2.length co19 : Value).ownBlock) rfl rfl ?aP (fun k_ hk_ => ((Kd.R_mono (ok' := fun k_ => ((fun k_ => True ∧ some k_ ≠ (u4 : Value).ownBlock)) k_ ∧ some k_ ≠ (u5 : Value).ownBlock) (Kd.R_apart' (HO_3.out) (Kd.S_typed HO_5.out) (by decide)) (fun k_ hk => ⟨⟨trivial, hk.1.1⟩, hk.2⟩))).1 k_ hk_.symm) ?aF ?aO ?aB ?aS ?aL ?_; (case aP => exact Kd.M_row (Kd.R_mono (Kd.R_tight rfl (Kd.R_mono (ok' := fun k_ => ((fun k_ => True ∧ some k_ ≠ (u4 : Value).ownBlock)) k_ ∧ some k_ ≠ (u5 : Value).ownBlock) (Kd.R_apart' (HO_3.out) (Kd.S_typed HO_5.out) (by decide)) (fun k_ hk => ⟨⟨trivial, hk.1.1⟩, hk.2⟩))) (fun _ h_ => h_))); (case aB => exact (by repeat (first | (with_reducible first | exact HB.out | apply below_alloc | apply pw_below_drewN | apply below_drew1) | exact HB.out))); (case aF => exact (fun k_ hk => ⟨trivial, Kd.fresh' (Kd.R_lt (by (with_reducible repeat (first | apply Kd.R_alloc | apply Kd.R_drewN | apply Kd.R_drew)); exact HO_4.out)) k_ hk⟩)); (case aO => exact (by (with_reducible repeat (first | apply Kd.S_alloc | apply Kd.S_drewN | apply Kd.S_drew)); exact Kd.S_mono HO_5.out (fun k_ hk => ⟨⟨trivial, hk.1.2⟩, fun e_ => hk.1.1 e_⟩))); (case aS => exact (below_size (by repeat (first | (with_reducible first | exact HB.out | apply below_alloc | apply pw_below_drewN | apply below_drew1) | exact HB.out)))); (case aL => have := LMc12.out; omega); intro v372 w21 ho hb hg hat; rw [← Ny371.out] at ho; have n0_ := Aside0.mk (Kd.R_over' (by (with_reducible repeat (first | apply Kd.R_alloc | apply Kd.R_drewN | apply Kd.R_drew)); exact HO_3.out) (Kd.S_typed (by (with_reducible repeat (first | apply Kd.S_alloc | apply Kd.S_drewN | apply Kd.S_drew)); exact HO_5.out)) (by decide) hg); have n1_ := Aside0.mk (Kd.R_over' (by (with_reducible repeat (first | apply Kd.R_alloc | apply Kd.R_drewN | apply Kd.R_drew)); exact HO_4.out) (Kd.S_typed (by (with_reducible repeat (first | apply Kd.S_alloc | apply Kd.S_drewN | apply Kd.S_drew)); exact HO_5.out)) (by decide) hg); have n2_ := Aside0.mk (hb); have n3_ := Aside0.mk (ho); clear HO_3; clear HO_4; clear HB; clear HO_5; have HO_3 := n0_; have HO_4 := n1_; have HB := n2_; have HO373 := n3_; clear n0_ n1_ n2_ n3_; clear ho hb hg hat) | ((with_reducible refine gate_dst (N := 37) rfl ?_); refine Kd.R_lit (Kd.int .i64) _ 3 ?hg (N := 37) ?hd (xs := ([] : List Int)) (inner := []) (ok := fun _ => True) (okp := fun _ => True) ?hr ?hp (fun _ hk => hk) trivial (Below.refl _ _) (Nat.le_refl _) (by simp) ?_; (case hd => rfl); (case hg => rfl); (case hr => first | (go_simp; done) | (go_simp; rfl)); (case hp => exact (Reps.none _ _)); intro v375 w23 ho24 hb hg_ hnew_; clear hg_ hnew_; (first | rw [← Ny374.out] at ho24 | (simp only [Int.reduceToNat] at ho24; rw [← Ny374.out] at ho24)); have n0_ := Aside0.mk (Kd.R_elder' (by (with_reducible repeat (first | apply Kd.R_alloc | apply Kd.R_drewN | apply Kd.R_drew)); exact HO_3.out) (Kd.R_base ho24) hb); have n1_ := Aside0.mk (Kd.R_elder' (by (with_reducible repeat (first | apply Kd.R_alloc | apply Kd.R_drewN | apply Kd.R_drew)); exact HO_4.out) (Kd.R_base ho24) hb); have n2_ := Aside0.mk (Kd.S_elder' (by (with_reducible repeat (first | apply Kd.S_alloc | apply Kd.S_drewN | apply Kd.S_drew)); exact HO373.out) (Kd.R_base ho24) hb); have n3_ := Aside0.mk (Kd.R_lower (Kd.R_new' (Kd.R_new' ho24 (Kd.R_lt (by (with_reducible repeat (first | apply Kd.R_alloc | apply Kd.R_drewN | apply Kd.R_drew)); exact HO_3.out))) (Kd.R_lt (by (with_reducible repeat (first | apply Kd.R_alloc | apply Kd.R_drewN | apply Kd.R_drew)); exact HO_4.out))) (below_size (by repeat (first | (with_reducible first | exact HB.out | apply below_alloc | apply pw_below_drewN | apply below_drew1) | exact HB.out)))); have n4_ := Aside0.mk (below_step (by repeat (first | (with_reducible first | exact HB.out | apply below_alloc | apply pw_below_drewN | apply below_drew1) | exact HB.out)) hb); clear HO_3; clear HO_4; clear HO373; clear HB; have HO_3 := n0_; have HO_4 := n1_; have HO373 := n2_; have HO376 := n3_; have HB := n4_; clear n0_ n1_ n2_ n3_ n4_; clear hb ho24; obtain ⟨Ao25, co25, eo25⟩ := Kd.R_slice HO_4.out; subst eo25) | (go_at_call 81; (with_reducible refine (slices_Clone_int_int.calls _ _ x4_2 t377 _ ?side1 ?side2 A18.out).mono ?_); (case side1 => repeat (first | exact (Kd.R_reads' HO_4.out).2.2 | (with_reducible refine Kd.C_alloc ?_ _) | (with_reducible refine Kd.C_drewN ?_ _) | (with_reducible refine Kd.C_drew ?_))); (case side2 => exact (Kd.R_reads' HO_4.out).2.1); rintro e w26 ⟨v378, rfl, ho0, hb⟩; have n0_ := Aside0.mk (Kd.R_elder' (by (with_reducible repeat (first | apply Kd.R_alloc | apply Kd.R_drewN | apply Kd.R_drew)); exact HO_3.out) (Kd.R_base ho0) hb); have n1_ := Aside0.mk (Kd.R_elder' (by (with_reducible repeat (first | apply Kd.R_alloc | apply Kd.R_drewN | apply Kd.R_drew)); exact HO_4.out) (Kd.R_base ho0) hb); have n2_ := Aside0.mk (Kd.S_elder' (by (with_reducible repeat (first | apply Kd.S_alloc | apply Kd.S_drewN | apply Kd.S_drew)); exact HO373.out) (Kd.R_base ho0) hb); have n3_ := Aside0.mk (Kd.R_elder' (by (with_reducible repeat (first | apply Kd.R_alloc | apply Kd.R_drewN | apply Kd.R_drew)); exact HO376.out) (Kd.R_base ho0) hb); have n4_ := Aside0.mk (Kd.R_lower (Kd.R_new' (Kd.R_new' (Kd.R_new' ho0 (Kd.R_lt (by (with_reducible repeat (first | apply Kd.R_alloc | apply Kd.R_drewN | apply Kd.R_drew)); exact HO_3.out))) (Kd.R_lt (by (with_reducible repeat (first | apply Kd.R_alloc | apply Kd.R_drewN | apply Kd.R_drew)); exact HO_4.out))) (Kd.R_lt (by (with_reducible repeat (first | apply Kd.R_alloc | apply Kd.R_drewN | apply Kd.R_drew)); exact HO376.out))) (below_size (by repeat (first | (with_reducible first | exact HB.out | apply below_alloc | apply pw_below_drewN | apply below_drew1) | exact HB.out)))); have n5_ := Aside0.mk (below_step (by repeat (first | (with_reducible first | exact HB.out | apply below_alloc | apply pw_below_drewN | apply below_drew1) | exact HB.out)) hb); clear HO_3; clear HO_4; clear HO373; clear HO376; clear HB; have HO_3 := n0_; have HO_4 := n1_; have HO373 := n2_; have HO376 := n3_; have HO379 := n4_; have HB := n5_; clear n0_ n1_ n2_ n3_ n4_ n5_; (try clear hb); (try clear hb2); (try clear hk); (try clear hi); (try clear ho0)))
                go_loopg [8, 42] k2 (fun kq v8 v42 w' => ∃ (x8_3 : List Int) (x9_3 : List Int) (x42_3 : Int), v42 = .int .i64 x42_3 ∧ Aside0 (impl_survivors.l2 kq x3_2 x4_2 y371 (x3_2.length : Int) x8_3 x9_3 x3_2 (x3_2.length : Int) x42_3 = some r) ∧ Aside0 (kq ≤ k2) ∧ Aside0 (Kd.R (Kd.int .i64) 3 w' w.heap.size (fun k_ => some k_ ≠ ((.slice Ao25 x4_2.length co25) : Value).ownBlock ∧ some k_ ≠ (v8 : Value).ownBlock ∧ some k_ ≠ (v378 : Value).ownBlock) (.slice Ao19 x3_2.length co19) x3_2) ∧ Aside0 (Kd.R (Kd.int .i64) 3 w' w.heap.size (fun k_ => some k_ ≠ ((.slice Ao19 x3_2.length co19) : Value).ownBlock ∧ some k_ ≠ (v8 : Value).ownBlock ∧ some k_ ≠ (v378 : Value).ownBlock ∧ some k_ ≠ ((.slice Ao19 x3_2.length co19) : Value).ownBlock) (.slice Ao25 x4_2.length co25) x4_2) ∧ Aside0 (Kd.S (Kd.slice 3 (Kd.int .i64)) 25 w' w.heap.size (fun k_ => True ∧ some k_ ≠ ((.slice Ao25 x4_2.length co25) : Value).ownBlock ∧ some k_ ≠ (v8 : Value).ownBlock ∧ some k_ ≠ (v378 : Value).ownBlock ∧ True) v372 y371) ∧ Aside0 (Kd.R (Kd.int .i64) 3 w' w.heap.size (fun k_ => some k_ ≠ ((.slice Ao19 x3_2.length co19) : Value).ownBlock ∧ some k_ ≠ ((.slice Ao25 x4_2.length co25) : Value).ownBlock ∧ some k_ ≠ (v378 : Value).ownBlock ∧ some k_ ≠ ((.slice Ao19 x3_2.length co19) : Value).ownBlock) v8 x8_3) ∧ Aside0 (Kd.R (Kd.int .i64) 3 w' w.heap.size (fun k_ => some k_ ≠ ((.slice Ao19 x3_2.length co19) : Value).ownBlock ∧ some k_ ≠ ((.slice Ao25 x4_2.length co25) : Value).ownBlock ∧ some k_ ≠ (v8 : Value).ownBlock ∧ some k_ ≠ ((.slice Ao19 x3_2.length co19) : Value).ownBlock) v378 x9_3) ∧ Aside0 (Kd.R (Kd.int .i64) 3 w' w.heap.size (fun k_ => some k_ ≠ ((.slice Ao25 x4_2.length co25) : Value).ownBlock ∧ some k_ ≠ (v8 : Value).ownBlock ∧ some k_ ≠ (v378 : Value).ownBlock) (.slice Ao19 x3_2.length co19) x3_2) ∧ Aside0 (Below w.heap.size w w'))
                case atStart => exact ⟨(y374), (t377), (0), (by first | rfl | (simp; done) | (simp [*]; done)), H', ⟨Nat.le_refl _⟩, ⟨by (with_reducible repeat (first | apply Kd.R_alloc | apply Kd.R_drewN | apply Kd.R_drew)); exact Kd.R_mono HO_3.out (fun _ hk => ⟨hk.1.1.1, ⟨hk.1.2, hk.2⟩⟩)⟩, ⟨by (with_reducible repeat (first | apply Kd.R_alloc | apply Kd.R_drewN | apply Kd.R_drew)); exact Kd.R_mono HO_4.out (fun _ hk => ⟨hk.1.1.1, ⟨hk.1.2, ⟨hk.2, hk.1.1.1⟩⟩⟩)⟩, ⟨by (with_reducible repeat (first | apply Kd.S_alloc | apply Kd.S_drewN | apply Kd.S_drew)); exact Kd.S_mono HO373.out (fun _ hk => ⟨hk.1.1.1, ⟨hk.1.1.2, ⟨hk.1.2, ⟨hk.2, hk.1.1.1⟩⟩⟩⟩)⟩, ⟨by (with_reducible repeat (first | apply Kd.R_alloc | apply Kd.R_drewN | apply Kd.R_drew)); exact Kd.R_mono HO376.out (fun _ hk => ⟨hk.1.1.2, ⟨hk.1.2, ⟨hk.2, hk.1.1.2⟩⟩⟩)⟩, ⟨by (with_reducible repeat (first | apply Kd.R_alloc | apply Kd.R_drewN | apply Kd.R_drew)); exact Kd.R_mono HO379.out (fun _ hk => ⟨hk.1.1.2, ⟨hk.1.2, ⟨hk.2, hk.1.1.2⟩⟩⟩)⟩, ⟨by (with_reducible repeat (first | apply Kd.R_alloc | apply Kd.R_drewN | apply Kd.R_drew)); exact Kd.R_mono HO_3.out (fun _ hk => ⟨hk.1.1.1, ⟨hk.1.2, hk.2⟩⟩)⟩, ⟨by repeat (first | (with_reducible first | exact HB.out | apply below_alloc | apply pw_below_drewN | apply below_drew1) | exact HB.out)⟩⟩
                case round =>
                  clear H'
                  try clear c1
                  try clear p2
                  try clear c6
                  try clear p6
                  try clear c8
                  try clear c8b0
                  try clear c9
                  try clear c12
                  try clear c13
                  try clear c13b0
                  try clear c13b1
                  try clear p2
                  try clear p6
                  obtain ⟨x8_3, x9_3, x42_3, rfl, HA, HK3, HO_3, HO_4, HO_5, HO_8, HO_9, HO_40, HB⟩ := hrel
                  cases gk with
                  | zero => exact absurd HA.out (by simp [impl_survivors.l2])
                  | succ k3 =>
                    have H := HA.out
                    clear HA
                    simp only [impl_survivors.l2] at H
                    by_cases c27 : x42_3 < (x3_2.length : Int)
                    · rw [if_pos c27] at H
                      have c27b0 : decide (x42_3 < (x3_2.length : Int)) = true := decide_eq_true c27
                      clear c27
                      by_cases c28 : 0 ≤ x42_3
                      · rw [if_pos c28] at H
                        have c28b0 : decide (0 ≤ x42_3) = true := decide_eq_true c28
                        clear c28
                        by_cases c29 : x42_3 < (x3_2.length : Int)
                        · rw [if_pos c29] at H
                          have c29b0 : decide (x42_3 < (x3_2.length : Int)) = true := decide_eq_true c29
                          clear c29
                          by_cases c30 : (x3_2.length : Int) = 0
                          · rw [if_pos c30] at H
                            exact absurd H (by simp)
                          · rw [if_neg c30] at H
                            have c30b0 : ((x3_2.length : Int) == 0) = false := beq_eq_false_iff_ne.mpr c30
                            have c30b1 : ((x3_2.length : Int) != 0) = true := bne_iff_ne.mpr c30
                            have c30b2 : ¬ (x3_2 = []) := fun h_ => c30 (by rw [h_]; rfl)
                            obtain ⟨ji31, hji31⟩ : ∃ j_ : Int, (Int.tmod (wrap64 ((wrap64 (x42_3 + (x3_2.length : Int))) - 1)) (x3_2.length : Int)) = j_ := ⟨_, rfl⟩
                            replace H : (if 0 ≤ (ji31) then (if (ji31) < (x3_2.length : Int) then (if 0 ≤ (rd x3_2 (ji31)) then (if (rd x3_2 (ji31)) < (x4_2.length : Int) then (if 0 ≤ (Int.tmod (wrap64 ((wrap64 (x42_3 + (wrap64 (2 * (x3_2.length : Int))))) - 2)) (x3_2.length : Int)) then (if (Int.tmod (wrap64 ((wrap64 (x42_3 + (wrap64 (2 * (x3_2.length : Int))))) - 2)) (x3_2.length : Int)) < (x3_2.length : Int) then (if 0 ≤ (rd x3_2 (Int.tmod (wrap64 ((wrap64 (x42_3 + (wrap64 (2 * (x3_2.length : Int))))) - 2)) (x3_2.length : Int))) then (if (rd x3_2 (Int.tmod (wrap64 ((wrap64 (x42_3 + (wrap64 (2 * (x3_2.length : Int))))) - 2)) (x3_2.length : Int))) < (x4_2.length : Int) then (if (rd x4_2 (rd x3_2 (ji31))) > (rd x4_2 (rd x3_2 (Int.tmod (wrap64 ((wrap64 (x42_3 + (wrap64 (2 * (x3_2.length : Int))))) - 2)) (x3_2.length : Int)))) then (if 0 ≤ (rd x3_2 x42_3) then (if (rd x3_2 x42_3) < (x4_2.length : Int) then (if (rd x4_2 (rd x3_2 (ji31))) > (rd x4_2 (rd x3_2 x42_3)) then (if x8_3.length < 17592186044416 then (if (rd x3_2 x42_3) < (x9_3.length : Int) then (impl_survivors.l2 k3 x3_2 x4_2 y371 (x3_2.length : Int) (x8_3 ++ [rd x3_2 x42_3]) (x9_3.set ((rd x3_2 x42_3) : Int).toNat (rd x4_2 (rd x3_2 (ji31)))) x3_2 (x3_2.length : Int) (wrap64 (x42_3 + 1))) else (none)) else (none)) else (impl_survivors.l2 k3 x3_2 x4_2 y371 (x3_2.length : Int) x8_3 x9_3 x3_2 (x3_2.length : Int) (wrap64 (x42_3 + 1)))) else (none)) else (none)) else (impl_survivors.l2 k3 x3_2 x4_2 y371 (x3_2.length : Int) x8_3 x9_3 x3_2 (x3_2.length : Int) (wrap64 (x42_3 + 1)))) else (none)) else (none)) else (none)) else (none)) else (none)) else (none)) else (none)) else (none)) = some r := by first | (rw [hji31] at H; exact H) | (simp only [hji31] at H ⊢; exact H)
                            by_cases c32 : 0 ≤ (ji31)
                            · rw [if_pos c32] at H
                              have c32b0 : decide (0 ≤ (ji31)) = true := decide_eq_true c32
                              clear c32
                              by_cases c33 : (ji31) < (x3_2.length : Int)
                              · rw [if_pos c33] at H
                                have c33b0 : decide ((ji31) < (x3_2.length : Int)) = true := decide_eq_true c33
                                clear c33
                                by_cases c34 : 0 ≤ (rd x3_2 (ji31))
                                · rw [if_pos c34] at H
                                  have c34b0 : decide (0 ≤ (rd x3_2 (ji31))) = true := decide_eq_true c34
                                  clear c34
                                  by_cases c35 : (rd x3_2 (ji31)) < (x4_2.length : Int)
                                  · rw [if_pos c35] at H
                                    have c35b0 : decide ((rd x3_2 (ji31)) < (x4_2.length : Int)) = true := decide_eq_true c35
                                    clear c35
                                    obtain ⟨ji36, hji36⟩ : ∃ j_ : Int, (Int.tmod (wrap64 ((wrap64 (x42_3 + (wrap64 (2 * (x3_2.length : Int))))) - 2)) (x3_2.length : Int)) = j_ := ⟨_, rfl⟩
                                    replace H : (if 0 ≤ (ji36) then (if (ji36) < (x3_2.length : Int) then (if 0 ≤ (rd x3_2 (ji36)) then (if (rd x3_2 (ji36)) < (x4_2.length : Int) then (if (rd x4_2 (rd x3_2 (ji31))) > (rd x4_2 (rd x3_2 (ji36))) then (if 0 ≤ (rd x3_2 x42_3) then (if (rd x3_2 x42_3) < (x4_2.length : Int) then (if (rd x4_2 (rd x3_2 (ji31))) > (rd x4_2 (rd x3_2 x42_3)) then (if x8_3.length < 17592186044416 then (if (rd x3_2 x42_3) < (x9_3.length : Int) then (impl_survivors.l2 k3 x3_2 x4_2 y371 (x3_2.length : Int) (x8_3 ++ [rd x3_2 x42_3]) (x9_3.set ((rd x3_2 x42_3) : Int).toNat (rd x4_2 (rd x3_2 (ji31)))) x3_2 (x3_2.length : Int) (wrap64 (x42_3 + 1))) else (none)) else (none)) else (impl_survivors.l2 k3 x3_2 x4_2 y371 (x3_2.length : Int) x8_3 x9_3 x3_2 (x3_2.length : Int) (wrap64 (x42_3 + 1)))) else (none)) else (none)) else (impl_survivors.l2 k3 x3_2 x4_2 y371 (x3_2.length : Int) x8_3 x9_3 x3_2 (x3_2.length : Int) (wrap64 (x42_3 + 1)))) else (none)) else (none)) else (none)) else (none)) = some r := by first | (rw [hji36] at H; exact H) | (simp only [hji36] at H ⊢; exact H)
                                    by_cases c37 : 0 ≤ (ji36)
                                    · rw [if_pos c37] at H
                                      have c37b0 : decide (0 ≤ (ji36)) = true := decide_eq_true c37
                                      clear c37
                                      by_cases c38 : (ji36) < (x3_2.length : Int)
                                      · rw [if_pos c38] at H
                                        have c38b0 : decide ((ji36) < (x3_2.length : Int)) = true := decide_eq_true c38
                                        clear c38
                                        by_cases c39 : 0 ≤ (rd x3_2 (ji36))
                                        · rw [if_pos c39] at H
                                          have c39b0 : decide (0 ≤ (rd x3_2 (ji36))) = true := decide_eq_true c39
                                          clear c39
                                          by_cases c40 : (rd x3_2 (ji36)) < (x4_2.length : Int)
                                          · rw [if_pos c40] at H
                                            have c40b0 : decide ((rd x3_2 (ji36)) < (x4_2.length : Int)) = true := decide_eq_true c40
                                            clear c40
                                            by_cases c41 : (rd x4_2 (rd x3_2 (ji31))) > (rd x4_2 (rd x3_2 (ji36)))
                                            · rw [if_pos c41] at H
                                              have c41b0 : decide ((rd x4_2 (rd x3_2 (ji36))) < (rd x4_2 (rd x3_2 (ji31)))) = true := decide_eq_true c41
                                              clear c41
                                              by_cases c42 : 0 ≤ (rd x3_2 x42_3)
                                              · rw [if_pos c42] at H
                                                have c42b0 : decide (0 ≤ (rd x3_2 x42_3)) = true := decide_eq_true c42
                                                clear c42
                                                by_cases c43 : (rd x3_2 x42_3) < (x4_2.length : Int)
                                                · rw [if_pos c43] at H
                                                  have c43b0 : decide ((rd x3_2 x42_3) < (x4_2.length : Int)) = true := decide_eq_true c43
                                                  clear c43
                                                  by_cases c44 : (rd x4_2 (rd x3_2 (ji31))) > (rd x4_2 (rd x3_2 x42_3))
                                                  · rw [if_pos c44] at H
                                                    have c44b0 : decide ((rd x4_2 (rd x3_2 x42_3)) < (rd x4_2 (rd x3_2 (ji31)))) = true := decide_eq_true c44
                                                    clear c44
                                                    by_cases c45 : x8_3.length < 17592186044416
                                                    · rw [if_pos c45] at H
                                                      have LMc45 := Aside0.mk c45
                                                      clear c45
                                                      obtain ⟨y386, hy386⟩ : ∃ y_ : List Int, y_ = (x8_3 ++ [rd x3_2 x42_3]) := ⟨_, rfl⟩
                                                      replace H : (if (rd x3_2 x42_3) < (x9_3.length : Int) then (impl_survivors.l2 k3 x3_2 x4_2 y371 (x3_2.length : Int) y386 (x9_3.set ((rd x3_2 x42_3) : Int).toNat (rd x4_2 (rd x3_2 (ji31)))) x3_2 (x3_2.length : Int) (wrap64 (x42_3 + 1))) else (none)) = some r := by first | (rw [hy386]; with_reducible exact H) | (have H2_ := (Option.bind_some _ _).symm.trans H; rw [hy386]; with_reducible exact H2_) | (have H2_ := (Option.bind_some _ _).symm.trans H; with_reducible exact H2_) | with_reducible exact H | (rw [hy386]; exact H) | exact H
                                                      have Ny386 := Aside0.mk hy386
                                                      clear hy386
                                                      by_cases c46 : (rd x3_2 x42_3) < (x9_3.length : Int)
                                                      · rw [if_pos c46] at H
                                                        have c46b0 : decide ((rd x3_2 x42_3) < (x9_3.length : Int)) = true := decide_eq_true c46
                                                        clear c46
                                                        obtain ⟨y389, hy389⟩ : ∃ y_ : List Int, y_ = (x9_3.set ((rd x3_2 x42_3) : Int).toNat (rd x4_2 (rd x3_2 (ji31)))) := ⟨_, rfl⟩
                                                        replace H : (impl_survivors.l2 k3 x3_2 x4_2 y371 (x3_2.length : Int) y386 y389 x3_2 (x3_2.length : Int) (wrap64 (x42_3 + 1))) = some r := by first | (rw [hy389]; with_reducible exact H) | (have H2_ := (Option.bind_some _ _).symm.trans H; rw [hy389]; with_reducible exact H2_) | (have H2_ := (Option.bind_some _ _).symm.trans H; with_reducible exact H2_) | with_reducible exact H | (rw [hy389]; exact H) | exact H
                                                        have Ny389 := Aside0.mk hy389
                                                        clear hy389
                                                        have H' := Aside0.mk H
                                                        clear H
                                                        have p380 : 0 ≤ (x42_3 : Int) := of_decide_eq_true (by first | (with_reducible assumption) | assumption)
                                                        have q380 : x42_3 < (x3_2.length : Int) := of_decide_eq_true (by first | (with_reducible assumption) | assumption)
                                                        obtain ⟨ad380, e380, hx380_0⟩ := Kd.at_int (Kd.R_reads' HO_40.out).2.2 x42_3 p380 q380
                                                        cases e380
                                                        replace p380 := eq_true p380
                                                        replace q380 := eq_true q380
                                                        have p381 : 0 ≤ ((ji31) : Int) := of_decide_eq_true (by first | (with_reducible assumption) | assumption)
                                                        have q381 : (ji31) < (x3_2.length : Int) := of_decide_eq_true (by first | (with_reducible assumption) | assumption)
                                                        obtain ⟨ad381, e381, hx381_0⟩ := Kd.at_int (Kd.R_reads' HO_3.out).2.2 (ji31) p381 q381
                                                        obtain rfl : ad380 = ad381 := (by injection e381)
                                                        replace p381 := eq_true p381
                                                        replace q381 := eq_true q381
                                                        have p382 : 0 ≤ ((rd x3_2 (ji31)) : Int) := of_decide_eq_true (by first | (with_reducible assumption) | assumption)
                                                        have q382 : (rd x3_2 (ji31)) < (x4_2.length : Int) := of_decide_eq_true (by first | (with_reducible assumption) | assumption)
                                                        obtain ⟨ad382, e382, hx382_0⟩ := Kd.at_int (Kd.R_reads' HO_4.out).2.2 (rd x3_2 (ji31)) p382 q382
                                                        cases e382
                                                        replace p382 := eq_true p382
                                                        replace q382 := eq_true q382
                                                        have p383 : 0 ≤ ((ji36) : Int) := of_decide_eq_true (by first | (with_reducible assumption) | assumption)
                                                        have q383 : (ji36) < (x3_2.length : Int) := of_decide_eq_true (by first | (with_reducible assumption) | assumption)
                                                        obtain ⟨ad383, e383, hx383_0⟩ := Kd.at_int (Kd.R_reads' HO_3.out).2.2 (ji36) p383 q383
                                                        obtain rfl : ad380 = ad383 := (by injection e383)
                                                        replace p383 := eq_true p383
                                                        replace q383 := eq_true q383
                                                        have p384 : 0 ≤ ((rd x3_2 (ji36)) : Int) := of_decide_eq_true (by first | (with_reducible assumption) | assumption)
                                                        have q384 : (rd x3_2 (ji36)) < (x4_2.length : Int) := of_decide_eq_true (by first | (with_reducible assumption) | assumption)
                                                        obtain ⟨ad384, e384, hx384_0⟩ := Kd.at_int (Kd.R_reads' HO_4.out).2.2 (rd x3_2 (ji36)) p384 q384
                                                        obtain rfl : ad382 = ad384 := (by injection e384)
                                                        replace p384 := eq_true p384
                                                        replace q384 := eq_true q384
                                                        have p385 : 0 ≤ ((rd x3_2 x42_3) : Int) := of_decide_eq_true (by first | (with_reducible assumption) | assumption)
                                                        have q385 : (rd x3_2 x42_3) < (x4_2.length : Int) := of_decide_eq_true (by first | (with_reducible assumption) | assumption)
                                                        obtain ⟨ad385, e385, hx385_0⟩ := Kd.at_int (Kd.R_reads' HO_4.out).2.2 (rd x3_2 x42_3) p385 q385
                                                        obtain rfl : ad382 = ad385 := (by injection e385)
                                                        replace p385 := eq_true p385
                                                        replace q385 := eq_true q385
                                                        go_wp2_with (first | ((with_reducible refine gate_builtin (b := .append) (xs := #[.tmp 83, .tmp 85]) rfl ?_); at_builtin; refine Kd.R_append (Kd.int .i64) (w0 := w) w.heap.size rfl (.tmp 83) (.tmp 85) 25 3 (.int .i64 0) 8 rfl Try.underlying25 info3 rfl (by decide) (by omega) u8 x8_3 (rd x3_2 x42_3) [.int .i64 (rd x3_2 x42_3)] (fun k_ => some k_ ≠ (.slice (some ad380) x3_2.length co19 : Value).ownBlock ∧ some k_ ≠ (.slice (some ad382) x4_2.length co25 : Value).ownBlock ∧ some k_ ≠ (v378 : Value).ownBlock ∧ some k_ ≠ (.slice (some ad380) x3_2.length co19 : Value).ownBlock) (fun _ => False) rfl rfl ?aP (fun _ hk => hk.elim) ?aF ?aO ?aB ?aS ?aL ?_; (case aP => exact rfl); (case aB => exact (by repeat (first | (with_reducible first | exact HB.out | apply below_alloc | apply pw_below_drewN | apply below_drew1) | exact HB.out))); (case aF => exact (fun k_ hk => ⟨Kd.fresh' (Kd.R_lt (by (with_reducible repeat (first | apply Kd.R_alloc | apply Kd.R_drewN | apply Kd.R_drew)); exact HO_3.out)) k_ hk, Kd.fresh' (Kd.R_lt (by (with_reducible repeat (first | apply Kd.R_alloc | apply Kd.R_drewN | apply Kd.R_drew)); exact HO_4.out)) k_ hk, Kd.fresh' (Kd.R_lt (by (with_reducible repeat (first | apply Kd.R_alloc | apply Kd.R_drewN | apply Kd.R_drew)); exact HO_9.out)) k_ hk, Kd.fresh' (Kd.R_lt (by (with_reducible repeat (first | apply Kd.R_alloc | apply Kd.R_drewN | apply Kd.R_drew)); exact HO_40.out)) k_ hk⟩)); (case aO => exact (by (with_reducible repeat (first | apply Kd.R_alloc | apply Kd.R_drewN | apply Kd.R_drew)); exact HO_8.out)); (case aS => exact (below_size (by repeat (first | (with_reducible first | exact HB.out | apply below_alloc | apply pw_below_drewN | apply below_drew1) | exact HB.out)))); (case aL => have := LMc45.out; omega); intro v387 w48 ho hb hg hat; rw [← Ny386.out] at ho; have n0_ := Aside0.mk (Kd.R_after (ok := (fun k_ => some k_ ≠ (.slice (some ad382) x4_2.length co25 : Value).ownBlock ∧ some k_ ≠ (v378 : Value).ownBlock)) (by (with_reducible repeat (first | apply Kd.R_alloc | apply Kd.R_drewN | apply Kd.R_drew)); exact Kd.R_mono HO_3.out (fun _ hk => ⟨⟨hk.1, hk.2.2⟩, hk.2.1⟩)) hg hat); have n1_ := Aside0.mk (Kd.R_after (ok := (fun k_ => some k_ ≠ (.slice (some ad380) x3_2.length co19 : Value).ownBlock ∧ some k_ ≠ (v378 : Value).ownBlock ∧ some k_ ≠ (.slice (some ad380) x3_2.length co19 : Value).ownBlock)) (by (with_reducible repeat (first | apply Kd.R_alloc | apply Kd.R_drewN | apply Kd.R_drew)); exact Kd.R_mono HO_4.out (fun _ hk => ⟨⟨hk.1, ⟨hk.2.2.1, hk.2.2.2⟩⟩, hk.2.1⟩)) hg hat); have n2_ := Aside0.mk (Kd.S_after (ok := (fun k_ => True ∧ some k_ ≠ (.slice (some ad382) x4_2.length co25 : Value).ownBlock ∧ some k_ ≠ (v378 : Value).ownBlock ∧ True)) (by (with_reducible repeat (first | apply Kd.S_alloc | apply Kd.S_drewN | apply Kd.S_drew)); exact Kd.S_mono HO_5.out (fun _ hk => ⟨⟨hk.1, ⟨hk.2.1, ⟨hk.2.2.2.1, hk.2.2.2.2⟩⟩⟩, hk.2.2.1⟩)) hg hat); have n3_ := Aside0.mk (Kd.R_after (ok := (fun k_ => some k_ ≠ (.slice (some ad380) x3_2.length co19 : Value).ownBlock ∧ some k_ ≠ (.slice (some ad382) x4_2.length co25 : Value).ownBlock ∧ some k_ ≠ (.slice (some ad380) x3_2.length co19 : Value).ownBlock)) (by (with_reducible repeat (first | apply Kd.R_alloc | apply Kd.R_drewN | apply Kd.R_drew)); exact Kd.R_mono HO_9.out (fun _ hk => ⟨⟨hk.1, ⟨hk.2.1, hk.2.2.2⟩⟩, hk.2.2.1⟩)) hg hat); have n4_ := Aside0.mk (Kd.R_after (ok := (fun k_ => some k_ ≠ (.slice (some ad382) x4_2.length co25 : Value).ownBlock ∧ some k_ ≠ (v378 : Value).ownBlock)) (by (with_reducible repeat (first | apply Kd.R_alloc | apply Kd.R_drewN | apply Kd.R_drew)); exact Kd.R_mono HO_40.out (fun _ hk => ⟨⟨hk.1, hk.2.2⟩, hk.2.1⟩)) hg hat); have n5_ := Aside0.mk (hb); have n6_ := Aside0.mk (ho); clear HO_3; clear HO_4; clear HO_5; clear HO_9; clear HO_40; clear HB; clear HO_8; have HO_3 := n0_; have HO_4 := n1_; have HO_5 := n2_; have HO_9 := n3_; have HO_40 := n4_; have HB := n5_; have HO388 := n6_; clear n0_ n1_ n2_ n3_ n4_ n5_ n6_; clear ho hb hg hat; have p47 : 0 ≤ ((rd x3_2 x42_3) : Int) := of_decide_eq_true (by first | (with_reducible assumption) | assumption); have q47 : ((rd x3_2 x42_3) : Int) < ((x9_3.length : Int) : Int) := of_decide_eq_true (by first | (with_reducible assumption) | assumption); obtain ⟨go47, co47, eo47, gb47, gl47, cl47, HG47⟩ := Kd.R_form HO_9.out (by omega); (first | cases eo47 | (injection eo47 with ea_ en_ ec_; (first | subst ea_ | (injection ea_ with ea_; subst ea_)); subst ec_; clear en_)); have GB47 := Aside0.mk gb47; have GG47 := Aside0.mk HG47; clear gb47 gl47 HG47; obtain ⟨hx47_0, hf47_0⟩ := Kd.R_celln 0 HO_9.out ((rd x3_2 x42_3) : Int) p47 q47; replace p47 := eq_true p47; replace q47 := eq_true q47; have n_ := Aside0.mk (Kd.R_mono (ok' := (fun k_ => some k_ ≠ (.slice (some ad380) x3_2.length co19 : Value).ownBlock ∧ some k_ ≠ (.slice (some ad382) x4_2.length co25 : Value).ownBlock ∧ some k_ ≠ (.slice (some ad380) x3_2.length co19 : Value).ownBlock ∧ some k_ ≠ (v387 : Value).ownBlock)) HO_9.out (fun k_ hk => ⟨hk.1.1, ⟨hk.1.2.1, ⟨hk.1.2.2, hk.2⟩⟩⟩)); clear HO_9; have HO_9 := n_; clear n_; obtain ⟨hy49_, hz49_⟩ := Kd.R_celln 0 HO_9.out ((rd x3_2 x42_3) : Int) (of_decide_eq_true (by first | (with_reducible assumption) | assumption)) (of_decide_eq_true (by first | (with_reducible assumption) | assumption)); have HP49 := Kd.R_putg HO_9.out ((rd x3_2 x42_3) : Int) (rd x4_2 (rd x3_2 (ji31)))) | ((with_reducible refine gate_store (t := 3) (p := 90) rfl ?_); (try (rw [drewN_self w48]; generalize hq_ : World.drewN w48 _ = w48; have n0_ := Aside0.mk (Kd.R_at hq_ HO_3.out); have n1_ := Aside0.mk (Kd.R_at hq_ HO_4.out); have n2_ := Aside0.mk (Kd.S_at hq_ HO_5.out); have n3_ := Aside0.mk (Kd.R_at hq_ HO_9.out); have n4_ := Aside0.mk (Kd.R_at hq_ HO_40.out); have n5_ := Aside0.mk (Kd.R_at hq_ HO388.out); have n6_ := Aside0.mk (below_at hq_ HB.out); clear hq_ HO_3 HO_4 HO_5 HO_9 HO_40 HO388 HB; have HO_3 := n0_; have HO_4 := n1_; have HO_5 := n2_; have HO_9 := n3_; have HO_40 := n4_; have HO388 := n5_; have HB := n6_; clear n0_ n1_ n2_ n3_ n4_ n5_ n6_; (try (have n_ := Aside0.mk (Kd.R_mono (ok' := (fun k_ => some k_ ≠ (.slice (some ad380) x3_2.length co19 : Value).ownBlock ∧ some k_ ≠ (.slice (some ad382) x4_2.length co25 : Value).ownBlock ∧ some k_ ≠ (.slice (some ad380) x3_2.length co19 : Value).ownBlock ∧ some k_ ≠ (v387 : Value).ownBlock)) HO_9.out (fun k_ hk => ⟨hk.1.1, ⟨hk.1.2.1, ⟨hk.1.2.2, hk.2⟩⟩⟩)); clear HO_9; have HO_9 := n_; clear n_)); (try (obtain ⟨hy49_, hz49_⟩ := Kd.R_celln 0 HO_9.out ((rd x3_2 x42_3) : Int) (of_decide_eq_true (by first | (with_reducible assumption) | assumption)) (of_decide_eq_true (by first | (with_reducible assumption) | assumption)))); (try (have HP49 := Kd.R_putg HO_9.out ((rd x3_2 x42_3) : Int) (rd x4_2 (rd x3_2 (ji31))))))); refine store_event (t := 3) (p := 90) (v := ?vo_w50) (w1 := (w48.setCell ⟨go47, ((rd x3_2 x42_3) : Int).toNat, none⟩ (.int .i64 (rd x4_2 (rd x3_2 (ji31)))))) ?hg ?ho ?hn ?hr ?_; (case ho => rfl); (case hg => rfl); (case hn => rfl); (case hr => first | (go_simp; done) | (go_simp; rfl)); intro w50 hw; have hg : w48.grownBy w50 (some go47) := (by rw [hw]; exact HP49.2); have hp_ : Kd.R (Kd.int .i64) 3 w50 w.heap.size (fun k_ => some k_ ≠ (.slice (some ad380) x3_2.length co19 : Value).ownBlock ∧ some k_ ≠ (.slice (some ad382) x4_2.length co25 : Value).ownBlock ∧ some k_ ≠ (.slice (some ad380) x3_2.length co19 : Value).ownBlock ∧ some k_ ≠ (v387 : Value).ownBlock) (.slice (some ⟨go47, 0, none⟩) x9_3.length co47) y389 := (by rw [hw, Ny389.out]; exact HP49.1); clear HP49; have n0_ := Aside0.mk (Kd.R_after (v := (.slice (some ⟨go47, 0, none⟩) x9_3.length co47)) (v1 := (.slice (some ⟨go47, 0, none⟩) x9_3.length co47)) (ok := (fun k_ => some k_ ≠ (.slice (some ad382) x4_2.length co25 : Value).ownBlock ∧ some k_ ≠ (v387 : Value).ownBlock)) (by (with_reducible repeat (first | apply Kd.R_alloc | apply Kd.R_drewN | apply Kd.R_drew)); exact Kd.R_mono HO_3.out (fun _ hk => ⟨⟨hk.1.1, hk.2⟩, hk.1.2⟩)) hg (.inl rfl)); have n1_ := Aside0.mk (Kd.R_after (v := (.slice (some ⟨go47, 0, none⟩) x9_3.length co47)) (v1 := (.slice (some ⟨go47, 0, none⟩) x9_3.length co47)) (ok := (fun k_ => some k_ ≠ (.slice (some ad380) x3_2.length co19 : Value).ownBlock ∧ some k_ ≠ (.slice (some ad380) x3_2.length co19 : Value).ownBlock ∧ some k_ ≠ (v387 : Value).ownBlock)) (by (with_reducible repeat (first | apply Kd.R_alloc | apply Kd.R_drewN | apply Kd.R_drew)); exact Kd.R_mono HO_4.out (fun _ hk => ⟨⟨hk.1.1, ⟨hk.1.2.2, hk.2⟩⟩, hk.1.2.1⟩)) hg (.inl rfl)); have n2_ := Aside0.mk (Kd.S_after (v := (.slice (some ⟨go47, 0, none⟩) x9_3.length co47)) (v1 := (.slice (some ⟨go47, 0, none⟩) x9_3.length co47)) (ok := (fun k_ => True ∧ some k_ ≠ (.slice (some ad382) x4_2.length co25 : Value).ownBlock ∧ True ∧ some k_ ≠ (v387 : Value).ownBlock)) (by (with_reducible repeat (first | apply Kd.S_alloc | apply Kd.S_drewN | apply Kd.S_drew)); exact Kd.S_mono HO_5.out (fun _ hk => ⟨⟨hk.1.1, ⟨hk.1.2.1, ⟨hk.1.2.2.2, hk.2⟩⟩⟩, hk.1.2.2.1⟩)) hg (.inl rfl)); have n3_ := Aside0.mk (hp_); have n4_ := Aside0.mk (Kd.R_after (v := (.slice (some ⟨go47, 0, none⟩) x9_3.length co47)) (v1 := (.slice (some ⟨go47, 0, none⟩) x9_3.length co47)) (ok := (fun k_ => some k_ ≠ (.slice (some ad382) x4_2.length co25 : Value).ownBlock ∧ some k_ ≠ (v387 : Value).ownBlock)) (by (with_reducible repeat (first | apply Kd.R_alloc | apply Kd.R_drewN | apply Kd.R_drew)); exact Kd.R_mono HO_40.out (fun _ hk => ⟨⟨hk.1.1, hk.2⟩, hk.1.2⟩)) hg (.inl rfl)); have n5_ := Aside0.mk (Kd.R_after (v := (.slice (some ⟨go47, 0, none⟩) x9_3.length co47)) (v1 := (.slice (some ⟨go47, 0, none⟩) x9_3.length co47)) (ok := (fun k_ => some k_ ≠ (.slice (some ad380) x3_2.length co19 : Value).ownBlock ∧ some k_ ≠ (.slice (some ad382) x4_2.length co25 : Value).ownBlock ∧ some k_ ≠ (.slice (some ad380) x3_2.length co19 : Value).ownBlock)) (by (with_reducible repeat (first | apply Kd.R_alloc | apply Kd.R_drewN | apply Kd.R_drew)); exact Kd.R_mono HO388.out (fun _ hk => ⟨⟨hk.1, ⟨hk.2.1, hk.2.2.2⟩⟩, hk.2.2.1⟩)) hg (.inl rfl)); have n6_ := Aside0.mk ((by rw [hw]; exact below_set (HB.out) GB47.out : Below w.heap.size w w50)); clear HO_3; clear HO_4; clear HO_5; clear HO_9; clear HO_40; clear HO388; clear HB; have HO_3 := n0_; have HO_4 := n1_; have HO_5 := n2_; have HO_9 := n3_; have HO_40 := n4_; have HO388 := n5_; have HB := n6_; clear n0_ n1_ n2_ n3_ n4_ n5_ n6_; clear hg hw hp_))
                                                        repeat (go_quiet (first | ((with_reducible refine gate_builtin (b := .append) (xs := #[.tmp 83, .tmp 85]) rfl ?_); at_builtin; refine Kd.R_append (Kd.int .i64) (w0 := w) w.heap.size rfl (.tmp 83) (.tmp 85) 25 3 (.int .i64 0) 8 rfl Try.underlying25 info3 rfl (by decide) (by omega) u8 x8_3 (rd x3_2 x42_3) [.int .i64 (rd x3_2 x42_3)] (fun k_ => some k_ ≠ (.slice (some ad380) x3_2.length co19 : Value).ownBlock ∧ some k_ ≠ (.slice (some ad382) x4_2.length co25 : Value).ownBlock ∧ some k_ ≠ (v378 : Value).ownBlock ∧ some k_ ≠ (.slice (some ad380) x3_2.length co19 : Value).ownBlock) (fun _ => False) rfl rfl ?aP (fun _ hk => hk.elim) ?aF ?aO ?aB ?aS ?aL ?_; (case aP => exact rfl); (case aB => exact (by repeat (first | (with_reducible first | exact HB.out | apply below_alloc | apply pw_below_drewN | apply below_drew1) | exact HB.out))); (case aF => exact (fun k_ hk => ⟨Kd.fresh' (Kd.R_lt (by (with_reducible repeat (first | apply Kd.R_alloc | apply Kd.R_drewN | apply Kd.R_drew)); exact HO_3.out)) k_ hk, Kd.fresh' (Kd.R_lt (by (with_reducible repeat (first | apply Kd.R_alloc | apply Kd.R_drewN | apply Kd.R_drew)); exact HO_4.out)) k_ hk, Kd.fresh' (Kd.R_lt (by (with_reducible repeat (first | apply Kd.R_alloc | apply Kd.R_drewN | apply Kd.R_drew)); exact HO_9.out)) k_ hk, Kd.fresh' (Kd.R_lt (by (with_reducible repeat (first | apply Kd.R_alloc | apply Kd.R_drewN | apply Kd.R_drew)); exact HO_40.out)) k_ hk⟩)); (case aO => exact (by (with_reducible repeat (first | apply Kd.R_alloc | apply Kd.R_drewN | apply Kd.R_drew)); exact HO_8.out)); (case aS => exact (below_size (by repeat (first | (with_reducible first | exact HB.out | apply below_alloc | apply pw_below_drewN | apply below_drew1) | exact HB.out)))); (case aL => have := LMc45.out; omega); intro v387 w48 ho hb hg hat; rw [← Ny386.out] at ho; have n0_ := Aside0.mk (Kd.R_after (ok := (fun k_ => some k_ ≠ (.slice (some ad382) x4_2.length co25 : Value).ownBlock ∧ some k_ ≠ (v378 : Value).ownBlock)) (by (with_reducible repeat (first | apply Kd.R_alloc | apply Kd.R_drewN | apply Kd.R_drew)); exact Kd.R_mono HO_3.out (fun _ hk => ⟨⟨hk.1, hk.2.2⟩, hk.2.1⟩)) hg hat); have n1_ := Aside0.mk (Kd.R_after (ok := (fun k_ => some k_ ≠ (.slice (some ad380) x3_2.length co19 : Value).ownBlock ∧ some k_ ≠ (v378 : Value).ownBlock ∧ some k_ ≠ (.slice (some ad380) x3_2.length co19 : Value).ownBlock)) (by (with_reducible repeat (first | apply Kd.R_alloc | apply Kd.R_drewN | apply Kd.R_drew)); exact Kd.R_mono HO_4.out (fun _ hk => ⟨⟨hk.1, ⟨hk.2.2.1, hk.2.2.2⟩⟩, hk.2.1⟩)) hg hat); have n2_ := Aside0.mk (Kd.S_after (ok := (fun k_ => True ∧ some k_ ≠ (.slice (some ad382) x4_2.length co25 : Value).ownBlock ∧ some k_ ≠ (v378 : Value).ownBlock ∧ True)) (by (with_reducible repeat (first | apply Kd.S_alloc | apply Kd.S_drewN | apply Kd.S_drew)); exact Kd.S_mono HO_5.out (fun _ hk => ⟨⟨hk.1, ⟨hk.2.1, ⟨hk.2.2.2.1, hk.2.2.2.2⟩⟩⟩, hk.2.2.1⟩)) hg hat); have n3_ := Aside0.mk (Kd.R_after (ok := (fun k_ => some k_ ≠ (.slice (some ad380) x3_2.length co19 : Value).ownBlock ∧ some k_ ≠ (.slice (some ad382) x4_2.length co25 : Value).ownBlock ∧ some k_ ≠ (.slice (some ad380) x3_2.length co19 : Value).ownBlock)) (by (with_reducible repeat (first | apply Kd.R_alloc | apply Kd.R_drewN | apply Kd.R_drew)); exact Kd.R_mono HO_9.out (fun _ hk => ⟨⟨hk.1, ⟨hk.2.1, hk.2.2.2⟩⟩, hk.2.2.1⟩)) hg hat); have n4_ := Aside0.mk (Kd.R_after (ok := (fun k_ => some k_ ≠ (.slice (some ad382) x4_2.length co25 : Value).ownBlock ∧ some k_ ≠ (v378 : Value).ownBlock)) (by (with_reducible repeat (first | apply Kd.R_alloc | apply Kd.R_drewN | apply Kd.R_drew)); exact Kd.R_mono HO_40.out (fun _ hk => ⟨⟨hk.1, hk.2.2⟩, hk.2.1⟩)) hg hat); have n5_ := Aside0.mk (hb); have n6_ := Aside0.mk (ho); clear HO_3; clear HO_4; clear HO_5; clear HO_9; clear HO_40; clear HB; clear HO_8; have HO_3 := n0_; have HO_4 := n1_; have HO_5 := n2_; have HO_9 := n3_; have HO_40 := n4_; have HB := n5_; have HO388 := n6_; clear n0_ n1_ n2_ n3_ n4_ n5_ n6_; clear ho hb hg hat; have p47 : 0 ≤ ((rd x3_2 x42_3) : Int) := of_decide_eq_true (by first | (with_reducible assumption) | assumption); have q47 : ((rd x3_2 x42_3) : Int) < ((x9_3.length : Int) : Int) := of_decide_eq_true (by first | (with_reducible assumption) | assumption); obtain ⟨go47, co47, eo47, gb47, gl47, cl47, HG47⟩ := Kd.R_form HO_9.out (by omega); (first | cases eo47 | (injection eo47 with ea_ en_ ec_; (first | subst ea_ | (injection ea_ with ea_; subst ea_)); subst ec_; clear en_)); have GB47 := Aside0.mk gb47; have GG47 := Aside0.mk HG47; clear gb47 gl47 HG47; obtain ⟨hx47_0, hf47_0⟩ := Kd.R_celln 0 HO_9.out ((rd x3_2 x42_3) : Int) p47 q47; replace p47 := eq_true p47; replace q47 := eq_true q47; have n_ := Aside0.mk (Kd.R_mono (ok' := (fun k_ => some k_ ≠ (.slice (some ad380) x3_2.length co19 : Value).ownBlock ∧ some k_ ≠ (.slice (some ad382) x4_2.length co25 : Value).ownBlock ∧ some k_ ≠ (.slice (some ad380) x3_2.length co19 : Value).ownBlock ∧ some k_ ≠ (v387 : Value).ownBlock)) HO_9.out (fun k_ hk => ⟨hk.1.1, ⟨hk.1.2.1, ⟨hk.1.2.2, hk.2⟩⟩⟩)); clear HO_9; have HO_9 := n_; clear n_; obtain ⟨hy49_, hz49_⟩ := Kd.R_celln 0 HO_9.out ((rd x3_2 x42_3) : Int) (of_decide_eq_true (by first | (with_reducible assumption) | assumption)) (of_decide_eq_true (by first | (with_reducible assumption) | assumption)); have HP49 := Kd.R_putg HO_9.out ((rd x3_2 x42_3) : Int) (rd x4_2 (rd x3_2 (ji31)))) | ((with_reducible refine gate_store (t := 3) (p := 90) rfl ?_); (try (rw [drewN_self w48]; generalize hq_ : World.drewN w48 _ = w48; have n0_ := Aside0.mk (Kd.R_at hq_ HO_3.out); have n1_ := Aside0.mk (Kd.R_at hq_ HO_4.out); have n2_ := Aside0.mk (Kd.S_at hq_ HO_5.out); have n3_ := Aside0.mk (Kd.R_at hq_ HO_9.out); have n4_ := Aside0.mk (Kd.R_at hq_ HO_40.out); have n5_ := Aside0.mk (Kd.R_at hq_ HO388.out); have n6_ := Aside0.mk (below_at hq_ HB.out); clear hq_ HO_3 HO_4 HO_5 HO_9 HO_40 HO388 HB; have HO_3 := n0_; have HO_4 := n1_; have HO_5 := n2_; have HO_9 := n3_; have HO_40 := n4_; have HO388 := n5_; have HB := n6_; clear n0_ n1_ n2_ n3_ n4_ n5_ n6_; (try (have n_ := Aside0.mk (Kd.R_mono (ok' := (fun k_ => some k_ ≠ (.slice (some ad380) x3_2.length co19 : Value).ownBlock ∧ some k_ ≠ (.slice (some ad382) x4_2.length co25 : Value).ownBlock ∧ some k_ ≠ (.slice (some ad380) x3_2.length co19 : Value).ownBlock ∧ some k_ ≠ (v387 : Value).ownBlock)) HO_9.out (fun k_ hk => ⟨hk.1.1, ⟨hk.1.2.1, ⟨hk.1.2.2, hk.2⟩⟩⟩)); clear HO_9; have HO_9 := n_; clear n_)); (try (obtain ⟨hy49_, hz49_⟩ := Kd.R_celln 0 HO_9.out ((rd x3_2 x42_3) : Int) (of_decide_eq_true (by first | (with_reducible assumption) | assumption)) (of_decide_eq_true (by first | (with_reducible assumption) | assumption)))); (try (have HP49 := Kd.R_putg HO_9.out ((rd x3_2 x42_3) : Int) (rd x4_2 (rd x3_2 (ji31))))))); refine store_event (t := 3) (p := 90) (v := ?vo_w50) (w1 := (w48.setCell ⟨go47, ((rd x3_2 x42_3) : Int).toNat, none⟩ (.int .i64 (rd x4_2 (rd x3_2 (ji31)))))) ?hg ?ho ?hn ?hr ?_; (case ho => rfl); (case hg => rfl); (case hn => rfl); (case hr => first | (go_simp; done) | (go_simp; rfl)); intro w50 hw; have hg : w48.grownBy w50 (some go47) := (by rw [hw]; exact HP49.2); have hp_ : Kd.R (Kd.int .i64) 3 w50 w.heap.size (fun k_ => some k_ ≠ (.slice (some ad380) x3_2.length co19 : Value).ownBlock ∧ some k_ ≠ (.slice (some ad382) x4_2.length co25 : Value).ownBlock ∧ some k_ ≠ (.slice (some ad380) x3_2.length co19 : Value).ownBlock ∧ some k_ ≠ (v387 : Value).ownBlock) (.slice (some ⟨go47, 0, none⟩) x9_3.length co47) y389 := (by rw [hw, Ny389.out]; exact HP49.1); clear HP49; have n0_ := Aside0.mk (Kd.R_after (v := (.slice (some ⟨go47, 0, none⟩) x9_3.length co47)) (v1 := (.slice (some ⟨go47, 0, none⟩) x9_3.length co47)) (ok := (fun k_ => some k_ ≠ (.slice (some ad382) x4_2.length co25 : Value).ownBlock ∧ some k_ ≠ (v387 : Value).ownBlock)) (by (with_reducible repeat (first | apply Kd.R_alloc | apply Kd.R_drewN | apply Kd.R_drew)); exact Kd.R_mono HO_3.out (fun _ hk => ⟨⟨hk.1.1, hk.2⟩, hk.1.2⟩)) hg (.inl rfl)); have n1_ := Aside0.mk (Kd.R_after (v := (.slice (some ⟨go47, 0, none⟩) x9_3.length co47)) (v1 := (.slice (some ⟨go47, 0, none⟩) x9_3.length co47)) (ok := (fun k_ => some k_ ≠ (.slice (some ad380) x3_2.length co19 : Value).ownBlock ∧ some k_ ≠ (.slice (some ad380) x3_2.length co19 : Value).ownBlock ∧ some k_ ≠ (v387 : Value).ownBlock)) (by (with_reducible repeat (first | apply Kd.R_alloc | apply Kd.R_drewN | apply Kd.R_drew)); exact Kd.R_mono HO_4.out (fun _ hk => ⟨⟨hk.1.1, ⟨hk.1.2.2, hk.2⟩⟩, hk.1.2.1⟩)) hg (.inl rfl)); have n2_ := Aside0.mk (Kd.S_after (v := (.slice (some ⟨go47, 0, none⟩) x9_3.length co47)) (v1 := (.slice (some ⟨go47, 0, none⟩) x9_3.length co47)) (ok := (fun k_ => True ∧ some k_ ≠ (.slice (some ad382) x4_2.length co25 : Value).ownBlock ∧ True ∧ some k_ ≠ (v387 : Value).ownBlock)) (by (with_reducible repeat (first | apply Kd.S_alloc | apply Kd.S_drewN | apply Kd.S_drew)); exact Kd.S_mono HO_5.out (fun _ hk => ⟨⟨hk.1.1, ⟨hk.1.2.1, ⟨hk.1.2.2.2, hk.2⟩⟩⟩, hk.1.2.2.1⟩)) hg (.inl rfl)); have n3_ := Aside0.mk (hp_); have n4_ := Aside0.mk (Kd.R_after (v := (.slice (some ⟨go47, 0, none⟩) x9_3.length co47)) (v1 := (.slice (some ⟨go47, 0, none⟩) x9_3.length co47)) (ok := (fun k_ => some k_ ≠ (.slice (some ad382) x4_2.length co25 : Value).ownBlock ∧ some k_ ≠ (v387 : Value).ownBlock)) (by (with_reducible repeat (first | apply Kd.R_alloc | apply Kd.R_drewN | apply Kd.R_drew)); exact Kd.R_mono HO_40.out (fun _ hk => ⟨⟨hk.1.1, hk.2⟩, hk.1.2⟩)) hg (.inl rfl)); have n5_ := Aside0.mk (Kd.R_after (v := (.slice (some ⟨go47, 0, none⟩) x9_3.length co47)) (v1 := (.slice (some ⟨go47, 0, none⟩) x9_3.length co47)) (ok := (fun k_ => some k_ ≠ (.slice (some ad380) x3_2.length co19 : Value).ownBlock ∧ some k_ ≠ (.slice (some ad382) x4_2.length co25 : Value).ownBlock ∧ some k_ ≠ (.slice (some ad380) x3_2.length co19 : Value).ownBlock)) (by (with_reducible repeat (first | apply Kd.R_alloc | apply Kd.R_drewN | apply Kd.R_drew)); exact Kd.R_mono HO388.out (fun _ hk => ⟨⟨hk.1, ⟨hk.2.1, hk.2.2.2⟩⟩, hk.2.2.1⟩)) hg (.inl rfl)); have n6_ := Aside0.mk ((by rw [hw]; exact below_set (HB.out) GB47.out : Below w.heap.size w w50)); clear HO_3; clear HO_4; clear HO_5; clear HO_9; clear HO_40; clear HO388; clear HB; have HO_3 := n0_; have HO_4 := n1_; have HO_5 := n2_; have HO_9 := n3_; have HO_40 := n4_; have HO388 := n5_; have HB := n6_; clear n0_ n1_ n2_ n3_ n4_ n5_ n6_; clear hg hw hp_)); try go_wp2_with (first | ((with_reducible refine gate_builtin (b := .append) (xs := #[.tmp 83, .tmp 85]) rfl ?_); at_builtin; refine Kd.R_append (Kd.int .i64) (w0 := w) w.heap.size rfl (.tmp 83) (.tmp 85) 25 3 (.int .i64 0) 8 rfl Try.underlying25 info3 rfl (by decide) (by omega) u8 x8_3 (rd x3_2 x42_3) [.int .i64 (rd x3_2 x42_3)] (fun k_ => some k_ ≠ (.slice (some ad380) x3_2.length co19 : Value).ownBlock ∧ some k_ ≠ (.slice (some ad382) x4_2.length co25 : Value).ownBlock ∧ some k_ ≠ (v378 : Value).ownBlock ∧ some k_ ≠ (.slice (some ad380) x3_2.length co19 : Value).ownBlock) (fun _ => False) rfl rfl ?aP (fun _ hk => hk.elim) ?aF ?aO ?aB ?aS ?aL ?_; (case aP => exact rfl); (case aB => exact (by repeat (first | (with_reducible first | exact HB.out | apply below_alloc | apply pw_below_drewN | apply below_drew1) | exact HB.out))); (case aF => exact (fun k_ hk => ⟨Kd.fresh' (Kd.R_lt (by (with_reducible repeat (first | apply Kd.R_alloc | apply Kd.R_drewN | apply Kd.R_drew)); exact HO_3.out)) k_ hk, Kd.fresh' (Kd.R_lt (by (with_reducible repeat (first | apply Kd.R_alloc | apply Kd.R_drewN | apply Kd.R_drew)); exact HO_4.out)) k_ hk, Kd.fresh' (Kd.R_lt (by (with_reducible repeat (first | apply Kd.R_alloc | apply Kd.R_drewN | apply Kd.R_drew)); exact HO_9.out)) k_ hk, Kd.fresh' (Kd.R_lt (by (with_reducible repeat (first | apply Kd.R_alloc | apply Kd.R_drewN | apply Kd.R_drew)); exact HO_40.out)) k_ hk⟩)); (case aO => exact (by (with_reducible repeat (first | apply Kd.R_alloc | apply Kd.R_drewN | apply Kd.R_drew)); exact HO_8.out)); (case aS => exact (below_size (by repeat (first | (with_reducible first | exact HB.out | apply below_alloc | apply pw_below_drewN | apply below_drew1) | exact HB.out)))); (case aL => have := LMc45.out; omega); intro v387 w48 ho hb hg hat; rw [← Ny386.out] at ho; have n0_ := Aside0.mk (Kd.R_after (ok := (fun k_ => some k_ ≠ (.slice (some ad382) x4_2.length co25 : Value).ownBlock ∧ some k_ ≠ (v378 : Value).ownBlock)) (by (with_reducible repeat (first | apply Kd.R_alloc | apply Kd.R_drewN | apply Kd.R_drew)); exact Kd.R_mono HO_3.out (fun _ hk => ⟨⟨hk.1, hk.2.2⟩, hk.2.1⟩)) hg hat); have n1_ := Aside0.mk (Kd.R_after (ok := (fun k_ => some k_ ≠ (.slice (some ad380) x3_2.length co19 : Value).ownBlock ∧ some k_ ≠ (v378 : Value).ownBlock ∧ some k_ ≠ (.slice (some ad380) x3_2.length co19 : Value).ownBlock)) (by (with_reducible repeat (first | apply Kd.R_alloc | apply Kd.R_drewN | apply Kd.R_drew)); exact Kd.R_mono HO_4.out (fun _ hk => ⟨⟨hk.1, ⟨hk.2.2.1, hk.2.2.2⟩⟩, hk.2.1⟩)) hg hat); have n2_ := Aside0.mk (Kd.S_after (ok := (fun k_ => True ∧ some k_ ≠ (.slice (some ad382) x4_2.length co25 : Value).ownBlock ∧ some k_ ≠ (v378 : Value).ownBlock ∧ True)) (by (with_reducible repeat (first | apply Kd.S_alloc | apply Kd.S_drewN | apply Kd.S_drew)); exact Kd.S_mono HO_5.out (fun _ hk => ⟨⟨hk.1, ⟨hk.2.1, ⟨hk.2.2.2.1, hk.2.2.2.2⟩⟩⟩, hk.2.2.1⟩)) hg hat); have n3_ := Aside0.mk (Kd.R_after (ok := (fun k_ => some k_ ≠ (.slice (some ad380) x3_2.length co19 : Value).ownBlock ∧ some k_ ≠ (.slice (some ad382) x4_2.length co25 : Value).ownBlock ∧ some k_ ≠ (.slice (some ad380) x3_2.length co19 : Value).ownBlock)) (by (with_reducible repeat (first | apply Kd.R_alloc | apply Kd.R_drewN | apply Kd.R_drew)); exact Kd.R_mono HO_9.out (fun _ hk => ⟨⟨hk.1, ⟨hk.2.1, hk.2.2.2⟩⟩, hk.2.2.1⟩)) hg hat); have n4_ := Aside0.mk (Kd.R_after (ok := (fun k_ => some k_ ≠ (.slice (some ad382) x4_2.length co25 : Value).ownBlock ∧ some k_ ≠ (v378 : Value).ownBlock)) (by (with_reducible repeat (first | apply Kd.R_alloc | apply Kd.R_drewN | apply Kd.R_drew)); exact Kd.R_mono HO_40.out (fun _ hk => ⟨⟨hk.1, hk.2.2⟩, hk.2.1⟩)) hg hat); have n5_ := Aside0.mk (hb); have n6_ := Aside0.mk (ho); clear HO_3; clear HO_4; clear HO_5; clear HO_9; clear HO_40; clear HB; clear HO_8; have HO_3 := n0_; have HO_4 := n1_; have HO_5 := n2_; have HO_9 := n3_; have HO_40 := n4_; have HB := n5_; have HO388 := n6_; clear n0_ n1_ n2_ n3_ n4_ n5_ n6_; clear ho hb hg hat; have p47 : 0 ≤ ((rd x3_2 x42_3) : Int) := of_decide_eq_true (by first | (with_reducible assumption) | assumption); have q47 : ((rd x3_2 x42_3) : Int) < ((x9_3.length : Int) : Int) := of_decide_eq_true (by first | (with_reducible assumption) | assumption); obtain ⟨go47, co47, eo47, gb47, gl47, cl47, HG47⟩ := Kd.R_form HO_9.out (by omega); (first | cases eo47 | (injection eo47 with ea_ en_ ec_; (first | subst ea_ | (injection ea_ with ea_; subst ea_)); subst ec_; clear en_)); have GB47 := Aside0.mk gb47; have GG47 := Aside0.mk HG47; clear gb47 gl47 HG47; obtain ⟨hx47_0, hf47_0⟩ := Kd.R_celln 0 HO_9.out ((rd x3_2 x42_3) : Int) p47 q47; replace p47 := eq_true p47; replace q47 := eq_true q47; have n_ := Aside0.mk (Kd.R_mono (ok' := (fun k_ => some k_ ≠ (.slice (some ad380) x3_2.length co19 : Value).ownBlock ∧ some k_ ≠ (.slice (some ad382) x4_2.length co25 : Value).ownBlock ∧ some k_ ≠ (.slice (some ad380) x3_2.length co19 : Value).ownBlock ∧ some k_ ≠ (v387 : Value).ownBlock)) HO_9.out (fun k_ hk => ⟨hk.1.1, ⟨hk.1.2.1, ⟨hk.1.2.2, hk.2⟩⟩⟩)); clear HO_9; have HO_9 := n_; clear n_; obtain ⟨hy49_, hz49_⟩ := Kd.R_celln 0 HO_9.out ((rd x3_2 x42_3) : Int) (of_decide_eq_true (by first | (with_reducible assumption) | assumption)) (of_decide_eq_true (by first | (with_reducible assumption) | assumption)); have HP49 := Kd.R_putg HO_9.out ((rd x3_2 x42_3) : Int) (rd x4_2 (rd x3_2 (ji31)))) | ((with_reducible refine gate_store (t := 3) (p := 90) rfl ?_); (try (rw [drewN_self w48]; generalize hq_ : World.drewN w48 _ = w48; have n0_ := Aside0.mk (Kd.R_at hq_ HO_3.out); have n1_ := Aside0.mk (Kd.R_at hq_ HO_4.out); have n2_ := Aside0.mk (Kd.S_at hq_ HO_5.out); have n3_ := Aside0.mk (Kd.R_at hq_ HO_9.out); have n4_ := Aside0.mk (Kd.R_at hq_ HO_40.out); have n5_ := Aside0.mk (Kd.R_at hq_ HO388.out); have n6_ := Aside0.mk (below_at hq_ HB.out); clear hq_ HO_3 HO_4 HO_5 HO_9 HO_40 HO388 HB; have HO_3 := n0_; have HO_4 := n1_; have HO_5 := n2_; have HO_9 := n3_; have HO_40 := n4_; have HO388 := n5_; have HB := n6_; clear n0_ n1_ n2_ n3_ n4_ n5_ n6_; (try (have n_ := Aside0.mk (Kd.R_mono (ok' := (fun k_ => some k_ ≠ (.slice (some ad380) x3_2.length co19 : Value).ownBlock ∧ some k_ ≠ (.slice (some ad382) x4_2.length co25 : Value).ownBlock ∧ some k_ ≠ (.slice (some ad380) x3_2.length co19 : Value).ownBlock ∧ some k_ ≠ (v387 : Value).ownBlock)) HO_9.out (fun k_ hk => ⟨hk.1.1, ⟨hk.1.2.1, ⟨hk.1.2.2, hk.2⟩⟩⟩)); clear HO_9; have HO_9 := n_; clear n_)); (try (obtain ⟨hy49_, hz49_⟩ := Kd.R_celln 0 HO_9.out ((rd x3_2 x42_3) : Int) (of_decide_eq_true (by first | (with_reducible assumption) | assumption)) (of_decide_eq_true (by first | (with_reducible assumption) | assumption)))); (try (have HP49 := Kd.R_putg HO_9.out ((rd x3_2 x42_3) : Int) (rd x4_2 (rd x3_2 (ji31))))))); refine store_event (t := 3) (p := 90) (v := ?vo_w50) (w1 := (w48.setCell ⟨go47, ((rd x3_2 x42_3) : Int).toNat, none⟩ (.int .i64 (rd x4_2 (rd x3_2 (ji31)))))) ?hg ?ho ?hn ?hr ?_; (case ho => rfl); (case hg => rfl); (case hn => rfl); (case hr => first | (go_simp; done) | (go_simp; rfl)); intro w50 hw; have hg : w48.grownBy w50 (some go47) := (by rw [hw]; exact HP49.2); have hp_ : Kd.R (Kd.int .i64) 3 w50 w.heap.size (fun k_ => some k_ ≠ (.slice (some ad380) x3_2.length co19 : Value).ownBlock ∧ some k_ ≠ (.slice (some ad382) x4_2.length co25 : Value).ownBlock ∧ some k_ ≠ (.slice (some ad380) x3_2.length co19 : Value).ownBlock ∧ some k_ ≠ (v387 : Value).ownBlock) (.slice (some ⟨go47, 0, none⟩) x9_3.length co47) y389 := (by rw [hw, Ny389.out]; exact HP49.1); clear HP49; have n0_ := Aside0.mk (Kd.R_after (v := (.slice (some ⟨go47, 0, none⟩) x9_3.length co47)) (v1 := (.slice (some ⟨go47, 0, none⟩) x9_3.length co47)) (ok := (fun k_ => some k_ ≠ (.slice (some ad382) x4_2.length co25 : Value).ownBlock ∧ some k_ ≠ (v387 : Value).ownBlock)) (by (with_reducible repeat (first | apply Kd.R_alloc | apply Kd.R_drewN | apply Kd.R_drew)); exact Kd.R_mono HO_3.out (fun _ hk => ⟨⟨hk.1.1, hk.2⟩, hk.1.2⟩)) hg (.inl rfl)); have n1_ := Aside0.mk (Kd.R_after (v := (.slice (some ⟨go47, 0, none⟩) x9_3.length co47)) (v1 := (.slice (some ⟨go47, 0, none⟩) x9_3.length co47)) (ok := (fun k_ => some k_ ≠ (.slice (some ad380) x3_2.length co19 : Value).ownBlock ∧ some k_ ≠ (.slice (some ad380) x3_2.length co19 : Value).ownBlock ∧ some k_ ≠ (v387 : Value).ownBlock)) (by (with_reducible repeat (first | apply Kd.R_alloc | apply Kd.R_drewN | apply Kd.R_drew)); exact Kd.R_mono HO_4.out (fun _ hk => ⟨⟨hk.1.1, ⟨hk.1.2.2, hk.2⟩⟩, hk.1.2.1⟩)) hg (.inl rfl)); have n2_ := Aside0.mk (Kd.S_after (v := (.slice (some ⟨go47, 0, none⟩) x9_3.length co47)) (v1 := (.slice (some ⟨go47, 0, none⟩) x9_3.length co47)) (ok := (fun k_ => True ∧ some k_ ≠ (.slice (some ad382) x4_2.length co25 : Value).ownBlock ∧ True ∧ some k_ ≠ (v387 : Value).ownBlock)) (by (with_reducible repeat (first | apply Kd.S_alloc | apply Kd.S_drewN | apply Kd.S_drew)); exact Kd.S_mono HO_5.out (fun _ hk => ⟨⟨hk.1.1, ⟨hk.1.2.1, ⟨hk.1.2.2.2, hk.2⟩⟩⟩, hk.1.2.2.1⟩)) hg (.inl rfl)); have n3_ := Aside0.mk (hp_); have n4_ := Aside0.mk (Kd.R_after (v := (.slice (some ⟨go47, 0, none⟩) x9_3.length co47)) (v1 := (.slice (some ⟨go47, 0, none⟩) x9_3.length co47)) (ok := (fun k_ => some k_ ≠ (.slice (some ad382) x4_2.length co25 : Value).ownBlock ∧ some k_ ≠ (v387 : Value).ownBlock)) (by (with_reducible repeat (first | apply Kd.R_alloc | apply Kd.R_drewN | apply Kd.R_drew)); exact Kd.R_mono HO_40.out (fun _ hk => ⟨⟨hk.1.1, hk.2⟩, hk.1.2⟩)) hg (.inl rfl)); have n5_ := Aside0.mk (Kd.R_after (v := (.slice (some ⟨go47, 0, none⟩) x9_3.length co47)) (v1 := (.slice (some ⟨go47, 0, none⟩) x9_3.length co47)) (ok := (fun k_ => some k_ ≠ (.slice (some ad380) x3_2.length co19 : Value).ownBlock ∧ some k_ ≠ (.slice (some ad382) x4_2.length co25 : Value).ownBlock ∧ some k_ ≠ (.slice (some ad380) x3_2.length co19 : Value).ownBlock)) (by (with_reducible repeat (first | apply Kd.R_alloc | apply Kd.R_drewN | apply Kd.R_drew)); exact Kd.R_mono HO388.out (fun _ hk => ⟨⟨hk.1, ⟨hk.2.1, hk.2.2.2⟩⟩, hk.2.2.1⟩)) hg (.inl rfl)); have n6_ := Aside0.mk ((by rw [hw]; exact below_set (HB.out) GB47.out : Below w.heap.size w w50)); clear HO_3; clear HO_4; clear HO_5; clear HO_9; clear HO_40; clear HO388; clear HB; have HO_3 := n0_; have HO_4 := n1_; have HO_5 := n2_; have HO_9 := n3_; have HO_40 := n4_; have HO388 := n5_; have HB := n6_; clear n0_ n1_ n2_ n3_ n4_ n5_ n6_; clear hg hw hp_)))
                                                        go_roundg k3
                                                        case measure => have := HK1.out; have := HK2.out; have := HK3.out; omega
                                                        case rel => exact ⟨(y386), (y389), (wrap64 (x42_3 + 1)), (by first | rfl | (simp; done) | (simp [*]; done)), H', ⟨by have := HK1.out; have := HK2.out; have := HK3.out; omega⟩, ⟨by (with_reducible repeat (first | apply Kd.R_alloc | apply Kd.R_drewN | apply Kd.R_drew)); exact Kd.R_mono HO_3.out (fun _ hk => ⟨hk.1.1, ⟨hk.1.2, hk.2⟩⟩)⟩, ⟨by (with_reducible repeat (first | apply Kd.R_alloc | apply Kd.R_drewN | apply Kd.R_drew)); exact Kd.R_mono HO_4.out (fun _ hk => ⟨hk.1.1, ⟨hk.1.2.2, ⟨hk.2, hk.1.2.1⟩⟩⟩)⟩, ⟨by (with_reducible repeat (first | apply Kd.S_alloc | apply Kd.S_drewN | apply Kd.S_drew)); exact Kd.S_mono HO_5.out (fun _ hk => ⟨hk.1.1, ⟨hk.1.2.1, ⟨hk.1.2.2.2, ⟨hk.2, hk.1.2.2.1⟩⟩⟩⟩)⟩, ⟨by (with_reducible repeat (first | apply Kd.R_alloc | apply Kd.R_drewN | apply Kd.R_drew)); exact Kd.R_mono HO388.out (fun _ hk => ⟨hk.1.1, ⟨hk.1.2.1, ⟨hk.2, hk.1.2.2⟩⟩⟩)⟩, ⟨by (with_reducible repeat (first | apply Kd.R_alloc | apply Kd.R_drewN | apply Kd.R_drew)); exact Kd.R_mono HO_9.out (fun _ hk => ⟨hk.1, ⟨hk.2.1, ⟨hk.2.2.2, hk.2.2.1⟩⟩⟩)⟩, ⟨by (with_reducible repeat (first | apply Kd.R_alloc | apply Kd.R_drewN | apply Kd.R_drew)); exact Kd.R_mono HO_40.out (fun _ hk => ⟨hk.1.1, ⟨hk.1.2, hk.2⟩⟩)⟩, ⟨by repeat (first | (with_reducible first | exact HB.out | apply below_alloc | apply pw_below_drewN | apply below_drew1) | exact HB.out)⟩⟩
                                                      · rw [if_neg c46] at H
                                                        exact absurd H (by simp)
                                                    · rw [if_neg c45] at H
                                                      exact absurd H (by simp)
                                                  · rw [if_neg c44] at H
                                                    have c44b0 : decide ((rd x4_2 (rd x3_2 x42_3)) < (rd x4_2 (rd x3_2 (ji31)))) = false := decide_eq_false c44
                                                    clear c44
                                                    have H' := Aside0.mk H
                                                    clear H
                                                    have p380 : 0 ≤ (x42_3 : Int) := of_decide_eq_true (by first | (with_reducible assumption) | assumption)
                                                    have q380 : x42_3 < (x3_2.length : Int) := of_decide_eq_true (by first | (with_reducible assumption) | assumption)
                                                    obtain ⟨ad380, e380, hx380_0⟩ := Kd.at_int (Kd.R_reads' HO_40.out).2.2 x42_3 p380 q380
                                                    cases e380
                                                    replace p380 := eq_true p380
                                                    replace q380 := eq_true q380
                                                    have p381 : 0 ≤ ((ji31) : Int) := of_decide_eq_true (by first | (with_reducible assumption) | assumption)
                                                    have q381 : (ji31) < (x3_2.length : Int) := of_decide_eq_true (by first | (with_reducible assumption) | assumption)
                                                    obtain ⟨ad381, e381, hx381_0⟩ := Kd.at_int (Kd.R_reads' HO_3.out).2.2 (ji31) p381 q381
                                                    obtain rfl : ad380 = ad381 := (by injection e381)
                                                    replace p381 := eq_true p381
                                                    replace q381 := eq_true q381
                                                    have p382 : 0 ≤ ((rd x3_2 (ji31)) : Int) := of_decide_eq_true (by first | (with_reducible assumption) | assumption)
                                                    have q382 : (rd x3_2 (ji31)) < (x4_2.length : Int) := of_decide_eq_true (by first | (with_reducible assumption) | assumption)
                                                    obtain ⟨ad382, e382, hx382_0⟩ := Kd.at_int (Kd.R_reads' HO_4.out).2.2 (rd x3_2 (ji31)) p382 q382
                                                    cases e382
                                                    replace p382 := eq_true p382
                                                    replace q382 := eq_true q382
                                                    have p383 : 0 ≤ ((ji36) : Int) := of_decide_eq_true (by first | (with_reducible assumption) | assumption)
                                                    have q383 : (ji36) < (x3_2.length : Int) := of_decide_eq_true (by first | (with_reducible assumption) | assumption)
                                                    obtain ⟨ad383, e383, hx383_0⟩ := Kd.at_int (Kd.R_reads' HO_3.out).2.2 (ji36) p383 q383
                                                    obtain rfl : ad380 = ad383 := (by injection e383)
                                                    replace p383 := eq_true p383
                                                    replace q383 := eq_true q383
                                                    have p384 : 0 ≤ ((rd x3_2 (ji36)) : Int) := of_decide_eq_true (by first | (with_reducible assumption) | assumption)
                                                    have q384 : (rd x3_2 (ji36)) < (x4_2.length : Int) := of_decide_eq_true (by first | (with_reducible assumption) | assumption)
                                                    obtain ⟨ad384, e384, hx384_0⟩ := Kd.at_int (Kd.R_reads' HO_4.out).2.2 (rd x3_2 (ji36)) p384 q384
                                                    obtain rfl : ad382 = ad384 := (by injection e384)
                                                    replace p384 := eq_true p384
                                                    replace q384 := eq_true q384
                                                    have p385 : 0 ≤ ((rd x3_2 x42_3) : Int) := of_decide_eq_true (by first | (with_reducible assumption) | assumption)
                                                    have q385 : (rd x3_2 x42_3) < (x4_2.length : Int) := of_decide_eq_true (by first | (with_reducible assumption) | assumption)
                                                    obtain ⟨ad385, e385, hx385_0⟩ := Kd.at_int (Kd.R_reads' HO_4.out).2.2 (rd x3_2 x42_3) p385 q385
                                                    obtain rfl : ad382 = ad385 := (by injection e385)
                                                    replace p385 := eq_true p385
                                                    replace q385 := eq_true q385
                                                    go_wp2
                                                    repeat (go_quiet (fail); try go_wp2)
                                                    go_roundg k3
                                                    case measure => have := HK1.out; have := HK2.out; have := HK3.out; omega
                                                    case rel => exact ⟨(x8_3), (x9_3), (wrap64 (x42_3 + 1)), (by first | rfl | (simp; done) | (simp [*]; done)), H', ⟨by have := HK1.out; have := HK2.out; have := HK3.out; omega⟩, ⟨by (with_reducible repeat (first | apply Kd.R_alloc | apply Kd.R_drewN | apply Kd.R_drew)); exact HO_3.out⟩, ⟨by (with_reducible repeat (first | apply Kd.R_alloc | apply Kd.R_drewN | apply Kd.R_drew)); exact HO_4.out⟩, ⟨by (with_reducible repeat (first | apply Kd.S_alloc | apply Kd.S_drewN | apply Kd.S_drew)); exact HO_5.out⟩, ⟨by (with_reducible repeat (first | apply Kd.R_alloc | apply Kd.R_drewN | apply Kd.R_drew)); exact HO_8.out⟩, ⟨by (with_reducible repeat (first | apply Kd.R_alloc | apply Kd.R_drewN | apply Kd.R_drew)); exact HO_9.out⟩, ⟨by (with_reducible repeat (first | apply Kd.R_alloc | apply Kd.R_drewN | apply Kd.R_drew)); exact HO_40.out⟩, ⟨by repeat (first | (with_reducible first | exact HB.out | apply below_alloc | apply pw_below_drewN | apply below_drew1) | exact HB.out)⟩⟩
                                                · rw [if_neg c43] at H
                                                  exact absurd H (by simp)
                                              · rw [if_neg c42] at H
                                                exact absurd H (by simp)
                                            · rw [if_neg c41] at H
                                              have c41b0 : decide ((rd x4_2 (rd x3_2 (ji36))) < (rd x4_2 (rd x3_2 (ji31)))) = false := decide_eq_false c41
                                              clear c41
                                              have H' := Aside0.mk H
                                              clear H
                                              have p380 : 0 ≤ (x42_3 : Int) := of_decide_eq_true (by first | (with_reducible assumption) | assumption)
                                              have q380 : x42_3 < (x3_2.length : Int) := of_decide_eq_true (by first | (with_reducible assumption) | assumption)
                                              obtain ⟨ad380, e380, hx380_0⟩ := Kd.at_int (Kd.R_reads' HO_40.out).2.2 x42_3 p380 q380
                                              cases e380
                                              replace p380 := eq_true p380
                                              replace q380 := eq_true q380
                                              have p381 : 0 ≤ ((ji31) : Int) := of_decide_eq_true (by first | (with_reducible assumption) | assumption)
                                              have q381 : (ji31) < (x3_2.length : Int) := of_decide_eq_true (by first | (with_reducible assumption) | assumption)
                                              obtain ⟨ad381, e381, hx381_0⟩ := Kd.at_int (Kd.R_reads' HO_3.out).2.2 (ji31) p381 q381
                                              obtain rfl : ad380 = ad381 := (by injection e381)
                                              replace p381 := eq_true p381
                                              replace q381 := eq_true q381
                                              have p382 : 0 ≤ ((rd x3_2 (ji31)) : Int) := of_decide_eq_true (by first | (with_reducible assumption) | assumption)
                                              have q382 : (rd x3_2 (ji31)) < (x4_2.length : Int) := of_decide_eq_true (by first | (with_reducible assumption) | assumption)
                                              obtain ⟨ad382, e382, hx382_0⟩ := Kd.at_int (Kd.R_reads' HO_4.out).2.2 (rd x3_2 (ji31)) p382 q382
                                              cases e382
                                              replace p382 := eq_true p382
                                              replace q382 := eq_true q382
                                              have p383 : 0 ≤ ((ji36) : Int) := of_decide_eq_true (by first | (with_reducible assumption) | assumption)
                                              have q383 : (ji36) < (x3_2.length : Int) := of_decide_eq_true (by first | (with_reducible assumption) | assumption)
                                              obtain ⟨ad383, e383, hx383_0⟩ := Kd.at_int (Kd.R_reads' HO_3.out).2.2 (ji36) p383 q383
                                              obtain rfl : ad380 = ad383 := (by injection e383)
                                              replace p383 := eq_true p383
                                              replace q383 := eq_true q383
                                              have p384 : 0 ≤ ((rd x3_2 (ji36)) : Int) := of_decide_eq_true (by first | (with_reducible assumption) | assumption)
                                              have q384 : (rd x3_2 (ji36)) < (x4_2.length : Int) := of_decide_eq_true (by first | (with_reducible assumption) | assumption)
                                              obtain ⟨ad384, e384, hx384_0⟩ := Kd.at_int (Kd.R_reads' HO_4.out).2.2 (rd x3_2 (ji36)) p384 q384
                                              obtain rfl : ad382 = ad384 := (by injection e384)
                                              replace p384 := eq_true p384
                                              replace q384 := eq_true q384
                                              go_wp2
                                              repeat (go_quiet (fail); try go_wp2)
                                              go_roundg k3
                                              case measure => have := HK1.out; have := HK2.out; have := HK3.out; omega
                                              case rel => exact ⟨(x8_3), (x9_3), (wrap64 (x42_3 + 1)), (by first | rfl | (simp; done) | (simp [*]; done)), H', ⟨by have := HK1.out; have := HK2.out; have := HK3.out; omega⟩, ⟨by (with_reducible repeat (first | apply Kd.R_alloc | apply Kd.R_drewN | apply Kd.R_drew)); exact HO_3.out⟩, ⟨by (with_reducible repeat (first | apply Kd.R_alloc | apply Kd.R_drewN | apply Kd.R_drew)); exact HO_4.out⟩, ⟨by (with_reducible repeat (first | apply Kd.S_alloc | apply Kd.S_drewN | apply Kd.S_drew)); exact HO_5.out⟩, ⟨by (with_reducible repeat (first | apply Kd.R_alloc | apply Kd.R_drewN | apply Kd.R_drew)); exact HO_8.out⟩, ⟨by (with_reducible repeat (first | apply Kd.R_alloc | apply Kd.R_drewN | apply Kd.R_drew)); exact HO_9.out⟩, ⟨by (with_reducible repeat (first | apply Kd.R_alloc | apply Kd.R_drewN | apply Kd.R_drew)); exact HO_40.out⟩, ⟨by repeat (first | (with_reducible first | exact HB.out | apply below_alloc | apply pw_below_drewN | apply below_drew1) | exact HB.out)⟩⟩
                                          · rw [if_neg c40] at H
                                            exact absurd H (by simp)
                                        · rw [if_neg c39] at H
                                          exact absurd H (by simp)
                                      · rw [if_neg c38] at H
                                        exact absurd H (by simp)
                                    · rw [if_neg c37] at H
                                      exact absurd H (by simp)
                                  · rw [if_neg c35] at H
                                    exact absurd H (by simp)
                                · rw [if_neg c34] at H
                                  exact absurd H (by simp)
                              · rw [if_neg c33] at H
                                exact absurd H (by simp)
                            · rw [if_neg c32] at H
                              exact absurd H (by simp)
                        · rw [if_neg c29] at H
                          exact absurd H (by simp)
                      · rw [if_neg c28] at H
                        exact absurd H (by simp)
                    · rw [if_neg c27] at H
                      have c27b0 : decide (x42_3 < (x3_2.length : Int)) = false := decide_eq_false c27
                      clear c27
                      have H' := Aside0.mk H
                      clear H
                      go_wp2
                      repeat (go_quiet (fail); try go_wp2)
                      go_roundg k3
                      case measure => have := HK1.out; have := HK2.out; have := HK3.out; omega
                      case rel => exact ⟨(x8_3), (x9_3), (y371), H', ⟨by have := HK1.out; have := HK2.out; have := HK3.out; omega⟩, ⟨by (with_reducible repeat (first | apply Kd.R_alloc | apply Kd.R_drewN | apply Kd.R_drew)); exact Kd.R_mono HO_8.out (fun _ hk => hk.2.2.1)⟩, ⟨by (with_reducible repeat (first | apply Kd.R_alloc | apply Kd.R_drewN | apply Kd.R_drew)); exact Kd.R_mono HO_9.out (fun _ hk => hk.2.2.1)⟩, ⟨by (with_reducible repeat (first | apply Kd.S_alloc | apply Kd.S_drewN | apply Kd.S_drew)); exact Kd.S_mono HO_5.out (fun _ hk => ⟨hk.2.2.1, hk.2.2.2.1⟩)⟩, ⟨by repeat (first | (with_reducible first | exact HB.out | apply below_alloc | apply pw_below_drewN | apply below_drew1) | exact HB.out)⟩⟩
            · rw [if_neg c12] at H
              exact absurd H (by simp)

end Go.Proofs.Ytbiiklkkfkipeaa.X

/- What the functions of the program come to, and that they do: written by this session's program wip/xprint.py out of the translation; parts named extern are typed by hand. -/
namespace Go.Proofs.Ytbiiklkkfkipeaa.X
open Go.RowKit Go.Proofs.YtbiiklkkfkipeaaW.PrintWords Go.Proofs.YtbiiklkkfkipeaaW.PrintLast Go.Proofs.YtbiiklkkfkipeaaW.PrintMore
attribute [local go_sem] max2_int min2_int max_two min_two max_three min_three max_four min_four   -- for this text's walks alone
set_option linter.unusedVariables false
set_option linter.unusedSimpArgs false

/-! ### impl_RoundMessages: function 34 -/
def impl_RoundMessages.f (k : Nat) (l0 : List Int) : Option (Int × Bool) := (impl_AreNames.f k l0).bind fun t390 => (if t390 = true then ((impl_survivors.f k l0).bind fun t391 => (some (wrap64 ((wrap64 (2 * (l0.length : Int))) * (wrap64 ((t391.length : Int) - 1))), true))) else (some (0, false)))
theorem impl_RoundMessages.mono : ∀ a0 k, LeO (impl_RoundMessages.f k a0) (impl_RoundMessages.f (k + 1) a0) := by
  intro a0 k
  unfold impl_RoundMessages.f
  repeat' first
      | (with_reducible exact impl_AreNames.mono _ _)
      | (with_reducible exact impl_survivors.mono _ _)
      | (with_reducible exact LeO.refl _)
      | (with_reducible exact LeO.none _)
      | (with_reducible refine LeO.ite ?_ ?_)
      | (with_reducible refine LeO.bind ?_ (fun _ => ?_))
      | exact impl_AreNames.mono _ _
      | exact impl_survivors.mono _ _
      | exact LeO.none _
      | refine LeO.ite ?_ ?_
      | refine LeO.bind ?_ (fun _ => ?_)
set_option maxHeartbeats 8000000 in
set_option maxRecDepth 100000 in
theorem impl_RoundMessages.calls (k : Nat) (A0 : Option Addr) (c0 : Nat) (l0 : List Int) (r1 : Int) (r2 : Bool) (w : World) (hr0 : Kd.C (Kd.int .i64) w A0 l0.length l0) (hc0 : l0.length ≤ c0) (h : impl_RoundMessages.f k l0 = some (r1, r2)) :
    Calls Try.prog 34 #[.slice A0 l0.length c0] w fun e w' => e = .returned (.tuple #[.int .i64 r1, .bool r2]) ∧ Below w.heap.size w w' := by
  have HR0 := Aside0.mk hr0
  have HC0 := Aside0.mk hc0
  clear hr0 hc0
  have HB := Aside0.mk (Below.refl w.heap.size w)
  have H : ((impl_AreNames.f k l0).bind fun t390 => (if t390 = true then ((impl_survivors.f k l0).bind fun t391 => (some (wrap64 ((wrap64 (2 * (l0.length : Int))) * (wrap64 ((t391.length : Int) - 1))), true))) else (some (0, false)))) = some (r1, r2) := h
  clear h
  replace H := Option.bind_eq_some_iff.mp H
  obtain ⟨t390, A20, H⟩ := H
  replace H : (if t390 = true then ((impl_survivors.f k l0).bind fun t391 => (some (wrap64 ((wrap64 (2 * (l0.length : Int))) * (wrap64 ((t391.length : Int) - 1))), true))) else (some (0, false))) = some (r1, r2) := H
  have A2 := Aside0.mk A20
  clear A20
  by_cases c3 : t390 = true
  · subst c3
    have H1 : ((impl_survivors.f k l0).bind fun t391 => (some (wrap64 ((wrap64 (2 * (l0.length : Int))) * (wrap64 ((t391.length : Int) - 1))), true))) = some (r1, r2) := by rw [if_pos rfl] at H; exact H
    clear H
    have H := H1
    clear H1
    replace H := Option.bind_eq_some_iff.mp H
    obtain ⟨t391, A40, H⟩ := H
    replace H : (some (wrap64 ((wrap64 (2 * (l0.length : Int))) * (wrap64 ((t391.length : Int) - 1))), true)) = some (r1, r2) := H
    have A4 := Aside0.mk A40
    clear A40
    simp only [Option.some.injEq, Prod.mk.injEq] at H
    obtain ⟨rfl, rfl⟩ := H
    go_enter Try.func34, Try.ntmps34
    go_wp2_with (first | ((with_reducible refine gate_callee (f := 19) rfl ?_); refine goesL_ (some 5) rfl rfl Try.func19 (by kernel_rfl) rfl #[.slice A0 l0.length c0] rfl (by (try simp only [List.map_toArray, List.map_cons, List.map_nil]); first | done | rfl | (simp only [List.length_drop, List.length_take]; rfl)) ?_; (with_reducible refine (impl_AreNames.calls k _ _ l0 true _ ?side1 ?side2 A2.out).mono ?_); (case side1 => repeat (first | exact HR0.out | (with_reducible refine Kd.C_alloc ?_ _) | (with_reducible refine Kd.C_drewN ?_ _) | (with_reducible refine Kd.C_drew ?_))); (case side2 => exact HC0.out); rintro e w5 ⟨rfl, hb⟩; refine ⟨_, rfl, ?_⟩; have n0_ := Aside0.mk (below_step (by repeat (first | (with_reducible first | exact HB.out | apply below_alloc | apply pw_below_drewN | apply below_drew1) | exact HB.out)) hb); clear HB; have HB := n0_; clear n0_; (try clear hb); (try clear hb2); (try clear hk); (try clear hi)) | ((with_reducible refine gate_callee (f := 66) rfl ?_); refine goesL_ (some 11) rfl rfl Try.func66 (by kernel_rfl) rfl #[.slice A0 l0.length c0] rfl (by (try simp only [List.map_toArray, List.map_cons, List.map_nil]); first | done | rfl | (simp only [List.length_drop, List.length_take]; rfl)) ?_; (with_reducible refine (impl_survivors.calls k _ _ l0 t391 _ ?side1 ?side2 A4.out).mono ?_); (case side1 => repeat (first | exact (Kd.C_below HR0.out HB.out) | (with_reducible refine Kd.C_alloc ?_ _) | (with_reducible refine Kd.C_drewN ?_ _) | (with_reducible refine Kd.C_drew ?_))); (case side2 => exact HC0.out); rintro e w6 ⟨v392, rfl, ho0, hb⟩; refine ⟨_, rfl, ?_⟩; have n0_ := Aside0.mk (Kd.S_lower ho0 (below_size (by repeat (first | (with_reducible first | exact HB.out | apply below_alloc | apply pw_below_drewN | apply below_drew1) | exact HB.out)))); have n1_ := Aside0.mk (below_step (by repeat (first | (with_reducible first | exact HB.out | apply below_alloc | apply pw_below_drewN | apply below_drew1) | exact HB.out)) hb); clear HB; have HO393 := n0_; have HB := n1_; clear n0_ n1_; (try clear hb); (try clear hb2); (try clear hk); (try clear hi); (try clear ho0); obtain ⟨Ao7, co7, eo7⟩ := Kd.S_slice HO393.out; subst eo7))
    go_ret2
    exact ⟨by first | rfl | (simp [errW_none, errW_some] <;> rfl) | (simp [*, errW_none, errW_some] <;> rfl), by repeat (first | (with_reducible first | exact HB.out | apply below_alloc | apply pw_below_drewN | apply below_drew1) | exact HB.out)⟩
  · replace c3 := Bool.eq_false_iff.mpr c3
    subst c3
    have H1 : (some (0, false)) = some (r1, r2) := by rw [if_neg (show ¬ (false = true) by decide)] at H; exact H
    clear H
    have H := H1
    clear H1
    simp only [Option.some.injEq, Prod.mk.injEq] at H
    obtain ⟨rfl, rfl⟩ := H
    go_enter Try.func34, Try.ntmps34
    go_wp2_with (first | ((with_reducible refine gate_callee (f := 19) rfl ?_); refine goesL_ (some 5) rfl rfl Try.func19 (by kernel_rfl) rfl #[.slice A0 l0.length c0] rfl (by (try simp only [List.map_toArray, List.map_cons, List.map_nil]); first | done | rfl | (simp only [List.length_drop, List.length_take]; rfl)) ?_; (with_reducible refine (impl_AreNames.calls k _ _ l0 false _ ?side1 ?side2 A2.out).mono ?_); (case side1 => repeat (first | exact HR0.out | (with_reducible refine Kd.C_alloc ?_ _) | (with_reducible refine Kd.C_drewN ?_ _) | (with_reducible refine Kd.C_drew ?_))); (case side2 => exact HC0.out); rintro e w8 ⟨rfl, hb⟩; refine ⟨_, rfl, ?_⟩; have n0_ := Aside0.mk (below_step (by repeat (first | (with_reducible first | exact HB.out | apply below_alloc | apply pw_below_drewN | apply below_drew1) | exact HB.out)) hb); clear HB; have HB := n0_; clear n0_; (try clear hb); (try clear hb2); (try clear hk); (try clear hi)))
    go_ret2
    exact ⟨by first | rfl | (simp [errW_none, errW_some] <;> rfl) | (simp [*, errW_none, errW_some] <;> rfl), by repeat (first | (with_reducible first | exact HB.out | apply below_alloc | apply pw_below_drewN | apply below_drew1) | exact HB.out)⟩
end Go.Proofs.Ytbiiklkkfkipeaa.X

/- What the functions of the program come to, and that they do: written by this session's program wip/xprint.py out of the translation; parts named extern are typed by hand. -/
namespace Go.Proofs.Ytbiiklkkfkipeaa.X
open Go.RowKit Go.Proofs.YtbiiklkkfkipeaaW.PrintWords Go.Proofs.YtbiiklkkfkipeaaW.PrintLast Go.Proofs.YtbiiklkkfkipeaaW.PrintMore
attribute [local go_sem] max2_int min2_int max_two min_two max_three min_three max_four min_four   -- for this text's walks alone
set_option linter.unusedVariables false
set_option linter.unusedSimpArgs false
end Go.Proofs.Ytbiiklkkfkipeaa.X

/- What the functions of the program come to, and that they do: written by this session's program wip/xprint.py out of the translation; parts named extern are typed by hand. -/
namespace Go.Proofs.Ytbiiklkkfkipeaa.X
open Go.RowKit Go.Proofs.YtbiiklkkfkipeaaW.PrintWords Go.Proofs.YtbiiklkkfkipeaaW.PrintLast Go.Proofs.YtbiiklkkfkipeaaW.PrintMore
attribute [local go_sem] max2_int min2_int max_two min_two max_three min_three max_four min_four   -- for this text's walks alone
set_option linter.unusedVariables false
set_option linter.unusedSimpArgs false
end Go.Proofs.Ytbiiklkkfkipeaa.X

/- What the functions of the program come to, and that they do: written by this session's program wip/xprint.py out of the translation; parts named extern are typed by hand. -/
namespace Go.Proofs.Ytbiiklkkfkipeaa.X
open Go.RowKit Go.Proofs.YtbiiklkkfkipeaaW.PrintWords Go.Proofs.YtbiiklkkfkipeaaW.PrintLast Go.Proofs.YtbiiklkkfkipeaaW.PrintMore
attribute [local go_sem] max2_int min2_int max_two min_two max_three min_three max_four min_four   -- for this text's walks alone
set_option linter.unusedVariables false
set_option linter.unusedSimpArgs false
end Go.Proofs.Ytbiiklkkfkipeaa.X

/- What the functions of the program come to, and that they do: written by this session's program wip/xprint.py out of the translation; parts named extern are typed by hand. -/
namespace Go.Proofs.Ytbiiklkkfkipeaa.X
open Go.RowKit Go.Proofs.YtbiiklkkfkipeaaW.PrintWords Go.Proofs.YtbiiklkkfkipeaaW.PrintLast Go.Proofs.YtbiiklkkfkipeaaW.PrintMore
attribute [local go_sem] max2_int min2_int max_two min_two max_three min_three max_four min_four   -- for this text's walks alone
set_option linter.unusedVariables false
set_option linter.unusedSimpArgs false

/-! ### spec_SurvivorsOf: function 37 -/
def spec_SurvivorsOf.f (k : Nat) (l0 : List Int) : Option ((List (List Int)) × Bool) := (spec_elNames.f k l0).bind fun t460 => (if t460 = true then ((spec_elSurvivors.f k l0).bind fun t461 => (some (t461, true))) else (some (([] : List (List Int)), false)))
theorem spec_SurvivorsOf.mono : ∀ a0 k, LeO (spec_SurvivorsOf.f k a0) (spec_SurvivorsOf.f (k + 1) a0) := by
  intro a0 k
  unfold spec_SurvivorsOf.f
  repeat' first
      | (with_reducible exact spec_elNames.mono _ _)
      | (with_reducible exact spec_elSurvivors.mono _ _)
      | (with_reducible exact LeO.refl _)
      | (with_reducible exact LeO.none _)
      | (with_reducible refine LeO.ite ?_ ?_)
      | (with_reducible refine LeO.bind ?_ (fun _ => ?_))
      | exact spec_elNames.mono _ _
      | exact spec_elSurvivors.mono _ _
      | exact LeO.none _
      | refine LeO.ite ?_ ?_
      | refine LeO.bind ?_ (fun _ => ?_)
set_option maxHeartbeats 8000000 in
set_option maxRecDepth 100000 in
theorem spec_SurvivorsOf.calls (k : Nat) (A0 : Option Addr) (c0 : Nat) (l0 : List Int) (r1 : List (List Int)) (r2 : Bool) (w : World) (hr0 : Kd.C (Kd.int .i64) w A0 l0.length l0) (hc0 : l0.length ≤ c0) (h : spec_SurvivorsOf.f k l0 = some (r1, r2)) :
    Calls Try.prog 37 #[.slice A0 l0.length c0] w fun e w' => ∃ v0_ : Value, e = .returned (.tuple #[v0_, .bool r2]) ∧ Kd.S (Kd.slice 3 (Kd.int .i64)) 25 w' w.heap.size (fun _ => True) v0_ r1 ∧ Below w.heap.size w w' := by
  have HR0 := Aside0.mk hr0
  have HC0 := Aside0.mk hc0
  clear hr0 hc0
  have HB := Aside0.mk (Below.refl w.heap.size w)
  have H : ((spec_elNames.f k l0).bind fun t460 => (if t460 = true then ((spec_elSurvivors.f k l0).bind fun t461 => (some (t461, true))) else (some (([] : List (List Int)), false)))) = some (r1, r2) := h
  clear h
  replace H := Option.bind_eq_some_iff.mp H
  obtain ⟨t460, A20, H⟩ := H
  replace H : (if t460 = true then ((spec_elSurvivors.f k l0).bind fun t461 => (some (t461, true))) else (some (([] : List (List Int)), false))) = some (r1, r2) := H
  have A2 := Aside0.mk A20
  clear A20
  by_cases c3 : t460 = true
  · subst c3
    have H1 : ((spec_elSurvivors.f k l0).bind fun t461 => (some (t461, true))) = some (r1, r2) := by rw [if_pos rfl] at H; exact H
    clear H
    have H := H1
    clear H1
    replace H := Option.bind_eq_some_iff.mp H
    obtain ⟨t461, A40, H⟩ := H
    replace H : (some (t461, true)) = some (r1, r2) := H
    have A4 := Aside0.mk A40
    clear A40
    simp only [Option.some.injEq, Prod.mk.injEq] at H
    obtain ⟨rfl, rfl⟩ := H
    go_enter Try.func37, Try.ntmps37
    go_wp2_with (first | ((with_reducible refine gate_callee (f := 53) rfl ?_); refine goesL_ (some 5) rfl rfl Try.func53 (by kernel_rfl) rfl #[.slice A0 l0.length c0] rfl (by (try simp only [List.map_toArray, List.map_cons, List.map_nil]); first | done | rfl | (simp only [List.length_drop, List.length_take]; rfl)) ?_; (with_reducible refine (spec_elNames.calls k _ _ l0 true _ ?side1 ?side2 A2.out).mono ?_); (case side1 => repeat (first | exact HR0.out | (with_reducible refine Kd.C_alloc ?_ _) | (with_reducible refine Kd.C_drewN ?_ _) | (with_reducible refine Kd.C_drew ?_))); (case side2 => exact HC0.out); rintro e w' ⟨rfl, ⟨nd, rfl⟩⟩; refine ⟨_, rfl, ?_⟩) | ((with_reducible refine gate_callee (f := 65) rfl ?_); refine goesL_ (some 8) rfl rfl Try.func65 (by kernel_rfl) rfl #[.slice A0 l0.length c0] rfl (by (try simp only [List.map_toArray, List.map_cons, List.map_nil]); first | done | rfl | (simp only [List.length_drop, List.length_take]; rfl)) ?_; (with_reducible refine (spec_elSurvivors.calls k _ _ l0 t461 _ ?side1 ?side2 A4.out).mono ?_); (case side1 => repeat (first | exact HR0.out | (with_reducible refine Kd.C_alloc ?_ _) | (with_reducible refine Kd.C_drewN ?_ _) | (with_reducible refine Kd.C_drew ?_))); (case side2 => exact HC0.out); rintro e w5 ⟨v462, rfl, ho0, hb⟩; refine ⟨_, rfl, ?_⟩; have n0_ := Aside0.mk (Kd.S_lower ho0 (below_size (by repeat (first | (with_reducible first | exact HB.out | apply below_alloc | apply pw_below_drewN | apply below_drew1) | exact HB.out)))); have n1_ := Aside0.mk (below_step (by repeat (first | (with_reducible first | exact HB.out | apply below_alloc | apply pw_below_drewN | apply below_drew1) | exact HB.out)) hb); clear HB; have HO463 := n0_; have HB := n1_; clear n0_ n1_; (try clear hb); (try clear hb2); (try clear hk); (try clear hi); (try clear ho0)))
    go_ret2
    exact ⟨_, by first | rfl | (simp [errW_none, errW_some] <;> rfl) | (simp [*, errW_none, errW_some] <;> rfl), by (with_reducible repeat (first | apply Kd.S_alloc | apply Kd.S_drewN | apply Kd.S_drew)); exact HO463.out, by repeat (first | (with_reducible first | exact HB.out | apply below_alloc | apply pw_below_drewN | apply below_drew1) | exact HB.out)⟩
  · replace c3 := Bool.eq_false_iff.mpr c3
    subst c3
    have H1 : (some (([] : List (List Int)), false)) = some (r1, r2) := by rw [if_neg (show ¬ (false = true) by decide)] at H; exact H
    clear H
    have H := H1
    clear H1
    simp only [Option.some.injEq, Prod.mk.injEq] at H
    obtain ⟨rfl, rfl⟩ := H
    go_enter Try.func37, Try.ntmps37
    go_wp2_with (first | ((with_reducible refine gate_callee (f := 53) rfl ?_); refine goesL_ (some 5) rfl rfl Try.func53 (by kernel_rfl) rfl #[.slice A0 l0.length c0] rfl (by (try simp only [List.map_toArray, List.map_cons, List.map_nil]); first | done | rfl | (simp only [List.length_drop, List.length_take]; rfl)) ?_; (with_reducible refine (spec_elNames.calls k _ _ l0 false _ ?side1 ?side2 A2.out).mono ?_); (case side1 => repeat (first | exact HR0.out | (with_reducible refine Kd.C_alloc ?_ _) | (with_reducible refine Kd.C_drewN ?_ _) | (with_reducible refine Kd.C_drew ?_))); (case side2 => exact HC0.out); rintro e w' ⟨rfl, ⟨nd, rfl⟩⟩; refine ⟨_, rfl, ?_⟩))
    go_ret2
    exact ⟨_, by first | rfl | (simp [errW_none, errW_some] <;> rfl) | (simp [*, errW_none, errW_some] <;> rfl), by first | exact Kd.S_nil _ _ _ _ _ | exact Kd.N_nil _ _ _ _ _ | exact Kd.V_nil _ _ _ _ _ | exact Kd.Q_nil _ _ _ _ _ | exact Kd.R_nil _ _ _ _ _, by repeat (first | (with_reducible first | exact HB.out | apply below_alloc | apply pw_below_drewN | apply below_drew1) | exact HB.out)⟩

end Go.Proofs.Ytbiiklkkfkipeaa.X

/- What the functions of the program come to, and that they do: written by this session's program wip/xprint.py out of the translation; parts named extern are typed by hand. -/
namespace Go.Proofs.Ytbiiklkkfkipeaa.X
open Go.RowKit Go.Proofs.YtbiiklkkfkipeaaW.PrintWords Go.Proofs.YtbiiklkkfkipeaaW.PrintLast Go.Proofs.YtbiiklkkfkipeaaW.PrintMore
attribute [local go_sem] max2_int min2_int max_two min_two max_three min_three max_four min_four   -- for this text's walks alone
set_option linter.unusedVariables false
set_option linter.unusedSimpArgs false

/-! ### impl_SurvivorsOf: function 38 -/
def impl_SurvivorsOf.f (k : Nat) (l0 : List Int) : Option ((List (List Int)) × Bool) := (impl_AreNames.f k l0).bind fun t464 => (if t464 = true then ((impl_survivors.f k l0).bind fun t465 => (some (t465, true))) else (some (([] : List (List Int)), false)))
theorem impl_SurvivorsOf.mono : ∀ a0 k, LeO (impl_SurvivorsOf.f k a0) (impl_SurvivorsOf.f (k + 1) a0) := by
  intro a0 k
  unfold impl_SurvivorsOf.f
  repeat' first
      | (with_reducible exact impl_AreNames.mono _ _)
      | (with_reducible exact impl_survivors.mono _ _)
      | (with_reducible exact LeO.refl _)
      | (with_reducible exact LeO.none _)
      | (with_reducible refine LeO.ite ?_ ?_)
      | (with_reducible refine LeO.bind ?_ (fun _ => ?_))
      | exact impl_AreNames.mono _ _
      | exact impl_survivors.mono _ _
      | exact LeO.none _
      | refine LeO.ite ?_ ?_
      | refine LeO.bind ?_ (fun _ => ?_)
set_option maxHeartbeats 8000000 in
set_option maxRecDepth 100000 in
theorem impl_SurvivorsOf.calls (k : Nat) (A0 : Option Addr) (c0 : Nat) (l0 : List Int) (r1 : List (List Int)) (r2 : Bool) (w : World) (hr0 : Kd.C (Kd.int .i64) w A0 l0.length l0) (hc0 : l0.length ≤ c0) (h : impl_SurvivorsOf.f k l0 = some (r1, r2)) :
    Calls Try.prog 38 #[.slice A0 l0.length c0] w fun e w' => ∃ v0_ : Value, e = .returned (.tuple #[v0_, .bool r2]) ∧ Kd.S (Kd.slice 3 (Kd.int .i64)) 25 w' w.heap.size (fun _ => True) v0_ r1 ∧ Below w.heap.size w w' := by
  have HR0 := Aside0.mk hr0
  have HC0 := Aside0.mk hc0
  clear hr0 hc0
  have HB := Aside0.mk (Below.refl w.heap.size w)
  have H : ((impl_AreNames.f k l0).bind fun t464 => (if t464 = true then ((impl_survivors.f k l0).bind fun t465 => (some (t465, true))) else (some (([] : List (List Int)), false)))) = some (r1, r2) := h
  clear h
  replace H := Option.bind_eq_some_iff.mp H
  obtain ⟨t464, A20, H⟩ := H
  replace H : (if t464 = true then ((impl_survivors.f k l0).bind fun t465 => (some (t465, true))) else (some (([] : List (List Int)), false))) = some (r1, r2) := H
  have A2 := Aside0.mk A20
  clear A20
  by_cases c3 : t464 = true
  · subst c3
    have H1 : ((impl_survivors.f k l0).bind fun t465 => (some (t465, true))) = some (r1, r2) := by rw [if_pos rfl] at H; exact H
    clear H
    have H := H1
    clear H1
    replace H := Option.bind_eq_some_iff.mp H
    obtain ⟨t465, A40, H⟩ := H
    replace H : (some (t465, true)) = some (r1, r2) := H
    have A4 := Aside0.mk A40
    clear A40
    simp only [Option.some.injEq, Prod.mk.injEq] at H
    obtain ⟨rfl, rfl⟩ := H
    go_enter Try.func38, Try.ntmps38
    go_wp2_with (first | ((with_reducible refine gate_callee (f := 19) rfl ?_); refine goesL_ (some 5) rfl rfl Try.func19 (by kernel_rfl) rfl #[.slice A0 l0.length c0] rfl (by (try simp only [List.map_toArray, List.map_cons, List.map_nil]); first | done | rfl | (simp only [List.length_drop, List.length_take]; rfl)) ?_; (with_reducible refine (impl_AreNames.calls k _ _ l0 true _ ?side1 ?side2 A2.out).mono ?_); (case side1 => repeat (first | exact HR0.out | (with_reducible refine Kd.C_alloc ?_ _) | (with_reducible refine Kd.C_drewN ?_ _) | (with_reducible refine Kd.C_drew ?_))); (case side2 => exact HC0.out); rintro e w5 ⟨rfl, hb⟩; refine ⟨_, rfl, ?_⟩; have n0_ := Aside0.mk (below_step (by repeat (first | (with_reducible first | exact HB.out | apply below_alloc | apply pw_below_drewN | apply below_drew1) | exact HB.out)) hb); clear HB; have HB := n0_; clear n0_; (try clear hb); (try clear hb2); (try clear hk); (try clear hi)) | ((with_reducible refine gate_callee (f := 66) rfl ?_); refine goesL_ (some 8) rfl rfl Try.func66 (by kernel_rfl) rfl #[.slice A0 l0.length c0] rfl (by (try simp only [List.map_toArray, List.map_cons, List.map_nil]); first | done | rfl | (simp only [List.length_drop, List.length_take]; rfl)) ?_; (with_reducible refine (impl_survivors.calls k _ _ l0 t465 _ ?side1 ?side2 A4.out).mono ?_); (case side1 => repeat (first | exact (Kd.C_below HR0.out HB.out) | (with_reducible refine Kd.C_alloc ?_ _) | (with_reducible refine Kd.C_drewN ?_ _) | (with_reducible refine Kd.C_drew ?_))); (case side2 => exact HC0.out); rintro e w6 ⟨v466, rfl, ho0, hb⟩; refine ⟨_, rfl, ?_⟩; have n0_ := Aside0.mk (Kd.S_lower ho0 (below_size (by repeat (first | (with_reducible first | exact HB.out | apply below_alloc | apply pw_below_drewN | apply below_drew1) | exact HB.out)))); have n1_ := Aside0.mk (below_step (by repeat (first | (with_reducible first | exact HB.out | apply below_alloc | apply pw_below_drewN | apply below_drew1) | exact HB.out)) hb); clear HB; have HO467 := n0_; have HB := n1_; clear n0_ n1_; (try clear hb); (try clear hb2); (try clear hk); (try clear hi); (try clear ho0)))
    go_ret2
    exact ⟨_, by first | rfl | (simp [errW_none, errW_some] <;> rfl) | (simp [*, errW_none, errW_some] <;> rfl), by (with_reducible repeat (first | apply Kd.S_alloc | apply Kd.S_drewN | apply Kd.S_drew)); exact HO467.out, by repeat (first | (with_reducible first | exact HB.out | apply below_alloc | apply pw_below_drewN | apply below_drew1) | exact HB.out)⟩
  · replace c3 := Bool.eq_false_iff.mpr c3
    subst c3
    have H1 : (some (([] : List (List Int)), false)) = some (r1, r2) := by rw [if_neg (show ¬ (false = true) by decide)] at H; exact H
    clear H
    have H := H1
    clear H1
    simp only [Option.some.injEq, Prod.mk.injEq] at H
    obtain ⟨rfl, rfl⟩ := H
    go_enter Try.func38, Try.ntmps38
    go_wp2_with (first | ((with_reducible refine gate_callee (f := 19) rfl ?_); refine goesL_ (some 5) rfl rfl Try.func19 (by kernel_rfl) rfl #[.slice A0 l0.length c0] rfl (by (try simp only [List.map_toArray, List.map_cons, List.map_nil]); first | done | rfl | (simp only [List.length_drop, List.length_take]; rfl)) ?_; (with_reducible refine (impl_AreNames.calls k _ _ l0 false _ ?side1 ?side2 A2.out).mono ?_); (case side1 => repeat (first | exact HR0.out | (with_reducible refine Kd.C_alloc ?_ _) | (with_reducible refine Kd.C_drewN ?_ _) | (with_reducible refine Kd.C_drew ?_))); (case side2 => exact HC0.out); rintro e w7 ⟨rfl, hb⟩; refine ⟨_, rfl, ?_⟩; have n0_ := Aside0.mk (below_step (by repeat (first | (with_reducible first | exact HB.out | apply below_alloc | apply pw_below_drewN | apply below_drew1) | exact HB.out)) hb); clear HB; have HB := n0_; clear n0_; (try clear hb); (try clear hb2); (try clear hk); (try clear hi)))
    go_ret2
    exact ⟨_, by first | rfl | (simp [errW_none, errW_some] <;> rfl) | (simp [*, errW_none, errW_some] <;> rfl), by first | exact Kd.S_nil _ _ _ _ _ | exact Kd.N_nil _ _ _ _ _ | exact Kd.V_nil _ _ _ _ _ | exact Kd.Q_nil _ _ _ _ _ | exact Kd.R_nil _ _ _ _ _, by repeat (first | (with_reducible first | exact HB.out | apply below_alloc | apply pw_below_drewN | apply below_drew1) | exact HB.out)⟩

/-! ### laws_eqIntSS: function 39 -/
def laws_eqIntSS.l0 : Nat → List (List Int) → List (List Int) → Int → Option (Bool)
  | 0, _, _, _ => none
  | k + 1, x0, x1, x5 => if x5 < (x0.length : Int) then (if 0 ≤ x5 then (if x5 < (x1.length : Int) then ((laws_eqIntS.f k (rd_L2 x0 x5) (rd_L2 x1 x5)).bind fun t470 => (if t470 = true then (laws_eqIntSS.l0 k x0 x1 (wrap64 (x5 + 1))) else (some false))) else (none)) else (none)) else (some true)
def laws_eqIntSS.f (k : Nat) (l0 : List (List Int)) (l1 : List (List Int)) : Option (Bool) := if (l0.length : Int) = (l1.length : Int) then (laws_eqIntSS.l0 k l0 l1 0) else (some false)
theorem laws_eqIntSS.mono_l : ∀ k, (∀ y0 y1 y2, LeO (laws_eqIntSS.l0 k y0 y1 y2) (laws_eqIntSS.l0 (k + 1) y0 y1 y2))
  | 0 => fun _ _ _ r h => by simp [laws_eqIntSS.l0] at h
  | k + 1 => by
    have ih0 := laws_eqIntSS.mono_l k
    · intro y0 y1 y2
      unfold laws_eqIntSS.l0
      repeat' first
      | (with_reducible exact ih0 _ _ _)
      | (with_reducible exact laws_eqIntS.mono _ _ _)
      | (with_reducible exact LeO.refl _)
      | (with_reducible exact LeO.none _)
      | (with_reducible refine LeO.ite ?_ ?_)
      | (with_reducible refine LeO.bind ?_ (fun _ => ?_))
      | exact ih0 _ _ _
      | exact laws_eqIntS.mono _ _ _
      | exact LeO.none _
      | refine LeO.ite ?_ ?_
      | refine LeO.bind ?_ (fun _ => ?_)
theorem laws_eqIntSS.mono : ∀ a0 a1 k, LeO (laws_eqIntSS.f k a0 a1) (laws_eqIntSS.f (k + 1) a0 a1) := by
  intro a0 a1 k
  have ih0 := laws_eqIntSS.mono_l k
  unfold laws_eqIntSS.f
  repeat' first
      | (with_reducible exact ih0 _ _ _)
      | (with_reducible exact laws_eqIntS.mono _ _ _)
      | (with_reducible exact LeO.refl _)
      | (with_reducible exact LeO.none _)
      | (with_reducible refine LeO.ite ?_ ?_)
      | (with_reducible refine LeO.bind ?_ (fun _ => ?_))
      | exact ih0 _ _ _
      | exact laws_eqIntS.mono _ _ _
      | exact LeO.none _
      | refine LeO.ite ?_ ?_
      | refine LeO.bind ?_ (fun _ => ?_)
set_option maxHeartbeats 8000000 in
set_option maxRecDepth 100000 in
theorem laws_eqIntSS.calls (k : Nat) (A0 : Option Addr) (c0 : Nat) (l0 : List (List Int)) (A1 : Option Addr) (c1 : Nat) (l1 : List (List Int)) (r : Bool) (w : World) (hr0 : Kd.C (Kd.slice 3 (Kd.int .i64)) w A0 l0.length l0) (hc0 : l0.length ≤ c0) (hr1 : Kd.C (Kd.slice 3 (Kd.int .i64)) w A1 l1.length l1) (hc1 : l1.length ≤ c1) (h : laws_eqIntSS.f k l0 l1 = some r) :
    Calls Try.prog 39 #[.slice A0 l0.length c0, .slice A1 l1.length c1] w fun e w' => e = .returned (.bool r) ∧ Drawn0 w w' := by
  have HR0 := Aside0.mk hr0
  have HC0 := Aside0.mk hc0
  clear hr0 hc0
  have HR1 := Aside0.mk hr1
  have HC1 := Aside0.mk hc1
  clear hr1 hc1
  have H : (if (l0.length : Int) = (l1.length : Int) then (laws_eqIntSS.l0 k l0 l1 0) else (some false)) = some r := h
  clear h
  by_cases c3 : (l0.length : Int) = (l1.length : Int)
  · rw [if_pos c3] at H
    have c3b0 : ((l0.length : Int) == (l1.length : Int)) = true := beq_iff_eq.mpr c3
    have c3b1 : ((l0.length : Int) != (l1.length : Int)) = false := bne_eq_false_iff_eq.mpr c3
    have c3b2 : (l0.length == l1.length) = true := by first | simpa using c3 | (simp at c3 ⊢; omega)
    clear c3
    have H' := Aside0.mk H
    clear H
    go_enter Try.func39, Try.ntmps39
    go_wp2
    repeat (go_quiet (fail); try go_wp2)
    go_loopg [5] k (fun kq v5 w' => ∃ (x5_1 : Int), v5 = .int .i64 x5_1 ∧ Aside0 (laws_eqIntSS.l0 kq l0 l1 x5_1 = some r) ∧ Aside0 (kq ≤ k) ∧ Drawn0 w w')
    case atStart => exact ⟨(0), (by first | rfl | (simp; done) | (simp [*]; done)), H', ⟨Nat.le_refl _⟩, by repeat (first | exact Drawn0.refl _ | apply Drawn0.step)⟩
    case round =>
      clear H'
      try clear c1
      try clear p2
      try clear c3
      try clear c3b0
      try clear c3b1
      try clear c3b2
      obtain ⟨x5_1, rfl, HA, HK1, ⟨m1, rfl⟩⟩ := hrel
      cases gk with
      | zero => exact absurd HA.out (by simp [laws_eqIntSS.l0])
      | succ k1 =>
        have H := HA.out
        clear HA
        simp only [laws_eqIntSS.l0] at H
        by_cases c4 : x5_1 < (l0.length : Int)
        · rw [if_pos c4] at H
          have c4b0 : decide (x5_1 < (l0.length : Int)) = true := decide_eq_true c4
          clear c4
          by_cases c5 : 0 ≤ x5_1
          · rw [if_pos c5] at H
            have c5b0 : decide (0 ≤ x5_1) = true := decide_eq_true c5
            clear c5
            by_cases c6 : x5_1 < (l1.length : Int)
            · rw [if_pos c6] at H
              have c6b0 : decide (x5_1 < (l1.length : Int)) = true := decide_eq_true c6
              clear c6
              replace H := Option.bind_eq_some_iff.mp H
              obtain ⟨t470, A70, H⟩ := H
              replace H : (if t470 = true then (laws_eqIntSS.l0 k1 l0 l1 (wrap64 (x5_1 + 1))) else (some false)) = some r := H
              have A7 := Aside0.mk A70
              clear A70
              by_cases c8 : t470 = true
              · subst c8
                have H1 : (laws_eqIntSS.l0 k1 l0 l1 (wrap64 (x5_1 + 1))) = some r := by rw [if_pos rfl] at H; exact H
                clear H
                have H := H1
                clear H1
                have H' := Aside0.mk H
                clear H
                have p468 : 0 ≤ (x5_1 : Int) := of_decide_eq_true (by first | (with_reducible assumption) | assumption)
                have q468 : x5_1 < (l0.length : Int) := of_decide_eq_true (by first | (with_reducible assumption) | assumption)
                obtain ⟨ad468, A468_0, c468_0, e468, hx468_0, hl468_0, hi468_0⟩ := at_L2 HR0.out x5_1 p468 q468
                cases e468
                have HR468_0 := Aside0.mk hi468_0
                have HC468_0 := Aside0.mk hl468_0
                clear hi468_0 hl468_0
                replace p468 := eq_true p468
                replace q468 := eq_true q468
                have p469 : 0 ≤ (x5_1 : Int) := of_decide_eq_true (by first | (with_reducible assumption) | assumption)
                have q469 : x5_1 < (l1.length : Int) := of_decide_eq_true (by first | (with_reducible assumption) | assumption)
                obtain ⟨ad469, A469_0, c469_0, e469, hx469_0, hl469_0, hi469_0⟩ := at_L2 HR1.out x5_1 p469 q469
                cases e469
                have HR469_0 := Aside0.mk hi469_0
                have HC469_0 := Aside0.mk hl469_0
                clear hi469_0 hl469_0
                replace p469 := eq_true p469
                replace q469 := eq_true q469
                go_wp2_with (first | (go_at_call 20; (with_reducible refine (laws_eqIntS.calls k1 _ _ (rd_L2 l0 x5_1) _ _ (rd_L2 l1 x5_1) true _ ?side1 ?side2 ?side3 ?side4 A7.out).mono ?_); (case side1 => repeat (first | exact HR468_0.out | (with_reducible refine Kd.C_alloc ?_ _) | (with_reducible refine Kd.C_drewN ?_ _) | (with_reducible refine Kd.C_drew ?_))); (case side2 => exact HC468_0.out); (case side3 => repeat (first | exact HR469_0.out | (with_reducible refine Kd.C_alloc ?_ _) | (with_reducible refine Kd.C_drewN ?_ _) | (with_reducible refine Kd.C_drew ?_))); (case side4 => exact HC469_0.out); rintro e w' ⟨rfl, ⟨nd, rfl⟩⟩; (try first | exact ⟨rfl, _, World.drewN_drewN _ _ _⟩ | exact ⟨rfl, _, Eq.trans (World.drewN_drewN _ _ _) (congrArg (World.drewN _) (Nat.add_assoc _ _ _))⟩)))
                repeat (go_quiet (first | (go_at_call 20; (with_reducible refine (laws_eqIntS.calls k1 _ _ (rd_L2 l0 x5_1) _ _ (rd_L2 l1 x5_1) true _ ?side1 ?side2 ?side3 ?side4 A7.out).mono ?_); (case side1 => repeat (first | exact HR468_0.out | (with_reducible refine Kd.C_alloc ?_ _) | (with_reducible refine Kd.C_drewN ?_ _) | (with_reducible refine Kd.C_drew ?_))); (case side2 => exact HC468_0.out); (case side3 => repeat (first | exact HR469_0.out | (with_reducible refine Kd.C_alloc ?_ _) | (with_reducible refine Kd.C_drewN ?_ _) | (with_reducible refine Kd.C_drew ?_))); (case side4 => exact HC469_0.out); rintro e w' ⟨rfl, ⟨nd, rfl⟩⟩; (try first | exact ⟨rfl, _, World.drewN_drewN _ _ _⟩ | exact ⟨rfl, _, Eq.trans (World.drewN_drewN _ _ _) (congrArg (World.drewN _) (Nat.add_assoc _ _ _))⟩))); try go_wp2_with (first | (go_at_call 20; (with_reducible refine (laws_eqIntS.calls k1 _ _ (rd_L2 l0 x5_1) _ _ (rd_L2 l1 x5_1) true _ ?side1 ?side2 ?side3 ?side4 A7.out).mono ?_); (case side1 => repeat (first | exact HR468_0.out | (with_reducible refine Kd.C_alloc ?_ _) | (with_reducible refine Kd.C_drewN ?_ _) | (with_reducible refine Kd.C_drew ?_))); (case side2 => exact HC468_0.out); (case side3 => repeat (first | exact HR469_0.out | (with_reducible refine Kd.C_alloc ?_ _) | (with_reducible refine Kd.C_drewN ?_ _) | (with_reducible refine Kd.C_drew ?_))); (case side4 => exact HC469_0.out); rintro e w' ⟨rfl, ⟨nd, rfl⟩⟩; (try first | exact ⟨rfl, _, World.drewN_drewN _ _ _⟩ | exact ⟨rfl, _, Eq.trans (World.drewN_drewN _ _ _) (congrArg (World.drewN _) (Nat.add_assoc _ _ _))⟩))))
                go_roundg k1
                case measure => have := HK1.out; omega
                case rel => exact ⟨(wrap64 (x5_1 + 1)), (by first | rfl | (simp; done) | (simp [*]; done)), H', ⟨by have := HK1.out; omega⟩, by repeat (first | exact Drawn0.refl _ | apply Drawn0.step)⟩
              · replace c8 := Bool.eq_false_iff.mpr c8
                subst c8
                have H1 : (some false) = some r := by rw [if_neg (show ¬ (false = true) by decide)] at H; exact H
                clear H
                have H := H1
                clear H1
                obtain rfl := Option.some.inj H
                have p468 : 0 ≤ (x5_1 : Int) := of_decide_eq_true (by first | (with_reducible assumption) | assumption)
                have q468 : x5_1 < (l0.length : Int) := of_decide_eq_true (by first | (with_reducible assumption) | assumption)
                obtain ⟨ad468, A468_0, c468_0, e468, hx468_0, hl468_0, hi468_0⟩ := at_L2 HR0.out x5_1 p468 q468
                cases e468
                have HR468_0 := Aside0.mk hi468_0
                have HC468_0 := Aside0.mk hl468_0
                clear hi468_0 hl468_0
                replace p468 := eq_true p468
                replace q468 := eq_true q468
                have p469 : 0 ≤ (x5_1 : Int) := of_decide_eq_true (by first | (with_reducible assumption) | assumption)
                have q469 : x5_1 < (l1.length : Int) := of_decide_eq_true (by first | (with_reducible assumption) | assumption)
                obtain ⟨ad469, A469_0, c469_0, e469, hx469_0, hl469_0, hi469_0⟩ := at_L2 HR1.out x5_1 p469 q469
                cases e469
                have HR469_0 := Aside0.mk hi469_0
                have HC469_0 := Aside0.mk hl469_0
                clear hi469_0 hl469_0
                replace p469 := eq_true p469
                replace q469 := eq_true q469
                go_wp2_with (first | (go_at_call 20; (with_reducible refine (laws_eqIntS.calls k1 _ _ (rd_L2 l0 x5_1) _ _ (rd_L2 l1 x5_1) false _ ?side1 ?side2 ?side3 ?side4 A7.out).mono ?_); (case side1 => repeat (first | exact HR468_0.out | (with_reducible refine Kd.C_alloc ?_ _) | (with_reducible refine Kd.C_drewN ?_ _) | (with_reducible refine Kd.C_drew ?_))); (case side2 => exact HC468_0.out); (case side3 => repeat (first | exact HR469_0.out | (with_reducible refine Kd.C_alloc ?_ _) | (with_reducible refine Kd.C_drewN ?_ _) | (with_reducible refine Kd.C_drew ?_))); (case side4 => exact HC469_0.out); rintro e w' ⟨rfl, ⟨nd, rfl⟩⟩; (try first | exact ⟨rfl, _, World.drewN_drewN _ _ _⟩ | exact ⟨rfl, _, Eq.trans (World.drewN_drewN _ _ _) (congrArg (World.drewN _) (Nat.add_assoc _ _ _))⟩)))
                repeat (go_quiet (first | (go_at_call 20; (with_reducible refine (laws_eqIntS.calls k1 _ _ (rd_L2 l0 x5_1) _ _ (rd_L2 l1 x5_1) false _ ?side1 ?side2 ?side3 ?side4 A7.out).mono ?_); (case side1 => repeat (first | exact HR468_0.out | (with_reducible refine Kd.C_alloc ?_ _) | (with_reducible refine Kd.C_drewN ?_ _) | (with_reducible refine Kd.C_drew ?_))); (case side2 => exact HC468_0.out); (case side3 => repeat (first | exact HR469_0.out | (with_reducible refine Kd.C_alloc ?_ _) | (with_reducible refine Kd.C_drewN ?_ _) | (with_reducible refine Kd.C_drew ?_))); (case side4 => exact HC469_0.out); rintro e w' ⟨rfl, ⟨nd, rfl⟩⟩; (try first | exact ⟨rfl, _, World.drewN_drewN _ _ _⟩ | exact ⟨rfl, _, Eq.trans (World.drewN_drewN _ _ _) (congrArg (World.drewN _) (Nat.add_assoc _ _ _))⟩))); try go_wp2_with (first | (go_at_call 20; (with_reducible refine (laws_eqIntS.calls k1 _ _ (rd_L2 l0 x5_1) _ _ (rd_L2 l1 x5_1) false _ ?side1 ?side2 ?side3 ?side4 A7.out).mono ?_); (case side1 => repeat (first | exact HR468_0.out | (with_reducible refine Kd.C_alloc ?_ _) | (with_reducible refine Kd.C_drewN ?_ _) | (with_reducible refine Kd.C_drew ?_))); (case side2 => exact HC468_0.out); (case side3 => repeat (first | exact HR469_0.out | (with_reducible refine Kd.C_alloc ?_ _) | (with_reducible refine Kd.C_drewN ?_ _) | (with_reducible refine Kd.C_drew ?_))); (case side4 => exact HC469_0.out); rintro e w' ⟨rfl, ⟨nd, rfl⟩⟩; (try first | exact ⟨rfl, _, World.drewN_drewN _ _ _⟩ | exact ⟨rfl, _, Eq.trans (World.drewN_drewN _ _ _) (congrArg (World.drewN _) (Nat.add_assoc _ _ _))⟩))))
                go_ret
                exact ⟨by first | rfl | (simp; done) | (simp [*]; done), by repeat (first | exact Drawn0.refl _ | apply Drawn0.step)⟩
            · rw [if_neg c6] at H
              exact absurd H (by simp)
          · rw [if_neg c5] at H
            exact absurd H (by simp)
        · rw [if_neg c4] at H
          have c4b0 : decide (x5_1 < (l0.length : Int)) = false := decide_eq_false c4
          clear c4
          obtain rfl := Option.some.inj H
          go_wp2
          repeat (go_quiet (fail); try go_wp2)
          go_ret
          exact ⟨by first | rfl | (simp; done) | (simp [*]; done), by repeat (first | exact Drawn0.refl _ | apply Drawn0.step)⟩
  · rw [if_neg c3] at H
    have c3b0 : ((l0.length : Int) == (l1.length : Int)) = false := beq_eq_false_iff_ne.mpr c3
    have c3b1 : ((l0.length : Int) != (l1.length : Int)) = true := bne_iff_ne.mpr c3
    have c3b2 : (l0.length == l1.length) = false := by first | simpa using c3 | (simp at c3 ⊢; omega)
    obtain rfl := Option.some.inj H
    go_enter Try.func39, Try.ntmps39
    go_wp2
    repeat (go_quiet (fail); try go_wp2)
    go_ret
    exact ⟨by first | rfl | (simp; done) | (simp [*]; done), by repeat (first | exact Drawn0.refl _ | apply Drawn0.step)⟩

end Go.Proofs.Ytbiiklkkfkipeaa.X

/- What the functions of the program come to, and that they do: written by this session's program wip/xprint.py out of the translation; parts named extern are typed by hand. -/
namespace Go.Proofs.Ytbiiklkkfkipeaa.X
open Go.RowKit Go.Proofs.YtbiiklkkfkipeaaW.PrintWords Go.Proofs.YtbiiklkkfkipeaaW.PrintLast Go.Proofs.YtbiiklkkfkipeaaW.PrintMore
attribute [local go_sem] max2_int min2_int max_two min_two max_three min_three max_four min_four   -- for this text's walks alone
set_option linter.unusedVariables false
set_option linter.unusedSimpArgs false

/-! ### laws_markIntSS: function 40 -/
/- EXTERN, by hand: markIntSS: each row of a row of rows that came in is marked. -/
def laws_markIntSS.l0 : Nat → List (List Int) → Int → Int → Option (Int × List (List Int))
  | 0, _, _, _ => none
  | k + 1, x0, x1, x5 => if x5 < (x0.length : Int) then (if 0 ≤ x5 then ((laws_markIntS.f k (rd_L2 x0 x5) x1).bind fun bt => (laws_markIntSS.l0 k (x0.set (x5 : Int).toNat bt.2) bt.1 (wrap64 (x5 + 1)))) else (none)) else (some (x1, x0))
def laws_markIntSS.f (k : Nat) (l0 : List (List Int)) (a1 : Int) : Option (Int × List (List Int)) := laws_markIntSS.l0 k l0 a1 0
theorem laws_markIntSS.mono_l : ∀ k, (∀ y0 y1 y2, LeO (laws_markIntSS.l0 k y0 y1 y2) (laws_markIntSS.l0 (k + 1) y0 y1 y2))
  | 0 => fun _ _ _ r h => by simp [laws_markIntSS.l0] at h
  | k + 1 => by
    have ih0 := laws_markIntSS.mono_l k
    · intro y0 y1 y2
      unfold laws_markIntSS.l0
      repeat' first
      | (with_reducible exact ih0 _ _ _)
      | (with_reducible exact laws_markIntS.mono _ _ _)
      | (with_reducible exact LeO.refl _)
      | (with_reducible exact LeO.none _)
      | (with_reducible refine LeO.ite ?_ ?_)
      | (with_reducible refine LeO.bind ?_ (fun _ => ?_))
      | exact ih0 _ _ _
      | exact laws_markIntS.mono _ _ _
      | exact LeO.none _
      | refine LeO.ite ?_ ?_
      | refine LeO.bind ?_ (fun _ => ?_)
theorem laws_markIntSS.mono : ∀ a0 a1 k, LeO (laws_markIntSS.f k a0 a1) (laws_markIntSS.f (k + 1) a0 a1) := fun a0 a1 k => laws_markIntSS.mono_l k a0 a1 0
set_option maxHeartbeats 8000000 in
set_option maxRecDepth 100000 in
theorem laws_markIntSS.calls (k : Nat) (P0_ : Nat → Prop) (u9000_ : Value) (l0 : List (List Int)) (a1 : Int) (r1 : Int) (r2 : List (List Int)) (w0 w : World) (hB : Below w0.heap.size w0 w) (ho0 : Kd.S (Kd.slice 3 (Kd.int .i64)) 25 w w0.heap.size P0_ u9000_ l0) (h : laws_markIntSS.f k l0 a1 = some (r1, r2)) :
    Calls Try.prog 40 #[u9000_, .int .i64 a1] w fun e w' => e = .returned (.int .i64 r1) ∧ Kd.S (Kd.slice 3 (Kd.int .i64)) 25 w' w0.heap.size (fun k_ => (P0_ k_ ∨ w.heap.size ≤ k_)) u9000_ r2 ∧ Below w0.heap.size w0 w' ∧ Kept w w' (fun k_ => P0_ k_) := by
  have HO0 := Aside0.mk (show Kd.S (Kd.slice 3 (Kd.int .i64)) 25 w w0.heap.size (fun k_ => (P0_ k_ ∨ w.heap.size ≤ k_)) u9000_ l0 from Kd.S_mono ho0 (fun k_ hk => (.inl hk)))
  have HK := Aside0.mk (Kept.refl w (fun k_ => P0_ k_))
  have HB := Aside0.mk hB
  clear hB
  have H' := Aside0.mk (show laws_markIntSS.l0 k l0 a1 0 = some (r1, r2) from h)
  clear h ho0
  go_enter Try.func40, Try.ntmps40
  go_wp2
  go_loopg [1, 5] k (fun kq v1 v5 w' => ∃ (x0_1 : List (List Int)) (x1_1 : Int) (x5_1 : Int), v1 = .int .i64 x1_1 ∧ v5 = .int .i64 x5_1 ∧ Aside0 (laws_markIntSS.l0 kq x0_1 x1_1 x5_1 = some (r1, r2)) ∧ Aside0 (kq ≤ k) ∧ Aside0 (Kd.S (Kd.slice 3 (Kd.int .i64)) 25 w' w0.heap.size (fun k_ => (P0_ k_ ∨ w.heap.size ≤ k_)) u9000_ x0_1) ∧ Aside0 (Kept w w' (fun k_ => P0_ k_)) ∧ Aside0 (Below w0.heap.size w0 w'))
  case atStart => exact ⟨(l0), (a1), (0), (by first | rfl | (simp; done) | (simp [*]; done)), (by first | rfl | (simp; done) | (simp [*]; done)), H', ⟨Nat.le_refl _⟩, ⟨by (with_reducible repeat (first | apply Kd.S_alloc | apply Kd.S_drewN | apply Kd.S_drew)); exact HO0.out⟩, ⟨by repeat (first | (with_reducible first | exact HK.out | apply Kept.alloc | apply Kept.drewN | apply Kept.drew) | exact HK.out)⟩, ⟨by repeat (first | (with_reducible first | exact HB.out | apply below_alloc | apply pw_below_drewN | apply below_drew1) | exact HB.out)⟩⟩
  case round =>
    clear H'
    obtain ⟨x0_1, x1_1, x5_1, rfl, rfl, HA, HK1, HO_0, HK, HB⟩ := hrel
    cases gk with
    | zero => exact absurd HA.out (by simp [laws_markIntSS.l0])
    | succ k1 =>
      have H := HA.out
      clear HA
      simp only [laws_markIntSS.l0] at H
      by_cases c3 : x5_1 < (x0_1.length : Int)
      · rw [if_pos c3] at H
        by_cases c4 : 0 ≤ x5_1
        · rw [if_pos c4] at H
          replace H := Option.bind_eq_some_iff.mp H
          obtain ⟨⟨m1, m2⟩, A1, H⟩ := H
          have A2 := Aside0.mk A1
          clear A1
          have H' := Aside0.mk H
          clear H
          obtain ⟨go5, co5, eo5, gb5, gl5, cl5, HG5⟩ := Kd.S_form HO_0.out (by omega)
          subst eo5
          obtain ⟨oki, c, hcl, hM, hcc, hoki, hH⟩ := Kd.S_lend HO_0.out [] x5_1 c4 (by omega)
          obtain ⟨ve, rfl, hve⟩ := hM
          have hx5_0 := hcc 0 _ rfl
          rw [Nat.add_zero, show (Kd.slice 3 (Kd.int .i64)).sz = 1 from rfl, Nat.mul_one] at hx5_0
          have HV := Aside0.mk (show Kd.R (Kd.int .i64) 3 wr w0.heap.size oki ve (rd_L2 x0_1 x5_1) from hve)
          have HH := Aside0.mk hH
          have HI := Aside0.mk hoki
          clear hcl hcc hoki hH hve gb5 gl5 HG5
          have c3b0 : decide (x5_1 < (x0_1.length : Int)) = true := decide_eq_true c3
          have c4b0 : decide (0 ≤ x5_1) = true := decide_eq_true c4
          replace c3 := eq_true c3
          replace c4 := eq_true c4
          go_wp2_with (first | ((with_reducible refine gate_callee (f := 25) rfl ?_); refine goesL_ (some 17) rfl rfl Try.func25 (by kernel_rfl) rfl #[ve, .int .i64 x1_1] rfl (by (try simp only [List.map_toArray, List.map_cons, List.map_nil]); first | done | rfl) ?_; (with_reducible refine (laws_markIntS.calls k1 oki ve (rd_L2 x0_1 x5_1) x1_1 m1 m2 w0 _ ?side1 ?side2 A2.out).mono ?_); (case side1 => exact (by repeat (first | (with_reducible first | exact HB.out | apply below_alloc | apply pw_below_drewN | apply below_drew1) | exact HB.out))); (case side2 => exact HV.out); rintro e w8 ⟨rfl, hy0, hb, hkp⟩; refine ⟨_, rfl, ?_⟩; have n0_ := Aside0.mk (Kd.H_back (Kd.H_kept HH.out hkp (fun k_ _ hn_ => hn_)) (Kd.M_row (Kd.R_reok rfl hy0 (fun k_ e_ => HV.out.1 k_ e_))) (fun _ h_ => h_)); have n1_ := Aside0.mk hb; have n2_ := Aside0.mk (Kept.then_ (by repeat (first | (with_reducible first | exact HK.out | apply Kept.alloc | apply Kept.drewN | apply Kept.drew) | exact HK.out)) hkp (fun k_ hk_ => (HI.out k_ hk_).1)); clear HO_0 HB HK HH HV HI; have HO_0 := n0_; have HB := n1_; have HK := n2_; clear n0_ n1_ n2_; clear hb hkp hy0))
          go_roundg k1
          case measure => have := HK1.out; omega
          case rel => exact ⟨_, m1, (wrap64 (x5_1 + 1)), (by first | rfl | (simp; done) | (simp [*]; done)), (by first | rfl | (simp; done) | (simp [*]; done)), H', ⟨by have := HK1.out; omega⟩, ⟨by (with_reducible repeat (first | apply Kd.S_alloc | apply Kd.S_drewN | apply Kd.S_drew)); exact HO_0.out⟩, ⟨by repeat (first | (with_reducible first | exact HK.out | apply Kept.alloc | apply Kept.drewN | apply Kept.drew) | exact HK.out)⟩, ⟨by repeat (first | (with_reducible first | exact HB.out | apply below_alloc | apply pw_below_drewN | apply below_drew1) | exact HB.out)⟩⟩
        · rw [if_neg c4] at H
          exact absurd H (by simp)
      · rw [if_neg c3] at H
        have c3b0 : decide (x5_1 < (x0_1.length : Int)) = false := decide_eq_false c3
        clear c3
        simp only [Option.some.injEq, Prod.mk.injEq] at H
        obtain ⟨rfl, rfl⟩ := H
        obtain ⟨Ao9, co9, eo9⟩ := Kd.S_slice HO_0.out
        subst eo9
        go_wp2
        go_ret
        exact ⟨rfl, by (with_reducible repeat (first | apply Kd.S_alloc | apply Kd.S_drewN | apply Kd.S_drew)); exact HO_0.out, by repeat (first | (with_reducible first | exact HB.out | apply below_alloc | apply pw_below_drewN | apply below_drew1) | exact HB.out), by repeat (first | (with_reducible first | exact HK.out | apply Kept.alloc | apply Kept.drewN | apply Kept.drew) | exact HK.out)⟩

/-! ### laws_heldIntSS: function 41 -/
def laws_heldIntSS.l0 : Nat → List (List Int) → Int → Int → Option (Int)
  | 0, _, _, _ => none
  | k + 1, x0, x1, x5 => if x5 < (x0.length : Int) then (if 0 ≤ x5 then ((laws_heldIntS.f k (rd_L2 x0 x5) x1).bind fun t472 => (if t472 < 0 then (some (-1)) else (laws_heldIntSS.l0 k x0 t472 (wrap64 (x5 + 1))))) else (none)) else (some x1)
def laws_heldIntSS.f (k : Nat) (l0 : List (List Int)) (a1 : Int) : Option (Int) := laws_heldIntSS.l0 k l0 a1 0
theorem laws_heldIntSS.mono_l : ∀ k, (∀ y0 y1 y2, LeO (laws_heldIntSS.l0 k y0 y1 y2) (laws_heldIntSS.l0 (k + 1) y0 y1 y2))
  | 0 => fun _ _ _ r h => by simp [laws_heldIntSS.l0] at h
  | k + 1 => by
    have ih0 := laws_heldIntSS.mono_l k
    · intro y0 y1 y2
      unfold laws_heldIntSS.l0
      repeat' first
      | (with_reducible exact ih0 _ _ _)
      | (with_reducible exact laws_heldIntS.mono _ _ _)
      | (with_reducible exact LeO.refl _)
      | (with_reducible exact LeO.none _)
      | (with_reducible refine LeO.ite ?_ ?_)
      | (with_reducible refine LeO.bind ?_ (fun _ => ?_))
      | exact ih0 _ _ _
      | exact laws_heldIntS.mono _ _ _
      | exact LeO.none _
      | refine LeO.ite ?_ ?_
      | refine LeO.bind ?_ (fun _ => ?_)
theorem laws_heldIntSS.mono : ∀ a0 a1 k, LeO (laws_heldIntSS.f k a0 a1) (laws_heldIntSS.f (k + 1) a0 a1) := by
  intro a0 a1 k
  have ih0 := laws_heldIntSS.mono_l k
  unfold laws_heldIntSS.f
  repeat' first
      | (with_reducible exact ih0 _ _ _)
      | (with_reducible exact laws_heldIntS.mono _ _ _)
      | (with_reducible exact LeO.refl _)
      | (with_reducible exact LeO.none _)
      | (with_reducible refine LeO.ite ?_ ?_)
      | (with_reducible refine LeO.bind ?_ (fun _ => ?_))
      | exact ih0 _ _ _
      | exact laws_heldIntS.mono _ _ _
      | exact LeO.none _
      | refine LeO.ite ?_ ?_
      | refine LeO.bind ?_ (fun _ => ?_)
set_option maxHeartbeats 8000000 in
set_option maxRecDepth 100000 in
theorem laws_heldIntSS.calls (k : Nat) (A0 : Option Addr) (c0 : Nat) (l0 : List (List Int)) (a1 : Int) (r : Int) (w : World) (hr0 : Kd.C (Kd.slice 3 (Kd.int .i64)) w A0 l0.length l0) (hc0 : l0.length ≤ c0) (h : laws_heldIntSS.f k l0 a1 = some r) :
    Calls Try.prog 41 #[.slice A0 l0.length c0, .int .i64 a1] w fun e w' => e = .returned (.int .i64 r) ∧ Drawn0 w w' := by
  have HR0 := Aside0.mk hr0
  have HC0 := Aside0.mk hc0
  clear hr0 hc0
  have H : (laws_heldIntSS.l0 k l0 a1 0) = some r := h
  clear h
  have H' := Aside0.mk H
  clear H
  go_enter Try.func41, Try.ntmps41
  go_wp2
  go_loopg [1, 5] k (fun kq v1 v5 w' => ∃ (x1_1 : Int) (x5_1 : Int), v1 = .int .i64 x1_1 ∧ v5 = .int .i64 x5_1 ∧ Aside0 (laws_heldIntSS.l0 kq l0 x1_1 x5_1 = some r) ∧ Aside0 (kq ≤ k) ∧ Drawn0 w w')
  case atStart => exact ⟨(a1), (0), (by first | rfl | (simp; done) | (simp [*]; done)), (by first | rfl | (simp; done) | (simp [*]; done)), H', ⟨Nat.le_refl _⟩, by repeat (first | exact Drawn0.refl _ | apply Drawn0.step)⟩
  case round =>
    clear H'
    try clear p2
    obtain ⟨x1_1, x5_1, rfl, rfl, HA, HK1, ⟨m1, rfl⟩⟩ := hrel
    cases gk with
    | zero => exact absurd HA.out (by simp [laws_heldIntSS.l0])
    | succ k1 =>
      have H := HA.out
      clear HA
      simp only [laws_heldIntSS.l0] at H
      by_cases c3 : x5_1 < (l0.length : Int)
      · rw [if_pos c3] at H
        have c3b0 : decide (x5_1 < (l0.length : Int)) = true := decide_eq_true c3
        clear c3
        by_cases c4 : 0 ≤ x5_1
        · rw [if_pos c4] at H
          have c4b0 : decide (0 ≤ x5_1) = true := decide_eq_true c4
          clear c4
          replace H := Option.bind_eq_some_iff.mp H
          obtain ⟨t472, A50, H⟩ := H
          replace H : (if t472 < 0 then (some (-1)) else (laws_heldIntSS.l0 k1 l0 t472 (wrap64 (x5_1 + 1)))) = some r := H
          have A5 := Aside0.mk A50
          clear A50
          by_cases c6 : t472 < 0
          · rw [if_pos c6] at H
            have c6b0 : decide (t472 < 0) = true := decide_eq_true c6
            clear c6
            obtain rfl := Option.some.inj H
            have p471 : 0 ≤ (x5_1 : Int) := of_decide_eq_true (by first | (with_reducible assumption) | assumption)
            have q471 : x5_1 < (l0.length : Int) := of_decide_eq_true (by first | (with_reducible assumption) | assumption)
            obtain ⟨ad471, A471_0, c471_0, e471, hx471_0, hl471_0, hi471_0⟩ := at_L2 HR0.out x5_1 p471 q471
            cases e471
            have HR471_0 := Aside0.mk hi471_0
            have HC471_0 := Aside0.mk hl471_0
            clear hi471_0 hl471_0
            replace p471 := eq_true p471
            replace q471 := eq_true q471
            go_wp2_with (first | ((with_reducible refine gate_callee (f := 26) rfl ?_); refine goesL_ (some 17) rfl rfl Try.func26 (by kernel_rfl) rfl #[.slice A471_0 (rd_L2 l0 x5_1).length c471_0, .int .i64 x1_1] rfl (by (try simp only [List.map_toArray, List.map_cons, List.map_nil]); first | done | rfl | (simp only [List.length_drop, List.length_take]; rfl)) ?_; (with_reducible refine (laws_heldIntS.calls k1 _ _ (rd_L2 l0 x5_1) x1_1 t472 _ ?side1 ?side2 A5.out).mono ?_); (case side1 => repeat (first | exact HR471_0.out | (with_reducible refine Kd.C_alloc ?_ _) | (with_reducible refine Kd.C_drewN ?_ _) | (with_reducible refine Kd.C_drew ?_))); (case side2 => exact HC471_0.out); rintro e w' ⟨rfl, ⟨nd, rfl⟩⟩; refine ⟨_, rfl, ?_⟩))
            go_ret
            exact ⟨by first | rfl | (simp; done) | (simp [*]; done), by repeat (first | exact Drawn0.refl _ | apply Drawn0.step)⟩
          · rw [if_neg c6] at H
            have c6b0 : decide (t472 < 0) = false := decide_eq_false c6
            clear c6
            have H' := Aside0.mk H
            clear H
            have p471 : 0 ≤ (x5_1 : Int) := of_decide_eq_true (by first | (with_reducible assumption) | assumption)
            have q471 : x5_1 < (l0.length : Int) := of_decide_eq_true (by first | (with_reducible assumption) | assumption)
            obtain ⟨ad471, A471_0, c471_0, e471, hx471_0, hl471_0, hi471_0⟩ := at_L2 HR0.out x5_1 p471 q471
            cases e471
            have HR471_0 := Aside0.mk hi471_0
            have HC471_0 := Aside0.mk hl471_0
            clear hi471_0 hl471_0
            replace p471 := eq_true p471
            replace q471 := eq_true q471
            go_wp2_with (first | ((with_reducible refine gate_callee (f := 26) rfl ?_); refine goesL_ (some 17) rfl rfl Try.func26 (by kernel_rfl) rfl #[.slice A471_0 (rd_L2 l0 x5_1).length c471_0, .int .i64 x1_1] rfl (by (try simp only [List.map_toArray, List.map_cons, List.map_nil]); first | done | rfl | (simp only [List.length_drop, List.length_take]; rfl)) ?_; (with_reducible refine (laws_heldIntS.calls k1 _ _ (rd_L2 l0 x5_1) x1_1 t472 _ ?side1 ?side2 A5.out).mono ?_); (case side1 => repeat (first | exact HR471_0.out | (with_reducible refine Kd.C_alloc ?_ _) | (with_reducible refine Kd.C_drewN ?_ _) | (with_reducible refine Kd.C_drew ?_))); (case side2 => exact HC471_0.out); rintro e w' ⟨rfl, ⟨nd, rfl⟩⟩; refine ⟨_, rfl, ?_⟩))
            go_roundg k1
            case measure => have := HK1.out; omega
            case rel => exact ⟨(t472), (wrap64 (x5_1 + 1)), (by first | rfl | (simp; done) | (simp [*]; done)), (by first | rfl | (simp; done) | (simp [*]; done)), H', ⟨by have := HK1.out; omega⟩, by repeat (first | exact Drawn0.refl _ | apply Drawn0.step)⟩
        · rw [if_neg c4] at H
          exact absurd H (by simp)
      · rw [if_neg c3] at H
        have c3b0 : decide (x5_1 < (l0.length : Int)) = false := decide_eq_false c3
        clear c3
        obtain rfl := Option.some.inj H
        go_wp2
        go_ret
        exact ⟨by first | rfl | (simp; done) | (simp [*]; done), by repeat (first | exact Drawn0.refl _ | apply Drawn0.step)⟩

end Go.Proofs.Ytbiiklkkfkipeaa.X

/- What the functions of the program come to, and that they do: written by this session's program wip/xprint.py out of the translation; parts named extern are typed by hand. -/
namespace Go.Proofs.Ytbiiklkkfkipeaa.X
open Go.RowKit Go.Proofs.YtbiiklkkfkipeaaW.PrintWords Go.Proofs.YtbiiklkkfkipeaaW.PrintLast Go.Proofs.YtbiiklkkfkipeaaW.PrintMore
attribute [local go_sem] max2_int min2_int max_two min_two max_three min_three max_four min_four   -- for this text's walks alone
set_option linter.unusedVariables false
set_option linter.unusedSimpArgs false

/-! ### laws_FnExactSurvivorsOf: function 12 -/
/- EXTERN, by wip/lawrows.py: the law, along its one way. -/
def laws_FnExactSurvivorsOf.f (k : Nat) (l0 : List Int) : Option Bool := if (l0.length : Int) > 1048576 then some true else (laws_toIntS.f k l0).bind fun c0_ => (spec_SurvivorsOf.f k c0_).bind fun s_ => (impl_SurvivorsOf.f k c0_).bind fun g_ => (laws_eqIntSS.f k g_.1 s_.1).bind fun q_ => (laws_eqIntS.f k c0_ c0_).bind fun q0_ => (laws_markIntS.f k c0_ 1).bind fun m0_ => (laws_markIntSS.f k g_.1 1).bind fun mg_ => (laws_heldIntSS.f k mg_.2 1).bind fun hq_ => if q_ = true ∧ q0_ = true ∧ g_.2 = s_.2 ∧ 0 ≤ m0_.1 ∧ 0 ≤ hq_ ∧ hq_ = mg_.1 then some true else none
theorem laws_FnExactSurvivorsOf_R_iv {α : Type} {d : Kd α} {e base : Nat} {ok : Nat → Prop} {W w1 : World} {v : Value} {xs : List α} (h : Kd.R d e w1 W.heap.size ok v xs) (hb : base ≤ W.heap.size) : Kd.R d e w1 base (fun k => W.heap.size ≤ k ∧ k < w1.heap.size) v xs := Kd.R_lower (Kd.R_mono (Kd.R_bound h) (fun k hk => ⟨hk.2.1, hk.2.2.1⟩)) hb
theorem laws_FnExactSurvivorsOf_S_iv {α : Type} {d : Kd α} {e base : Nat} {ok : Nat → Prop} {W w1 : World} {v : Value} {xs : List α} (h : Kd.S d e w1 W.heap.size ok v xs) (hb : base ≤ W.heap.size) : Kd.S d e w1 base (fun k => W.heap.size ≤ k ∧ k < w1.heap.size) v xs := Kd.S_lower (Kd.S_mono (Kd.S_bound h) (fun k hk => ⟨hk.2.1, hk.2.2.1⟩)) hb
theorem laws_FnExactSurvivorsOf_N_iv {α : Type} {d : Kd α} {e base : Nat} {W w1 : World} {v : Value} {xs : List α} (h : Kd.N d e w1 W.heap.size (fun k => W.heap.size ≤ k) v xs) (hb : base ≤ W.heap.size) : Kd.N d e w1 base (fun k => W.heap.size ≤ k ∧ k < w1.heap.size) v xs := Kd.N_lower (Kd.N_mono (Kd.N_bound h) (fun k hk => ⟨hk.1, hk.2⟩)) hb
set_option maxHeartbeats 8000000 in
set_option maxRecDepth 100000 in
theorem laws_FnExactSurvivorsOf.calls (k : Nat) (A0 : Option Addr) (c0 : Nat) (l0 : List Int) (r : Bool) (w : World) (hr0 : Kd.C (Kd.int .i64) w A0 l0.length l0) (hc0 : l0.length ≤ c0) (h : laws_FnExactSurvivorsOf.f k l0 = some r) :
    Calls Try.prog 12 #[.slice A0 l0.length c0] w fun e w' => e = .returned (.bool r) ∧ Below w.heap.size w w' := by
  have HR0 := Aside0.mk hr0
  have HC0 := Aside0.mk hc0
  clear hr0 hc0
  have HB := Aside0.mk (Below.refl w.heap.size w)
  unfold laws_FnExactSurvivorsOf.f at h
  by_cases c0b : (l0.length : Int) > 1048576
  · rw [if_pos c0b] at h
    have d00 : decide (1048576 < (l0.length : Int)) = true := decide_eq_true c0b
    have d01 : decide (1048576 < l0.length) = true := decide_eq_true (by omega)
    clear c0b
    obtain rfl := Option.some.inj h
    go_enter Try.func12, Try.ntmps12
    go_wp2
    go_ret
    exact ⟨rfl, (by repeat (first | (with_reducible first | exact HB.out | apply below_alloc | apply pw_below_drewN | apply below_drew1) | exact HB.out))⟩
  · rw [if_neg c0b] at h
    have d00 : decide (1048576 < (l0.length : Int)) = false := decide_eq_false c0b
    have d01 : decide (1048576 < l0.length) = false := decide_eq_false (by omega)
    clear c0b
    replace h := Option.bind_eq_some_iff.mp h
    obtain ⟨c0_, E00, h⟩ := h
    have E_c0_ := Aside0.mk E00
    clear E00
    replace h := Option.bind_eq_some_iff.mp h
    obtain ⟨⟨s1, s2⟩, E10, h⟩ := h
    have E_s_ := Aside0.mk E10
    clear E10
    replace h := Option.bind_eq_some_iff.mp h
    obtain ⟨⟨g1, g2⟩, E20, h⟩ := h
    have E_g_ := Aside0.mk E20
    clear E20
    replace h := Option.bind_eq_some_iff.mp h
    obtain ⟨q_, E30, h⟩ := h
    have E_q_ := Aside0.mk E30
    clear E30
    replace h := Option.bind_eq_some_iff.mp h
    obtain ⟨q0_, E40, h⟩ := h
    have E_q0_ := Aside0.mk E40
    clear E40
    replace h := Option.bind_eq_some_iff.mp h
    obtain ⟨⟨m0a, m0b⟩, E50, h⟩ := h
    have E_m0_ := Aside0.mk E50
    clear E50
    replace h := Option.bind_eq_some_iff.mp h
    obtain ⟨⟨mg1, mg2⟩, E60, h⟩ := h
    have E_mg_ := Aside0.mk E60
    clear E60
    replace h := Option.bind_eq_some_iff.mp h
    obtain ⟨hq_, E70, h⟩ := h
    have E_hq_ := Aside0.mk E70
    clear E70
    dsimp only at h
    split at h
    case isFalse => cases h
    rename_i hall
    obtain rfl := Option.some.inj h
    clear h
    obtain ⟨rfl, rfl, rfl, hm, hq0, hq1⟩ := hall
    have t1 : decide (m0a < 0) = false := decide_eq_false (by omega)
    have t2 : decide (hq_ < 0) = false := decide_eq_false (by omega)
    have t3 : (hq_ == mg1) = true := beq_iff_eq.mpr hq1
    have t4 : (hq_ != mg1) = false := bne_eq_false_iff_eq.mpr hq1
    clear hm hq0 hq1
    go_enter Try.func12, Try.ntmps12
    go_wp2_with (first | ((with_reducible refine gate_callee (f := 18) rfl ?_); refine goesL_ (some 18) rfl rfl Try.func18 (by kernel_rfl) rfl #[.slice A0 l0.length c0] rfl (by (try simp only [List.map_toArray, List.map_cons, List.map_nil]); first | done | rfl) ?_; (with_reducible refine (laws_toIntS.calls k _ _ l0 c0_ _ ?side1 ?side2 E_c0_.out).mono ?_); (case side1 => repeat (first | exact (Kd.C_below HR0.out (by repeat (first | (with_reducible first | exact HB.out | apply below_alloc | apply pw_below_drewN | apply below_drew1) | exact HB.out))) | (with_reducible refine Kd.C_alloc ?_ _) | (with_reducible refine Kd.C_drewN ?_ _) | (with_reducible refine Kd.C_drew ?_))); (case side2 => exact HC0.out); rintro e wz1 ⟨v18, rfl, ho0, hb⟩; refine ⟨_, rfl, ?_⟩; have Zwz1 := Aside0.mk (show w.heap.size ≤ wz1.heap.size from hb.size); have FA0 := Aside0.mk (show Kd.R (Kd.int .i64) 3 wz1 w.heap.size (fun k_ => w.heap.size ≤ k_ ∧ k_ < wz1.heap.size) v18 c0_ from laws_FnExactSurvivorsOf_R_iv ho0 (below_size (by repeat (first | (with_reducible first | exact HB.out | apply below_alloc | apply pw_below_drewN | apply below_drew1) | exact HB.out)))); have n_ := Aside0.mk (below_step (by repeat (first | (with_reducible first | exact HB.out | apply below_alloc | apply pw_below_drewN | apply below_drew1) | exact HB.out)) hb); clear HB; have HB := n_; clear n_; clear hb ho0; obtain ⟨A_FA0, cc_FA0, eo_⟩ := Kd.R_slice FA0.out; subst eo_) | ((with_reducible refine gate_callee (f := 37) rfl ?_); refine goesL_ (some 19) rfl rfl Try.func37 (by kernel_rfl) rfl #[.slice A_FA0 c0_.length cc_FA0] rfl (by (try simp only [List.map_toArray, List.map_cons, List.map_nil]); first | done | rfl) ?_; (with_reducible refine (spec_SurvivorsOf.calls k _ _ c0_ s1 g2 _ ?side1 ?side2 E_s_.out).mono ?_); (case side1 => repeat (first | exact (Kd.R_reads' FA0.out).2.2 | (with_reducible refine Kd.C_alloc ?_ _) | (with_reducible refine Kd.C_drewN ?_ _) | (with_reducible refine Kd.C_drew ?_))); (case side2 => exact (Kd.R_reads' FA0.out).2.1); rintro e wz2 ⟨v19, rfl, ho0, hb⟩; refine ⟨_, rfl, ?_⟩; clear FA0; have Zwz2 := Aside0.mk (show wz1.heap.size ≤ wz2.heap.size from hb.size); have FS := Aside0.mk (show Kd.S (Kd.slice 3 (Kd.int .i64)) 25 wz2 w.heap.size (fun k_ => wz1.heap.size ≤ k_ ∧ k_ < wz2.heap.size) v19 s1 from laws_FnExactSurvivorsOf_S_iv ho0 (below_size (by repeat (first | (with_reducible first | exact HB.out | apply below_alloc | apply pw_below_drewN | apply below_drew1) | exact HB.out)))); have n_ := Aside0.mk (below_step (by repeat (first | (with_reducible first | exact HB.out | apply below_alloc | apply pw_below_drewN | apply below_drew1) | exact HB.out)) hb); clear HB; have HB := n_; clear n_; clear hb ho0; obtain ⟨A_FS, cc_FS, eo_⟩ := Kd.S_slice FS.out; subst eo_) | ((with_reducible refine gate_callee (f := 18) rfl ?_); refine goesL_ (some 23) rfl rfl Try.func18 (by kernel_rfl) rfl #[.slice A0 l0.length c0] rfl (by (try simp only [List.map_toArray, List.map_cons, List.map_nil]); first | done | rfl) ?_; (with_reducible refine (laws_toIntS.calls k _ _ l0 c0_ _ ?side1 ?side2 E_c0_.out).mono ?_); (case side1 => repeat (first | exact (Kd.C_below HR0.out (by repeat (first | (with_reducible first | exact HB.out | apply below_alloc | apply pw_below_drewN | apply below_drew1) | exact HB.out))) | (with_reducible refine Kd.C_alloc ?_ _) | (with_reducible refine Kd.C_drewN ?_ _) | (with_reducible refine Kd.C_drew ?_))); (case side2 => exact HC0.out); rintro e wz3 ⟨v23, rfl, ho0, hb⟩; refine ⟨_, rfl, ?_⟩; have n_ := Aside0.mk (Kd.S_below (by (with_reducible repeat (first | apply Kd.S_alloc | apply Kd.S_drewN | apply Kd.S_drew)); exact FS.out) hb); clear FS; have FS := n_; clear n_; have Zwz3 := Aside0.mk (show wz2.heap.size ≤ wz3.heap.size from hb.size); have FX0 := Aside0.mk (show Kd.R (Kd.int .i64) 3 wz3 w.heap.size (fun k_ => wz2.heap.size ≤ k_ ∧ k_ < wz3.heap.size) v23 c0_ from laws_FnExactSurvivorsOf_R_iv ho0 (below_size (by repeat (first | (with_reducible first | exact HB.out | apply below_alloc | apply pw_below_drewN | apply below_drew1) | exact HB.out)))); have n_ := Aside0.mk (below_step (by repeat (first | (with_reducible first | exact HB.out | apply below_alloc | apply pw_below_drewN | apply below_drew1) | exact HB.out)) hb); clear HB; have HB := n_; clear n_; clear hb ho0; obtain ⟨A_FX0, cc_FX0, eo_⟩ := Kd.R_slice FX0.out; subst eo_) | ((with_reducible refine gate_callee (f := 38) rfl ?_); refine goesL_ (some 26) rfl rfl Try.func38 (by kernel_rfl) rfl #[.slice A_FX0 c0_.length cc_FX0] rfl (by (try simp only [List.map_toArray, List.map_cons, List.map_nil]); first | done | rfl) ?_; (with_reducible refine (impl_SurvivorsOf.calls k _ _ c0_ g1 g2 _ ?side1 ?side2 E_g_.out).mono ?_); (case side1 => repeat (first | exact (Kd.R_reads' FX0.out).2.2 | (with_reducible refine Kd.C_alloc ?_ _) | (with_reducible refine Kd.C_drewN ?_ _) | (with_reducible refine Kd.C_drew ?_))); (case side2 => exact (Kd.R_reads' FX0.out).2.1); rintro e wz4 ⟨v26, rfl, ho0, hb⟩; refine ⟨_, rfl, ?_⟩; have n_ := Aside0.mk (Kd.S_below (by (with_reducible repeat (first | apply Kd.S_alloc | apply Kd.S_drewN | apply Kd.S_drew)); exact FS.out) hb); clear FS; have FS := n_; clear n_; have n_ := Aside0.mk (Kd.R_below (by (with_reducible repeat (first | apply Kd.R_alloc | apply Kd.R_drewN | apply Kd.R_drew)); exact FX0.out) hb); clear FX0; have FX0 := n_; clear n_; have Zwz4 := Aside0.mk (show wz3.heap.size ≤ wz4.heap.size from hb.size); have FG := Aside0.mk (show Kd.S (Kd.slice 3 (Kd.int .i64)) 25 wz4 w.heap.size (fun k_ => wz3.heap.size ≤ k_ ∧ k_ < wz4.heap.size) v26 g1 from laws_FnExactSurvivorsOf_S_iv ho0 (below_size (by repeat (first | (with_reducible first | exact HB.out | apply below_alloc | apply pw_below_drewN | apply below_drew1) | exact HB.out)))); have n_ := Aside0.mk (below_step (by repeat (first | (with_reducible first | exact HB.out | apply below_alloc | apply pw_below_drewN | apply below_drew1) | exact HB.out)) hb); clear HB; have HB := n_; clear n_; clear hb ho0; obtain ⟨A_FG, cc_FG, eo_⟩ := Kd.S_slice FG.out; subst eo_) | ((with_reducible refine gate_callee (f := 39) rfl ?_); refine goesL_ (some 31) rfl rfl Try.func39 (by kernel_rfl) rfl #[.slice A_FG g1.length cc_FG, .slice A_FS s1.length cc_FS] rfl (by (try simp only [List.map_toArray, List.map_cons, List.map_nil]); first | done | rfl) ?_; (with_reducible refine (laws_eqIntSS.calls k _ _ g1 _ _ s1 true _ ?side1 ?side2 ?side3 ?side4 E_q_.out).mono ?_); (case side1 => repeat (first | exact (Kd.S_reads' FG.out).2.2 | (with_reducible refine Kd.C_alloc ?_ _) | (with_reducible refine Kd.C_drewN ?_ _) | (with_reducible refine Kd.C_drew ?_))); (case side2 => exact (Kd.S_reads' FG.out).2.1); (case side3 => repeat (first | exact (Kd.S_reads' FS.out).2.2 | (with_reducible refine Kd.C_alloc ?_ _) | (with_reducible refine Kd.C_drewN ?_ _) | (with_reducible refine Kd.C_drew ?_))); (case side4 => exact (Kd.S_reads' FS.out).2.1); rintro e w' ⟨rfl, ⟨nd, rfl⟩⟩; refine ⟨_, rfl, ?_⟩) | ((with_reducible refine gate_callee (f := 18) rfl ?_); refine goesL_ (some 40) rfl rfl Try.func18 (by kernel_rfl) rfl #[.slice A0 l0.length c0] rfl (by (try simp only [List.map_toArray, List.map_cons, List.map_nil]); first | done | rfl) ?_; (with_reducible refine (laws_toIntS.calls k _ _ l0 c0_ _ ?side1 ?side2 E_c0_.out).mono ?_); (case side1 => repeat (first | exact (Kd.C_below HR0.out (by repeat (first | (with_reducible first | exact HB.out | apply below_alloc | apply pw_below_drewN | apply below_drew1) | exact HB.out))) | (with_reducible refine Kd.C_alloc ?_ _) | (with_reducible refine Kd.C_drewN ?_ _) | (with_reducible refine Kd.C_drew ?_))); (case side2 => exact HC0.out); rintro e wz5 ⟨v40, rfl, ho0, hb⟩; refine ⟨_, rfl, ?_⟩; have n_ := Aside0.mk (Kd.S_below (by (with_reducible repeat (first | apply Kd.S_alloc | apply Kd.S_drewN | apply Kd.S_drew)); exact FS.out) hb); clear FS; have FS := n_; clear n_; have n_ := Aside0.mk (Kd.R_below (by (with_reducible repeat (first | apply Kd.R_alloc | apply Kd.R_drewN | apply Kd.R_drew)); exact FX0.out) hb); clear FX0; have FX0 := n_; clear n_; have n_ := Aside0.mk (Kd.S_below (by (with_reducible repeat (first | apply Kd.S_alloc | apply Kd.S_drewN | apply Kd.S_drew)); exact FG.out) hb); clear FG; have FG := n_; clear n_; have Zwz5 := Aside0.mk (show wz4.heap.size ≤ wz5.heap.size from hb.size); have FY0 := Aside0.mk (show Kd.R (Kd.int .i64) 3 wz5 w.heap.size (fun k_ => wz4.heap.size ≤ k_ ∧ k_ < wz5.heap.size) v40 c0_ from laws_FnExactSurvivorsOf_R_iv ho0 (below_size (by repeat (first | (with_reducible first | exact HB.out | apply below_alloc | apply pw_below_drewN | apply below_drew1) | exact HB.out)))); have n_ := Aside0.mk (below_step (by repeat (first | (with_reducible first | exact HB.out | apply below_alloc | apply pw_below_drewN | apply below_drew1) | exact HB.out)) hb); clear HB; have HB := n_; clear n_; clear hb ho0; obtain ⟨A_FY0, cc_FY0, eo_⟩ := Kd.R_slice FY0.out; subst eo_) | ((with_reducible refine gate_callee (f := 20) rfl ?_); refine goesL_ (some 41) rfl rfl Try.func20 (by kernel_rfl) rfl #[.slice A_FX0 c0_.length cc_FX0, .slice A_FY0 c0_.length cc_FY0] rfl (by (try simp only [List.map_toArray, List.map_cons, List.map_nil]); first | done | rfl) ?_; (with_reducible refine (laws_eqIntS.calls k _ _ c0_ _ _ c0_ true _ ?side1 ?side2 ?side3 ?side4 E_q0_.out).mono ?_); (case side1 => repeat (first | exact (Kd.R_reads' FX0.out).2.2 | (with_reducible refine Kd.C_alloc ?_ _) | (with_reducible refine Kd.C_drewN ?_ _) | (with_reducible refine Kd.C_drew ?_))); (case side2 => exact (Kd.R_reads' FX0.out).2.1); (case side3 => repeat (first | exact (Kd.R_reads' FY0.out).2.2 | (with_reducible refine Kd.C_alloc ?_ _) | (with_reducible refine Kd.C_drewN ?_ _) | (with_reducible refine Kd.C_drew ?_))); (case side4 => exact (Kd.R_reads' FY0.out).2.1); rintro e w' ⟨rfl, ⟨nd, rfl⟩⟩; refine ⟨_, rfl, ?_⟩) | ((with_reducible refine gate_callee (f := 25) rfl ?_); refine goesL_ (some 45) rfl rfl Try.func25 (by kernel_rfl) rfl #[.slice A_FX0 c0_.length cc_FX0, .int .i64 1] rfl (by (try simp only [List.map_toArray, List.map_cons, List.map_nil]); first | done | rfl) ?_; (with_reducible refine (laws_markIntS.calls k (fun k_ => some k_ = (.slice A_FX0 c0_.length cc_FX0 : Value).ownBlock) (.slice A_FX0 c0_.length cc_FX0) c0_ 1 m0a m0b w _ ?side1 ?side2 E_m0_.out).mono ?_); (case side1 => exact (by repeat (first | (with_reducible first | exact HB.out | apply below_alloc | apply pw_below_drewN | apply below_drew1) | exact HB.out))); (case side2 => exact Kd.R_tight rfl (by (with_reducible repeat (first | apply Kd.R_alloc | apply Kd.R_drewN | apply Kd.R_drew)); exact FX0.out)); rintro e wz6 ⟨rfl, hy0, hb, hkp⟩; refine ⟨_, rfl, ?_⟩; clear FY0; have n_ := Aside0.mk (Kd.S_kept (by (with_reducible repeat (first | apply Kd.S_alloc | apply Kd.S_drewN | apply Kd.S_drew)); exact FS.out) hkp (fun k_ hk_ hs_ => by obtain ⟨i1_, i2_⟩ := hk_; obtain ⟨j1_, j2_⟩ := FX0.out.1 k_ hs_.symm; have zZwz1 := Zwz1.out; have zZwz2 := Zwz2.out; have zZwz3 := Zwz3.out; have zZwz4 := Zwz4.out; have zZwz5 := Zwz5.out; omega)); clear FS; have FS := n_; clear n_; have n_ := Aside0.mk (Kd.S_kept (by (with_reducible repeat (first | apply Kd.S_alloc | apply Kd.S_drewN | apply Kd.S_drew)); exact FG.out) hkp (fun k_ hk_ hs_ => by obtain ⟨i1_, i2_⟩ := hk_; obtain ⟨j1_, j2_⟩ := FX0.out.1 k_ hs_.symm; have zZwz1 := Zwz1.out; have zZwz2 := Zwz2.out; have zZwz3 := Zwz3.out; have zZwz4 := Zwz4.out; have zZwz5 := Zwz5.out; omega)); clear FG; have FG := n_; clear n_; have Zwz6 := Aside0.mk (show wz5.heap.size ≤ wz6.heap.size from hkp.1); clear FX0; clear HB; have HB := Aside0.mk hb; clear hb hkp hy0) | (go_at_call 39; (with_reducible refine (laws_eqIntSS.calls k _ _ g1 _ _ s1 true _ ?side1 ?side2 ?side3 ?side4 E_q_.out).mono ?_); (case side1 => repeat (first | exact (Kd.S_reads' FG.out).2.2 | (with_reducible refine Kd.C_alloc ?_ _) | (with_reducible refine Kd.C_drewN ?_ _) | (with_reducible refine Kd.C_drew ?_))); (case side2 => exact (Kd.S_reads' FG.out).2.1); (case side3 => repeat (first | exact (Kd.S_reads' FS.out).2.2 | (with_reducible refine Kd.C_alloc ?_ _) | (with_reducible refine Kd.C_drewN ?_ _) | (with_reducible refine Kd.C_drew ?_))); (case side4 => exact (Kd.S_reads' FS.out).2.1); rintro e w' ⟨rfl, ⟨nd, rfl⟩⟩) | ((with_reducible refine gate_callee (f := 40) rfl ?_); refine goesL_ (some 61) rfl rfl Try.func40 (by kernel_rfl) rfl #[.slice A_FG g1.length cc_FG, .int .i64 1] rfl (by (try simp only [List.map_toArray, List.map_cons, List.map_nil]); first | done | rfl) ?_; (with_reducible refine (laws_markIntSS.calls k (fun k_ => wz3.heap.size ≤ k_ ∧ k_ < wz4.heap.size) (.slice A_FG g1.length cc_FG) g1 1 mg1 mg2 w _ ?side1 ?side2 E_mg_.out).mono ?_); (case side1 => exact (by repeat (first | (with_reducible first | exact HB.out | apply below_alloc | apply pw_below_drewN | apply below_drew1) | exact HB.out))); (case side2 => exact (by (with_reducible repeat (first | apply Kd.S_alloc | apply Kd.S_drewN | apply Kd.S_drew)); exact FG.out)); rintro e wz7 ⟨rfl, hy0, hb, hkp⟩; refine ⟨_, rfl, ?_⟩; have n_ := Aside0.mk (Kd.S_kept (by (with_reducible repeat (first | apply Kd.S_alloc | apply Kd.S_drewN | apply Kd.S_drew)); exact FS.out) hkp (fun k_ hk_ hs_ => by obtain ⟨i1_, i2_⟩ := hk_; obtain ⟨j1_, j2_⟩ := hs_; have zZwz1 := Zwz1.out; have zZwz2 := Zwz2.out; have zZwz3 := Zwz3.out; have zZwz4 := Zwz4.out; have zZwz5 := Zwz5.out; have zZwz6 := Zwz6.out; omega)); clear FS; have FS := n_; clear n_; have Zwz7 := Aside0.mk (show wz6.heap.size ≤ wz7.heap.size from hkp.1); have GL := Aside0.mk (show mg2.length = g1.length from by have a_ := (Kd.S_reads' hy0).1; exact a_.symm); have n_ := Aside0.mk hy0; clear FG; have FG := n_; clear n_; clear HB; have HB := Aside0.mk hb; clear hb hkp hy0) | ((with_reducible refine gate_callee (f := 41) rfl ?_); refine goesL_ (some 64) rfl rfl Try.func41 (by kernel_rfl) rfl #[.slice A_FG mg2.length cc_FG, .int .i64 1] rfl (by (try simp only [List.map_toArray, List.map_cons, List.map_nil]); first | done | (rw [GL.out] <;> rfl) | rfl) ?_; (with_reducible refine (laws_heldIntSS.calls k _ _ mg2 1 hq_ _ ?side1 ?side2 E_hq_.out).mono ?_); (case side1 => repeat (first | exact (Kd.S_reads' FG.out).2.2 | (with_reducible refine Kd.C_alloc ?_ _) | (with_reducible refine Kd.C_drewN ?_ _) | (with_reducible refine Kd.C_drew ?_))); (case side2 => rw [GL.out]; exact (Kd.S_reads' FG.out).2.1); rintro e w' ⟨rfl, ⟨nd, rfl⟩⟩; refine ⟨_, rfl, ?_⟩) | ((with_reducible refine gate_callee (f := 18) rfl ?_); refine goesL_ (some 72) rfl rfl Try.func18 (by kernel_rfl) rfl #[.slice A0 l0.length c0] rfl (by (try simp only [List.map_toArray, List.map_cons, List.map_nil]); first | done | rfl) ?_; (with_reducible refine (laws_toIntS.calls k _ _ l0 c0_ _ ?side1 ?side2 E_c0_.out).mono ?_); (case side1 => repeat (first | exact (Kd.C_below HR0.out (by repeat (first | (with_reducible first | exact HB.out | apply below_alloc | apply pw_below_drewN | apply below_drew1) | exact HB.out))) | (with_reducible refine Kd.C_alloc ?_ _) | (with_reducible refine Kd.C_drewN ?_ _) | (with_reducible refine Kd.C_drew ?_))); (case side2 => exact HC0.out); rintro e wz8 ⟨v72, rfl, ho0, hb⟩; refine ⟨_, rfl, ?_⟩; have n_ := Aside0.mk (Kd.S_below (by (with_reducible repeat (first | apply Kd.S_alloc | apply Kd.S_drewN | apply Kd.S_drew)); exact FS.out) hb); clear FS; have FS := n_; clear n_; have n_ := Aside0.mk (Kd.S_below (by (with_reducible repeat (first | apply Kd.S_alloc | apply Kd.S_drewN | apply Kd.S_drew)); exact FG.out) hb); clear FG; have FG := n_; clear n_; have Zwz8 := Aside0.mk (show wz7.heap.size ≤ wz8.heap.size from hb.size); have FB0 := Aside0.mk (show Kd.R (Kd.int .i64) 3 wz8 w.heap.size (fun k_ => wz7.heap.size ≤ k_ ∧ k_ < wz8.heap.size) v72 c0_ from laws_FnExactSurvivorsOf_R_iv ho0 (below_size (by repeat (first | (with_reducible first | exact HB.out | apply below_alloc | apply pw_below_drewN | apply below_drew1) | exact HB.out)))); have n_ := Aside0.mk (below_step (by repeat (first | (with_reducible first | exact HB.out | apply below_alloc | apply pw_below_drewN | apply below_drew1) | exact HB.out)) hb); clear HB; have HB := n_; clear n_; clear hb ho0; obtain ⟨A_FB0, cc_FB0, eo_⟩ := Kd.R_slice FB0.out; subst eo_) | ((with_reducible refine gate_callee (f := 38) rfl ?_); refine goesL_ (some 73) rfl rfl Try.func38 (by kernel_rfl) rfl #[.slice A_FB0 c0_.length cc_FB0] rfl (by (try simp only [List.map_toArray, List.map_cons, List.map_nil]); first | done | rfl) ?_; (with_reducible refine (impl_SurvivorsOf.calls k _ _ c0_ g1 g2 _ ?side1 ?side2 E_g_.out).mono ?_); (case side1 => repeat (first | exact (Kd.R_reads' FB0.out).2.2 | (with_reducible refine Kd.C_alloc ?_ _) | (with_reducible refine Kd.C_drewN ?_ _) | (with_reducible refine Kd.C_drew ?_))); (case side2 => exact (Kd.R_reads' FB0.out).2.1); rintro e wz9 ⟨v73, rfl, ho0, hb⟩; refine ⟨_, rfl, ?_⟩; have n_ := Aside0.mk (Kd.S_below (by (with_reducible repeat (first | apply Kd.S_alloc | apply Kd.S_drewN | apply Kd.S_drew)); exact FS.out) hb); clear FS; have FS := n_; clear n_; have n_ := Aside0.mk (Kd.S_below (by (with_reducible repeat (first | apply Kd.S_alloc | apply Kd.S_drewN | apply Kd.S_drew)); exact FG.out) hb); clear FG; have FG := n_; clear n_; have n_ := Aside0.mk (Kd.R_below (by (with_reducible repeat (first | apply Kd.R_alloc | apply Kd.R_drewN | apply Kd.R_drew)); exact FB0.out) hb); clear FB0; have FB0 := n_; clear n_; have Zwz9 := Aside0.mk (show wz8.heap.size ≤ wz9.heap.size from hb.size); have FH := Aside0.mk (show Kd.S (Kd.slice 3 (Kd.int .i64)) 25 wz9 w.heap.size (fun k_ => wz8.heap.size ≤ k_ ∧ k_ < wz9.heap.size) v73 g1 from laws_FnExactSurvivorsOf_S_iv ho0 (below_size (by repeat (first | (with_reducible first | exact HB.out | apply below_alloc | apply pw_below_drewN | apply below_drew1) | exact HB.out)))); have n_ := Aside0.mk (below_step (by repeat (first | (with_reducible first | exact HB.out | apply below_alloc | apply pw_below_drewN | apply below_drew1) | exact HB.out)) hb); clear HB; have HB := n_; clear n_; clear hb ho0; obtain ⟨A_FH, cc_FH, eo_⟩ := Kd.S_slice FH.out; subst eo_) | ((with_reducible refine gate_callee (f := 39) rfl ?_); refine goesL_ (some 78) rfl rfl Try.func39 (by kernel_rfl) rfl #[.slice A_FH g1.length cc_FH, .slice A_FS s1.length cc_FS] rfl (by (try simp only [List.map_toArray, List.map_cons, List.map_nil]); first | done | rfl) ?_; (with_reducible refine (laws_eqIntSS.calls k _ _ g1 _ _ s1 true _ ?side1 ?side2 ?side3 ?side4 E_q_.out).mono ?_); (case side1 => repeat (first | exact (Kd.S_reads' FH.out).2.2 | (with_reducible refine Kd.C_alloc ?_ _) | (with_reducible refine Kd.C_drewN ?_ _) | (with_reducible refine Kd.C_drew ?_))); (case side2 => exact (Kd.S_reads' FH.out).2.1); (case side3 => repeat (first | exact (Kd.S_reads' FS.out).2.2 | (with_reducible refine Kd.C_alloc ?_ _) | (with_reducible refine Kd.C_drewN ?_ _) | (with_reducible refine Kd.C_drew ?_))); (case side4 => exact (Kd.S_reads' FS.out).2.1); rintro e w' ⟨rfl, ⟨nd, rfl⟩⟩; refine ⟨_, rfl, ?_⟩) | ((with_reducible refine gate_callee (f := 41) rfl ?_); refine goesL_ (some 87) rfl rfl Try.func41 (by kernel_rfl) rfl #[.slice A_FG mg2.length cc_FG, .int .i64 1] rfl (by (try simp only [List.map_toArray, List.map_cons, List.map_nil]); first | done | (rw [GL.out] <;> rfl) | rfl) ?_; (with_reducible refine (laws_heldIntSS.calls k _ _ mg2 1 hq_ _ ?side1 ?side2 E_hq_.out).mono ?_); (case side1 => repeat (first | exact (Kd.S_reads' FG.out).2.2 | (with_reducible refine Kd.C_alloc ?_ _) | (with_reducible refine Kd.C_drewN ?_ _) | (with_reducible refine Kd.C_drew ?_))); (case side2 => rw [GL.out]; exact (Kd.S_reads' FG.out).2.1); rintro e w' ⟨rfl, ⟨nd, rfl⟩⟩; refine ⟨_, rfl, ?_⟩))
    go_ret
    exact ⟨rfl, (by repeat (first | (with_reducible first | exact HB.out | apply below_alloc | apply pw_below_drewN | apply below_drew1) | exact HB.out))⟩
end Go.Proofs.Ytbiiklkkfkipeaa.X

/- Plain lemmas: what a function with rounds comes to. -/
namespace Go.Proofs.Ytbiiklkkfkipeaa.X
set_option linter.unusedSimpArgs false
set_option linter.unusedVariables false
open Go.RowKit Go.Proofs.YtbiiklkkfkipeaaW.PrintWords
theorem w64 {x : Int} (h1 : -9223372036854775808 ≤ x) (h2 : x ≤ 9223372036854775807) : wrap64 x = x := by unfold wrap64; omega
theorem evPos {α : Type} {c : Prop} [Decidable c] {A B : Nat → Option α} {r : α} (h : c) (hA : Ev A r) : Ev (fun k => if c then A k else B k) r := by
  simpa only [if_pos h] using hA
theorem evNeg {α : Type} {c : Prop} [Decidable c] {A B : Nat → Option α} {r : α} (h : ¬ c) (hB : Ev B r) : Ev (fun k => if c then A k else B k) r := by
  simpa only [if_neg h] using hB
/-- One round: the next state's answer is this state's. -/
theorem evNext {α : Type} {g f : Nat → Option α} {r : α} (h : ∀ k, g (k + 1) = f k) (k : Ev f r) : Ev g r := Ev.step h k
theorem evEnd {α : Type} {g : Nat → Option α} {r : α} (h : ∀ k, g (k + 1) = some r) : Ev g r := Ev.step (f := fun _ => some r) h (Ev.now r)
/-- A round that calls: from some number of rounds on. -/
theorem evCall {α β : Type} {g f : Nat → Option α} {c : Nat → Option β} {v : β} {r : α} (hc : Ev c v) (h : ∀ k, c k = some v → g (k + 1) = f k) (k : Ev f r) : Ev g r := by
  obtain ⟨K, k⟩ := k
  obtain ⟨K', hc⟩ := hc
  refine ⟨K + K' + 1, fun n hn => ?_⟩
  obtain ⟨m, rfl⟩ : ∃ m, n = m + 1 := ⟨n - 1, by omega⟩
  rw [h m (hc m (by omega))]
  exact k m (by omega)
theorem evCallEnd {α β : Type} {g : Nat → Option α} {c : Nat → Option β} {v : β} {r : α} (hc : Ev c v) (h : ∀ k, c k = some v → g (k + 1) = some r) : Ev g r :=
  evCall hc h (Ev.now r)
/-- A counter that goes up: an invariant, and each round hands the answer on. -/
theorem evUp {σ ρ : Type} (n : Nat) (L : Nat → σ → Nat → Option ρ) (I : Nat → σ → Prop) (r : ρ)
    (hs : ∀ i s, i < n → I i s → (∃ s', I (i + 1) s' ∧ (Ev (fun k => L k s' (i + 1)) r → Ev (fun k => L k s i) r)) ∨ Ev (fun k => L k s i) r)
    (he : ∀ s, I n s → Ev (fun k => L k s n) r) : ∀ i s, i ≤ n → I i s → Ev (fun k => L k s i) r := by
  have key : ∀ d i s, i + d = n → I i s → Ev (fun k => L k s i) r := by
    intro d
    induction d with
    | zero =>
      intro i s hd hI
      obtain rfl : i = n := by omega
      exact he s hI
    | succ d ih =>
      intro i s hd hI
      rcases hs i s (by omega) hI with ⟨s', hI', hk⟩ | h
      · exact hk (ih (i + 1) s' (by omega) hI')
      · exact h
  intro i s hi hI
  exact key (n - i) i s (by omega) hI
/-- The same from zero on. -/
theorem evUp0 {σ ρ : Type} (n : Nat) (L : Nat → σ → Nat → Option ρ) (I : Nat → σ → Prop) (r : ρ) (s : σ) (h0 : I 0 s)
    (hs : ∀ i s, i < n → I i s → (∃ s', I (i + 1) s' ∧ (Ev (fun k => L k s' (i + 1)) r → Ev (fun k => L k s i) r)) ∨ Ev (fun k => L k s i) r)
    (he : ∀ s, I n s → Ev (fun k => L k s n) r) : Ev (fun k => L k s 0) r := evUp n L I r hs he 0 s (Nat.zero_le _) h0
theorem evEq {α : Type} {g : Nat → Option α} {r r' : α} (h : Ev g r) (e : r = r') : Ev g r' := e ▸ h
theorem rd_at (l : List Int) (i : Nat) (h : i < l.length) : rd l (i : Int) = l[i] := by
  simp [rd, List.getD_eq_getElem?_getD, List.getElem?_eq_getElem h]
theorem rd_set_cast (l : List Int) (i : Nat) (v : Int) : l.set ((i : Int)).toNat v = l.set i v := by simp
end Go.Proofs.Ytbiiklkkfkipeaa.X

/- Plain lemmas: the laws' own helpers over slices of whole numbers. -/
namespace Go.Proofs.Ytbiiklkkfkipeaa.X
set_option linter.unusedSimpArgs false
set_option linter.unusedVariables false
open Go.RowKit Go.Proofs.YtbiiklkkfkipeaaW.PrintWords
theorem toIntS_loop (l : List Int) (hn : l.length ≤ 35184372088832) : ∀ i s, i ≤ l.length → s = l.take i ++ List.replicate (l.length - i) 0 → Ev (fun k => laws_toIntS.l0 k l s (i : Int)) l := by
  refine evUp l.length (fun k s (i : Nat) => laws_toIntS.l0 k l s (i : Int)) (fun i s => s = l.take i ++ List.replicate (l.length - i) 0) l ?_ ?_
  · intro i s hi hI
    have hsl : s.length = l.length := by rw [hI]; simp; omega
    refine .inl ⟨l.take (i + 1) ++ List.replicate (l.length - (i + 1)) 0, rfl, fun h => evNext (fun k => ?_) h⟩
    show laws_toIntS.l0 (k + 1) l s (i : Int) = laws_toIntS.l0 k l _ (i + 1 : Nat)
    simp only [laws_toIntS.l0]
    rw [if_pos (by omega), if_pos (by omega), if_pos (by omega), w64 (by omega) (by omega), rd_at l i hi]
    congr 1
    subst hI
    rw [Int.toNat_natCast]
    apply List.ext_getElem
    · simp; omega
    · intro j h1 h2
      rw [List.getElem_set]
      by_cases e : i = j
      · subst e
        rw [if_pos rfl, List.getElem_append_left (by simp; omega)]
        simp
      · rw [if_neg e]
        by_cases hj : j < i
        · rw [List.getElem_append_left (by simp; omega), List.getElem_append_left (by simp; omega)]
          simp
        · rw [List.getElem_append_right (by simp; omega), List.getElem_append_right (by simp; omega)]
          simp
  · intro s hI
    refine evEnd fun k => ?_
    show laws_toIntS.l0 (k + 1) l s (l.length : Int) = some l
    simp only [laws_toIntS.l0]
    rw [if_neg (by omega), hI]
    simp
theorem toIntS_ev (l : List Int) (hn : l.length ≤ 35184372088832) : Ev (fun k => laws_toIntS.f k l) l := by
  refine Ev.congr (f := fun k => laws_toIntS.l0 k l (List.replicate l.length 0) ((0 : Nat) : Int)) (fun k => ?_) (toIntS_loop l hn 0 _ (by omega) (by simp))
  unfold laws_toIntS.f
  rw [if_pos (by omega), if_pos (by simpa using hn), Int.toNat_natCast]
  rfl
theorem eqIntS_loop (a b : List Int) (hl : a.length = b.length) (ha : a.length ≤ 9223372036854775806) : Ev (fun k => laws_eqIntS.l0 k a b ((0 : Nat) : Int)) (decide (a = b)) := by
  refine evUp0 a.length (fun k (_ : Unit) (i : Nat) => laws_eqIntS.l0 k a b (i : Int)) (fun i _ => a.take i = b.take i) _ () (by simp) ?_ ?_
  · intro i s hi hI
    by_cases e : a[i] = b[i]'(by omega)
    · refine .inl ⟨(), ?_, fun h => evNext (fun k => ?_) h⟩
      · rw [List.take_succ_eq_append_getElem hi, List.take_succ_eq_append_getElem (by omega), hI, e]
      · show laws_eqIntS.l0 (k + 1) a b (i : Int) = laws_eqIntS.l0 k a b (i + 1 : Nat)
        simp only [laws_eqIntS.l0]
        rw [if_pos (by omega), if_pos (by omega), if_pos (by omega), rd_at a i hi, rd_at b i (by omega), if_pos e, w64 (by omega) (by omega)]
        rfl
    · refine .inr (evEnd fun k => ?_)
      show laws_eqIntS.l0 (k + 1) a b (i : Int) = _
      simp only [laws_eqIntS.l0]
      rw [if_pos (by omega), if_pos (by omega), if_pos (by omega), rd_at a i hi, rd_at b i (by omega), if_neg e, decide_eq_false]
      intro h
      subst h
      exact e rfl
  · intro s hI
    refine evEnd fun k => ?_
    show laws_eqIntS.l0 (k + 1) a b (a.length : Int) = _
    simp only [laws_eqIntS.l0]
    rw [if_neg (by omega), decide_eq_true]
    rw [List.take_length, hl, List.take_length] at hI
    exact hI
theorem eqIntS_ev (a b : List Int) (ha : a.length ≤ 9223372036854775806) : Ev (fun k => laws_eqIntS.f k a b) (decide (a = b)) := by
  by_cases hl : a.length = b.length
  · refine Ev.congr (f := fun k => laws_eqIntS.l0 k a b ((0 : Nat) : Int)) (fun k => ?_) (eqIntS_loop a b hl ha)
    unfold laws_eqIntS.f
    rw [if_pos (by omega)]
    rfl
  · refine Ev.congr (f := fun _ => some (decide (a = b))) (fun k => ?_) (Ev.now _)
    unfold laws_eqIntS.f
    rw [if_neg (by omega), decide_eq_false]
    intro h
    exact hl (by rw [h])
end Go.Proofs.Ytbiiklkkfkipeaa.X

/- Plain lemmas: the laws' marks on slices of whole numbers. -/
namespace Go.Proofs.Ytbiiklkkfkipeaa.X
set_option linter.unusedSimpArgs false
set_option linter.unusedVariables false
open Go.RowKit Go.Proofs.YtbiiklkkfkipeaaW.PrintWords
/-- The row that the marks leave. -/
def marks (n : Nat) (a : Int) : List Int := (List.range n).map (fun (j : Nat) => a + (j : Int))
theorem marks_length (n : Nat) (a : Int) : (marks n a).length = n := by simp [marks]
theorem marks_at (n : Nat) (a : Int) (i : Nat) (h : i < n) : rd (marks n a) (i : Int) = a + i := by
  rw [rd_at _ _ (by rw [marks_length]; exact h)]
  simp [marks]
theorem markIntS_ev (l : List Int) (a : Int) (h0 : 0 ≤ a) (h1 : a + l.length ≤ 9223372036854775806) : Ev (fun k => laws_markIntS.f k l a) (a + l.length, marks l.length a) := by
  have key := evUp0 l.length (fun k (s : List Int) (i : Nat) => laws_markIntS.l0 k s (a + i) (i : Int)) (fun i s => s = (marks l.length a).take i ++ l.drop i) (a + l.length, marks l.length a) l (by simp)
    (by
      intro i s hi hI
      have hsl : s.length = l.length := by rw [hI]; simp [marks_length]; omega
      refine .inl ⟨(marks l.length a).take (i + 1) ++ l.drop (i + 1), rfl, fun h => evNext (fun k => ?_) h⟩
      show laws_markIntS.l0 (k + 1) s (a + i) (i : Int) = laws_markIntS.l0 k _ (a + (i + 1 : Nat)) (i + 1 : Nat)
      simp only [laws_markIntS.l0]
      rw [if_pos (by omega), if_pos (by omega), w64 (by omega) (by omega), w64 (by omega) (by omega), Int.toNat_natCast]
      congr 1
      · subst hI
        have hm : i < (marks l.length a).length := by rw [marks_length]; exact hi
        rw [List.take_succ_eq_append_getElem hm, List.append_assoc, List.set_append_right _ _ (by simp; omega)]
        congr 1
        have e1 : (List.take i (marks l.length a)).length = i := by simp [marks_length]; omega
        rw [e1, Nat.sub_self, List.drop_eq_getElem_cons hi, List.set_cons_zero]
        simp only [marks, List.getElem_map, List.getElem_range]
        rfl
      · omega)
    (by
      intro s hI
      refine evEnd fun k => ?_
      show laws_markIntS.l0 (k + 1) s (a + (l.length : Nat)) ((l.length : Nat) : Int) = _
      have hsl : s.length = l.length := by rw [hI]; simp [marks_length]
      simp only [laws_markIntS.l0]
      rw [if_neg (by omega), hI]
      congr 2
      rw [List.take_of_length_le (by rw [marks_length]; exact Nat.le_refl _)]
      simp)
  refine Ev.congr (fun k => ?_) key
  unfold laws_markIntS.f
  simp
theorem heldIntS_ev (n : Nat) (a : Int) (h0 : 0 ≤ a) (h1 : a + n ≤ 9223372036854775806) : Ev (fun k => laws_heldIntS.f k (marks n a) a) (a + n) := by
  have key := evUp0 n (fun k (_ : Unit) (i : Nat) => laws_heldIntS.l0 k (marks n a) (a + i) (i : Int)) (fun _ _ => True) (a + n) () trivial
    (by
      intro i s hi _
      refine .inl ⟨(), trivial, fun h => evNext (fun k => ?_) h⟩
      show laws_heldIntS.l0 (k + 1) (marks n a) (a + i) (i : Int) = laws_heldIntS.l0 k (marks n a) (a + (i + 1 : Nat)) (i + 1 : Nat)
      simp only [laws_heldIntS.l0]
      rw [if_pos (by rw [marks_length]; omega), if_pos (by omega), if_pos (marks_at n a i hi), w64 (by omega) (by omega), w64 (by omega) (by omega)]
      congr 1
      omega)
    (by
      intro s _
      refine evEnd fun k => ?_
      show laws_heldIntS.l0 (k + 1) (marks n a) (a + (n : Nat)) ((n : Nat) : Int) = _
      simp only [laws_heldIntS.l0]
      rw [if_neg (by rw [marks_length]; omega)])
  refine Ev.congr (fun k => ?_) key
  unfold laws_heldIntS.f
  simp
end Go.Proofs.Ytbiiklkkfkipeaa.X

/- Plain lemmas: the laws' marks on, and equality of, rows of rows of whole numbers. -/
namespace Go.Proofs.Ytbiiklkkfkipeaa.X
set_option linter.unusedSimpArgs false
set_option linter.unusedVariables false
open Go.RowKit Go.Proofs.YtbiiklkkfkipeaaW.PrintWords Go.Proofs.YtbiiklkkfkipeaaW.PrintLast
theorem rdRows_at (l : List (List Int)) (i : Nat) (h : i < l.length) : rd_L2 l (i : Int) = l[i] := by
  simp [rd_L2, List.getD_eq_getElem?_getD, List.getElem?_eq_getElem h]
/-- How many numbers there are. -/
def tot (L : List (List Int)) : Nat := (L.map List.length).sum
theorem tot_append (a b : List (List Int)) : tot (a ++ b) = tot a + tot b := by simp [tot]
theorem tot_le (L : List (List Int)) (m : Nat) (h : ∀ l ∈ L, l.length ≤ m) : tot L ≤ L.length * m := by
  induction L with
  | nil => simp [tot]
  | cons a l ih =>
    have h1 := h a (by simp)
    have h2 := ih (fun x hx => h x (by simp [hx]))
    simp only [tot, List.map_cons, List.sum_cons, List.length_cons, Nat.succ_mul] at *
    omega
theorem tot_take (L : List (List Int)) (i : Nat) : tot (L.take i) ≤ tot L := by
  have h := tot_append (L.take i) (L.drop i)
  rw [List.take_append_drop] at h
  omega
theorem tot_take_succ (L : List (List Int)) (i : Nat) (h : i < L.length) : tot (L.take (i + 1)) = tot (L.take i) + L[i].length := by
  rw [List.take_succ_eq_append_getElem h, tot_append]
  simp [tot]
def marksRows : List (List Int) → Int → List (List Int)
  | [], _ => []
  | l :: L, a => marks l.length a :: marksRows L (a + l.length)
theorem marksRows_length (L : List (List Int)) : ∀ a, (marksRows L a).length = L.length := by
  induction L with
  | nil => intro a; rfl
  | cons l L ih => intro a; simp [marksRows, ih]
theorem marksRows_at (L : List (List Int)) : ∀ (a : Int) (i : Nat) (h : i < L.length), (marksRows L a)[i]'(by rw [marksRows_length]; exact h) = marks L[i].length (a + (tot (L.take i) : Int)) := by
  induction L with
  | nil => intro a i h; simp at h
  | cons l L ih =>
    intro a i h
    cases i with
    | zero => simp [marksRows, tot]
    | succ i =>
      have := ih (a + l.length) i (by simpa using h)
      simp only [marksRows, List.getElem_cons_succ, List.take_succ_cons]
      rw [this]
      congr 1
      simp only [tot, List.map_cons, List.sum_cons]
      omega
theorem markIntSS_ev (L : List (List Int)) (a : Int) (h0 : 0 ≤ a) (h1 : a + (tot L : Int) ≤ 4611686018427387904) (hL : L.length ≤ 4611686018427387904) : Ev (fun k => laws_markIntSS.f k L a) (a + (tot L : Int), marksRows L a) := by
  have hml := marksRows_length L a
  have key := evUp0 L.length (fun k (s : List (List Int)) (i : Nat) => laws_markIntSS.l0 k s (a + (tot (L.take i) : Int)) (i : Int)) (fun i s => s = (marksRows L a).take i ++ L.drop i) (a + (tot L : Int), marksRows L a) L (by simp)
    (by
      intro i s hi hI
      have hsl : s.length = L.length := by rw [hI]; simp [hml]; omega
      have ht := tot_take L (i + 1)
      have ht1 := tot_take_succ L i hi
      have hsi : rd_L2 s (i : Int) = L[i] := by
        rw [rdRows_at s i (by omega)]
        subst hI
        rw [List.getElem_append_right (by simp; omega)]
        simp [hml, Nat.min_eq_left (Nat.le_of_lt hi)]
      refine .inl ⟨(marksRows L a).take (i + 1) ++ L.drop (i + 1), rfl, fun h => evCall (markIntS_ev L[i] (a + (tot (L.take i) : Int)) (by omega) (by omega)) (fun k hk => ?_) h⟩
      show laws_markIntSS.l0 (k + 1) s (a + (tot (L.take i) : Int)) (i : Int) = laws_markIntSS.l0 k ((marksRows L a).take (i + 1) ++ L.drop (i + 1)) (a + (tot (L.take (i + 1)) : Int)) (i + 1 : Nat)
      simp only [laws_markIntSS.l0]
      rw [if_pos (by omega), if_pos (by omega), hsi, hk]
      simp only [Option.bind_some]
      rw [w64 (by omega) (by omega), Int.toNat_natCast]
      congr 1
      · subst hI
        have hm : i < (marksRows L a).length := by omega
        rw [List.take_succ_eq_append_getElem hm, List.append_assoc, List.set_append_right _ _ (by simp; omega)]
        congr 1
        have e1 : (List.take i (marksRows L a)).length = i := by simp [hml]; omega
        rw [e1, Nat.sub_self, List.drop_eq_getElem_cons hi, List.set_cons_zero, marksRows_at L a i hi]
        rfl
      · omega)
    (by
      intro s hI
      refine evEnd fun k => ?_
      show laws_markIntSS.l0 (k + 1) s (a + (tot (L.take L.length) : Int)) ((L.length : Nat) : Int) = _
      have hsl : s.length = L.length := by rw [hI]; simp [hml]
      simp only [laws_markIntSS.l0]
      rw [if_neg (by omega), hI, List.take_length]
      congr 2
      rw [List.take_of_length_le (by omega)]
      simp)
  refine Ev.congr (fun k => ?_) key
  unfold laws_markIntSS.f
  simp [tot]
theorem heldIntSS_ev (L : List (List Int)) (a : Int) (h0 : 0 ≤ a) (h1 : a + (tot L : Int) ≤ 4611686018427387904) (hL : L.length ≤ 4611686018427387904) : Ev (fun k => laws_heldIntSS.f k (marksRows L a) a) (a + (tot L : Int)) := by
  have hml := marksRows_length L a
  have key := evUp0 L.length (fun k (_ : Unit) (i : Nat) => laws_heldIntSS.l0 k (marksRows L a) (a + (tot (L.take i) : Int)) (i : Int)) (fun _ _ => True) (a + (tot L : Int)) () trivial
    (by
      intro i s hi _
      have ht := tot_take L (i + 1)
      have ht1 := tot_take_succ L i hi
      have hsi : rd_L2 (marksRows L a) (i : Int) = marks L[i].length (a + (tot (L.take i) : Int)) := by
        rw [rdRows_at _ i (by omega), marksRows_at L a i hi]
      refine .inl ⟨(), trivial, fun h => evCall (heldIntS_ev L[i].length (a + (tot (L.take i) : Int)) (by omega) (by omega)) (fun k hk => ?_) h⟩
      show laws_heldIntSS.l0 (k + 1) (marksRows L a) (a + (tot (L.take i) : Int)) (i : Int) = laws_heldIntSS.l0 k (marksRows L a) (a + (tot (L.take (i + 1)) : Int)) (i + 1 : Nat)
      simp only [laws_heldIntSS.l0]
      rw [if_pos (by omega), if_pos (by omega), hsi, hk]
      simp only [Option.bind_some]
      rw [if_neg (by omega), w64 (by omega) (by omega)]
      congr 1
      omega)
    (by
      intro s _
      refine evEnd fun k => ?_
      show laws_heldIntSS.l0 (k + 1) (marksRows L a) (a + (tot (L.take L.length) : Int)) ((L.length : Nat) : Int) = _
      simp only [laws_heldIntSS.l0]
      rw [if_neg (by omega), List.take_length])
  refine Ev.congr (fun k => ?_) key
  unfold laws_heldIntSS.f
  simp [tot]
theorem eqIntSS_ev (L : List (List Int)) (hL : L.length ≤ 4611686018427387904) (hl : ∀ l ∈ L, l.length ≤ 4611686018427387904) : Ev (fun k => laws_eqIntSS.f k L L) true := by
  have key := evUp0 L.length (fun k (_ : Unit) (i : Nat) => laws_eqIntSS.l0 k L L (i : Int)) (fun _ _ => True) true () trivial
    (by
      intro i s hi _
      refine .inl ⟨(), trivial, fun h => evCall (eqIntS_ev L[i] L[i] (by have := hl _ (List.getElem_mem hi); omega)) (fun k hk => ?_) h⟩
      show laws_eqIntSS.l0 (k + 1) L L (i : Int) = laws_eqIntSS.l0 k L L (i + 1 : Nat)
      simp only [laws_eqIntSS.l0]
      rw [if_pos (by omega), if_pos (by omega), if_pos (by omega), rdRows_at L i hi, hk, w64 (by omega) (by omega)]
      simp)
    (by
      intro s _
      refine evEnd fun k => ?_
      show laws_eqIntSS.l0 (k + 1) L L (L.length : Int) = _
      simp only [laws_eqIntSS.l0]
      rw [if_neg (by omega)])
  refine Ev.congr (fun k => ?_) key
  unfold laws_eqIntSS.f
  rw [if_pos rfl]
  rfl
end Go.Proofs.Ytbiiklkkfkipeaa.X

/- Plain lemmas: the rounds of an election: who survives. -/
namespace Go.Proofs.Ytbiiklkkfkipeaa.X
set_option linter.unusedSimpArgs false
set_option linter.unusedVariables false
open Go.RowKit Go.Proofs.YtbiiklkkfkipeaaW.PrintWords
def prevI (n i : Nat) : Nat := if i = 0 then n - 1 else i - 1
def sNear (a : List Int) (i : Nat) : Int := rd a ((prevI a.length i : Nat) : Int)
def sFar (a : List Int) (i : Nat) : Int := rd a ((prevI a.length (prevI a.length i) : Nat) : Int)
def surv (a : List Int) (i : Nat) : Bool := decide (sFar a i < sNear a i) && decide (rd a (i : Int) < sNear a i)
def sIdx (a : List Int) (n : Nat) : List Nat := (List.range n).filter (surv a)
def nextS (l a : List Int) (n : Nat) : List Int := (sIdx a n).map (fun (i : Nat) => rd l (i : Int))
def nextN (a : List Int) (n : Nat) : List Int := (sIdx a n).map (sNear a)
def Dist (a : List Int) : Prop := ∀ i j : Nat, i < a.length → j < a.length → i ≠ j → rd a (i : Int) ≠ rd a (j : Int)
theorem prevI_lt {n i : Nat} (hi : i < n) : prevI n i < n := by unfold prevI; split <;> omega
theorem sIdx_succ (a : List Int) (n : Nat) : sIdx a (n + 1) = if surv a n = true then sIdx a n ++ [n] else sIdx a n := by
  unfold sIdx
  rw [List.range_succ, List.filter_append]
  cases h : surv a n <;> simp [List.filter_cons, h]
theorem nextS_succ (l a : List Int) (n : Nat) : nextS l a (n + 1) = if surv a n = true then nextS l a n ++ [rd l (n : Int)] else nextS l a n := by
  unfold nextS
  rw [sIdx_succ]
  split <;> simp
theorem nextN_succ (a : List Int) (n : Nat) : nextN a (n + 1) = if surv a n = true then nextN a n ++ [sNear a n] else nextN a n := by
  unfold nextN
  rw [sIdx_succ]
  split <;> simp
theorem sIdx_le (a : List Int) (n : Nat) : (sIdx a n).length ≤ n := by
  have := List.length_filter_le (surv a) (List.range n)
  rw [List.length_range] at this
  exact this
theorem nextS_len (l a : List Int) (n : Nat) : (nextS l a n).length = (sIdx a n).length := by simp [nextS]
theorem nextN_len (a : List Int) (n : Nat) : (nextN a n).length = (sIdx a n).length := by simp [nextN]
theorem sIdx_mem (a : List Int) (n q : Nat) (h : q < (sIdx a n).length) : (sIdx a n)[q] < n ∧ surv a (sIdx a n)[q] = true := by
  have : (sIdx a n)[q] ∈ sIdx a n := List.getElem_mem h
  unfold sIdx at this
  rw [List.mem_filter, List.mem_range] at this
  exact this
theorem sIdx_inc (a : List Int) (n p q : Nat) (hp : p < (sIdx a n).length) (hq : q < (sIdx a n).length) (h : p < q) : (sIdx a n)[p] < (sIdx a n)[q] := by
  have h1 : (sIdx a n).Pairwise (· < ·) := List.Pairwise.filter _ List.pairwise_lt_range
  exact (List.pairwise_iff_getElem.1 h1) p q hp hq h
theorem rd_nextS (l a : List Int) (n q : Nat) (h : q < (sIdx a n).length) : rd (nextS l a n) (q : Int) = rd l ((sIdx a n)[q] : Int) := by
  rw [rd_at _ q (by rw [nextS_len]; exact h)]
  simp [nextS]
theorem rd_nextN (a : List Int) (n q : Nat) (h : q < (sIdx a n).length) : rd (nextN a n) (q : Int) = sNear a (sIdx a n)[q] := by
  rw [rd_at _ q (by rw [nextN_len]; exact h)]
  simp [nextN]
theorem prevI_inj {n i j : Nat} (hi : i < n) (hj : j < n) (h : i ≠ j) : prevI n i ≠ prevI n j := by
  unfold prevI
  split <;> split <;> omega
theorem dist_nextN {a : List Int} (h : Dist a) : Dist (nextN a a.length) := by
  intro i j hi hj hij
  rw [nextN_len] at hi hj
  have m1 := sIdx_mem a a.length i hi
  have m2 := sIdx_mem a a.length j hj
  rw [rd_nextN a _ i hi, rd_nextN a _ j hj]
  unfold sNear
  refine h _ _ (prevI_lt m1.1) (prevI_lt m2.1) (prevI_inj m1.1 m2.1 ?_)
  rcases Nat.lt_or_gt_of_ne hij with hlt | hgt
  · have := sIdx_inc a a.length i j hi hj hlt
    omega
  · have := sIdx_inc a a.length j i hj hi hgt
    omega
theorem dist_nextS {l a : List Int} (hl : Dist l) (hla : a.length ≤ l.length) : Dist (nextS l a a.length) := by
  intro i j hi hj hij
  rw [nextS_len] at hi hj
  have m1 := sIdx_mem a a.length i hi
  have m2 := sIdx_mem a a.length j hj
  rw [rd_nextS l a _ i hi, rd_nextS l a _ j hj]
  refine hl _ _ (by omega) (by omega) ?_
  rcases Nat.lt_or_gt_of_ne hij with hlt | hgt
  · have := sIdx_inc a a.length i j hi hj hlt
    omega
  · have := sIdx_inc a a.length j i hj hi hgt
    omega
theorem exists_max (f : Nat → Int) : ∀ n : Nat, 0 < n → ∃ m, m < n ∧ ∀ j, j < n → f j ≤ f m := by
  intro n
  induction n with
  | zero => intro h; omega
  | succ n ih =>
    intro _
    by_cases h0 : n = 0
    · subst h0
      exact ⟨0, by omega, fun j hj => by obtain rfl : j = 0 := by omega
                                         exact Int.le_refl _⟩
    · obtain ⟨m, hm, hx⟩ := ih (by omega)
      by_cases hc : f n ≤ f m
      · exact ⟨m, by omega, fun j hj => by
          by_cases e : j = n
          · rw [e]; exact hc
          · exact hx j (by omega)⟩
      · exact ⟨n, by omega, fun j hj => by
          by_cases e : j = n
          · rw [e]; exact Int.le_refl _
          · have := hx j (by omega)
            omega⟩
theorem filter_lt {α : Type} (p : α → Bool) (l : List α) (x : α) (hx : x ∈ l) (hp : p x = false) : (l.filter p).length + 1 ≤ l.length := by
  induction l with
  | nil => cases hx
  | cons y ys ih =>
    have hle := List.length_filter_le p ys
    rcases List.mem_cons.1 hx with rfl | hx
    · simp only [List.filter_cons, hp, List.length_cons]
      simp only [Bool.false_eq_true, if_false]
      omega
    · have := ih hx
      simp only [List.filter_cons, List.length_cons]
      split
      · simp only [List.length_cons]; omega
      · omega
/-- Somebody survives, and somebody doesn't. -/
theorem surv_some {a : List Int} (h : Dist a) (h2 : 2 ≤ a.length) : 0 < (sIdx a a.length).length ∧ (sIdx a a.length).length + 1 ≤ a.length := by
  obtain ⟨m, hm, hx⟩ := exists_max (fun j => rd a (j : Int)) a.length (by omega)
  have hlt : ∀ j, j < a.length → j ≠ m → rd a (j : Int) < rd a (m : Int) := by
    intro j hj hjm
    have := hx j hj
    have := h j m hj hm hjm
    omega
  constructor
  · obtain ⟨i, hi, hpi⟩ : ∃ i, i < a.length ∧ prevI a.length i = m := by
      by_cases hc : m + 1 < a.length
      · exact ⟨m + 1, hc, by unfold prevI; rw [if_neg (by omega)]; omega⟩
      · exact ⟨0, by omega, by unfold prevI; rw [if_pos rfl]; omega⟩
    have hne : i ≠ m := by
      intro e
      subst e
      unfold prevI at hpi
      split at hpi <;> omega
    have hff : prevI a.length m ≠ m := by
      unfold prevI
      split <;> omega
    have hs : surv a i = true := by
      unfold surv sNear sFar
      rw [hpi]
      have e1 := hlt _ (prevI_lt hm) hff
      have e2 := hlt i hi hne
      simp [e1, e2]
    have : i ∈ sIdx a a.length := by
      unfold sIdx
      rw [List.mem_filter, List.mem_range]
      exact ⟨hi, hs⟩
    exact List.length_pos_of_mem this
  · have hs : surv a m = false := by
      unfold surv
      have : ¬ rd a (m : Int) < sNear a m := by
        unfold sNear
        have := hx _ (prevI_lt (n := a.length) hm)
        omega
      simp [this]
    have := filter_lt (surv a) (List.range a.length) m (List.mem_range.2 hm) hs
    rw [List.length_range] at this
    exact this
/-- What comes behind a list: the lists of the rounds. -/
def tailF : Nat → List Int → List Int → List (List Int)
  | 0, _, _ => []
  | f + 1, l, a => if l.length ≤ 1 then [] else nextS l a a.length :: tailF f (nextS l a a.length) (nextN a a.length)
theorem tailF_each : ∀ (f : Nat) (l a : List Int), l.length = a.length → ∀ r ∈ tailF f l a, r.length ≤ l.length := by
  intro f
  induction f with
  | zero => intro l a _ r hr; cases hr
  | succ f ih =>
    intro l a hl r hr
    simp only [tailF] at hr
    split at hr
    · cases hr
    · have h1 := sIdx_le a a.length
      rcases List.mem_cons.1 hr with rfl | hr
      · rw [nextS_len]; omega
      · have := ih _ _ (by rw [nextS_len, nextN_len]) r hr
        rw [nextS_len] at this
        omega
theorem tailF_len : ∀ (f : Nat) (l a : List Int), (tailF f l a).length ≤ f := by
  intro f
  induction f with
  | zero => intro l a; simp [tailF]
  | succ f ih =>
    intro l a
    simp only [tailF]
    split
    · simp
    · have := ih (nextS l a a.length) (nextN a a.length)
      simp only [List.length_cons]
      omega
theorem mod1 {i n : Nat} (hi : i < n) : Int.tmod ((i : Int) + (n : Int) - 1) (n : Int) = ((prevI n i : Nat) : Int) := by
  rw [Int.tmod_eq_emod_of_nonneg (by omega)]
  unfold prevI
  by_cases h : i = 0
  · rw [if_pos h, Int.emod_eq_of_lt (by omega) (by omega)]
    omega
  · rw [if_neg h, show (i : Int) + n - 1 = ((i : Int) - 1) + n from by omega, Int.add_emod_right, Int.emod_eq_of_lt (by omega) (by omega)]
    omega
theorem mod2 {i n : Nat} (hi : i < n) (h2 : 2 ≤ n) : Int.tmod ((i : Int) + (n : Int) - 2) (n : Int) = ((prevI n (prevI n i) : Nat) : Int) := by
  rw [Int.tmod_eq_emod_of_nonneg (by omega)]
  unfold prevI
  by_cases h : i = 0
  · rw [if_pos h, if_neg (by omega), Int.emod_eq_of_lt (by omega) (by omega)]
    omega
  · rw [if_neg h]
    by_cases h1 : i = 1
    · rw [if_pos (by omega), Int.emod_eq_of_lt (by omega) (by omega)]
      omega
    · rw [if_neg (by omega), show (i : Int) + n - 2 = ((i : Int) - 2) + n from by omega, Int.add_emod_right, Int.emod_eq_of_lt (by omega) (by omega)]
      omega
theorem mod3 {i n : Nat} (hi : i < n) (h2 : 2 ≤ n) : Int.tmod ((i : Int) + 2 * (n : Int) - 2) (n : Int) = ((prevI n (prevI n i) : Nat) : Int) := by
  rw [← mod2 hi h2, Int.tmod_eq_emod_of_nonneg (by omega), Int.tmod_eq_emod_of_nonneg (by omega), show (i : Int) + 2 * (n : Int) - 2 = ((i : Int) + n - 2) + n from by omega, Int.add_emod_right]
end Go.Proofs.Ytbiiklkkfkipeaa.X

/- The survivors: the program and the reference come to the same lists. -/
namespace Go.Proofs.Ytbiiklkkfkipeaa.X
set_option linter.unusedSimpArgs false
set_option linter.unusedVariables false
open Go.RowKit Go.Proofs.YtbiiklkkfkipeaaW.PrintWords
theorem ownS_eq (l : List Int) (hl : l.length ≤ 100000) : spec_l1Own.f l = some l := by
  unfold spec_l1Own.f
  simp only [Option.bind_some, List.length_nil, List.nil_append]
  rw [if_pos (by omega)]
theorem cloneS_eq (l : List Int) (hl : l.length ≤ 100000) : slices_Clone_int_int.f l = some l := by
  unfold slices_Clone_int_int.f
  rw [if_pos (by omega)]
theorem spec_l3 (l a : List Int) (out : List (List Int)) (r : List (List Int)) (hl : l.length = 2) (ha : a.length = 2) (ho : out.length ≤ 1000)
    (h : Ev (fun k => spec_elSurvivors.l1 k (nextS l a a.length) (nextN a a.length) (out ++ [nextS l a a.length])) r) : Ev (fun k => spec_elSurvivors.l3 k a out [] [] l (l.length : Int) 0) r := by
  rw [ha] at h
  have key := evUp0 2 (fun k (s : List Int × List Int) (i : Nat) => spec_elSurvivors.l3 k a out s.1 s.2 l (l.length : Int) (i : Int)) (fun i s => s = (nextS l a i, nextN a i)) r ([], []) rfl
    (by
      intro i s hi hI
      obtain ⟨s1, s2⟩ := s
      injection hI with h1 h2
      have hs1 := sIdx_le a i
      have e1 : s1.length ≤ 2 := by rw [h1, nextS_len]; omega
      have e2 : s2.length ≤ 2 := by rw [h2, nextN_len]; omega
      refine .inl ⟨(nextS l a (i + 1), nextN a (i + 1)), rfl, fun h => evNext (fun k => ?_) h⟩
      show spec_elSurvivors.l3 (k + 1) a out s1 s2 l (l.length : Int) (i : Int) = spec_elSurvivors.l3 k a out (nextS l a (i + 1)) (nextN a (i + 1)) l (l.length : Int) (i + 1 : Nat)
      have hp : (1 : Int) - (i : Int) = ((prevI a.length i : Nat) : Int) := by
        rw [ha]
        unfold prevI
        split <;> omega
      have hpp : prevI a.length (prevI a.length i) = i := by
        rw [ha]
        unfold prevI
        split <;> split <;> omega
      have hpl := prevI_lt (n := a.length) (i := i) (by omega)
      have hsv : surv a i = decide (rd a (i : Int) < sNear a i) := by
        unfold surv sFar
        rw [hpp]
        simp
      simp only [spec_elSurvivors.l3]
      rw [if_pos (by omega), if_pos (by omega), if_pos (by omega), w64 (by omega) (by omega), hp, if_pos (by omega), if_pos (by omega), if_pos (by omega), w64 (by omega) (by omega), nextS_succ, nextN_succ, hsv]
      by_cases hc : rd a (i : Int) < sNear a i
      · rw [if_pos (show rd a ((prevI a.length i : Nat) : Int) > rd a (i : Int) from hc), if_pos (by omega), if_pos (by omega), decide_eq_true hc, if_pos rfl, if_pos rfl, h1, h2]
        rfl
      · rw [if_neg (show ¬ rd a ((prevI a.length i : Nat) : Int) > rd a (i : Int) from hc), decide_eq_false hc, if_neg (by simp), if_neg (by simp), h1, h2]
        rfl)
    (by
      intro s hI
      obtain ⟨s1, s2⟩ := s
      injection hI with h1 h2
      have hs1 := sIdx_le a 2
      have e1 : s1.length ≤ 2 := by rw [h1, nextS_len]; omega
      refine evNext (fun k => ?_) h
      show spec_elSurvivors.l3 (k + 1) a out s1 s2 l (l.length : Int) ((2 : Nat) : Int) = _
      simp only [spec_elSurvivors.l3]
      rw [if_neg (by omega), cloneS_eq s1 (by omega)]
      simp only [Option.bind_some]
      rw [if_pos (by omega), h1, h2])
  exact key
theorem spec_l2 (l a : List Int) (out : List (List Int)) (r : List (List Int)) (hl : l.length = a.length) (h2 : 2 ≤ a.length) (ha : a.length ≤ 12) (ho : out.length ≤ 1000)
    (h : Ev (fun k => spec_elSurvivors.l1 k (nextS l a a.length) (nextN a a.length) (out ++ [nextS l a a.length])) r) : Ev (fun k => spec_elSurvivors.l2 k l a out (l.length : Int) [] [] l (l.length : Int) 0) r := by
  have key := evUp0 a.length (fun k (s : List Int × List Int) (i : Nat) => spec_elSurvivors.l2 k l a out (l.length : Int) s.1 s.2 l (l.length : Int) (i : Int)) (fun i s => s = (nextS l a i, nextN a i)) r ([], []) rfl
    (by
      intro i s hi hI
      obtain ⟨s1, s2⟩ := s
      injection hI with h1 h2'
      have hs1 := sIdx_le a i
      have e1 : s1.length ≤ 12 := by rw [h1, nextS_len]; omega
      have e2 : s2.length ≤ 12 := by rw [h2', nextN_len]; omega
      refine .inl ⟨(nextS l a (i + 1), nextN a (i + 1)), rfl, fun h => evNext (fun k => ?_) h⟩
      show spec_elSurvivors.l2 (k + 1) l a out (l.length : Int) s1 s2 l (l.length : Int) (i : Int) = spec_elSurvivors.l2 k l a out (l.length : Int) (nextS l a (i + 1)) (nextN a (i + 1)) l (l.length : Int) (i + 1 : Nat)
      have hp1 := prevI_lt (n := a.length) (i := i) (by omega)
      have hp2 := prevI_lt (n := a.length) (i := prevI a.length i) (by omega)
      simp only [spec_elSurvivors.l2]
      rw [hl, w64 (x := (i : Int) + (a.length : Int)) (by omega) (by omega), w64 (x := (i : Int) + (a.length : Int) - 1) (by omega) (by omega), w64 (x := (i : Int) + (a.length : Int) - 2) (by omega) (by omega), mod1 hi, mod2 hi h2, w64 (x := (i : Int) + 1) (by omega) (by omega)]
      rw [if_pos (by omega), if_pos (by omega), if_pos (by omega), if_neg (by omega), if_pos (by omega), if_pos (by omega), if_pos (by omega), if_pos (by omega), nextS_succ, nextN_succ]
      by_cases hf : sFar a i < sNear a i
      · rw [if_pos (show rd a ((prevI a.length i : Nat) : Int) > rd a ((prevI a.length (prevI a.length i) : Nat) : Int) from hf), if_pos (by omega)]
        by_cases hc : rd a (i : Int) < sNear a i
        · have hsv : surv a i = true := by simp [surv, hf, hc]
          rw [if_pos (show rd a ((prevI a.length i : Nat) : Int) > rd a (i : Int) from hc), if_pos (by omega), if_pos (by omega), hsv, if_pos rfl, if_pos rfl, h1, h2']
          rfl
        · have hsv : surv a i = false := by simp [surv, hc]
          rw [if_neg (show ¬ rd a ((prevI a.length i : Nat) : Int) > rd a (i : Int) from hc), hsv, if_neg (by simp), if_neg (by simp), h1, h2']
          rfl
      · have hsv : surv a i = false := by simp [surv, hf]
        rw [if_neg (show ¬ rd a ((prevI a.length i : Nat) : Int) > rd a ((prevI a.length (prevI a.length i) : Nat) : Int) from hf), hsv, if_neg (by simp), if_neg (by simp), h1, h2']
        rfl)
    (by
      intro s hI
      obtain ⟨s1, s2⟩ := s
      injection hI with h1 h2'
      have hs1 := sIdx_le a a.length
      have e1 : s1.length ≤ 12 := by rw [h1, nextS_len]; omega
      by_cases hn : a.length = 2
      · refine evNext (fun k => ?_) (spec_l3 l a out r (by omega) hn ho h)
        show spec_elSurvivors.l2 (k + 1) l a out (l.length : Int) s1 s2 l (l.length : Int) (a.length : Int) = _
        simp only [spec_elSurvivors.l2]
        rw [if_neg (by omega), if_pos (by omega)]
      · refine evNext (fun k => ?_) h
        show spec_elSurvivors.l2 (k + 1) l a out (l.length : Int) s1 s2 l (l.length : Int) (a.length : Int) = _
        simp only [spec_elSurvivors.l2]
        rw [if_neg (by omega), if_neg (by omega), cloneS_eq s1 (by omega)]
        simp only [Option.bind_some]
        rw [if_pos (by omega), h1, h2'])
  exact key
theorem spec_l1_ev : ∀ (f : Nat) (l a : List Int) (out : List (List Int)), l.length ≤ f → l.length = a.length → 1 ≤ a.length → a.length ≤ 12 → Dist a → out.length + f ≤ 900 →
    Ev (fun k => spec_elSurvivors.l1 k l a out) (out ++ tailF f l a) := by
  intro f
  induction f with
  | zero => intro l a out h1 h2 h3; omega
  | succ f ih =>
    intro l a out hf hl h1 h12 hd ho
    by_cases hn : l.length ≤ 1
    · refine evEnd fun k => ?_
      show spec_elSurvivors.l1 (k + 1) l a out = _
      simp only [spec_elSurvivors.l1, tailF]
      rw [if_neg (by omega), if_pos hn, List.append_nil]
    · have hs := surv_some hd (by omega)
      have h := ih (nextS l a a.length) (nextN a a.length) (out ++ [nextS l a a.length]) (by rw [nextS_len]; omega) (by rw [nextS_len, nextN_len]) (by rw [nextN_len]; omega) (by rw [nextN_len]; omega) (dist_nextN hd) (by simp; omega)
      have e : out ++ tailF (f + 1) l a = out ++ [nextS l a a.length] ++ tailF f (nextS l a a.length) (nextN a a.length) := by
        simp only [tailF]
        rw [if_neg hn]
        simp
      rw [e]
      refine evNext (fun k => ?_) (spec_l2 l a out _ hl (by omega) h12 (by omega) h)
      show spec_elSurvivors.l1 (k + 1) l a out = _
      simp only [spec_elSurvivors.l1]
      rw [if_pos (by omega)]
/-- The names that the stations of a list have now. -/
def Holds (l own a : List Int) : Prop := ∀ i : Nat, i < l.length → ∃ s : Nat, rd l (i : Int) = (s : Int) ∧ s < own.length ∧ rd own (s : Int) = rd a (i : Int)
theorem rd_set (l : List Int) (i j : Nat) (v : Int) (hi : i < l.length) : rd (l.set i v) (j : Int) = if j = i then v else rd l (j : Int) := by
  simp only [rd, Int.toNat_natCast, List.getD_eq_getElem?_getD, List.getElem?_set]
  by_cases h : j = i
  · subst h
    simp [hi]
  · rw [if_neg h, if_neg (fun e => h e.symm)]
theorem impl_l2 (l own a : List Int) (out : List (List Int)) (r : List (List Int)) (hl : l.length = a.length) (h2 : 2 ≤ a.length) (ha : a.length ≤ 12) (ho : own.length ≤ 12) (hdl : Dist l) (hH : Holds l own a)
    (h : ∀ own', own'.length = own.length → Holds (nextS l a a.length) own' (nextN a a.length) → Ev (fun k => impl_survivors.l1 k (nextS l a a.length) own' out) r) : Ev (fun k => impl_survivors.l2 k l own out (l.length : Int) [] own l (l.length : Int) 0) r := by
  have key := evUp0 a.length (fun k (s : List Int × List Int) (i : Nat) => impl_survivors.l2 k l own out (l.length : Int) s.1 s.2 l (l.length : Int) (i : Int)) (fun i s => s.1 = nextS l a i ∧ s.2.length = own.length ∧ ∀ j : Nat, j < i → surv a j = true → rd s.2 (rd l (j : Int)) = sNear a j) r ([], own) ⟨rfl, rfl, fun j hj => by omega⟩
    (by
      intro i s hi hI
      obtain ⟨s1, s2⟩ := s
      obtain ⟨h1, hsl, hset⟩ := hI
      dsimp only at h1 hsl hset
      have hs1 := sIdx_le a i
      have e1 : s1.length ≤ 12 := by rw [h1, nextS_len]; omega
      have hp1 := prevI_lt (n := a.length) (i := i) (by omega)
      have hp2 := prevI_lt (n := a.length) (i := prevI a.length i) (by omega)
      obtain ⟨c, hc1, hc2, hc3⟩ := hH i (by omega)
      obtain ⟨d, hd1, hd2, hd3⟩ := hH (prevI a.length i) (by omega)
      obtain ⟨q, hq1, hq2, hq3⟩ := hH (prevI a.length (prevI a.length i)) (by omega)
      have eN : rd own (rd l ((prevI a.length i : Nat) : Int)) = sNear a i := by rw [hd1, hd3]; rfl
      have eF : rd own (rd l ((prevI a.length (prevI a.length i) : Nat) : Int)) = sFar a i := by rw [hq1, hq3]; rfl
      have eC : rd own (rd l (i : Int)) = rd a (i : Int) := by rw [hc1, hc3]
      have hw : wrap64 (2 * (a.length : Int)) = 2 * (a.length : Int) := w64 (by omega) (by omega)
      have step : ∀ k, impl_survivors.l2 (k + 1) l own out (l.length : Int) s1 s2 l (l.length : Int) (i : Int) = impl_survivors.l2 k l own out (l.length : Int) (nextS l a (i + 1)) (if surv a i = true then s2.set c (sNear a i) else s2) l (l.length : Int) (i + 1 : Nat) := by
        intro k
        simp only [impl_survivors.l2]
        rw [hl, w64 (x := (i : Int) + (a.length : Int)) (by omega) (by omega), w64 (x := (i : Int) + (a.length : Int) - 1) (by omega) (by omega), hw, w64 (x := (i : Int) + 2 * (a.length : Int)) (by omega) (by omega), w64 (x := (i : Int) + 2 * (a.length : Int) - 2) (by omega) (by omega), mod1 hi, mod3 hi h2, w64 (x := (i : Int) + 1) (by omega) (by omega), eN, eF, eC]
        rw [if_pos (by omega), if_pos (by omega), if_pos (by omega), if_neg (by omega), if_pos (by omega), if_pos (by omega), if_pos (by omega), if_pos (by omega), if_pos (by omega), if_pos (by omega), if_pos (by omega), if_pos (by omega), nextS_succ]
        by_cases hf : sFar a i < sNear a i
        · rw [if_pos (show sNear a i > sFar a i from hf), if_pos (by omega), if_pos (by omega)]
          by_cases hc : rd a (i : Int) < sNear a i
          · have hsv : surv a i = true := by simp [surv, hf, hc]
            rw [if_pos (show sNear a i > rd a (i : Int) from hc), if_pos (by omega), if_pos (by omega), hsv, if_pos rfl, if_pos rfl, h1, hc1, Int.toNat_natCast]
            rfl
          · have hsv : surv a i = false := by simp [surv, hc]
            rw [if_neg (show ¬ sNear a i > rd a (i : Int) from hc), hsv, if_neg (by simp), if_neg (by simp), h1]
            rfl
        · have hsv : surv a i = false := by simp [surv, hf]
          rw [if_neg (show ¬ sNear a i > sFar a i from hf), hsv, if_neg (by simp), if_neg (by simp), h1]
          rfl
      refine .inl ⟨(nextS l a (i + 1), if surv a i = true then s2.set c (sNear a i) else s2), ⟨rfl, ?_, ?_⟩, fun h => evNext step h⟩
      · dsimp only
        split
        · rw [List.length_set]; exact hsl
        · exact hsl
      · dsimp only
        intro j hj hsv
        obtain ⟨b, hb1, hb2, hb3⟩ := hH j (by omega)
        by_cases e : j = i
        · subst e
          rw [if_pos hsv, hc1, rd_set s2 c c _ (by omega), if_pos rfl]
        · have hne : b ≠ c := by
            intro hbc
            have := hdl j i (by omega) (by omega) e
            rw [hb1, hc1, hbc] at this
            exact this rfl
          have hold := hset j (by omega) hsv
          split
          · rw [hb1, rd_set s2 c b _ (by omega), if_neg hne, ← hb1]
            exact hold
          · exact hold)
    (by
      intro s hI
      obtain ⟨s1, s2⟩ := s
      obtain ⟨h1, hsl, hset⟩ := hI
      dsimp only at h1 hsl hset
      refine evNext (fun k => ?_) (h s2 hsl ?_)
      · show impl_survivors.l2 (k + 1) l own out (l.length : Int) s1 s2 l (l.length : Int) (a.length : Int) = _
        simp only [impl_survivors.l2]
        rw [if_neg (by omega), h1]
      · intro q hq
        rw [nextS_len] at hq
        have m := sIdx_mem a a.length q hq
        obtain ⟨b, hb1, hb2, hb3⟩ := hH (sIdx a a.length)[q] (by omega)
        refine ⟨b, by rw [rd_nextS l a _ q hq, hb1], by omega, ?_⟩
        rw [rd_nextN a _ q hq, ← hb1]
        exact hset _ m.1 m.2)
  exact key
theorem impl_l1_ev : ∀ (f : Nat) (l own a : List Int) (out : List (List Int)), l.length ≤ f → l.length = a.length → 1 ≤ a.length → a.length ≤ 12 → own.length ≤ 12 → Dist a → Dist l → Holds l own a → out.length + f ≤ 900 →
    Ev (fun k => impl_survivors.l1 k l own out) (out ++ l :: tailF f l a) := by
  intro f
  induction f with
  | zero => intro l own a out h1 h2 h3; omega
  | succ f ih =>
    intro l own a out hf hl h1 h12 how hd hdl hH ho
    by_cases hn : l.length ≤ 1
    · refine evEnd fun k => ?_
      show impl_survivors.l1 (k + 1) l own out = _
      simp only [impl_survivors.l1, tailF]
      rw [cloneS_eq l (by omega)]
      simp only [Option.bind_some]
      rw [if_pos (by omega), if_pos (by omega), if_pos hn]
    · have hs := surv_some hd (by omega)
      have e : out ++ l :: tailF (f + 1) l a = out ++ [l] ++ nextS l a a.length :: tailF f (nextS l a a.length) (nextN a a.length) := by
        simp only [tailF]
        rw [if_neg hn]
        simp
      rw [e]
      refine evNext (fun k => ?_) (impl_l2 l own a (out ++ [l]) _ hl (by omega) h12 how hdl hH (fun own' hlen hH' => ih (nextS l a a.length) own' (nextN a a.length) (out ++ [l]) (by rw [nextS_len]; omega) (by rw [nextS_len, nextN_len]) (by rw [nextN_len]; omega) (by rw [nextN_len]; omega) (by omega) (dist_nextN hd) (dist_nextS hdl (by omega)) hH' (by simp; omega)))
      show impl_survivors.l1 (k + 1) l own out = _
      simp only [impl_survivors.l1]
      rw [cloneS_eq l (by omega)]
      simp only [Option.bind_some]
      rw [if_pos (by omega), if_neg (by omega), cloneS_eq own (by omega)]
      simp only [Option.bind_some]
/-- All stations. -/
def iota (n : Nat) : List Int := (List.range n).map (fun (j : Nat) => (j : Int))
theorem iota_len (n : Nat) : (iota n).length = n := by simp [iota]
theorem iota_succ (n : Nat) : iota (n + 1) = iota n ++ [(n : Int)] := by simp [iota, List.range_succ]
theorem rd_iota (n i : Nat) (h : i < n) : rd (iota n) (i : Int) = (i : Int) := by
  rw [rd_at _ i (by rw [iota_len]; exact h)]
  simp [iota]
def rounds (names : List Int) : List (List Int) := iota names.length :: tailF names.length (iota names.length) names
theorem specSurv_ev (names : List Int) (h2 : 2 ≤ names.length) (h12 : names.length ≤ 12) (hd : Dist names) : Ev (fun k => spec_elSurvivors.f k names) (rounds names) :=
  evUp0 names.length (fun k (s : List Int) (i : Nat) => spec_elSurvivors.l0 k names s (names.length : Int) (i : Int)) (fun i s => s = iota i) (rounds names) [] rfl
    (by
      intro i s hi hI
      have hsl : s.length = i := by rw [hI, iota_len]
      refine .inl ⟨iota (i + 1), rfl, fun h => evNext (fun k => ?_) h⟩
      show spec_elSurvivors.l0 (k + 1) names s (names.length : Int) (i : Int) = spec_elSurvivors.l0 k names (iota (i + 1)) (names.length : Int) (i + 1 : Nat)
      simp only [spec_elSurvivors.l0]
      rw [if_pos (by omega), if_pos (by omega), w64 (by omega) (by omega), iota_succ, hI]
      rfl)
    (by
      intro s hI
      have hil := iota_len names.length
      have h := spec_l1_ev names.length (iota names.length) names [iota names.length] (by omega) (by omega) (by omega) h12 hd (by simp; omega)
      refine evNext (fun k => ?_) h
      show spec_elSurvivors.l0 (k + 1) names s (names.length : Int) (names.length : Int) = _
      simp only [spec_elSurvivors.l0]
      rw [if_neg (by omega), ownS_eq names (by omega), hI, cloneS_eq _ (by omega)]
      simp)
theorem implSurv_ev (names : List Int) (h2 : 2 ≤ names.length) (h12 : names.length ≤ 12) (hd : Dist names) : Ev (fun k => impl_survivors.f k names) (rounds names) := by
  have key := evUp0 names.length (fun k (s : List Int) (i : Nat) => impl_survivors.l0 k s names [] (names.length : Int) (i : Int)) (fun i s => s = iota i) (rounds names) [] rfl
    (by
      intro i s hi hI
      have hsl : s.length = i := by rw [hI, iota_len]
      refine .inl ⟨iota (i + 1), rfl, fun h => evNext (fun k => ?_) h⟩
      show impl_survivors.l0 (k + 1) s names [] (names.length : Int) (i : Int) = impl_survivors.l0 k (iota (i + 1)) names [] (names.length : Int) (i + 1 : Nat)
      simp only [impl_survivors.l0]
      rw [if_pos (by omega), if_pos (by omega), w64 (by omega) (by omega), iota_succ, hI]
      rfl)
    (by
      intro s hI
      have hil := iota_len names.length
      have h := impl_l1_ev names.length (iota names.length) names names [] (by omega) (by omega) (by omega) h12 h12 hd (fun i j hi hj hij => by
          rw [iota_len] at hi hj
          rw [rd_iota _ i hi, rd_iota _ j hj]
          omega) (fun i hi => by
          rw [iota_len] at hi
          exact ⟨i, rd_iota _ i hi, hi, rfl⟩) (by simp; omega)
      refine evNext (fun k => ?_) h
      show impl_survivors.l0 (k + 1) s names [] (names.length : Int) (names.length : Int) = _
      simp only [impl_survivors.l0]
      rw [if_neg (by omega), hI])
  refine Ev.congr (fun k => ?_) key
  unfold impl_survivors.f
  rw [cloneS_eq names (by omega)]
  rfl
theorem rounds_len (names : List Int) : (rounds names).length ≤ names.length + 1 := by
  have := tailF_len names.length (iota names.length) names
  simp only [rounds, List.length_cons]
  omega
theorem rounds_each (names : List Int) : ∀ r ∈ rounds names, r.length ≤ names.length := by
  intro r hr
  rcases List.mem_cons.1 hr with rfl | hr
  · rw [iota_len]; exact Nat.le_refl _
  · have := tailF_each names.length (iota names.length) names (iota_len _) r hr
    rw [iota_len] at this
    exact this
end Go.Proofs.Ytbiiklkkfkipeaa.X

/- Plain lemmas: whether all numbers lie between two others; traffic; buckets. -/
namespace Go.Proofs.Ytbiiklkkfkipeaa.X
set_option linter.unusedSimpArgs false
set_option linter.unusedVariables false
open Go.RowKit Go.Proofs.YtbiiklkkfkipeaaW.PrintWords
theorem l1In_eq (n lo hi : Int) : spec_l1In.f n lo hi = some (inB lo hi n) := by
  unfold spec_l1In.f inB
  by_cases h : lo ≤ n
  · rw [if_pos (by omega), decide_eq_true h]; simp
  · rw [if_neg (by omega), decide_eq_false h]; simp
theorem within_eq (n lo hi : Int) : impl_within.f n lo hi = some (inB lo hi n) := by
  unfold impl_within.f inB
  by_cases h : lo ≤ n
  · rw [if_pos (by omega), decide_eq_true h]; simp
  · rw [if_neg (by omega), decide_eq_false h]; simp
theorem allWithin_eq (l : List Int) (lo hi : Int) : impl_allWithin.f l lo hi = some (l.all (inB lo hi)) := rfl
theorem inB_iff {lo hi n : Int} : inB lo hi n = true ↔ lo ≤ n ∧ n ≤ hi := by simp [inB]
theorem all_bound {l : List Int} {lo hi : Int} (h : l.all (inB lo hi) = true) : ∀ x ∈ l, lo ≤ x ∧ x ≤ hi := fun x hx => inB_iff.1 (List.all_eq_true.1 h x hx)
theorem all_rd {l : List Int} {lo hi : Int} (h : l.all (inB lo hi) = true) (i : Nat) (hi' : i < l.length) : lo ≤ rd l (i : Int) ∧ rd l (i : Int) ≤ hi := by
  rw [rd_at l i hi']
  exact all_bound h _ (List.getElem_mem hi')
theorem l1All_ev (l : List Int) (lo hi : Int) (hn : l.length ≤ 9223372036854775806) : Ev (fun k => spec_l1All.f k l lo hi) (l.all (inB lo hi)) := by
  have key := evUp0 l.length (fun k (_ : Unit) (i : Nat) => spec_l1All.l0 k lo hi l (l.length : Int) (i : Int)) (fun i _ => (l.take i).all (inB lo hi) = true) (l.all (inB lo hi)) () (by simp)
    (by
      intro i s hlt hI
      cases hb : inB lo hi (rd l (i : Int)) with
      | true =>
        refine .inl ⟨(), ?_, fun h => evNext (fun k => ?_) h⟩
        · rw [List.take_succ_eq_append_getElem hlt, List.all_append, hI]
          rw [rd_at l i hlt] at hb
          simp [hb]
        · show spec_l1All.l0 (k + 1) lo hi l (l.length : Int) (i : Int) = spec_l1All.l0 k lo hi l (l.length : Int) (i + 1 : Nat)
          simp only [spec_l1All.l0]
          rw [if_pos (by omega), if_pos (by omega), if_pos (by omega), l1In_eq, hb]
          simp only [Option.bind_some, if_true]
          rw [w64 (by omega) (by omega)]
          rfl
      | false =>
        refine .inr (evEnd fun k => ?_)
        show spec_l1All.l0 (k + 1) lo hi l (l.length : Int) (i : Int) = _
        simp only [spec_l1All.l0]
        rw [if_pos (by omega), if_pos (by omega), if_pos (by omega), l1In_eq, hb]
        simp only [Option.bind_some]
        have hf : l.all (inB lo hi) = false := by
          rw [List.all_eq_false]
          refine ⟨rd l (i : Int), ?_, by simp [hb]⟩
          rw [rd_at l i hlt]
          exact List.getElem_mem hlt
        rw [hf]
        simp)
    (by
      intro s hI
      refine evEnd fun k => ?_
      show spec_l1All.l0 (k + 1) lo hi l (l.length : Int) (l.length : Int) = _
      simp only [spec_l1All.l0]
      rw [if_neg (by omega)]
      rw [List.take_length] at hI
      rw [hI])
  exact key
end Go.Proofs.Ytbiiklkkfkipeaa.X

/- Plain lemmas: whether a number is among others. -/
namespace Go.Proofs.Ytbiiklkkfkipeaa.X
set_option linter.unusedSimpArgs false
set_option linter.unusedVariables false
open Go.RowKit Go.Proofs.YtbiiklkkfkipeaaW.PrintWords
theorem index_ev (l : List Int) (n : Int) (hl : l.length ≤ 9223372036854775806) : ∃ r : Int, Ev (fun k => slices_Index_int_int.f k l n) r ∧ decide (r ≥ 0) = l.contains n := by
  cases hc : l.contains n with
  | false =>
    refine ⟨-1, ?_, rfl⟩
    have key := evUp0 l.length (fun k (_ : Unit) (i : Nat) => slices_Index_int_int.l0 k l n (l.length : Int) (i : Int)) (fun _ _ => True) (-1) () trivial
      (by
        intro i s hi _
        refine .inl ⟨(), trivial, fun h => evNext (fun k => ?_) h⟩
        show slices_Index_int_int.l0 (k + 1) l n (l.length : Int) (i : Int) = slices_Index_int_int.l0 k l n (l.length : Int) (i + 1 : Nat)
        have hne : ¬ n = l[i] := by
          intro e
          have : l.contains n = true := by rw [e]; simp
          rw [this] at hc
          cases hc
        simp only [slices_Index_int_int.l0]
        rw [if_pos (by omega), if_pos (by omega), if_pos (by omega), rd_at l i hi, if_neg hne, w64 (by omega) (by omega)]
        rfl)
      (by
        intro s _
        refine evEnd fun k => ?_
        show slices_Index_int_int.l0 (k + 1) l n (l.length : Int) (l.length : Int) = _
        simp only [slices_Index_int_int.l0]
        rw [if_neg (by omega)])
    exact key
  | true =>
    have hex : ∃ i : Nat, ∃ h : i < l.length, n = l[i] ∧ ∀ j (hj : j < i), ¬ n = l[j] := by
      clear hl
      induction l with
      | nil => simp at hc
      | cons x xs ih =>
        by_cases e : n = x
        · exact ⟨0, by simp, by simpa using e, fun j hj => absurd hj (by omega)⟩
        · have : xs.contains n = true := by
            rw [List.contains_cons] at hc
            have : (n == x) = false := by simpa using e
            rw [this] at hc
            simpa using hc
          obtain ⟨i, h, h1, h2⟩ := ih this
          refine ⟨i + 1, by simp; omega, by simpa using h1, fun j hj => ?_⟩
          cases j with
          | zero => simpa using e
          | succ j => simpa using h2 j (by omega)
    obtain ⟨m, hm, h1, h2⟩ := hex
    refine ⟨(m : Int), ?_, by simp⟩
    have key := evUp m (fun k (_ : Unit) (i : Nat) => slices_Index_int_int.l0 k l n (l.length : Int) (i : Int)) (fun _ _ => True) (m : Int)
      (by
        intro i s hi _
        refine .inl ⟨(), trivial, fun h => evNext (fun k => ?_) h⟩
        show slices_Index_int_int.l0 (k + 1) l n (l.length : Int) (i : Int) = slices_Index_int_int.l0 k l n (l.length : Int) (i + 1 : Nat)
        simp only [slices_Index_int_int.l0]
        rw [if_pos (by omega), if_pos (by omega), if_pos (by omega), rd_at l i (by omega), if_neg (h2 i hi), w64 (by omega) (by omega)]
        rfl)
      (by
        intro s _
        refine evEnd fun k => ?_
        show slices_Index_int_int.l0 (k + 1) l n (l.length : Int) (m : Int) = _
        simp only [slices_Index_int_int.l0]
        rw [if_pos (by omega), if_pos (by omega), if_pos (by omega), rd_at l m hm, if_pos h1]) 0 () (by omega) trivial
    exact key
theorem contains_ev (l : List Int) (n : Int) (hl : l.length ≤ 9223372036854775806) : Ev (fun k => slices_Contains_int_int.f k l n) (l.contains n) := by
  obtain ⟨r, h1, h2⟩ := index_ev l n hl
  exact evEq (Ev.bind h1 (Ev.now _)) h2
end Go.Proofs.Ytbiiklkkfkipeaa.X

/- Plain lemmas: names. AreNames: the program and the reference come to the same. -/
namespace Go.Proofs.Ytbiiklkkfkipeaa.X
set_option linter.unusedSimpArgs false
set_option linter.unusedVariables false
open Go.RowKit Go.Proofs.YtbiiklkkfkipeaaW.PrintWords
theorem l1Has_ev (l : List Int) (n : Int) (hl : l.length ≤ 9223372036854775806) : Ev (fun k => spec_l1Has.f k l n) (l.contains n) := by
  have key := evUp0 l.length (fun k (_ : Unit) (i : Nat) => spec_l1Has.l0 k n l (l.length : Int) (i : Int)) (fun i _ => (l.drop i).contains n = l.contains n) (l.contains n) () rfl
    (by
      intro i s hi hI
      rw [List.drop_eq_getElem_cons hi, List.contains_cons] at hI
      by_cases e : l[i] = n
      · refine .inr (evEnd fun k => ?_)
        show spec_l1Has.l0 (k + 1) n l (l.length : Int) (i : Int) = _
        simp only [spec_l1Has.l0]
        rw [if_pos (by omega), if_pos (by omega), if_pos (by omega), rd_at l i hi, if_pos e, ← hI, e]
        simp
      · refine .inl ⟨(), ?_, fun h => evNext (fun k => ?_) h⟩
        · have : (n == l[i]) = false := by simpa using fun h => e h.symm
          rw [this, Bool.false_or] at hI
          exact hI
        · show spec_l1Has.l0 (k + 1) n l (l.length : Int) (i : Int) = spec_l1Has.l0 k n l (l.length : Int) (i + 1 : Nat)
          simp only [spec_l1Has.l0]
          rw [if_pos (by omega), if_pos (by omega), if_pos (by omega), rd_at l i hi, if_neg e, w64 (by omega) (by omega)]
          rfl)
    (by
      intro s hI
      rw [List.drop_length] at hI
      refine evEnd fun k => ?_
      show spec_l1Has.l0 (k + 1) n l (l.length : Int) (l.length : Int) = _
      simp only [spec_l1Has.l0]
      rw [if_neg (by omega), ← hI]
      simp)
  exact key
/-- No number of l[i:n] stands before in l. -/
def fresh (l : List Int) : Nat → Bool
  | 0 => true
  | n + 1 => fresh l n && !((l.take n).contains (rd l (n : Int)))
theorem fresh_step (l : List Int) (n : Nat) (h : n < l.length) (hf : fresh l l.length = true) : (l.take n).contains (rd l (n : Int)) = false := by
  have : ∀ m, n < m → fresh l m = true → (l.take n).contains (rd l (n : Int)) = false := by
    intro m
    induction m with
    | zero => intro h; omega
    | succ m ih =>
      intro h1 h2
      simp only [fresh, Bool.and_eq_true] at h2
      by_cases e : n = m
      · subst e
        simpa using h2.2
      · exact ih (by omega) h2.1
  exact this l.length h hf
theorem fresh_false (l : List Int) (n m : Nat) (hm : n < m) (h : (l.take n).contains (rd l (n : Int)) = true) : fresh l m = false := by
  induction m with
  | zero => omega
  | succ m ih =>
    by_cases e : n = m
    · subst e
      show (fresh l n && !((l.take n).contains (rd l (n : Int)))) = false
      rw [h, Bool.not_true, Bool.and_false]
    · simp [fresh, ih (by omega)]
theorem fresh_ne {l : List Int} (hf : fresh l l.length = true) {i j : Nat} (hi : i < l.length) (hj : j < l.length) (hij : i ≠ j) : rd l (i : Int) ≠ rd l (j : Int) := by
  have key : ∀ a b : Nat, a < b → b < l.length → rd l (a : Int) ≠ rd l (b : Int) := by
    intro a b hab hb e
    have h1 := fresh_step l b hb hf
    have h2 : (l.take b).contains (rd l (b : Int)) = true := by
      rw [List.contains_iff_mem, ← e, rd_at l a (by omega)]
      rw [List.mem_take_iff_getElem]
      exact ⟨a, by omega, rfl⟩
    rw [h2] at h1
    cases h1
  rcases Nat.lt_or_ge i j with h | h
  · exact key i j h hj
  · exact fun e => key j i (by omega) hi e.symm
def isNm (l : List Int) : Bool := inB 2 12 (l.length : Int) && (l.all (inB 0 999) && fresh l l.length)
theorem isNm_iff {l : List Int} (h : isNm l = true) : 2 ≤ l.length ∧ l.length ≤ 12 ∧ (∀ x ∈ l, 0 ≤ x ∧ x ≤ 999) ∧ fresh l l.length = true := by
  unfold isNm at h
  simp only [Bool.and_eq_true] at h
  have h1 := inB_iff.1 h.1
  exact ⟨by omega, by omega, all_bound h.2.1, h.2.2⟩
theorem specNames_loop (l : List Int) (hl : l.length ≤ 1048576) : Ev (fun k => spec_elNames.l0 k l l (l.length : Int) ((0 : Nat) : Int)) (fresh l l.length) := by
  refine evUp0 l.length (fun k (_ : Unit) (i : Nat) => spec_elNames.l0 k l l (l.length : Int) (i : Int)) (fun i _ => fresh l i = true) _ () rfl ?_ ?_
  · intro i s hi hI
    have hh := l1Has_ev (l.take i) (rd l (i : Int)) (by simp; omega)
    cases hc : (l.take i).contains (rd l (i : Int)) with
    | true =>
      rw [hc] at hh
      refine .inr (evCallEnd hh fun k hk => ?_)
      show spec_elNames.l0 (k + 1) l l (l.length : Int) (i : Int) = _
      simp only [spec_elNames.l0]
      rw [if_pos (by omega), if_pos (by omega), if_pos (by omega), if_pos (by omega), Int.toNat_natCast, hk, fresh_false l i l.length hi hc]
      rfl
    | false =>
      rw [hc] at hh
      refine .inl ⟨(), by show (fresh l i && !((l.take i).contains (rd l (i : Int)))) = true; rw [hI, hc]; rfl, fun h => evCall hh (fun k hk => ?_) h⟩
      show spec_elNames.l0 (k + 1) l l (l.length : Int) (i : Int) = spec_elNames.l0 k l l (l.length : Int) (i + 1 : Nat)
      simp only [spec_elNames.l0]
      rw [if_pos (by omega), if_pos (by omega), if_pos (by omega), if_pos (by omega), Int.toNat_natCast, hk, w64 (by omega) (by omega)]
      simp only [Option.bind_some, Bool.false_eq_true, if_false]
      rfl
  · intro s hI
    refine evEnd fun k => ?_
    show spec_elNames.l0 (k + 1) l l (l.length : Int) (l.length : Int) = _
    simp only [spec_elNames.l0]
    rw [if_neg (by omega), hI]
theorem specNames_ev (l : List Int) (hl : l.length ≤ 1048576) : Ev (fun k => spec_elNames.f k l) (isNm l) := by
  unfold isNm
  cases h : inB 2 12 (l.length : Int) with
  | false =>
    refine Ev.congr (f := fun k => spec_elNames.j0 k l true) (fun k => by simp [spec_elNames.f, l1In_eq, h]) ?_
    refine evEnd fun k => ?_
    simp [spec_elNames.j0]
  | true =>
    cases ha : l.all (inB 0 999) with
    | false =>
      have h2 : Ev (fun k => spec_elNames.j0 k l true) false := evEnd fun k => by simp [spec_elNames.j0]
      have h1 := l1All_ev l 0 999 (by omega)
      rw [ha] at h1
      exact Ev.congr (f := fun k => (spec_l1All.f k l 0 999).bind fun t => spec_elNames.j0 k l (!t)) (fun k => by simp only [spec_elNames.f, l1In_eq, h, Option.bind_some, if_true]) (Ev.bind h1 h2)
    | true =>
      have h1 := l1All_ev l 0 999 (by omega)
      rw [ha] at h1
      have h2 : Ev (fun k => spec_elNames.j0 k l false) (fresh l l.length) := evNext (fun k => by simp [spec_elNames.j0]) (specNames_loop l hl)
      exact Ev.congr (f := fun k => (spec_l1All.f k l 0 999).bind fun t => spec_elNames.j0 k l (!t)) (fun k => by simp only [spec_elNames.f, l1In_eq, h, Option.bind_some, if_true]) (Ev.bind h1 h2)
theorem implNames_ev (l : List Int) (hl : l.length ≤ 1048576) : Ev (fun k => impl_AreNames.f k l) (isNm l) := by
  have key := evUp0 l.length (fun k (_ : Unit) (i : Nat) => impl_AreNames.l0 k l l (l.length : Int) (i : Int)) (fun i _ => fresh l i = true) (isNm l) () rfl
    (by
      intro i s hi hI
      have hh := contains_ev (l.take i) (rd l (i : Int)) (by simp; omega)
      cases hc : (l.take i).contains (rd l (i : Int)) with
      | true =>
        rw [hc] at hh
        refine .inr (evCallEnd hh fun k hk => ?_)
        show impl_AreNames.l0 (k + 1) l l (l.length : Int) (i : Int) = _
        simp only [impl_AreNames.l0]
        rw [if_pos (by omega), if_pos (by omega), if_pos (by omega), if_pos (by omega), Int.toNat_natCast, hk]
        simp [isNm, fresh_false l i l.length hi hc]
      | false =>
        rw [hc] at hh
        refine .inl ⟨(), by show (fresh l i && !((l.take i).contains (rd l (i : Int)))) = true; rw [hI, hc]; rfl, fun h => evCall hh (fun k hk => ?_) h⟩
        show impl_AreNames.l0 (k + 1) l l (l.length : Int) (i : Int) = impl_AreNames.l0 k l l (l.length : Int) (i + 1 : Nat)
        simp only [impl_AreNames.l0]
        rw [if_pos (by omega), if_pos (by omega), if_pos (by omega), if_pos (by omega), Int.toNat_natCast, hk, w64 (by omega) (by omega)]
        simp only [Option.bind_some, Bool.false_eq_true, if_false]
        rfl)
    (by
      intro s hI
      refine evEnd fun k => ?_
      show impl_AreNames.l0 (k + 1) l l (l.length : Int) (l.length : Int) = _
      simp only [impl_AreNames.l0]
      rw [if_neg (by omega)]
      unfold impl_isRingSize.f isNm
      simp only [within_eq, Option.bind_some, allWithin_eq]
      cases inB 2 12 (l.length : Int) <;> simp [hI])
  exact key
theorem AreNames_same (l : List Int) (h : (l.length ≤ maxLen ∧ l.length * 8 ≤ 140737488351232 ∧ (∀ x ∈ l, (Lit.int .i64 x).wf = true) ∧ l.length ≤ 1048576)) :
    ∃ v, Ev (fun k => spec_AreNames.f k l) v ∧ Ev (fun k => impl_AreNames.f k l) v :=
  ⟨isNm l, evEq (Ev.bind (specNames_ev l h.2.2.2) (Ev.now _)) rfl, implNames_ev l h.2.2.2⟩
end Go.Proofs.Ytbiiklkkfkipeaa.X

/- SurvivorsOf, RoundMessages: the program and the reference come to the same. -/
namespace Go.Proofs.Ytbiiklkkfkipeaa.X
set_option linter.unusedSimpArgs false
set_option linter.unusedVariables false
open Go.RowKit Go.Proofs.YtbiiklkkfkipeaaW.PrintWords
theorem dist_fresh {l : List Int} (hf : fresh l l.length = true) : Dist l := fun _ _ hi hj hij => fresh_ne hf hi hj hij
theorem SurvivorsOf_same (l : List Int) (hl : l.length ≤ 1048576) :
    ∃ v, Ev (fun n => spec_SurvivorsOf.f n l) v ∧ Ev (fun n => impl_SurvivorsOf.f n l) v ∧ v.1.length ≤ 13 ∧ ∀ r ∈ v.1, r.length ≤ 12 := by
  obtain ⟨K, e⟩ := specNames_ev l hl
  obtain ⟨K', e'⟩ := implNames_ev l hl
  dsimp only at e e'
  cases hk : isNm l with
  | true =>
    rw [hk] at e e'
    have hb := isNm_iff hk
    obtain ⟨K1, e1⟩ := specSurv_ev l hb.1 hb.2.1 (dist_fresh hb.2.2.2)
    obtain ⟨K2, e2⟩ := implSurv_ev l hb.1 hb.2.1 (dist_fresh hb.2.2.2)
    dsimp only at e1 e2
    refine ⟨(rounds l, true), ⟨K + K1 + 9, fun n hn => ?_⟩, ⟨K' + K2 + 9, fun n hn => ?_⟩, by have := rounds_len l; dsimp only; omega, fun r hr => by have := rounds_each l r hr; omega⟩
    · simp (disch := omega) only [spec_SurvivorsOf.f, e, e1, Option.bind_some, if_true]
    · simp (disch := omega) only [impl_SurvivorsOf.f, e', e2, Option.bind_some, if_true]
  | false =>
    rw [hk] at e e'
    refine ⟨([], false), ⟨K + 9, fun n hn => ?_⟩, ⟨K' + 9, fun n hn => ?_⟩, by simp, by simp⟩
    · simp (disch := omega) [spec_SurvivorsOf.f, e]
    · simp (disch := omega) [impl_SurvivorsOf.f, e']
theorem RoundMessages_same (l : List Int) (h : (l.length ≤ maxLen ∧ l.length * 8 ≤ 140737488351232 ∧ (∀ x ∈ l, (Lit.int .i64 x).wf = true) ∧ l.length ≤ 1048576)) :
    ∃ v, Ev (fun n => spec_RoundMessages.f n l) v ∧ Ev (fun n => impl_RoundMessages.f n l) v := by
  obtain ⟨K, e⟩ := specNames_ev l h.2.2.2
  obtain ⟨K', e'⟩ := implNames_ev l h.2.2.2
  dsimp only at e e'
  cases hk : isNm l with
  | true =>
    rw [hk] at e e'
    have hb := isNm_iff hk
    obtain ⟨K1, e1⟩ := specSurv_ev l hb.1 hb.2.1 (dist_fresh hb.2.2.2)
    obtain ⟨K2, e2⟩ := implSurv_ev l hb.1 hb.2.1 (dist_fresh hb.2.2.2)
    dsimp only at e1 e2
    refine ⟨(wrap64 ((wrap64 (2 * (l.length : Int))) * (wrap64 (((rounds l).length : Int) - 1))), true), ⟨K + K1 + 9, fun n hn => ?_⟩, ⟨K' + K2 + 9, fun n hn => ?_⟩⟩
    · simp (disch := omega) only [spec_RoundMessages.f, e, e1, Option.bind_some, if_true]
    · simp (disch := omega) only [impl_RoundMessages.f, e', e2, Option.bind_some, if_true]
  | false =>
    rw [hk] at e e'
    refine ⟨(0, false), ⟨K + 9, fun n hn => ?_⟩, ⟨K' + 9, fun n hn => ?_⟩⟩
    · simp (disch := omega) [spec_RoundMessages.f, e]
    · simp (disch := omega) [impl_RoundMessages.f, e']
end Go.Proofs.Ytbiiklkkfkipeaa.X

/- SurvivorsOf answers as the reference does, for every input: the pure statement. -/
namespace Go.Proofs.Ytbiiklkkfkipeaa.Pure
set_option linter.unusedSimpArgs false
set_option linter.unusedVariables false
set_option linter.unusedSimpArgs false
open Go.RowKit Go.Proofs.Ytbiiklkkfkipeaa.X Go.Proofs.YtbiiklkkfkipeaaW.PrintWords Go.Proofs.YtbiiklkkfkipeaaW.PrintLast
set_option maxHeartbeats 1000000 in
theorem FnExactSurvivorsOf : ∀ (l0 : List Int), l0.length ≤ maxLen → l0.length * 8 ≤ 140737488351232 → (∀ x ∈ l0, (Lit.int .i64 x).wf = true) → ∃ k, laws_FnExactSurvivorsOf.f k l0 = some true := by
  intro l0 _ _ _
  by_cases hb0 : (l0.length : Int) > 1048576
  · exact ⟨9, by simp [laws_FnExactSurvivorsOf.f, hb0]⟩
  obtain ⟨⟨r, b⟩, ⟨K1, e1⟩, ⟨K2, e2⟩, hr1, hr2⟩ := SurvivorsOf_same l0 (by omega)
  dsimp only at hr1 hr2
  have ht := tot_le r 12 hr2
  have ht2 : r.length * 12 ≤ 13 * 12 := Nat.mul_le_mul_right 12 hr1
  obtain ⟨K3, e3⟩ := toIntS_ev l0 (by omega)
  obtain ⟨K5, e5⟩ := eqIntSS_ev r (by omega) (fun l hl => by have := hr2 l hl; omega)
  obtain ⟨K6, e6⟩ := eqIntS_ev l0 l0 (by omega)
  obtain ⟨K8, e8⟩ := markIntS_ev l0 1 (by omega) (by omega)
  obtain ⟨K10, e10⟩ := markIntSS_ev r 1 (by omega) (by omega) (by omega)
  obtain ⟨K11, e11⟩ := heldIntSS_ev r 1 (by omega) (by omega) (by omega)
  dsimp only at e1 e2 e3 e5 e6 e8 e10 e11
  refine ⟨K1 + K2 + K3 + K5 + K6 + K8 + K10 + K11, ?_⟩
  simp (disch := omega) only [laws_FnExactSurvivorsOf.f, if_neg hb0, e1, e2, e3, e5, e6, e8, e10, e11, Option.bind_some]
  rw [if_pos (by refine ⟨trivial, by simp, trivial, by omega, by omega, trivial⟩)]
end Go.Proofs.Ytbiiklkkfkipeaa.Pure

/- Plain lemmas for the rows: a slice of structs of three whole numbers that came in, opened to cells. -/
namespace Go.Proofs.Ytbiiklkkfkipeaa.Rw
open Go.ChangeShapes Go.WideShapes Go.Deep Go.RowKit
section
variable {H : Type} {enc : TypeId × Value → H} {P : Program} {w : World} {base : Nat} {spare : Nat → Bool} {held : Bool}
theorem trod_int_mk {t : TypeId} {k : IntKind} {n : Int} (h : P.underlying t = some (.int k)) (hw : (Lit.int k n).wf = true) : ∃ m, DataW.trod enc P w base spare held m t [.int k n] = some (.lit (.int k n), []) := ⟨1, by simp [DataW.trod, h, hw]⟩
theorem trod_bool_mk {t : TypeId} {b : Bool} (h : P.underlying t = some .bool) : ∃ m, DataW.trod enc P w base spare held m t [.bool b] = some (.lit (.bool b), []) := ⟨1, by simp [DataW.trod, h]⟩
def numAt (w : World) (a : Addr) : Int := match w.cell? a with
  | some (.int _ n) => n
  | _ => 0
theorem open_rows3 {t e : TypeId} {f0 f1 f2 : Field} {fuel : Nat} {A : Option Addr} {len cap : Nat} {x : DataW H × List MemPlace} (ht : P.underlying t = some (.slice e)) (he : P.underlying e = some (.struct #[f0, f1, f2]))
    (hone : oneCellFields P #[f0, f1, f2] = true) (hC : P.cellsOf e = 3) (h0 : P.underlying f0.type = some (.int .i64)) (h1 : P.underlying f1.type = some (.int .i64)) (h2 : P.underlying f2.type = some (.int .i64))
    (h : DataW.trod enc P w base spare held fuel t [.slice A len cap] = some x) :
    len ≤ cap ∧ len ≤ 9223372036854775807 ∧ ∃ l : List (Int × Int × Int), l.length = len ∧ (∀ p ∈ l, (Lit.int .i64 p.1).wf = true ∧ (Lit.int .i64 p.2.1).wf = true ∧ (Lit.int .i64 p.2.2).wf = true) ∧
      (0 < len → ∃ ad, A = some ad ∧ ∀ j p, l[j]? = some p → w.cell? (ad.add (j * 3 + 0)) = some (.int .i64 p.1) ∧ w.cell? (ad.add (j * 3 + 1)) = some (.int .i64 p.2.1) ∧ w.cell? (ad.add (j * 3 + 2)) = some (.int .i64 p.2.2)) := by
  rcases open_slice ht h with ⟨hcs, _⟩ | ⟨a, len', cap', m, n, D, Pl, hcs, hb, hl, hm, hmm, hx, hi⟩
  · injection hcs with hcs
    injection hcs with ha hl hc
    subst ha hl hc
    exact ⟨Nat.le_refl _, by omega, [], rfl, by simp, fun h => absurd h (by omega)⟩
  · injection hcs with hcs
    injection hcs with ha hl' hc'
    subst ha hl' hc'
    have hml : len ≤ m := by rw [hmm]; split <;> omega
    have key : ∀ i, i < len → ∃ n0 n1 n2 : Int, w.cell? (a.add (i * 3 + 0)) = some (.int .i64 n0) ∧ w.cell? (a.add (i * 3 + 1)) = some (.int .i64 n1) ∧ w.cell? (a.add (i * 3 + 2)) = some (.int .i64 n2) ∧
        (Lit.int .i64 n0).wf = true ∧ (Lit.int .i64 n1).wf = true ∧ (Lit.int .i64 n2).wf = true := by
      intro i hil
      obtain ⟨cs', hc, ht'⟩ := hi i (by omega)
      rw [hC] at hc
      obtain ⟨ys, n', hn', hy, hlen, hyl, hf⟩ := DataW.trod_struct he ht'
      obtain ⟨_, hcl, hat⟩ := World.cells?_some hc
      have one : ∀ (j : Nat) (f : Field), j < 3 → (#[f0, f1, f2] : Array Field)[j]? = some f → P.underlying f.type = some (.int .i64) → ∃ n0 : Int, w.cell? (a.add (i * 3 + j)) = some (.int .i64 n0) ∧ (Lit.int .i64 n0).wf = true := by
        intro j f hj3 hj hu
        obtain ⟨ho, hk⟩ := hone_of hone j f hj
        have hcell := hat j hj3
        have hv : cs'[j]? = some (cs'[j]'(by omega)) := List.getElem?_eq_getElem (by omega)
        have g1 := hf j f hj
        rw [ho, hk] at g1
        have hone' : (cs'.drop j).take 1 = [cs'[j]'(by omega)] := by
          rw [List.drop_eq_getElem_cons (by omega)]
          rfl
        rw [hone'] at g1
        have hys : ys[j]? = some (ys[j]'(by simp at hyl; omega)) := List.getElem?_eq_getElem (by simp at hyl; omega)
        obtain ⟨n0, e0, _, wf0⟩ := DataW.trod_int hu (g1.trans hys)
        refine ⟨n0, ?_, wf0⟩
        rw [← Go.Deep.add_add, hcell, hv]
        injection e0 with e0
        rw [e0]
      obtain ⟨n0, c0, w0⟩ := one 0 f0 (by omega) rfl h0
      obtain ⟨n1, c1, w1⟩ := one 1 f1 (by omega) rfl h1
      obtain ⟨n2, c2, w2⟩ := one 2 f2 (by omega) rfl h2
      exact ⟨n0, n1, n2, c0, c1, c2, w0, w1, w2⟩
    refine ⟨hl, by unfold maxLen at hm; omega, (List.range len).map (fun i => (numAt w (a.add (i * 3 + 0)), numAt w (a.add (i * 3 + 1)), numAt w (a.add (i * 3 + 2)))), by simp, ?_, fun _ => ⟨a, rfl, ?_⟩⟩
    · intro p hp
      obtain ⟨i, hir, rfl⟩ := List.mem_map.1 hp
      obtain ⟨n0, n1, n2, c0, c1, c2, w0, w1, w2⟩ := key i (List.mem_range.1 hir)
      simp only [numAt, c0, c1, c2]
      exact ⟨w0, w1, w2⟩
    · intro j p hj
      obtain ⟨hjl, hp⟩ := List.getElem?_eq_some_iff.1 hj
      have hjl' : j < len := by simpa using hjl
      obtain ⟨n0, n1, n2, c0, c1, c2, w0, w1, w2⟩ := key j hjl'
      have : p = (n0, n1, n2) := by
        rw [← hp]
        simp only [List.getElem_map, List.getElem_range, numAt, c0, c1, c2]
      subst this
      exact ⟨c0, c1, c2⟩
end
end Go.Proofs.Ytbiiklkkfkipeaa.Rw
