/- Several texts of this session in one: X25. -/
import Derived.Test.YtgkbeejkbhhjkaaMFnExactQueueAt0
/- What the functions of the program come to, and that they do: written by this session's program wip/xprint.py out of the translation; parts named extern are typed by hand. -/
namespace Go.Proofs.Ytgkbeejkbhhjkaa.X
open Go.RowKit Go.Proofs.YtgkbeejkbhhjkaaW.PrintWords Go.Proofs.YtgkbeejkbhhjkaaW.PrintLast Go.Proofs.YtgkbeejkbhhjkaaW.PrintMore
attribute [local go_sem] max2_int min2_int max_two min_two max_three min_three max_four min_four   -- for this text's walks alone
set_option linter.unusedVariables false
set_option linter.unusedSimpArgs false

/-- A state of type 68 at block g of W; what its slices lead to came in by w0. -/
def IsS68 (w0 W : World) (g : Nat) (f0 : Int) (f1 : Bool) (f2 : List (S30)) (f3 : List Int) (f4 : List Int) (f5 : List Int) : Prop := ∃ A2 c2, ∃ A3 c3, ∃ A4 c4, ∃ A5 c5, W.heap[g]? = some (.cells #[.int .i64 f0, .bool f1, .slice A2 f2.length c2, .slice A3 f3.length c3, .slice A4 f4.length c4, .slice A5 f5.length c5] 68 (0, 0)) ∧ True ∧ Kd.C k30 w0 A2 f2.length f2 ∧ Kd.C (Kd.int .i64) w0 A3 f3.length f3 ∧ Kd.C (Kd.int .i64) w0 A4 f4.length f4 ∧ Kd.C (Kd.int .i64) w0 A5 f5.length f5
theorem IsS68.grown {w0 W : World} {g : Nat} {f0 : Int} {f1 : Bool} {f2 : List (S30)} {f3 : List Int} {f4 : List Int} {f5 : List Int} {W1 : World} {row : Option Nat} (h : IsS68 w0 W g f0 f1 f2 f3 f4 f5) (hw : W.grownBy W1 row) (hne : some g ≠ row) : IsS68 w0 W1 g f0 f1 f2 f3 f4 f5 := by
  obtain ⟨A2, c2, A3, c3, A4, c4, A5, c5, hb, hg, hr2, hr3, hr4, hr5⟩ := h
  exact ⟨A2, c2, A3, c3, A4, c4, A5, c5, blk_grown hb hw hne, hg, hr2, hr3, hr4, hr5⟩
theorem IsS68.kept {w0 W : World} {g : Nat} {f0 : Int} {f1 : Bool} {f2 : List (S30)} {f3 : List Int} {f4 : List Int} {f5 : List Int} {W1 : World} {S : Nat → Prop} (h : IsS68 w0 W g f0 f1 f2 f3 f4 f5) (hk : Kept W W1 S) (hne : ¬ S g) : IsS68 w0 W1 g f0 f1 f2 f3 f4 f5 := by
  obtain ⟨A2, c2, A3, c3, A4, c4, A5, c5, hb, hg, hr2, hr3, hr4, hr5⟩ := h
  exact ⟨A2, c2, A3, c3, A4, c4, A5, c5, blk_kept hb hk hne, hg, hr2, hr3, hr4, hr5⟩
theorem IsS68.below {w0 W : World} {g : Nat} {f0 : Int} {f1 : Bool} {f2 : List (S30)} {f3 : List Int} {f4 : List Int} {f5 : List Int} {W1 : World} (h : IsS68 w0 W g f0 f1 f2 f3 f4 f5) (hw : Below W.heap.size W W1) : IsS68 w0 W1 g f0 f1 f2 f3 f4 f5 := h.grown (grown_of_below hw none) (by simp)
theorem IsS68.alloc {w0 W : World} {g : Nat} {f0 : Int} {f1 : Bool} {f2 : List (S30)} {f3 : List Int} {f4 : List Int} {f5 : List Int} (h : IsS68 w0 W g f0 f1 f2 f3 f4 f5) (o : Obj) : IsS68 w0 (W.alloc o) g f0 f1 f2 f3 f4 f5 := h.below (below_alloc (Below.refl _ _) o)
theorem IsS68.drewN {w0 W : World} {g : Nat} {f0 : Int} {f1 : Bool} {f2 : List (S30)} {f3 : List Int} {f4 : List Int} {f5 : List Int} (h : IsS68 w0 W g f0 f1 f2 f3 f4 f5) (m : Nat) : IsS68 w0 (W.drewN m) g f0 f1 f2 f3 f4 f5 := h
theorem IsS68.drew {w0 W : World} {g : Nat} {f0 : Int} {f1 : Bool} {f2 : List (S30)} {f3 : List Int} {f4 : List Int} {f5 : List Int} (h : IsS68 w0 W g f0 f1 f2 f3 f4 f5) : IsS68 w0 W.drew g f0 f1 f2 f3 f4 f5 := h
theorem IsS68.at_ {w0 W : World} {g : Nat} {f0 : Int} {f1 : Bool} {f2 : List (S30)} {f3 : List Int} {f4 : List Int} {f5 : List Int} {w' : World} {m : Nat} (hq : W.drewN m = w') (h : IsS68 w0 W g f0 f1 f2 f3 f4 f5) : IsS68 w0 w' g f0 f1 f2 f3 f4 f5 := by subst hq; exact IsS68.drewN h m
theorem IsS68.apart {w0 W : World} {g : Nat} {f0 : Int} {f1 : Bool} {f2 : List (S30)} {f3 : List Int} {f4 : List Int} {f5 : List Int} {α : Type} {d : Kd α} {e : Nat} {base : Nat} {ok : Nat → Prop} {v : Value} {xs : List α} (h : IsS68 w0 W g f0 f1 f2 f3 f4 f5) (ho : d.R e W base ok v xs) (ht : ∀ q, q ∈ e :: d.E → q ≠ 68) : d.R e W base (fun k => ok k ∧ k ≠ g) v xs := by
  obtain ⟨A2, c2, A3, c3, A4, c4, A5, c5, hb, hg, hr2, hr3, hr4, hr5⟩ := h
  exact Kd.R_types ho hb ht
theorem IsS68.own_ne {w0 W : World} {g : Nat} {f0 : Int} {f1 : Bool} {f2 : List (S30)} {f3 : List Int} {f4 : List Int} {f5 : List Int} {α : Type} {d : Kd α} {e : Nat} {base : Nat} {ok : Nat → Prop} {v : Value} {xs : List α} (h : IsS68 w0 W g f0 f1 f2 f3 f4 f5) (ho : d.R e W base ok v xs) (ht : e ≠ 68) : some g ≠ v.ownBlock := by
  obtain ⟨A2, c2, A3, c3, A4, c4, A5, c5, hb, hg, hr2, hr3, hr4, hr5⟩ := h
  exact Kd.R_ne ho hb ht
theorem IsS68.lt {w0 W : World} {g : Nat} {f0 : Int} {f1 : Bool} {f2 : List (S30)} {f3 : List Int} {f4 : List Int} {f5 : List Int} (h : IsS68 w0 W g f0 f1 f2 f3 f4 f5) : g < W.heap.size := by
  obtain ⟨A2, c2, A3, c3, A4, c4, A5, c5, hb, hg, hr2, hr3, hr4, hr5⟩ := h
  exact blk_lt hb
theorem IsS68.far {w0 W : World} {g : Nat} {f0 : Int} {f1 : Bool} {f2 : List (S30)} {f3 : List Int} {f4 : List Int} {f5 : List Int} {p : Addr} (h : IsS68 w0 W g f0 f1 f2 f3 f4 f5) (hne : g ≠ p.block) (u : Value) : IsS68 w0 (W.setCell p u) g f0 f1 f2 f3 f4 f5 := by
  obtain ⟨A2, c2, A3, c3, A4, c4, A5, c5, hb, hg, hr2, hr3, hr4, hr5⟩ := h
  exact ⟨A2, c2, A3, c3, A4, c4, A5, c5, blk_far hb hne u, hg, hr2, hr3, hr4, hr5⟩
theorem cellS68_0 {W : World} {g : Nat} {A2 : Option Addr} {c2 : Nat} {A3 : Option Addr} {c3 : Nat} {A4 : Option Addr} {c4 : Nat} {A5 : Option Addr} {c5 : Nat} {f0 : Int} {f1 : Bool} {f2 : List (S30)} {f3 : List Int} {f4 : List Int} {f5 : List Int} (h : W.heap[g]? = some (.cells #[.int .i64 f0, .bool f1, .slice A2 f2.length c2, .slice A3 f3.length c3, .slice A4 f4.length c4, .slice A5 f5.length c5] 68 (0, 0))) : W.cell? ⟨g, 0, none⟩ = some (.int .i64 f0) := (blk_cell h 0).trans rfl
theorem IsS68.set_0 {w0 W : World} {g : Nat} {f0 : Int} {f1 : Bool} {f2 : List (S30)} {f3 : List Int} {f4 : List Int} {f5 : List Int} (h : IsS68 w0 W g f0 f1 f2 f3 f4 f5) (x : Int) : IsS68 w0 (W.setCell ⟨g, 0, none⟩ (.int .i64 x)) g x f1 f2 f3 f4 f5 := by
  obtain ⟨A2, c2, A3, c3, A4, c4, A5, c5, hb, hg, hr2, hr3, hr4, hr5⟩ := h
  exact ⟨A2, c2, A3, c3, A4, c4, A5, c5, by simpa using blk_set hb 0 (.int .i64 x), hg, hr2, hr3, hr4, hr5⟩
theorem cellS68_1 {W : World} {g : Nat} {A2 : Option Addr} {c2 : Nat} {A3 : Option Addr} {c3 : Nat} {A4 : Option Addr} {c4 : Nat} {A5 : Option Addr} {c5 : Nat} {f0 : Int} {f1 : Bool} {f2 : List (S30)} {f3 : List Int} {f4 : List Int} {f5 : List Int} (h : W.heap[g]? = some (.cells #[.int .i64 f0, .bool f1, .slice A2 f2.length c2, .slice A3 f3.length c3, .slice A4 f4.length c4, .slice A5 f5.length c5] 68 (0, 0))) : W.cell? ⟨g, 1, none⟩ = some (.bool f1) := (blk_cell h 1).trans rfl
theorem IsS68.set_1 {w0 W : World} {g : Nat} {f0 : Int} {f1 : Bool} {f2 : List (S30)} {f3 : List Int} {f4 : List Int} {f5 : List Int} (h : IsS68 w0 W g f0 f1 f2 f3 f4 f5) (x : Bool) : IsS68 w0 (W.setCell ⟨g, 1, none⟩ (.bool x)) g f0 x f2 f3 f4 f5 := by
  obtain ⟨A2, c2, A3, c3, A4, c4, A5, c5, hb, hg, hr2, hr3, hr4, hr5⟩ := h
  exact ⟨A2, c2, A3, c3, A4, c4, A5, c5, by simpa using blk_set hb 1 (.bool x), hg, hr2, hr3, hr4, hr5⟩
theorem cellS68_2 {W : World} {g : Nat} {A2 : Option Addr} {c2 : Nat} {A3 : Option Addr} {c3 : Nat} {A4 : Option Addr} {c4 : Nat} {A5 : Option Addr} {c5 : Nat} {f0 : Int} {f1 : Bool} {f2 : List (S30)} {f3 : List Int} {f4 : List Int} {f5 : List Int} (h : W.heap[g]? = some (.cells #[.int .i64 f0, .bool f1, .slice A2 f2.length c2, .slice A3 f3.length c3, .slice A4 f4.length c4, .slice A5 f5.length c5] 68 (0, 0))) : W.cell? ⟨g, 2, none⟩ = some (.slice A2 f2.length c2) := (blk_cell h 2).trans rfl
theorem cellS68_3 {W : World} {g : Nat} {A2 : Option Addr} {c2 : Nat} {A3 : Option Addr} {c3 : Nat} {A4 : Option Addr} {c4 : Nat} {A5 : Option Addr} {c5 : Nat} {f0 : Int} {f1 : Bool} {f2 : List (S30)} {f3 : List Int} {f4 : List Int} {f5 : List Int} (h : W.heap[g]? = some (.cells #[.int .i64 f0, .bool f1, .slice A2 f2.length c2, .slice A3 f3.length c3, .slice A4 f4.length c4, .slice A5 f5.length c5] 68 (0, 0))) : W.cell? ⟨g, 3, none⟩ = some (.slice A3 f3.length c3) := (blk_cell h 3).trans rfl
theorem cellS68_4 {W : World} {g : Nat} {A2 : Option Addr} {c2 : Nat} {A3 : Option Addr} {c3 : Nat} {A4 : Option Addr} {c4 : Nat} {A5 : Option Addr} {c5 : Nat} {f0 : Int} {f1 : Bool} {f2 : List (S30)} {f3 : List Int} {f4 : List Int} {f5 : List Int} (h : W.heap[g]? = some (.cells #[.int .i64 f0, .bool f1, .slice A2 f2.length c2, .slice A3 f3.length c3, .slice A4 f4.length c4, .slice A5 f5.length c5] 68 (0, 0))) : W.cell? ⟨g, 4, none⟩ = some (.slice A4 f4.length c4) := (blk_cell h 4).trans rfl
theorem cellS68_5 {W : World} {g : Nat} {A2 : Option Addr} {c2 : Nat} {A3 : Option Addr} {c3 : Nat} {A4 : Option Addr} {c4 : Nat} {A5 : Option Addr} {c5 : Nat} {f0 : Int} {f1 : Bool} {f2 : List (S30)} {f3 : List Int} {f4 : List Int} {f5 : List Int} (h : W.heap[g]? = some (.cells #[.int .i64 f0, .bool f1, .slice A2 f2.length c2, .slice A3 f3.length c3, .slice A4 f4.length c4, .slice A5 f5.length c5] 68 (0, 0))) : W.cell? ⟨g, 5, none⟩ = some (.slice A5 f5.length c5) := (blk_cell h 5).trans rfl
theorem IsS68.new (w0 W : World) (A2 : Option Addr) (c2 : Nat) (A3 : Option Addr) (c3 : Nat) (A4 : Option Addr) (c4 : Nat) (A5 : Option Addr) (c5 : Nat) (f0 : Int) (f1 : Bool) (f2 : List (S30)) (f3 : List Int) (f4 : List Int) (f5 : List Int) (hB : Below w0.heap.size w0 W) (hr2 : Kd.C k30 w0 A2 f2.length f2) (hr3 : Kd.C (Kd.int .i64) w0 A3 f3.length f3) (hr4 : Kd.C (Kd.int .i64) w0 A4 f4.length f4) (hr5 : Kd.C (Kd.int .i64) w0 A5 f5.length f5) : IsS68 w0 (W.alloc (.cells #[.int .i64 f0, .bool f1, .slice A2 f2.length c2, .slice A3 f3.length c3, .slice A4 f4.length c4, .slice A5 f5.length c5] 68)) W.heap.size f0 f1 f2 f3 f4 f5 := ⟨A2, c2, A3, c3, A4, c4, A5, c5, by simpa using heap_alloc_new W _, trivial, hr2, hr3, hr4, hr5⟩

/-! ### spec_slRun_next: function 71 -/
def spec_slRun_next.l0 : Nat → Int → Int → List (S30) → Int → Int → Int → Bool → List (S30) → List Int → List Int → List Int → Option (Int × Int × Bool)
  | 0, _, _, _, _, _, _, _, _, _, _, _ => none
  | k + 1, x1, x2, x12, x13, x14, x1000, x1001, x1002, x1003, x1004, x1005 => if x14 < x13 then (if 0 ≤ x14 then (if x14 < (x12.length : Int) then (if ((rd_T30 x12 x14).f1) = x1 then (if ((rd_T30 x12 x14).f0) ≤ x2 then (if x14 < (x1004.length : Int) then (if (rd x1004 x14) < 0 then (some (x14, x1000, x1001)) else (spec_slRun_next.l0 k x1 x2 x12 x13 (wrap64 (x14 + 1)) x1000 x1001 x1002 x1003 x1004 x1005)) else (none)) else (spec_slRun_next.l0 k x1 x2 x12 x13 (wrap64 (x14 + 1)) x1000 x1001 x1002 x1003 x1004 x1005)) else (spec_slRun_next.l0 k x1 x2 x12 x13 (wrap64 (x14 + 1)) x1000 x1001 x1002 x1003 x1004 x1005)) else (none)) else (none)) else (some ((-1), x1000, x1001))
def spec_slRun_next.f (k : Nat) (s0_0 : Int) (s0_1 : Bool) (s0_2 : List (S30)) (s0_3 : List Int) (s0_4 : List Int) (s0_5 : List Int) (a1 : Int) (a2 : Int) : Option (Int × Int × Bool) := spec_slRun_next.l0 k a1 a2 s0_2 (s0_2.length : Int) 0 s0_0 s0_1 s0_2 s0_3 s0_4 s0_5
set_option maxHeartbeats 8000000 in
set_option maxRecDepth 100000 in
theorem spec_slRun_next.calls (k : Nat) (g : Nat) (s0_0 : Int) (s0_1 : Bool) (s0_2 : List (S30)) (s0_3 : List Int) (s0_4 : List Int) (s0_5 : List Int) (a1 : Int) (a2 : Int) (r1 : Int) (r2 : Int) (r3 : Bool) (w0 w : World) (hI : IsS68 w0 w g s0_0 s0_1 s0_2 s0_3 s0_4 s0_5) (hB : Below w0.heap.size w0 w) (h : spec_slRun_next.f k s0_0 s0_1 s0_2 s0_3 s0_4 s0_5 a1 a2 = some (r1, r2, r3)) :
    Calls Try.prog 71 #[.pointer (some ⟨g, 0, none⟩), .int .i64 a1, .int .i64 a2] w fun e w' => e = .returned (.int .i64 r1) ∧ IsS68 w0 w' g r2 r3 s0_2 s0_3 s0_4 s0_5 ∧ Below w0.heap.size w0 w' ∧ KeepBut w w' g none := by
  have hu30 := Try.underlying30
  have HI0 := Aside0.mk hI
  have HK := Aside0.mk (KeepBut.refl w g none)
  have HL := Aside0.mk hB.size
  clear hI
  have HW0 := Aside0.mk hB.size
  have HB := Aside0.mk hB
  clear hB
  have H : (spec_slRun_next.l0 k a1 a2 s0_2 (s0_2.length : Int) 0 s0_0 s0_1 s0_2 s0_3 s0_4 s0_5) = some (r1, r2, r3) := h
  clear h
  have H' := Aside0.mk H
  clear H
  obtain ⟨ASz4_2, cSz4_2, ASz4_3, cSz4_3, ASz4_4, cSz4_4, ASz4_5, cSz4_5, HGz4, hgz4, HSz4_2, HSz4_3, HSz4_4, HSz4_5⟩ := HI0.out
  have hcz4_0 := cellS68_0 HGz4
  have hcz4_1 := cellS68_1 HGz4
  have hcz4_2 := cellS68_2 HGz4
  have hcz4_3 := cellS68_3 HGz4
  have hcz4_4 := cellS68_4 HGz4
  have hcz4_5 := cellS68_5 HGz4
  have hfz4_0 := blk_frozen HGz4 0
  have hfz4_1 := blk_frozen HGz4 1
  clear HGz4 hgz4
  go_enter Try.func71, Try.ntmps71
  go_wp2
  go_loopg [14] k (fun kq v14 w' => ∃ (x14_1 : Int), v14 = .int .i64 x14_1 ∧ Aside0 (spec_slRun_next.l0 kq a1 a2 s0_2 (s0_2.length : Int) x14_1 s0_0 s0_1 s0_2 s0_3 s0_4 s0_5 = some (r1, r2, r3)) ∧ Aside0 (kq ≤ k) ∧ Aside0 (IsS68 w0 w' g s0_0 s0_1 s0_2 s0_3 s0_4 s0_5) ∧ Aside0 (KeepBut w w' g none) ∧ Aside0 (Below w0.heap.size w0 w'))
  case atStart => exact ⟨(0), (by first | rfl | (simp; done) | (simp [*]; done)), H', ⟨Nat.le_refl _⟩, ⟨by repeat (first | (with_reducible first | exact HI0.out | apply IsS68.alloc | apply IsS68.drewN | apply IsS68.drew | apply IsS68.set_0 | apply IsS68.set_1) | exact HI0.out)⟩, ⟨by repeat (first | (with_reducible first | exact HK.out | apply KeepBut.set_ | apply keep_drewN | apply keep_drew | apply keep_alloc) | exact HK.out)⟩, ⟨by repeat (first | (with_reducible first | exact HB.out | apply below_alloc | apply pw_below_drewN | apply below_drew1 | fail) | exact HB.out)⟩⟩
  case round =>
    clear H'
    try clear p2
    try clear hcz4_0
    try clear hcz4_1
    try clear hcz4_2
    try clear hcz4_3
    try clear hcz4_4
    try clear hcz4_5
    try clear hfz4_0
    try clear hfz4_1
    obtain ⟨x14_1, rfl, HA, HK1, HI0, HK, HB⟩ := hrel
    cases gk with
    | zero => exact absurd HA.out (by simp [spec_slRun_next.l0])
    | succ k1 =>
      have H := HA.out
      clear HA
      simp only [spec_slRun_next.l0] at H
      by_cases c5 : x14_1 < (s0_2.length : Int)
      · rw [if_pos c5] at H
        have c5b0 : decide (x14_1 < (s0_2.length : Int)) = true := decide_eq_true c5
        clear c5
        by_cases c6 : 0 ≤ x14_1
        · rw [if_pos c6] at H
          have c6b0 : decide (0 ≤ x14_1) = true := decide_eq_true c6
          clear c6
          by_cases c7 : x14_1 < (s0_2.length : Int)
          · rw [if_pos c7] at H
            have c7b0 : decide (x14_1 < (s0_2.length : Int)) = true := decide_eq_true c7
            clear c7
            by_cases c8 : ((rd_T30 s0_2 x14_1).f1) = a1
            · rw [if_pos c8] at H
              have c8b0 : (((rd_T30 s0_2 x14_1).f1) == a1) = true := beq_iff_eq.mpr c8
              have c8b1 : (((rd_T30 s0_2 x14_1).f1) != a1) = false := bne_eq_false_iff_eq.mpr c8
              clear c8
              by_cases c9 : ((rd_T30 s0_2 x14_1).f0) ≤ a2
              · rw [if_pos c9] at H
                have c9b0 : decide (((rd_T30 s0_2 x14_1).f0) ≤ a2) = true := decide_eq_true c9
                clear c9
                by_cases c10 : x14_1 < (s0_4.length : Int)
                · rw [if_pos c10] at H
                  have c10b0 : decide (x14_1 < (s0_4.length : Int)) = true := decide_eq_true c10
                  clear c10
                  by_cases c11 : (rd s0_4 x14_1) < 0
                  · rw [if_pos c11] at H
                    have c11b0 : decide ((rd s0_4 x14_1) < 0) = true := decide_eq_true c11
                    clear c11
                    simp only [Option.some.injEq, Prod.mk.injEq] at H
                    obtain ⟨rfl, rfl, rfl⟩ := H
                    obtain ⟨ASz12_2, cSz12_2, ASz12_3, cSz12_3, ASz12_4, cSz12_4, ASz12_5, cSz12_5, HGz12, hgz12, HSz12_2, HSz12_3, HSz12_4, HSz12_5⟩ := HI0.out
                    have hcz12_0 := cellS68_0 HGz12
                    have hcz12_1 := cellS68_1 HGz12
                    have hcz12_2 := cellS68_2 HGz12
                    have hcz12_3 := cellS68_3 HGz12
                    have hcz12_4 := cellS68_4 HGz12
                    have hcz12_5 := cellS68_5 HGz12
                    have hfz12_0 := blk_frozen HGz12 0
                    have hfz12_1 := blk_frozen HGz12 1
                    clear HGz12 hgz12
                    have p362 : 0 ≤ (x14_1 : Int) := of_decide_eq_true (by first | (with_reducible assumption) | assumption)
                    have q362 : x14_1 < (s0_2.length : Int) := of_decide_eq_true (by first | (with_reducible assumption) | assumption)
                    obtain ⟨ad362, e362, hx362_0, hx362_1, hx362_2⟩ := at_T30 HSz4_2 x14_1 p362 q362
                    cases e362
                    replace hx362_0 := pw_cell_below HB.out hx362_0
                    replace hx362_1 := pw_cell_below HB.out hx362_1
                    replace hx362_2 := pw_cell_below HB.out hx362_2
                    replace p362 := eq_true p362
                    replace q362 := eq_true q362
                    go_wp2_with (first | ((with_reducible refine gate_dst (N := 8) rfl ?_); refine box_event ?hg (N := 8) ?hd (cs := #[.int .i64 0, .int .i64 0, .int .i64 0]) (t := 30) ?hr ?_; (case hd => rfl); (case hg => rfl); (case hr => first | (go_simp; done) | (go_simp; rfl)); intro gb363 hg w13 hbox hb; have n0_ := Aside0.mk (IsS68.below (by repeat (first | (with_reducible first | exact HI0.out | apply IsS68.alloc | apply IsS68.drewN | apply IsS68.drew | apply IsS68.set_0 | apply IsS68.set_1) | exact HI0.out)) hb); have n1_ := Aside0.mk (KeepBut.trans (by repeat (first | (with_reducible first | exact HK.out | apply KeepBut.set_ | apply keep_drewN | apply keep_drew | apply keep_alloc) | exact HK.out)) (KeepBut.of_below hb g none) (.inl rfl)); have n2_ := Aside0.mk (below_step (by repeat (first | (with_reducible first | exact HB.out | apply below_alloc | apply pw_below_drewN | apply below_drew1 | fail) | exact HB.out)) hb); have n3_ := Aside0.mk (hbox); have n4_ := Aside0.mk ((by rw [hg]; exact (keep_size (w := w) (g := g) (row := none) (by repeat (first | (with_reducible first | exact HK.out | apply KeepBut.set_ | apply keep_drewN | apply keep_drew | apply keep_alloc) | exact HK.out))) : w.heap.size ≤ gb363)); have n5_ := Aside0.mk ((Nat.le_trans HW0.out (by rw [hg]; exact (keep_size (w := w) (g := g) (row := none) (by repeat (first | (with_reducible first | exact HK.out | apply KeepBut.set_ | apply keep_drewN | apply keep_drew | apply keep_alloc) | exact HK.out))) : w.heap.size ≤ gb363) : w0.heap.size ≤ gb363)); have n6_ := Aside0.mk ((by rw [hg]; exact Nat.ne_of_lt (IsS68.lt (show IsS68 w0 _ g s0_0 s0_1 s0_2 s0_3 s0_4 s0_5 from by repeat (first | (with_reducible first | exact HI0.out | apply IsS68.alloc | apply IsS68.drewN | apply IsS68.drew | apply IsS68.set_0 | apply IsS68.set_1) | exact HI0.out))) : g ≠ gb363)); have n7_ := Aside0.mk ((by rw [hg]; exact Nat.ne_of_gt (IsS68.lt (show IsS68 w0 _ g s0_0 s0_1 s0_2 s0_3 s0_4 s0_5 from by repeat (first | (with_reducible first | exact HI0.out | apply IsS68.alloc | apply IsS68.drewN | apply IsS68.drew | apply IsS68.set_0 | apply IsS68.set_1) | exact HI0.out))) : gb363 ≠ g)); clear HI0; clear HK; clear HB; have HI0 := n0_; have HK := n1_; have HB := n2_; have BK363 := n3_; have GW363 := n4_; have GE363 := n5_; have NB0_363 := n6_; have NB363_0 := n7_; clear n0_ n1_ n2_ n3_ n4_ n5_ n6_ n7_; clear hb hbox hg; have hnb14 := NB363_0.out; have hnc14 := NB0_363.out; have hcz15_0 : w13.cell? ⟨gb363, 0, none⟩ = some (.int .i64 0) := (blk_cell BK363.out 0).trans rfl; have hcz15_1 : w13.cell? ⟨gb363, 1, none⟩ = some (.int .i64 0) := (blk_cell BK363.out 1).trans rfl; have hcz15_2 : w13.cell? ⟨gb363, 2, none⟩ = some (.int .i64 0) := (blk_cell BK363.out 2).trans rfl; have hfz15_0 := blk_frozen BK363.out 0; have hfz15_1 := blk_frozen BK363.out 1; have hfz15_2 := blk_frozen BK363.out 2; obtain ⟨ASz16_2, cSz16_2, ASz16_3, cSz16_3, ASz16_4, cSz16_4, ASz16_5, cSz16_5, HGz16, hgz16, HSz16_2, HSz16_3, HSz16_4, HSz16_5⟩ := HI0.out; have hcz16_0 := cellS68_0 HGz16; have hcz16_1 := cellS68_1 HGz16; have hcz16_2 := cellS68_2 HGz16; have hcz16_3 := cellS68_3 HGz16; have hcz16_4 := cellS68_4 HGz16; have hcz16_5 := cellS68_5 HGz16; have hfz16_0 := blk_frozen HGz16 0; have hfz16_1 := blk_frozen HGz16 1; clear HGz16 hgz16; have p364 : 0 ≤ (x14_1 : Int) := of_decide_eq_true (by first | (with_reducible assumption) | assumption); have q364 : x14_1 < (s0_4.length : Int) := of_decide_eq_true (by first | (with_reducible assumption) | assumption); obtain ⟨ad364, e364, hx364_0⟩ := Kd.at_int HSz16_4 x14_1 p364 q364; cases e364; have hn364_0 : ad364.block ≠ gb363 := Nat.ne_of_lt (Nat.lt_of_lt_of_le (by have := World.block_lt_of_cell? _ _ hx364_0; first | rwa [add_block] at this | exact this) GE363.out); have hn364_1 : ad364.block ≠ gb363 := Nat.ne_of_lt (Nat.lt_of_lt_of_le (by have := World.block_lt_of_cell? _ _ hx364_0; first | rwa [add_block] at this | exact this) GE363.out); have hn364_2 : ad364.block ≠ gb363 := Nat.ne_of_lt (Nat.lt_of_lt_of_le (by have := World.block_lt_of_cell? _ _ hx364_0; first | rwa [add_block] at this | exact this) GE363.out); replace hx364_0 := pw_cell_below HB.out hx364_0; replace hx364_0 := (cell_far (p := ⟨gb363, 0, none⟩) (by first | (rw [add_block]; exact hn364_0) | (show (Addr.add _ _).block ≠ _; rw [add_block]; exact hn364_0) | exact hn364_0) (.int .i64 ((rd_T30 s0_2 x14_1).f0))).trans hx364_0; replace hx364_0 := (cell_far (p := ⟨gb363, 1, none⟩) (by first | (rw [add_block]; exact hn364_1) | (show (Addr.add _ _).block ≠ _; rw [add_block]; exact hn364_1) | exact hn364_1) (.int .i64 ((rd_T30 s0_2 x14_1).f1))).trans hx364_0; replace hx364_0 := (cell_far (p := ⟨gb363, 2, none⟩) (by first | (rw [add_block]; exact hn364_2) | (show (Addr.add _ _).block ≠ _; rw [add_block]; exact hn364_2) | exact hn364_2) (.int .i64 ((rd_T30 s0_2 x14_1).f2))).trans hx364_0; clear hn364_0; clear hn364_1; clear hn364_2; replace p364 := eq_true p364; replace q364 := eq_true q364))
                    go_ret
                    exact ⟨by first | rfl | (simp [errW_none, errW_some] <;> rfl) | (simp [*, errW_none, errW_some] <;> rfl), by repeat (first | (with_reducible first | exact HI0.out | apply IsS68.alloc | apply IsS68.drewN | apply IsS68.drew | apply IsS68.set_0 | apply IsS68.set_1 | refine IsS68.far ?_ NB0_363.out _) | exact HI0.out), by repeat (first | (with_reducible first | exact HB.out | apply below_alloc | apply pw_below_drewN | apply below_drew1 | fail | refine below_set ?_ GE363.out) | exact HB.out), by repeat (first | (with_reducible first | exact HK.out | apply KeepBut.set_ | apply keep_drewN | apply keep_drew | apply keep_alloc | refine keep_far ?_ GW363.out _) | exact HK.out)⟩
                  · rw [if_neg c11] at H
                    have c11b0 : decide ((rd s0_4 x14_1) < 0) = false := decide_eq_false c11
                    clear c11
                    have H' := Aside0.mk H
                    clear H
                    obtain ⟨ASz17_2, cSz17_2, ASz17_3, cSz17_3, ASz17_4, cSz17_4, ASz17_5, cSz17_5, HGz17, hgz17, HSz17_2, HSz17_3, HSz17_4, HSz17_5⟩ := HI0.out
                    have hcz17_0 := cellS68_0 HGz17
                    have hcz17_1 := cellS68_1 HGz17
                    have hcz17_2 := cellS68_2 HGz17
                    have hcz17_3 := cellS68_3 HGz17
                    have hcz17_4 := cellS68_4 HGz17
                    have hcz17_5 := cellS68_5 HGz17
                    have hfz17_0 := blk_frozen HGz17 0
                    have hfz17_1 := blk_frozen HGz17 1
                    clear HGz17 hgz17
                    have p362 : 0 ≤ (x14_1 : Int) := of_decide_eq_true (by first | (with_reducible assumption) | assumption)
                    have q362 : x14_1 < (s0_2.length : Int) := of_decide_eq_true (by first | (with_reducible assumption) | assumption)
                    obtain ⟨ad362, e362, hx362_0, hx362_1, hx362_2⟩ := at_T30 HSz4_2 x14_1 p362 q362
                    cases e362
                    replace hx362_0 := pw_cell_below HB.out hx362_0
                    replace hx362_1 := pw_cell_below HB.out hx362_1
                    replace hx362_2 := pw_cell_below HB.out hx362_2
                    replace p362 := eq_true p362
                    replace q362 := eq_true q362
                    go_wp2_with (first | ((with_reducible refine gate_dst (N := 8) rfl ?_); refine box_event ?hg (N := 8) ?hd (cs := #[.int .i64 0, .int .i64 0, .int .i64 0]) (t := 30) ?hr ?_; (case hd => rfl); (case hg => rfl); (case hr => first | (go_simp; done) | (go_simp; rfl)); intro gb363 hg w18 hbox hb; have n0_ := Aside0.mk (IsS68.below (by repeat (first | (with_reducible first | exact HI0.out | apply IsS68.alloc | apply IsS68.drewN | apply IsS68.drew | apply IsS68.set_0 | apply IsS68.set_1) | exact HI0.out)) hb); have n1_ := Aside0.mk (KeepBut.trans (by repeat (first | (with_reducible first | exact HK.out | apply KeepBut.set_ | apply keep_drewN | apply keep_drew | apply keep_alloc) | exact HK.out)) (KeepBut.of_below hb g none) (.inl rfl)); have n2_ := Aside0.mk (below_step (by repeat (first | (with_reducible first | exact HB.out | apply below_alloc | apply pw_below_drewN | apply below_drew1 | fail) | exact HB.out)) hb); have n3_ := Aside0.mk (hbox); have n4_ := Aside0.mk ((by rw [hg]; exact (keep_size (w := w) (g := g) (row := none) (by repeat (first | (with_reducible first | exact HK.out | apply KeepBut.set_ | apply keep_drewN | apply keep_drew | apply keep_alloc) | exact HK.out))) : w.heap.size ≤ gb363)); have n5_ := Aside0.mk ((Nat.le_trans HW0.out (by rw [hg]; exact (keep_size (w := w) (g := g) (row := none) (by repeat (first | (with_reducible first | exact HK.out | apply KeepBut.set_ | apply keep_drewN | apply keep_drew | apply keep_alloc) | exact HK.out))) : w.heap.size ≤ gb363) : w0.heap.size ≤ gb363)); have n6_ := Aside0.mk ((by rw [hg]; exact Nat.ne_of_lt (IsS68.lt (show IsS68 w0 _ g s0_0 s0_1 s0_2 s0_3 s0_4 s0_5 from by repeat (first | (with_reducible first | exact HI0.out | apply IsS68.alloc | apply IsS68.drewN | apply IsS68.drew | apply IsS68.set_0 | apply IsS68.set_1) | exact HI0.out))) : g ≠ gb363)); have n7_ := Aside0.mk ((by rw [hg]; exact Nat.ne_of_gt (IsS68.lt (show IsS68 w0 _ g s0_0 s0_1 s0_2 s0_3 s0_4 s0_5 from by repeat (first | (with_reducible first | exact HI0.out | apply IsS68.alloc | apply IsS68.drewN | apply IsS68.drew | apply IsS68.set_0 | apply IsS68.set_1) | exact HI0.out))) : gb363 ≠ g)); clear HI0; clear HK; clear HB; have HI0 := n0_; have HK := n1_; have HB := n2_; have BK363 := n3_; have GW363 := n4_; have GE363 := n5_; have NB0_363 := n6_; have NB363_0 := n7_; clear n0_ n1_ n2_ n3_ n4_ n5_ n6_ n7_; clear hb hbox hg; have hnb19 := NB363_0.out; have hnc19 := NB0_363.out; have hcz20_0 : w18.cell? ⟨gb363, 0, none⟩ = some (.int .i64 0) := (blk_cell BK363.out 0).trans rfl; have hcz20_1 : w18.cell? ⟨gb363, 1, none⟩ = some (.int .i64 0) := (blk_cell BK363.out 1).trans rfl; have hcz20_2 : w18.cell? ⟨gb363, 2, none⟩ = some (.int .i64 0) := (blk_cell BK363.out 2).trans rfl; have hfz20_0 := blk_frozen BK363.out 0; have hfz20_1 := blk_frozen BK363.out 1; have hfz20_2 := blk_frozen BK363.out 2; obtain ⟨ASz21_2, cSz21_2, ASz21_3, cSz21_3, ASz21_4, cSz21_4, ASz21_5, cSz21_5, HGz21, hgz21, HSz21_2, HSz21_3, HSz21_4, HSz21_5⟩ := HI0.out; have hcz21_0 := cellS68_0 HGz21; have hcz21_1 := cellS68_1 HGz21; have hcz21_2 := cellS68_2 HGz21; have hcz21_3 := cellS68_3 HGz21; have hcz21_4 := cellS68_4 HGz21; have hcz21_5 := cellS68_5 HGz21; have hfz21_0 := blk_frozen HGz21 0; have hfz21_1 := blk_frozen HGz21 1; clear HGz21 hgz21; have p364 : 0 ≤ (x14_1 : Int) := of_decide_eq_true (by first | (with_reducible assumption) | assumption); have q364 : x14_1 < (s0_4.length : Int) := of_decide_eq_true (by first | (with_reducible assumption) | assumption); obtain ⟨ad364, e364, hx364_0⟩ := Kd.at_int HSz21_4 x14_1 p364 q364; cases e364; have hn364_0 : ad364.block ≠ gb363 := Nat.ne_of_lt (Nat.lt_of_lt_of_le (by have := World.block_lt_of_cell? _ _ hx364_0; first | rwa [add_block] at this | exact this) GE363.out); have hn364_1 : ad364.block ≠ gb363 := Nat.ne_of_lt (Nat.lt_of_lt_of_le (by have := World.block_lt_of_cell? _ _ hx364_0; first | rwa [add_block] at this | exact this) GE363.out); have hn364_2 : ad364.block ≠ gb363 := Nat.ne_of_lt (Nat.lt_of_lt_of_le (by have := World.block_lt_of_cell? _ _ hx364_0; first | rwa [add_block] at this | exact this) GE363.out); replace hx364_0 := pw_cell_below HB.out hx364_0; replace hx364_0 := (cell_far (p := ⟨gb363, 0, none⟩) (by first | (rw [add_block]; exact hn364_0) | (show (Addr.add _ _).block ≠ _; rw [add_block]; exact hn364_0) | exact hn364_0) (.int .i64 ((rd_T30 s0_2 x14_1).f0))).trans hx364_0; replace hx364_0 := (cell_far (p := ⟨gb363, 1, none⟩) (by first | (rw [add_block]; exact hn364_1) | (show (Addr.add _ _).block ≠ _; rw [add_block]; exact hn364_1) | exact hn364_1) (.int .i64 ((rd_T30 s0_2 x14_1).f1))).trans hx364_0; replace hx364_0 := (cell_far (p := ⟨gb363, 2, none⟩) (by first | (rw [add_block]; exact hn364_2) | (show (Addr.add _ _).block ≠ _; rw [add_block]; exact hn364_2) | exact hn364_2) (.int .i64 ((rd_T30 s0_2 x14_1).f2))).trans hx364_0; clear hn364_0; clear hn364_1; clear hn364_2; replace p364 := eq_true p364; replace q364 := eq_true q364))
                    go_roundg k1
                    case measure => have := HK1.out; omega
                    case rel => exact ⟨(wrap64 (x14_1 + 1)), (by first | rfl | (simp; done) | (simp [*]; done)), H', ⟨by have := HK1.out; omega⟩, ⟨by repeat (first | (with_reducible first | exact HI0.out | apply IsS68.alloc | apply IsS68.drewN | apply IsS68.drew | apply IsS68.set_0 | apply IsS68.set_1 | refine IsS68.far ?_ NB0_363.out _) | exact HI0.out)⟩, ⟨by repeat (first | (with_reducible first | exact HK.out | apply KeepBut.set_ | apply keep_drewN | apply keep_drew | apply keep_alloc | refine keep_far ?_ GW363.out _) | exact HK.out)⟩, ⟨by repeat (first | (with_reducible first | exact HB.out | apply below_alloc | apply pw_below_drewN | apply below_drew1 | fail | refine below_set ?_ GE363.out) | exact HB.out)⟩⟩
                · rw [if_neg c10] at H
                  exact absurd H (by simp)
              · rw [if_neg c9] at H
                have c9b0 : decide (((rd_T30 s0_2 x14_1).f0) ≤ a2) = false := decide_eq_false c9
                clear c9
                have H' := Aside0.mk H
                clear H
                obtain ⟨ASz22_2, cSz22_2, ASz22_3, cSz22_3, ASz22_4, cSz22_4, ASz22_5, cSz22_5, HGz22, hgz22, HSz22_2, HSz22_3, HSz22_4, HSz22_5⟩ := HI0.out
                have hcz22_0 := cellS68_0 HGz22
                have hcz22_1 := cellS68_1 HGz22
                have hcz22_2 := cellS68_2 HGz22
                have hcz22_3 := cellS68_3 HGz22
                have hcz22_4 := cellS68_4 HGz22
                have hcz22_5 := cellS68_5 HGz22
                have hfz22_0 := blk_frozen HGz22 0
                have hfz22_1 := blk_frozen HGz22 1
                clear HGz22 hgz22
                have p362 : 0 ≤ (x14_1 : Int) := of_decide_eq_true (by first | (with_reducible assumption) | assumption)
                have q362 : x14_1 < (s0_2.length : Int) := of_decide_eq_true (by first | (with_reducible assumption) | assumption)
                obtain ⟨ad362, e362, hx362_0, hx362_1, hx362_2⟩ := at_T30 HSz4_2 x14_1 p362 q362
                cases e362
                replace hx362_0 := pw_cell_below HB.out hx362_0
                replace hx362_1 := pw_cell_below HB.out hx362_1
                replace hx362_2 := pw_cell_below HB.out hx362_2
                replace p362 := eq_true p362
                replace q362 := eq_true q362
                go_wp2_with (first | ((with_reducible refine gate_dst (N := 8) rfl ?_); refine box_event ?hg (N := 8) ?hd (cs := #[.int .i64 0, .int .i64 0, .int .i64 0]) (t := 30) ?hr ?_; (case hd => rfl); (case hg => rfl); (case hr => first | (go_simp; done) | (go_simp; rfl)); intro gb363 hg w23 hbox hb; have n0_ := Aside0.mk (IsS68.below (by repeat (first | (with_reducible first | exact HI0.out | apply IsS68.alloc | apply IsS68.drewN | apply IsS68.drew | apply IsS68.set_0 | apply IsS68.set_1) | exact HI0.out)) hb); have n1_ := Aside0.mk (KeepBut.trans (by repeat (first | (with_reducible first | exact HK.out | apply KeepBut.set_ | apply keep_drewN | apply keep_drew | apply keep_alloc) | exact HK.out)) (KeepBut.of_below hb g none) (.inl rfl)); have n2_ := Aside0.mk (below_step (by repeat (first | (with_reducible first | exact HB.out | apply below_alloc | apply pw_below_drewN | apply below_drew1 | fail) | exact HB.out)) hb); have n3_ := Aside0.mk (hbox); have n4_ := Aside0.mk ((by rw [hg]; exact (keep_size (w := w) (g := g) (row := none) (by repeat (first | (with_reducible first | exact HK.out | apply KeepBut.set_ | apply keep_drewN | apply keep_drew | apply keep_alloc) | exact HK.out))) : w.heap.size ≤ gb363)); have n5_ := Aside0.mk ((Nat.le_trans HW0.out (by rw [hg]; exact (keep_size (w := w) (g := g) (row := none) (by repeat (first | (with_reducible first | exact HK.out | apply KeepBut.set_ | apply keep_drewN | apply keep_drew | apply keep_alloc) | exact HK.out))) : w.heap.size ≤ gb363) : w0.heap.size ≤ gb363)); have n6_ := Aside0.mk ((by rw [hg]; exact Nat.ne_of_lt (IsS68.lt (show IsS68 w0 _ g s0_0 s0_1 s0_2 s0_3 s0_4 s0_5 from by repeat (first | (with_reducible first | exact HI0.out | apply IsS68.alloc | apply IsS68.drewN | apply IsS68.drew | apply IsS68.set_0 | apply IsS68.set_1) | exact HI0.out))) : g ≠ gb363)); have n7_ := Aside0.mk ((by rw [hg]; exact Nat.ne_of_gt (IsS68.lt (show IsS68 w0 _ g s0_0 s0_1 s0_2 s0_3 s0_4 s0_5 from by repeat (first | (with_reducible first | exact HI0.out | apply IsS68.alloc | apply IsS68.drewN | apply IsS68.drew | apply IsS68.set_0 | apply IsS68.set_1) | exact HI0.out))) : gb363 ≠ g)); clear HI0; clear HK; clear HB; have HI0 := n0_; have HK := n1_; have HB := n2_; have BK363 := n3_; have GW363 := n4_; have GE363 := n5_; have NB0_363 := n6_; have NB363_0 := n7_; clear n0_ n1_ n2_ n3_ n4_ n5_ n6_ n7_; clear hb hbox hg; have hnb24 := NB363_0.out; have hnc24 := NB0_363.out; have hcz25_0 : w23.cell? ⟨gb363, 0, none⟩ = some (.int .i64 0) := (blk_cell BK363.out 0).trans rfl; have hcz25_1 : w23.cell? ⟨gb363, 1, none⟩ = some (.int .i64 0) := (blk_cell BK363.out 1).trans rfl; have hcz25_2 : w23.cell? ⟨gb363, 2, none⟩ = some (.int .i64 0) := (blk_cell BK363.out 2).trans rfl; have hfz25_0 := blk_frozen BK363.out 0; have hfz25_1 := blk_frozen BK363.out 1; have hfz25_2 := blk_frozen BK363.out 2))
                go_roundg k1
                case measure => have := HK1.out; omega
                case rel => exact ⟨(wrap64 (x14_1 + 1)), (by first | rfl | (simp; done) | (simp [*]; done)), H', ⟨by have := HK1.out; omega⟩, ⟨by repeat (first | (with_reducible first | exact HI0.out | apply IsS68.alloc | apply IsS68.drewN | apply IsS68.drew | apply IsS68.set_0 | apply IsS68.set_1 | refine IsS68.far ?_ NB0_363.out _) | exact HI0.out)⟩, ⟨by repeat (first | (with_reducible first | exact HK.out | apply KeepBut.set_ | apply keep_drewN | apply keep_drew | apply keep_alloc | refine keep_far ?_ GW363.out _) | exact HK.out)⟩, ⟨by repeat (first | (with_reducible first | exact HB.out | apply below_alloc | apply pw_below_drewN | apply below_drew1 | fail | refine below_set ?_ GE363.out) | exact HB.out)⟩⟩
            · rw [if_neg c8] at H
              have c8b0 : (((rd_T30 s0_2 x14_1).f1) == a1) = false := beq_eq_false_iff_ne.mpr c8
              have c8b1 : (((rd_T30 s0_2 x14_1).f1) != a1) = true := bne_iff_ne.mpr c8
              have H' := Aside0.mk H
              clear H
              obtain ⟨ASz26_2, cSz26_2, ASz26_3, cSz26_3, ASz26_4, cSz26_4, ASz26_5, cSz26_5, HGz26, hgz26, HSz26_2, HSz26_3, HSz26_4, HSz26_5⟩ := HI0.out
              have hcz26_0 := cellS68_0 HGz26
              have hcz26_1 := cellS68_1 HGz26
              have hcz26_2 := cellS68_2 HGz26
              have hcz26_3 := cellS68_3 HGz26
              have hcz26_4 := cellS68_4 HGz26
              have hcz26_5 := cellS68_5 HGz26
              have hfz26_0 := blk_frozen HGz26 0
              have hfz26_1 := blk_frozen HGz26 1
              clear HGz26 hgz26
              have p362 : 0 ≤ (x14_1 : Int) := of_decide_eq_true (by first | (with_reducible assumption) | assumption)
              have q362 : x14_1 < (s0_2.length : Int) := of_decide_eq_true (by first | (with_reducible assumption) | assumption)
              obtain ⟨ad362, e362, hx362_0, hx362_1, hx362_2⟩ := at_T30 HSz4_2 x14_1 p362 q362
              cases e362
              replace hx362_0 := pw_cell_below HB.out hx362_0
              replace hx362_1 := pw_cell_below HB.out hx362_1
              replace hx362_2 := pw_cell_below HB.out hx362_2
              replace p362 := eq_true p362
              replace q362 := eq_true q362
              go_wp2_with (first | ((with_reducible refine gate_dst (N := 8) rfl ?_); refine box_event ?hg (N := 8) ?hd (cs := #[.int .i64 0, .int .i64 0, .int .i64 0]) (t := 30) ?hr ?_; (case hd => rfl); (case hg => rfl); (case hr => first | (go_simp; done) | (go_simp; rfl)); intro gb363 hg w27 hbox hb; have n0_ := Aside0.mk (IsS68.below (by repeat (first | (with_reducible first | exact HI0.out | apply IsS68.alloc | apply IsS68.drewN | apply IsS68.drew | apply IsS68.set_0 | apply IsS68.set_1) | exact HI0.out)) hb); have n1_ := Aside0.mk (KeepBut.trans (by repeat (first | (with_reducible first | exact HK.out | apply KeepBut.set_ | apply keep_drewN | apply keep_drew | apply keep_alloc) | exact HK.out)) (KeepBut.of_below hb g none) (.inl rfl)); have n2_ := Aside0.mk (below_step (by repeat (first | (with_reducible first | exact HB.out | apply below_alloc | apply pw_below_drewN | apply below_drew1 | fail) | exact HB.out)) hb); have n3_ := Aside0.mk (hbox); have n4_ := Aside0.mk ((by rw [hg]; exact (keep_size (w := w) (g := g) (row := none) (by repeat (first | (with_reducible first | exact HK.out | apply KeepBut.set_ | apply keep_drewN | apply keep_drew | apply keep_alloc) | exact HK.out))) : w.heap.size ≤ gb363)); have n5_ := Aside0.mk ((Nat.le_trans HW0.out (by rw [hg]; exact (keep_size (w := w) (g := g) (row := none) (by repeat (first | (with_reducible first | exact HK.out | apply KeepBut.set_ | apply keep_drewN | apply keep_drew | apply keep_alloc) | exact HK.out))) : w.heap.size ≤ gb363) : w0.heap.size ≤ gb363)); have n6_ := Aside0.mk ((by rw [hg]; exact Nat.ne_of_lt (IsS68.lt (show IsS68 w0 _ g s0_0 s0_1 s0_2 s0_3 s0_4 s0_5 from by repeat (first | (with_reducible first | exact HI0.out | apply IsS68.alloc | apply IsS68.drewN | apply IsS68.drew | apply IsS68.set_0 | apply IsS68.set_1) | exact HI0.out))) : g ≠ gb363)); have n7_ := Aside0.mk ((by rw [hg]; exact Nat.ne_of_gt (IsS68.lt (show IsS68 w0 _ g s0_0 s0_1 s0_2 s0_3 s0_4 s0_5 from by repeat (first | (with_reducible first | exact HI0.out | apply IsS68.alloc | apply IsS68.drewN | apply IsS68.drew | apply IsS68.set_0 | apply IsS68.set_1) | exact HI0.out))) : gb363 ≠ g)); clear HI0; clear HK; clear HB; have HI0 := n0_; have HK := n1_; have HB := n2_; have BK363 := n3_; have GW363 := n4_; have GE363 := n5_; have NB0_363 := n6_; have NB363_0 := n7_; clear n0_ n1_ n2_ n3_ n4_ n5_ n6_ n7_; clear hb hbox hg; have hnb28 := NB363_0.out; have hnc28 := NB0_363.out; have hcz29_0 : w27.cell? ⟨gb363, 0, none⟩ = some (.int .i64 0) := (blk_cell BK363.out 0).trans rfl; have hcz29_1 : w27.cell? ⟨gb363, 1, none⟩ = some (.int .i64 0) := (blk_cell BK363.out 1).trans rfl; have hcz29_2 : w27.cell? ⟨gb363, 2, none⟩ = some (.int .i64 0) := (blk_cell BK363.out 2).trans rfl; have hfz29_0 := blk_frozen BK363.out 0; have hfz29_1 := blk_frozen BK363.out 1; have hfz29_2 := blk_frozen BK363.out 2))
              go_roundg k1
              case measure => have := HK1.out; omega
              case rel => exact ⟨(wrap64 (x14_1 + 1)), (by first | rfl | (simp; done) | (simp [*]; done)), H', ⟨by have := HK1.out; omega⟩, ⟨by repeat (first | (with_reducible first | exact HI0.out | apply IsS68.alloc | apply IsS68.drewN | apply IsS68.drew | apply IsS68.set_0 | apply IsS68.set_1 | refine IsS68.far ?_ NB0_363.out _) | exact HI0.out)⟩, ⟨by repeat (first | (with_reducible first | exact HK.out | apply KeepBut.set_ | apply keep_drewN | apply keep_drew | apply keep_alloc | refine keep_far ?_ GW363.out _) | exact HK.out)⟩, ⟨by repeat (first | (with_reducible first | exact HB.out | apply below_alloc | apply pw_below_drewN | apply below_drew1 | fail | refine below_set ?_ GE363.out) | exact HB.out)⟩⟩
          · rw [if_neg c7] at H
            exact absurd H (by simp)
        · rw [if_neg c6] at H
          exact absurd H (by simp)
      · rw [if_neg c5] at H
        have c5b0 : decide (x14_1 < (s0_2.length : Int)) = false := decide_eq_false c5
        clear c5
        simp only [Option.some.injEq, Prod.mk.injEq] at H
        obtain ⟨rfl, rfl, rfl⟩ := H
        go_wp2
        go_ret
        exact ⟨by first | rfl | (simp [errW_none, errW_some] <;> rfl) | (simp [*, errW_none, errW_some] <;> rfl), by repeat (first | (with_reducible first | exact HI0.out | apply IsS68.alloc | apply IsS68.drewN | apply IsS68.drew | apply IsS68.set_0 | apply IsS68.set_1) | exact HI0.out), by repeat (first | (with_reducible first | exact HB.out | apply below_alloc | apply pw_below_drewN | apply below_drew1 | fail) | exact HB.out), by repeat (first | (with_reducible first | exact HK.out | apply KeepBut.set_ | apply keep_drewN | apply keep_drew | apply keep_alloc) | exact HK.out)⟩

end Go.Proofs.Ytgkbeejkbhhjkaa.X
