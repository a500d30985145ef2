/- Several texts of this session in one: X17, X25, X26, X27, X29, X30, X31, X32, X33, X39, X41, X43, X44. -/
import Derived.Test.YtkkgnjdepgmjlaaMFnExactDeficitStarts0
import Derived.Test.YtkkgnjdepgmjlaaMFnExactDeficitStarts1
import Derived.Test.YtkkgnjdepgmjlaaMFnExactDeficitStarts2
/- What the functions of the program come to, and that they do: written by this session's program wip/xprint.py out of the translation; parts named extern are typed by hand. -/
namespace Go.Proofs.Ytkkgnjdepgmjlaa.X
open Go.RowKit Go.Proofs.YtkkgnjdepgmjlaaW.PrintWords Go.Proofs.YtkkgnjdepgmjlaaW.PrintLast Go.Proofs.YtkkgnjdepgmjlaaW.PrintMore
attribute [local go_sem] max2_int min2_int max_two min_two max_three min_three max_four min_four   -- for this text's walks alone
set_option linter.unusedVariables false
set_option linter.unusedSimpArgs false

/-! ### laws_heldIntS: function 20 -/
def laws_heldIntS.l0 : Nat → List Int → Int → Int → Option (Int)
  | 0, _, _, _ => none
  | k + 1, x0, x1, x5 => if x5 < (x0.length : Int) then (if 0 ≤ x5 then (if (rd x0 x5) = x1 then (laws_heldIntS.l0 k x0 (wrap64 (x1 + 1)) (wrap64 (x5 + 1))) else (some (-1))) else (none)) else (some x1)
def laws_heldIntS.f (k : Nat) (l0 : List Int) (a1 : Int) : Option (Int) := laws_heldIntS.l0 k l0 a1 0
set_option maxHeartbeats 8000000 in
set_option maxRecDepth 100000 in
theorem laws_heldIntS.calls (k : Nat) (A0 : Option Addr) (c0 : Nat) (l0 : List Int) (a1 : Int) (r : Int) (w : World) (hr0 : Kd.C (Kd.int .i64) w A0 l0.length l0) (hc0 : l0.length ≤ c0) (h : laws_heldIntS.f k l0 a1 = some r) :
    Calls Try.prog 20 #[.slice A0 l0.length c0, .int .i64 a1] w fun e w' => e = .returned (.int .i64 r) ∧ Drawn0 w w' := by
  have HR0 := Aside0.mk hr0
  have HC0 := Aside0.mk hc0
  clear hr0 hc0
  have H : (laws_heldIntS.l0 k l0 a1 0) = some r := h
  clear h
  have H' := Aside0.mk H
  clear H
  go_enter Try.func20, Try.ntmps20
  go_wp2
  go_loopg [1, 5] k (fun kq v1 v5 w' => ∃ (x1_1 : Int) (x5_1 : Int), v1 = .int .i64 x1_1 ∧ v5 = .int .i64 x5_1 ∧ Aside0 (laws_heldIntS.l0 kq l0 x1_1 x5_1 = some r) ∧ Aside0 (kq ≤ k) ∧ Drawn0 w w')
  case atStart => exact ⟨(a1), (0), (by first | rfl | (simp; done) | (simp [*]; done)), (by first | rfl | (simp; done) | (simp [*]; done)), H', ⟨Nat.le_refl _⟩, by repeat (first | exact Drawn0.refl _ | apply Drawn0.step)⟩
  case round =>
    clear H'
    try clear c2
    try clear p2
    obtain ⟨x1_1, x5_1, rfl, rfl, HA, HK1, ⟨m1, rfl⟩⟩ := hrel
    cases gk with
    | zero => exact absurd HA.out (by simp [laws_heldIntS.l0])
    | succ k1 =>
      have H := HA.out
      clear HA
      simp only [laws_heldIntS.l0] at H
      by_cases c3 : x5_1 < (l0.length : Int)
      · rw [if_pos c3] at H
        have c3b0 : decide (x5_1 < (l0.length : Int)) = true := decide_eq_true c3
        clear c3
        by_cases c4 : 0 ≤ x5_1
        · rw [if_pos c4] at H
          have c4b0 : decide (0 ≤ x5_1) = true := decide_eq_true c4
          clear c4
          by_cases c5 : (rd l0 x5_1) = x1_1
          · rw [if_pos c5] at H
            have c5b0 : ((rd l0 x5_1) == x1_1) = true := beq_iff_eq.mpr c5
            have c5b1 : ((rd l0 x5_1) != x1_1) = false := bne_eq_false_iff_eq.mpr c5
            clear c5
            have H' := Aside0.mk H
            clear H
            have p225 : 0 ≤ (x5_1 : Int) := of_decide_eq_true (by first | (with_reducible assumption) | assumption)
            have q225 : x5_1 < (l0.length : Int) := of_decide_eq_true (by first | (with_reducible assumption) | assumption)
            obtain ⟨ad225, e225, hx225_0⟩ := Kd.at_int HR0.out x5_1 p225 q225
            cases e225
            replace p225 := eq_true p225
            replace q225 := eq_true q225
            go_wp2
            go_roundg k1
            case measure => have := HK1.out; omega
            case rel => exact ⟨(wrap64 (x1_1 + 1)), (wrap64 (x5_1 + 1)), (by first | rfl | (simp; done) | (simp [*]; done)), (by first | rfl | (simp; done) | (simp [*]; done)), H', ⟨by have := HK1.out; omega⟩, by repeat (first | exact Drawn0.refl _ | apply Drawn0.step)⟩
          · rw [if_neg c5] at H
            have c5b0 : ((rd l0 x5_1) == x1_1) = false := beq_eq_false_iff_ne.mpr c5
            have c5b1 : ((rd l0 x5_1) != x1_1) = true := bne_iff_ne.mpr c5
            obtain rfl := Option.some.inj H
            have p225 : 0 ≤ (x5_1 : Int) := of_decide_eq_true (by first | (with_reducible assumption) | assumption)
            have q225 : x5_1 < (l0.length : Int) := of_decide_eq_true (by first | (with_reducible assumption) | assumption)
            obtain ⟨ad225, e225, hx225_0⟩ := Kd.at_int HR0.out x5_1 p225 q225
            cases e225
            replace p225 := eq_true p225
            replace q225 := eq_true q225
            go_wp2
            go_ret
            exact ⟨by first | rfl | (simp; done) | (simp [*]; done), by repeat (first | exact Drawn0.refl _ | apply Drawn0.step)⟩
        · rw [if_neg c4] at H
          exact absurd H (by simp)
      · rw [if_neg c3] at H
        have c3b0 : decide (x5_1 < (l0.length : Int)) = false := decide_eq_false c3
        clear c3
        obtain rfl := Option.some.inj H
        go_wp2
        go_ret
        exact ⟨by first | rfl | (simp; done) | (simp [*]; done), by repeat (first | exact Drawn0.refl _ | apply Drawn0.step)⟩

-- NOT PRINTED: function 3 (laws_FnExactOrderOfStarts)

end Go.Proofs.Ytkkgnjdepgmjlaa.X

/- What the functions of the program come to, and that they do: written by this session's program wip/xprint.py out of the translation; parts named extern are typed by hand. -/
namespace Go.Proofs.Ytkkgnjdepgmjlaa.X
open Go.RowKit Go.Proofs.YtkkgnjdepgmjlaaW.PrintWords Go.Proofs.YtkkgnjdepgmjlaaW.PrintLast Go.Proofs.YtkkgnjdepgmjlaaW.PrintMore
attribute [local go_sem] max2_int min2_int max_two min_two max_three min_three max_four min_four   -- for this text's walks alone
set_option linter.unusedVariables false
set_option linter.unusedSimpArgs false

-- NOT PRINTED: function 54 (spec_prNew)

/-- A state of type 57 at block g of W; what its slices lead to came in by w0. -/
def IsS57 (w0 W : World) (g : Nat) (f0 : List (S43)) (f1 : List Int) (f2 : Int) (f3 : Int) : Prop := ∃ A0 c0, ∃ A1 c1, W.heap[g]? = some (.cells #[.slice A0 f0.length c0, .slice A1 f1.length c1, .int .i64 f2, .int .i64 f3] 57 (0, 0)) ∧ True ∧ Kd.C k43 w0 A0 f0.length f0 ∧ Kd.C (Kd.int .i64) w0 A1 f1.length f1
theorem IsS57.grown {w0 W : World} {g : Nat} {f0 : List (S43)} {f1 : List Int} {f2 : Int} {f3 : Int} {W1 : World} {row : Option Nat} (h : IsS57 w0 W g f0 f1 f2 f3) (hw : W.grownBy W1 row) (hne : some g ≠ row) : IsS57 w0 W1 g f0 f1 f2 f3 := by
  obtain ⟨A0, c0, A1, c1, hb, hg, hr0, hr1⟩ := h
  exact ⟨A0, c0, A1, c1, blk_grown hb hw hne, hg, hr0, hr1⟩
theorem IsS57.fresh {w0 W : World} {g : Nat} {f0 : List (S43)} {f1 : List Int} {f2 : Int} {f3 : Int} (h : IsS57 w0 W g f0 f1 f2 f3) : ∀ k, W.heap.size ≤ k → k ≠ g := by
  obtain ⟨A0, c0, A1, c1, hb, hg, hr0, hr1⟩ := h
  exact Kd.freshB hb
theorem IsS57.kept {w0 W : World} {g : Nat} {f0 : List (S43)} {f1 : List Int} {f2 : Int} {f3 : Int} {W1 : World} {S : Nat → Prop} (h : IsS57 w0 W g f0 f1 f2 f3) (hk : Kept W W1 S) (hne : ¬ S g) : IsS57 w0 W1 g f0 f1 f2 f3 := by
  obtain ⟨A0, c0, A1, c1, hb, hg, hr0, hr1⟩ := h
  exact ⟨A0, c0, A1, c1, blk_kept hb hk hne, hg, hr0, hr1⟩
theorem IsS57.below {w0 W : World} {g : Nat} {f0 : List (S43)} {f1 : List Int} {f2 : Int} {f3 : Int} {W1 : World} (h : IsS57 w0 W g f0 f1 f2 f3) (hw : Below W.heap.size W W1) : IsS57 w0 W1 g f0 f1 f2 f3 := h.grown (grown_of_below hw none) (by simp)
theorem IsS57.alloc {w0 W : World} {g : Nat} {f0 : List (S43)} {f1 : List Int} {f2 : Int} {f3 : Int} (h : IsS57 w0 W g f0 f1 f2 f3) (o : Obj) : IsS57 w0 (W.alloc o) g f0 f1 f2 f3 := h.below (below_alloc (Below.refl _ _) o)
theorem IsS57.drewN {w0 W : World} {g : Nat} {f0 : List (S43)} {f1 : List Int} {f2 : Int} {f3 : Int} (h : IsS57 w0 W g f0 f1 f2 f3) (m : Nat) : IsS57 w0 (W.drewN m) g f0 f1 f2 f3 := h
theorem IsS57.drew {w0 W : World} {g : Nat} {f0 : List (S43)} {f1 : List Int} {f2 : Int} {f3 : Int} (h : IsS57 w0 W g f0 f1 f2 f3) : IsS57 w0 W.drew g f0 f1 f2 f3 := h
theorem IsS57.at_ {w0 W : World} {g : Nat} {f0 : List (S43)} {f1 : List Int} {f2 : Int} {f3 : Int} {w' : World} {m : Nat} (hq : W.drewN m = w') (h : IsS57 w0 W g f0 f1 f2 f3) : IsS57 w0 w' g f0 f1 f2 f3 := by subst hq; exact IsS57.drewN h m
theorem IsS57.apart {w0 W : World} {g : Nat} {f0 : List (S43)} {f1 : List Int} {f2 : Int} {f3 : Int} {α : Type} {d : Kd α} {e : Nat} {base : Nat} {ok : Nat → Prop} {v : Value} {xs : List α} (h : IsS57 w0 W g f0 f1 f2 f3) (ho : d.R e W base ok v xs) (ht : ∀ q, q ∈ e :: d.E → q ≠ 57) : d.R e W base (fun k => ok k ∧ k ≠ g) v xs := by
  obtain ⟨A0, c0, A1, c1, hb, hg, hr0, hr1⟩ := h
  exact Kd.R_types ho hb ht
theorem IsS57.own_ne {w0 W : World} {g : Nat} {f0 : List (S43)} {f1 : List Int} {f2 : Int} {f3 : Int} {α : Type} {d : Kd α} {e : Nat} {base : Nat} {ok : Nat → Prop} {v : Value} {xs : List α} (h : IsS57 w0 W g f0 f1 f2 f3) (ho : d.R e W base ok v xs) (ht : e ≠ 57) : some g ≠ v.ownBlock := by
  obtain ⟨A0, c0, A1, c1, hb, hg, hr0, hr1⟩ := h
  exact Kd.R_ne ho hb ht
theorem IsS57.lt {w0 W : World} {g : Nat} {f0 : List (S43)} {f1 : List Int} {f2 : Int} {f3 : Int} (h : IsS57 w0 W g f0 f1 f2 f3) : g < W.heap.size := by
  obtain ⟨A0, c0, A1, c1, hb, hg, hr0, hr1⟩ := h
  exact blk_lt hb
theorem IsS57.ne_blk {w0 W : World} {g : Nat} {f0 : List (S43)} {f1 : List Int} {f2 : Int} {f3 : Int} {a : Nat} {cs : Array Value} {t : TypeId} {fr : Nat × Nat} (h : IsS57 w0 W g f0 f1 f2 f3) (hb2 : W.heap[a]? = some (.cells cs t fr)) (ht : t ≠ 57) : g ≠ a := by
  obtain ⟨A0, c0, A1, c1, hb, hg, hr0, hr1⟩ := h
  rintro rfl
  rw [hb] at hb2
  injection hb2 with hb2
  injection hb2 with _ ht2
  exact ht ht2.symm
theorem IsS57.far {w0 W : World} {g : Nat} {f0 : List (S43)} {f1 : List Int} {f2 : Int} {f3 : Int} {p : Addr} (h : IsS57 w0 W g f0 f1 f2 f3) (hne : g ≠ p.block) (u : Value) : IsS57 w0 (W.setCell p u) g f0 f1 f2 f3 := by
  obtain ⟨A0, c0, A1, c1, hb, hg, hr0, hr1⟩ := h
  exact ⟨A0, c0, A1, c1, blk_far hb hne u, hg, hr0, hr1⟩
theorem cellS57_0 {W : World} {g : Nat} {A0 : Option Addr} {c0 : Nat} {A1 : Option Addr} {c1 : Nat} {f0 : List (S43)} {f1 : List Int} {f2 : Int} {f3 : Int} (h : W.heap[g]? = some (.cells #[.slice A0 f0.length c0, .slice A1 f1.length c1, .int .i64 f2, .int .i64 f3] 57 (0, 0))) : W.cell? ⟨g, 0, none⟩ = some (.slice A0 f0.length c0) := (blk_cell h 0).trans rfl
theorem cellS57_1 {W : World} {g : Nat} {A0 : Option Addr} {c0 : Nat} {A1 : Option Addr} {c1 : Nat} {f0 : List (S43)} {f1 : List Int} {f2 : Int} {f3 : Int} (h : W.heap[g]? = some (.cells #[.slice A0 f0.length c0, .slice A1 f1.length c1, .int .i64 f2, .int .i64 f3] 57 (0, 0))) : W.cell? ⟨g, 1, none⟩ = some (.slice A1 f1.length c1) := (blk_cell h 1).trans rfl
theorem cellS57_2 {W : World} {g : Nat} {A0 : Option Addr} {c0 : Nat} {A1 : Option Addr} {c1 : Nat} {f0 : List (S43)} {f1 : List Int} {f2 : Int} {f3 : Int} (h : W.heap[g]? = some (.cells #[.slice A0 f0.length c0, .slice A1 f1.length c1, .int .i64 f2, .int .i64 f3] 57 (0, 0))) : W.cell? ⟨g, 2, none⟩ = some (.int .i64 f2) := (blk_cell h 2).trans rfl
theorem IsS57.set_2 {w0 W : World} {g : Nat} {f0 : List (S43)} {f1 : List Int} {f2 : Int} {f3 : Int} (h : IsS57 w0 W g f0 f1 f2 f3) (x : Int) : IsS57 w0 (W.setCell ⟨g, 2, none⟩ (.int .i64 x)) g f0 f1 x f3 := by
  obtain ⟨A0, c0, A1, c1, hb, hg, hr0, hr1⟩ := h
  exact ⟨A0, c0, A1, c1, by simpa using blk_set hb 2 (.int .i64 x), hg, hr0, hr1⟩
theorem cellS57_3 {W : World} {g : Nat} {A0 : Option Addr} {c0 : Nat} {A1 : Option Addr} {c1 : Nat} {f0 : List (S43)} {f1 : List Int} {f2 : Int} {f3 : Int} (h : W.heap[g]? = some (.cells #[.slice A0 f0.length c0, .slice A1 f1.length c1, .int .i64 f2, .int .i64 f3] 57 (0, 0))) : W.cell? ⟨g, 3, none⟩ = some (.int .i64 f3) := (blk_cell h 3).trans rfl
theorem IsS57.set_3 {w0 W : World} {g : Nat} {f0 : List (S43)} {f1 : List Int} {f2 : Int} {f3 : Int} (h : IsS57 w0 W g f0 f1 f2 f3) (x : Int) : IsS57 w0 (W.setCell ⟨g, 3, none⟩ (.int .i64 x)) g f0 f1 f2 x := by
  obtain ⟨A0, c0, A1, c1, hb, hg, hr0, hr1⟩ := h
  exact ⟨A0, c0, A1, c1, by simpa using blk_set hb 3 (.int .i64 x), hg, hr0, hr1⟩
theorem IsS57.new (w0 W : World) (A0 : Option Addr) (c0 : Nat) (A1 : Option Addr) (c1 : Nat) (f0 : List (S43)) (f1 : List Int) (f2 : Int) (f3 : Int) (hB : Below w0.heap.size w0 W) (hr0 : Kd.C k43 w0 A0 f0.length f0) (hr1 : Kd.C (Kd.int .i64) w0 A1 f1.length f1) : IsS57 w0 (W.alloc (.cells #[.slice A0 f0.length c0, .slice A1 f1.length c1, .int .i64 f2, .int .i64 f3] 57)) W.heap.size f0 f1 f2 f3 := ⟨A0, c0, A1, c1, by simpa using heap_alloc_new W _, trivial, hr0, hr1⟩

/-! ### spec_prLine_waits: function 69 -/
def spec_prLine_waits.f (s0_0 : List (S43)) (s0_1 : List Int) (s0_2 : Int) (s0_3 : Int) (a1 : Int) : Option (Bool × Int × Int) := if 0 ≤ a1 then (if a1 < (s0_1.length : Int) then (if (rd s0_1 a1) < 0 then (if a1 < (s0_0.length : Int) then (some (decide (((rd_T43 s0_0 a1).f0) ≤ s0_2), s0_2, s0_3)) else (none)) else (some (false, s0_2, s0_3))) else (none)) else (none)
set_option maxHeartbeats 8000000 in
set_option maxRecDepth 100000 in
theorem spec_prLine_waits.calls (g : Nat) (s0_0 : List (S43)) (s0_1 : List Int) (s0_2 : Int) (s0_3 : Int) (a1 : Int) (r1 : Bool) (r2 : Int) (r3 : Int) (w0 w : World) (hI : IsS57 w0 w g s0_0 s0_1 s0_2 s0_3) (hB : Below w0.heap.size w0 w) (h : spec_prLine_waits.f s0_0 s0_1 s0_2 s0_3 a1 = some (r1, r2, r3)) :
    Calls Try.prog 69 #[.pointer (some ⟨g, 0, none⟩), .int .i64 a1] w fun e w' => e = .returned (.bool r1) ∧ IsS57 w0 w' g s0_0 s0_1 r2 r3 ∧ Below w0.heap.size w0 w' ∧ KeepBut w w' g none := by
  have HI0 := Aside0.mk hI
  have HK := Aside0.mk (KeepBut.refl w g none)
  have HL := Aside0.mk hB.size
  clear hI
  have HW0 := Aside0.mk hB.size
  have HB := Aside0.mk hB
  clear hB
  have H : (if 0 ≤ a1 then (if a1 < (s0_1.length : Int) then (if (rd s0_1 a1) < 0 then (if a1 < (s0_0.length : Int) then (some (decide (((rd_T43 s0_0 a1).f0) ≤ s0_2), s0_2, s0_3)) else (none)) else (some (false, s0_2, s0_3))) else (none)) else (none)) = some (r1, r2, r3) := h
  clear h
  by_cases c3 : 0 ≤ a1
  · rw [if_pos c3] at H
    have c3b0 : decide (0 ≤ a1) = true := decide_eq_true c3
    clear c3
    by_cases c4 : a1 < (s0_1.length : Int)
    · rw [if_pos c4] at H
      have c4b0 : decide (a1 < (s0_1.length : Int)) = true := decide_eq_true c4
      clear c4
      by_cases c5 : (rd s0_1 a1) < 0
      · rw [if_pos c5] at H
        have c5b0 : decide ((rd s0_1 a1) < 0) = true := decide_eq_true c5
        clear c5
        by_cases c6 : a1 < (s0_0.length : Int)
        · rw [if_pos c6] at H
          have c6b0 : decide (a1 < (s0_0.length : Int)) = true := decide_eq_true c6
          clear c6
          simp only [Option.some.injEq, Prod.mk.injEq] at H
          obtain ⟨rfl, rfl, rfl⟩ := H
          obtain ⟨ASz7_0, cSz7_0, ASz7_1, cSz7_1, HGz7, hgz7, HSz7_0, HSz7_1⟩ := HI0.out
          have hcz7_0 := cellS57_0 HGz7
          have hcz7_1 := cellS57_1 HGz7
          have hcz7_2 := cellS57_2 HGz7
          have hcz7_3 := cellS57_3 HGz7
          have hfz7_2 := blk_frozen HGz7 2
          have hfz7_3 := blk_frozen HGz7 3
          clear HGz7 hgz7
          have p359 : 0 ≤ (a1 : Int) := of_decide_eq_true (by first | (with_reducible assumption) | assumption)
          have q359 : a1 < (s0_1.length : Int) := of_decide_eq_true (by first | (with_reducible assumption) | assumption)
          obtain ⟨ad359, e359, hx359_0⟩ := Kd.at_int HSz7_1 a1 p359 q359
          cases e359
          replace hx359_0 := pw_cell_below HB.out hx359_0
          replace p359 := eq_true p359
          replace q359 := eq_true q359
          have p360 : 0 ≤ (a1 : Int) := of_decide_eq_true (by first | (with_reducible assumption) | assumption)
          have q360 : a1 < (s0_0.length : Int) := of_decide_eq_true (by first | (with_reducible assumption) | assumption)
          obtain ⟨ad360, e360, hx360_0, hx360_1, hx360_2⟩ := at_T43 HSz7_0 a1 p360 q360
          cases e360
          replace hx360_0 := pw_cell_below HB.out hx360_0
          replace hx360_1 := pw_cell_below HB.out hx360_1
          replace hx360_2 := pw_cell_below HB.out hx360_2
          replace p360 := eq_true p360
          replace q360 := eq_true q360
          go_enter Try.func69, Try.ntmps69
          go_wp2
          repeat (go_quiet (fail); try go_wp2)
          go_ret
          exact ⟨by first | rfl | (simp [errW_none, errW_some] <;> rfl) | (simp [*, errW_none, errW_some] <;> rfl), by repeat (first | (with_reducible first | exact HI0.out | apply IsS57.alloc | apply IsS57.drewN | apply IsS57.drew | apply IsS57.set_2 | apply IsS57.set_3) | exact HI0.out), by repeat (first | (with_reducible first | exact HB.out | apply below_alloc | apply pw_below_drewN | apply below_drew1 | fail) | exact HB.out), by repeat (first | (with_reducible first | exact HK.out | apply KeepBut.set_ | apply keep_drewN | apply keep_drew | apply keep_alloc) | exact HK.out)⟩
        · rw [if_neg c6] at H
          exact absurd H (by simp)
      · rw [if_neg c5] at H
        have c5b0 : decide ((rd s0_1 a1) < 0) = false := decide_eq_false c5
        clear c5
        simp only [Option.some.injEq, Prod.mk.injEq] at H
        obtain ⟨rfl, rfl, rfl⟩ := H
        obtain ⟨ASz8_0, cSz8_0, ASz8_1, cSz8_1, HGz8, hgz8, HSz8_0, HSz8_1⟩ := HI0.out
        have hcz8_0 := cellS57_0 HGz8
        have hcz8_1 := cellS57_1 HGz8
        have hcz8_2 := cellS57_2 HGz8
        have hcz8_3 := cellS57_3 HGz8
        have hfz8_2 := blk_frozen HGz8 2
        have hfz8_3 := blk_frozen HGz8 3
        clear HGz8 hgz8
        have p359 : 0 ≤ (a1 : Int) := of_decide_eq_true (by first | (with_reducible assumption) | assumption)
        have q359 : a1 < (s0_1.length : Int) := of_decide_eq_true (by first | (with_reducible assumption) | assumption)
        obtain ⟨ad359, e359, hx359_0⟩ := Kd.at_int HSz8_1 a1 p359 q359
        cases e359
        replace hx359_0 := pw_cell_below HB.out hx359_0
        replace p359 := eq_true p359
        replace q359 := eq_true q359
        go_enter Try.func69, Try.ntmps69
        go_wp2
        repeat (go_quiet (fail); try go_wp2)
        go_ret
        exact ⟨by first | rfl | (simp [errW_none, errW_some] <;> rfl) | (simp [*, errW_none, errW_some] <;> rfl), by repeat (first | (with_reducible first | exact HI0.out | apply IsS57.alloc | apply IsS57.drewN | apply IsS57.drew | apply IsS57.set_2 | apply IsS57.set_3) | exact HI0.out), by repeat (first | (with_reducible first | exact HB.out | apply below_alloc | apply pw_below_drewN | apply below_drew1 | fail) | exact HB.out), by repeat (first | (with_reducible first | exact HK.out | apply KeepBut.set_ | apply keep_drewN | apply keep_drew | apply keep_alloc) | exact HK.out)⟩
    · rw [if_neg c4] at H
      exact absurd H (by simp)
  · rw [if_neg c3] at H
    exact absurd H (by simp)

end Go.Proofs.Ytkkgnjdepgmjlaa.X

/- What the functions of the program come to, and that they do: written by this session's program wip/xprint.py out of the translation; parts named extern are typed by hand. -/
namespace Go.Proofs.Ytkkgnjdepgmjlaa.X
open Go.RowKit Go.Proofs.YtkkgnjdepgmjlaaW.PrintWords Go.Proofs.YtkkgnjdepgmjlaaW.PrintLast Go.Proofs.YtkkgnjdepgmjlaaW.PrintMore
attribute [local go_sem] max2_int min2_int max_two min_two max_three min_three max_four min_four   -- for this text's walks alone
set_option linter.unusedVariables false
set_option linter.unusedSimpArgs false

/-! ### spec_l1Least: function 75 -/
def spec_l1Least.f (a0 : Int) (a1 : Int) : Option (Int) := if a0 < a1 then (some a0) else (some a1)
set_option maxHeartbeats 8000000 in
set_option maxRecDepth 100000 in
theorem spec_l1Least.calls (a0 : Int) (a1 : Int) (r : Int) (w : World) (h : spec_l1Least.f a0 a1 = some r) :
    Calls Try.prog 75 #[.int .i64 a0, .int .i64 a1] w fun e w' => e = .returned (.int .i64 r) ∧ Drawn0 w w' := by
  have H : (if a0 < a1 then (some a0) else (some a1)) = some r := h
  clear h
  by_cases c3 : a0 < a1
  · rw [if_pos c3] at H
    have c3b0 : decide (a0 < a1) = true := decide_eq_true c3
    clear c3
    obtain rfl := Option.some.inj H
    go_enter Try.func75, Try.ntmps75
    go_wp2
    go_ret
    exact ⟨by first | rfl | (simp; done) | (simp [*]; done), by repeat (first | exact Drawn0.refl _ | apply Drawn0.step)⟩
  · rw [if_neg c3] at H
    have c3b0 : decide (a0 < a1) = false := decide_eq_false c3
    clear c3
    obtain rfl := Option.some.inj H
    go_enter Try.func75, Try.ntmps75
    go_wp2
    go_ret
    exact ⟨by first | rfl | (simp; done) | (simp [*]; done), by repeat (first | exact Drawn0.refl _ | apply Drawn0.step)⟩

end Go.Proofs.Ytkkgnjdepgmjlaa.X

/- What the functions of the program come to, and that they do: written by this session's program wip/xprint.py out of the translation; parts named extern are typed by hand. -/
namespace Go.Proofs.Ytkkgnjdepgmjlaa.X
open Go.RowKit Go.Proofs.YtkkgnjdepgmjlaaW.PrintWords Go.Proofs.YtkkgnjdepgmjlaaW.PrintLast Go.Proofs.YtkkgnjdepgmjlaaW.PrintMore
attribute [local go_sem] max2_int min2_int max_two min_two max_three min_three max_four min_four   -- for this text's walks alone
set_option linter.unusedVariables false
set_option linter.unusedSimpArgs false

/-! ### spec_prLine_skip: function 55 -/
/- EXTERN, by hand (wip/hand/prline.py): a line of jobs: what its block holds, and its own row of starts. -/
theorem add0 (r i : Nat) : (⟨r, 0, none⟩ : Addr).add i = ⟨r, i, none⟩ := by cases i <;> simp [Addr.add]
theorem wrap_small {x : Int} (h1 : -9223372036854775808 ≤ x) (h2 : x ≤ 9223372036854775807) : wrap64 x = x := by unfold wrap64; omega
def IsL (w0 W : World) (g : Nat) (jobs : List (S43)) (starts : List Int) (now done : Int) : Prop :=
  ∃ A0 c0, ∃ sv : Value, W.heap[g]? = some (.cells #[.slice A0 jobs.length c0, sv, .int .i64 now, .int .i64 done] 57 (0, 0)) ∧ w0.heap.size ≤ g ∧ Kd.C k43 w0 A0 jobs.length jobs ∧ Kd.R (Kd.int .i64) 3 W w0.heap.size (fun k_ => k_ ≠ g) sv starts
theorem IsL.below {w0 W w1 : World} {g : Nat} {jobs : List (S43)} {starts : List Int} {now done : Int} (h : IsL w0 W g jobs starts now done) (hb : Below W.heap.size W w1) : IsL w0 w1 g jobs starts now done := by
  obtain ⟨A0, c0, sv, h1, h2, h3, h4⟩ := h
  exact ⟨A0, c0, sv, blk_below h1 hb, h2, h3, Kd.R_below h4 hb⟩
theorem IsL.drewN {w0 W : World} {g : Nat} {jobs : List (S43)} {starts : List Int} {now done : Int} (h : IsL w0 W g jobs starts now done) (m : Nat) : IsL w0 (W.drewN m) g jobs starts now done := h
theorem IsL.drew {w0 W : World} {g : Nat} {jobs : List (S43)} {starts : List Int} {now done : Int} (h : IsL w0 W g jobs starts now done) : IsL w0 W.drew g jobs starts now done := h
theorem IsL.lt {w0 W : World} {g : Nat} {jobs : List (S43)} {starts : List Int} {now done : Int} (h : IsL w0 W g jobs starts now done) : g < W.heap.size := by
  obtain ⟨A0, c0, sv, h1, _⟩ := h
  exact blk_lt h1
theorem IsL.ge {w0 W : World} {g : Nat} {jobs : List (S43)} {starts : List Int} {now done : Int} (h : IsL w0 W g jobs starts now done) : w0.heap.size ≤ g := by
  obtain ⟨A0, c0, sv, _, h2, _⟩ := h
  exact h2
theorem IsL.q {w0 W : World} {g : Nat} {jobs : List (S43)} {starts : List Int} {now done : Int} (h : IsL w0 W g jobs starts now done) (hb : Below w0.heap.size w0 W) : IsS57 W W g jobs starts now done := by
  obtain ⟨A0, c0, sv, h1, h2, h3, h4⟩ := h
  obtain ⟨A1, c1, e1⟩ := Kd.R_slice h4
  subst e1
  exact ⟨A0, c0, A1, c1, h1, trivial, Kd.C_below h3 hb, (Kd.R_reads' h4).2.2⟩
theorem IsL.set_2 {w0 W : World} {g : Nat} {jobs : List (S43)} {starts : List Int} {now done : Int} (h : IsL w0 W g jobs starts now done) (x : Int) : IsL w0 (W.setCell ⟨g, 2, none⟩ (.int .i64 x)) g jobs starts x done := by
  obtain ⟨A0, c0, sv, h1, h2, h3, h4⟩ := h
  exact ⟨A0, c0, sv, by simpa using blk_set h1 2 (.int .i64 x), h2, h3, Kd.R_far (p := ⟨g, 2, none⟩) h4 (fun _ hk => hk) _⟩
theorem IsL.set_3 {w0 W : World} {g : Nat} {jobs : List (S43)} {starts : List Int} {now done : Int} (h : IsL w0 W g jobs starts now done) (x : Int) : IsL w0 (W.setCell ⟨g, 3, none⟩ (.int .i64 x)) g jobs starts now x := by
  obtain ⟨A0, c0, sv, h1, h2, h3, h4⟩ := h
  exact ⟨A0, c0, sv, by simpa using blk_set h1 3 (.int .i64 x), h2, h3, Kd.R_far (p := ⟨g, 3, none⟩) h4 (fun _ hk => hk) _⟩
/-- A start is laid down: where the row lies, and the state behind it. -/
theorem IsL.row {w0 W : World} {g : Nat} {jobs : List (S43)} {starts : List Int} {now done : Int} (h : IsL w0 W g jobs starts now done) (hp : 0 < starts.length) :
    ∃ A0 c0 r c, W.heap[g]? = some (.cells #[.slice A0 jobs.length c0, .slice (some ⟨r, 0, none⟩) starts.length c, .int .i64 now, .int .i64 done] 57 (0, 0)) ∧ Kd.C k43 w0 A0 jobs.length jobs ∧ w0.heap.size ≤ r ∧ r ≠ g ∧ Kd.C (Kd.int .i64) W (some ⟨r, 0, none⟩) starts.length starts ∧
      (∃ cells, W.heap[r]? = some (.cells cells 3 (0, 0))) ∧ ∀ (i : Nat) (x : Int), IsL w0 (W.setCell ⟨r, i, none⟩ (.int .i64 x)) g jobs (starts.set i x) now done := by
  obtain ⟨A0, c0, sv, h1, h2, h3, h4⟩ := h
  obtain ⟨r, c, e, hb, hl, hce⟩ := Kd.R_form h4 hp
  subst e
  have hne : r ≠ g := h4.1 r rfl
  refine ⟨A0, c0, r, c, h1, h3, hb, hne, (Kd.R_reads' h4).2.2, hce, fun i x => ?_⟩
  have h5 := Kd.R_putn h4 (i : Int) x
  rw [Int.toNat_natCast] at h5
  refine ⟨A0, c0, .slice (some ⟨r, 0, none⟩) starts.length c, blk_far h1 (Ne.symm hne) _, h2, h3, ?_⟩
  exact h5
set_option maxHeartbeats 8000000 in
set_option maxRecDepth 100000 in
theorem prNew_calls (A0 : Option Addr) (c0 : Nat) (jobs : List (S43)) (w : World) (hr0 : Kd.C k43 w A0 jobs.length jobs) (h : jobs.length ≤ 20) :
    Calls Try.prog 54 #[.slice A0 jobs.length c0] w fun e w' => ∃ g : Nat, e = .returned (.pointer (some ⟨g, 0, none⟩)) ∧ IsL w w' g jobs (List.replicate jobs.length (-1)) 0 0 ∧ Below w.heap.size w w' := by
  have HR0 := Aside0.mk hr0
  have HN := Aside0.mk h
  have HB := Aside0.mk (Below.refl w.heap.size w)
  clear hr0 h
  obtain ⟨n, hn⟩ : ∃ n, jobs.length = n := ⟨_, rfl⟩
  have HNN := Aside0.mk hn
  rw [hn]
  rw [hn] at HN
  clear hn
  go_enter Try.func54, Try.ntmps54
  go_wp2_with (first | ((with_reducible refine gate_dst (N := 6) rfl ?_); refine box_event ?hg (N := 6) ?hd (cs := #[.slice A0 n c0, .slice none 0 0, .int .i64 0, .int .i64 0]) (t := 57) ?hr ?_; (case hd => rfl); (case hg => rfl); (case hr => first | (go_simp; done) | (go_simp; rfl)); intro g hg w3 hbox hb; have HI := Aside0.mk (show IsL w w3 g jobs [] 0 0 from ⟨A0, c0, .slice none 0 0, by rw [HNN.out]; exact hbox, by rw [hg]; exact (below_size (by repeat (first | (with_reducible first | exact HB.out | apply below_alloc | apply pw_below_drewN | apply below_drew1) | exact HB.out))), HR0.out, Kd.R_nil _ _ _ _ _⟩); have HB1 := Aside0.mk (below_step (by repeat (first | (with_reducible first | exact HB.out | apply below_alloc | apply pw_below_drewN | apply below_drew1) | exact HB.out)) hb); clear HB; have HB := HB1; clear HB1 hb hbox hg))
  go_loopg [9] (n + 1) (fun kq v9 w' => ∃ i : Nat, v9 = .int .i64 (i : Int) ∧ Aside0 (i ≤ n ∧ n - i + 1 ≤ kq) ∧ Aside0 (IsL w w' g jobs (List.replicate i (-1)) 0 0) ∧ Aside0 (Below w.heap.size w w'))
  case atStart => exact ⟨0, rfl, ⟨by omega, by omega⟩, ⟨by repeat (first | exact HI.out | apply IsL.drewN)⟩, ⟨(by repeat (first | (with_reducible first | exact HB.out | apply below_alloc | apply pw_below_drewN | apply below_drew1) | exact HB.out))⟩⟩
  case round =>
    clear HI HB
    obtain ⟨i, rfl, HM, HI, HB⟩ := hrel
    by_cases hi : i < n
    · have hib : decide ((i : Int) < n) = true := decide_eq_true (by omega)
      have hib2 : decide (i < n) = true := decide_eq_true hi
      have HI2 := Aside0.mk hi
      clear hi
      obtain ⟨A0', c0', sv, h1, h2, h3, h4⟩ := HI.out
      have H4 := Aside0.mk h4
      have H3 := Aside0.mk h3
      have HG := Aside0.mk h1
      have hcs : wr.cell? ⟨g, 1, none⟩ = some sv := (blk_cell h1 1).trans rfl
      have HLT := Aside0.mk (blk_lt h1)
      have HGE := Aside0.mk h2
      clear h1 h2 h3 h4
      go_wp2_with (first | ((with_reducible refine gate_builtin (b := .append) (xs := #[.tmp 15, .tmp 16]) rfl ?_); at_builtin; refine Kd.R_append (Kd.int .i64) w.heap.size rfl (.tmp 15) (.tmp 16) 23 3 (.int .i64 0) 8 rfl Try.underlying23 info3 rfl (by decide) (by omega) sv (List.replicate i (-1)) (-1) [.int .i64 (-1)] (fun k_ => k_ ≠ g) (fun _ => False) rfl (by first | (go_simp; done) | (go_simp; rfl)) ?aP (fun _ hk => hk.elim) ?aF ?aO (Below.refl _ _) ?aS ?aL ?_; (case aP => exact rfl); (case aF => intro k_ hk_ e_; subst e_; exact absurd hk_ (Nat.not_le.2 HLT.out)); (case aO => exact (by (with_reducible repeat (first | apply Kd.R_alloc | apply Kd.R_drewN | apply Kd.R_drew)); exact H4.out)); (case aS => exact (below_size (by repeat (first | (with_reducible first | exact HB.out | apply below_alloc | apply pw_below_drewN | apply below_drew1) | exact HB.out)))); (case aL => have := HN.out; have := HI2.out; simp; omega); intro v17 w17 ho hb hg hat; have hblk := Aside0.mk (blk_grown (by (with_reducible repeat (first | refine blk_drewN ?_ _ | refine blk_drew ?_ | refine blk_alloc ?_ _)); exact HG.out) hg (fun e_ => H4.out.1 g e_.symm rfl)); have HB17 := Aside0.mk (below_weaken (by repeat (first | (with_reducible first | exact HB.out | apply below_alloc | apply pw_below_drewN | apply below_drew1) | exact HB.out)) (Nat.le_refl _) hb); have HO17 := Aside0.mk ho; clear ho hb hg hat; have hc17 : w17.cell? ⟨g, 1, none⟩ = some sv := (blk_cell hblk.out 1).trans rfl; have hf17 := blk_frozen hblk.out 1; obtain ⟨A17, c17, e17⟩ := Kd.R_slice HO17.out; subst e17))
      go_roundg (n - (i + 1) + 1)
      case measure => have := HM.out; have := HI2.out; omega
      case rel =>
        refine ⟨i + 1, (by have := HI2.out; have := HN.out; first | rfl | (rw [wrap_small (by omega) (by omega)]; rfl)), ⟨by have := HI2.out; omega, Nat.le_refl _⟩, ⟨?_⟩, ⟨?_⟩⟩
        · refine ⟨A0', c0', _, by simpa using blk_set hblk.out 1 (.slice A17 (i + 1) c17), HGE.out, H3.out, ?_⟩
          have h5 := Kd.R_far (p := ⟨g, 1, none⟩) HO17.out (fun _ hk => hk) (.slice A17 (i + 1) c17)
          have hlen : ((List.replicate i (-1 : Int)) ++ [(-1 : Int)]).length = i + 1 := by simp
          rw [hlen] at h5
          rw [List.replicate_succ']
          exact h5
        · exact HB17.out.setCell HGE.out _
    · obtain rfl : i = n := by have := HM.out; omega
      have hib : decide ((i : Int) < i) = false := decide_eq_false (by omega)
      have hib2 : decide (i < i) = false := decide_eq_false hi
      clear hi
      go_wp2
      go_ret
      exact ⟨g, rfl, HI.out, HB.out⟩
/-- A job waits. -/
def waitsB (jobs : List (S43)) (starts : List Int) (now : Int) (i : Nat) : Bool := decide (rd starts (i : Int) < 0) && decide ((rd_T43 jobs (i : Int)).f0 ≤ now)
/-- One of the first m jobs waits. -/
def someB (jobs : List (S43)) (starts : List Int) (now : Int) : Nat → Bool
  | 0 => false
  | m + 1 => someB jobs starts now m || waitsB jobs starts now m
theorem someB_of {jobs : List (S43)} {starts : List Int} {now : Int} {i : Nat} (h : waitsB jobs starts now i = true) : ∀ n, i < n → someB jobs starts now n = true
  | 0, hn => absurd hn (by omega)
  | n + 1, hn => by
    unfold someB
    by_cases e : i = n
    · subst e
      rw [h, Bool.or_true]
    · rw [someB_of h n (by omega), Bool.true_or]
theorem IsS57.drewn {W : World} {g : Nat} {jobs : List (S43)} {starts : List Int} {now done : Int} (h : IsS57 W W g jobs starts now done) (m : Nat) : IsS57 (W.drewN m) (W.drewN m) g jobs starts now done := by
  obtain ⟨A0, c0, A1, c1, h1, h2, h3, h4⟩ := h
  exact ⟨A0, c0, A1, c1, h1, h2, h3, h4⟩
set_option maxHeartbeats 8000000 in
set_option maxRecDepth 100000 in
theorem prWaits_q (g i : Nat) (jobs : List (S43)) (starts : List Int) (now done : Int) (w : World) (hI : IsS57 w w g jobs starts now done) (hi : i < jobs.length) (hl : starts.length = jobs.length) :
    Calls Try.prog 69 #[.pointer (some ⟨g, 0, none⟩), .int .i64 (i : Int)] w fun e w' => e = .returned (.bool (waitsB jobs starts now i)) ∧ Drawn0 w w' := by
  have hu43 := Try.underlying43
  obtain ⟨A0, c0, A1, c1, h1, h2, h3, h4⟩ := hI
  have hc0 : w.cell? ⟨g, 0, none⟩ = some (.slice A0 jobs.length c0) := (blk_cell h1 0).trans rfl
  have hc1 : w.cell? ⟨g, 1, none⟩ = some (.slice A1 starts.length c1) := (blk_cell h1 1).trans rfl
  have hc2 : w.cell? ⟨g, 2, none⟩ = some (.int .i64 now) := (blk_cell h1 2).trans rfl
  have hp : 0 ≤ (i : Int) := by omega
  have hq : (i : Int) < (jobs.length : Int) := by omega
  have hr : (i : Int) < (starts.length : Int) := by omega
  obtain ⟨ad, e1, hx0, hx1, hx2⟩ := at_T43 h3 (i : Int) hp hq
  obtain ⟨ad2, e2, hy⟩ := Kd.at_int h4 (i : Int) hp hr
  cases e1
  cases e2
  simp only [Int.toNat_natCast] at hx0 hx1 hx2 hy
  replace hp := eq_true hp
  replace hq := eq_true hq
  replace hr := eq_true hr
  clear h1 h2 h3 h4 hi hl hx1 hx2
  unfold waitsB
  by_cases c : rd starts (i : Int) < 0
  · have cb : decide (rd starts (i : Int) < 0) = true := decide_eq_true c
    rw [cb, Bool.true_and]
    clear c
    go_enter Try.func69, Try.ntmps69
    go_wp2
    repeat (go_quiet (fail); try go_wp2)
    go_ret
    exact ⟨rfl, (by first | exact Drawn0.refl _ | exact Drawn0.step (Drawn0.refl _) _ | exact Drawn0.step (Drawn0.step (Drawn0.refl _) _) _)⟩
  · have cb : decide (rd starts (i : Int) < 0) = false := decide_eq_false c
    rw [cb, Bool.false_and]
    clear c
    go_enter Try.func69, Try.ntmps69
    go_wp2
    repeat (go_quiet (fail); try go_wp2)
    go_ret
    exact ⟨rfl, (by first | exact Drawn0.refl _ | exact Drawn0.step (Drawn0.refl _) _ | exact Drawn0.step (Drawn0.step (Drawn0.refl _) _) _)⟩
set_option maxHeartbeats 8000000 in
set_option maxRecDepth 100000 in
theorem prSome_q (g : Nat) (jobs : List (S43)) (starts : List Int) (now done : Int) (w : World) (hI : IsS57 w w g jobs starts now done) (hn : jobs.length ≤ 20) (hl : starts.length = jobs.length) :
    Calls Try.prog 74 #[.pointer (some ⟨g, 0, none⟩)] w fun e w' => e = .returned (.bool (someB jobs starts now jobs.length)) ∧ Drawn0 w w' := by
  have HQ := Aside0.mk hI
  have HN := Aside0.mk hn
  have HL := Aside0.mk hl
  obtain ⟨A0, c0, A1, c1, h1, h2, h3, h4⟩ := hI
  have hc0 : w.cell? ⟨g, 0, none⟩ = some (.slice A0 jobs.length c0) := (blk_cell h1 0).trans rfl
  clear h1 h2 h3 h4 hn hl
  go_enter Try.func74, Try.ntmps74
  go_wp2
  go_loopg [9] (jobs.length + 1) (fun kq v9 w' => ∃ i : Nat, v9 = .int .i64 (i : Int) ∧ Aside0 (i ≤ jobs.length ∧ jobs.length - i + 1 ≤ kq) ∧ Aside0 (someB jobs starts now i = false) ∧ Drawn0 w w')
  case atStart => exact ⟨0, rfl, ⟨by omega, by omega⟩, ⟨rfl⟩, (by first | exact Drawn0.refl _ | exact Drawn0.step (Drawn0.refl _) _ | exact Drawn0.step (Drawn0.step (Drawn0.refl _) _) _)⟩
  case round =>
    obtain ⟨i, rfl, HM, HF, ⟨nd0, rfl⟩⟩ := hrel
    by_cases hi : i < jobs.length
    · have hib : decide ((i : Int) < jobs.length) = true := decide_eq_true (by omega)
      have hib2 : decide (i < jobs.length) = true := decide_eq_true hi
      have HI2 := Aside0.mk hi
      clear hi
      cases hw : waitsB jobs starts now i with
      | true =>
        have HW := Aside0.mk hw
        clear hw
        go_wp2_with (first | (go_at_call 69; (with_reducible refine (prWaits_q g i jobs starts now done _ ?s1 HI2.out HL.out).mono ?_); (case s1 => exact IsS57.drewn HQ.out _); rintro e w' ⟨rfl, ⟨nd, rfl⟩⟩; rw [HW.out]) | ((with_reducible refine gate_callee (f := 69) rfl ?_); refine goesL_ (some 14) rfl rfl Try.func69 (by kernel_rfl) rfl #[.pointer (some ⟨g, 0, none⟩), .int .i64 (i : Int)] rfl (by (try simp only [List.map_toArray, List.map_cons, List.map_nil]); first | done | rfl) ?_; (with_reducible refine (prWaits_q g i jobs starts now done _ ?s1 HI2.out HL.out).mono ?_); (case s1 => exact IsS57.drewn HQ.out _); rintro e w' ⟨rfl, ⟨nd, rfl⟩⟩; refine ⟨_, rfl, ?_⟩; rw [HW.out]))
        go_ret
        exact ⟨by rw [someB_of HW.out _ HI2.out]; rfl, (by first | exact Drawn0.refl _ | exact Drawn0.step (Drawn0.refl _) _ | exact Drawn0.step (Drawn0.step (Drawn0.refl _) _) _)⟩
      | false =>
        have HW := Aside0.mk hw
        clear hw
        go_wp2_with (first | (go_at_call 69; (with_reducible refine (prWaits_q g i jobs starts now done _ ?s1 HI2.out HL.out).mono ?_); (case s1 => exact IsS57.drewn HQ.out _); rintro e w' ⟨rfl, ⟨nd, rfl⟩⟩; rw [HW.out]) | ((with_reducible refine gate_callee (f := 69) rfl ?_); refine goesL_ (some 14) rfl rfl Try.func69 (by kernel_rfl) rfl #[.pointer (some ⟨g, 0, none⟩), .int .i64 (i : Int)] rfl (by (try simp only [List.map_toArray, List.map_cons, List.map_nil]); first | done | rfl) ?_; (with_reducible refine (prWaits_q g i jobs starts now done _ ?s1 HI2.out HL.out).mono ?_); (case s1 => exact IsS57.drewn HQ.out _); rintro e w' ⟨rfl, ⟨nd, rfl⟩⟩; refine ⟨_, rfl, ?_⟩; rw [HW.out]))
        go_roundg (jobs.length - (i + 1) + 1)
        case measure => have := HM.out; have := HI2.out; omega
        case rel => exact ⟨i + 1, (by have := HI2.out; have := HN.out; first | rfl | (rw [wrap_small (by omega) (by omega)]; rfl)), ⟨by have := HI2.out; omega, Nat.le_refl _⟩, ⟨by unfold someB; rw [HF.out, HW.out]; rfl⟩, (by first | exact Drawn0.refl _ | exact Drawn0.step (Drawn0.refl _) _ | exact Drawn0.step (Drawn0.step (Drawn0.refl _) _) _)⟩
    · obtain rfl : i = jobs.length := by have := HM.out; omega
      have hib : decide ((jobs.length : Int) < jobs.length) = false := decide_eq_false (by omega)
      have hib2 : decide (jobs.length < jobs.length) = false := decide_eq_false hi
      clear hi
      go_wp2
      go_ret
      exact ⟨by rw [HF.out]; rfl, (by first | exact Drawn0.refl _ | exact Drawn0.step (Drawn0.refl _) _ | exact Drawn0.step (Drawn0.step (Drawn0.refl _) _) _)⟩
/- EXTERN, by hand (wip/hand/prline.py): a job begins. -/
/-- The tick of the first job that has not begun. -/
def prNext (jobs : List (S43)) (starts : List Int) : Nat → Int
  | 0 => 5000
  | m + 1 => if rd starts (m : Int) < 0 then (if prNext jobs starts m < (rd_T43 jobs (m : Int)).f0 then prNext jobs starts m else (rd_T43 jobs (m : Int)).f0) else prNext jobs starts m
/-- The line is free until a job comes. -/
def skipB (jobs : List (S43)) (starts : List Int) (now done : Int) : Bool := !(someB jobs starts now jobs.length) && (done != (jobs.length : Int))
theorem IsL.box {w0 W : World} {g : Nat} {jobs : List (S43)} {starts : List Int} {now done : Int} (h : IsL w0 W g jobs starts now done) {b : Nat} {cs : Array Value} (hb : W.heap[b]? = some (.cells cs 43 (0, 0))) (j : Nat) (u : Value) : IsL w0 (W.setCell ⟨b, j, none⟩ u) g jobs starts now done := by
  obtain ⟨A0, c0, sv, h1, h2, h3, h4⟩ := h
  have hne : g ≠ b := by
    rintro rfl
    rw [hb] at h1
    injection h1 with h1
    injection h1 with _ h5
    exact absurd h5 (by decide)
  exact ⟨A0, c0, sv, blk_far h1 hne u, h2, h3, Kd.R_set h4 hb (by decide) j u⟩
theorem IsL.job {w0 W : World} {g : Nat} {jobs : List (S43)} {starts : List Int} {now done : Int} (h : IsL w0 W g jobs starts now done) {b : Nat} (hb : W.heap[b]? = some (.cells #[.int .i64 0, .int .i64 0, .int .i64 0] 43 (0, 0))) (x y z : Int) :
    IsL w0 (((W.setCell ⟨b, 0, none⟩ (.int .i64 x)).setCell ⟨b, 1, none⟩ (.int .i64 y)).setCell ⟨b, 2, none⟩ (.int .i64 z)) g jobs starts now done ∧ (((W.setCell ⟨b, 0, none⟩ (.int .i64 x)).setCell ⟨b, 1, none⟩ (.int .i64 y)).setCell ⟨b, 2, none⟩ (.int .i64 z)).heap[b]? = some (.cells #[.int .i64 x, .int .i64 y, .int .i64 z] 43 (0, 0)) := by
  have b1 := blk_put (cs' := #[.int .i64 x, .int .i64 0, .int .i64 0]) hb 0 (.int .i64 x) rfl
  have b2 := blk_put (cs' := #[.int .i64 x, .int .i64 y, .int .i64 0]) b1 1 (.int .i64 y) rfl
  have b3 := blk_put (cs' := #[.int .i64 x, .int .i64 y, .int .i64 z]) b2 2 (.int .i64 z) rfl
  exact ⟨((h.box hb 0 _).box b1 1 _).box b2 2 _, b3⟩
end Go.Proofs.Ytkkgnjdepgmjlaa.X

/- What the functions of the program come to, and that they do: written by this session's program wip/xprint.py out of the translation; parts named extern are typed by hand. -/
namespace Go.Proofs.Ytkkgnjdepgmjlaa.X
open Go.RowKit Go.Proofs.YtkkgnjdepgmjlaaW.PrintWords Go.Proofs.YtkkgnjdepgmjlaaW.PrintLast Go.Proofs.YtkkgnjdepgmjlaaW.PrintMore
attribute [local go_sem] max2_int min2_int max_two min_two max_three min_three max_four min_four   -- for this text's walks alone
set_option linter.unusedVariables false
set_option linter.unusedSimpArgs false
end Go.Proofs.Ytkkgnjdepgmjlaa.X

/- What the functions of the program come to, and that they do: written by this session's program wip/xprint.py out of the translation; parts named extern are typed by hand. -/
namespace Go.Proofs.Ytkkgnjdepgmjlaa.X
open Go.RowKit Go.Proofs.YtkkgnjdepgmjlaaW.PrintWords Go.Proofs.YtkkgnjdepgmjlaaW.PrintLast Go.Proofs.YtkkgnjdepgmjlaaW.PrintMore
attribute [local go_sem] max2_int min2_int max_two min_two max_three min_three max_four min_four   -- for this text's walks alone
set_option linter.unusedVariables false
set_option linter.unusedSimpArgs false

/-! ### bits_Mul64: function 87 -/
def bits_Mul64.f (a0 : Int) (a1 : Int) : Option (Int × Int) := some (IntKind.u64.wrap ((IntKind.u64.wrap ((IntKind.u64.wrap ((a0 / 4294967296) * (a1 / 4294967296))) + ((IntKind.u64.wrap ((IntKind.u64.wrap ((a0 / 4294967296) * (Go.bits .and .u64 a1 4294967295))) + ((IntKind.u64.wrap ((Go.bits .and .u64 a0 4294967295) * (Go.bits .and .u64 a1 4294967295))) / 4294967296))) / 4294967296))) + ((IntKind.u64.wrap ((Go.bits .and .u64 (IntKind.u64.wrap ((IntKind.u64.wrap ((a0 / 4294967296) * (Go.bits .and .u64 a1 4294967295))) + ((IntKind.u64.wrap ((Go.bits .and .u64 a0 4294967295) * (Go.bits .and .u64 a1 4294967295))) / 4294967296))) 4294967295) + (IntKind.u64.wrap ((Go.bits .and .u64 a0 4294967295) * (a1 / 4294967296))))) / 4294967296)), IntKind.u64.wrap (a0 * a1))
set_option maxHeartbeats 8000000 in
set_option maxRecDepth 100000 in
theorem bits_Mul64.calls (a0 : Int) (a1 : Int) (r1 : Int) (r2 : Int) (w : World) (h : bits_Mul64.f a0 a1 = some (r1, r2)) :
    Calls Try.prog 87 #[.int .u64 a0, .int .u64 a1] w fun e w' => e = .returned (.tuple #[.int .u64 r1, .int .u64 r2]) ∧ Drawn0 w w' := by
  have H : (some (IntKind.u64.wrap ((IntKind.u64.wrap ((IntKind.u64.wrap ((a0 / 4294967296) * (a1 / 4294967296))) + ((IntKind.u64.wrap ((IntKind.u64.wrap ((a0 / 4294967296) * (Go.bits .and .u64 a1 4294967295))) + ((IntKind.u64.wrap ((Go.bits .and .u64 a0 4294967295) * (Go.bits .and .u64 a1 4294967295))) / 4294967296))) / 4294967296))) + ((IntKind.u64.wrap ((Go.bits .and .u64 (IntKind.u64.wrap ((IntKind.u64.wrap ((a0 / 4294967296) * (Go.bits .and .u64 a1 4294967295))) + ((IntKind.u64.wrap ((Go.bits .and .u64 a0 4294967295) * (Go.bits .and .u64 a1 4294967295))) / 4294967296))) 4294967295) + (IntKind.u64.wrap ((Go.bits .and .u64 a0 4294967295) * (a1 / 4294967296))))) / 4294967296)), IntKind.u64.wrap (a0 * a1))) = some (r1, r2) := h
  clear h
  simp only [Option.some.injEq, Prod.mk.injEq] at H
  obtain ⟨rfl, rfl⟩ := H
  go_enter Try.func87, Try.ntmps87
  go_wp2
  go_ret2
  exact ⟨by first | rfl | (simp; done) | (simp [*]; done), by repeat (first | exact Drawn0.refl _ | apply Drawn0.step)⟩

/-! ### bits_Mul: function 83 -/
def bits_Mul.f (a0 : Int) (a1 : Int) : Option (Int × Int) := (bits_Mul64.f a0 a1).bind fun bt369 => (some (bt369.1, bt369.2))
set_option maxHeartbeats 8000000 in
set_option maxRecDepth 100000 in
theorem bits_Mul.calls (a0 : Int) (a1 : Int) (r1 : Int) (r2 : Int) (w : World) (h : bits_Mul.f a0 a1 = some (r1, r2)) :
    Calls Try.prog 83 #[.int .u64 a0, .int .u64 a1] w fun e w' => e = .returned (.tuple #[.int .u64 r1, .int .u64 r2]) ∧ Drawn0 w w' := by
  have H : ((bits_Mul64.f a0 a1).bind fun bt369 => (some (bt369.1, bt369.2))) = some (r1, r2) := h
  clear h
  replace H := Option.bind_eq_some_iff.mp H
  obtain ⟨⟨t369, t370⟩, A30, H⟩ := H
  replace H : (some (t369, t370)) = some (r1, r2) := H
  have A3 := Aside0.mk A30
  clear A30
  simp only [Option.some.injEq, Prod.mk.injEq] at H
  obtain ⟨rfl, rfl⟩ := H
  go_enter Try.func83, Try.ntmps83
  go_wp2_with (first | ((with_reducible refine gate_callee (f := 87) rfl ?_); refine goesL_ (some 25) rfl rfl Try.func87 (by kernel_rfl) rfl #[.int .u64 a0, .int .u64 a1] rfl (by (try simp only [List.map_toArray, List.map_cons, List.map_nil]); first | done | rfl | (simp only [List.length_drop, List.length_take]; rfl)) ?_; (with_reducible refine (bits_Mul64.calls a0 a1 t369 t370 _ A3.out).mono ?_); rintro e w' ⟨rfl, ⟨nd, rfl⟩⟩; refine ⟨_, rfl, ?_⟩))
  go_ret2
  exact ⟨by first | rfl | (simp; done) | (simp [*]; done), by repeat (first | exact Drawn0.refl _ | apply Drawn0.step)⟩

end Go.Proofs.Ytkkgnjdepgmjlaa.X

/- What the functions of the program come to, and that they do: written by this session's program wip/xprint.py out of the translation; parts named extern are typed by hand. -/
namespace Go.Proofs.Ytkkgnjdepgmjlaa.X
open Go.RowKit Go.Proofs.YtkkgnjdepgmjlaaW.PrintWords Go.Proofs.YtkkgnjdepgmjlaaW.PrintLast Go.Proofs.YtkkgnjdepgmjlaaW.PrintMore
attribute [local go_sem] max2_int min2_int max_two min_two max_three min_three max_four min_four   -- for this text's walks alone
set_option linter.unusedVariables false
set_option linter.unusedSimpArgs false

/-! ### slices_Repeat_int_int: function 78 -/
/- EXTERN, by hand: slices.Repeat of one whole number, at most 20 times. -/
/-- Of a row of one's own the first m elements are laid behind themselves, as many as fit. -/
theorem step_copy_self {P : Program} {w0 W : World} {ops : Array Oper} {o : Oper} {a : Act} {K : Act → World → Prop} {Q : Exit → Act → World → Prop} {E : Prop} (base e : Nat) (hgd : o.guard = none) (d s : Operand) (t : TypeId)
    (ho : o.op = .call { callee := .builtin .copy, args := #[d, s], argTypes := #[t, t] }) (ht : P.underlying t = some (.slice e)) (hsz : (P.info? e).map (·.size) = some 1)
    (g n c m q : Nat) (xs : List Int) (ok : Nat → Prop) (hd : a.eval d = .slice (some ⟨g, m, none⟩) (n - m) (c - m)) (hs : a.eval s = .slice (some ⟨g, 0, none⟩) m c)
    (HO : (Kd.int .i64).R e W base ok (.slice (some ⟨g, 0, none⟩) n c) xs) (hn : xs.length = n) (hm : m ≤ n) (hq : q = Nat.min m (n - m)) (HB : Below base w0 W)
    (h : ∀ w1, (Kd.int .i64).R e w1 base ok (.slice (some ⟨g, 0, none⟩) n c) (splice xs m (xs.take q)) → Below base w0 w1 → K (a.put o.dst (goInt q)) w1) : if Region.wanted o (yielded ops a.tmps) = true then Oper.wp P o a W K Q else E := by
  have HR := (Kd.R_reads' HO).2.2
  obtain ⟨hok, inner, ⟨h1, h2⟩, hreps⟩ := HO
  have hin : inner = nums .i64 xs := by
    obtain ⟨hl, hr⟩ := hreps
    apply List.ext_getElem?
    intro j
    by_cases hj : j < xs.length
    · have := hr j xs[j] (by rw [List.getElem?_eq_getElem hj])
      have h3 : (List.take (Kd.int .i64).sz (List.drop (j * (Kd.int .i64).sz) inner)) = [.int .i64 xs[j]] := this
      have h4 : inner[j]? = (List.take 1 (List.drop (j * 1) inner))[0]? := by simp
      rw [h4]
      have h5 : List.take 1 (List.drop (j * 1) inner) = [.int .i64 xs[j]] := h3
      rw [h5]
      simp [nums, hj]
    · have e1 : (Kd.int .i64).sz = 1 := rfl
      rw [List.getElem?_eq_none (by rw [hl, e1]; omega), List.getElem?_eq_none (by simp [nums]; omega)]
  subst hin
  have e1 : (Kd.int .i64).sz = 1 := rfl
  rw [e1] at h1 h2
  rcases h2 with ⟨hf, h0⟩ | ⟨g2, cap, cur, hv, hbg, hh, hnc, hcm, hcs, htk⟩
  · cases hf
  · obtain ⟨rfl, rfl, rfl⟩ : g2 = g ∧ n = xs.length ∧ cap = c := by
      simp only [Value.slice.injEq, Option.some.injEq, Addr.mk.injEq] at hv
      exact ⟨hv.1.1.symm, hv.2.1, hv.2.2.symm⟩
    clear hv
    rw [Nat.mul_one] at hcs htk
    have hcur : cur = (cur.toList).toArray := by simp
    rw [hcur] at hh
    have hcl : cur.toList.length = cur.size := by simp
    have hql : q ≤ xs.length - m := by rw [hq]; exact Nat.min_le_right _ _
    have hqm : q ≤ m := by rw [hq]; exact Nat.min_le_left _ _
    have hlt : (xs.take q).length = q := by rw [List.length_take]; omega
    have hle2 : m + (nums .i64 (xs.take q)).length ≤ cur.toList.length := by rw [hcl, nums_length, hlt]; omega
    refine step_copy_splice hgd d s t t ho e ht hsz (some ⟨g2, m, none⟩) (some ⟨g2, 0, none⟩) (xs.length - m) (cap - m) m cap hd hs g2 m cur.toList e hh (nums .i64 (xs.take q)) (by rw [nums_length, hlt]; exact hq)
      (by
        intro hp
        refine ⟨rfl, _, rfl, fun j u hu => ?_⟩
        have hj : j < q := by
          rcases Nat.lt_or_ge j q with h | h
          · exact h
          · rw [List.getElem?_eq_none (by rw [nums_length, hlt]; exact h)] at hu
            cases hu
        obtain ⟨ad', e', hc⟩ := Kd.at_int HR (j : Int) (by omega) (by omega)
        cases e'
        rw [Int.toNat_natCast] at hc
        rw [hc]
        have h4 : (xs.take q)[j]? = xs[j]? := by rw [List.getElem?_take, if_pos hj]
        unfold nums at hu
        rw [List.getElem?_map, h4, List.getElem?_eq_getElem (show j < xs.length by omega)] at hu
        simp at hu
        rw [← hu]
        simp [rd, List.getD_eq_getElem?_getD, List.getElem?_eq_getElem (show j < xs.length by omega)])
      hle2 (by intro u hu; simp only [nums, List.mem_map] at hu; obtain ⟨z, _, rfl⟩ := hu; rfl) base w0 HB hbg ?_
    intro w' hH hB
    have hH' : w'.heap[g2]? = some (.cells (splice cur.toList m (nums .i64 (xs.take q))).toArray e (0, 0)) := hH
    have hsl : (splice cur.toList m (nums .i64 (xs.take q))).length = cur.toList.length := length_splice _ _ _ hle2
    have hlen : (splice xs m (xs.take q)).length = xs.length := length_splice _ _ _ (by rw [hlt]; omega)
    have hfin : List.take xs.length (splice cur.toList m (nums .i64 (xs.take q))) = nums .i64 (splice xs m (xs.take q)) := by
      obtain ⟨tl, h0⟩ : ∃ tl, cur.toList = nums .i64 xs ++ tl := ⟨cur.toList.drop xs.length, by rw [← htk, List.take_append_drop]⟩
      have hnl : (nums .i64 xs).length = xs.length := nums_length _ _
      have ht1 : List.take m (nums .i64 xs ++ tl) = List.take m (nums .i64 xs) := List.take_append_of_le_length (by rw [hnl]; omega)
      have ht2 : List.drop (m + q) (nums .i64 xs ++ tl) = List.drop (m + q) (nums .i64 xs) ++ tl := List.drop_append_of_le_length (by rw [hnl]; omega)
      rw [h0]
      unfold splice
      rw [nums_length, hlt, ht1, ht2]
      have h5 : nums .i64 (List.take m xs ++ (List.take q xs ++ List.drop (m + q) xs)) = List.take m (nums .i64 xs) ++ (nums .i64 (List.take q xs) ++ List.drop (m + q) (nums .i64 xs)) := by
        simp [nums, List.map_take, List.map_drop]
      have h6 : (List.take m (nums .i64 xs) ++ (nums .i64 (List.take q xs) ++ List.drop (m + q) (nums .i64 xs))).length = xs.length := by
        rw [List.length_append, List.length_append, List.length_take, List.length_drop, nums_length, nums_length, hlt]
        omega
      rw [h5, ← List.append_assoc (nums .i64 (List.take q xs)), ← List.append_assoc (List.take m (nums .i64 xs)), List.take_append_of_le_length (by rw [h6]; exact Nat.le_refl _), List.take_of_length_le (by rw [h6]; exact Nat.le_refl _)]
    have hput := h w' ⟨fun k hk => hok k hk, nums .i64 (splice xs m (xs.take q)), ⟨by rw [nums_length, e1, Nat.mul_one], .inr ⟨g2, cap, (splice cur.toList m (nums .i64 (xs.take q))).toArray, by rw [hlen], hbg, hH', by rw [hlen]; exact hnc, hcm, by rw [e1, Nat.mul_one, List.size_toArray, hsl, hcl]; exact hcs, (by
      rw [e1, Nat.mul_one, hlen]
      exact hfin)⟩⟩, (show Reps _ _ _ (encs (Value.int .i64) (splice xs m (xs.take q))) from Kd.reps_scalar _)⟩ hB
    rw [nums_length, hlt]
    exact hput
theorem R_copy1 {P : Program} {w0 W : World} {ops : Array Oper} {rest : List Oper} {o : Oper} {a : Act} {Q : Exit → Act → World → Prop} (base e : Nat) (hgd : o.guard = none) (d s : Operand) (t : TypeId)
    (ho : o.op = .call { callee := .builtin .copy, args := #[d, s], argTypes := #[t, t] }) (ht : P.underlying t = some (.slice e)) (hsz : (P.info? e).map (·.size) = some 1)
    (v : Value) (xs ys : List Int) (A : Option Addr) (c : Nat) (ok : Nat → Prop) (hd : a.eval d = v) (hs : a.eval s = .slice A ys.length c) (HO : (Kd.int .i64).R e W base ok v xs) (HR : (Kd.int .i64).C W A ys.length ys) (HB : Below base w0 W) (hle : ys.length ≤ xs.length)
    (h : ∀ w1, (Kd.int .i64).R e w1 base ok v (ys ++ xs.drop ys.length) → Below base w0 w1 → wpList P ops Q rest (a.put o.dst (goInt ys.length)) w1) : wpList P ops Q (o :: rest) a W := by
  obtain ⟨hok, inner, ⟨h1, h2⟩, hreps⟩ := HO
  have hin : inner = nums .i64 xs := by
    obtain ⟨hl, hr⟩ := hreps
    apply List.ext_getElem?
    intro j
    by_cases hj : j < xs.length
    · have := hr j xs[j] (by rw [List.getElem?_eq_getElem hj])
      have h3 : (List.take (Kd.int .i64).sz (List.drop (j * (Kd.int .i64).sz) inner)) = [.int .i64 xs[j]] := this
      have h4 : inner[j]? = (List.take 1 (List.drop (j * 1) inner))[0]? := by simp
      rw [h4]
      have h5 : List.take 1 (List.drop (j * 1) inner) = [.int .i64 xs[j]] := h3
      rw [h5]
      simp [nums, hj]
    · have e1 : (Kd.int .i64).sz = 1 := rfl
      rw [List.getElem?_eq_none (by rw [hl, e1]; omega), List.getElem?_eq_none (by simp [nums]; omega)]
  subst hin
  have e1 : (Kd.int .i64).sz = 1 := rfl
  rw [e1] at h1 h2
  rcases h2 with ⟨rfl, h0⟩ | ⟨g, cap, cur, rfl, hbg, hh, hnc, hcm, hcs, htk⟩
  · have hy : ys = [] := List.eq_nil_of_length_eq_zero (by omega)
    have hx : xs = [] := List.eq_nil_of_length_eq_zero h0
    subst hy
    subst hx
    refine wpList_copy_nothing hgd d s t t ho e ht hsz none A 0 0 0 c hd hs rfl ?_
    exact h W ⟨hok, [], ⟨by simp, .inl ⟨rfl, rfl⟩⟩, Reps.none _ _⟩ HB
  · have hcur : cur = (cur.toList).toArray := by simp
    rw [Nat.mul_one] at hcs htk
    rw [hcur] at hh
    have hcl : cur.toList.length = cur.size := by simp
    have hle2 : 0 + (nums .i64 ys).length ≤ cur.toList.length := by rw [hcl, nums_length]; omega
    refine wpList_copy_splice hgd d s t t ho e ht hsz (some ⟨g, 0, none⟩) A xs.length cap ys.length c hd hs g 0 cur.toList e hh (nums .i64 ys) (by rw [nums_length]; exact (Nat.min_eq_left hle).symm)
      (by
        intro hp
        rw [nums_length] at hp
        refine ⟨rfl, ?_⟩
        obtain ⟨ad, e, _⟩ := Kd.at_int HR 0 (by omega) (by omega)
        refine ⟨ad, e, fun j u hu => ?_⟩
        have hj : j < ys.length := by
          rcases Nat.lt_or_ge j ys.length with h | h
          · exact h
          · simp [nums, List.getElem?_eq_none h] at hu
        obtain ⟨ad', e', hc⟩ := Kd.at_int HR (j : Int) (by omega) (by omega)
        rw [e] at e'
        cases e'
        rw [Int.toNat_natCast] at hc
        rw [hc]
        simp [nums, List.getElem?_eq_getElem hj] at hu
        rw [← hu]
        simp [rd, List.getD_eq_getElem?_getD, List.getElem?_eq_getElem hj])
      hle2 (by intro u hu; simp only [nums, List.mem_map] at hu; obtain ⟨q, _, rfl⟩ := hu; rfl) base w0 HB hbg ?_
    intro w' hH hB
    have hH' : w'.heap[g]? = some (.cells (splice cur.toList 0 (nums .i64 ys)).toArray e (0, 0)) := hH
    have hsl : (splice cur.toList 0 (nums .i64 ys)).length = cur.toList.length := length_splice _ _ _ hle2
    have hlen : (ys ++ xs.drop ys.length).length = xs.length := by simp; omega
    have hput := h w' ⟨fun k hk => hok k hk, nums .i64 (ys ++ xs.drop ys.length), ⟨by rw [nums_length, e1, Nat.mul_one], .inr ⟨g, cap, (splice cur.toList 0 (nums .i64 ys)).toArray, by rw [hlen], hbg, hH', by rw [hlen]; exact hnc, hcm, by rw [e1, Nat.mul_one, List.size_toArray, hsl, hcl]; exact hcs, (by
      rw [e1, Nat.mul_one, hlen]
      have hX : xs.length = ys.length + (xs.length - ys.length) := by omega
      have hdr : (cur.toList.drop ys.length).take (xs.length - ys.length) = nums .i64 (xs.drop ys.length) := by
        have : nums .i64 (xs.drop ys.length) = (nums .i64 xs).drop ys.length := by simp [nums, List.map_drop]
        rw [this, ← htk, List.drop_take]
      show List.take xs.length (splice cur.toList 0 (nums .i64 ys)).toArray.toList = _
      unfold splice
      simp only [List.take_zero, List.nil_append, Nat.zero_add, nums_length]
      rw [nums_append, List.take_append, nums_length, ← hdr]
      rw [List.take_of_length_le (by rw [nums_length]; exact hle)])⟩⟩, (show Reps _ _ _ (encs (Value.int .i64) (ys ++ xs.drop ys.length)) from Kd.reps_scalar _)⟩ hB
    rw [nums_length] 
    exact hput
theorem mul1 : ∀ n : Nat, n ≤ 20 → bits_Mul.f 1 (n : Int) = some (0, (n : Int)) := by
  intro n hn
  have h : ∀ k : Fin 21, bits_Mul.f 1 ((k.val : Nat) : Int) = some (0, ((k.val : Nat) : Int)) := by decide +kernel
  exact h ⟨n, by omega⟩
theorem rep_splice (v : Int) (n m : Nat) (hm : m ≤ n) (h1 : 1 ≤ m) : splice (List.replicate m v ++ List.replicate (n - m) 0) m ((List.replicate m v ++ List.replicate (n - m) 0).take (Nat.min m (n - m))) = List.replicate (m + Nat.min m (n - m)) v ++ List.replicate (n - (m + Nat.min m (n - m))) 0 := by
  have hq : Nat.min m (n - m) ≤ m := Nat.min_le_left _ _
  have hq2 : Nat.min m (n - m) ≤ n - m := Nat.min_le_right _ _
  generalize Nat.min m (n - m) = q at hq hq2
  have e1 : (List.replicate m v ++ List.replicate (n - m) (0 : Int)).take q = List.replicate q v := by
    rw [List.take_append_of_le_length (by simp; omega), List.take_replicate, Nat.min_eq_left hq]
  rw [e1]
  unfold splice
  rw [List.take_append_of_le_length (by simp), List.take_replicate, Nat.min_self, List.length_replicate, List.drop_append, List.drop_replicate, List.length_replicate, List.drop_replicate]
  rw [show m - (m + q) = 0 by omega, show n - m - (m + q - m) = n - (m + q) by omega]
  simp only [List.replicate_zero, List.nil_append]
  rw [← List.append_assoc, List.replicate_append_replicate]
theorem cut_from {P : Program} (t e : TypeId) (ht : P.underlying t = some (.slice e)) (hinfo : (P.info? e).map (fun i => (i.zero, i.size, i.bytes)) = some (some (.int .i64 0), 1, 8)) (g n c m : Nat) (hm : m < n) (hc : n ≤ c) (W : World) :
    (Instr.slice t (.slice (some ⟨g, 0, none⟩) n c) (some (.int .i64 (m : Int))) none none).run P W = .ok (.slice (some ⟨g, m, none⟩) (n - m) (c - m)) W := by
  obtain ⟨i0, hi, hzz⟩ := Option.map_eq_some_iff.1 hinfo
  simp only [Prod.mk.injEq] at hzz
  have hel : P.elem t = e := by simp [Program.elem, ht]
  have hm1 : m ≤ n := by omega
  have hm2 : ¬ c = m := by omega
  simp [Instr.slice, run_underlying ht, Instr.sliceBounds, run_sliceBound, sizeOf, typeInfo, hi, Result.andThen, hm1, hm2, hc, Addr.add, hzz.2.1]
  intro h0
  rw [h0]
theorem cut_to {P : Program} (t e : TypeId) (ht : P.underlying t = some (.slice e)) (hinfo : (P.info? e).map (fun i => (i.zero, i.size, i.bytes)) = some (some (.int .i64 0), 1, 8)) (g n c m : Nat) (hm : m ≤ n) (hc : n ≤ c) (W : World) :
    (Instr.slice t (.slice (some ⟨g, 0, none⟩) n c) none (some (.int .i64 (m : Int))) none).run P W = .ok (.slice (some ⟨g, 0, none⟩) m c) W := by
  obtain ⟨i0, hi, hzz⟩ := Option.map_eq_some_iff.1 hinfo
  simp only [Prod.mk.injEq] at hzz
  have hel : P.elem t = e := by simp [Program.elem, ht]
  have hmc : m ≤ c := by omega
  simp [Instr.slice, run_underlying ht, Instr.sliceBounds, run_sliceBound, sizeOf, typeInfo, hi, Result.andThen, hmc, Addr.add]
set_option maxHeartbeats 8000000 in
set_option maxRecDepth 100000 in
theorem repeat_some (A0 : Option Addr) (c0 : Nat) (v : Int) (n : Nat) (w : World) (hr0 : Kd.C (Kd.int .i64) w A0 1 [v]) (h0 : 0 < n) (h20 : n ≤ 20) :
    Calls Try.prog 78 #[.slice A0 1 c0, .int .i64 (n : Int)] w fun e w' => ∃ v0_ : Value, e = .returned (v0_) ∧ Kd.R (Kd.int .i64) 3 w' w.heap.size (fun _ => True) v0_ (List.replicate n v) ∧ Below w.heap.size w w' := by
  have HN := Aside0.mk h20
  have HP := Aside0.mk h0
  have hn0 : decide ((n : Int) < 0) = false := decide_eq_false (by omega)
  have HM := Aside0.mk (mul1 n (by omega))
  have hw1 : IntKind.u64.wrap (n : Int) = (n : Int) := by simp [IntKind.wrap, IntKind.bits, IntKind.signed]; omega
  have hw2 : IntKind.i64.wrap (n : Int) = (n : Int) := by simp [IntKind.wrap_i64]; omega
  have HR0 := Aside0.mk hr0
  have HB := Aside0.mk (Below.refl w.heap.size w)
  clear hr0
  have hgt : decide ((n : Int) > 9223372036854775807) = false := decide_eq_false (by omega)
  have hgt2 : decide ((9223372036854775807 : Int) < n) = false := decide_eq_false (by omega)
  go_enter Try.func78, Try.ntmps78
  go_wp2_with (first | (go_at_call 83; (with_reducible refine (bits_Mul.calls 1 (n : Int) 0 (n : Int) _ HM.out).mono ?_); rintro e w' ⟨rfl, ⟨nd, rfl⟩⟩) | ((with_reducible refine gate_dst (N := 30) rfl ?_); refine Kd.R_make (Kd.int .i64) _ 3 rfl (N := 30) rfl 23 _ _ rfl (n : Int) rfl rfl Try.underlying23 (.int .i64 0) 8 info3 rfl (by decide) (by omega) 0 (ok := fun _ => True) (okp := fun _ => True) rfl (fun _ hk => hk) trivial (by omega) (by have := HN.out; omega) (Below.refl _ _) (Nat.le_refl _) ?_; intro v30 w4 ho hb hg_ hnew_; clear hg_ hnew_; have HO := Aside0.mk (Kd.R_lower ho (below_size (by repeat (first | (with_reducible first | exact HB.out | apply below_alloc | apply pw_below_drewN | apply below_drew1) | exact HB.out)))); have HB4 := Aside0.mk (below_step (by repeat (first | (with_reducible first | exact HB.out | apply below_alloc | apply pw_below_drewN | apply below_drew1) | exact HB.out)) hb); have HRS := Aside0.mk (Kd.C_below HR0.out HB4.out); rw [Int.toNat_natCast] at HO; clear HB ho hb; have HB := HB4; clear HB4; obtain ⟨g30, c30, e30, _, _, _⟩ := Kd.R_form HO.out (by rw [List.length_replicate]; omega); subst e30; rw [List.length_replicate] at *) | ((with_reducible refine gate_dst (N := 33) rfl ?_); refine R_copy1 (w0 := w) w.heap.size 3 rfl (.tmp 31) (.tmp 32) 23 rfl Try.underlying23 (by kernel_rfl) _ (List.replicate n 0) [v] A0 c0 (fun _ => True) rfl rfl HO.out (by repeat (first | exact HRS.out | (with_reducible refine Kd.C_alloc ?_ _) | (with_reducible refine Kd.C_drewN ?_ _) | (with_reducible refine Kd.C_drew ?_))) (by repeat (first | (with_reducible first | exact HB.out | apply below_alloc | apply pw_below_drewN | apply below_drew1) | exact HB.out)) (by simp; omega) ?_; intro w5 ho5 hb5; have HO5 := Aside0.mk ho5; have HB5 := Aside0.mk hb5; clear ho5 hb5))
  have HOm := Aside0.mk (show Kd.R (Kd.int .i64) 3 w5 w.heap.size (fun _ => True) (.slice (some ⟨g30, 0, none⟩) n c30) (List.replicate 1 v ++ List.replicate (n - 1) 0) from by
    have := HO5.out
    rw [List.drop_replicate] at this
    exact this)
  go_loopg [8] (n + 1) (fun kq v8 w' => ∃ m : Nat, v8 = .int .i64 (m : Int) ∧ Aside0 (1 ≤ m ∧ m ≤ n ∧ n - m + 1 ≤ kq) ∧ Aside0 (Kd.R (Kd.int .i64) 3 w' w.heap.size (fun _ => True) (.slice (some ⟨g30, 0, none⟩) n c30) (List.replicate m v ++ List.replicate (n - m) 0)) ∧ Aside0 (Below w.heap.size w w'))
  case atStart => exact ⟨1, rfl, ⟨Nat.le_refl _, HP.out, by omega⟩, HOm, HB5⟩
  case round =>
    clear HO HB HO5 HB5 HOm HRS
    obtain ⟨m, rfl, HML0, HO, HB⟩ := hrel
    have HC := Aside0.mk (Kd.R_reads' HO.out).2.1
    have hlen : (List.replicate m v ++ List.replicate (n - m) (0 : Int)).length = n := by
      have := HML0.out
      simp
      omega
    have HNL := Aside0.mk hlen
    clear hlen
    by_cases hm : (m : Int) < n
    · have hmb : decide ((m : Int) < n) = true := decide_eq_true hm
      have hmb2 : decide (m < n) = true := decide_eq_true (by omega)
      have HML := Aside0.mk (show m ≤ n by omega)
      have HMi := Aside0.mk (show m < n by omega)
      clear hm
      obtain ⟨q, hq⟩ : ∃ q, q = Nat.min m (n - m) := ⟨_, rfl⟩
      have HSP := Aside0.mk (rep_splice v n m HML.out HML0.out.1)
      rw [← hq] at HSP
      have HQ := Aside0.mk hq
      have hw3 : IntKind.i64.wrap ((m : Int) + (q : Int)) = ((m + q : Nat) : Int) := by
        have := HN.out
        have : q ≤ n - m := by rw [hq]; exact Nat.min_le_right m (n - m)
        have := HML.out
        clear hq
        simp [IntKind.wrap_i64]
        omega
      clear hq
      have hc1 := fun W => cut_from (P := Try.prog) 23 3 Try.underlying23 info3 g30 n c30 m HMi.out HC.out W
      have hc2 := fun W => cut_to (P := Try.prog) 23 3 Try.underlying23 info3 g30 n c30 m HML.out HC.out W
      go_wp2
      go_region_law (refine step_copy_self (w0 := w) w.heap.size 3 rfl (.tmp 41) (.tmp 44) 23 rfl Try.underlying23 (by kernel_rfl) g30 n c30 m q _ (fun _ => True) (by first | (go_simp; done) | (go_simp; rfl)) (by first | (go_simp; done) | (go_simp; rfl)) (by (with_reducible repeat (first | apply Kd.R_alloc | apply Kd.R_drewN | apply Kd.R_drew)); exact HO.out) HNL.out HML.out HQ.out (by repeat (first | (with_reducible first | exact HB.out | apply below_alloc | apply pw_below_drewN | apply below_drew1) | exact HB.out)) ?_; intro w7 ho7 hb7; rw [HSP.out] at ho7; have HO7 := Aside0.mk ho7; have HB7 := Aside0.mk hb7; clear ho7 hb7)
      all_goals go_wp2
      have hmin : 1 ≤ q := by
        have h1 := HML0.out.1
        have h2 := HMi.out
        rw [HQ.out]
        exact Nat.le_min.2 ⟨h1, by omega⟩
      have hmin2 : q ≤ n - m := by rw [HQ.out]; exact Nat.min_le_right _ _
      go_roundg (n - (m + q) + 1)
      case measure => have := HML0.out; omega
      case rel => exact ⟨m + q, (by first | rfl | rw [Int.natCast_add]), ⟨by omega, by have := HML.out; omega, Nat.le_refl _⟩, HO7, HB7⟩
    · obtain rfl : m = n := by have := HML0.out; omega
      have hmb : decide ((m : Int) < m) = false := decide_eq_false hm
      have hmb2 : decide (m < m) = false := decide_eq_false (by omega)
      clear hm
      go_wp2
      go_ret
      refine ⟨_, rfl, ?_, HB.out⟩
      have := HO.out
      rw [Nat.sub_self, List.replicate_zero, List.append_nil] at this
      exact this
set_option maxHeartbeats 8000000 in
set_option maxRecDepth 100000 in
theorem repeat_none (A0 : Option Addr) (c0 : Nat) (v : Int) (w : World) (hr0 : Kd.C (Kd.int .i64) w A0 1 [v]) :
    Calls Try.prog 78 #[.slice A0 1 c0, .int .i64 0] w fun e w' => ∃ v0_ : Value, e = .returned (v0_) ∧ Kd.R (Kd.int .i64) 3 w' w.heap.size (fun _ => True) v0_ [] ∧ Below w.heap.size w w' := by
  have HM := Aside0.mk (show bits_Mul.f 1 0 = some (0, 0) from mul1 0 (by omega))
  have HN := Aside0.mk (show (0 : Nat) ≤ 20 by omega)
  have HR0 := Aside0.mk hr0
  have HB := Aside0.mk (Below.refl w.heap.size w)
  clear hr0
  have hw1 : IntKind.u64.wrap 0 = 0 := by decide
  have hw2 : IntKind.i64.wrap 0 = 0 := by decide
  go_enter Try.func78, Try.ntmps78
  go_wp2_with (first | (go_at_call 83; (with_reducible refine (bits_Mul.calls 1 0 0 0 _ HM.out).mono ?_); rintro e w' ⟨rfl, ⟨nd, rfl⟩⟩) | ((with_reducible refine gate_dst (N := 30) rfl ?_); refine Kd.R_make (Kd.int .i64) _ 3 rfl (N := 30) rfl 23 _ _ rfl (0 : Int) rfl rfl Try.underlying23 (.int .i64 0) 8 info3 rfl (by decide) (by omega) 0 (ok := fun _ => True) (okp := fun _ => True) rfl (fun _ hk => hk) trivial (by omega) (by have := HN.out; omega) (Below.refl _ _) (Nat.le_refl _) ?_; intro v30 w4 ho hb hg_ hnew_; clear hg_ hnew_; have HO := Aside0.mk (Kd.R_lower ho (below_size (by repeat (first | (with_reducible first | exact HB.out | apply below_alloc | apply pw_below_drewN | apply below_drew1) | exact HB.out)))); have HB4 := Aside0.mk (below_step (by repeat (first | (with_reducible first | exact HB.out | apply below_alloc | apply pw_below_drewN | apply below_drew1) | exact HB.out)) hb); have HRS := Aside0.mk (Kd.C_below HR0.out HB4.out); (rw [show List.replicate (Int.toNat 0) (0 : Int) = [] from rfl] at HO); clear HB ho hb; have HB := HB4; clear HB4; obtain ⟨A30, c30, e30⟩ := Kd.R_slice HO.out; subst e30) | ((with_reducible refine gate_dst (N := 33) rfl ?_); refine wpList_copy_nothing rfl (.tmp 31) (.tmp 32) 23 23 rfl 3 Try.underlying23 (by kernel_rfl) A30 A0 0 c30 1 c0 rfl rfl rfl ?_))
  go_loopg [8] 1 (fun kq v8 w' => v8 = .int .i64 0 ∧ Aside0 (Below w4.heap.size w4 w'))
  case atStart => exact ⟨rfl, ⟨by repeat (first | (with_reducible exact Below.refl _ _) | apply pw_below_drewN | apply below_drew1)⟩⟩
  case round =>
    obtain ⟨rfl, HBL⟩ := hrel
    go_wp2
    go_ret
    exact ⟨_, rfl, Kd.R_below HO.out HBL.out, below_step HB.out HBL.out⟩
end Go.Proofs.Ytkkgnjdepgmjlaa.X

/- What the functions of the program come to, and that they do: written by this session's program wip/xprint.py out of the translation; parts named extern are typed by hand. -/
namespace Go.Proofs.Ytkkgnjdepgmjlaa.X
open Go.RowKit Go.Proofs.YtkkgnjdepgmjlaaW.PrintWords Go.Proofs.YtkkgnjdepgmjlaaW.PrintLast Go.Proofs.YtkkgnjdepgmjlaaW.PrintMore
attribute [local go_sem] max2_int min2_int max_two min_two max_three min_three max_four min_four   -- for this text's walks alone
set_option linter.unusedVariables false
set_option linter.unusedSimpArgs false

/-! ### slices_Index_int_int: function 79 -/
def slices_Index_int_int.l0 : Nat → List Int → Int → Int → Int → Option (Int)
  | 0, _, _, _, _ => none
  | k + 1, x0, x1, x7, x8 => if x8 < x7 then (if 0 ≤ x8 then (if x8 < (x0.length : Int) then (if x1 = (rd x0 x8) then (some x8) else (slices_Index_int_int.l0 k x0 x1 x7 (wrap64 (x8 + 1)))) else (none)) else (none)) else (some (-1))
def slices_Index_int_int.f (k : Nat) (l0 : List Int) (a1 : Int) : Option (Int) := slices_Index_int_int.l0 k l0 a1 (l0.length : Int) 0
set_option maxHeartbeats 8000000 in
set_option maxRecDepth 100000 in
theorem slices_Index_int_int.calls (k : Nat) (A0 : Option Addr) (c0 : Nat) (l0 : List Int) (a1 : Int) (r : Int) (w : World) (hr0 : Kd.C (Kd.int .i64) w A0 l0.length l0) (hc0 : l0.length ≤ c0) (h : slices_Index_int_int.f k l0 a1 = some r) :
    Calls Try.prog 79 #[.slice A0 l0.length c0, .int .i64 a1] w fun e w' => e = .returned (.int .i64 r) ∧ Drawn0 w w' := by
  have HR0 := Aside0.mk hr0
  have HC0 := Aside0.mk hc0
  clear hr0 hc0
  have H : (slices_Index_int_int.l0 k l0 a1 (l0.length : Int) 0) = some r := h
  clear h
  have H' := Aside0.mk H
  clear H
  go_enter Try.func79, Try.ntmps79
  go_wp2
  go_loopg [8] k (fun kq v8 w' => ∃ (x8_1 : Int), v8 = .int .i64 x8_1 ∧ Aside0 (slices_Index_int_int.l0 kq l0 a1 (l0.length : Int) x8_1 = some r) ∧ Aside0 (kq ≤ k) ∧ Drawn0 w w')
  case atStart => exact ⟨(0), (by first | rfl | (simp; done) | (simp [*]; done)), H', ⟨Nat.le_refl _⟩, by repeat (first | exact Drawn0.refl _ | apply Drawn0.step)⟩
  case round =>
    clear H'
    try clear p2
    obtain ⟨x8_1, rfl, HA, HK1, ⟨m1, rfl⟩⟩ := hrel
    cases gk with
    | zero => exact absurd HA.out (by simp [slices_Index_int_int.l0])
    | succ k1 =>
      have H := HA.out
      clear HA
      simp only [slices_Index_int_int.l0] at H
      by_cases c3 : x8_1 < (l0.length : Int)
      · rw [if_pos c3] at H
        have c3b0 : decide (x8_1 < (l0.length : Int)) = true := decide_eq_true c3
        clear c3
        by_cases c4 : 0 ≤ x8_1
        · rw [if_pos c4] at H
          have c4b0 : decide (0 ≤ x8_1) = true := decide_eq_true c4
          clear c4
          by_cases c5 : x8_1 < (l0.length : Int)
          · rw [if_pos c5] at H
            have c5b0 : decide (x8_1 < (l0.length : Int)) = true := decide_eq_true c5
            clear c5
            by_cases c6 : a1 = (rd l0 x8_1)
            · rw [if_pos c6] at H
              have c6b0 : (a1 == (rd l0 x8_1)) = true := beq_iff_eq.mpr c6
              have c6b1 : (a1 != (rd l0 x8_1)) = false := bne_eq_false_iff_eq.mpr c6
              clear c6
              obtain rfl := Option.some.inj H
              have p371 : 0 ≤ (x8_1 : Int) := of_decide_eq_true (by first | (with_reducible assumption) | assumption)
              have q371 : x8_1 < (l0.length : Int) := of_decide_eq_true (by first | (with_reducible assumption) | assumption)
              obtain ⟨ad371, e371, hx371_0⟩ := Kd.at_int HR0.out x8_1 p371 q371
              cases e371
              replace p371 := eq_true p371
              replace q371 := eq_true q371
              go_wp2
              go_ret
              exact ⟨by first | rfl | (simp; done) | (simp [*]; done), by repeat (first | exact Drawn0.refl _ | apply Drawn0.step)⟩
            · rw [if_neg c6] at H
              have c6b0 : (a1 == (rd l0 x8_1)) = false := beq_eq_false_iff_ne.mpr c6
              have c6b1 : (a1 != (rd l0 x8_1)) = true := bne_iff_ne.mpr c6
              have H' := Aside0.mk H
              clear H
              have p371 : 0 ≤ (x8_1 : Int) := of_decide_eq_true (by first | (with_reducible assumption) | assumption)
              have q371 : x8_1 < (l0.length : Int) := of_decide_eq_true (by first | (with_reducible assumption) | assumption)
              obtain ⟨ad371, e371, hx371_0⟩ := Kd.at_int HR0.out x8_1 p371 q371
              cases e371
              replace p371 := eq_true p371
              replace q371 := eq_true q371
              go_wp2
              go_roundg k1
              case measure => have := HK1.out; omega
              case rel => exact ⟨(wrap64 (x8_1 + 1)), (by first | rfl | (simp; done) | (simp [*]; done)), H', ⟨by have := HK1.out; omega⟩, by repeat (first | exact Drawn0.refl _ | apply Drawn0.step)⟩
          · rw [if_neg c5] at H
            exact absurd H (by simp)
        · rw [if_neg c4] at H
          exact absurd H (by simp)
      · rw [if_neg c3] at H
        have c3b0 : decide (x8_1 < (l0.length : Int)) = false := decide_eq_false c3
        clear c3
        obtain rfl := Option.some.inj H
        go_wp2
        go_ret
        exact ⟨by first | rfl | (simp; done) | (simp [*]; done), by repeat (first | exact Drawn0.refl _ | apply Drawn0.step)⟩

-- NOT PRINTED: function 59 (impl_startsBy)

-- NOT PRINTED: function 49 (impl_greatestBy)

end Go.Proofs.Ytkkgnjdepgmjlaa.X

/- What the functions of the program come to, and that they do: written by this session's program wip/xprint.py out of the translation; parts named extern are typed by hand. -/
namespace Go.Proofs.Ytkkgnjdepgmjlaa.X
open Go.RowKit Go.Proofs.YtkkgnjdepgmjlaaW.PrintWords Go.Proofs.YtkkgnjdepgmjlaaW.PrintLast Go.Proofs.YtkkgnjdepgmjlaaW.PrintMore
attribute [local go_sem] max2_int min2_int max_two min_two max_three min_three max_four min_four   -- for this text's walks alone
set_option linter.unusedVariables false
set_option linter.unusedSimpArgs false

/-! ### impl_AgedStarts: function 26 -/
/- EXTERN, by hand (wip/hand/startsby.py): the program's line of jobs, with its own row of starts; E: no block of a captured variable. -/
def IsM (w0 W : World) (E : Nat → Prop) (g : Nat) (jobs : List (S43)) (tick : Int) (starts : List Int) : Prop :=
  ∃ A0 c0, ∃ sv : Value, W.heap[g]? = some (.cells #[.slice A0 jobs.length c0, .int .i64 tick, sv] 71 (0, 0)) ∧ w0.heap.size ≤ g ∧ Kd.C k43 w0 A0 jobs.length jobs ∧ Kd.R (Kd.int .i64) 3 W w0.heap.size (fun k_ => k_ ≠ g ∧ E k_) sv starts
theorem IsM.below {w0 W : World} {E : Nat → Prop} {g : Nat} {jobs : List (S43)} {tick : Int} {starts : List Int} (h : IsM w0 W E g jobs tick starts) {w1 : World} (hb : Below W.heap.size W w1) : IsM w0 w1 E g jobs tick starts := by
  obtain ⟨A0, c0, sv, h1, h2, h3, h4⟩ := h
  exact ⟨A0, c0, sv, blk_below h1 hb, h2, h3, Kd.R_below h4 hb⟩
theorem IsM.drewN {w0 W : World} {E : Nat → Prop} {g : Nat} {jobs : List (S43)} {tick : Int} {starts : List Int} (h : IsM w0 W E g jobs tick starts) (m : Nat) : IsM w0 (W.drewN m) E g jobs tick starts := h
theorem IsM.drew {w0 W : World} {E : Nat → Prop} {g : Nat} {jobs : List (S43)} {tick : Int} {starts : List Int} (h : IsM w0 W E g jobs tick starts) : IsM w0 W.drew E g jobs tick starts := h
theorem IsM.lt {w0 W : World} {E : Nat → Prop} {g : Nat} {jobs : List (S43)} {tick : Int} {starts : List Int} (h : IsM w0 W E g jobs tick starts) : g < W.heap.size := by
  obtain ⟨A0, c0, sv, h1, _⟩ := h
  exact blk_lt h1
theorem IsM.ge {w0 W : World} {E : Nat → Prop} {g : Nat} {jobs : List (S43)} {tick : Int} {starts : List Int} (h : IsM w0 W E g jobs tick starts) : w0.heap.size ≤ g := by
  obtain ⟨A0, c0, sv, _, h2, _⟩ := h
  exact h2
theorem IsM.q {w0 W : World} {E : Nat → Prop} {g : Nat} {jobs : List (S43)} {tick : Int} {starts : List Int} (h : IsM w0 W E g jobs tick starts) (hb : Below w0.heap.size w0 W) : IsS71 W W g jobs tick starts := by
  obtain ⟨A0, c0, sv, h1, h2, h3, h4⟩ := h
  obtain ⟨A1, c1, e1⟩ := Kd.R_slice h4
  subst e1
  exact ⟨A0, c0, A1, c1, h1, trivial, Kd.C_below h3 hb, (Kd.R_reads' h4).2.2⟩
theorem IsM.set_1 {w0 W : World} {E : Nat → Prop} {g : Nat} {jobs : List (S43)} {tick : Int} {starts : List Int} (h : IsM w0 W E g jobs tick starts) (x : Int) : IsM w0 (W.setCell ⟨g, 1, none⟩ (.int .i64 x)) E g jobs x starts := by
  obtain ⟨A0, c0, sv, h1, h2, h3, h4⟩ := h
  exact ⟨A0, c0, sv, by simpa using blk_set h1 1 (.int .i64 x), h2, h3, Kd.R_far (p := ⟨g, 1, none⟩) h4 (fun _ hk => hk.1) _⟩
theorem IsM.row {w0 W : World} {E : Nat → Prop} {g : Nat} {jobs : List (S43)} {tick : Int} {starts : List Int} (h : IsM w0 W E g jobs tick starts) (hp : 0 < starts.length) :
    ∃ A0 c0 r c, W.heap[g]? = some (.cells #[.slice A0 jobs.length c0, .int .i64 tick, .slice (some ⟨r, 0, none⟩) starts.length c] 71 (0, 0)) ∧ Kd.C k43 w0 A0 jobs.length jobs ∧ w0.heap.size ≤ r ∧ r ≠ g ∧ E r ∧ Kd.C (Kd.int .i64) W (some ⟨r, 0, none⟩) starts.length starts ∧
      (∃ cells, W.heap[r]? = some (.cells cells 3 (0, 0))) ∧ ∀ (i : Nat) (x : Int), IsM w0 (W.setCell ⟨r, i, none⟩ (.int .i64 x)) E g jobs tick (starts.set i x) := by
  obtain ⟨A0, c0, sv, h1, h2, h3, h4⟩ := h
  obtain ⟨r, c, e, hb, hl, hce⟩ := Kd.R_form h4 hp
  subst e
  have hne := h4.1 r rfl
  refine ⟨A0, c0, r, c, h1, h3, hb, hne.1, hne.2, (Kd.R_reads' h4).2.2, hce, fun i x => ?_⟩
  have h5 := Kd.R_putn h4 (i : Int) x
  rw [Int.toNat_natCast] at h5
  exact ⟨A0, c0, .slice (some ⟨r, 0, none⟩) starts.length c, blk_far h1 (Ne.symm hne.1) _, h2, h3, h5⟩
theorem repeat_calls (A0 : Option Addr) (c0 : Nat) (v : Int) (n : Nat) (w : World) (hr0 : Kd.C (Kd.int .i64) w A0 1 [v]) (h20 : n ≤ 20) :
    Calls Try.prog 78 #[.slice A0 1 c0, .int .i64 (n : Int)] w fun e w' => ∃ v0_ : Value, e = .returned (v0_) ∧ Kd.R (Kd.int .i64) 3 w' w.heap.size (fun _ => True) v0_ (List.replicate n v) ∧ Below w.heap.size w w' := by
  rcases Nat.eq_zero_or_pos n with rfl | hp
  · exact repeat_none A0 c0 v w hr0
  · exact repeat_some A0 c0 v n w hr0 hp h20
theorem waiting_q (k g : Nat) (jobs : List (S43)) (tick : Int) (starts wl : List Int) (wt : Int) (w : World) (hI : IsS71 w w g jobs tick starts) (h : impl_line_waiting.f k jobs tick starts = some (wl, wt)) :
    Calls Try.prog 72 #[.pointer (some ⟨g, 0, none⟩)] w fun e w' => ∃ v0_ : Value, e = .returned (v0_) ∧ Kd.R (Kd.int .i64) 3 w' w.heap.size (fun _ => True) v0_ wl ∧ Below w.heap.size w w' :=
  (impl_line_waiting.calls k g jobs tick starts wl wt w w hI (Below.refl _ _) h).mono (by rintro e w' ⟨v, rfl, h1, _, h2, _⟩; exact ⟨v, rfl, h1, h2⟩)
theorem addM0 (r i : Nat) : (⟨r, 0, none⟩ : Addr).add i = ⟨r, i, none⟩ := by cases i <;> simp [Addr.add]
/-- Starts by a choice: what the choice tells of starts, tick and what it keeps (s); idle: what is kept where the line was free. -/
def startsByL {σ : Type} (jobs : List (S43)) (ch : Nat → List Int → Int → σ → Option (Int × σ)) (idle : σ → σ) : Nat → List Int → Int → σ → Option (List Int)
  | 0, _, _, _ => none
  | k + 1, starts, tick, s => (slices_Index_int_int.f k starts (-1)).bind fun nx => if nx < 0 then some starts else (impl_line_waiting.f k jobs tick starts).bind fun wt =>
      if 0 ≤ nx ∧ nx < (jobs.length : Int) then (let t1 := if (wt.1.length : Int) = 0 then (rd_T43 jobs nx).f0 else tick; let s1 := if (wt.1.length : Int) = 0 then idle s else s
        (ch k starts t1 s1).bind fun c => if 0 ≤ c.1 ∧ c.1 < (jobs.length : Int) then startsByL jobs ch idle k (starts.set c.1.toNat t1) (wrap64 (t1 + (rd_T43 jobs c.1).f2)) c.2 else none) else none
/-! ### startsBy_gr: startsBy, for one choice -/
/- EXTERN, by hand (wip/hand/greatest.py). -/
theorem ne_blk {W : World} {a b : Nat} {cs1 cs2 : Array Value} {t1 t2 : TypeId} {p1 p2 : Nat × Nat} (h1 : W.heap[a]? = some (.cells cs1 t1 p1)) (h2 : W.heap[b]? = some (.cells cs2 t2 p2)) (hne : t1 ≠ t2) : a ≠ b := by
  rintro rfl
  rw [h1] at h2
  cases h2
  exact hne rfl
end Go.Proofs.Ytkkgnjdepgmjlaa.X

/- What the functions of the program come to, and that they do: written by this session's program wip/xprint.py out of the translation; parts named extern are typed by hand. -/
namespace Go.Proofs.Ytkkgnjdepgmjlaa.X
open Go.RowKit Go.Proofs.YtkkgnjdepgmjlaaW.PrintWords Go.Proofs.YtkkgnjdepgmjlaaW.PrintLast Go.Proofs.YtkkgnjdepgmjlaaW.PrintMore
attribute [local go_sem] max2_int min2_int max_two min_two max_three min_three max_four min_four   -- for this text's walks alone
set_option linter.unusedVariables false
set_option linter.unusedSimpArgs false

/-! ### spec_prEight: function 53 -/
def spec_prEight.f (k : Nat) (l0 : List Int) (a1 : Int) : Option (Bool) := if (l0.length : Int) = 8 then ((spec_l1All.f k l0 1 a1).bind fun t485 => (some t485)) else (some false)
set_option maxHeartbeats 8000000 in
set_option maxRecDepth 100000 in
theorem spec_prEight.calls (k : Nat) (A0 : Option Addr) (c0 : Nat) (l0 : List Int) (a1 : Int) (r : Bool) (w : World) (hr0 : Kd.C (Kd.int .i64) w A0 l0.length l0) (hc0 : l0.length ≤ c0) (h : spec_prEight.f k l0 a1 = some r) :
    Calls Try.prog 53 #[.slice A0 l0.length c0, .int .i64 a1] w fun e w' => e = .returned (.bool r) ∧ Drawn0 w w' := by
  have HR0 := Aside0.mk hr0
  have HC0 := Aside0.mk hc0
  clear hr0 hc0
  have H : (if (l0.length : Int) = 8 then ((spec_l1All.f k l0 1 a1).bind fun t485 => (some t485)) else (some false)) = some r := h
  clear h
  by_cases c3 : (l0.length : Int) = 8
  · rw [if_pos c3] at H
    have c3b0 : ((l0.length : Int) == 8) = true := beq_iff_eq.mpr c3
    have c3b1 : ((l0.length : Int) != 8) = false := bne_eq_false_iff_eq.mpr c3
    clear c3
    replace H := Option.bind_eq_some_iff.mp H
    obtain ⟨t485, A40, H⟩ := H
    replace H : (some t485) = some r := H
    have A4 := Aside0.mk A40
    clear A40
    obtain rfl := Option.some.inj H
    go_enter Try.func53, Try.ntmps53
    go_wp2_with (first | (go_at_call 65; (with_reducible refine (spec_l1All.calls k _ _ l0 1 a1 t485 _ ?side1 ?side2 A4.out).mono ?_); (case side1 => repeat (first | exact HR0.out | (with_reducible refine Kd.C_alloc ?_ _) | (with_reducible refine Kd.C_drewN ?_ _) | (with_reducible refine Kd.C_drew ?_))); (case side2 => exact HC0.out); rintro e w' ⟨rfl, ⟨nd, rfl⟩⟩))
    go_ret
    exact ⟨by first | rfl | (simp; done) | (simp [*]; done), by repeat (first | exact Drawn0.refl _ | apply Drawn0.step)⟩
  · rw [if_neg c3] at H
    have c3b0 : ((l0.length : Int) == 8) = false := beq_eq_false_iff_ne.mpr c3
    have c3b1 : ((l0.length : Int) != 8) = true := bne_iff_ne.mpr c3
    obtain rfl := Option.some.inj H
    go_enter Try.func53, Try.ntmps53
    go_wp2
    go_ret
    exact ⟨by first | rfl | (simp; done) | (simp [*]; done), by repeat (first | exact Drawn0.refl _ | apply Drawn0.step)⟩

/-! ### spec_prLine_first: function 56 -/
def spec_prLine_first.l0 : Nat → Int → List (S43) → Int → Int → List (S43) → List Int → Int → Int → Option (Int × Int × Int)
  | 0, _, _, _, _, _, _, _, _ => none
  | k + 1, x1, x10, x11, x12, x1000, x1001, x1002, x1003 => if x12 < x11 then (if 0 ≤ x12 then (if x12 < (x10.length : Int) then ((spec_prLine_waits.f x1000 x1001 x1002 x1003 x12).bind fun bt488 => (if bt488.1 = true then (if ((rd_T43 x10 x12).f1) = x1 then (some (x12, bt488.2.1, bt488.2.2)) else (spec_prLine_first.l0 k x1 x10 x11 (wrap64 (x12 + 1)) x1000 x1001 bt488.2.1 bt488.2.2)) else (spec_prLine_first.l0 k x1 x10 x11 (wrap64 (x12 + 1)) x1000 x1001 bt488.2.1 bt488.2.2))) else (none)) else (none)) else (some ((-1), x1002, x1003))
def spec_prLine_first.f (k : Nat) (s0_0 : List (S43)) (s0_1 : List Int) (s0_2 : Int) (s0_3 : Int) (a1 : Int) : Option (Int × Int × Int) := spec_prLine_first.l0 k a1 s0_0 (s0_0.length : Int) 0 s0_0 s0_1 s0_2 s0_3
set_option maxHeartbeats 8000000 in
set_option maxRecDepth 100000 in
theorem spec_prLine_first.calls (k : Nat) (g : Nat) (s0_0 : List (S43)) (s0_1 : List Int) (s0_2 : Int) (s0_3 : Int) (a1 : Int) (r1 : Int) (r2 : Int) (r3 : Int) (w0 w : World) (hI : IsS57 w0 w g s0_0 s0_1 s0_2 s0_3) (hB : Below w0.heap.size w0 w) (h : spec_prLine_first.f k s0_0 s0_1 s0_2 s0_3 a1 = some (r1, r2, r3)) :
    Calls Try.prog 56 #[.pointer (some ⟨g, 0, none⟩), .int .i64 a1] w fun e w' => e = .returned (.int .i64 r1) ∧ IsS57 w0 w' g s0_0 s0_1 r2 r3 ∧ Below w0.heap.size w0 w' ∧ KeepBut w w' g none := by
  have hu43 := Try.underlying43
  have HI0 := Aside0.mk hI
  have HK := Aside0.mk (KeepBut.refl w g none)
  have HL := Aside0.mk hB.size
  clear hI
  have HW0 := Aside0.mk hB.size
  have HB := Aside0.mk hB
  clear hB
  have H : (spec_prLine_first.l0 k a1 s0_0 (s0_0.length : Int) 0 s0_0 s0_1 s0_2 s0_3) = some (r1, r2, r3) := h
  clear h
  have H' := Aside0.mk H
  clear H
  obtain ⟨ASz3_0, cSz3_0, ASz3_1, cSz3_1, HGz3, hgz3, HSz3_0, HSz3_1⟩ := HI0.out
  have hcz3_0 := cellS57_0 HGz3
  have hcz3_1 := cellS57_1 HGz3
  have hcz3_2 := cellS57_2 HGz3
  have hcz3_3 := cellS57_3 HGz3
  have hfz3_2 := blk_frozen HGz3 2
  have hfz3_3 := blk_frozen HGz3 3
  clear HGz3 hgz3
  go_enter Try.func56, Try.ntmps56
  go_wp2
  go_loopg [12] k (fun kq v12 w' => ∃ (x12_1 : Int) (x1002_1 : Int) (x1003_1 : Int), v12 = .int .i64 x12_1 ∧ Aside0 (spec_prLine_first.l0 kq a1 s0_0 (s0_0.length : Int) x12_1 s0_0 s0_1 x1002_1 x1003_1 = some (r1, r2, r3)) ∧ Aside0 (kq ≤ k) ∧ Aside0 (IsS57 w0 w' g s0_0 s0_1 x1002_1 x1003_1) ∧ Aside0 (KeepBut w w' g none) ∧ Aside0 (Below w0.heap.size w0 w'))
  case atStart => exact ⟨(0), (s0_2), (s0_3), (by first | rfl | (simp; done) | (simp [*]; done)), H', ⟨Nat.le_refl _⟩, ⟨by repeat (first | (with_reducible first | exact HI0.out | apply IsS57.alloc | apply IsS57.drewN | apply IsS57.drew | apply IsS57.set_2 | apply IsS57.set_3) | exact HI0.out)⟩, ⟨by repeat (first | (with_reducible first | exact HK.out | apply KeepBut.set_ | apply keep_drewN | apply keep_drew | apply keep_alloc) | exact HK.out)⟩, ⟨by repeat (first | (with_reducible first | exact HB.out | apply below_alloc | apply pw_below_drewN | apply below_drew1 | fail) | exact HB.out)⟩⟩
  case round =>
    clear H'
    try clear p2
    try clear hcz3_0
    try clear hcz3_1
    try clear hcz3_2
    try clear hcz3_3
    try clear hfz3_2
    try clear hfz3_3
    obtain ⟨x12_1, x1002_1, x1003_1, rfl, HA, HK1, HI0, HK, HB⟩ := hrel
    cases gk with
    | zero => exact absurd HA.out (by simp [spec_prLine_first.l0])
    | succ k1 =>
      have H := HA.out
      clear HA
      simp only [spec_prLine_first.l0] at H
      by_cases c4 : x12_1 < (s0_0.length : Int)
      · rw [if_pos c4] at H
        have c4b0 : decide (x12_1 < (s0_0.length : Int)) = true := decide_eq_true c4
        clear c4
        by_cases c5 : 0 ≤ x12_1
        · rw [if_pos c5] at H
          have c5b0 : decide (0 ≤ x12_1) = true := decide_eq_true c5
          clear c5
          by_cases c6 : x12_1 < (s0_0.length : Int)
          · rw [if_pos c6] at H
            have c6b0 : decide (x12_1 < (s0_0.length : Int)) = true := decide_eq_true c6
            clear c6
            replace H := Option.bind_eq_some_iff.mp H
            obtain ⟨⟨t488, t489, t490⟩, A70, H⟩ := H
            replace H : (if t488 = true then (if ((rd_T43 s0_0 x12_1).f1) = a1 then (some (x12_1, t489, t490)) else (spec_prLine_first.l0 k1 a1 s0_0 (s0_0.length : Int) (wrap64 (x12_1 + 1)) s0_0 s0_1 t489 t490)) else (spec_prLine_first.l0 k1 a1 s0_0 (s0_0.length : Int) (wrap64 (x12_1 + 1)) s0_0 s0_1 t489 t490)) = some (r1, r2, r3) := H
            have A7 := Aside0.mk A70
            clear A70
            by_cases c8 : t488 = true
            · subst c8
              have H1 : (if ((rd_T43 s0_0 x12_1).f1) = a1 then (some (x12_1, t489, t490)) else (spec_prLine_first.l0 k1 a1 s0_0 (s0_0.length : Int) (wrap64 (x12_1 + 1)) s0_0 s0_1 t489 t490)) = some (r1, r2, r3) := by rw [if_pos rfl] at H; exact H
              clear H
              have H := H1
              clear H1
              by_cases c9 : ((rd_T43 s0_0 x12_1).f1) = a1
              · rw [if_pos c9] at H
                have c9b0 : (((rd_T43 s0_0 x12_1).f1) == a1) = true := beq_iff_eq.mpr c9
                have c9b1 : (((rd_T43 s0_0 x12_1).f1) != a1) = false := bne_eq_false_iff_eq.mpr c9
                clear c9
                simp only [Option.some.injEq, Prod.mk.injEq] at H
                obtain ⟨rfl, rfl, rfl⟩ := H
                obtain ⟨ASz10_0, cSz10_0, ASz10_1, cSz10_1, HGz10, hgz10, HSz10_0, HSz10_1⟩ := HI0.out
                have hcz10_0 := cellS57_0 HGz10
                have hcz10_1 := cellS57_1 HGz10
                have hcz10_2 := cellS57_2 HGz10
                have hcz10_3 := cellS57_3 HGz10
                have hfz10_2 := blk_frozen HGz10 2
                have hfz10_3 := blk_frozen HGz10 3
                clear HGz10 hgz10
                have p486 : 0 ≤ (x12_1 : Int) := of_decide_eq_true (by first | (with_reducible assumption) | assumption)
                have q486 : x12_1 < (s0_0.length : Int) := of_decide_eq_true (by first | (with_reducible assumption) | assumption)
                obtain ⟨ad486, e486, hx486_0, hx486_1, hx486_2⟩ := at_T43 HSz3_0 x12_1 p486 q486
                cases e486
                replace hx486_0 := pw_cell_below HB.out hx486_0
                replace hx486_1 := pw_cell_below HB.out hx486_1
                replace hx486_2 := pw_cell_below HB.out hx486_2
                replace p486 := eq_true p486
                replace q486 := eq_true q486
                go_wp2_with (first | ((with_reducible refine gate_dst (N := 6) rfl ?_); refine box_event ?hg (N := 6) ?hd (cs := #[.int .i64 0, .int .i64 0, .int .i64 0]) (t := 43) ?hr ?_; (case hd => rfl); (case hg => rfl); (case hr => first | (go_simp; done) | (go_simp; rfl)); intro gb487 hg w11 hbox hb; have n0_ := Aside0.mk (IsS57.below (by repeat (first | (with_reducible first | exact HI0.out | apply IsS57.alloc | apply IsS57.drewN | apply IsS57.drew | apply IsS57.set_2 | apply IsS57.set_3) | exact HI0.out)) hb); have n1_ := Aside0.mk (KeepBut.trans (by repeat (first | (with_reducible first | exact HK.out | apply KeepBut.set_ | apply keep_drewN | apply keep_drew | apply keep_alloc) | exact HK.out)) (KeepBut.of_below hb g none) (.inl rfl)); have n2_ := Aside0.mk (below_step (by repeat (first | (with_reducible first | exact HB.out | apply below_alloc | apply pw_below_drewN | apply below_drew1 | fail) | exact HB.out)) hb); have n3_ := Aside0.mk (hbox); have n4_ := Aside0.mk ((by rw [hg]; exact (keep_size (w := w) (g := g) (row := none) (by repeat (first | (with_reducible first | exact HK.out | apply KeepBut.set_ | apply keep_drewN | apply keep_drew | apply keep_alloc) | exact HK.out))) : w.heap.size ≤ gb487)); have n5_ := Aside0.mk ((Nat.le_trans HW0.out (by rw [hg]; exact (keep_size (w := w) (g := g) (row := none) (by repeat (first | (with_reducible first | exact HK.out | apply KeepBut.set_ | apply keep_drewN | apply keep_drew | apply keep_alloc) | exact HK.out))) : w.heap.size ≤ gb487) : w0.heap.size ≤ gb487)); have n6_ := Aside0.mk ((by rw [hg]; exact Nat.ne_of_lt (IsS57.lt (show IsS57 w0 _ g s0_0 s0_1 x1002_1 x1003_1 from by repeat (first | (with_reducible first | exact HI0.out | apply IsS57.alloc | apply IsS57.drewN | apply IsS57.drew | apply IsS57.set_2 | apply IsS57.set_3) | exact HI0.out))) : g ≠ gb487)); have n7_ := Aside0.mk ((by rw [hg]; exact Nat.ne_of_gt (IsS57.lt (show IsS57 w0 _ g s0_0 s0_1 x1002_1 x1003_1 from by repeat (first | (with_reducible first | exact HI0.out | apply IsS57.alloc | apply IsS57.drewN | apply IsS57.drew | apply IsS57.set_2 | apply IsS57.set_3) | exact HI0.out))) : gb487 ≠ g)); clear HI0; clear HK; clear HB; have HI0 := n0_; have HK := n1_; have HB := n2_; have BK487 := n3_; have GW487 := n4_; have GE487 := n5_; have NB0_487 := n6_; have NB487_0 := n7_; clear n0_ n1_ n2_ n3_ n4_ n5_ n6_ n7_; clear hb hbox hg; have hnb12 := NB487_0.out; have hnc12 := NB0_487.out; have hcz13_0 : w11.cell? ⟨gb487, 0, none⟩ = some (.int .i64 0) := (blk_cell BK487.out 0).trans rfl; have hcz13_1 : w11.cell? ⟨gb487, 1, none⟩ = some (.int .i64 0) := (blk_cell BK487.out 1).trans rfl; have hcz13_2 : w11.cell? ⟨gb487, 2, none⟩ = some (.int .i64 0) := (blk_cell BK487.out 2).trans rfl; have hfz13_0 := blk_frozen BK487.out 0; have hfz13_1 := blk_frozen BK487.out 1; have hfz13_2 := blk_frozen BK487.out 2) | ((with_reducible refine gate_callee (f := 69) rfl ?_); refine goesL_ (some 19) rfl rfl Try.func69 (by kernel_rfl) rfl #[.pointer (some ⟨g, 0, none⟩), .int .i64 x12_1] rfl (by (try simp only [List.map_toArray, List.map_cons, List.map_nil]); first | done | rfl | (simp only [List.length_drop, List.length_take]; rfl)) ?_; (with_reducible refine (spec_prLine_waits.calls g s0_0 s0_1 x1002_1 x1003_1 x12_1 true t489 t490 w0 _ ?side1 ?side2 A7.out).mono ?_); (case side1 => repeat (first | (with_reducible first | exact HI0.out | apply IsS57.alloc | apply IsS57.drewN | apply IsS57.drew | apply IsS57.set_2 | apply IsS57.set_3 | refine IsS57.far ?_ NB0_487.out _) | exact HI0.out)); (case side2 => repeat (first | (with_reducible first | exact HB.out | apply below_alloc | apply pw_below_drewN | apply below_drew1 | fail | refine below_set ?_ GE487.out) | exact HB.out)); rintro e w14 ⟨rfl, hi, hb, hk⟩; refine ⟨_, rfl, ?_⟩; have n0_ := Aside0.mk (KeepBut.blk hk (g' := gb487) (o := .cells #[.int .i64 ((rd_T43 s0_0 x12_1).f0), .int .i64 ((rd_T43 s0_0 x12_1).f1), .int .i64 ((rd_T43 s0_0 x12_1).f2)] 43 (0, 0)) (by (with_reducible repeat (first | refine blk_drewN ?_ _ | refine blk_drew ?_ | refine blk_alloc ?_ _)); refine blk_put (cs := #[.int .i64 ((rd_T43 s0_0 x12_1).f0), .int .i64 ((rd_T43 s0_0 x12_1).f1), .int .i64 0]) ?_ 2 _ rfl; (with_reducible repeat (first | refine blk_drewN ?_ _ | refine blk_drew ?_ | refine blk_alloc ?_ _)); refine blk_put (cs := #[.int .i64 ((rd_T43 s0_0 x12_1).f0), .int .i64 0, .int .i64 0]) ?_ 1 _ rfl; (with_reducible repeat (first | refine blk_drewN ?_ _ | refine blk_drew ?_ | refine blk_alloc ?_ _)); refine blk_put (cs := #[.int .i64 0, .int .i64 0, .int .i64 0]) ?_ 0 _ rfl; (with_reducible repeat (first | refine blk_drewN ?_ _ | refine blk_drew ?_ | refine blk_alloc ?_ _)); exact BK487.out) NB487_0.out (by simp)); have n1_ := Aside0.mk (KeepBut.trans (by repeat (first | (with_reducible first | exact HK.out | apply KeepBut.set_ | apply keep_drewN | apply keep_drew | apply keep_alloc | refine keep_far ?_ GW487.out _) | exact HK.out)) hk (.inl rfl)); have n2_ := Aside0.mk (hb); have n3_ := Aside0.mk (hi); clear BK487; clear HK; clear HB; clear HI0; have BK487 := n0_; have HK := n1_; have HB := n2_; have HI0 := n3_; clear n0_ n1_ n2_ n3_; (try clear hb); (try clear hb2); (try clear hk); (try clear hi); have hcz15_0 : w14.cell? ⟨gb487, 0, none⟩ = some (.int .i64 ((rd_T43 s0_0 x12_1).f0)) := (blk_cell BK487.out 0).trans rfl; have hcz15_1 : w14.cell? ⟨gb487, 1, none⟩ = some (.int .i64 ((rd_T43 s0_0 x12_1).f1)) := (blk_cell BK487.out 1).trans rfl; have hcz15_2 : w14.cell? ⟨gb487, 2, none⟩ = some (.int .i64 ((rd_T43 s0_0 x12_1).f2)) := (blk_cell BK487.out 2).trans rfl; have hfz15_0 := blk_frozen BK487.out 0; have hfz15_1 := blk_frozen BK487.out 1; have hfz15_2 := blk_frozen BK487.out 2))
                go_ret
                exact ⟨by first | rfl | (simp [errW_none, errW_some] <;> rfl) | (simp [*, errW_none, errW_some] <;> rfl), by repeat (first | (with_reducible first | exact HI0.out | apply IsS57.alloc | apply IsS57.drewN | apply IsS57.drew | apply IsS57.set_2 | apply IsS57.set_3 | refine IsS57.far ?_ NB0_487.out _) | exact HI0.out), by repeat (first | (with_reducible first | exact HB.out | apply below_alloc | apply pw_below_drewN | apply below_drew1 | fail | refine below_set ?_ GE487.out) | exact HB.out), by repeat (first | (with_reducible first | exact HK.out | apply KeepBut.set_ | apply keep_drewN | apply keep_drew | apply keep_alloc | refine keep_far ?_ GW487.out _) | exact HK.out)⟩
              · rw [if_neg c9] at H
                have c9b0 : (((rd_T43 s0_0 x12_1).f1) == a1) = false := beq_eq_false_iff_ne.mpr c9
                have c9b1 : (((rd_T43 s0_0 x12_1).f1) != a1) = true := bne_iff_ne.mpr c9
                have H' := Aside0.mk H
                clear H
                obtain ⟨ASz16_0, cSz16_0, ASz16_1, cSz16_1, HGz16, hgz16, HSz16_0, HSz16_1⟩ := HI0.out
                have hcz16_0 := cellS57_0 HGz16
                have hcz16_1 := cellS57_1 HGz16
                have hcz16_2 := cellS57_2 HGz16
                have hcz16_3 := cellS57_3 HGz16
                have hfz16_2 := blk_frozen HGz16 2
                have hfz16_3 := blk_frozen HGz16 3
                clear HGz16 hgz16
                have p486 : 0 ≤ (x12_1 : Int) := of_decide_eq_true (by first | (with_reducible assumption) | assumption)
                have q486 : x12_1 < (s0_0.length : Int) := of_decide_eq_true (by first | (with_reducible assumption) | assumption)
                obtain ⟨ad486, e486, hx486_0, hx486_1, hx486_2⟩ := at_T43 HSz3_0 x12_1 p486 q486
                cases e486
                replace hx486_0 := pw_cell_below HB.out hx486_0
                replace hx486_1 := pw_cell_below HB.out hx486_1
                replace hx486_2 := pw_cell_below HB.out hx486_2
                replace p486 := eq_true p486
                replace q486 := eq_true q486
                go_wp2_with (first | ((with_reducible refine gate_dst (N := 6) rfl ?_); refine box_event ?hg (N := 6) ?hd (cs := #[.int .i64 0, .int .i64 0, .int .i64 0]) (t := 43) ?hr ?_; (case hd => rfl); (case hg => rfl); (case hr => first | (go_simp; done) | (go_simp; rfl)); intro gb487 hg w17 hbox hb; have n0_ := Aside0.mk (IsS57.below (by repeat (first | (with_reducible first | exact HI0.out | apply IsS57.alloc | apply IsS57.drewN | apply IsS57.drew | apply IsS57.set_2 | apply IsS57.set_3) | exact HI0.out)) hb); have n1_ := Aside0.mk (KeepBut.trans (by repeat (first | (with_reducible first | exact HK.out | apply KeepBut.set_ | apply keep_drewN | apply keep_drew | apply keep_alloc) | exact HK.out)) (KeepBut.of_below hb g none) (.inl rfl)); have n2_ := Aside0.mk (below_step (by repeat (first | (with_reducible first | exact HB.out | apply below_alloc | apply pw_below_drewN | apply below_drew1 | fail) | exact HB.out)) hb); have n3_ := Aside0.mk (hbox); have n4_ := Aside0.mk ((by rw [hg]; exact (keep_size (w := w) (g := g) (row := none) (by repeat (first | (with_reducible first | exact HK.out | apply KeepBut.set_ | apply keep_drewN | apply keep_drew | apply keep_alloc) | exact HK.out))) : w.heap.size ≤ gb487)); have n5_ := Aside0.mk ((Nat.le_trans HW0.out (by rw [hg]; exact (keep_size (w := w) (g := g) (row := none) (by repeat (first | (with_reducible first | exact HK.out | apply KeepBut.set_ | apply keep_drewN | apply keep_drew | apply keep_alloc) | exact HK.out))) : w.heap.size ≤ gb487) : w0.heap.size ≤ gb487)); have n6_ := Aside0.mk ((by rw [hg]; exact Nat.ne_of_lt (IsS57.lt (show IsS57 w0 _ g s0_0 s0_1 x1002_1 x1003_1 from by repeat (first | (with_reducible first | exact HI0.out | apply IsS57.alloc | apply IsS57.drewN | apply IsS57.drew | apply IsS57.set_2 | apply IsS57.set_3) | exact HI0.out))) : g ≠ gb487)); have n7_ := Aside0.mk ((by rw [hg]; exact Nat.ne_of_gt (IsS57.lt (show IsS57 w0 _ g s0_0 s0_1 x1002_1 x1003_1 from by repeat (first | (with_reducible first | exact HI0.out | apply IsS57.alloc | apply IsS57.drewN | apply IsS57.drew | apply IsS57.set_2 | apply IsS57.set_3) | exact HI0.out))) : gb487 ≠ g)); clear HI0; clear HK; clear HB; have HI0 := n0_; have HK := n1_; have HB := n2_; have BK487 := n3_; have GW487 := n4_; have GE487 := n5_; have NB0_487 := n6_; have NB487_0 := n7_; clear n0_ n1_ n2_ n3_ n4_ n5_ n6_ n7_; clear hb hbox hg; have hnb18 := NB487_0.out; have hnc18 := NB0_487.out; have hcz19_0 : w17.cell? ⟨gb487, 0, none⟩ = some (.int .i64 0) := (blk_cell BK487.out 0).trans rfl; have hcz19_1 : w17.cell? ⟨gb487, 1, none⟩ = some (.int .i64 0) := (blk_cell BK487.out 1).trans rfl; have hcz19_2 : w17.cell? ⟨gb487, 2, none⟩ = some (.int .i64 0) := (blk_cell BK487.out 2).trans rfl; have hfz19_0 := blk_frozen BK487.out 0; have hfz19_1 := blk_frozen BK487.out 1; have hfz19_2 := blk_frozen BK487.out 2) | ((with_reducible refine gate_callee (f := 69) rfl ?_); refine goesL_ (some 19) rfl rfl Try.func69 (by kernel_rfl) rfl #[.pointer (some ⟨g, 0, none⟩), .int .i64 x12_1] rfl (by (try simp only [List.map_toArray, List.map_cons, List.map_nil]); first | done | rfl | (simp only [List.length_drop, List.length_take]; rfl)) ?_; (with_reducible refine (spec_prLine_waits.calls g s0_0 s0_1 x1002_1 x1003_1 x12_1 true t489 t490 w0 _ ?side1 ?side2 A7.out).mono ?_); (case side1 => repeat (first | (with_reducible first | exact HI0.out | apply IsS57.alloc | apply IsS57.drewN | apply IsS57.drew | apply IsS57.set_2 | apply IsS57.set_3 | refine IsS57.far ?_ NB0_487.out _) | exact HI0.out)); (case side2 => repeat (first | (with_reducible first | exact HB.out | apply below_alloc | apply pw_below_drewN | apply below_drew1 | fail | refine below_set ?_ GE487.out) | exact HB.out)); rintro e w20 ⟨rfl, hi, hb, hk⟩; refine ⟨_, rfl, ?_⟩; have n0_ := Aside0.mk (KeepBut.blk hk (g' := gb487) (o := .cells #[.int .i64 ((rd_T43 s0_0 x12_1).f0), .int .i64 ((rd_T43 s0_0 x12_1).f1), .int .i64 ((rd_T43 s0_0 x12_1).f2)] 43 (0, 0)) (by (with_reducible repeat (first | refine blk_drewN ?_ _ | refine blk_drew ?_ | refine blk_alloc ?_ _)); refine blk_put (cs := #[.int .i64 ((rd_T43 s0_0 x12_1).f0), .int .i64 ((rd_T43 s0_0 x12_1).f1), .int .i64 0]) ?_ 2 _ rfl; (with_reducible repeat (first | refine blk_drewN ?_ _ | refine blk_drew ?_ | refine blk_alloc ?_ _)); refine blk_put (cs := #[.int .i64 ((rd_T43 s0_0 x12_1).f0), .int .i64 0, .int .i64 0]) ?_ 1 _ rfl; (with_reducible repeat (first | refine blk_drewN ?_ _ | refine blk_drew ?_ | refine blk_alloc ?_ _)); refine blk_put (cs := #[.int .i64 0, .int .i64 0, .int .i64 0]) ?_ 0 _ rfl; (with_reducible repeat (first | refine blk_drewN ?_ _ | refine blk_drew ?_ | refine blk_alloc ?_ _)); exact BK487.out) NB487_0.out (by simp)); have n1_ := Aside0.mk (KeepBut.trans (by repeat (first | (with_reducible first | exact HK.out | apply KeepBut.set_ | apply keep_drewN | apply keep_drew | apply keep_alloc | refine keep_far ?_ GW487.out _) | exact HK.out)) hk (.inl rfl)); have n2_ := Aside0.mk (hb); have n3_ := Aside0.mk (hi); clear BK487; clear HK; clear HB; clear HI0; have BK487 := n0_; have HK := n1_; have HB := n2_; have HI0 := n3_; clear n0_ n1_ n2_ n3_; (try clear hb); (try clear hb2); (try clear hk); (try clear hi); have hcz21_0 : w20.cell? ⟨gb487, 0, none⟩ = some (.int .i64 ((rd_T43 s0_0 x12_1).f0)) := (blk_cell BK487.out 0).trans rfl; have hcz21_1 : w20.cell? ⟨gb487, 1, none⟩ = some (.int .i64 ((rd_T43 s0_0 x12_1).f1)) := (blk_cell BK487.out 1).trans rfl; have hcz21_2 : w20.cell? ⟨gb487, 2, none⟩ = some (.int .i64 ((rd_T43 s0_0 x12_1).f2)) := (blk_cell BK487.out 2).trans rfl; have hfz21_0 := blk_frozen BK487.out 0; have hfz21_1 := blk_frozen BK487.out 1; have hfz21_2 := blk_frozen BK487.out 2))
                go_roundg k1
                case measure => have := HK1.out; omega
                case rel => exact ⟨(wrap64 (x12_1 + 1)), (t489), (t490), (by first | rfl | (simp; done) | (simp [*]; done)), H', ⟨by have := HK1.out; omega⟩, ⟨by repeat (first | (with_reducible first | exact HI0.out | apply IsS57.alloc | apply IsS57.drewN | apply IsS57.drew | apply IsS57.set_2 | apply IsS57.set_3 | refine IsS57.far ?_ NB0_487.out _) | exact HI0.out)⟩, ⟨by repeat (first | (with_reducible first | exact HK.out | apply KeepBut.set_ | apply keep_drewN | apply keep_drew | apply keep_alloc | refine keep_far ?_ GW487.out _) | exact HK.out)⟩, ⟨by repeat (first | (with_reducible first | exact HB.out | apply below_alloc | apply pw_below_drewN | apply below_drew1 | fail | refine below_set ?_ GE487.out) | exact HB.out)⟩⟩
            · replace c8 := Bool.eq_false_iff.mpr c8
              subst c8
              have H1 : (spec_prLine_first.l0 k1 a1 s0_0 (s0_0.length : Int) (wrap64 (x12_1 + 1)) s0_0 s0_1 t489 t490) = some (r1, r2, r3) := by rw [if_neg (show ¬ (false = true) by decide)] at H; exact H
              clear H
              have H := H1
              clear H1
              have H' := Aside0.mk H
              clear H
              obtain ⟨ASz22_0, cSz22_0, ASz22_1, cSz22_1, HGz22, hgz22, HSz22_0, HSz22_1⟩ := HI0.out
              have hcz22_0 := cellS57_0 HGz22
              have hcz22_1 := cellS57_1 HGz22
              have hcz22_2 := cellS57_2 HGz22
              have hcz22_3 := cellS57_3 HGz22
              have hfz22_2 := blk_frozen HGz22 2
              have hfz22_3 := blk_frozen HGz22 3
              clear HGz22 hgz22
              have p486 : 0 ≤ (x12_1 : Int) := of_decide_eq_true (by first | (with_reducible assumption) | assumption)
              have q486 : x12_1 < (s0_0.length : Int) := of_decide_eq_true (by first | (with_reducible assumption) | assumption)
              obtain ⟨ad486, e486, hx486_0, hx486_1, hx486_2⟩ := at_T43 HSz3_0 x12_1 p486 q486
              cases e486
              replace hx486_0 := pw_cell_below HB.out hx486_0
              replace hx486_1 := pw_cell_below HB.out hx486_1
              replace hx486_2 := pw_cell_below HB.out hx486_2
              replace p486 := eq_true p486
              replace q486 := eq_true q486
              go_wp2_with (first | ((with_reducible refine gate_dst (N := 6) rfl ?_); refine box_event ?hg (N := 6) ?hd (cs := #[.int .i64 0, .int .i64 0, .int .i64 0]) (t := 43) ?hr ?_; (case hd => rfl); (case hg => rfl); (case hr => first | (go_simp; done) | (go_simp; rfl)); intro gb487 hg w23 hbox hb; have n0_ := Aside0.mk (IsS57.below (by repeat (first | (with_reducible first | exact HI0.out | apply IsS57.alloc | apply IsS57.drewN | apply IsS57.drew | apply IsS57.set_2 | apply IsS57.set_3) | exact HI0.out)) hb); have n1_ := Aside0.mk (KeepBut.trans (by repeat (first | (with_reducible first | exact HK.out | apply KeepBut.set_ | apply keep_drewN | apply keep_drew | apply keep_alloc) | exact HK.out)) (KeepBut.of_below hb g none) (.inl rfl)); have n2_ := Aside0.mk (below_step (by repeat (first | (with_reducible first | exact HB.out | apply below_alloc | apply pw_below_drewN | apply below_drew1 | fail) | exact HB.out)) hb); have n3_ := Aside0.mk (hbox); have n4_ := Aside0.mk ((by rw [hg]; exact (keep_size (w := w) (g := g) (row := none) (by repeat (first | (with_reducible first | exact HK.out | apply KeepBut.set_ | apply keep_drewN | apply keep_drew | apply keep_alloc) | exact HK.out))) : w.heap.size ≤ gb487)); have n5_ := Aside0.mk ((Nat.le_trans HW0.out (by rw [hg]; exact (keep_size (w := w) (g := g) (row := none) (by repeat (first | (with_reducible first | exact HK.out | apply KeepBut.set_ | apply keep_drewN | apply keep_drew | apply keep_alloc) | exact HK.out))) : w.heap.size ≤ gb487) : w0.heap.size ≤ gb487)); have n6_ := Aside0.mk ((by rw [hg]; exact Nat.ne_of_lt (IsS57.lt (show IsS57 w0 _ g s0_0 s0_1 x1002_1 x1003_1 from by repeat (first | (with_reducible first | exact HI0.out | apply IsS57.alloc | apply IsS57.drewN | apply IsS57.drew | apply IsS57.set_2 | apply IsS57.set_3) | exact HI0.out))) : g ≠ gb487)); have n7_ := Aside0.mk ((by rw [hg]; exact Nat.ne_of_gt (IsS57.lt (show IsS57 w0 _ g s0_0 s0_1 x1002_1 x1003_1 from by repeat (first | (with_reducible first | exact HI0.out | apply IsS57.alloc | apply IsS57.drewN | apply IsS57.drew | apply IsS57.set_2 | apply IsS57.set_3) | exact HI0.out))) : gb487 ≠ g)); clear HI0; clear HK; clear HB; have HI0 := n0_; have HK := n1_; have HB := n2_; have BK487 := n3_; have GW487 := n4_; have GE487 := n5_; have NB0_487 := n6_; have NB487_0 := n7_; clear n0_ n1_ n2_ n3_ n4_ n5_ n6_ n7_; clear hb hbox hg; have hnb24 := NB487_0.out; have hnc24 := NB0_487.out; have hcz25_0 : w23.cell? ⟨gb487, 0, none⟩ = some (.int .i64 0) := (blk_cell BK487.out 0).trans rfl; have hcz25_1 : w23.cell? ⟨gb487, 1, none⟩ = some (.int .i64 0) := (blk_cell BK487.out 1).trans rfl; have hcz25_2 : w23.cell? ⟨gb487, 2, none⟩ = some (.int .i64 0) := (blk_cell BK487.out 2).trans rfl; have hfz25_0 := blk_frozen BK487.out 0; have hfz25_1 := blk_frozen BK487.out 1; have hfz25_2 := blk_frozen BK487.out 2) | ((with_reducible refine gate_callee (f := 69) rfl ?_); refine goesL_ (some 19) rfl rfl Try.func69 (by kernel_rfl) rfl #[.pointer (some ⟨g, 0, none⟩), .int .i64 x12_1] rfl (by (try simp only [List.map_toArray, List.map_cons, List.map_nil]); first | done | rfl | (simp only [List.length_drop, List.length_take]; rfl)) ?_; (with_reducible refine (spec_prLine_waits.calls g s0_0 s0_1 x1002_1 x1003_1 x12_1 false t489 t490 w0 _ ?side1 ?side2 A7.out).mono ?_); (case side1 => repeat (first | (with_reducible first | exact HI0.out | apply IsS57.alloc | apply IsS57.drewN | apply IsS57.drew | apply IsS57.set_2 | apply IsS57.set_3 | refine IsS57.far ?_ NB0_487.out _) | exact HI0.out)); (case side2 => repeat (first | (with_reducible first | exact HB.out | apply below_alloc | apply pw_below_drewN | apply below_drew1 | fail | refine below_set ?_ GE487.out) | exact HB.out)); rintro e w26 ⟨rfl, hi, hb, hk⟩; refine ⟨_, rfl, ?_⟩; have n0_ := Aside0.mk (KeepBut.blk hk (g' := gb487) (o := .cells #[.int .i64 ((rd_T43 s0_0 x12_1).f0), .int .i64 ((rd_T43 s0_0 x12_1).f1), .int .i64 ((rd_T43 s0_0 x12_1).f2)] 43 (0, 0)) (by (with_reducible repeat (first | refine blk_drewN ?_ _ | refine blk_drew ?_ | refine blk_alloc ?_ _)); refine blk_put (cs := #[.int .i64 ((rd_T43 s0_0 x12_1).f0), .int .i64 ((rd_T43 s0_0 x12_1).f1), .int .i64 0]) ?_ 2 _ rfl; (with_reducible repeat (first | refine blk_drewN ?_ _ | refine blk_drew ?_ | refine blk_alloc ?_ _)); refine blk_put (cs := #[.int .i64 ((rd_T43 s0_0 x12_1).f0), .int .i64 0, .int .i64 0]) ?_ 1 _ rfl; (with_reducible repeat (first | refine blk_drewN ?_ _ | refine blk_drew ?_ | refine blk_alloc ?_ _)); refine blk_put (cs := #[.int .i64 0, .int .i64 0, .int .i64 0]) ?_ 0 _ rfl; (with_reducible repeat (first | refine blk_drewN ?_ _ | refine blk_drew ?_ | refine blk_alloc ?_ _)); exact BK487.out) NB487_0.out (by simp)); have n1_ := Aside0.mk (KeepBut.trans (by repeat (first | (with_reducible first | exact HK.out | apply KeepBut.set_ | apply keep_drewN | apply keep_drew | apply keep_alloc | refine keep_far ?_ GW487.out _) | exact HK.out)) hk (.inl rfl)); have n2_ := Aside0.mk (hb); have n3_ := Aside0.mk (hi); clear BK487; clear HK; clear HB; clear HI0; have BK487 := n0_; have HK := n1_; have HB := n2_; have HI0 := n3_; clear n0_ n1_ n2_ n3_; (try clear hb); (try clear hb2); (try clear hk); (try clear hi)))
              go_roundg k1
              case measure => have := HK1.out; omega
              case rel => exact ⟨(wrap64 (x12_1 + 1)), (t489), (t490), (by first | rfl | (simp; done) | (simp [*]; done)), H', ⟨by have := HK1.out; omega⟩, ⟨by repeat (first | (with_reducible first | exact HI0.out | apply IsS57.alloc | apply IsS57.drewN | apply IsS57.drew | apply IsS57.set_2 | apply IsS57.set_3 | refine IsS57.far ?_ NB0_487.out _) | exact HI0.out)⟩, ⟨by repeat (first | (with_reducible first | exact HK.out | apply KeepBut.set_ | apply keep_drewN | apply keep_drew | apply keep_alloc | refine keep_far ?_ GW487.out _) | exact HK.out)⟩, ⟨by repeat (first | (with_reducible first | exact HB.out | apply below_alloc | apply pw_below_drewN | apply below_drew1 | fail | refine below_set ?_ GE487.out) | exact HB.out)⟩⟩
          · rw [if_neg c6] at H
            exact absurd H (by simp)
        · rw [if_neg c5] at H
          exact absurd H (by simp)
      · rw [if_neg c4] at H
        have c4b0 : decide (x12_1 < (s0_0.length : Int)) = false := decide_eq_false c4
        clear c4
        simp only [Option.some.injEq, Prod.mk.injEq] at H
        obtain ⟨rfl, rfl, rfl⟩ := H
        go_wp2
        go_ret
        exact ⟨by first | rfl | (simp [errW_none, errW_some] <;> rfl) | (simp [*, errW_none, errW_some] <;> rfl), by repeat (first | (with_reducible first | exact HI0.out | apply IsS57.alloc | apply IsS57.drewN | apply IsS57.drew | apply IsS57.set_2 | apply IsS57.set_3) | exact HI0.out), by repeat (first | (with_reducible first | exact HB.out | apply below_alloc | apply pw_below_drewN | apply below_drew1 | fail) | exact HB.out), by repeat (first | (with_reducible first | exact HK.out | apply KeepBut.set_ | apply keep_drewN | apply keep_drew | apply keep_alloc) | exact HK.out)⟩

end Go.Proofs.Ytkkgnjdepgmjlaa.X

/- What the functions of the program come to, and that they do: written by this session's program wip/xprint.py out of the translation; parts named extern are typed by hand. -/
namespace Go.Proofs.Ytkkgnjdepgmjlaa.X
open Go.RowKit Go.Proofs.YtkkgnjdepgmjlaaW.PrintWords Go.Proofs.YtkkgnjdepgmjlaaW.PrintLast Go.Proofs.YtkkgnjdepgmjlaaW.PrintMore
attribute [local go_sem] max2_int min2_int max_two min_two max_three min_three max_four min_four   -- for this text's walks alone
set_option linter.unusedVariables false
set_option linter.unusedSimpArgs false

/-! ### IsM.far: the line beside other boxes -/
theorem IsM.far {w0 W : World} {E : Nat → Prop} {g : Nat} {jobs : List (S43)} {tick : Int} {starts : List Int} (h : IsM w0 W E g jobs tick starts) {b : Nat} (hg : g ≠ b) (hE : ∀ k_, E k_ → k_ ≠ b) (j : Nat) (u : Value) : IsM w0 (W.setCell ⟨b, j, none⟩ u) E g jobs tick starts := by
  obtain ⟨A0, c0, sv, h1, h2, h3, h4⟩ := h
  exact ⟨A0, c0, sv, blk_far h1 hg _, h2, h3, Kd.R_far (p := ⟨b, j, none⟩) h4 (fun _ hk => hE _ hk.2) _⟩
theorem IsM.ne {w0 W : World} {E : Nat → Prop} {g : Nat} {jobs : List (S43)} {tick : Int} {starts : List Int} (h : IsM w0 W E g jobs tick starts) {b : Nat} {cs : Array Value} {t : TypeId} (hb : W.heap[b]? = some (.cells cs t (0, 0))) (ht : 71 ≠ t) : g ≠ b := by
  obtain ⟨A0, c0, sv, h1, _⟩ := h
  exact ne_blk h1 hb ht
theorem ofClass_q (k g : Nat) (jobs : List (S43)) (tick : Int) (starts : List Int) (c r : Int) (w0 w : World) (E : Nat → Prop) (hI : IsM w0 w E g jobs tick starts) (hB : Below w0.heap.size w0 w) (oc : Int × Int) (h : impl_line_ofClass.f k jobs tick starts c = some oc) (hr : oc.1 = r) :
    Calls Try.prog 61 #[.pointer (some ⟨g, 0, none⟩), .int .i64 c] w fun e w' => e = .returned (.int .i64 r) ∧ Below w.heap.size w w' := by
  subst hr
  exact (impl_line_ofClass.calls k g jobs tick starts c oc.1 oc.2 w w (hI.q hB) (Below.refl _ _) h).mono (by rintro e w' ⟨rfl, _, hb, _⟩; exact ⟨rfl, hb⟩)
def nxT (t : Int) : Int := Int.tmod (wrap64 (wrap64 (t + 8) - 1)) 8
def TuP (b1 b2 b3 : Nat) (A1 : Option Addr) (n c1 : Nat) (W : World) (s : Int × Int) : Prop := W.heap[b1]? = some (.cells #[.int .i64 s.1] 3 (0, 0)) ∧ W.heap[b2]? = some (.cells #[.int .i64 s.2] 3 (0, 0)) ∧ W.heap[b3]? = some (.cells #[.slice A1 n c1] 23 (0, 0))
theorem TuP.below {b1 b2 b3 : Nat} {A1 : Option Addr} {n c1 : Nat} {W W1 : World} {s : Int × Int} (h : TuP b1 b2 b3 A1 n c1 W s) (hb : Below W.heap.size W W1) : TuP b1 b2 b3 A1 n c1 W1 s := ⟨blk_below h.1 hb, blk_below h.2.1 hb, blk_below h.2.2 hb⟩
theorem TuP.drewN {b1 b2 b3 : Nat} {A1 : Option Addr} {n c1 : Nat} {W : World} {s : Int × Int} (h : TuP b1 b2 b3 A1 n c1 W s) (m : Nat) : TuP b1 b2 b3 A1 n c1 (W.drewN m) s := h
theorem TuP.far {b1 b2 b3 : Nat} {A1 : Option Addr} {n c1 : Nat} {W : World} {s : Int × Int} (h : TuP b1 b2 b3 A1 n c1 W s) {p : Addr} (hp : p.block ≠ b1 ∧ p.block ≠ b2 ∧ p.block ≠ b3) (u : Value) : TuP b1 b2 b3 A1 n c1 (W.setCell p u) s := ⟨blk_far h.1 (Ne.symm hp.1) _, blk_far h.2.1 (Ne.symm hp.2.1) _, blk_far h.2.2 (Ne.symm hp.2.2) _⟩
theorem TuP.set1 {b1 b2 b3 : Nat} {A1 : Option Addr} {n c1 : Nat} {W : World} {s : Int × Int} (h : TuP b1 b2 b3 A1 n c1 W s) (hne : b1 ≠ b2) (x : Int) : TuP b1 b2 b3 A1 n c1 (W.setCell ⟨b1, 0, none⟩ (.int .i64 x)) (x, s.2) := ⟨by simpa using blk_set h.1 0 (.int .i64 x), blk_far h.2.1 (Ne.symm hne) _, blk_far h.2.2 (ne_blk h.2.2 h.1 (by decide)) _⟩
theorem TuP.set2 {b1 b2 b3 : Nat} {A1 : Option Addr} {n c1 : Nat} {W : World} {s : Int × Int} (h : TuP b1 b2 b3 A1 n c1 W s) (hne : b1 ≠ b2) (x : Int) : TuP b1 b2 b3 A1 n c1 (W.setCell ⟨b2, 0, none⟩ (.int .i64 x)) (s.1, x) := ⟨blk_far h.1 hne _, by simpa using blk_set h.2.1 0 (.int .i64 x), blk_far h.2.2 (ne_blk h.2.2 h.2.1 (by decide)) _⟩
end Go.Proofs.Ytkkgnjdepgmjlaa.X

/- What the functions of the program come to, and that they do: written by this session's program wip/xprint.py out of the translation; parts named extern are typed by hand. -/
namespace Go.Proofs.Ytkkgnjdepgmjlaa.X
open Go.RowKit Go.Proofs.YtkkgnjdepgmjlaaW.PrintWords Go.Proofs.YtkkgnjdepgmjlaaW.PrintLast Go.Proofs.YtkkgnjdepgmjlaaW.PrintMore
attribute [local go_sem] max2_int min2_int max_two min_two max_three min_three max_four min_four   -- for this text's walks alone
set_option linter.unusedVariables false
set_option linter.unusedSimpArgs false

/-! ### spec_DeficitStarts: function 33 -/
/- EXTERN, by hand (wip/hand/defspec.py): the starts if classes take turns with credits. -/
/-- A line of jobs beside a row of credits. -/
def IsK (cv : Value) (cr : List Int) (w0 W : World) (g : Nat) (jobs : List (S43)) (starts : List Int) (now done : Int) : Prop :=
  ∃ A0 c0, ∃ sv : Value, W.heap[g]? = some (.cells #[.slice A0 jobs.length c0, sv, .int .i64 now, .int .i64 done] 57 (0, 0)) ∧ w0.heap.size ≤ g ∧ Kd.C k43 w0 A0 jobs.length jobs ∧ (Kd.R (Kd.int .i64) 3 W w0.heap.size (fun k_ => k_ ≠ g ∧ some k_ ≠ cv.ownBlock) sv starts ∧ Kd.R (Kd.int .i64) 3 W w0.heap.size (fun k_ => k_ ≠ g ∧ some k_ ≠ sv.ownBlock) cv cr)
theorem IsK.below {w0 W : World} {cv : Value} {cr : List Int} {g : Nat} {jobs : List (S43)} {starts : List Int} {now done : Int} (h : IsK cv cr w0 W g jobs starts now done) {w1 : World} (hb : Below W.heap.size W w1) : IsK cv cr w0 w1 g jobs starts now done := by
  obtain ⟨A0, c0, sv, h1, h2, h3, h4⟩ := h
  exact ⟨A0, c0, sv, blk_below h1 hb, h2, h3, Kd.R_below h4.1 hb, Kd.R_below h4.2 hb⟩
theorem IsK.drewN {w0 W : World} {cv : Value} {cr : List Int} {g : Nat} {jobs : List (S43)} {starts : List Int} {now done : Int} (h : IsK cv cr w0 W g jobs starts now done) (m : Nat) : IsK cv cr w0 (W.drewN m) g jobs starts now done := h
theorem IsK.drew {w0 W : World} {cv : Value} {cr : List Int} {g : Nat} {jobs : List (S43)} {starts : List Int} {now done : Int} (h : IsK cv cr w0 W g jobs starts now done) : IsK cv cr w0 W.drew g jobs starts now done := h
theorem IsK.lt {w0 W : World} {cv : Value} {cr : List Int} {g : Nat} {jobs : List (S43)} {starts : List Int} {now done : Int} (h : IsK cv cr w0 W g jobs starts now done) : g < W.heap.size := by
  obtain ⟨A0, c0, sv, h1, _⟩ := h
  exact blk_lt h1
theorem IsK.ge {w0 W : World} {cv : Value} {cr : List Int} {g : Nat} {jobs : List (S43)} {starts : List Int} {now done : Int} (h : IsK cv cr w0 W g jobs starts now done) : w0.heap.size ≤ g := by
  obtain ⟨A0, c0, sv, _, h2, _⟩ := h
  exact h2
theorem IsK.toL {w0 W : World} {cv : Value} {cr : List Int} {g : Nat} {jobs : List (S43)} {starts : List Int} {now done : Int} (h : IsK cv cr w0 W g jobs starts now done) : IsL w0 W g jobs starts now done := by
  obtain ⟨A0, c0, sv, h1, h2, h3, h4⟩ := h
  exact ⟨A0, c0, sv, h1, h2, h3, Kd.R_mono h4.1 (fun _ hk => hk.1)⟩
theorem IsK.q {w0 W : World} {cv : Value} {cr : List Int} {g : Nat} {jobs : List (S43)} {starts : List Int} {now done : Int} (h : IsK cv cr w0 W g jobs starts now done) (hb : Below w0.heap.size w0 W) : IsS57 W W g jobs starts now done := h.toL.q hb
theorem IsK.set_2 {w0 W : World} {cv : Value} {cr : List Int} {g : Nat} {jobs : List (S43)} {starts : List Int} {now done : Int} (h : IsK cv cr w0 W g jobs starts now done) (x : Int) : IsK cv cr w0 (W.setCell ⟨g, 2, none⟩ (.int .i64 x)) g jobs starts x done := by
  obtain ⟨A0, c0, sv, h1, h2, h3, h4⟩ := h
  exact ⟨A0, c0, sv, by simpa using blk_set h1 2 (.int .i64 x), h2, h3, Kd.R_far (p := ⟨g, 2, none⟩) h4.1 (fun _ hk => hk.1) _, Kd.R_far (p := ⟨g, 2, none⟩) h4.2 (fun _ hk => hk.1) _⟩
theorem IsK.set_3 {w0 W : World} {cv : Value} {cr : List Int} {g : Nat} {jobs : List (S43)} {starts : List Int} {now done : Int} (h : IsK cv cr w0 W g jobs starts now done) (x : Int) : IsK cv cr w0 (W.setCell ⟨g, 3, none⟩ (.int .i64 x)) g jobs starts now x := by
  obtain ⟨A0, c0, sv, h1, h2, h3, h4⟩ := h
  exact ⟨A0, c0, sv, by simpa using blk_set h1 3 (.int .i64 x), h2, h3, Kd.R_far (p := ⟨g, 3, none⟩) h4.1 (fun _ hk => hk.1) _, Kd.R_far (p := ⟨g, 3, none⟩) h4.2 (fun _ hk => hk.1) _⟩
theorem IsK.row {w0 W : World} {cv : Value} {cr : List Int} {g : Nat} {jobs : List (S43)} {starts : List Int} {now done : Int} (h : IsK cv cr w0 W g jobs starts now done) (hp : 0 < starts.length) :
    ∃ A0 c0 r c, W.heap[g]? = some (.cells #[.slice A0 jobs.length c0, .slice (some ⟨r, 0, none⟩) starts.length c, .int .i64 now, .int .i64 done] 57 (0, 0)) ∧ Kd.C k43 w0 A0 jobs.length jobs ∧ w0.heap.size ≤ r ∧ r ≠ g ∧ Kd.C (Kd.int .i64) W (some ⟨r, 0, none⟩) starts.length starts ∧
      (∃ cells, W.heap[r]? = some (.cells cells 3 (0, 0))) ∧ ∀ (i : Nat) (x : Int), IsK cv cr w0 (W.setCell ⟨r, i, none⟩ (.int .i64 x)) g jobs (starts.set i x) now done := by
  obtain ⟨A0, c0, sv, h1, h2, h3, h4, h5⟩ := h
  obtain ⟨r, c, e, hb, hl, hce⟩ := Kd.R_form h4 hp
  subst e
  have hne := h4.1 r rfl
  refine ⟨A0, c0, r, c, h1, h3, hb, hne.1, (Kd.R_reads' h4).2.2, hce, fun i x => ?_⟩
  have h6 := Kd.R_putn h4 (i : Int) x
  rw [Int.toNat_natCast] at h6
  exact ⟨A0, c0, .slice (some ⟨r, 0, none⟩) starts.length c, blk_far h1 (Ne.symm hne.1) _, h2, h3, h6, Kd.R_far (p := ⟨r, i, none⟩) h5 (fun k hk e => hk.2 (by rw [e]; rfl)) _⟩
theorem IsK.credit {w0 W : World} {cv : Value} {cr : List Int} {g : Nat} {jobs : List (S43)} {starts : List Int} {now done : Int} (h : IsK cv cr w0 W g jobs starts now done) (hp : 0 < cr.length) :
    ∃ q c, cv = .slice (some ⟨q, 0, none⟩) cr.length c ∧ w0.heap.size ≤ q ∧ Kd.C (Kd.int .i64) W (some ⟨q, 0, none⟩) cr.length cr ∧ (∃ cells, W.heap[q]? = some (.cells cells 3 (0, 0))) ∧ ∀ (i : Nat) (x : Int), IsK cv (cr.set i x) w0 (W.setCell ⟨q, i, none⟩ (.int .i64 x)) g jobs starts now done := by
  obtain ⟨A0, c0, sv, h1, h2, h3, h4, h5⟩ := h
  obtain ⟨q, c, e, hb, hl, hce⟩ := Kd.R_form h5 hp
  subst e
  have hne := h5.1 q rfl
  refine ⟨q, c, rfl, hb, (Kd.R_reads' h5).2.2, hce, fun i x => ?_⟩
  have h6 := Kd.R_putn h5 (i : Int) x
  rw [Int.toNat_natCast] at h6
  exact ⟨A0, c0, sv, blk_far h1 (Ne.symm hne.1) _, h2, h3, Kd.R_far (p := ⟨q, i, none⟩) h4 (fun k hk e => hk.2 (by rw [e]; rfl)) _, h6⟩
theorem IsK.credit2 {w0 W : World} {q n cq : Nat} {cr : List Int} {g : Nat} {jobs : List (S43)} {starts : List Int} {now done : Int} (h : IsK (.slice (some ⟨q, 0, none⟩) n cq) cr w0 W g jobs starts now done) (hp : 0 < cr.length) :
    w0.heap.size ≤ q ∧ (∀ i : Nat, i < cr.length → W.cell? ⟨q, i, none⟩ = some (.int .i64 (rd cr (i : Int)))) ∧ (∀ i : Nat, W.frozen? ⟨q, i, none⟩ = false) ∧ ∀ (i : Nat) (x : Int), IsK (.slice (some ⟨q, 0, none⟩) n cq) (cr.set i x) w0 (W.setCell ⟨q, i, none⟩ (.int .i64 x)) g jobs starts now done := by
  obtain ⟨q2, c2, e, hq, hC, ⟨cells, hb⟩, hs⟩ := h.credit hp
  injection e with e1 e2 e3
  injection e1 with e1
  injection e1 with e1
  subst e1
  refine ⟨hq, fun i hi => ?_, fun i => blk_frozen hb i, hs⟩
  obtain ⟨ad, e5, hx⟩ := Kd.at_int hC (i : Int) (by omega) (by omega)
  cases e5
  rw [Int.toNat_natCast, add0] at hx
  exact hx
/-- New credits beside a line. -/
theorem IsK.of {w0 W W1 : World} {cv : Value} {cr : List Int} {g : Nat} {jobs : List (S43)} {starts : List Int} {now done : Int} (h : IsL w0 W g jobs starts now done) (hw : w0.heap.size ≤ W.heap.size) (hb : Below W.heap.size W W1) (hp : 0 < cr.length) (hc : Kd.R (Kd.int .i64) 3 W1 W.heap.size (fun _ => True) cv cr) : IsK cv cr w0 W1 g jobs starts now done := by
  obtain ⟨A0, c0, sv, h1, h2, h3, h4⟩ := h
  obtain ⟨q, c, e, hq, _, _⟩ := Kd.R_form hc hp
  subst e
  have hg := blk_lt h1
  have h5 := Kd.R_bound h4
  refine ⟨A0, c0, sv, blk_below h1 hb, h2, h3, Kd.R_below (Kd.R_mono h5 (fun k hk => ⟨hk.1, fun e => ?_⟩)) hb, Kd.R_lower (Kd.R_mono (Kd.R_bound hc) (fun k hk => ⟨fun e => ?_, fun e => ?_⟩)) hw⟩
  · have e2 : k = q := Option.some.inj e
    have := hk.2.2.1
    omega
  · have := hk.2.1
    omega
  · have h6 := h5.1 k e.symm
    have := hk.2.1
    have := h6.2.2.1
    omega
theorem IsK.box {w0 W : World} {cv : Value} {cr : List Int} {g : Nat} {jobs : List (S43)} {starts : List Int} {now done : Int} (h : IsK cv cr w0 W g jobs starts now done) {b : Nat} {cs : Array Value} (hb : W.heap[b]? = some (.cells cs 43 (0, 0))) (j : Nat) (u : Value) : IsK cv cr w0 (W.setCell ⟨b, j, none⟩ u) g jobs starts now done := by
  obtain ⟨A0, c0, sv, h1, h2, h3, h4⟩ := h
  have hne : g ≠ b := by
    rintro rfl
    rw [hb] at h1
    injection h1 with h1
    injection h1 with _ h5
    exact absurd h5 (by decide)
  exact ⟨A0, c0, sv, blk_far h1 hne u, h2, h3, Kd.R_set h4.1 hb (by decide) j u, Kd.R_set h4.2 hb (by decide) j u⟩
theorem IsK.job {w0 W : World} {cv : Value} {cr : List Int} {g : Nat} {jobs : List (S43)} {starts : List Int} {now done : Int} (h : IsK cv cr w0 W g jobs starts now done) {b : Nat} (hb : W.heap[b]? = some (.cells #[.int .i64 0, .int .i64 0, .int .i64 0] 43 (0, 0))) (x y z : Int) :
    IsK cv cr w0 (((W.setCell ⟨b, 0, none⟩ (.int .i64 x)).setCell ⟨b, 1, none⟩ (.int .i64 y)).setCell ⟨b, 2, none⟩ (.int .i64 z)) g jobs starts now done ∧ (((W.setCell ⟨b, 0, none⟩ (.int .i64 x)).setCell ⟨b, 1, none⟩ (.int .i64 y)).setCell ⟨b, 2, none⟩ (.int .i64 z)).heap[b]? = some (.cells #[.int .i64 x, .int .i64 y, .int .i64 z] 43 (0, 0)) := by
  have b1 := blk_put (cs' := #[.int .i64 x, .int .i64 0, .int .i64 0]) hb 0 (.int .i64 x) rfl
  have b2 := blk_put (cs' := #[.int .i64 x, .int .i64 y, .int .i64 0]) b1 1 (.int .i64 y) rfl
  have b3 := blk_put (cs' := #[.int .i64 x, .int .i64 y, .int .i64 z]) b2 2 (.int .i64 z) rfl
  exact ⟨((h.box hb 0 _).box b1 1 _).box b2 2 _, b3⟩
set_option maxHeartbeats 8000000 in
set_option maxRecDepth 100000 in
theorem prBeginK_calls (cv : Value) (cr : List Int) (g i : Nat) (jobs : List (S43)) (starts : List Int) (now done : Int) (w0 w : World) (hI : IsK cv cr w0 w g jobs starts now done) (hB : Below w0.heap.size w0 w) (hi : i < starts.length) (hj : i < jobs.length) :
    Calls Try.prog 57 #[.pointer (some ⟨g, 0, none⟩), .int .i64 (i : Int)] w fun e w' => e = .returned (.tuple #[]) ∧ IsK cv cr w0 w' g jobs (starts.set i now) (wrap64 (now + (rd_T43 jobs (i : Int)).f2)) (wrap64 (done + 1)) ∧ Below w0.heap.size w0 w' := by
  have hu43 := Try.underlying43
  have HB := Aside0.mk hB
  have HI0 := Aside0.mk hI
  have HJ := Aside0.mk hj
  have HS := Aside0.mk hi
  obtain ⟨A0, c0, r, c, hg, hjC, hr, hrg, hsC, ⟨cells, hrb⟩, hset⟩ := hI.row (by omega)
  have HSET := Aside0.mk hset
  have HJC := Aside0.mk hjC
  have HR := Aside0.mk hr
  have HG := Aside0.mk hI.ge
  clear hset hI hB
  go_enter Try.func57, Try.ntmps57
  go_upto_region 0 with (fail)
  go_cut [] (fun wc => Aside0 (IsK cv cr w0 wc g jobs (starts.set i now) now done) ∧ Aside0 (Below w0.heap.size w0 wc))
  case first =>
    have hc1 : w.cell? ⟨g, 1, none⟩ = some (.slice (some ⟨r, 0, none⟩) starts.length c) := (blk_cell hg 1).trans rfl
    have hc2 : w.cell? ⟨g, 2, none⟩ = some (.int .i64 now) := (blk_cell hg 2).trans rfl
    have hp : 0 ≤ (i : Int) := by omega
    have hq : (i : Int) < (starts.length : Int) := by omega
    obtain ⟨ad, e1, hx⟩ := Kd.at_int hsC (i : Int) hp hq
    cases e1
    have hfr := blk_frozen hrb i
    replace hp := eq_true hp
    replace hq := eq_true hq
    rw [Int.toNat_natCast] at hx
    have hx2 : w.cell? ⟨r, i, none⟩ = some (.int .i64 (rd starts (i : Int))) := by rw [← add0]; exact hx
    clear hx hi hj
    go_still_tail 10, (by kernel_rfl)
    change wpList _ _ _ _ _ (World.drew _)
    go_wp2
    go_meet
    exact ⟨⟨IsK.drew (HSET.out i now)⟩, ⟨below_drew1 (show Below w0.heap.size w0 (w.setCell ⟨r, i, none⟩ (.int .i64 now)) from HB.out.setCell HR.out _)⟩⟩
  case rest =>
    clear hg hsC hrb hrg
    obtain ⟨HI, HBB⟩ := hcut
    obtain ⟨A1, c1, sv, h1, h2, h3, h4⟩ := HI.out
    have hc0 : wc.cell? ⟨g, 0, none⟩ = some (.slice A1 jobs.length c1) := (blk_cell h1 0).trans rfl
    have hc2 : wc.cell? ⟨g, 2, none⟩ = some (.int .i64 now) := (blk_cell h1 2).trans rfl
    have hf2 := blk_frozen h1 2
    have hp : 0 ≤ (i : Int) := by omega
    have hq : (i : Int) < (jobs.length : Int) := by omega
    obtain ⟨ad, e1, hx0, hx1, hx2⟩ := at_T43 h3 (i : Int) hp hq
    cases e1
    simp only [Int.toNat_natCast] at hx0 hx1 hx2
    replace hx0 := pw_cell_below HBB.out hx0
    replace hx1 := pw_cell_below HBB.out hx1
    replace hx2 := pw_cell_below HBB.out hx2
    replace hp := eq_true hp
    replace hq := eq_true hq
    clear h1 h2 h3 h4 hi hj
    go_upto_region 1 with (fail)
    go_cut [] (fun wd => Aside0 (IsK cv cr w0 wd g jobs (starts.set i now) (wrap64 (now + (rd_T43 jobs (i : Int)).f2)) done) ∧ Aside0 (Below w0.heap.size w0 wd))
    case first =>
      go_still_tail 15, (by kernel_rfl)
      change wpList _ _ _ _ _ (World.drew _)
      go_wp2
      go_meet
      exact ⟨⟨IsK.drew (HI.out.set_2 _)⟩, ⟨below_drew1 (show Below w0.heap.size w0 (wc.setCell ⟨g, 2, none⟩ _) from HBB.out.setCell HG.out _)⟩⟩
    case rest =>
      clear hc0 hc2 hf2 hx0 hx1 hx2
      obtain ⟨HI3, HB3⟩ := hcut
      obtain ⟨A1, c1, sv, h1, h2, h3, h4⟩ := HI3.out
      have hc3 : wc.cell? ⟨g, 3, none⟩ = some (.int .i64 done) := (blk_cell h1 3).trans rfl
      have hf3 := blk_frozen h1 3
      clear h1 h2 h3 h4
      go_wp2
      first | go_end0 | ((try simp only [Exit.inBlock, Exit.then]); refine bodyPost_ret (results_none rfl _ _ _) rfl ?_)
      exact ⟨rfl, HI3.out.set_3 _, show Below w0.heap.size w0 (wc.setCell ⟨g, 3, none⟩ _) from HB3.out.setCell HG.out _⟩
set_option maxHeartbeats 8000000 in
set_option maxRecDepth 100000 in
theorem prSkipK_calls (cv : Value) (cr : List Int) (g : Nat) (jobs : List (S43)) (starts : List Int) (now done : Int) (w0 w : World) (hI : IsK cv cr w0 w g jobs starts now done) (hB : Below w0.heap.size w0 w) (hl : starts.length = jobs.length) (hn : jobs.length ≤ 20) :
    Calls Try.prog 55 #[.pointer (some ⟨g, 0, none⟩)] w fun e w' => e = .returned (.bool (skipB jobs starts now done)) ∧ IsK cv cr w0 w' g jobs starts (if skipB jobs starts now done = true then prNext jobs starts jobs.length else now) done ∧ Below w0.heap.size w0 w' := by
  have hu43 := Try.underlying43
  have HB := Aside0.mk hB
  have HI := Aside0.mk hI
  have HL := Aside0.mk hl
  have HN := Aside0.mk hn
  have HQ0 := Aside0.mk (hI.q hB)
  clear hB hI hl hn
  obtain ⟨q, hq⟩ : ∃ q, skipB jobs starts now done = q := ⟨_, rfl⟩
  rw [hq]
  unfold skipB at hq
  have HQ := Aside0.mk hq
  clear hq
  go_enter Try.func55, Try.ntmps55
  go_upto_region 1 with (fail)
  go_cut [2, 19] (fun v2 v19 wc => v2 = .bool false ∧ v19 = .bool (!q) ∧ Aside0 (Drawn0 w wc))
  case first =>
    obtain ⟨A1, c1, sv, h1, h2, h3, h4⟩ := HI.out
    have hc3 : w.cell? ⟨g, 3, none⟩ = some (.int .i64 done) := (blk_cell h1 3).trans rfl
    have hc0 : w.cell? ⟨g, 0, none⟩ = some (.slice A1 jobs.length c1) := (blk_cell h1 0).trans rfl
    clear h1 h2 h3 h4
    cases hb : someB jobs starts now jobs.length with
    | true =>
      have HS := Aside0.mk hb
      rw [hb] at HQ
      clear hb
      go_quiet ((go_at_call 74; refine Calls.quiet_of (v := .bool true) ((prSome_q g jobs starts now done _ ?s1 HN.out HL.out).mono ?_); (case s1 => exact IsS57.drewn HQ0.out _); rintro e w' ⟨rfl, ⟨nd, rfl⟩⟩; exact ⟨by rw [HS.out], _, rfl⟩))
      (try go_wp2_with fail)
      go_meet
      exact ⟨rfl, by rw [← HQ.out]; rfl, ⟨⟨_, rfl⟩⟩⟩
    | false =>
      have HS := Aside0.mk hb
      rw [hb] at HQ
      clear hb
      by_cases hd : done = (jobs.length : Int)
      · have hd1 : (done == (jobs.length : Int)) = true := beq_iff_eq.mpr hd
        have HD := Aside0.mk hd
        clear hd
        go_quiet ((go_at_call 74; refine Calls.quiet_of (v := .bool false) ((prSome_q g jobs starts now done _ ?s1 HN.out HL.out).mono ?_); (case s1 => exact IsS57.drewn HQ0.out _); rintro e w' ⟨rfl, ⟨nd, rfl⟩⟩; exact ⟨by rw [HS.out], _, rfl⟩))
        (try go_wp2_with fail)
        go_meet
        exact ⟨rfl, by rw [← HQ.out, HD.out]; simp, ⟨⟨_, rfl⟩⟩⟩
      · have hd1 : (done == (jobs.length : Int)) = false := beq_eq_false_iff_ne.mpr hd
        have hd2 : (done != (jobs.length : Int)) = true := bne_iff_ne.mpr hd
        clear hd
        go_quiet ((go_at_call 74; refine Calls.quiet_of (v := .bool false) ((prSome_q g jobs starts now done _ ?s1 HN.out HL.out).mono ?_); (case s1 => exact IsS57.drewn HQ0.out _); rintro e w' ⟨rfl, ⟨nd, rfl⟩⟩; exact ⟨by rw [HS.out], _, rfl⟩))
        (try go_wp2_with fail)
        go_meet
        exact ⟨rfl, by rw [← HQ.out, hd2]; rfl, ⟨⟨_, rfl⟩⟩⟩
  case rest =>
    obtain ⟨rfl, rfl, HC0⟩ := hcut
    have HC := Aside0.mk HC0.out.below
    have HI1 := Aside0.mk (HI.out.below HC.out)
    have HB1 := Aside0.mk (below_step HB.out HC.out)
    clear HI HB HC HC0 HQ0
    cases q with
    | false =>
      go_wp2
      go_ret
      exact ⟨rfl, by simpa using HI1.out, HB1.out⟩
    | true =>
      obtain ⟨A1, c1, sv, h1, h2, h3, h4⟩ := HI1.out
      have H3 := Aside0.mk h3
      have HG := Aside0.mk h2
      have hc0 : wc.cell? ⟨g, 0, none⟩ = some (.slice A1 jobs.length c1) := (blk_cell h1 0).trans rfl
      clear h1 h2 h3 h4
      go_wp2
      go_loopg [3, 25] (jobs.length + 1) (fun kq v3 v25 w' => ∃ i : Nat, v3 = .int .i64 (prNext jobs starts i) ∧ v25 = .int .i64 (i : Int) ∧ Aside0 (i ≤ jobs.length ∧ jobs.length - i + 1 ≤ kq) ∧ Aside0 (IsK cv cr w0 w' g jobs starts now done) ∧ Aside0 (Below w0.heap.size w0 w'))
      case atStart => exact ⟨0, rfl, rfl, ⟨by omega, by omega⟩, ⟨by repeat (first | exact HI1.out | apply IsK.drewN | apply IsK.drew)⟩, ⟨by repeat (first | exact HB1.out | apply pw_below_drewN | apply below_drew1)⟩⟩
      case round =>
        clear HI1 HB1 hc0
        obtain ⟨i, rfl, rfl, HM, HI, HB⟩ := hrel
        by_cases hi : i < jobs.length
        · have hib : decide ((i : Int) < jobs.length) = true := decide_eq_true (by omega)
          have hib2 : decide (i < jobs.length) = true := decide_eq_true hi
          have HI2 := Aside0.mk hi
          have hp : 0 ≤ (i : Int) := by omega
          have hq : (i : Int) < (jobs.length : Int) := by omega
          obtain ⟨ad, e1, hx0, hx1, hx2⟩ := at_T43 H3.out (i : Int) hp hq
          cases e1
          simp only [Int.toNat_natCast] at hx0 hx1 hx2
          replace hx0 := pw_cell_below HB.out hx0
          replace hx1 := pw_cell_below HB.out hx1
          replace hx2 := pw_cell_below HB.out hx2
          replace hp := eq_true hp
          replace hq := eq_true hq
          clear hi
          go_upto_region 6 with (fail)
          go_cut [4, 5] (fun v4 v5 wc => v4 = .int .i64 (i : Int) ∧ ∃ b, v5 = .pointer (some ⟨b, 0, none⟩) ∧ Aside0 (wc.heap[b]? = some (.cells #[.int .i64 (rd_T43 jobs (i : Int)).f0, .int .i64 (rd_T43 jobs (i : Int)).f1, .int .i64 (rd_T43 jobs (i : Int)).f2] 43 (0, 0))) ∧ Aside0 (IsK cv cr w0 wc g jobs starts now done) ∧ Aside0 (Below w0.heap.size w0 wc))
          case first =>
            go_wp2_with (first | ((with_reducible refine gate_dst (N := 5) rfl ?_); refine box_event ?hg (N := 5) ?hd (cs := #[.int .i64 0, .int .i64 0, .int .i64 0]) (t := 43) ?hr ?_; (case hd => rfl); (case hg => rfl); (case hr => first | (go_simp; done) | (go_simp; rfl)); intro b hg w13 hbox hb; have HI3 := Aside0.mk (IsK.below (by repeat (first | exact HI.out | apply IsK.drewN | apply IsK.drew)) hb); have HB3 := Aside0.mk (below_step (by repeat (first | (with_reducible first | exact HB.out | apply below_alloc | apply pw_below_drewN | apply below_drew1) | exact HB.out)) hb); have HBX := Aside0.mk hbox; have HGE := Aside0.mk (show w0.heap.size ≤ b by rw [hg]; exact (below_size (by repeat (first | (with_reducible first | exact HB.out | apply below_alloc | apply pw_below_drewN | apply below_drew1) | exact HB.out)))); clear hg hbox hb; have hk0 : w13.cell? ⟨b, 0, none⟩ = some (.int .i64 0) := (blk_cell HBX.out 0).trans rfl; have hk1 : w13.cell? ⟨b, 1, none⟩ = some (.int .i64 0) := (blk_cell HBX.out 1).trans rfl; have hk2 : w13.cell? ⟨b, 2, none⟩ = some (.int .i64 0) := (blk_cell HBX.out 2).trans rfl; have hf0 := blk_frozen HBX.out 0; have hf1 := blk_frozen HBX.out 1; have hf2 := blk_frozen HBX.out 2))
            go_meet
            have hj := HI3.out.job HBX.out (rd_T43 jobs (i : Int)).f0 (rd_T43 jobs (i : Int)).f1 (rd_T43 jobs (i : Int)).f2
            refine ⟨rfl, b, rfl, ⟨by first | exact hj.2 | simpa using hj.2⟩, ⟨by first | exact hj.1 | simpa using hj.1⟩, ⟨?_⟩⟩
            exact ((HB3.out.setCell (p := ⟨b, 0, none⟩) HGE.out _).setCell (p := ⟨b, 1, none⟩) HGE.out _).setCell (p := ⟨b, 2, none⟩) HGE.out _
          case rest =>
            clear HI HB hx0 hx1 hx2
            obtain ⟨rfl, b, rfl, HBX, HI, HB⟩ := hcut
            have hk0 : wc.cell? ⟨b, 0, none⟩ = some (.int .i64 (rd_T43 jobs (i : Int)).f0) := (blk_cell HBX.out 0).trans rfl
            obtain ⟨A2, c2, sv2, h1, h2, h3, h4⟩ := HI.out
            obtain ⟨A3, c3, e3⟩ := Kd.R_slice h4.1
            subst e3
            have hs1 : wc.cell? ⟨g, 1, none⟩ = some (.slice A3 starts.length c3) := (blk_cell h1 1).trans rfl
            have hp2 : 0 ≤ (i : Int) := by omega
            have hq2 : (i : Int) < (starts.length : Int) := by have := HI2.out; have := HL.out; omega
            obtain ⟨ad3, e3, hy⟩ := Kd.at_int (Kd.R_reads' h4.1).2.2 (i : Int) hp2 hq2
            cases e3
            simp only [Int.toNat_natCast] at hy
            replace hp2 := eq_true hp2
            replace hq2 := eq_true hq2
            clear h1 h2 h3 h4
            by_cases c : rd starts (i : Int) < 0
            · have cb : decide (rd starts (i : Int) < 0) = true := decide_eq_true c
              have HLE := Aside0.mk (show spec_l1Least.f (prNext jobs starts i) (rd_T43 jobs (i : Int)).f0 = some (prNext jobs starts (i + 1)) by
                unfold spec_l1Least.f
                rw [prNext, if_pos c]
                split <;> rfl)
              clear c
              go_wp2_with (first | (go_at_call 75; (with_reducible refine (spec_l1Least.calls _ _ _ _ HLE.out).mono ?_); rintro e w' ⟨rfl, ⟨nd, rfl⟩⟩) | ((with_reducible refine gate_callee (f := 75) rfl ?_); refine goesL_ (some 41) rfl rfl Try.func75 (by kernel_rfl) rfl #[.int .i64 (prNext jobs starts i), .int .i64 (rd_T43 jobs (i : Int)).f0] rfl (by (try simp only [List.map_toArray, List.map_cons, List.map_nil]); first | done | rfl) ?_; (with_reducible refine (spec_l1Least.calls _ _ _ _ HLE.out).mono ?_); rintro e w' ⟨rfl, ⟨nd, rfl⟩⟩; refine ⟨_, rfl, ?_⟩))
              go_roundg (jobs.length - (i + 1) + 1)
              case measure => have := HM.out; have := HI2.out; omega
              case rel => exact ⟨i + 1, rfl, (by have := HI2.out; have := HN.out; first | rfl | (rw [wrap_small (by omega) (by omega)]; rfl)), ⟨by have := HI2.out; omega, Nat.le_refl _⟩, ⟨by repeat (first | exact HI.out | apply IsK.drewN | apply IsK.drew)⟩, ⟨(by repeat (first | (with_reducible first | exact HB.out | apply below_alloc | apply pw_below_drewN | apply below_drew1) | exact HB.out))⟩⟩
            · have cb : decide (rd starts (i : Int) < 0) = false := decide_eq_false c
              have HNX := Aside0.mk (show prNext jobs starts (i + 1) = prNext jobs starts i by rw [prNext, if_neg c])
              clear c
              go_wp2
              go_roundg (jobs.length - (i + 1) + 1)
              case measure => have := HM.out; have := HI2.out; omega
              case rel => exact ⟨i + 1, by rw [HNX.out], (by have := HI2.out; have := HN.out; first | rfl | (rw [wrap_small (by omega) (by omega)]; rfl)), ⟨by have := HI2.out; omega, Nat.le_refl _⟩, ⟨by repeat (first | exact HI.out | apply IsK.drewN | apply IsK.drew)⟩, ⟨(by repeat (first | (with_reducible first | exact HB.out | apply below_alloc | apply pw_below_drewN | apply below_drew1) | exact HB.out))⟩⟩
        · obtain rfl : i = jobs.length := by have := HM.out; omega
          have hib : decide ((jobs.length : Int) < jobs.length) = false := decide_eq_false (by omega)
          have hib2 : decide (jobs.length < jobs.length) = false := decide_eq_false hi
          clear hi
          obtain ⟨A1, c1, sv, h1, h2, h3, h4⟩ := HI.out
          have hc2 : wr.cell? ⟨g, 2, none⟩ = some (.int .i64 now) := (blk_cell h1 2).trans rfl
          have hf2 := blk_frozen h1 2
          clear h1 h2 h3 h4
          go_wp2
          go_ret
          exact ⟨rfl, by simpa using HI.out.set_2 _, show Below w0.heap.size w0 (wr.setCell ⟨g, 2, none⟩ _) from HB.out.setCell HG.out _⟩
def nxD (c : Int) : Int := Int.tmod (wrap64 (c + 7)) 8
theorem nxD_nat (m : Nat) (hm : m < 8) : ∃ j : Nat, j < 8 ∧ nxD (m : Int) = (j : Int) := by
  unfold nxD
  rw [wrap_small (by omega) (by omega), Int.tmod_eq_emod_of_nonneg (by omega)]
  exact ⟨(m + 7) % 8, by omega, by omega⟩
def addQ (q cr : List Int) (c : Int) : List Int := cr.set c.toNat (wrap64 (rd cr c + rd q c))
def crNew (q : List Int) : List Int := (List.replicate 8 0).set 7 (rd q 7)
def spec_DeficitStarts.l0 (jobs : List (S43)) (q : List Int) : Nat → List Int → Int → Int → List Int → Int → Option (List Int)
  | 0, _, _, _, _, _ => none
  | k + 1, starts, now, done, cr, cls => if done < (jobs.length : Int) then (if skipB jobs starts now done = true then ((spec_prLine_first.f k jobs starts (prNext jobs starts jobs.length) done (7 : Int)).bind fun fi => if 0 ≤ (7 : Int) ∧ (7 : Int) < 8 then (if 0 ≤ fi.1 then (if fi.1 < (jobs.length : Int) then (if (rd_T43 jobs fi.1).f2 ≤ rd (crNew q) (7 : Int) then spec_DeficitStarts.l0 jobs q k (starts.set fi.1.toNat (prNext jobs starts jobs.length)) (wrap64 ((prNext jobs starts jobs.length) + (rd_T43 jobs fi.1).f2)) (wrap64 (done + 1)) ((crNew q).set (7 : Int).toNat (wrap64 (rd (crNew q) (7 : Int) - (rd_T43 jobs fi.1).f2))) (7 : Int) else spec_DeficitStarts.l0 jobs q k starts (prNext jobs starts jobs.length) done (addQ q (crNew q) (nxD (7 : Int))) (nxD (7 : Int))) else none) else spec_DeficitStarts.l0 jobs q k starts (prNext jobs starts jobs.length) done (addQ q ((crNew q).set (7 : Int).toNat 0) (nxD (7 : Int))) (nxD (7 : Int))) else none) else ((spec_prLine_first.f k jobs starts now done cls).bind fun fi => if 0 ≤ cls ∧ cls < 8 then (if 0 ≤ fi.1 then (if fi.1 < (jobs.length : Int) then (if (rd_T43 jobs fi.1).f2 ≤ rd cr cls then spec_DeficitStarts.l0 jobs q k (starts.set fi.1.toNat now) (wrap64 (now + (rd_T43 jobs fi.1).f2)) (wrap64 (done + 1)) (cr.set cls.toNat (wrap64 (rd cr cls - (rd_T43 jobs fi.1).f2))) cls else spec_DeficitStarts.l0 jobs q k starts now done (addQ q cr (nxD cls)) (nxD cls)) else none) else spec_DeficitStarts.l0 jobs q k starts now done (addQ q (cr.set cls.toNat 0) (nxD cls)) (nxD cls)) else none)) else some starts
theorem prFirstK_q (k g : Nat) (jobs : List (S43)) (starts : List Int) (now done c r : Int) (cv : Value) (cr : List Int) (w0 w : World) (hI : IsK cv cr w0 w g jobs starts now done) (hB : Below w0.heap.size w0 w) (fi : Int × Int × Int) (h : spec_prLine_first.f k jobs starts now done c = some fi) (hr : fi.1 = r) :
    Calls Try.prog 56 #[.pointer (some ⟨g, 0, none⟩), .int .i64 c] w fun e w' => e = .returned (.int .i64 r) ∧ IsK cv cr w0 w' g jobs starts now done ∧ Below w0.heap.size w0 w' := by
  subst hr
  exact (spec_prLine_first.calls k g jobs starts now done c fi.1 fi.2.1 fi.2.2 w w (hI.q hB) (Below.refl _ _) h).mono (by rintro e w' ⟨rfl, _, hb, _⟩; exact ⟨rfl, hI.below hb, below_step hB hb⟩)
def spec_DeficitStarts.f (k : Nat) (l0 : List (S43)) (l1 : List Int) : Option (List Int × Bool) := (spec_prJobs.f k l0).bind fun t => if t = true then ((spec_prEight.f k l1 40).bind fun u => if u = true then (if l0.length ≤ 20 ∧ l1.length = 8 then (spec_DeficitStarts.l0 l0 l1 k (List.replicate l0.length (-1)) 0 0 (crNew l1) 7).bind fun r => some (r, true) else none) else some ([], false)) else some ([], false)
set_option maxHeartbeats 8000000 in
set_option maxRecDepth 100000 in
theorem spec_DeficitStarts.calls (k : Nat) (A0 : Option Addr) (c0 : Nat) (l0 : List (S43)) (A1 : Option Addr) (c1 : Nat) (l1 : List Int) (r1 : List Int) (r2 : Bool) (w : World) (hr0 : Kd.C k43 w A0 l0.length l0) (hc0 : l0.length ≤ c0) (hr1 : Kd.C (Kd.int .i64) w A1 l1.length l1) (hc1 : l1.length ≤ c1) (h : spec_DeficitStarts.f k l0 l1 = some (r1, r2)) :
    Calls Try.prog 33 #[.slice A0 l0.length c0, .slice A1 l1.length c1] w fun e w' => ∃ v0_ : Value, e = .returned (.tuple #[v0_, .bool r2]) ∧ Kd.R (Kd.int .i64) 3 w' w.heap.size (fun _ => True) v0_ r1 ∧ Below w.heap.size w w' := by
  have hu43 := Try.underlying43
  have HR0 := Aside0.mk hr0
  have HR1 := Aside0.mk hr1
  have HC0 := Aside0.mk hc0
  have HC1 := Aside0.mk hc1
  have HB := Aside0.mk (Below.refl w.heap.size w)
  clear hr0 hr1 hc0 hc1
  unfold spec_DeficitStarts.f at h
  obtain ⟨b, E1, h⟩ := Option.bind_eq_some_iff.mp h
  have HE1 := Aside0.mk E1
  clear E1
  cases b
  · rw [if_neg (by decide)] at h
    obtain ⟨rfl, rfl⟩ := Prod.mk.inj (Option.some.inj h)
    go_enter Try.func33, Try.ntmps33
    go_wp2_with (first | (go_at_call 44; (with_reducible refine (spec_prJobs.calls k _ _ l0 false _ ?s1 ?s2 HE1.out).mono ?_); (case s1 => first | exact HR0.out | exact Kd.C_below HR0.out (by repeat (first | (with_reducible first | exact HB.out | apply below_alloc | apply pw_below_drewN | apply below_drew1) | exact HB.out))); (case s2 => exact HC0.out); rintro e w5 ⟨rfl, hb⟩; have HB5 := Aside0.mk (below_step (by repeat (first | (with_reducible first | exact HB.out | apply below_alloc | apply pw_below_drewN | apply below_drew1) | exact HB.out)) hb); clear HB hb; have HB := HB5; clear HB5) | ((with_reducible refine gate_callee (f := 44) rfl ?_); refine goesL_ (some 11) rfl rfl Try.func44 (by kernel_rfl) rfl #[.slice A0 l0.length c0] rfl (by (try simp only [List.map_toArray, List.map_cons, List.map_nil]); first | done | rfl) ?_; (with_reducible refine (spec_prJobs.calls k _ _ l0 false _ ?s1 ?s2 HE1.out).mono ?_); (case s1 => first | exact HR0.out | exact Kd.C_below HR0.out (by repeat (first | (with_reducible first | exact HB.out | apply below_alloc | apply pw_below_drewN | apply below_drew1) | exact HB.out))); (case s2 => exact HC0.out); rintro e w5 ⟨rfl, hb⟩; have HB5 := Aside0.mk (below_step (by repeat (first | (with_reducible first | exact HB.out | apply below_alloc | apply pw_below_drewN | apply below_drew1) | exact HB.out)) hb); clear HB hb; have HB := HB5; clear HB5; refine ⟨_, rfl, ?_⟩))
    go_ret2
    exact ⟨_, rfl, Kd.R_nil _ _ _ _ _, (by repeat (first | (with_reducible first | exact HB.out | apply below_alloc | apply pw_below_drewN | apply below_drew1) | exact HB.out))⟩
  rw [if_pos rfl] at h
  obtain ⟨b, E2, h⟩ := Option.bind_eq_some_iff.mp h
  have HE2 := Aside0.mk E2
  clear E2
  cases b
  · rw [if_neg (by decide)] at h
    obtain ⟨rfl, rfl⟩ := Prod.mk.inj (Option.some.inj h)
    go_enter Try.func33, Try.ntmps33
    go_wp2_with (first | (go_at_call 44; (with_reducible refine (spec_prJobs.calls k _ _ l0 true _ ?s1 ?s2 HE1.out).mono ?_); (case s1 => first | exact HR0.out | exact Kd.C_below HR0.out (by repeat (first | (with_reducible first | exact HB.out | apply below_alloc | apply pw_below_drewN | apply below_drew1) | exact HB.out))); (case s2 => exact HC0.out); rintro e w5 ⟨rfl, hb⟩; have HB5 := Aside0.mk (below_step (by repeat (first | (with_reducible first | exact HB.out | apply below_alloc | apply pw_below_drewN | apply below_drew1) | exact HB.out)) hb); clear HB hb; have HB := HB5; clear HB5) | ((with_reducible refine gate_callee (f := 44) rfl ?_); refine goesL_ (some 11) rfl rfl Try.func44 (by kernel_rfl) rfl #[.slice A0 l0.length c0] rfl (by (try simp only [List.map_toArray, List.map_cons, List.map_nil]); first | done | rfl) ?_; (with_reducible refine (spec_prJobs.calls k _ _ l0 true _ ?s1 ?s2 HE1.out).mono ?_); (case s1 => first | exact HR0.out | exact Kd.C_below HR0.out (by repeat (first | (with_reducible first | exact HB.out | apply below_alloc | apply pw_below_drewN | apply below_drew1) | exact HB.out))); (case s2 => exact HC0.out); rintro e w5 ⟨rfl, hb⟩; have HB5 := Aside0.mk (below_step (by repeat (first | (with_reducible first | exact HB.out | apply below_alloc | apply pw_below_drewN | apply below_drew1) | exact HB.out)) hb); clear HB hb; have HB := HB5; clear HB5; refine ⟨_, rfl, ?_⟩) | (go_at_call 53; (with_reducible refine (spec_prEight.calls k _ _ l1 40 false _ ?s1 ?s2 HE2.out).mono ?_); (case s1 => exact Kd.C_below HR1.out (by repeat (first | (with_reducible first | exact HB.out | apply below_alloc | apply pw_below_drewN | apply below_drew1) | exact HB.out))); (case s2 => exact HC1.out); rintro e w7 ⟨rfl, ⟨nd, rfl⟩⟩) | ((with_reducible refine gate_callee (f := 53) rfl ?_); refine goesL_ (some 15) rfl rfl Try.func53 (by kernel_rfl) rfl #[.slice A1 l1.length c1, .int .i64 40] rfl (by (try simp only [List.map_toArray, List.map_cons, List.map_nil]); first | done | rfl) ?_; (with_reducible refine (spec_prEight.calls k _ _ l1 40 false _ ?s1 ?s2 HE2.out).mono ?_); (case s1 => exact Kd.C_below HR1.out (by repeat (first | (with_reducible first | exact HB.out | apply below_alloc | apply pw_below_drewN | apply below_drew1) | exact HB.out))); (case s2 => exact HC1.out); rintro e w7 ⟨rfl, ⟨nd, rfl⟩⟩; refine ⟨_, rfl, ?_⟩))
    go_ret2
    exact ⟨_, rfl, Kd.R_nil _ _ _ _ _, (by repeat (first | (with_reducible first | exact HB.out | apply below_alloc | apply pw_below_drewN | apply below_drew1) | exact HB.out))⟩
  rw [if_pos rfl] at h
  by_cases hn : l0.length ≤ 20 ∧ l1.length = 8
  case neg => rw [if_neg hn] at h; cases h
  rw [if_pos hn] at h
  obtain ⟨r, E3, h⟩ := Option.bind_eq_some_iff.mp h
  have HH := Aside0.mk E3
  have HN := Aside0.mk hn.1
  have H8 := Aside0.mk hn.2
  clear E3 hn
  obtain ⟨rfl, rfl⟩ := Prod.mk.inj (Option.some.inj h)
  clear h
  go_enter Try.func33, Try.ntmps33
  go_upto_region 6 with (first | (go_at_call 44; (with_reducible refine (spec_prJobs.calls k _ _ l0 true _ ?s1 ?s2 HE1.out).mono ?_); (case s1 => first | exact HR0.out | exact Kd.C_below HR0.out (by repeat (first | (with_reducible first | exact HB.out | apply below_alloc | apply pw_below_drewN | apply below_drew1) | exact HB.out))); (case s2 => exact HC0.out); rintro e w5 ⟨rfl, hb⟩; have HB5 := Aside0.mk (below_step (by repeat (first | (with_reducible first | exact HB.out | apply below_alloc | apply pw_below_drewN | apply below_drew1) | exact HB.out)) hb); clear HB hb; have HB := HB5; clear HB5) | ((with_reducible refine gate_callee (f := 44) rfl ?_); refine goesL_ (some 11) rfl rfl Try.func44 (by kernel_rfl) rfl #[.slice A0 l0.length c0] rfl (by (try simp only [List.map_toArray, List.map_cons, List.map_nil]); first | done | rfl) ?_; (with_reducible refine (spec_prJobs.calls k _ _ l0 true _ ?s1 ?s2 HE1.out).mono ?_); (case s1 => first | exact HR0.out | exact Kd.C_below HR0.out (by repeat (first | (with_reducible first | exact HB.out | apply below_alloc | apply pw_below_drewN | apply below_drew1) | exact HB.out))); (case s2 => exact HC0.out); rintro e w5 ⟨rfl, hb⟩; have HB5 := Aside0.mk (below_step (by repeat (first | (with_reducible first | exact HB.out | apply below_alloc | apply pw_below_drewN | apply below_drew1) | exact HB.out)) hb); clear HB hb; have HB := HB5; clear HB5; refine ⟨_, rfl, ?_⟩) | (go_at_call 53; (with_reducible refine (spec_prEight.calls k _ _ l1 40 true _ ?s1 ?s2 HE2.out).mono ?_); (case s1 => exact Kd.C_below HR1.out (by repeat (first | (with_reducible first | exact HB.out | apply below_alloc | apply pw_below_drewN | apply below_drew1) | exact HB.out))); (case s2 => exact HC1.out); rintro e w7 ⟨rfl, ⟨nd, rfl⟩⟩) | ((with_reducible refine gate_callee (f := 53) rfl ?_); refine goesL_ (some 15) rfl rfl Try.func53 (by kernel_rfl) rfl #[.slice A1 l1.length c1, .int .i64 40] rfl (by (try simp only [List.map_toArray, List.map_cons, List.map_nil]); first | done | rfl) ?_; (with_reducible refine (spec_prEight.calls k _ _ l1 40 true _ ?s1 ?s2 HE2.out).mono ?_); (case s1 => exact Kd.C_below HR1.out (by repeat (first | (with_reducible first | exact HB.out | apply below_alloc | apply pw_below_drewN | apply below_drew1) | exact HB.out))); (case s2 => exact HC1.out); rintro e w7 ⟨rfl, ⟨nd, rfl⟩⟩; refine ⟨_, rfl, ?_⟩) | (go_at_call 54; (with_reducible refine (prNew_calls A0 c0 l0 _ ?s1 HN.out).mono ?_); (case s1 => exact Kd.C_below HR0.out (by repeat (first | (with_reducible first | exact HB.out | apply below_alloc | apply pw_below_drewN | apply below_drew1) | exact HB.out))); rintro e w1 ⟨g, rfl, hi, hb⟩; have HRB := Aside0.mk (show Kd.C (Kd.int .i64) (w5.drewN nd) A1 l1.length l1 from Kd.C_below HR1.out (by repeat (first | (with_reducible first | exact HB.out | apply below_alloc | apply pw_below_drewN | apply below_drew1) | exact HB.out))); have HBW := Aside0.mk (show Below w.heap.size w (w5.drewN nd) from (by repeat (first | (with_reducible first | exact HB.out | apply below_alloc | apply pw_below_drewN | apply below_drew1) | exact HB.out))); generalize hwb : w5.drewN nd = wb at hi hb HRB HBW; have HI := Aside0.mk hi; have HB5 := Aside0.mk hb; clear HB hi hb hwb; have HB := HB5; clear HB5) | ((with_reducible refine gate_callee (f := 54) rfl ?_); refine goesL_ (some 19) rfl rfl Try.func54 (by kernel_rfl) rfl #[.slice A0 l0.length c0] rfl (by (try simp only [List.map_toArray, List.map_cons, List.map_nil]); first | done | rfl) ?_; (with_reducible refine (prNew_calls A0 c0 l0 _ ?s1 HN.out).mono ?_); (case s1 => exact Kd.C_below HR0.out (by repeat (first | (with_reducible first | exact HB.out | apply below_alloc | apply pw_below_drewN | apply below_drew1) | exact HB.out))); rintro e w1 ⟨g, rfl, hi, hb⟩; have HRB := Aside0.mk (show Kd.C (Kd.int .i64) (w5.drewN nd) A1 l1.length l1 from Kd.C_below HR1.out (by repeat (first | (with_reducible first | exact HB.out | apply below_alloc | apply pw_below_drewN | apply below_drew1) | exact HB.out))); have HBW := Aside0.mk (show Below w.heap.size w (w5.drewN nd) from (by repeat (first | (with_reducible first | exact HB.out | apply below_alloc | apply pw_below_drewN | apply below_drew1) | exact HB.out))); generalize hwb : w5.drewN nd = wb at hi hb HRB HBW; have HI := Aside0.mk hi; have HB5 := Aside0.mk hb; clear HB hi hb hwb; have HB := HB5; clear HB5; refine ⟨_, rfl, ?_⟩) | ((with_reducible refine gate_dst (N := 20) rfl ?_); refine Kd.R_make (Kd.int .i64) _ 3 rfl (N := 20) rfl 23 _ _ rfl (8 : Int) rfl rfl Try.underlying23 (.int .i64 0) 8 info3 rfl (by decide) (by omega) 0 (ok := fun _ => True) (okp := fun _ => True) rfl (fun _ hk => hk) trivial (by omega) (by decide) (Below.refl _ _) (Nat.le_refl _) ?_; intro cv w2 ho hb hg_ hnew_; clear hg_ hnew_; have HK := Aside0.mk (IsK.of (by repeat (first | exact HI.out | apply IsL.drewN | apply IsL.drew)) (below_size (by repeat (first | (with_reducible first | exact HB.out | apply below_alloc | apply pw_below_drewN | apply below_drew1) | exact HB.out))) hb (by decide) (show Kd.R (Kd.int .i64) 3 w2 _ (fun _ => True) cv (List.replicate 8 0) from ho)); have HB5 := Aside0.mk (below_step (by repeat (first | (with_reducible first | exact HB.out | apply below_alloc | apply pw_below_drewN | apply below_drew1) | exact HB.out)) hb); clear HI HB ho hb; have HB := HB5; clear HB5))
  have HLC := Aside0.mk (show (List.replicate 8 (0 : Int)).length = 8 from rfl)
  obtain ⟨q, cq, ecv, hq0, hqC, ⟨cells, hqb⟩, hqs⟩ := HK.out.credit (by rw [HLC.out]; omega)
  subst ecv
  have HQS := Aside0.mk hqs
  have HQ0 := Aside0.mk hq0
  obtain ⟨ad7, e7, hy7⟩ := Kd.at_int HRB.out 7 (by omega) (by have := H8.out; omega)
  cases e7
  have hy8 : w2.cell? ⟨ad7.block, ad7.off + 7, none⟩ = some (.int .i64 (rd l1 7)) := pw_cell_below HB.out (by have h5 := hy7; simpa [Addr.add] using h5)
  have hq7n : (7 < l1.length) = True := eq_true (by have := H8.out; omega)
  have hq7 : ((7 : Int) < (l1.length : Int)) = True := eq_true (by have := H8.out; omega)
  obtain ⟨adq, eq7, hz7⟩ := Kd.at_int hqC 7 (by omega) (by rw [HLC.out]; omega)
  cases eq7
  have hz8 : w2.cell? ⟨q, 7, none⟩ = some (.int .i64 (rd (List.replicate 8 (0 : Int)) 7)) := by have h5 := hz7; simpa [Addr.add] using h5
  have hzf := blk_frozen hqb 7
  clear hqC hqb hqs hq0 hy7 hz7
  go_wp2
  go_loopg [7, 8] k (fun kq v7 v8 w' => ∃ (starts : List Int) (now done : Int) (cr : List Int) (cls : Int) (q cq : Nat), v7 = .slice (some ⟨q, 0, none⟩) 8 cq ∧ v8 = .int .i64 cls ∧ Aside0 (spec_DeficitStarts.l0 l0 l1 kq starts now done cr cls = some r) ∧ Aside0 (starts.length = l0.length) ∧ Aside0 (cr.length = 8) ∧ Aside0 (IsK (.slice (some ⟨q, 0, none⟩) 8 cq) cr wb w' g l0 starts now done) ∧ Aside0 (Below wb.heap.size wb w'))
  case atStart => exact ⟨_, _, _, _, _, q, cq, rfl, rfl, HH, ⟨List.length_replicate⟩, ⟨by simp [crNew]⟩, ⟨HQS.out 7 (rd l1 7)⟩, ⟨HB.out.setCell (p := ⟨q, 7, none⟩) HQ0.out _⟩⟩
  case round =>
    clear HB HH HK HQS HQ0 HLC hy8 hz8 hzf
    obtain ⟨starts, now, done, cr, cls, q, cq, rfl, rfl, HQ, HL, HLC, HI, HB⟩ := hrel
    cases gk with
    | zero => exact absurd HQ.out (by simp [spec_DeficitStarts.l0])
    | succ k1 =>
      have H := HQ.out
      clear HQ
      rw [spec_DeficitStarts.l0] at H
      obtain ⟨A5, c5, sv, h1, h2, h3, h4⟩ := HI.out
      have HG := Aside0.mk h2
      have H3 := Aside0.mk h3
      have hc3 : wr.cell? ⟨g, 3, none⟩ = some (.int .i64 done) := (blk_cell h1 3).trans rfl
      have hc1 : wr.cell? ⟨g, 1, none⟩ = some sv := (blk_cell h1 1).trans rfl
      have H4 := Aside0.mk h4.1
      clear h1 h2 h3 h4
      by_cases c : done < (l0.length : Int)
      · rw [if_pos c] at H
        have cb : decide (done < (l0.length : Int)) = true := decide_eq_true c
        clear c hc1 H4
        cases hsk : skipB l0 starts now done with
        | true =>
          rw [hsk, if_pos rfl] at H
          have HSK := Aside0.mk hsk
          clear hsk
          go_upto_region 12 with (first | (go_at_call 55; (with_reducible refine (prSkipK_calls (.slice (some ⟨q, 0, none⟩) 8 cq) cr g l0 starts now done wb _ ?s1 ?s2 HL.out HN.out).mono ?_); (case s1 => exact HI.out); (case s2 => exact HB.out); rintro e w8 ⟨rfl, hi, hb⟩; have HI5 := Aside0.mk (show IsK (.slice (some ⟨q, 0, none⟩) 8 cq) cr wb w8 g l0 starts (prNext l0 starts l0.length) done from by rw [HSK.out] at hi; exact hi); have HB5 := Aside0.mk hb; clear HI HB hi hb; have HI := HI5; have HB := HB5; clear HI5 HB5; rw [HSK.out]) | ((with_reducible refine gate_callee (f := 55) rfl ?_); refine goesL_ (some 36) rfl rfl Try.func55 (by kernel_rfl) rfl #[.pointer (some ⟨g, 0, none⟩)] rfl (by (try simp only [List.map_toArray, List.map_cons, List.map_nil]); first | done | rfl) ?_; (with_reducible refine (prSkipK_calls (.slice (some ⟨q, 0, none⟩) 8 cq) cr g l0 starts now done wb _ ?s1 ?s2 HL.out HN.out).mono ?_); (case s1 => exact HI.out); (case s2 => exact HB.out); rintro e w8 ⟨rfl, hi, hb⟩; have HI5 := Aside0.mk (show IsK (.slice (some ⟨q, 0, none⟩) 8 cq) cr wb w8 g l0 starts (prNext l0 starts l0.length) done from by rw [HSK.out] at hi; exact hi); have HB5 := Aside0.mk hb; clear HI HB hi hb; have HI := HI5; have HB := HB5; clear HI5 HB5; rw [HSK.out]; refine ⟨_, rfl, ?_⟩) | ((with_reducible refine gate_dst (N := 37) rfl ?_); refine Kd.R_make (Kd.int .i64) _ 3 rfl (N := 37) rfl 23 _ _ rfl (8 : Int) rfl rfl Try.underlying23 (.int .i64 0) 8 info3 rfl (by decide) (by omega) 0 (ok := fun _ => True) (okp := fun _ => True) rfl (fun _ hk => hk) trivial (by omega) (by decide) (Below.refl _ _) (Nat.le_refl _) ?_; intro cv w9 ho hb hg_ hnew_; clear hg_ hnew_; have HK := Aside0.mk (IsK.of (by repeat (first | exact HI.out.toL | apply IsL.drewN | apply IsL.drew)) (below_size (by repeat (first | (with_reducible first | exact HB.out | apply below_alloc | apply pw_below_drewN | apply below_drew1) | exact HB.out))) hb (by decide) (show Kd.R (Kd.int .i64) 3 w9 _ (fun _ => True) cv (List.replicate 8 0) from ho)); have HB5 := Aside0.mk (below_step (by repeat (first | (with_reducible first | exact HB.out | apply below_alloc | apply pw_below_drewN | apply below_drew1) | exact HB.out)) hb); clear HI HB ho hb; have HB := HB5; clear HB5; obtain ⟨q2, cq2, ecv, hq0, hqC, ⟨cells, hqb⟩, hqs⟩ := HK.out.credit (by decide); subst ecv; have HQS := Aside0.mk hqs; have HQ2 := Aside0.mk hq0; obtain ⟨ad7, e7, hy7⟩ := Kd.at_int HRB.out 7 (by omega) (by have := H8.out; omega); cases e7; have hy8 : w9.cell? ⟨ad7.block, ad7.off + 7, none⟩ = some (.int .i64 (rd l1 7)) := pw_cell_below HB.out (by have h5 := hy7; simpa [Addr.add] using h5); obtain ⟨adq, eq7, hz7⟩ := Kd.at_int hqC 7 (by omega) (by decide); cases eq7; have hz8 : w9.cell? ⟨q2, 7, none⟩ = some (.int .i64 (rd (List.replicate 8 (0 : Int)) 7)) := (by have h5 := hz7; simpa [Addr.add] using h5); have hzf := blk_frozen hqb 7; clear hqC hqb hqs hq0 hy7 hz7))
          obtain ⟨nw, hnw⟩ : ∃ nw, prNext l0 starts l0.length = nw := ⟨_, rfl⟩
          obtain ⟨cr2, hcr2⟩ : ∃ x, crNew l1 = x := ⟨_, rfl⟩
          have HI7 := Aside0.mk (show IsK (.slice (some ⟨q2, 0, none⟩) 8 cq2) (crNew l1) wb (w9.setCell ⟨q2, 7, none⟩ (.int .i64 (rd l1 7))) g l0 starts (prNext l0 starts l0.length) done from HQS.out 7 (rd l1 7))
          have HB7 := Aside0.mk (show Below wb.heap.size wb (w9.setCell ⟨q2, 7, none⟩ (.int .i64 (rd l1 7))) from HB.out.setCell (p := ⟨q2, 7, none⟩) HQ2.out _)
          have HLC2 := Aside0.mk (show (crNew l1).length = 8 by simp [crNew])
          rw [hnw, hcr2] at H HI7
          rw [hcr2] at HLC2
          obtain ⟨mc, hmc, hm8⟩ : ∃ mc : Nat, (mc : Int) = 7 ∧ mc < 8 := ⟨7, rfl, by omega⟩
          rw [← hmc] at H
          rw [show Value.int .i64 7 = Value.int .i64 (mc : Int) by rw [hmc]]
          clear HB HLC hnw hcr2 HSK HQS HQ2 hz8 hzf hy8 HK
          have HMC := Aside0.mk hmc
          clear hmc
          have HI := HI7
          have HB := HB7
          have HLC := HLC2
          clear HI7 HB7 HLC2
          obtain ⟨fi, E4, H⟩ := Option.bind_eq_some_iff.mp H
          have HE4 := Aside0.mk E4
          clear E4
          rw [if_pos ⟨by omega, by omega⟩] at H
          have HM8 := Aside0.mk hm8
          obtain ⟨j, hj8, hnj⟩ := nxD_nat mc hm8
          have HNJ := Aside0.mk (show Int.tmod (wrap64 ((mc : Int) + 7)) 8 = (j : Int) from hnj)
          have HNJ2 := Aside0.mk (show ((mc : Int) + 7) % 8 = (j : Int) by rw [← hnj]; unfold nxD; rw [wrap_small (by omega) (by omega), Int.tmod_eq_emod_of_nonneg (by omega)])
          rw [hnj, Int.toNat_natCast] at H
          obtain ⟨f1, hf1⟩ : ∃ x, fi.1 = x := ⟨_, rfl⟩
          have HF1 := Aside0.mk hf1
          rw [hf1] at H
          clear hf1 hnj
          go_upto_region 13 with (first | (go_at_call 56; (with_reducible refine (prFirstK_q k1 g l0 starts nw done (mc : Int) f1 (.slice (some ⟨q2, 0, none⟩) 8 cq2) cr2 wb _ ?s1 ?s2 fi HE4.out HF1.out).mono ?_); (case s1 => exact HI.out); (case s2 => exact HB.out); rintro e w6 ⟨rfl, hi, hb⟩; have HI5 := Aside0.mk hi; have HB5 := Aside0.mk hb; clear HI HB hi hb; have HI := HI5; have HB := HB5; clear HI5 HB5) | ((with_reducible refine gate_callee (f := 56) rfl ?_); refine goesL_ (some 47) rfl rfl Try.func56 (by kernel_rfl) rfl #[.pointer (some ⟨g, 0, none⟩), .int .i64 (mc : Int)] rfl (by (try simp only [List.map_toArray, List.map_cons, List.map_nil]); first | done | rfl) ?_; (with_reducible refine (prFirstK_q k1 g l0 starts nw done (mc : Int) f1 (.slice (some ⟨q2, 0, none⟩) 8 cq2) cr2 wb _ ?s1 ?s2 fi HE4.out HF1.out).mono ?_); (case s1 => exact HI.out); (case s2 => exact HB.out); rintro e w6 ⟨rfl, hi, hb⟩; have HI5 := Aside0.mk hi; have HB5 := Aside0.mk hb; clear HI HB hi hb; have HI := HI5; have HB := HB5; clear HI5 HB5; refine ⟨_, rfl, ?_⟩))
          obtain ⟨hq0, hqx, hqf, hqs⟩ := HI.out.credit2 (by rw [HLC.out]; omega)
          have HQ0 := Aside0.mk hq0
          have HQX := Aside0.mk (show ∀ i : Nat, i < 8 → w6.cell? ⟨q2, i, none⟩ = some (.int .i64 (rd cr2 (i : Int))) from fun i hi => hqx i (by rw [HLC.out]; exact hi))
          have HQF := Aside0.mk hqf
          have hx1 := HQX.out mc hm8
          have hf1 := HQF.out mc
          have hmc1 : ((mc : Int) < 8) = True := eq_true (by omega)
          have hmc2 : (mc < 8) = True := eq_true hm8
          have hj1 : ((j : Int) < 8) = True := eq_true (by omega)
          have hj2 : (j < 8) = True := eq_true hj8
          have hl1 : ((j : Int) < (l1.length : Int)) = True := eq_true (by have := H8.out; omega)
          have hl2 : (j < l1.length) = True := eq_true (by have := H8.out; omega)
          obtain ⟨adz, ez, hyj⟩ := Kd.at_int HRB.out (j : Int) (by omega) (by have := H8.out; omega)
          cases ez
          rw [Int.toNat_natCast] at hyj
          have HYJ := Aside0.mk (pw_cell_below HB.out hyj)
          clear hq0 hqx hqf hqs hyj
          by_cases ci : 0 ≤ f1
          · rw [if_pos ci] at H
            have cib : decide (f1 ≥ 0) = true := decide_eq_true ci
            have cib2 : decide (0 ≤ f1) = true := decide_eq_true ci
            have cib3 : decide (f1 < 0) = false := decide_eq_false (by omega)
            by_cases cj : f1 < (l0.length : Int)
            case neg => rw [if_neg cj] at H; cases H
            rw [if_pos cj] at H
            obtain ⟨m, rfl⟩ := Int.eq_ofNat_of_zero_le ci
            have hp : 0 ≤ (m : Int) := by omega
            have hq : (m : Int) < (l0.length : Int) := cj
            obtain ⟨adj, ej, hz0, hz1, hz2⟩ := at_T43 HR0.out (m : Int) hp hq
            cases ej
            simp only [Int.toNat_natCast] at hz0 hz1 hz2
            replace hz2 := pw_cell_below HB.out (pw_cell_below HBW.out hz2)
            replace hp := eq_true hp
            replace hq := eq_true hq
            have HMJ := Aside0.mk (show m < l0.length by omega)
            have HMS := Aside0.mk (show m < starts.length by have := HL.out; omega)
            have hq2 : (m < l0.length) = True := eq_true HMJ.out
            clear hz0 hz1 ci cj
            by_cases cs : (rd_T43 l0 (m : Int)).f2 ≤ rd cr2 (mc : Int)
            · rw [if_pos cs] at H
              have csb : decide ((rd_T43 l0 (m : Int)).f2 ≤ rd cr2 (mc : Int)) = true := decide_eq_true cs
              rw [Int.toNat_natCast] at H
              have H' := Aside0.mk H
              clear H cs
              go_quiet (fail)
              obtain ⟨wd, hwd⟩ : ∃ x, w6.drewN nq = x := ⟨_, rfl⟩
              have HID := Aside0.mk (show IsK (.slice (some ⟨q2, 0, none⟩) 8 cq2) cr2 wb wd g l0 starts nw done from by rw [← hwd]; exact HI.out)
              have HBD := Aside0.mk (show Below wb.heap.size wb wd from by rw [← hwd]; exact pw_below_drewN HB.out _)
              have HYD := Aside0.mk (show wd.cell? (ad7.add j) = some (.int .i64 (rd l1 (j : Int))) from by rw [← hwd]; exact HYJ.out)
              have hzd : wd.cell? ⟨(adj.add (m * 3)).block, (adj.add (m * 3)).off + 2, none⟩ = some (.int .i64 (rd_T43 l0 (m : Int)).f2) := by rw [← hwd]; exact hz2
              rw [hwd]
              clear hwd hx1 hf1 hz2
              obtain ⟨_, hqx2, hqf2, hqs⟩ := HID.out.credit2 (by rw [HLC.out]; omega)
              have HQS := Aside0.mk hqs
              have hk1 := hqx2 mc (by rw [HLC.out]; exact hm8)
              have hk2 := hqf2 mc
              clear hqs hqx2 hqf2
              go_upto_region 14 with (fail)
              go_cut [] (fun wc => Aside0 (IsK (.slice (some ⟨q2, 0, none⟩) 8 cq2) (cr2.set mc (wrap64 (rd cr2 (mc : Int) - (rd_T43 l0 (m : Int)).f2))) wb wc g l0 starts nw done) ∧ Aside0 (Below wb.heap.size wb wc))
              case first =>
                go_still_tail 11, (by kernel_rfl)
                change wpList _ _ _ _ _ (World.drew _)
                go_wp2
                go_meet
                exact ⟨⟨IsK.drew (HQS.out mc _)⟩, ⟨below_drew1 (show Below wb.heap.size wb (wd.setCell ⟨q2, mc, none⟩ _) from Below.setCell HBD.out HQ0.out _)⟩⟩
              case rest =>
                clear hzd hk1 hk2 HQX HQF HYJ HI HB HQS HID HBD HYD
                obtain ⟨HI, HB⟩ := hcut
                go_wp2_with (first | (go_at_call 57; (with_reducible refine (prBeginK_calls (.slice (some ⟨q2, 0, none⟩) 8 cq2) (cr2.set mc (wrap64 (rd cr2 (mc : Int) - (rd_T43 l0 (m : Int)).f2))) g m l0 starts nw done wb _ ?s1 ?s2 HMS.out HMJ.out).mono ?_); (case s1 => exact HI.out); (case s2 => exact HB.out); rintro e w7 ⟨rfl, hi, hb⟩; have HI5 := Aside0.mk hi; have HB5 := Aside0.mk hb; clear HI HB hi hb; have HI := HI5; have HB := HB5; clear HI5 HB5) | ((with_reducible refine gate_callee (f := 57) rfl ?_); refine goesL_ (some 75) rfl rfl Try.func57 (by kernel_rfl) rfl #[.pointer (some ⟨g, 0, none⟩), .int .i64 (m : Int)] rfl (by (try simp only [List.map_toArray, List.map_cons, List.map_nil]); first | done | rfl) ?_; (with_reducible refine (prBeginK_calls (.slice (some ⟨q2, 0, none⟩) 8 cq2) (cr2.set mc (wrap64 (rd cr2 (mc : Int) - (rd_T43 l0 (m : Int)).f2))) g m l0 starts nw done wb _ ?s1 ?s2 HMS.out HMJ.out).mono ?_); (case s1 => exact HI.out); (case s2 => exact HB.out); rintro e w7 ⟨rfl, hi, hb⟩; have HI5 := Aside0.mk hi; have HB5 := Aside0.mk hb; clear HI HB hi hb; have HI := HI5; have HB := HB5; clear HI5 HB5; refine ⟨_, rfl, ?_⟩))
                rw [HMC.out]
                go_roundg k1
                case measure => omega
                case rel => exact ⟨_, _, _, _, (mc : Int), q2, cq2, rfl, (by rw [HMC.out]), H', ⟨by rw [List.length_set]; exact HL.out⟩, ⟨by rw [List.length_set]; exact HLC.out⟩, ⟨(by repeat (first | exact HI.out | apply IsK.drewN | apply IsK.drew))⟩, ⟨(by repeat (first | (with_reducible first | exact HB.out | apply below_alloc | apply pw_below_drewN | apply below_drew1) | exact HB.out))⟩⟩
            · rw [if_neg cs] at H
              have csb : decide ((rd_T43 l0 (m : Int)).f2 ≤ rd cr2 (mc : Int)) = false := decide_eq_false cs
              unfold addQ at H
              rw [Int.toNat_natCast] at H
              have H' := Aside0.mk H
              clear H cs
              go_quiet (fail)
              obtain ⟨wd, hwd⟩ : ∃ x, w6.drewN nq = x := ⟨_, rfl⟩
              have HID := Aside0.mk (show IsK (.slice (some ⟨q2, 0, none⟩) 8 cq2) cr2 wb wd g l0 starts nw done from by rw [← hwd]; exact HI.out)
              have HBD := Aside0.mk (show Below wb.heap.size wb wd from by rw [← hwd]; exact pw_below_drewN HB.out _)
              have HYD := Aside0.mk (show wd.cell? (ad7.add j) = some (.int .i64 (rd l1 (j : Int))) from by rw [← hwd]; exact HYJ.out)
              rw [hwd]
              clear hwd hx1 hf1 hz2
              obtain ⟨_, hqx2, hqf2, hqs⟩ := HID.out.credit2 (by rw [HLC.out]; omega)
              have HQS := Aside0.mk hqs
              have HK1 := Aside0.mk (hqx2 j (by rw [HLC.out]; exact hj8))
              have HK2 := Aside0.mk (hqf2 j)
              clear hqs hqx2 hqf2
              go_upto_region 19 with (fail)
              first | rw [HNJ.out] | rw [HNJ2.out]
              have hk1 := HK1.out
              have hk2 := HK2.out
              have hk3 := HYD.out
              go_still_tail 10, (by kernel_rfl)
              change wpList _ _ _ _ _ (World.drew _)
              go_wp2
              rw [HMC.out]
              go_roundg k1
              case measure => omega
              case rel => exact ⟨_, _, _, _, _, q2, cq2, rfl, rfl, H', HL, ⟨by rw [List.length_set]; exact HLC.out⟩, ⟨IsK.drew (HQS.out j _)⟩, ⟨below_drew1 (show Below wb.heap.size wb (wd.setCell ⟨q2, j, none⟩ _) from Below.setCell HBD.out HQ0.out _)⟩⟩
          · rw [if_neg ci] at H
            have cib : decide (f1 ≥ 0) = false := decide_eq_false ci
            have cib2 : decide (0 ≤ f1) = false := decide_eq_false ci
            have cib3 : decide (f1 < 0) = true := decide_eq_true (by omega)
            unfold addQ at H
            rw [Int.toNat_natCast] at H
            have H' := Aside0.mk H
            clear H ci
            go_quiet (fail)
            obtain ⟨wd, hwd⟩ : ∃ x, w6.drewN nq = x := ⟨_, rfl⟩
            have HID := Aside0.mk (show IsK (.slice (some ⟨q2, 0, none⟩) 8 cq2) cr2 wb wd g l0 starts nw done from by rw [← hwd]; exact HI.out)
            have HBD := Aside0.mk (show Below wb.heap.size wb wd from by rw [← hwd]; exact pw_below_drewN HB.out _)
            have HYD := Aside0.mk (show wd.cell? (ad7.add j) = some (.int .i64 (rd l1 (j : Int))) from by rw [← hwd]; exact HYJ.out)
            rw [hwd]
            clear hwd hx1 hf1
            obtain ⟨_, hqx2, hqf2, hqs⟩ := HID.out.credit2 (by rw [HLC.out]; omega)
            have hk1 := hqx2 mc (by rw [HLC.out]; exact hm8)
            have hk2 := hqf2 mc
            have HI2 := Aside0.mk (hqs mc 0)
            have HB2 := Aside0.mk (show Below wb.heap.size wb (wd.setCell ⟨q2, mc, none⟩ (.int .i64 0)) from Below.setCell HBD.out HQ0.out _)
            clear hqs hqx2 hqf2
            go_upto_region 19 with (fail)
            first | rw [HNJ.out] | rw [HNJ2.out]
            have HLC2 := Aside0.mk (show (cr2.set mc 0).length = 8 by rw [List.length_set]; exact HLC.out)
            obtain ⟨we, hwe⟩ : ∃ x, wd.setCell ⟨q2, mc, none⟩ (.int .i64 0) = x := ⟨_, rfl⟩
            rw [hwe] at HI2 HB2
            rw [hwe]
            obtain ⟨_, hqx2, hqf2, hqs2⟩ := HI2.out.credit2 (by rw [HLC2.out]; omega)
            have HQS := Aside0.mk hqs2
            clear hk1 hk2
            have hk1 := hqx2 j (by rw [HLC2.out]; exact hj8)
            have hk2 := hqf2 j
            obtain ⟨adz2, ez2, hyj⟩ := Kd.at_int HRB.out (j : Int) (by omega) (by have := H8.out; omega)
            cases ez2
            rw [Int.toNat_natCast] at hyj
            have hk3 := pw_cell_below HB2.out hyj
            clear hqx2 hqf2 hqs2 hyj hwe
            go_still_tail 10, (by kernel_rfl)
            change wpList _ _ _ _ _ (World.drew _)
            go_wp2
            rw [HMC.out]
            go_roundg k1
            case measure => omega
            case rel => exact ⟨_, _, _, _, _, q2, cq2, rfl, rfl, H', HL, ⟨by rw [List.length_set]; exact HLC2.out⟩, ⟨IsK.drew (HQS.out j _)⟩, ⟨below_drew1 (show Below wb.heap.size wb (we.setCell ⟨q2, j, none⟩ _) from Below.setCell HB2.out HQ0.out _)⟩⟩
        | false =>
          rw [hsk, if_neg (by decide)] at H
          have HSK := Aside0.mk hsk
          clear hsk
          obtain ⟨fi, E4, H⟩ := Option.bind_eq_some_iff.mp H
          have HE4 := Aside0.mk E4
          clear E4
          by_cases cc : 0 ≤ cls ∧ cls < (8 : Int)
          case neg => rw [if_neg cc] at H; cases H
          rw [if_pos cc] at H
          obtain ⟨mc, rfl⟩ := Int.eq_ofNat_of_zero_le cc.1
          have hm8 : mc < 8 := by omega
          clear cc
          go_upto_region 12 with (first | (go_at_call 55; (with_reducible refine (prSkipK_calls (.slice (some ⟨q, 0, none⟩) 8 cq) cr g l0 starts now done wb _ ?s1 ?s2 HL.out HN.out).mono ?_); (case s1 => exact HI.out); (case s2 => exact HB.out); rintro e w8 ⟨rfl, hi, hb⟩; have HI5 := Aside0.mk (show IsK (.slice (some ⟨q, 0, none⟩) 8 cq) cr wb w8 g l0 starts now done from by rw [HSK.out] at hi; exact hi); have HB5 := Aside0.mk hb; clear HI HB hi hb; have HI := HI5; have HB := HB5; clear HI5 HB5; rw [HSK.out]) | ((with_reducible refine gate_callee (f := 55) rfl ?_); refine goesL_ (some 36) rfl rfl Try.func55 (by kernel_rfl) rfl #[.pointer (some ⟨g, 0, none⟩)] rfl (by (try simp only [List.map_toArray, List.map_cons, List.map_nil]); first | done | rfl) ?_; (with_reducible refine (prSkipK_calls (.slice (some ⟨q, 0, none⟩) 8 cq) cr g l0 starts now done wb _ ?s1 ?s2 HL.out HN.out).mono ?_); (case s1 => exact HI.out); (case s2 => exact HB.out); rintro e w8 ⟨rfl, hi, hb⟩; have HI5 := Aside0.mk (show IsK (.slice (some ⟨q, 0, none⟩) 8 cq) cr wb w8 g l0 starts now done from by rw [HSK.out] at hi; exact hi); have HB5 := Aside0.mk hb; clear HI HB hi hb; have HI := HI5; have HB := HB5; clear HI5 HB5; rw [HSK.out]; refine ⟨_, rfl, ?_⟩))
          clear HSK
          have HM8 := Aside0.mk hm8
          obtain ⟨j, hj8, hnj⟩ := nxD_nat mc hm8
          have HNJ := Aside0.mk (show Int.tmod (wrap64 ((mc : Int) + 7)) 8 = (j : Int) from hnj)
          have HNJ2 := Aside0.mk (show ((mc : Int) + 7) % 8 = (j : Int) by rw [← hnj]; unfold nxD; rw [wrap_small (by omega) (by omega), Int.tmod_eq_emod_of_nonneg (by omega)])
          rw [hnj, Int.toNat_natCast] at H
          obtain ⟨f1, hf1⟩ : ∃ x, fi.1 = x := ⟨_, rfl⟩
          have HF1 := Aside0.mk hf1
          rw [hf1] at H
          clear hf1 hnj
          go_upto_region 13 with (first | (go_at_call 56; (with_reducible refine (prFirstK_q k1 g l0 starts now done (mc : Int) f1 (.slice (some ⟨q, 0, none⟩) 8 cq) cr wb _ ?s1 ?s2 fi HE4.out HF1.out).mono ?_); (case s1 => exact HI.out); (case s2 => exact HB.out); rintro e w6 ⟨rfl, hi, hb⟩; have HI5 := Aside0.mk hi; have HB5 := Aside0.mk hb; clear HI HB hi hb; have HI := HI5; have HB := HB5; clear HI5 HB5) | ((with_reducible refine gate_callee (f := 56) rfl ?_); refine goesL_ (some 47) rfl rfl Try.func56 (by kernel_rfl) rfl #[.pointer (some ⟨g, 0, none⟩), .int .i64 (mc : Int)] rfl (by (try simp only [List.map_toArray, List.map_cons, List.map_nil]); first | done | rfl) ?_; (with_reducible refine (prFirstK_q k1 g l0 starts now done (mc : Int) f1 (.slice (some ⟨q, 0, none⟩) 8 cq) cr wb _ ?s1 ?s2 fi HE4.out HF1.out).mono ?_); (case s1 => exact HI.out); (case s2 => exact HB.out); rintro e w6 ⟨rfl, hi, hb⟩; have HI5 := Aside0.mk hi; have HB5 := Aside0.mk hb; clear HI HB hi hb; have HI := HI5; have HB := HB5; clear HI5 HB5; refine ⟨_, rfl, ?_⟩))
          obtain ⟨hq0, hqx, hqf, hqs⟩ := HI.out.credit2 (by rw [HLC.out]; omega)
          have HQ0 := Aside0.mk hq0
          have HQX := Aside0.mk (show ∀ i : Nat, i < 8 → w6.cell? ⟨q, i, none⟩ = some (.int .i64 (rd cr (i : Int))) from fun i hi => hqx i (by rw [HLC.out]; exact hi))
          have HQF := Aside0.mk hqf
          have hx1 := HQX.out mc hm8
          have hf1 := HQF.out mc
          have hmc1 : ((mc : Int) < 8) = True := eq_true (by omega)
          have hmc2 : (mc < 8) = True := eq_true hm8
          have hj1 : ((j : Int) < 8) = True := eq_true (by omega)
          have hj2 : (j < 8) = True := eq_true hj8
          have hl1 : ((j : Int) < (l1.length : Int)) = True := eq_true (by have := H8.out; omega)
          have hl2 : (j < l1.length) = True := eq_true (by have := H8.out; omega)
          obtain ⟨adz, ez, hyj⟩ := Kd.at_int HRB.out (j : Int) (by omega) (by have := H8.out; omega)
          cases ez
          rw [Int.toNat_natCast] at hyj
          have HYJ := Aside0.mk (pw_cell_below HB.out hyj)
          clear hq0 hqx hqf hqs hyj
          by_cases ci : 0 ≤ f1
          · rw [if_pos ci] at H
            have cib : decide (f1 ≥ 0) = true := decide_eq_true ci
            have cib2 : decide (0 ≤ f1) = true := decide_eq_true ci
            have cib3 : decide (f1 < 0) = false := decide_eq_false (by omega)
            by_cases cj : f1 < (l0.length : Int)
            case neg => rw [if_neg cj] at H; cases H
            rw [if_pos cj] at H
            obtain ⟨m, rfl⟩ := Int.eq_ofNat_of_zero_le ci
            have hp : 0 ≤ (m : Int) := by omega
            have hq : (m : Int) < (l0.length : Int) := cj
            obtain ⟨adj, ej, hz0, hz1, hz2⟩ := at_T43 HR0.out (m : Int) hp hq
            cases ej
            simp only [Int.toNat_natCast] at hz0 hz1 hz2
            replace hz2 := pw_cell_below HB.out (pw_cell_below HBW.out hz2)
            replace hp := eq_true hp
            replace hq := eq_true hq
            have HMJ := Aside0.mk (show m < l0.length by omega)
            have HMS := Aside0.mk (show m < starts.length by have := HL.out; omega)
            have hq2 : (m < l0.length) = True := eq_true HMJ.out
            clear hz0 hz1 ci cj
            by_cases cs : (rd_T43 l0 (m : Int)).f2 ≤ rd cr (mc : Int)
            · rw [if_pos cs] at H
              have csb : decide ((rd_T43 l0 (m : Int)).f2 ≤ rd cr (mc : Int)) = true := decide_eq_true cs
              rw [Int.toNat_natCast] at H
              have H' := Aside0.mk H
              clear H cs
              go_quiet (fail)
              obtain ⟨wd, hwd⟩ : ∃ x, w6.drewN nq = x := ⟨_, rfl⟩
              have HID := Aside0.mk (show IsK (.slice (some ⟨q, 0, none⟩) 8 cq) cr wb wd g l0 starts now done from by rw [← hwd]; exact HI.out)
              have HBD := Aside0.mk (show Below wb.heap.size wb wd from by rw [← hwd]; exact pw_below_drewN HB.out _)
              have HYD := Aside0.mk (show wd.cell? (ad7.add j) = some (.int .i64 (rd l1 (j : Int))) from by rw [← hwd]; exact HYJ.out)
              have hzd : wd.cell? ⟨(adj.add (m * 3)).block, (adj.add (m * 3)).off + 2, none⟩ = some (.int .i64 (rd_T43 l0 (m : Int)).f2) := by rw [← hwd]; exact hz2
              rw [hwd]
              clear hwd hx1 hf1 hz2
              obtain ⟨_, hqx2, hqf2, hqs⟩ := HID.out.credit2 (by rw [HLC.out]; omega)
              have HQS := Aside0.mk hqs
              have hk1 := hqx2 mc (by rw [HLC.out]; exact hm8)
              have hk2 := hqf2 mc
              clear hqs hqx2 hqf2
              go_upto_region 14 with (fail)
              go_cut [] (fun wc => Aside0 (IsK (.slice (some ⟨q, 0, none⟩) 8 cq) (cr.set mc (wrap64 (rd cr (mc : Int) - (rd_T43 l0 (m : Int)).f2))) wb wc g l0 starts now done) ∧ Aside0 (Below wb.heap.size wb wc))
              case first =>
                go_still_tail 11, (by kernel_rfl)
                change wpList _ _ _ _ _ (World.drew _)
                go_wp2
                go_meet
                exact ⟨⟨IsK.drew (HQS.out mc _)⟩, ⟨below_drew1 (show Below wb.heap.size wb (wd.setCell ⟨q, mc, none⟩ _) from Below.setCell HBD.out HQ0.out _)⟩⟩
              case rest =>
                clear hzd hk1 hk2 HQX HQF HYJ HI HB HQS HID HBD HYD
                obtain ⟨HI, HB⟩ := hcut
                go_wp2_with (first | (go_at_call 57; (with_reducible refine (prBeginK_calls (.slice (some ⟨q, 0, none⟩) 8 cq) (cr.set mc (wrap64 (rd cr (mc : Int) - (rd_T43 l0 (m : Int)).f2))) g m l0 starts now done wb _ ?s1 ?s2 HMS.out HMJ.out).mono ?_); (case s1 => exact HI.out); (case s2 => exact HB.out); rintro e w7 ⟨rfl, hi, hb⟩; have HI5 := Aside0.mk hi; have HB5 := Aside0.mk hb; clear HI HB hi hb; have HI := HI5; have HB := HB5; clear HI5 HB5) | ((with_reducible refine gate_callee (f := 57) rfl ?_); refine goesL_ (some 75) rfl rfl Try.func57 (by kernel_rfl) rfl #[.pointer (some ⟨g, 0, none⟩), .int .i64 (m : Int)] rfl (by (try simp only [List.map_toArray, List.map_cons, List.map_nil]); first | done | rfl) ?_; (with_reducible refine (prBeginK_calls (.slice (some ⟨q, 0, none⟩) 8 cq) (cr.set mc (wrap64 (rd cr (mc : Int) - (rd_T43 l0 (m : Int)).f2))) g m l0 starts now done wb _ ?s1 ?s2 HMS.out HMJ.out).mono ?_); (case s1 => exact HI.out); (case s2 => exact HB.out); rintro e w7 ⟨rfl, hi, hb⟩; have HI5 := Aside0.mk hi; have HB5 := Aside0.mk hb; clear HI HB hi hb; have HI := HI5; have HB := HB5; clear HI5 HB5; refine ⟨_, rfl, ?_⟩))
                skip
                go_roundg k1
                case measure => omega
                case rel => exact ⟨_, _, _, _, (mc : Int), q, cq, rfl, rfl, H', ⟨by rw [List.length_set]; exact HL.out⟩, ⟨by rw [List.length_set]; exact HLC.out⟩, ⟨(by repeat (first | exact HI.out | apply IsK.drewN | apply IsK.drew))⟩, ⟨(by repeat (first | (with_reducible first | exact HB.out | apply below_alloc | apply pw_below_drewN | apply below_drew1) | exact HB.out))⟩⟩
            · rw [if_neg cs] at H
              have csb : decide ((rd_T43 l0 (m : Int)).f2 ≤ rd cr (mc : Int)) = false := decide_eq_false cs
              unfold addQ at H
              rw [Int.toNat_natCast] at H
              have H' := Aside0.mk H
              clear H cs
              go_quiet (fail)
              obtain ⟨wd, hwd⟩ : ∃ x, w6.drewN nq = x := ⟨_, rfl⟩
              have HID := Aside0.mk (show IsK (.slice (some ⟨q, 0, none⟩) 8 cq) cr wb wd g l0 starts now done from by rw [← hwd]; exact HI.out)
              have HBD := Aside0.mk (show Below wb.heap.size wb wd from by rw [← hwd]; exact pw_below_drewN HB.out _)
              have HYD := Aside0.mk (show wd.cell? (ad7.add j) = some (.int .i64 (rd l1 (j : Int))) from by rw [← hwd]; exact HYJ.out)
              rw [hwd]
              clear hwd hx1 hf1 hz2
              obtain ⟨_, hqx2, hqf2, hqs⟩ := HID.out.credit2 (by rw [HLC.out]; omega)
              have HQS := Aside0.mk hqs
              have HK1 := Aside0.mk (hqx2 j (by rw [HLC.out]; exact hj8))
              have HK2 := Aside0.mk (hqf2 j)
              clear hqs hqx2 hqf2
              go_upto_region 19 with (fail)
              first | rw [HNJ.out] | rw [HNJ2.out]
              have hk1 := HK1.out
              have hk2 := HK2.out
              have hk3 := HYD.out
              go_still_tail 10, (by kernel_rfl)
              change wpList _ _ _ _ _ (World.drew _)
              go_wp2
              skip
              go_roundg k1
              case measure => omega
              case rel => exact ⟨_, _, _, _, _, q, cq, rfl, rfl, H', HL, ⟨by rw [List.length_set]; exact HLC.out⟩, ⟨IsK.drew (HQS.out j _)⟩, ⟨below_drew1 (show Below wb.heap.size wb (wd.setCell ⟨q, j, none⟩ _) from Below.setCell HBD.out HQ0.out _)⟩⟩
          · rw [if_neg ci] at H
            have cib : decide (f1 ≥ 0) = false := decide_eq_false ci
            have cib2 : decide (0 ≤ f1) = false := decide_eq_false ci
            have cib3 : decide (f1 < 0) = true := decide_eq_true (by omega)
            unfold addQ at H
            rw [Int.toNat_natCast] at H
            have H' := Aside0.mk H
            clear H ci
            go_quiet (fail)
            obtain ⟨wd, hwd⟩ : ∃ x, w6.drewN nq = x := ⟨_, rfl⟩
            have HID := Aside0.mk (show IsK (.slice (some ⟨q, 0, none⟩) 8 cq) cr wb wd g l0 starts now done from by rw [← hwd]; exact HI.out)
            have HBD := Aside0.mk (show Below wb.heap.size wb wd from by rw [← hwd]; exact pw_below_drewN HB.out _)
            have HYD := Aside0.mk (show wd.cell? (ad7.add j) = some (.int .i64 (rd l1 (j : Int))) from by rw [← hwd]; exact HYJ.out)
            rw [hwd]
            clear hwd hx1 hf1
            obtain ⟨_, hqx2, hqf2, hqs⟩ := HID.out.credit2 (by rw [HLC.out]; omega)
            have hk1 := hqx2 mc (by rw [HLC.out]; exact hm8)
            have hk2 := hqf2 mc
            have HI2 := Aside0.mk (hqs mc 0)
            have HB2 := Aside0.mk (show Below wb.heap.size wb (wd.setCell ⟨q, mc, none⟩ (.int .i64 0)) from Below.setCell HBD.out HQ0.out _)
            clear hqs hqx2 hqf2
            go_upto_region 19 with (fail)
            first | rw [HNJ.out] | rw [HNJ2.out]
            have HLC2 := Aside0.mk (show (cr.set mc 0).length = 8 by rw [List.length_set]; exact HLC.out)
            obtain ⟨we, hwe⟩ : ∃ x, wd.setCell ⟨q, mc, none⟩ (.int .i64 0) = x := ⟨_, rfl⟩
            rw [hwe] at HI2 HB2
            rw [hwe]
            obtain ⟨_, hqx2, hqf2, hqs2⟩ := HI2.out.credit2 (by rw [HLC2.out]; omega)
            have HQS := Aside0.mk hqs2
            clear hk1 hk2
            have hk1 := hqx2 j (by rw [HLC2.out]; exact hj8)
            have hk2 := hqf2 j
            obtain ⟨adz2, ez2, hyj⟩ := Kd.at_int HRB.out (j : Int) (by omega) (by have := H8.out; omega)
            cases ez2
            rw [Int.toNat_natCast] at hyj
            have hk3 := pw_cell_below HB2.out hyj
            clear hqx2 hqf2 hqs2 hyj hwe
            go_still_tail 10, (by kernel_rfl)
            change wpList _ _ _ _ _ (World.drew _)
            go_wp2
            skip
            go_roundg k1
            case measure => omega
            case rel => exact ⟨_, _, _, _, _, q, cq, rfl, rfl, H', HL, ⟨by rw [List.length_set]; exact HLC2.out⟩, ⟨IsK.drew (HQS.out j _)⟩, ⟨below_drew1 (show Below wb.heap.size wb (we.setCell ⟨q, j, none⟩ _) from Below.setCell HB2.out HQ0.out _)⟩⟩
      · rw [if_neg c] at H
        have cb : decide (done < (l0.length : Int)) = false := decide_eq_false c
        obtain rfl := Option.some.inj H
        obtain ⟨A3, c3, e3⟩ := Kd.R_slice H4.out
        subst e3
        clear c H
        go_wp2
        go_ret2
        exact ⟨_, rfl, Kd.R_lower (Kd.R_mono H4.out (fun _ _ => trivial)) (below_size HBW.out), below_step HBW.out HB.out⟩

end Go.Proofs.Ytkkgnjdepgmjlaa.X

/- What the functions of the program come to, and that they do: written by this session's program wip/xprint.py out of the translation; parts named extern are typed by hand. -/
namespace Go.Proofs.Ytkkgnjdepgmjlaa.X
open Go.RowKit Go.Proofs.YtkkgnjdepgmjlaaW.PrintWords Go.Proofs.YtkkgnjdepgmjlaaW.PrintLast Go.Proofs.YtkkgnjdepgmjlaaW.PrintMore
attribute [local go_sem] max2_int min2_int max_two min_two max_three min_three max_four min_four   -- for this text's walks alone
set_option linter.unusedVariables false
set_option linter.unusedSimpArgs false

/-! ### impl_DeficitStarts: function 34 -/
/- EXTERN, by hand (wip/hand/defimpl.py): classes take turns with credits. -/
def crv (cr : List Int) : Array Value := (cr.map (Value.int .i64)).toArray
theorem crv_set (cr : List Int) (i : Nat) (x : Int) : (crv cr).setIfInBounds i (.int .i64 x) = crv (cr.set i x) := by
  unfold crv
  rw [List.setIfInBounds_toArray, List.map_set]
theorem crv_get (cr : List Int) (i : Nat) (hi : i < cr.length) : (crv cr)[i]? = some (.int .i64 (rd cr (i : Int))) := by
  unfold crv
  simp [rd, List.getD_eq_getElem?_getD, List.getElem?_eq_getElem hi]
def DeP (b1 b2 b3 b4 b5 : Nat) (A1 : Option Addr) (n c1 : Nat) (A0 : Option Addr) (m c0 : Nat) (W : World) (s : Int × Bool × List Int) : Prop := W.heap[b1]? = some (.cells #[.int .i64 s.1] 3 (0, 0)) ∧ W.heap[b2]? = some (.cells #[.bool s.2.1] 4 (0, 0)) ∧ W.heap[b3]? = some (.cells (crv s.2.2) 65 (0, 0)) ∧ W.heap[b4]? = some (.cells #[.slice A1 n c1] 23 (0, 0)) ∧ W.heap[b5]? = some (.cells #[.slice A0 m c0] 27 (0, 0)) ∧ s.2.2.length = 8
theorem DeP.below {b1 b2 b3 b4 b5 : Nat} {A1 : Option Addr} {n c1 : Nat} {A0 : Option Addr} {m c0 : Nat} {W : World} {s : Int × Bool × List Int} (h : DeP b1 b2 b3 b4 b5 A1 n c1 A0 m c0 W s) {W1 : World} (hb : Below W.heap.size W W1) : DeP b1 b2 b3 b4 b5 A1 n c1 A0 m c0 W1 s := ⟨blk_below h.1 hb, blk_below h.2.1 hb, blk_below h.2.2.1 hb, blk_below h.2.2.2.1 hb, blk_below h.2.2.2.2.1 hb, h.2.2.2.2.2⟩
theorem DeP.drewN {b1 b2 b3 b4 b5 : Nat} {A1 : Option Addr} {n c1 : Nat} {A0 : Option Addr} {m c0 : Nat} {W : World} {s : Int × Bool × List Int} (h : DeP b1 b2 b3 b4 b5 A1 n c1 A0 m c0 W s) (j : Nat) : DeP b1 b2 b3 b4 b5 A1 n c1 A0 m c0 (W.drewN j) s := h
theorem DeP.far {b1 b2 b3 b4 b5 : Nat} {A1 : Option Addr} {n c1 : Nat} {A0 : Option Addr} {m c0 : Nat} {W : World} {s : Int × Bool × List Int} (h : DeP b1 b2 b3 b4 b5 A1 n c1 A0 m c0 W s) {p : Addr} (hp : p.block ≠ b1 ∧ p.block ≠ b2 ∧ p.block ≠ b3 ∧ p.block ≠ b4 ∧ p.block ≠ b5) (u : Value) : DeP b1 b2 b3 b4 b5 A1 n c1 A0 m c0 (W.setCell p u) s := ⟨blk_far h.1 (Ne.symm hp.1) _, blk_far h.2.1 (Ne.symm hp.2.1) _, blk_far h.2.2.1 (Ne.symm hp.2.2.1) _, blk_far h.2.2.2.1 (Ne.symm hp.2.2.2.1) _, blk_far h.2.2.2.2.1 (Ne.symm hp.2.2.2.2) _, h.2.2.2.2.2⟩
theorem DeP.set1 {b1 b2 b3 b4 b5 : Nat} {A1 : Option Addr} {n c1 : Nat} {A0 : Option Addr} {m c0 : Nat} {W : World} {s : Int × Bool × List Int} (h : DeP b1 b2 b3 b4 b5 A1 n c1 A0 m c0 W s) (x : Int) : DeP b1 b2 b3 b4 b5 A1 n c1 A0 m c0 (W.setCell ⟨b1, 0, none⟩ (.int .i64 x)) (x, s.2) := ⟨by simpa using blk_set h.1 0 (.int .i64 x), blk_far h.2.1 (ne_blk h.2.1 h.1 (by decide)) _, blk_far h.2.2.1 (ne_blk h.2.2.1 h.1 (by decide)) _, blk_far h.2.2.2.1 (ne_blk h.2.2.2.1 h.1 (by decide)) _, blk_far h.2.2.2.2.1 (ne_blk h.2.2.2.2.1 h.1 (by decide)) _, h.2.2.2.2.2⟩
theorem DeP.set2 {b1 b2 b3 b4 b5 : Nat} {A1 : Option Addr} {n c1 : Nat} {A0 : Option Addr} {m c0 : Nat} {W : World} {s : Int × Bool × List Int} (h : DeP b1 b2 b3 b4 b5 A1 n c1 A0 m c0 W s) (x : Bool) : DeP b1 b2 b3 b4 b5 A1 n c1 A0 m c0 (W.setCell ⟨b2, 0, none⟩ (.bool x)) (s.1, x, s.2.2) := ⟨blk_far h.1 (ne_blk h.1 h.2.1 (by decide)) _, by simpa using blk_set h.2.1 0 (.bool x), blk_far h.2.2.1 (ne_blk h.2.2.1 h.2.1 (by decide)) _, blk_far h.2.2.2.1 (ne_blk h.2.2.2.1 h.2.1 (by decide)) _, blk_far h.2.2.2.2.1 (ne_blk h.2.2.2.2.1 h.2.1 (by decide)) _, h.2.2.2.2.2⟩
theorem DeP.set3 {b1 b2 b3 b4 b5 : Nat} {A1 : Option Addr} {n c1 : Nat} {A0 : Option Addr} {m c0 : Nat} {W : World} {s : Int × Bool × List Int} (h : DeP b1 b2 b3 b4 b5 A1 n c1 A0 m c0 W s) (i : Nat) (x : Int) : DeP b1 b2 b3 b4 b5 A1 n c1 A0 m c0 (W.setCell ⟨b3, i, none⟩ (.int .i64 x)) (s.1, s.2.1, s.2.2.set i x) := ⟨blk_far h.1 (ne_blk h.1 h.2.2.1 (by decide)) _, blk_far h.2.1 (ne_blk h.2.1 h.2.2.1 (by decide)) _, by rw [← crv_set]; exact blk_set h.2.2.1 i (.int .i64 x), blk_far h.2.2.2.1 (ne_blk h.2.2.2.1 h.2.2.1 (by decide)) _, blk_far h.2.2.2.2.1 (ne_blk h.2.2.2.2.1 h.2.2.1 (by decide)) _, by show (s.2.2.set i x).length = 8; rw [List.length_set]; exact h.2.2.2.2.2⟩
theorem DeP.turn {b1 b2 b3 b4 b5 : Nat} {A1 : Option Addr} {n c1 : Nat} {A0 : Option Addr} {m c0 : Nat} {W : World} {s : Int × Bool × List Int} (h : DeP b1 b2 b3 b4 b5 A1 n c1 A0 m c0 W s) : W.cell? ⟨b1, 0, none⟩ = some (.int .i64 s.1) := (blk_cell h.1 0).trans rfl
theorem DeP.fresh {b1 b2 b3 b4 b5 : Nat} {A1 : Option Addr} {n c1 : Nat} {A0 : Option Addr} {m c0 : Nat} {W : World} {s : Int × Bool × List Int} (h : DeP b1 b2 b3 b4 b5 A1 n c1 A0 m c0 W s) : W.cell? ⟨b2, 0, none⟩ = some (.bool s.2.1) := (blk_cell h.2.1 0).trans rfl
theorem DeP.cred {b1 b2 b3 b4 b5 : Nat} {A1 : Option Addr} {n c1 : Nat} {A0 : Option Addr} {m c0 : Nat} {W : World} {s : Int × Bool × List Int} (h : DeP b1 b2 b3 b4 b5 A1 n c1 A0 m c0 W s) (i : Nat) (hi : i < 8) : W.cell? ⟨b3, i, none⟩ = some (.int .i64 (rd s.2.2 (i : Int))) := (blk_cell h.2.2.1 i).trans (crv_get _ i (by rw [h.2.2.2.2.2]; exact hi))
theorem DeP.qcell {b1 b2 b3 b4 b5 : Nat} {A1 : Option Addr} {n c1 : Nat} {A0 : Option Addr} {m c0 : Nat} {W : World} {s : Int × Bool × List Int} (h : DeP b1 b2 b3 b4 b5 A1 n c1 A0 m c0 W s) : W.cell? ⟨b4, 0, none⟩ = some (.slice A1 n c1) := (blk_cell h.2.2.2.1 0).trans rfl
theorem DeP.jcell {b1 b2 b3 b4 b5 : Nat} {A1 : Option Addr} {n c1 : Nat} {A0 : Option Addr} {m c0 : Nat} {W : World} {s : Int × Bool × List Int} (h : DeP b1 b2 b3 b4 b5 A1 n c1 A0 m c0 W s) : W.cell? ⟨b5, 0, none⟩ = some (.slice A0 m c0) := (blk_cell h.2.2.2.2.1 0).trans rfl
def addF (q : List Int) (fresh : Bool) (cr : List Int) (t : Int) : List Int := if fresh = true then addQ q cr t else cr
def defLoop (jobs : List (S43)) (q : List Int) (k0 : Nat) (starts : List Int) (tick : Int) : Nat → Int → Bool → List Int → Option (Int × Int × Bool × List Int)
  | 0, _, _, _ => none
  | k + 1, turn, fresh, cr => (impl_line_ofClass.f k0 jobs tick starts turn).bind fun oc => if 0 ≤ turn ∧ turn < 8 then (if 0 ≤ oc.1 then (if oc.1 < (jobs.length : Int) then (if (rd_T43 jobs oc.1).f2 ≤ rd (addF q fresh cr turn) turn then some (oc.1, turn, false, (addF q fresh cr turn).set turn.toNat (wrap64 (rd (addF q fresh cr turn) turn - (rd_T43 jobs oc.1).f2))) else defLoop jobs q k0 starts tick k (nxT turn) true (addF q fresh cr turn)) else none) else defLoop jobs q k0 starts tick k (nxT turn) true ((addF q fresh cr turn).set turn.toNat 0)) else none
def gDef (q : List Int) (jobs : List (S43)) (k : Nat) (starts : List Int) (tick : Int) (s : Int × Bool × List Int) : Option (Int × Int × Bool × List Int) := defLoop jobs q k starts tick k s.1 s.2.1 s.2.2
def zer (W : World) (b : Nat) : World := (((((((W.setCell ⟨b, 0, none⟩ (.int .i64 0)).setCell ⟨b, 1, none⟩ (.int .i64 0)).setCell ⟨b, 2, none⟩ (.int .i64 0)).setCell ⟨b, 3, none⟩ (.int .i64 0)).setCell ⟨b, 4, none⟩ (.int .i64 0)).setCell ⟨b, 5, none⟩ (.int .i64 0)).setCell ⟨b, 6, none⟩ (.int .i64 0)).setCell ⟨b, 7, none⟩ (.int .i64 0)
theorem set8 (cr : List Int) (h : cr.length = 8) : (((((((cr.set 0 0).set 1 0).set 2 0).set 3 0).set 4 0).set 5 0).set 6 0).set 7 0 = List.replicate 8 0 := by
  match cr, h with
  | [_, _, _, _, _, _, _, _], _ => rfl
theorem DeP.zer {b1 b2 b3 b4 b5 : Nat} {A1 : Option Addr} {n c1 : Nat} {A0 : Option Addr} {m c0 : Nat} {W : World} {s : Int × Bool × List Int} (h : DeP b1 b2 b3 b4 b5 A1 n c1 A0 m c0 W s) : DeP b1 b2 b3 b4 b5 A1 n c1 A0 m c0 (zer W b3) (s.1, s.2.1, List.replicate 8 0) := by
  have h9 := (((((((h.set3 0 0).set3 1 0).set3 2 0).set3 3 0).set3 4 0).set3 5 0).set3 6 0).set3 7 0
  rw [← set8 s.2.2 h.2.2.2.2.2]
  exact h9
theorem below_zer {w0 W : World} (h : Below w0.heap.size w0 W) {b : Nat} (hb : w0.heap.size ≤ b) : Below w0.heap.size w0 (zer W b) := (((((((h.setCell (p := ⟨b, 0, none⟩) hb _).setCell (p := ⟨b, 1, none⟩) hb _).setCell (p := ⟨b, 2, none⟩) hb _).setCell (p := ⟨b, 3, none⟩) hb _).setCell (p := ⟨b, 4, none⟩) hb _).setCell (p := ⟨b, 5, none⟩) hb _).setCell (p := ⟨b, 6, none⟩) hb _).setCell (p := ⟨b, 7, none⟩) hb _
theorem IsM.zer {w0 W : World} {E : Nat → Prop} {g : Nat} {jobs : List (S43)} {tick : Int} {starts : List Int} (h : IsM w0 W E g jobs tick starts) {b : Nat} (hg : g ≠ b) (hE : ∀ k_, E k_ → k_ ≠ b) : IsM w0 (zer W b) E g jobs tick starts := (((((((h.far hg hE 0 _).far hg hE 1 _).far hg hE 2 _).far hg hE 3 _).far hg hE 4 _).far hg hE 5 _).far hg hE 6 _).far hg hE 7 _
set_option maxHeartbeats 8000000 in
set_option maxRecDepth 100000 in
theorem de_idle (b1 b2 b3 b4 b5 : Nat) (A1 : Option Addr) (n c1 : Nat) (A0 : Option Addr) (m c0 : Nat) (W : World) (s : Int × Bool × List Int) (hP : DeP b1 b2 b3 b4 b5 A1 n c1 A0 m c0 W s) :
    Calls Try.prog 64 #[.pointer (some ⟨b1, 0, none⟩), .pointer (some ⟨b2, 0, none⟩), .pointer (some ⟨b3, 0, none⟩)] W fun e w' => e = .returned (.tuple #[]) ∧ w' = zer ((W.setCell ⟨b1, 0, none⟩ (.int .i64 7)).setCell ⟨b2, 0, none⟩ (.bool true)) b3 := by
  have huA := Try.underlying65
  have hk1 := hP.turn
  have hk2 := hP.fresh
  have hk30 := hP.cred 0 (by omega)
  have hf30 := blk_frozen hP.2.2.1 0
  have hk31 := hP.cred 1 (by omega)
  have hf31 := blk_frozen hP.2.2.1 1
  have hk32 := hP.cred 2 (by omega)
  have hf32 := blk_frozen hP.2.2.1 2
  have hk33 := hP.cred 3 (by omega)
  have hf33 := blk_frozen hP.2.2.1 3
  have hk34 := hP.cred 4 (by omega)
  have hf34 := blk_frozen hP.2.2.1 4
  have hk35 := hP.cred 5 (by omega)
  have hf35 := blk_frozen hP.2.2.1 5
  have hk36 := hP.cred 6 (by omega)
  have hf36 := blk_frozen hP.2.2.1 6
  have hk37 := hP.cred 7 (by omega)
  have hf37 := blk_frozen hP.2.2.1 7
  have hf1 := blk_frozen hP.1 0
  have hf2 := blk_frozen hP.2.1 0
  have hn12 : (b1 = b2) = False := eq_false (ne_blk hP.1 hP.2.1 (by decide))
  have hn13 : (b1 = b3) = False := eq_false (ne_blk hP.1 hP.2.2.1 (by decide))
  have hn23 : (b2 = b3) = False := eq_false (ne_blk hP.2.1 hP.2.2.1 (by decide))
  have hn21 : (b2 = b1) = False := eq_false (Ne.symm (ne_blk hP.1 hP.2.1 (by decide)))
  have hn31 : (b3 = b1) = False := eq_false (Ne.symm (ne_blk hP.1 hP.2.2.1 (by decide)))
  have hn32 : (b3 = b2) = False := eq_false (Ne.symm (ne_blk hP.2.1 hP.2.2.1 (by decide)))
  go_enter Try.func64, Try.ntmps64
  go_wp2
  exact ⟨rfl, .tuple #[], by first | rfl | kernel_rfl, rfl, rfl⟩
set_option maxHeartbeats 8000000 in
set_option maxRecDepth 100000 in
theorem de_clo (k g b1 b2 b3 b4 b5 : Nat) (jobs : List (S43)) (q : List Int) (tick : Int) (starts : List Int) (i : Int) (s s' : Int × Bool × List Int) (w0 W : World) (ad : Addr) (c1 : Nat) (A0 : Option Addr) (c0 : Nat) (hI : IsM w0 W (fun k_ => k_ ≠ b1 ∧ k_ ≠ b2 ∧ k_ ≠ b3 ∧ k_ ≠ b4 ∧ k_ ≠ b5) g jobs tick starts) (hB : Below w0.heap.size w0 W) (hP : DeP b1 b2 b3 b4 b5 (some ad) q.length c1 A0 jobs.length c0 W s)
    (hg1 : w0.heap.size ≤ b1) (hg2 : w0.heap.size ≤ b2) (hg3 : w0.heap.size ≤ b3) (hsC : Kd.C (Kd.int .i64) w0 (some ad) q.length q) (h8 : q.length = 8) (hjC : Kd.C k43 w0 A0 jobs.length jobs) (h : gDef q jobs k starts tick s = some (i, s')) :
    Calls Try.prog 63 #[.pointer (some ⟨g, 0, none⟩), .pointer (some ⟨b2, 0, none⟩), .pointer (some ⟨b3, 0, none⟩), .pointer (some ⟨b1, 0, none⟩), .pointer (some ⟨b4, 0, none⟩), .pointer (some ⟨b5, 0, none⟩)] W fun e w' => e = .returned (.int .i64 i) ∧ IsM w0 w' (fun k_ => k_ ≠ b1 ∧ k_ ≠ b2 ∧ k_ ≠ b3 ∧ k_ ≠ b4 ∧ k_ ≠ b5) g jobs tick starts ∧ Below w0.heap.size w0 w' ∧ DeP b1 b2 b3 b4 b5 (some ad) q.length c1 A0 jobs.length c0 w' s' := by
  have hu43 := Try.underlying43
  have huA := Try.underlying65
  obtain ⟨t0, f0, cr0⟩ := s
  unfold gDef at h
  dsimp only at h
  have HI := Aside0.mk hI
  have HB := Aside0.mk hB
  have HP := Aside0.mk hP
  have HG1 := Aside0.mk hg1
  have HG2 := Aside0.mk hg2
  have HG3 := Aside0.mk hg3
  have HSC := Aside0.mk hsC
  have HJC := Aside0.mk hjC
  have H8 := Aside0.mk h8
  have HH := Aside0.mk h
  have hn12 : (b1 = b2) = False := eq_false (ne_blk hP.1 hP.2.1 (by decide))
  have hn13 : (b1 = b3) = False := eq_false (ne_blk hP.1 hP.2.2.1 (by decide))
  have hn23 : (b2 = b3) = False := eq_false (ne_blk hP.2.1 hP.2.2.1 (by decide))
  have hn21 : (b2 = b1) = False := eq_false (Ne.symm (ne_blk hP.1 hP.2.1 (by decide)))
  have hn31 : (b3 = b1) = False := eq_false (Ne.symm (ne_blk hP.1 hP.2.2.1 (by decide)))
  have hn32 : (b3 = b2) = False := eq_false (Ne.symm (ne_blk hP.2.1 hP.2.2.1 (by decide)))
  clear hI hB hP hg1 hg2 hg3 hsC hjC h8 h
  go_enter Try.func63, Try.ntmps63
  go_wp2
  go_loopg [] k (fun kq w' => ∃ (turn : Int) (fresh : Bool) (cr : List Int), Aside0 (defLoop jobs q k starts tick kq turn fresh cr = some (i, s')) ∧ Aside0 (IsM w0 w' (fun k_ => k_ ≠ b1 ∧ k_ ≠ b2 ∧ k_ ≠ b3 ∧ k_ ≠ b4 ∧ k_ ≠ b5) g jobs tick starts) ∧ Aside0 (Below w0.heap.size w0 w') ∧ Aside0 (DeP b1 b2 b3 b4 b5 (some ad) q.length c1 A0 jobs.length c0 w' (turn, fresh, cr)))
  case atStart => exact ⟨_, _, _, HH, HI, HB, HP⟩
  case round =>
    clear HI HB HH HP
    obtain ⟨turn, fresh, cr, HQ, HI, HB, HP⟩ := hrel
    cases gk with
    | zero => exact absurd HQ.out (by simp [defLoop])
    | succ k1 =>
      have H := HQ.out
      clear HQ
      rw [defLoop] at H
      obtain ⟨oc, E1, H⟩ := Option.bind_eq_some_iff.mp H
      have HE1 := Aside0.mk E1
      clear E1
      by_cases cc : 0 ≤ turn ∧ turn < (8 : Int)
      case neg => rw [if_neg cc] at H; cases H
      rw [if_pos cc] at H
      have hp : 0 ≤ turn := cc.1
      have hq : turn < (q.length : Int) := by have := H8.out; omega
      obtain ⟨ad2, e5, hx⟩ := Kd.at_int HSC.out turn hp hq
      cases e5
      have HX := Aside0.mk hx
      have HT8 := Aside0.mk (show turn.toNat < 8 by omega)
      have HTC := Aside0.mk (show ((turn.toNat : Nat) : Int) = turn by omega)
      replace hp := eq_true hp
      replace hq := eq_true hq
      have hq8 : (turn < 8) = True := eq_true cc.2
      have hq9 : (turn.toNat < 8) = True := eq_true HT8.out
      clear hx cc
      obtain ⟨f1, hf1⟩ : ∃ x, oc.1 = x := ⟨_, rfl⟩
      have HF1 := Aside0.mk hf1
      rw [hf1] at H
      clear hf1
      have hc1 := HP.out.turn
      have hc2 := HP.out.fresh
      dsimp only at hc1 hc2
      cases fresh with
      | true =>
        rw [show addF q true cr turn = addQ q cr turn from rfl] at H
        go_upto_region 2 with (fail)
        go_cut [] (fun wc => Aside0 (IsM w0 wc (fun k_ => k_ ≠ b1 ∧ k_ ≠ b2 ∧ k_ ≠ b3 ∧ k_ ≠ b4 ∧ k_ ≠ b5) g jobs tick starts) ∧ Aside0 (Below w0.heap.size w0 wc) ∧ Aside0 (DeP b1 b2 b3 b4 b5 (some ad) q.length c1 A0 jobs.length c0 wc (turn, true, addQ q cr turn)))
        case first =>
          have hk3 := HP.out.cred turn.toNat HT8.out
          rw [HTC.out] at hk3
          dsimp only at hk3
          have hk4 := HP.out.qcell
          have hk5 := pw_cell_below HB.out HX.out
          have hf3 := blk_frozen HP.out.2.2.1 turn.toNat
          go_still_tail 9, (by kernel_rfl)
          change wpList _ _ _ _ _ (World.drew _)
          go_wp2
          go_meet
          exact ⟨⟨IsM.drew (HI.out.far (HI.out.ne HP.out.2.2.1 (by decide)) (fun _ hk => hk.2.2.1) _ _)⟩, ⟨below_drew1 (show Below w0.heap.size w0 (wr.setCell ⟨b3, turn.toNat, none⟩ _) from Below.setCell HB.out HG3.out _)⟩, ⟨DeP.drewN (HP.out.set3 turn.toNat _) 1⟩⟩
        case rest =>
          clear HI HB HP hc1 hc2
          obtain ⟨HI, HB, HP⟩ := hcut
          have hc1 := HP.out.turn
          have hc2 := HP.out.fresh
          have hf2 := blk_frozen HP.out.2.1 0
          dsimp only at hc1 hc2
          go_upto_region 4 with (fail)
          have HI2 := Aside0.mk (HI.out.far (HI.out.ne HP.out.2.1 (by decide)) (fun _ hk => hk.2.1) 0 (.bool false))
          have HB2 := Aside0.mk (HB.out.setCell (p := ⟨b2, 0, none⟩) HG2.out (.bool false))
          have HP2 := Aside0.mk (HP.out.set2 false)
          obtain ⟨wd, hwd⟩ : ∃ x, wc.setCell ⟨b2, 0, none⟩ (.bool false) = x := ⟨_, rfl⟩
          rw [hwd] at HI2 HB2 HP2
          rw [hwd]
          clear hwd HI HB HP hc1 hc2 hf2
          have HI := HI2
          have HB := HB2
          have HP := HP2
          clear HI2 HB2 HP2
          have hc1 := HP.out.turn
          dsimp only at hc1
          obtain ⟨cr1, hcr1⟩ : ∃ x, addQ q cr turn = x := ⟨_, rfl⟩
          rw [hcr1] at H HP
          clear hcr1
          go_upto_region 5 with (first | (go_at_call 61; (with_reducible refine (ofClass_q k g jobs tick starts turn f1 w0 _ (fun k_ => k_ ≠ b1 ∧ k_ ≠ b2 ∧ k_ ≠ b3 ∧ k_ ≠ b4 ∧ k_ ≠ b5) ?s1 ?s2 oc HE1.out HF1.out).mono ?_); (case s1 => exact HI.out); (case s2 => exact HB.out); rintro e w6 ⟨rfl, hb⟩; have HI5 := Aside0.mk (IsM.below HI.out hb); have HB5 := Aside0.mk (below_step HB.out hb); have HP5 := Aside0.mk (DeP.below HP.out hb); clear HI HB HP hb hc1; have HI := HI5; have HB := HB5; have HP := HP5; clear HI5 HB5 HP5) | ((with_reducible refine gate_callee (f := 61) rfl ?_); refine goesL_ (some 21) rfl rfl Try.func61 (by kernel_rfl) rfl #[.pointer (some ⟨g, 0, none⟩), .int .i64 turn] rfl (by (try simp only [List.map_toArray, List.map_cons, List.map_nil]); first | done | rfl) ?_; (with_reducible refine (ofClass_q k g jobs tick starts turn f1 w0 _ (fun k_ => k_ ≠ b1 ∧ k_ ≠ b2 ∧ k_ ≠ b3 ∧ k_ ≠ b4 ∧ k_ ≠ b5) ?s1 ?s2 oc HE1.out HF1.out).mono ?_); (case s1 => exact HI.out); (case s2 => exact HB.out); rintro e w6 ⟨rfl, hb⟩; have HI5 := Aside0.mk (IsM.below HI.out hb); have HB5 := Aside0.mk (below_step HB.out hb); have HP5 := Aside0.mk (DeP.below HP.out hb); clear HI HB HP hb hc1; have HI := HI5; have HB := HB5; have HP := HP5; clear HI5 HB5 HP5; refine ⟨_, rfl, ?_⟩))
          have hk1 := HP.out.turn
          have hk3 := HP.out.cred turn.toNat HT8.out
          rw [HTC.out] at hk3
          have hk4 := HP.out.jcell
          dsimp only at hk1 hk3
          by_cases ci : 0 ≤ f1
          · rw [if_pos ci] at H
            have cib : decide (f1 ≥ 0) = true := decide_eq_true ci
            have cib2 : decide (0 ≤ f1) = true := decide_eq_true ci
            have cib3 : decide (f1 < 0) = false := decide_eq_false (by omega)
            by_cases cj : f1 < (jobs.length : Int)
            case neg => rw [if_neg cj] at H; cases H
            rw [if_pos cj] at H
            obtain ⟨m, rfl⟩ := Int.eq_ofNat_of_zero_le ci
            have hpm : 0 ≤ (m : Int) := by omega
            have hqm : (m : Int) < (jobs.length : Int) := cj
            obtain ⟨adj, ej, hz0, hz1, hz2⟩ := at_T43 HJC.out (m : Int) hpm hqm
            cases ej
            simp only [Int.toNat_natCast] at hz0 hz1 hz2
            replace hz2 := pw_cell_below HB.out hz2
            replace hpm := eq_true hpm
            replace hqm := eq_true hqm
            have hqm2 : (m < jobs.length) = True := eq_true (by omega)
            clear hz0 hz1 ci cj
            by_cases cs : (rd_T43 jobs (m : Int)).f2 ≤ rd cr1 turn
            · rw [if_pos cs] at H
              have csb : decide ((rd_T43 jobs (m : Int)).f2 ≤ rd cr1 turn) = true := decide_eq_true cs
              obtain ⟨hi1, hs1⟩ := Prod.mk.inj (Option.some.inj H)
              subst hi1 hs1
              clear H cs
              go_quiet (fail)
              obtain ⟨wz, hwz⟩ : ∃ x, w6.drewN nq = x := ⟨_, rfl⟩
              have HI3 := Aside0.mk (show IsM w0 wz (fun k_ => k_ ≠ b1 ∧ k_ ≠ b2 ∧ k_ ≠ b3 ∧ k_ ≠ b4 ∧ k_ ≠ b5) g jobs tick starts from by rw [← hwz]; exact HI.out)
              have HB3 := Aside0.mk (show Below w0.heap.size w0 wz from by rw [← hwz]; exact pw_below_drewN HB.out _)
              have HP3 := Aside0.mk (show DeP b1 b2 b3 b4 b5 (some ad) q.length c1 (some adj) jobs.length c0 wz (turn, false, cr1) from by rw [← hwz]; exact HP.out)
              clear HI HB HP
              have HI := HI3
              have HB := HB3
              have HP := HP3
              clear HI3 HB3 HP3
              have hzd : wz.cell? ⟨(adj.add (m * 3)).block, (adj.add (m * 3)).off + 2, none⟩ = some (.int .i64 (rd_T43 jobs (m : Int)).f2) := by rw [← hwz]; exact hz2
              rw [hwz]
              clear hwz hz2 hk1 hk3 hk4
              have hk1 := HP.out.turn
              have hk3 := HP.out.cred turn.toNat HT8.out
              rw [HTC.out] at hk3
              have hk4 := HP.out.jcell
              have hf3 := blk_frozen HP.out.2.2.1 turn.toNat
              dsimp only at hk1 hk3
              go_upto_region 6 with (fail)
              go_cut [] (fun wc => Aside0 (IsM w0 wc (fun k_ => k_ ≠ b1 ∧ k_ ≠ b2 ∧ k_ ≠ b3 ∧ k_ ≠ b4 ∧ k_ ≠ b5) g jobs tick starts) ∧ Aside0 (Below w0.heap.size w0 wc) ∧ Aside0 (DeP b1 b2 b3 b4 b5 (some ad) q.length c1 (some adj) jobs.length c0 wc (turn, false, cr1.set turn.toNat (wrap64 (rd cr1 turn - (rd_T43 jobs (m : Int)).f2)))))
              case first =>
                go_still_tail 10, (by kernel_rfl)
                change wpList _ _ _ _ _ (World.drew _)
                go_wp2
                go_meet
                exact ⟨⟨IsM.drew (HI.out.far (HI.out.ne HP.out.2.2.1 (by decide)) (fun _ hk => hk.2.2.1) _ _)⟩, ⟨below_drew1 (show Below w0.heap.size w0 (wz.setCell ⟨b3, turn.toNat, none⟩ _) from Below.setCell HB.out HG3.out _)⟩, ⟨DeP.drewN (HP.out.set3 turn.toNat _) 1⟩⟩
              case rest =>
                clear HI HB HP hk1 hk3 hk4 hf3 hzd
                obtain ⟨HI, HB, HP⟩ := hcut
                go_wp2
                go_ret
                exact ⟨rfl, HI.out, HB.out, HP.out⟩
            · rw [if_neg cs] at H
              have csb : decide ((rd_T43 jobs (m : Int)).f2 ≤ rd cr1 turn) = false := decide_eq_false cs
              have H' := Aside0.mk H
              clear H cs
              go_quiet (fail)
              obtain ⟨wz, hwz⟩ : ∃ x, w6.drewN nq = x := ⟨_, rfl⟩
              have HI3 := Aside0.mk (show IsM w0 wz (fun k_ => k_ ≠ b1 ∧ k_ ≠ b2 ∧ k_ ≠ b3 ∧ k_ ≠ b4 ∧ k_ ≠ b5) g jobs tick starts from by rw [← hwz]; exact HI.out)
              have HB3 := Aside0.mk (show Below w0.heap.size w0 wz from by rw [← hwz]; exact pw_below_drewN HB.out _)
              have HP3 := Aside0.mk (show DeP b1 b2 b3 b4 b5 (some ad) q.length c1 (some adj) jobs.length c0 wz (turn, false, cr1) from by rw [← hwz]; exact HP.out)
              clear HI HB HP
              have HI := HI3
              have HB := HB3
              have HP := HP3
              clear HI3 HB3 HP3
              rw [hwz]
              clear hwz hz2 hk1 hk3 hk4
              have hk1 := HP.out.turn
              have hk2 := HP.out.fresh
              have hf1 := blk_frozen HP.out.1 0
              have hf2 := blk_frozen HP.out.2.1 0
              dsimp only at hk1 hk2
              go_wp2
              go_roundg k1
              case measure => omega
              case rel => exact ⟨_, _, _, H', ⟨(HI.out.far (HI.out.ne HP.out.1 (by decide)) (fun _ hk => hk.1) 0 _).far (HI.out.ne HP.out.2.1 (by decide)) (fun _ hk => hk.2.1) _ _⟩, ⟨(HB.out.setCell (p := ⟨b1, 0, none⟩) HG1.out _).setCell (p := ⟨b2, 0, none⟩) HG2.out _⟩, ⟨(HP.out.set1 _).set2 _⟩⟩
          · rw [if_neg ci] at H
            have cib : decide (f1 ≥ 0) = false := decide_eq_false ci
            have cib2 : decide (0 ≤ f1) = false := decide_eq_false ci
            have cib3 : decide (f1 < 0) = true := decide_eq_true (by omega)
            have H' := Aside0.mk H
            clear H ci
            go_quiet (fail)
            obtain ⟨wz, hwz⟩ : ∃ x, w6.drewN nq = x := ⟨_, rfl⟩
            have HI3 := Aside0.mk (show IsM w0 wz (fun k_ => k_ ≠ b1 ∧ k_ ≠ b2 ∧ k_ ≠ b3 ∧ k_ ≠ b4 ∧ k_ ≠ b5) g jobs tick starts from by rw [← hwz]; exact HI.out)
            have HB3 := Aside0.mk (show Below w0.heap.size w0 wz from by rw [← hwz]; exact pw_below_drewN HB.out _)
            have HP3 := Aside0.mk (show DeP b1 b2 b3 b4 b5 (some ad) q.length c1 A0 jobs.length c0 wz (turn, false, cr1) from by rw [← hwz]; exact HP.out)
            clear HI HB HP
            have HI := HI3
            have HB := HB3
            have HP := HP3
            clear HI3 HB3 HP3
            rw [hwz]
            clear hwz hk1 hk3 hk4
            have hk1 := HP.out.turn
            have hk2 := HP.out.fresh
            have hk3 := HP.out.cred turn.toNat HT8.out
            have hf1 := blk_frozen HP.out.1 0
            have hf2 := blk_frozen HP.out.2.1 0
            have hf3 := blk_frozen HP.out.2.2.1 turn.toNat
            dsimp only at hk1 hk2 hk3
            go_wp2
            go_roundg k1
            case measure => omega
            case rel => exact ⟨_, _, _, H', ⟨((HI.out.far (HI.out.ne HP.out.2.2.1 (by decide)) (fun _ hk => hk.2.2.1) turn.toNat _).far (HI.out.ne HP.out.1 (by decide)) (fun _ hk => hk.1) 0 _).far (HI.out.ne HP.out.2.1 (by decide)) (fun _ hk => hk.2.1) _ _⟩, ⟨((HB.out.setCell (p := ⟨b3, turn.toNat, none⟩) HG3.out _).setCell (p := ⟨b1, 0, none⟩) HG1.out _).setCell (p := ⟨b2, 0, none⟩) HG2.out _⟩, ⟨((HP.out.set3 turn.toNat 0).set1 _).set2 _⟩⟩
      | false =>
        rw [show addF q false cr turn = cr from rfl] at H
        go_upto_region 4 with (fail)
        clear hc2
        go_upto_region 5 with (first | (go_at_call 61; (with_reducible refine (ofClass_q k g jobs tick starts turn f1 w0 _ (fun k_ => k_ ≠ b1 ∧ k_ ≠ b2 ∧ k_ ≠ b3 ∧ k_ ≠ b4 ∧ k_ ≠ b5) ?s1 ?s2 oc HE1.out HF1.out).mono ?_); (case s1 => exact HI.out); (case s2 => exact HB.out); rintro e w6 ⟨rfl, hb⟩; have HI5 := Aside0.mk (IsM.below HI.out hb); have HB5 := Aside0.mk (below_step HB.out hb); have HP5 := Aside0.mk (DeP.below HP.out hb); clear HI HB HP hb hc1; have HI := HI5; have HB := HB5; have HP := HP5; clear HI5 HB5 HP5) | ((with_reducible refine gate_callee (f := 61) rfl ?_); refine goesL_ (some 21) rfl rfl Try.func61 (by kernel_rfl) rfl #[.pointer (some ⟨g, 0, none⟩), .int .i64 turn] rfl (by (try simp only [List.map_toArray, List.map_cons, List.map_nil]); first | done | rfl) ?_; (with_reducible refine (ofClass_q k g jobs tick starts turn f1 w0 _ (fun k_ => k_ ≠ b1 ∧ k_ ≠ b2 ∧ k_ ≠ b3 ∧ k_ ≠ b4 ∧ k_ ≠ b5) ?s1 ?s2 oc HE1.out HF1.out).mono ?_); (case s1 => exact HI.out); (case s2 => exact HB.out); rintro e w6 ⟨rfl, hb⟩; have HI5 := Aside0.mk (IsM.below HI.out hb); have HB5 := Aside0.mk (below_step HB.out hb); have HP5 := Aside0.mk (DeP.below HP.out hb); clear HI HB HP hb hc1; have HI := HI5; have HB := HB5; have HP := HP5; clear HI5 HB5 HP5; refine ⟨_, rfl, ?_⟩))
        have hk1 := HP.out.turn
        have hk3 := HP.out.cred turn.toNat HT8.out
        rw [HTC.out] at hk3
        have hk4 := HP.out.jcell
        dsimp only at hk1 hk3
        by_cases ci : 0 ≤ f1
        · rw [if_pos ci] at H
          have cib : decide (f1 ≥ 0) = true := decide_eq_true ci
          have cib2 : decide (0 ≤ f1) = true := decide_eq_true ci
          have cib3 : decide (f1 < 0) = false := decide_eq_false (by omega)
          by_cases cj : f1 < (jobs.length : Int)
          case neg => rw [if_neg cj] at H; cases H
          rw [if_pos cj] at H
          obtain ⟨m, rfl⟩ := Int.eq_ofNat_of_zero_le ci
          have hpm : 0 ≤ (m : Int) := by omega
          have hqm : (m : Int) < (jobs.length : Int) := cj
          obtain ⟨adj, ej, hz0, hz1, hz2⟩ := at_T43 HJC.out (m : Int) hpm hqm
          cases ej
          simp only [Int.toNat_natCast] at hz0 hz1 hz2
          replace hz2 := pw_cell_below HB.out hz2
          replace hpm := eq_true hpm
          replace hqm := eq_true hqm
          have hqm2 : (m < jobs.length) = True := eq_true (by omega)
          clear hz0 hz1 ci cj
          by_cases cs : (rd_T43 jobs (m : Int)).f2 ≤ rd cr turn
          · rw [if_pos cs] at H
            have csb : decide ((rd_T43 jobs (m : Int)).f2 ≤ rd cr turn) = true := decide_eq_true cs
            obtain ⟨hi1, hs1⟩ := Prod.mk.inj (Option.some.inj H)
            subst hi1 hs1
            clear H cs
            go_quiet (fail)
            obtain ⟨wz, hwz⟩ : ∃ x, w6.drewN nq = x := ⟨_, rfl⟩
            have HI3 := Aside0.mk (show IsM w0 wz (fun k_ => k_ ≠ b1 ∧ k_ ≠ b2 ∧ k_ ≠ b3 ∧ k_ ≠ b4 ∧ k_ ≠ b5) g jobs tick starts from by rw [← hwz]; exact HI.out)
            have HB3 := Aside0.mk (show Below w0.heap.size w0 wz from by rw [← hwz]; exact pw_below_drewN HB.out _)
            have HP3 := Aside0.mk (show DeP b1 b2 b3 b4 b5 (some ad) q.length c1 (some adj) jobs.length c0 wz (turn, false, cr) from by rw [← hwz]; exact HP.out)
            clear HI HB HP
            have HI := HI3
            have HB := HB3
            have HP := HP3
            clear HI3 HB3 HP3
            have hzd : wz.cell? ⟨(adj.add (m * 3)).block, (adj.add (m * 3)).off + 2, none⟩ = some (.int .i64 (rd_T43 jobs (m : Int)).f2) := by rw [← hwz]; exact hz2
            rw [hwz]
            clear hwz hz2 hk1 hk3 hk4
            have hk1 := HP.out.turn
            have hk3 := HP.out.cred turn.toNat HT8.out
            rw [HTC.out] at hk3
            have hk4 := HP.out.jcell
            have hf3 := blk_frozen HP.out.2.2.1 turn.toNat
            dsimp only at hk1 hk3
            go_upto_region 6 with (fail)
            go_cut [] (fun wc => Aside0 (IsM w0 wc (fun k_ => k_ ≠ b1 ∧ k_ ≠ b2 ∧ k_ ≠ b3 ∧ k_ ≠ b4 ∧ k_ ≠ b5) g jobs tick starts) ∧ Aside0 (Below w0.heap.size w0 wc) ∧ Aside0 (DeP b1 b2 b3 b4 b5 (some ad) q.length c1 (some adj) jobs.length c0 wc (turn, false, cr.set turn.toNat (wrap64 (rd cr turn - (rd_T43 jobs (m : Int)).f2)))))
            case first =>
              go_still_tail 10, (by kernel_rfl)
              change wpList _ _ _ _ _ (World.drew _)
              go_wp2
              go_meet
              exact ⟨⟨IsM.drew (HI.out.far (HI.out.ne HP.out.2.2.1 (by decide)) (fun _ hk => hk.2.2.1) _ _)⟩, ⟨below_drew1 (show Below w0.heap.size w0 (wz.setCell ⟨b3, turn.toNat, none⟩ _) from Below.setCell HB.out HG3.out _)⟩, ⟨DeP.drewN (HP.out.set3 turn.toNat _) 1⟩⟩
            case rest =>
              clear HI HB HP hk1 hk3 hk4 hf3 hzd
              obtain ⟨HI, HB, HP⟩ := hcut
              go_wp2
              go_ret
              exact ⟨rfl, HI.out, HB.out, HP.out⟩
          · rw [if_neg cs] at H
            have csb : decide ((rd_T43 jobs (m : Int)).f2 ≤ rd cr turn) = false := decide_eq_false cs
            have H' := Aside0.mk H
            clear H cs
            go_quiet (fail)
            obtain ⟨wz, hwz⟩ : ∃ x, w6.drewN nq = x := ⟨_, rfl⟩
            have HI3 := Aside0.mk (show IsM w0 wz (fun k_ => k_ ≠ b1 ∧ k_ ≠ b2 ∧ k_ ≠ b3 ∧ k_ ≠ b4 ∧ k_ ≠ b5) g jobs tick starts from by rw [← hwz]; exact HI.out)
            have HB3 := Aside0.mk (show Below w0.heap.size w0 wz from by rw [← hwz]; exact pw_below_drewN HB.out _)
            have HP3 := Aside0.mk (show DeP b1 b2 b3 b4 b5 (some ad) q.length c1 (some adj) jobs.length c0 wz (turn, false, cr) from by rw [← hwz]; exact HP.out)
            clear HI HB HP
            have HI := HI3
            have HB := HB3
            have HP := HP3
            clear HI3 HB3 HP3
            rw [hwz]
            clear hwz hz2 hk1 hk3 hk4
            have hk1 := HP.out.turn
            have hk2 := HP.out.fresh
            have hf1 := blk_frozen HP.out.1 0
            have hf2 := blk_frozen HP.out.2.1 0
            dsimp only at hk1 hk2
            go_wp2
            go_roundg k1
            case measure => omega
            case rel => exact ⟨_, _, _, H', ⟨(HI.out.far (HI.out.ne HP.out.1 (by decide)) (fun _ hk => hk.1) 0 _).far (HI.out.ne HP.out.2.1 (by decide)) (fun _ hk => hk.2.1) _ _⟩, ⟨(HB.out.setCell (p := ⟨b1, 0, none⟩) HG1.out _).setCell (p := ⟨b2, 0, none⟩) HG2.out _⟩, ⟨(HP.out.set1 _).set2 _⟩⟩
        · rw [if_neg ci] at H
          have cib : decide (f1 ≥ 0) = false := decide_eq_false ci
          have cib2 : decide (0 ≤ f1) = false := decide_eq_false ci
          have cib3 : decide (f1 < 0) = true := decide_eq_true (by omega)
          have H' := Aside0.mk H
          clear H ci
          go_quiet (fail)
          obtain ⟨wz, hwz⟩ : ∃ x, w6.drewN nq = x := ⟨_, rfl⟩
          have HI3 := Aside0.mk (show IsM w0 wz (fun k_ => k_ ≠ b1 ∧ k_ ≠ b2 ∧ k_ ≠ b3 ∧ k_ ≠ b4 ∧ k_ ≠ b5) g jobs tick starts from by rw [← hwz]; exact HI.out)
          have HB3 := Aside0.mk (show Below w0.heap.size w0 wz from by rw [← hwz]; exact pw_below_drewN HB.out _)
          have HP3 := Aside0.mk (show DeP b1 b2 b3 b4 b5 (some ad) q.length c1 A0 jobs.length c0 wz (turn, false, cr) from by rw [← hwz]; exact HP.out)
          clear HI HB HP
          have HI := HI3
          have HB := HB3
          have HP := HP3
          clear HI3 HB3 HP3
          rw [hwz]
          clear hwz hk1 hk3 hk4
          have hk1 := HP.out.turn
          have hk2 := HP.out.fresh
          have hk3 := HP.out.cred turn.toNat HT8.out
          have hf1 := blk_frozen HP.out.1 0
          have hf2 := blk_frozen HP.out.2.1 0
          have hf3 := blk_frozen HP.out.2.2.1 turn.toNat
          dsimp only at hk1 hk2 hk3
          go_wp2
          go_roundg k1
          case measure => omega
          case rel => exact ⟨_, _, _, H', ⟨((HI.out.far (HI.out.ne HP.out.2.2.1 (by decide)) (fun _ hk => hk.2.2.1) turn.toNat _).far (HI.out.ne HP.out.1 (by decide)) (fun _ hk => hk.1) 0 _).far (HI.out.ne HP.out.2.1 (by decide)) (fun _ hk => hk.2.1) _ _⟩, ⟨((HB.out.setCell (p := ⟨b3, turn.toNat, none⟩) HG3.out _).setCell (p := ⟨b1, 0, none⟩) HG1.out _).setCell (p := ⟨b2, 0, none⟩) HG2.out _⟩, ⟨((HP.out.set3 turn.toNat 0).set1 _).set2 _⟩⟩
/-! ### startsBy_de: startsBy, for one choice -/
set_option maxHeartbeats 8000000 in
set_option maxRecDepth 100000 in
theorem startsBy_de {σ : Type} (P : World → σ → Prop) (E : Nat → Prop) (jobs : List (S43)) (ch : Nat → List Int → Int → σ → Option (Int × σ)) (idle : σ → σ) (b1 b2 b3 b4 b5 : Nat) (w0 : World) (A0 : Option Addr) (c0 : Nat) (hjC : Kd.C k43 w0 A0 jobs.length jobs) (hn : jobs.length ≤ 20)
    (hPb : ∀ W W1 s, P W s → Below W.heap.size W W1 → P W1 s)
    (hPg : ∀ W g tick starts s x, IsM w0 W E g jobs tick starts → P W s → P (W.setCell ⟨g, 1, none⟩ x) s)
    (hPr : ∀ W r i u s, E r → P W s → P (W.setCell ⟨r, i, none⟩ u) s)
    (hch : ∀ (k : Nat) (W : World) (g : Nat) (starts : List Int) (tick : Int) (s : σ) (i : Int) (s' : σ), IsM w0 W E g jobs tick starts → Below w0.heap.size w0 W → P W s → starts.length = jobs.length → ch k starts tick s = some (i, s') →
      Calls Try.prog 63 #[.pointer (some ⟨g, 0, none⟩), .pointer (some ⟨b2, 0, none⟩), .pointer (some ⟨b3, 0, none⟩), .pointer (some ⟨b1, 0, none⟩), .pointer (some ⟨b4, 0, none⟩), .pointer (some ⟨b5, 0, none⟩)] W fun e w' => e = .returned (.int .i64 i) ∧ IsM w0 w' E g jobs tick starts ∧ Below w0.heap.size w0 w' ∧ P w' s')
    (hid : ∀ (W : World) (g : Nat) (starts : List Int) (tick : Int) (s : σ), IsM w0 W E g jobs tick starts → Below w0.heap.size w0 W → P W s →
      Calls Try.prog 64 #[.pointer (some ⟨b1, 0, none⟩), .pointer (some ⟨b2, 0, none⟩), .pointer (some ⟨b3, 0, none⟩)] W fun e w' => e = .returned (.tuple #[]) ∧ IsM w0 w' E g jobs tick starts ∧ Below w0.heap.size w0 w' ∧ P w' (idle s))
    (k : Nat) (s : σ) (r : List Int) (w : World) (hB : Below w0.heap.size w0 w) (hP : P w s) (hE : ∀ k_, w.heap.size ≤ k_ → E k_) (h : startsByL jobs ch idle k (List.replicate jobs.length (-1)) 0 s = some r) :
    Calls Try.prog 59 #[.slice A0 jobs.length c0, .func (.func 63) #[] #[.pointer (some ⟨b2, 0, none⟩), .pointer (some ⟨b3, 0, none⟩), .pointer (some ⟨b1, 0, none⟩), .pointer (some ⟨b4, 0, none⟩), .pointer (some ⟨b5, 0, none⟩)], .func (.func 64) #[] #[.pointer (some ⟨b1, 0, none⟩), .pointer (some ⟨b2, 0, none⟩), .pointer (some ⟨b3, 0, none⟩)]] w fun e w' => ∃ v0_ : Value, e = .returned (v0_) ∧ Kd.R (Kd.int .i64) 3 w' w0.heap.size (fun _ => True) v0_ r ∧ Below w0.heap.size w0 w' := by
  have hu43 := Try.underlying43
  have HJ := Aside0.mk hjC
  have HN := Aside0.mk hn
  have HB := Aside0.mk hB
  have HP := Aside0.mk hP
  have HE := Aside0.mk hE
  have HH := Aside0.mk h
  have HF := Aside0.mk (And.intro hPb (And.intro hPg (And.intro hPr (And.intro hch hid))))
  clear hjC hn hB hP hE h hPb hPg hPr hch hid
  go_enter Try.func59, Try.ntmps59
  go_wp2_with (first | ((with_reducible refine gate_dst (N := 11) rfl ?_); refine Kd.R_lit (Kd.int .i64) _ 3 ?hg (N := 11) ?hd (xs := ([(-1)] : List Int)) (inner := [.int .i64 (-1)]) (ok := fun _ => True) (okp := fun _ => True) ?hr ?hp (fun _ hk => hk) trivial (Below.refl _ _) (Nat.le_refl _) (by simp) ?_; (case hd => rfl); (case hg => rfl); (case hr => first | (go_simp; done) | (go_simp; rfl)); (case hp => exact (Reps.one (show Kd.M (Kd.int .i64) _ _ _ (-1) [.int .i64 (-1)] from rfl) (Reps.none _ _))); intro v11 w2 ho hb hg_ hnew_; clear hg_ hnew_; have HO1 := Aside0.mk ho; have HB1 := Aside0.mk (below_step (by repeat (first | (with_reducible first | exact HB.out | apply below_alloc | apply pw_below_drewN | apply below_drew1) | exact HB.out)) hb); have HP1 := Aside0.mk (HF.out.1 _ _ _ HP.out (show Below w.heap.size w w2 from hb)); have HE1 := Aside0.mk (show ∀ k_, w2.heap.size ≤ k_ → E k_ from fun k_ hk_ => HE.out k_ (Nat.le_trans (show w.heap.size ≤ w2.heap.size from hb.size) hk_)); clear HB HP HE ho hb; have HB := HB1; have HP := HP1; have HE := HE1; clear HB1 HP1 HE1; obtain ⟨A11, c11, e11⟩ := Kd.R_slice HO1.out; subst e11) | (go_at_call 78; (with_reducible refine (repeat_calls A11 c11 (-1) jobs.length _ ?s1 HN.out).mono ?_); (case s1 => exact (Kd.R_reads' HO1.out).2.2); rintro e w3 ⟨v14, rfl, ho, hb⟩; have HO2 := Aside0.mk ho; have HSZ := Aside0.mk (show w0.heap.size ≤ w2.heap.size from below_size HB.out); have HB1 := Aside0.mk (below_step (by repeat (first | (with_reducible first | exact HB.out | apply below_alloc | apply pw_below_drewN | apply below_drew1) | exact HB.out)) hb); have HP1 := Aside0.mk (HF.out.1 _ _ _ HP.out (show Below w2.heap.size w2 w3 from hb)); have HLE := Aside0.mk (show w2.heap.size ≤ w3.heap.size from hb.size); clear HB HP ho hb; have HB := HB1; have HP := HP1; clear HB1 HP1; obtain ⟨A14, c14, e14⟩ := Kd.R_slice HO2.out; subst e14) | ((with_reducible refine gate_callee (f := 78) rfl ?_); refine goesL_ (some 14) rfl rfl Try.func78 (by kernel_rfl) rfl #[.slice A11 1 c11, .int .i64 (jobs.length : Int)] rfl (by (try simp only [List.map_toArray, List.map_cons, List.map_nil]); first | done | rfl) ?_; (with_reducible refine (repeat_calls A11 c11 (-1) jobs.length _ ?s1 HN.out).mono ?_); (case s1 => exact (Kd.R_reads' HO1.out).2.2); rintro e w3 ⟨v14, rfl, ho, hb⟩; have HO2 := Aside0.mk ho; have HSZ := Aside0.mk (show w0.heap.size ≤ w2.heap.size from below_size HB.out); have HB1 := Aside0.mk (below_step (by repeat (first | (with_reducible first | exact HB.out | apply below_alloc | apply pw_below_drewN | apply below_drew1) | exact HB.out)) hb); have HP1 := Aside0.mk (HF.out.1 _ _ _ HP.out (show Below w2.heap.size w2 w3 from hb)); have HLE := Aside0.mk (show w2.heap.size ≤ w3.heap.size from hb.size); clear HB HP ho hb; have HB := HB1; have HP := HP1; clear HB1 HP1; obtain ⟨A14, c14, e14⟩ := Kd.R_slice HO2.out; subst e14; refine ⟨_, rfl, ?_⟩) | ((with_reducible refine gate_dst (N := 16) rfl ?_); refine box_event ?hg (N := 16) ?hd (cs := #[.slice A0 jobs.length c0, .int .i64 0, .slice A14 jobs.length c14]) (t := 71) ?hr ?_; (case hd => rfl); (case hg => rfl); (case hr => first | (go_simp; done) | (go_simp; rfl)); intro g hg w4 hbox hb; have HI := Aside0.mk (show IsM w0 w4 E g jobs 0 (List.replicate jobs.length (-1)) from ⟨A0, c0, .slice A14 jobs.length c14, hbox, by rw [hg]; exact (below_size (by repeat (first | (with_reducible first | exact HB.out | apply below_alloc | apply pw_below_drewN | apply below_drew1) | exact HB.out))), HJ.out, by have h5 := Kd.R_below (Kd.R_lower (Kd.R_mono (Kd.R_bound HO2.out) (fun k_ hk_ => (⟨fun e_ => by rw [e_] at hk_; have := hk_.2.2.1; rw [hg] at this; exact absurd this (Nat.lt_irrefl _), HE.out k_ hk_.2.1⟩ : k_ ≠ g ∧ E k_))) HSZ.out) hb; rw [List.length_replicate] at h5; exact h5⟩); have HB1 := Aside0.mk (below_step (by repeat (first | (with_reducible first | exact HB.out | apply below_alloc | apply pw_below_drewN | apply below_drew1) | exact HB.out)) hb); have HP1 := Aside0.mk (HF.out.1 _ _ _ HP.out (show Below w3.heap.size w3 w4 from hb)); clear HB HP hbox hb hg; have HB := HB1; have HP := HP1; clear HB1 HP1))
  go_loopg [] k (fun kq w' => ∃ (starts : List Int) (tick : Int) (s' : σ), Aside0 (startsByL jobs ch idle kq starts tick s' = some r) ∧ Aside0 (starts.length = jobs.length) ∧ Aside0 (IsM w0 w' E g jobs tick starts) ∧ Aside0 (Below w0.heap.size w0 w') ∧ Aside0 (P w' s'))
  case atStart => exact ⟨_, _, _, HH, ⟨List.length_replicate⟩, ⟨(by repeat (first | exact HI.out | apply IsM.drewN | apply IsM.drew))⟩, ⟨(by repeat (first | (with_reducible first | exact HB.out | apply below_alloc | apply pw_below_drewN | apply below_drew1) | exact HB.out))⟩, ⟨by first | exact HP.out | exact HF.out.1 _ _ _ HP.out (by repeat (first | (with_reducible exact Below.refl _ _) | apply pw_below_drewN | apply below_drew1))⟩⟩
  case round =>
    clear HI HB HH HP HO1 HO2 HSZ HLE HE
    obtain ⟨starts, tick, s', HQ, HL, HI, HB, HP⟩ := hrel
    cases gk with
    | zero => exact absurd HQ.out (by simp [startsByL])
    | succ k1 =>
      have H := HQ.out
      clear HQ
      rw [startsByL] at H
      obtain ⟨nx, E1, H⟩ := Option.bind_eq_some_iff.mp H
      have HE1 := Aside0.mk E1
      clear E1
      obtain ⟨A1, c1, sv, h1, h2, h3, h4⟩ := HI.out
      obtain ⟨A3, c3, e3⟩ := Kd.R_slice h4
      subst e3
      have H4 := Aside0.mk h4
      have hc2 : wr.cell? ⟨g, 2, none⟩ = some (.slice A3 starts.length c3) := (blk_cell h1 2).trans rfl
      clear h1 h2 h3 h4
      by_cases cx : nx < 0
      · rw [if_pos cx] at H
        have cb : decide (nx < 0) = true := decide_eq_true cx
        obtain rfl := Option.some.inj H
        clear cx H
        go_wp2_with (first | (go_at_call 79; (with_reducible refine (slices_Index_int_int.calls k1 A3 c3 starts (-1) _ _ ?s1 ?s2 HE1.out).mono ?_); (case s1 => exact (Kd.R_reads' H4.out).2.2); (case s2 => exact (Kd.R_reads' H4.out).2.1); rintro e w5 ⟨rfl, ⟨nd, rfl⟩⟩) | ((with_reducible refine gate_callee (f := 79) rfl ?_); refine goesL_ (some 21) rfl rfl Try.func79 (by kernel_rfl) rfl #[.slice A3 starts.length c3, .int .i64 (-1)] rfl (by (try simp only [List.map_toArray, List.map_cons, List.map_nil]); first | done | rfl) ?_; (with_reducible refine (slices_Index_int_int.calls k1 A3 c3 starts (-1) _ _ ?s1 ?s2 HE1.out).mono ?_); (case s1 => exact (Kd.R_reads' H4.out).2.2); (case s2 => exact (Kd.R_reads' H4.out).2.1); rintro e w5 ⟨rfl, ⟨nd, rfl⟩⟩; refine ⟨_, rfl, ?_⟩))
        go_ret
        exact ⟨_, rfl, by (with_reducible repeat (first | apply Kd.R_alloc | apply Kd.R_drewN | apply Kd.R_drew)); exact Kd.R_mono H4.out (fun _ _ => trivial), (by repeat (first | (with_reducible first | exact HB.out | apply below_alloc | apply pw_below_drewN | apply below_drew1) | exact HB.out))⟩
      · rw [if_neg cx] at H
        have cb : decide (nx < 0) = false := decide_eq_false cx
        obtain ⟨⟨wl, wt⟩, E2, H⟩ := Option.bind_eq_some_iff.mp H
        have HE2 := Aside0.mk E2
        clear E2
        dsimp only at H
        by_cases cn : 0 ≤ nx ∧ nx < (jobs.length : Int)
        case neg => rw [if_neg cn] at H; cases H
        rw [if_pos cn] at H
        obtain ⟨m, rfl⟩ := Int.eq_ofNat_of_zero_le cn.1
        have HMN := Aside0.mk (show m < jobs.length by omega)
        clear cn cx
        obtain ⟨t1, ht1⟩ : ∃ t1, (if (wl.length : Int) = 0 then (rd_T43 jobs (m : Int)).f0 else tick) = t1 := ⟨_, rfl⟩
        obtain ⟨s1, hs1⟩ : ∃ s1, (if (wl.length : Int) = 0 then idle s' else s') = s1 := ⟨_, rfl⟩
        rw [ht1, hs1] at H
        obtain ⟨⟨ci, s2⟩, E3, H⟩ := Option.bind_eq_some_iff.mp H
        have HE3 := Aside0.mk E3
        clear E3
        dsimp only at H
        by_cases cc : 0 ≤ ci ∧ ci < (jobs.length : Int)
        case neg => rw [if_neg cc] at H; cases H
        rw [if_pos cc] at H
        obtain ⟨i, rfl⟩ := Int.eq_ofNat_of_zero_le cc.1
        rw [Int.toNat_natCast] at H
        have HIJ := Aside0.mk (show i < jobs.length by omega)
        have HIS := Aside0.mk (show i < starts.length by have := HL.out; omega)
        have H' := Aside0.mk H
        clear cc H
        have hp : 0 ≤ (m : Int) := by omega
        have hq : (m : Int) < (jobs.length : Int) := by have := HMN.out; omega
        obtain ⟨ad, e1, hx0, hx1, hx2⟩ := at_T43 HJ.out (m : Int) hp hq
        cases e1
        simp only [Int.toNat_natCast] at hx0 hx1 hx2
        have HX := Aside0.mk hx0
        replace hp := eq_true hp
        replace hq := eq_true hq
        clear hx0 hx1 hx2
        by_cases cw : (wl.length : Int) = 0
        · rw [if_pos cw] at ht1 hs1
          subst ht1 hs1
          have cwb : ((wl.length : Int) == 0) = true := beq_iff_eq.mpr cw
          have cwb2 : (wl.length == 0) = true := by simpa using cw
          clear cw
          go_upto_region 8 with (first | (go_at_call 79; (with_reducible refine (slices_Index_int_int.calls k1 A3 c3 starts (-1) _ _ ?s1 ?s2 HE1.out).mono ?_); (case s1 => exact (Kd.R_reads' H4.out).2.2); (case s2 => exact (Kd.R_reads' H4.out).2.1); rintro e w5 ⟨rfl, ⟨nd, rfl⟩⟩) | ((with_reducible refine gate_callee (f := 79) rfl ?_); refine goesL_ (some 21) rfl rfl Try.func79 (by kernel_rfl) rfl #[.slice A3 starts.length c3, .int .i64 (-1)] rfl (by (try simp only [List.map_toArray, List.map_cons, List.map_nil]); first | done | rfl) ?_; (with_reducible refine (slices_Index_int_int.calls k1 A3 c3 starts (-1) _ _ ?s1 ?s2 HE1.out).mono ?_); (case s1 => exact (Kd.R_reads' H4.out).2.2); (case s2 => exact (Kd.R_reads' H4.out).2.1); rintro e w5 ⟨rfl, ⟨nd, rfl⟩⟩; refine ⟨_, rfl, ?_⟩) | (go_at_call 72; (with_reducible refine (waiting_q k1 g jobs tick starts wl wt _ ?s1 HE2.out).mono ?_); (case s1 => exact IsM.q (by repeat (first | exact HI.out | apply IsM.drewN | apply IsM.drew)) (by repeat (first | (with_reducible first | exact HB.out | apply below_alloc | apply pw_below_drewN | apply below_drew1) | exact HB.out))); rintro e w6 ⟨v29, rfl, ho, hb⟩; have HO29 := Aside0.mk ho; have HI5 := Aside0.mk (IsM.below (by repeat (first | exact HI.out | apply IsM.drewN | apply IsM.drew)) hb); have HB5 := Aside0.mk (below_step (by repeat (first | (with_reducible first | exact HB.out | apply below_alloc | apply pw_below_drewN | apply below_drew1) | exact HB.out)) hb); have HP5 := Aside0.mk (HF.out.1 _ _ _ (by first | exact HP.out | exact HF.out.1 _ _ _ HP.out (by repeat (first | (with_reducible exact Below.refl _ _) | apply pw_below_drewN | apply below_drew1))) hb); clear HI HB HP ho hb; have HI := HI5; have HB := HB5; have HP := HP5; clear HI5 HB5 HP5; obtain ⟨A29, c29, e29⟩ := Kd.R_slice HO29.out; subst e29) | ((with_reducible refine gate_callee (f := 72) rfl ?_); refine goesL_ (some 29) rfl rfl Try.func72 (by kernel_rfl) rfl #[.pointer (some ⟨g, 0, none⟩)] rfl (by (try simp only [List.map_toArray, List.map_cons, List.map_nil]); first | done | rfl) ?_; (with_reducible refine (waiting_q k1 g jobs tick starts wl wt _ ?s1 HE2.out).mono ?_); (case s1 => exact IsM.q (by repeat (first | exact HI.out | apply IsM.drewN | apply IsM.drew)) (by repeat (first | (with_reducible first | exact HB.out | apply below_alloc | apply pw_below_drewN | apply below_drew1) | exact HB.out))); rintro e w6 ⟨v29, rfl, ho, hb⟩; have HO29 := Aside0.mk ho; have HI5 := Aside0.mk (IsM.below (by repeat (first | exact HI.out | apply IsM.drewN | apply IsM.drew)) hb); have HB5 := Aside0.mk (below_step (by repeat (first | (with_reducible first | exact HB.out | apply below_alloc | apply pw_below_drewN | apply below_drew1) | exact HB.out)) hb); have HP5 := Aside0.mk (HF.out.1 _ _ _ (by first | exact HP.out | exact HF.out.1 _ _ _ HP.out (by repeat (first | (with_reducible exact Below.refl _ _) | apply pw_below_drewN | apply below_drew1))) hb); clear HI HB HP ho hb; have HI := HI5; have HB := HB5; have HP := HP5; clear HI5 HB5 HP5; obtain ⟨A29, c29, e29⟩ := Kd.R_slice HO29.out; subst e29; refine ⟨_, rfl, ?_⟩) | ((go_at_call 64; (with_reducible refine (HF.out.2.2.2.2 _ g starts tick s' ?s1 ?s2 ?s3).mono ?_); (case s1 => exact (by repeat (first | exact HI.out | apply IsM.drewN | apply IsM.drew))); (case s2 => exact (by repeat (first | (with_reducible first | exact HB.out | apply below_alloc | apply pw_below_drewN | apply below_drew1) | exact HB.out))); (case s3 => exact (by first | exact HP.out | exact HF.out.1 _ _ _ HP.out (by repeat (first | (with_reducible exact Below.refl _ _) | apply pw_below_drewN | apply below_drew1)))); rintro e w7 ⟨rfl, hi, hb, hpp⟩; have HI5 := Aside0.mk hi; have HB5 := Aside0.mk hb; have HP5 := Aside0.mk hpp; clear HI HB HP hi hb hpp; have HI := HI5; have HB := HB5; have HP := HP5; clear HI5 HB5 HP5; have hxt := pw_cell_below HB.out HX.out; obtain ⟨A9, c9, sv9, h1, _, _, _⟩ := HI.out; have hc9 : w7.cell? ⟨g, 1, none⟩ = some (.int .i64 tick) := (blk_cell h1 1).trans rfl; have hf9 := blk_frozen h1 1; clear h1)))
          go_upto_region 9 with (first | ((go_at_call 63; (with_reducible refine (HF.out.2.2.2.1 k1 _ g starts (rd_T43 jobs (m : Int)).f0 (idle s') (i : Int) s2 ?s1 ?s2 ?s3 HL.out HE3.out).mono ?_); (case s1 => exact (HI.out.set_1 _)); (case s2 => exact (HB.out.setCell (p := ⟨g, 1, none⟩) HI.out.ge _)); (case s3 => exact (HF.out.2.1 _ _ _ _ _ _ HI.out HP.out)); rintro e w8 ⟨rfl, hi, hb, hpp⟩; have HI8 := Aside0.mk hi; have HB8 := Aside0.mk hb; have HP8 := Aside0.mk hpp; clear HI HB HP hi hb hpp; have HI := HI8; have HB := HB8; have HP := HP8; clear HI8 HB8 HP8)))
          obtain ⟨A5, c5, r5, c6, hg5, _, hr5, hrg5, hre5, hs5, ⟨cells5, hrb5⟩, hset5⟩ := HI.out.row (by have := HIS.out; omega)
          have HS5 := Aside0.mk hset5
          have HR5 := Aside0.mk hr5
          have HRE := Aside0.mk hre5
          clear hset5
          go_cut [] (fun wc => Aside0 (IsM w0 wc E g jobs (rd_T43 jobs (m : Int)).f0 (starts.set i (rd_T43 jobs (m : Int)).f0)) ∧ Aside0 (Below w0.heap.size w0 wc) ∧ Aside0 (P wc s2))
          case first =>
            have hk1 : w8.cell? ⟨g, 1, none⟩ = some (.int .i64 (rd_T43 jobs (m : Int)).f0) := (blk_cell hg5 1).trans rfl
            have hk2 : w8.cell? ⟨g, 2, none⟩ = some (.slice (some ⟨r5, 0, none⟩) starts.length c6) := (blk_cell hg5 2).trans rfl
            have hp5 : 0 ≤ (i : Int) := by omega
            have hq5 : (i : Int) < (starts.length : Int) := by have := HIS.out; omega
            obtain ⟨ad5, e5, hx5⟩ := Kd.at_int hs5 (i : Int) hp5 hq5
            cases e5
            have hfr := blk_frozen hrb5 i
            replace hp5 := eq_true hp5
            replace hq5 := eq_true hq5
            rw [Int.toNat_natCast] at hx5
            have hx6 : w8.cell? ⟨r5, i, none⟩ = some (.int .i64 (rd starts (i : Int))) := by rw [← addM0]; exact hx5
            clear hx5 hg5 hr5 hrg5 hre5 hs5 hrb5
            go_still_tail 10, (by kernel_rfl)
            change wpList _ _ _ _ _ (World.drew _)
            go_wp2
            go_meet
            exact ⟨⟨IsM.drew (HS5.out i (rd_T43 jobs (m : Int)).f0)⟩, ⟨below_drew1 (show Below w0.heap.size w0 (w8.setCell ⟨r5, i, none⟩ _) from HB.out.setCell HR5.out _)⟩, ⟨HF.out.1 _ _ _ (HF.out.2.2.1 _ _ _ _ _ HRE.out HP.out) (below_drew1 (Below.refl _ _))⟩⟩
          case rest =>
            clear hg5 hr5 hrg5 hre5 hs5 hrb5 HS5 HR5 HRE HI HB HP
            obtain ⟨HI, HB, HP⟩ := hcut
            obtain ⟨A7, c7, sv7, h1, _, _, _⟩ := HI.out
            have hk1 : wc.cell? ⟨g, 1, none⟩ = some (.int .i64 (rd_T43 jobs (m : Int)).f0) := (blk_cell h1 1).trans rfl
            have hf1 := blk_frozen h1 1
            have HGE := Aside0.mk HI.out.ge
            have hp5 : 0 ≤ (i : Int) := by omega
            have hq5 : (i : Int) < (jobs.length : Int) := by have := HIJ.out; omega
            obtain ⟨ad5, e5, hy0, hy1, hy2⟩ := at_T43 HJ.out (i : Int) hp5 hq5
            cases e5
            simp only [Int.toNat_natCast] at hy0 hy1 hy2
            replace hy2 := pw_cell_below HB.out hy2
            replace hp5 := eq_true hp5
            replace hq5 := eq_true hq5
            clear h1 hy0 hy1
            go_upto_region 10 with (fail)
            go_still_tail 12, (by kernel_rfl)
            change wpList _ _ _ _ _ (World.drew _)
            go_wp2
            go_roundg k1
            case measure => omega
            case rel => exact ⟨_, _, _, H', ⟨by rw [List.length_set]; exact HL.out⟩, ⟨IsM.drew (HI.out.set_1 _)⟩, ⟨below_drew1 (show Below w0.heap.size w0 (wc.setCell ⟨g, 1, none⟩ _) from HB.out.setCell HGE.out _)⟩, ⟨HF.out.1 _ _ _ (HF.out.2.1 _ _ _ _ _ _ HI.out HP.out) (below_drew1 (Below.refl _ _))⟩⟩
        · rw [if_neg cw] at ht1 hs1
          subst ht1 hs1
          have cwb : ((wl.length : Int) == 0) = false := beq_eq_false_iff_ne.mpr cw
          have cwb2 : (wl.length == 0) = false := by simpa using cw
          clear cw
          go_upto_region 8 with (first | (go_at_call 79; (with_reducible refine (slices_Index_int_int.calls k1 A3 c3 starts (-1) _ _ ?s1 ?s2 HE1.out).mono ?_); (case s1 => exact (Kd.R_reads' H4.out).2.2); (case s2 => exact (Kd.R_reads' H4.out).2.1); rintro e w5 ⟨rfl, ⟨nd, rfl⟩⟩) | ((with_reducible refine gate_callee (f := 79) rfl ?_); refine goesL_ (some 21) rfl rfl Try.func79 (by kernel_rfl) rfl #[.slice A3 starts.length c3, .int .i64 (-1)] rfl (by (try simp only [List.map_toArray, List.map_cons, List.map_nil]); first | done | rfl) ?_; (with_reducible refine (slices_Index_int_int.calls k1 A3 c3 starts (-1) _ _ ?s1 ?s2 HE1.out).mono ?_); (case s1 => exact (Kd.R_reads' H4.out).2.2); (case s2 => exact (Kd.R_reads' H4.out).2.1); rintro e w5 ⟨rfl, ⟨nd, rfl⟩⟩; refine ⟨_, rfl, ?_⟩) | (go_at_call 72; (with_reducible refine (waiting_q k1 g jobs tick starts wl wt _ ?s1 HE2.out).mono ?_); (case s1 => exact IsM.q (by repeat (first | exact HI.out | apply IsM.drewN | apply IsM.drew)) (by repeat (first | (with_reducible first | exact HB.out | apply below_alloc | apply pw_below_drewN | apply below_drew1) | exact HB.out))); rintro e w6 ⟨v29, rfl, ho, hb⟩; have HO29 := Aside0.mk ho; have HI5 := Aside0.mk (IsM.below (by repeat (first | exact HI.out | apply IsM.drewN | apply IsM.drew)) hb); have HB5 := Aside0.mk (below_step (by repeat (first | (with_reducible first | exact HB.out | apply below_alloc | apply pw_below_drewN | apply below_drew1) | exact HB.out)) hb); have HP5 := Aside0.mk (HF.out.1 _ _ _ (by first | exact HP.out | exact HF.out.1 _ _ _ HP.out (by repeat (first | (with_reducible exact Below.refl _ _) | apply pw_below_drewN | apply below_drew1))) hb); clear HI HB HP ho hb; have HI := HI5; have HB := HB5; have HP := HP5; clear HI5 HB5 HP5; obtain ⟨A29, c29, e29⟩ := Kd.R_slice HO29.out; subst e29) | ((with_reducible refine gate_callee (f := 72) rfl ?_); refine goesL_ (some 29) rfl rfl Try.func72 (by kernel_rfl) rfl #[.pointer (some ⟨g, 0, none⟩)] rfl (by (try simp only [List.map_toArray, List.map_cons, List.map_nil]); first | done | rfl) ?_; (with_reducible refine (waiting_q k1 g jobs tick starts wl wt _ ?s1 HE2.out).mono ?_); (case s1 => exact IsM.q (by repeat (first | exact HI.out | apply IsM.drewN | apply IsM.drew)) (by repeat (first | (with_reducible first | exact HB.out | apply below_alloc | apply pw_below_drewN | apply below_drew1) | exact HB.out))); rintro e w6 ⟨v29, rfl, ho, hb⟩; have HO29 := Aside0.mk ho; have HI5 := Aside0.mk (IsM.below (by repeat (first | exact HI.out | apply IsM.drewN | apply IsM.drew)) hb); have HB5 := Aside0.mk (below_step (by repeat (first | (with_reducible first | exact HB.out | apply below_alloc | apply pw_below_drewN | apply below_drew1) | exact HB.out)) hb); have HP5 := Aside0.mk (HF.out.1 _ _ _ (by first | exact HP.out | exact HF.out.1 _ _ _ HP.out (by repeat (first | (with_reducible exact Below.refl _ _) | apply pw_below_drewN | apply below_drew1))) hb); clear HI HB HP ho hb; have HI := HI5; have HB := HB5; have HP := HP5; clear HI5 HB5 HP5; obtain ⟨A29, c29, e29⟩ := Kd.R_slice HO29.out; subst e29; refine ⟨_, rfl, ?_⟩))
          go_upto_region 9 with (first | ((go_at_call 63; (with_reducible refine (HF.out.2.2.2.1 k1 _ g starts tick s' (i : Int) s2 ?s1 ?s2 ?s3 HL.out HE3.out).mono ?_); (case s1 => exact HI.out); (case s2 => exact HB.out); (case s3 => exact HP.out); rintro e w8 ⟨rfl, hi, hb, hpp⟩; have HI8 := Aside0.mk hi; have HB8 := Aside0.mk hb; have HP8 := Aside0.mk hpp; clear HI HB HP hi hb hpp; have HI := HI8; have HB := HB8; have HP := HP8; clear HI8 HB8 HP8)))
          obtain ⟨A5, c5, r5, c6, hg5, _, hr5, hrg5, hre5, hs5, ⟨cells5, hrb5⟩, hset5⟩ := HI.out.row (by have := HIS.out; omega)
          have HS5 := Aside0.mk hset5
          have HR5 := Aside0.mk hr5
          have HRE := Aside0.mk hre5
          clear hset5
          go_cut [] (fun wc => Aside0 (IsM w0 wc E g jobs tick (starts.set i tick)) ∧ Aside0 (Below w0.heap.size w0 wc) ∧ Aside0 (P wc s2))
          case first =>
            have hk1 : w8.cell? ⟨g, 1, none⟩ = some (.int .i64 tick) := (blk_cell hg5 1).trans rfl
            have hk2 : w8.cell? ⟨g, 2, none⟩ = some (.slice (some ⟨r5, 0, none⟩) starts.length c6) := (blk_cell hg5 2).trans rfl
            have hp5 : 0 ≤ (i : Int) := by omega
            have hq5 : (i : Int) < (starts.length : Int) := by have := HIS.out; omega
            obtain ⟨ad5, e5, hx5⟩ := Kd.at_int hs5 (i : Int) hp5 hq5
            cases e5
            have hfr := blk_frozen hrb5 i
            replace hp5 := eq_true hp5
            replace hq5 := eq_true hq5
            rw [Int.toNat_natCast] at hx5
            have hx6 : w8.cell? ⟨r5, i, none⟩ = some (.int .i64 (rd starts (i : Int))) := by rw [← addM0]; exact hx5
            clear hx5 hg5 hr5 hrg5 hre5 hs5 hrb5
            go_still_tail 10, (by kernel_rfl)
            change wpList _ _ _ _ _ (World.drew _)
            go_wp2
            go_meet
            exact ⟨⟨IsM.drew (HS5.out i tick)⟩, ⟨below_drew1 (show Below w0.heap.size w0 (w8.setCell ⟨r5, i, none⟩ _) from HB.out.setCell HR5.out _)⟩, ⟨HF.out.1 _ _ _ (HF.out.2.2.1 _ _ _ _ _ HRE.out HP.out) (below_drew1 (Below.refl _ _))⟩⟩
          case rest =>
            clear hg5 hr5 hrg5 hre5 hs5 hrb5 HS5 HR5 HRE HI HB HP
            obtain ⟨HI, HB, HP⟩ := hcut
            obtain ⟨A7, c7, sv7, h1, _, _, _⟩ := HI.out
            have hk1 : wc.cell? ⟨g, 1, none⟩ = some (.int .i64 tick) := (blk_cell h1 1).trans rfl
            have hf1 := blk_frozen h1 1
            have HGE := Aside0.mk HI.out.ge
            have hp5 : 0 ≤ (i : Int) := by omega
            have hq5 : (i : Int) < (jobs.length : Int) := by have := HIJ.out; omega
            obtain ⟨ad5, e5, hy0, hy1, hy2⟩ := at_T43 HJ.out (i : Int) hp5 hq5
            cases e5
            simp only [Int.toNat_natCast] at hy0 hy1 hy2
            replace hy2 := pw_cell_below HB.out hy2
            replace hp5 := eq_true hp5
            replace hq5 := eq_true hq5
            clear h1 hy0 hy1
            go_upto_region 10 with (fail)
            go_still_tail 12, (by kernel_rfl)
            change wpList _ _ _ _ _ (World.drew _)
            go_wp2
            go_roundg k1
            case measure => omega
            case rel => exact ⟨_, _, _, H', ⟨by rw [List.length_set]; exact HL.out⟩, ⟨IsM.drew (HI.out.set_1 _)⟩, ⟨below_drew1 (show Below w0.heap.size w0 (wc.setCell ⟨g, 1, none⟩ _) from HB.out.setCell HGE.out _)⟩, ⟨HF.out.1 _ _ _ (HF.out.2.1 _ _ _ _ _ _ HI.out HP.out) (below_drew1 (Below.refl _ _))⟩⟩
/-! ### impl_DeficitStarts: the function -/
theorem alloc3 (w : World) (o1 o2 o3 : Obj) : (((w.alloc o1).alloc o2).alloc o3).heap[w.heap.size]? = some o1 ∧ (((w.alloc o1).alloc o2).alloc o3).heap[w.heap.size + 1]? = some o2 ∧ (((w.alloc o1).alloc o2).alloc o3).heap[w.heap.size + 1 + 1]? = some o3 ∧ Below w.heap.size w (((w.alloc o1).alloc o2).alloc o3) := by
  have e : ∀ (w : World) (o : Obj), (w.alloc o).heap = w.heap.push o := fun _ _ => rfl
  refine ⟨?_, ?_, ?_, Below.alloc (Below.alloc (Below.alloc (Below.refl _ _) (Nat.le_refl _) _) (by rw [e, Array.size_push]; omega) _) (by rw [e, e, Array.size_push, Array.size_push]; omega) _⟩
  · rw [e, e, e, Array.getElem?_push, Array.getElem?_push, Array.getElem?_push, Array.size_push, Array.size_push, if_neg (by omega), if_neg (by omega), if_pos rfl]
  · rw [e, e, e, Array.getElem?_push, Array.getElem?_push, Array.size_push, Array.size_push, if_neg (by omega), if_pos rfl]
  · rw [e, e, e, Array.getElem?_push, Array.size_push, Array.size_push, if_pos rfl]
def impl_DeficitStarts.f (k : Nat) (l0 : List (S43)) (l1 : List Int) : Option (List Int × Bool) := (impl_AreJobs.f k l0).bind fun t => if t = true then (if l1.length = 8 then ((impl_allWithin.f l1 1 40).bind fun u => if u = true then (if l0.length ≤ 20 then (startsByL l0 (gDef l1 l0) (fun _ => (7, true, List.replicate 8 0)) k (List.replicate l0.length (-1)) 0 (7, true, List.replicate 8 0)).bind fun r => some (r, true) else none) else some ([], false)) else some ([], false)) else some ([], false)
set_option maxHeartbeats 8000000 in
set_option maxRecDepth 100000 in
theorem impl_DeficitStarts.calls (k : Nat) (A0 : Option Addr) (c0 : Nat) (l0 : List (S43)) (A1 : Option Addr) (c1 : Nat) (l1 : List Int) (r1 : List Int) (r2 : Bool) (w : World) (hr0 : Kd.C k43 w A0 l0.length l0) (hc0 : l0.length ≤ c0) (hr1 : Kd.C (Kd.int .i64) w A1 l1.length l1) (hc1 : l1.length ≤ c1) (h : impl_DeficitStarts.f k l0 l1 = some (r1, r2)) :
    Calls Try.prog 34 #[.slice A0 l0.length c0, .slice A1 l1.length c1] w fun e w' => ∃ v0_ : Value, e = .returned (.tuple #[v0_, .bool r2]) ∧ Kd.R (Kd.int .i64) 3 w' w.heap.size (fun _ => True) v0_ r1 ∧ Below w.heap.size w w' := by
  have hu43 := Try.underlying43
  have hmf : ∀ (fn : Fn) (first cap : Array Value) (w : World), (Instr.makeFunc fn first cap).run Try.prog w = .ok (.func fn first cap) w := fun _ _ _ _ => rfl
  have HR0 := Aside0.mk hr0
  have HR1 := Aside0.mk hr1
  have HC0 := Aside0.mk hc0
  have HC1 := Aside0.mk hc1
  have HB := Aside0.mk (Below.refl w.heap.size w)
  clear hr0 hr1 hc0 hc1
  unfold impl_DeficitStarts.f at h
  obtain ⟨b, E1, h⟩ := Option.bind_eq_some_iff.mp h
  have HE1 := Aside0.mk E1
  clear E1
  cases b
  · rw [if_neg (by decide)] at h
    obtain ⟨rfl, rfl⟩ := Prod.mk.inj (Option.some.inj h)
    clear h
    go_enter Try.func34, Try.ntmps34
    go_wp2_with (first | ((with_reducible refine gate_dst (N := 2) rfl ?_); refine box_event ?hg (N := 2) ?hd (cs := #[.slice A0 l0.length c0]) (t := 27) ?hr ?_; (case hd => rfl); (case hg => rfl); (case hr => first | (go_simp; done) | (go_simp; rfl)); intro b5 hg w1 hbox hb; have H5 := Aside0.mk hbox; clear hbox hg; have HB7 := Aside0.mk (below_step (by repeat (first | exact HB.out | apply pw_below_drewN | apply below_drew1)) hb); clear HB hb; have HB := HB7; clear HB7; have hc5 : w1.cell? ⟨b5, 0, none⟩ = some (.slice A0 l0.length c0) := (blk_cell H5.out 0).trans rfl) | ((with_reducible refine gate_dst (N := 3) rfl ?_); refine box_event ?hg (N := 3) ?hd (cs := #[.slice A1 l1.length c1]) (t := 23) ?hr ?_; (case hd => rfl); (case hg => rfl); (case hr => first | (go_simp; done) | (go_simp; rfl)); intro b4 hg w2 hbox hb; have H4 := Aside0.mk hbox; clear hbox hg hc5; have HB7 := Aside0.mk (below_step (by repeat (first | exact HB.out | apply pw_below_drewN | apply below_drew1)) hb); have H5N := Aside0.mk (blk_below H5.out hb); clear HB hb H5; have HB := HB7; have H5 := H5N; clear HB7 H5N; have hc5 : w2.cell? ⟨b5, 0, none⟩ = some (.slice A0 l0.length c0) := (blk_cell H5.out 0).trans rfl; have hc4 : w2.cell? ⟨b4, 0, none⟩ = some (.slice A1 l1.length c1) := (blk_cell H4.out 0).trans rfl) | (go_at_call 47; (with_reducible refine (impl_AreJobs.calls k _ _ l0 false _ ?s1 ?s2 HE1.out).mono ?_); (case s1 => exact (by first | exact HR0.out | exact Kd.C_below HR0.out (by repeat (first | exact HB.out | apply pw_below_drewN | apply below_drew1)))); (case s2 => exact HC0.out); rintro e w5 ⟨rfl, hb⟩; clear hc4 hc5; have HB7 := Aside0.mk (below_step (by repeat (first | exact HB.out | apply pw_below_drewN | apply below_drew1)) hb); have H4N := Aside0.mk (blk_below H4.out hb); have H5N := Aside0.mk (blk_below H5.out hb); clear HB hb H4 H5; have HB := HB7; have H4 := H4N; have H5 := H5N; clear HB7 H4N H5N; have hc5 : w5.cell? ⟨b5, 0, none⟩ = some (.slice A0 l0.length c0) := (blk_cell H5.out 0).trans rfl; have hc4 : w5.cell? ⟨b4, 0, none⟩ = some (.slice A1 l1.length c1) := (blk_cell H4.out 0).trans rfl) | ((with_reducible refine gate_callee (f := 47) rfl ?_); refine goesL_ (some 10) rfl rfl Try.func47 (by kernel_rfl) rfl #[.slice A0 l0.length c0] rfl (by (try simp only [List.map_toArray, List.map_cons, List.map_nil]); first | done | rfl) ?_; (with_reducible refine (impl_AreJobs.calls k _ _ l0 false _ ?s1 ?s2 HE1.out).mono ?_); (case s1 => exact (by first | exact HR0.out | exact Kd.C_below HR0.out (by repeat (first | exact HB.out | apply pw_below_drewN | apply below_drew1)))); (case s2 => exact HC0.out); rintro e w5 ⟨rfl, hb⟩; clear hc4 hc5; have HB7 := Aside0.mk (below_step (by repeat (first | exact HB.out | apply pw_below_drewN | apply below_drew1)) hb); have H4N := Aside0.mk (blk_below H4.out hb); have H5N := Aside0.mk (blk_below H5.out hb); clear HB hb H4 H5; have HB := HB7; have H4 := H4N; have H5 := H5N; clear HB7 H4N H5N; have hc5 : w5.cell? ⟨b5, 0, none⟩ = some (.slice A0 l0.length c0) := (blk_cell H5.out 0).trans rfl; have hc4 : w5.cell? ⟨b4, 0, none⟩ = some (.slice A1 l1.length c1) := (blk_cell H4.out 0).trans rfl; refine ⟨_, rfl, ?_⟩))
    go_ret2
    exact ⟨_, rfl, Kd.R_nil _ _ _ _ _, (by repeat (first | exact HB.out | apply pw_below_drewN | apply below_drew1))⟩
  rw [if_pos rfl] at h
  by_cases h8 : l1.length = 8
  case neg =>
    rw [if_neg h8] at h
    obtain ⟨rfl, rfl⟩ := Prod.mk.inj (Option.some.inj h)
    have hx1 : (((l1.length : Nat) : Int) != 8) = true := bne_iff_ne.mpr (by omega)
    have hx2 : (l1.length != 8) = true := bne_iff_ne.mpr h8
    have hx3 : (((l1.length : Nat) : Int) == 8) = false := beq_eq_false_iff_ne.mpr (by omega)
    have hx4 : (l1.length == 8) = false := beq_eq_false_iff_ne.mpr h8
    clear h8 h
    go_enter Try.func34, Try.ntmps34
    go_wp2_with (first | ((with_reducible refine gate_dst (N := 2) rfl ?_); refine box_event ?hg (N := 2) ?hd (cs := #[.slice A0 l0.length c0]) (t := 27) ?hr ?_; (case hd => rfl); (case hg => rfl); (case hr => first | (go_simp; done) | (go_simp; rfl)); intro b5 hg w1 hbox hb; have H5 := Aside0.mk hbox; clear hbox hg; have HB7 := Aside0.mk (below_step (by repeat (first | exact HB.out | apply pw_below_drewN | apply below_drew1)) hb); clear HB hb; have HB := HB7; clear HB7; have hc5 : w1.cell? ⟨b5, 0, none⟩ = some (.slice A0 l0.length c0) := (blk_cell H5.out 0).trans rfl) | ((with_reducible refine gate_dst (N := 3) rfl ?_); refine box_event ?hg (N := 3) ?hd (cs := #[.slice A1 l1.length c1]) (t := 23) ?hr ?_; (case hd => rfl); (case hg => rfl); (case hr => first | (go_simp; done) | (go_simp; rfl)); intro b4 hg w2 hbox hb; have H4 := Aside0.mk hbox; clear hbox hg hc5; have HB7 := Aside0.mk (below_step (by repeat (first | exact HB.out | apply pw_below_drewN | apply below_drew1)) hb); have H5N := Aside0.mk (blk_below H5.out hb); clear HB hb H5; have HB := HB7; have H5 := H5N; clear HB7 H5N; have hc5 : w2.cell? ⟨b5, 0, none⟩ = some (.slice A0 l0.length c0) := (blk_cell H5.out 0).trans rfl; have hc4 : w2.cell? ⟨b4, 0, none⟩ = some (.slice A1 l1.length c1) := (blk_cell H4.out 0).trans rfl) | (go_at_call 47; (with_reducible refine (impl_AreJobs.calls k _ _ l0 true _ ?s1 ?s2 HE1.out).mono ?_); (case s1 => exact (by first | exact HR0.out | exact Kd.C_below HR0.out (by repeat (first | exact HB.out | apply pw_below_drewN | apply below_drew1)))); (case s2 => exact HC0.out); rintro e w5 ⟨rfl, hb⟩; clear hc4 hc5; have HB7 := Aside0.mk (below_step (by repeat (first | exact HB.out | apply pw_below_drewN | apply below_drew1)) hb); have H4N := Aside0.mk (blk_below H4.out hb); have H5N := Aside0.mk (blk_below H5.out hb); clear HB hb H4 H5; have HB := HB7; have H4 := H4N; have H5 := H5N; clear HB7 H4N H5N; have hc5 : w5.cell? ⟨b5, 0, none⟩ = some (.slice A0 l0.length c0) := (blk_cell H5.out 0).trans rfl; have hc4 : w5.cell? ⟨b4, 0, none⟩ = some (.slice A1 l1.length c1) := (blk_cell H4.out 0).trans rfl) | ((with_reducible refine gate_callee (f := 47) rfl ?_); refine goesL_ (some 10) rfl rfl Try.func47 (by kernel_rfl) rfl #[.slice A0 l0.length c0] rfl (by (try simp only [List.map_toArray, List.map_cons, List.map_nil]); first | done | rfl) ?_; (with_reducible refine (impl_AreJobs.calls k _ _ l0 true _ ?s1 ?s2 HE1.out).mono ?_); (case s1 => exact (by first | exact HR0.out | exact Kd.C_below HR0.out (by repeat (first | exact HB.out | apply pw_below_drewN | apply below_drew1)))); (case s2 => exact HC0.out); rintro e w5 ⟨rfl, hb⟩; clear hc4 hc5; have HB7 := Aside0.mk (below_step (by repeat (first | exact HB.out | apply pw_below_drewN | apply below_drew1)) hb); have H4N := Aside0.mk (blk_below H4.out hb); have H5N := Aside0.mk (blk_below H5.out hb); clear HB hb H4 H5; have HB := HB7; have H4 := H4N; have H5 := H5N; clear HB7 H4N H5N; have hc5 : w5.cell? ⟨b5, 0, none⟩ = some (.slice A0 l0.length c0) := (blk_cell H5.out 0).trans rfl; have hc4 : w5.cell? ⟨b4, 0, none⟩ = some (.slice A1 l1.length c1) := (blk_cell H4.out 0).trans rfl; refine ⟨_, rfl, ?_⟩))
    go_ret2
    exact ⟨_, rfl, Kd.R_nil _ _ _ _ _, (by repeat (first | exact HB.out | apply pw_below_drewN | apply below_drew1))⟩
  rw [if_pos h8] at h
  have hx1 : (((l1.length : Nat) : Int) != 8) = false := bne_eq_false_iff_eq.mpr (by omega)
  have hx2 : (l1.length != 8) = false := bne_eq_false_iff_eq.mpr h8
  have hx3 : (((l1.length : Nat) : Int) == 8) = true := beq_iff_eq.mpr (by omega)
  have hx4 : (l1.length == 8) = true := beq_iff_eq.mpr h8
  have H8 := Aside0.mk h8
  clear h8
  obtain ⟨b, E2, h⟩ := Option.bind_eq_some_iff.mp h
  have HE2 := Aside0.mk E2
  clear E2
  cases b
  · rw [if_neg (by decide)] at h
    obtain ⟨rfl, rfl⟩ := Prod.mk.inj (Option.some.inj h)
    clear h
    go_enter Try.func34, Try.ntmps34
    go_wp2_with (first | ((with_reducible refine gate_dst (N := 2) rfl ?_); refine box_event ?hg (N := 2) ?hd (cs := #[.slice A0 l0.length c0]) (t := 27) ?hr ?_; (case hd => rfl); (case hg => rfl); (case hr => first | (go_simp; done) | (go_simp; rfl)); intro b5 hg w1 hbox hb; have H5 := Aside0.mk hbox; clear hbox hg; have HB7 := Aside0.mk (below_step (by repeat (first | exact HB.out | apply pw_below_drewN | apply below_drew1)) hb); clear HB hb; have HB := HB7; clear HB7; have hc5 : w1.cell? ⟨b5, 0, none⟩ = some (.slice A0 l0.length c0) := (blk_cell H5.out 0).trans rfl) | ((with_reducible refine gate_dst (N := 3) rfl ?_); refine box_event ?hg (N := 3) ?hd (cs := #[.slice A1 l1.length c1]) (t := 23) ?hr ?_; (case hd => rfl); (case hg => rfl); (case hr => first | (go_simp; done) | (go_simp; rfl)); intro b4 hg w2 hbox hb; have H4 := Aside0.mk hbox; clear hbox hg hc5; have HB7 := Aside0.mk (below_step (by repeat (first | exact HB.out | apply pw_below_drewN | apply below_drew1)) hb); have H5N := Aside0.mk (blk_below H5.out hb); clear HB hb H5; have HB := HB7; have H5 := H5N; clear HB7 H5N; have hc5 : w2.cell? ⟨b5, 0, none⟩ = some (.slice A0 l0.length c0) := (blk_cell H5.out 0).trans rfl; have hc4 : w2.cell? ⟨b4, 0, none⟩ = some (.slice A1 l1.length c1) := (blk_cell H4.out 0).trans rfl) | (go_at_call 47; (with_reducible refine (impl_AreJobs.calls k _ _ l0 true _ ?s1 ?s2 HE1.out).mono ?_); (case s1 => exact (by first | exact HR0.out | exact Kd.C_below HR0.out (by repeat (first | exact HB.out | apply pw_below_drewN | apply below_drew1)))); (case s2 => exact HC0.out); rintro e w5 ⟨rfl, hb⟩; clear hc4 hc5; have HB7 := Aside0.mk (below_step (by repeat (first | exact HB.out | apply pw_below_drewN | apply below_drew1)) hb); have H4N := Aside0.mk (blk_below H4.out hb); have H5N := Aside0.mk (blk_below H5.out hb); clear HB hb H4 H5; have HB := HB7; have H4 := H4N; have H5 := H5N; clear HB7 H4N H5N; have hc5 : w5.cell? ⟨b5, 0, none⟩ = some (.slice A0 l0.length c0) := (blk_cell H5.out 0).trans rfl; have hc4 : w5.cell? ⟨b4, 0, none⟩ = some (.slice A1 l1.length c1) := (blk_cell H4.out 0).trans rfl) | ((with_reducible refine gate_callee (f := 47) rfl ?_); refine goesL_ (some 10) rfl rfl Try.func47 (by kernel_rfl) rfl #[.slice A0 l0.length c0] rfl (by (try simp only [List.map_toArray, List.map_cons, List.map_nil]); first | done | rfl) ?_; (with_reducible refine (impl_AreJobs.calls k _ _ l0 true _ ?s1 ?s2 HE1.out).mono ?_); (case s1 => exact (by first | exact HR0.out | exact Kd.C_below HR0.out (by repeat (first | exact HB.out | apply pw_below_drewN | apply below_drew1)))); (case s2 => exact HC0.out); rintro e w5 ⟨rfl, hb⟩; clear hc4 hc5; have HB7 := Aside0.mk (below_step (by repeat (first | exact HB.out | apply pw_below_drewN | apply below_drew1)) hb); have H4N := Aside0.mk (blk_below H4.out hb); have H5N := Aside0.mk (blk_below H5.out hb); clear HB hb H4 H5; have HB := HB7; have H4 := H4N; have H5 := H5N; clear HB7 H4N H5N; have hc5 : w5.cell? ⟨b5, 0, none⟩ = some (.slice A0 l0.length c0) := (blk_cell H5.out 0).trans rfl; have hc4 : w5.cell? ⟨b4, 0, none⟩ = some (.slice A1 l1.length c1) := (blk_cell H4.out 0).trans rfl; refine ⟨_, rfl, ?_⟩) | (go_at_call 58; (with_reducible refine (impl_allWithin.calls _ _ l1 1 40 false _ ?s1 ?s2 HE2.out).mono ?_); (case s1 => exact Kd.C_below HR1.out (by repeat (first | exact HB.out | apply pw_below_drewN | apply below_drew1))); (case s2 => exact HC1.out); rintro e w7 ⟨rfl, hb⟩; clear hc4 hc5; have HB7 := Aside0.mk (below_step (by repeat (first | exact HB.out | apply pw_below_drewN | apply below_drew1)) hb); have H4N := Aside0.mk (blk_below H4.out hb); have H5N := Aside0.mk (blk_below H5.out hb); clear HB hb H4 H5; have HB := HB7; have H4 := H4N; have H5 := H5N; clear HB7 H4N H5N; have hc5 : w7.cell? ⟨b5, 0, none⟩ = some (.slice A0 l0.length c0) := (blk_cell H5.out 0).trans rfl; have hc4 : w7.cell? ⟨b4, 0, none⟩ = some (.slice A1 l1.length c1) := (blk_cell H4.out 0).trans rfl) | ((with_reducible refine gate_callee (f := 58) rfl ?_); refine goesL_ (some 19) rfl rfl Try.func58 (by kernel_rfl) rfl #[.slice A1 l1.length c1, .int .i64 1, .int .i64 40] rfl (by (try simp only [List.map_toArray, List.map_cons, List.map_nil]); first | done | rfl) ?_; (with_reducible refine (impl_allWithin.calls _ _ l1 1 40 false _ ?s1 ?s2 HE2.out).mono ?_); (case s1 => exact Kd.C_below HR1.out (by repeat (first | exact HB.out | apply pw_below_drewN | apply below_drew1))); (case s2 => exact HC1.out); rintro e w7 ⟨rfl, hb⟩; clear hc4 hc5; have HB7 := Aside0.mk (below_step (by repeat (first | exact HB.out | apply pw_below_drewN | apply below_drew1)) hb); have H4N := Aside0.mk (blk_below H4.out hb); have H5N := Aside0.mk (blk_below H5.out hb); clear HB hb H4 H5; have HB := HB7; have H4 := H4N; have H5 := H5N; clear HB7 H4N H5N; have hc5 : w7.cell? ⟨b5, 0, none⟩ = some (.slice A0 l0.length c0) := (blk_cell H5.out 0).trans rfl; have hc4 : w7.cell? ⟨b4, 0, none⟩ = some (.slice A1 l1.length c1) := (blk_cell H4.out 0).trans rfl; refine ⟨_, rfl, ?_⟩))
    go_ret2
    exact ⟨_, rfl, Kd.R_nil _ _ _ _ _, (by repeat (first | exact HB.out | apply pw_below_drewN | apply below_drew1))⟩
  rw [if_pos rfl] at h
  by_cases hn : l0.length ≤ 20
  case neg => rw [if_neg hn] at h; cases h
  rw [if_pos hn] at h
  obtain ⟨r, E3, h⟩ := Option.bind_eq_some_iff.mp h
  have HE3 := Aside0.mk E3
  have HN := Aside0.mk hn
  obtain ⟨ad, e5, hx5⟩ := Kd.at_int HR1.out 0 (by omega) (by have := H8.out; omega)
  subst e5
  have huA := Try.underlying65
  clear E3 hn hx5
  obtain ⟨rfl, rfl⟩ := Prod.mk.inj (Option.some.inj h)
  clear h
  go_enter Try.func34, Try.ntmps34
  go_upto_region 4 with (first | ((with_reducible refine gate_dst (N := 2) rfl ?_); refine box_event ?hg (N := 2) ?hd (cs := #[.slice A0 l0.length c0]) (t := 27) ?hr ?_; (case hd => rfl); (case hg => rfl); (case hr => first | (go_simp; done) | (go_simp; rfl)); intro b5 hg w1 hbox hb; have H5 := Aside0.mk hbox; clear hbox hg; have HB7 := Aside0.mk (below_step (by repeat (first | exact HB.out | apply pw_below_drewN | apply below_drew1)) hb); clear HB hb; have HB := HB7; clear HB7; have hc5 : w1.cell? ⟨b5, 0, none⟩ = some (.slice A0 l0.length c0) := (blk_cell H5.out 0).trans rfl) | ((with_reducible refine gate_dst (N := 3) rfl ?_); refine box_event ?hg (N := 3) ?hd (cs := #[.slice (some ad) l1.length c1]) (t := 23) ?hr ?_; (case hd => rfl); (case hg => rfl); (case hr => first | (go_simp; done) | (go_simp; rfl)); intro b4 hg w2 hbox hb; have H4 := Aside0.mk hbox; clear hbox hg hc5; have HB7 := Aside0.mk (below_step (by repeat (first | exact HB.out | apply pw_below_drewN | apply below_drew1)) hb); have H5N := Aside0.mk (blk_below H5.out hb); clear HB hb H5; have HB := HB7; have H5 := H5N; clear HB7 H5N; have hc5 : w2.cell? ⟨b5, 0, none⟩ = some (.slice A0 l0.length c0) := (blk_cell H5.out 0).trans rfl; have hc4 : w2.cell? ⟨b4, 0, none⟩ = some (.slice (some ad) l1.length c1) := (blk_cell H4.out 0).trans rfl) | (go_at_call 47; (with_reducible refine (impl_AreJobs.calls k _ _ l0 true _ ?s1 ?s2 HE1.out).mono ?_); (case s1 => exact (by first | exact HR0.out | exact Kd.C_below HR0.out (by repeat (first | exact HB.out | apply pw_below_drewN | apply below_drew1)))); (case s2 => exact HC0.out); rintro e w5 ⟨rfl, hb⟩; clear hc4 hc5; have HB7 := Aside0.mk (below_step (by repeat (first | exact HB.out | apply pw_below_drewN | apply below_drew1)) hb); have H4N := Aside0.mk (blk_below H4.out hb); have H5N := Aside0.mk (blk_below H5.out hb); clear HB hb H4 H5; have HB := HB7; have H4 := H4N; have H5 := H5N; clear HB7 H4N H5N; have hc5 : w5.cell? ⟨b5, 0, none⟩ = some (.slice A0 l0.length c0) := (blk_cell H5.out 0).trans rfl; have hc4 : w5.cell? ⟨b4, 0, none⟩ = some (.slice (some ad) l1.length c1) := (blk_cell H4.out 0).trans rfl) | ((with_reducible refine gate_callee (f := 47) rfl ?_); refine goesL_ (some 10) rfl rfl Try.func47 (by kernel_rfl) rfl #[.slice A0 l0.length c0] rfl (by (try simp only [List.map_toArray, List.map_cons, List.map_nil]); first | done | rfl) ?_; (with_reducible refine (impl_AreJobs.calls k _ _ l0 true _ ?s1 ?s2 HE1.out).mono ?_); (case s1 => exact (by first | exact HR0.out | exact Kd.C_below HR0.out (by repeat (first | exact HB.out | apply pw_below_drewN | apply below_drew1)))); (case s2 => exact HC0.out); rintro e w5 ⟨rfl, hb⟩; clear hc4 hc5; have HB7 := Aside0.mk (below_step (by repeat (first | exact HB.out | apply pw_below_drewN | apply below_drew1)) hb); have H4N := Aside0.mk (blk_below H4.out hb); have H5N := Aside0.mk (blk_below H5.out hb); clear HB hb H4 H5; have HB := HB7; have H4 := H4N; have H5 := H5N; clear HB7 H4N H5N; have hc5 : w5.cell? ⟨b5, 0, none⟩ = some (.slice A0 l0.length c0) := (blk_cell H5.out 0).trans rfl; have hc4 : w5.cell? ⟨b4, 0, none⟩ = some (.slice (some ad) l1.length c1) := (blk_cell H4.out 0).trans rfl; refine ⟨_, rfl, ?_⟩) | (go_at_call 58; (with_reducible refine (impl_allWithin.calls _ _ l1 1 40 true _ ?s1 ?s2 HE2.out).mono ?_); (case s1 => exact Kd.C_below HR1.out (by repeat (first | exact HB.out | apply pw_below_drewN | apply below_drew1))); (case s2 => exact HC1.out); rintro e w7 ⟨rfl, hb⟩; clear hc4 hc5; have HB7 := Aside0.mk (below_step (by repeat (first | exact HB.out | apply pw_below_drewN | apply below_drew1)) hb); have H4N := Aside0.mk (blk_below H4.out hb); have H5N := Aside0.mk (blk_below H5.out hb); clear HB hb H4 H5; have HB := HB7; have H4 := H4N; have H5 := H5N; clear HB7 H4N H5N; have hc5 : w7.cell? ⟨b5, 0, none⟩ = some (.slice A0 l0.length c0) := (blk_cell H5.out 0).trans rfl; have hc4 : w7.cell? ⟨b4, 0, none⟩ = some (.slice (some ad) l1.length c1) := (blk_cell H4.out 0).trans rfl) | ((with_reducible refine gate_callee (f := 58) rfl ?_); refine goesL_ (some 19) rfl rfl Try.func58 (by kernel_rfl) rfl #[.slice (some ad) l1.length c1, .int .i64 1, .int .i64 40] rfl (by (try simp only [List.map_toArray, List.map_cons, List.map_nil]); first | done | rfl) ?_; (with_reducible refine (impl_allWithin.calls _ _ l1 1 40 true _ ?s1 ?s2 HE2.out).mono ?_); (case s1 => exact Kd.C_below HR1.out (by repeat (first | exact HB.out | apply pw_below_drewN | apply below_drew1))); (case s2 => exact HC1.out); rintro e w7 ⟨rfl, hb⟩; clear hc4 hc5; have HB7 := Aside0.mk (below_step (by repeat (first | exact HB.out | apply pw_below_drewN | apply below_drew1)) hb); have H4N := Aside0.mk (blk_below H4.out hb); have H5N := Aside0.mk (blk_below H5.out hb); clear HB hb H4 H5; have HB := HB7; have H4 := H4N; have H5 := H5N; clear HB7 H4N H5N; have hc5 : w7.cell? ⟨b5, 0, none⟩ = some (.slice A0 l0.length c0) := (blk_cell H5.out 0).trans rfl; have hc4 : w7.cell? ⟨b4, 0, none⟩ = some (.slice (some ad) l1.length c1) := (blk_cell H4.out 0).trans rfl; refine ⟨_, rfl, ?_⟩))
  obtain ⟨ha1, ha2, ha3, ha4⟩ := alloc3 w7 (Obj.cells #[Value.int IntKind.i64 7] 3 (0, 0)) (Obj.cells #[Value.bool true] 4 (0, 0)) (Obj.cells #[Value.int IntKind.i64 0, Value.int IntKind.i64 0, Value.int IntKind.i64 0, Value.int IntKind.i64 0, Value.int IntKind.i64 0, Value.int IntKind.i64 0, Value.int IntKind.i64 0, Value.int IntKind.i64 0] 65 (0, 0))
  obtain ⟨WW, hWW⟩ : ∃ x, ((w7.alloc (Obj.cells #[Value.int IntKind.i64 7] 3 (0, 0))).alloc (Obj.cells #[Value.bool true] 4 (0, 0))).alloc (Obj.cells #[Value.int IntKind.i64 0, Value.int IntKind.i64 0, Value.int IntKind.i64 0, Value.int IntKind.i64 0, Value.int IntKind.i64 0, Value.int IntKind.i64 0, Value.int IntKind.i64 0, Value.int IntKind.i64 0] 65 (0, 0)) = x := ⟨_, rfl⟩
  rw [hWW] at ha1 ha2 ha3 ha4
  have HT := Aside0.mk (show DeP w7.heap.size (w7.heap.size + 1) (w7.heap.size + 1 + 1) b4 b5 (some ad) l1.length c1 A0 l0.length c0 WW (7, true, List.replicate 8 0) from ⟨ha1, ha2, ha3, blk_below H4.out ha4, blk_below H5.out ha4, rfl⟩)
  have HBT := Aside0.mk (below_step HB.out ha4)
  have HG1 := Aside0.mk (show w.heap.size ≤ w7.heap.size from below_size HB.out)
  have HG2 := Aside0.mk (show w.heap.size ≤ w7.heap.size + 1 by have := HG1.out; omega)
  have HG3 := Aside0.mk (show w.heap.size ≤ w7.heap.size + 1 + 1 by have := HG1.out; omega)
  clear ha1 ha2 ha3 ha4 hc4 hc5
  rw [hWW]
  clear hWW
  obtain ⟨b3, hb3⟩ : ∃ x, w7.heap.size + 1 + 1 = x := ⟨_, rfl⟩
  rw [hb3] at HT HG3 ⊢
  clear hb3
  obtain ⟨b2, hb2⟩ : ∃ x, w7.heap.size + 1 = x := ⟨_, rfl⟩
  rw [hb2] at HT HG2 ⊢
  clear hb2
  obtain ⟨b1, hb1⟩ : ∃ x, w7.heap.size = x := ⟨_, rfl⟩
  rw [hb1] at HT HG1 ⊢
  clear hb1
  have hc5 := HT.out.jcell
  go_wp2_with (first | ((go_at_call 59; (with_reducible refine (startsBy_de (fun (W : World) (s : Int × Bool × List Int) => DeP b1 b2 b3 b4 b5 (some ad) l1.length c1 A0 l0.length c0 W s) (fun k_ => k_ ≠ b1 ∧ k_ ≠ b2 ∧ k_ ≠ b3 ∧ k_ ≠ b4 ∧ k_ ≠ b5) l0 (gDef l1 l0) (fun _ => (7, true, List.replicate 8 0)) b1 b2 b3 b4 b5 w A0 c0 HR0.out HN.out ?p1 ?p2 ?p3 ?p4 ?p5 k (7, true, List.replicate 8 0) r WW ?sb ?sp ?se HE3.out).mono ?_); (case p1 => exact fun W W1 s hp hb => DeP.below hp hb); (case p2 => exact fun W g tick starts s x hi hp => DeP.far hp ⟨IsM.ne hi hp.1 (by decide), IsM.ne hi hp.2.1 (by decide), IsM.ne hi hp.2.2.1 (by decide), IsM.ne hi hp.2.2.2.1 (by decide), IsM.ne hi hp.2.2.2.2.1 (by decide)⟩ _); (case p3 => exact fun W r i u s he hp => DeP.far hp he _); (case p4 => exact fun k W g starts tick s i s' hi hb hp hl hc => de_clo k g b1 b2 b3 b4 b5 l0 l1 tick starts i s s' w W ad c1 A0 c0 hi hb hp HG1.out HG2.out HG3.out HR1.out H8.out HR0.out hc); (case p5 => exact fun W g starts tick s hi hb hp => (de_idle b1 b2 b3 b4 b5 (some ad) l1.length c1 A0 l0.length c0 W s hp).mono (by rintro e w' ⟨rfl, rfl⟩; exact ⟨rfl, IsM.zer (IsM.far (IsM.far hi (IsM.ne hi hp.1 (by decide)) (fun _ hk => hk.1) 0 _) (IsM.ne hi hp.2.1 (by decide)) (fun _ hk => hk.2.1) _ _) (IsM.ne hi hp.2.2.1 (by decide)) (fun _ hk => hk.2.2.1), below_zer (Below.setCell (Below.setCell hb (p := ⟨b1, 0, none⟩) HG1.out _) (p := ⟨b2, 0, none⟩) HG2.out _) HG3.out, ((DeP.set1 hp 7).set2 true).zer⟩)); (case sb => exact HBT.out); (case sp => exact HT.out); (case se => exact fun k_ hk_ => ⟨fun e => absurd (Nat.lt_of_lt_of_le (blk_lt HT.out.1) hk_) (fun hlt => Nat.lt_irrefl _ (Nat.lt_of_lt_of_le hlt (Nat.le_of_eq e))), fun e => absurd (Nat.lt_of_lt_of_le (blk_lt HT.out.2.1) hk_) (fun hlt => Nat.lt_irrefl _ (Nat.lt_of_lt_of_le hlt (Nat.le_of_eq e))), fun e => absurd (Nat.lt_of_lt_of_le (blk_lt HT.out.2.2.1) hk_) (fun hlt => Nat.lt_irrefl _ (Nat.lt_of_lt_of_le hlt (Nat.le_of_eq e))), fun e => absurd (Nat.lt_of_lt_of_le (blk_lt HT.out.2.2.2.1) hk_) (fun hlt => Nat.lt_irrefl _ (Nat.lt_of_lt_of_le hlt (Nat.le_of_eq e))), fun e => absurd (Nat.lt_of_lt_of_le (blk_lt HT.out.2.2.2.2.1) hk_) (fun hlt => Nat.lt_irrefl _ (Nat.lt_of_lt_of_le hlt (Nat.le_of_eq e)))⟩); rintro e w10 ⟨v7, rfl, ho, hb⟩; have HR := Aside0.mk ho; have HBF := Aside0.mk hb; clear ho hb)))
  go_ret2
  exact ⟨_, rfl, HR.out, by repeat (first | exact HBF.out | apply pw_below_drewN | apply below_drew1)⟩

end Go.Proofs.Ytkkgnjdepgmjlaa.X
