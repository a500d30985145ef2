/- Several texts of this session in one: X32, X33, X35, X37, X38, X39, X41, X43, X45, X46. -/
import Derived.Test.YtgkbeejkbhhjkaaMFnExactQueueAt0
import Derived.Test.YtgkbeejkbhhjkaaMFnExactQueueAt3
import Derived.Test.YtgkbeejkbhhjkaaMFnExactQueueAt7
import Derived.Test.YtgkbeejkbhhjkaaMFnExactQueueAt2
import Derived.Test.YtgkbeejkbhhjkaaMFnExactQueueAt6
import Derived.Test.YtgkbeejkbhhjkaaMFnExactQueueAt5
/- What the functions of the program come to, and that they do: written by this session's program wip/xprint.py out of the translation; parts named extern are typed by hand. -/
namespace Go.Proofs.Ytgkbeejkbhhjkaa.X
open Go.RowKit Go.Proofs.YtgkbeejkbhhjkaaW.PrintWords Go.Proofs.YtgkbeejkbhhjkaaW.PrintLast Go.Proofs.YtgkbeejkbhhjkaaW.PrintMore
attribute [local go_sem] max2_int min2_int max_two min_two max_three min_three max_four min_four   -- for this text's walks alone
set_option linter.unusedVariables false
set_option linter.unusedSimpArgs false

/-! ### impl_slotter_step: function 62 -/
/- EXTERN, by hand (wip/hand/slotall.py): a tick of the program's ring. -/
/-- The stations ahead of o have been seen to. -/
def slIm (J : List (S30)) (fah : Bool) (n t : Nat) (s : SlSt) : Nat → SlSt
  | 0 => s
  | o + 1 => slOne J fah (t : Int) ((o + (n - t % n)) % n) (o : Int) (slIm J fah n t s o)
theorem slIm_inv {J : List (S30)} {fah : Bool} {n t : Nat} {s : SlSt} (hn : 0 < n) (h : SlInv n J.length s) : ∀ o, o ≤ n → SlInv n J.length (slIm J fah n t s o)
  | 0, _ => h
  | o + 1, ho => slOne_inv (by omega) (slIm_inv hn h o (by omega)) (Nat.mod_lt _ hn)
/-- The program's ring behind so many ticks. -/
def slImTo (J : List (S30)) (fah : Bool) (n : Nat) : Nat → SlSt
  | 0 => slInit n J.length
  | t + 1 => slIm J fah n t (slImTo J fah n t) n
theorem slImTo_inv (J : List (S30)) (fah : Bool) (n : Nat) (hn : 0 < n) : ∀ t, SlInv n J.length (slImTo J fah n t)
  | 0 => slInit_inv n J.length
  | t + 1 => slIm_inv hn (slImTo_inv J fah n hn t) n (Nat.le_refl _)
set_option maxHeartbeats 16000000 in
set_option maxRecDepth 100000 in
theorem step_calls (g n : Nat) (fah : Bool) (J : List (S30)) (s : SlSt) (t : Nat) (w0 w : World) (hI : IsT w0 w g (n : Int) fah (t : Int) J s.1 s.2.1 s.2.2) (hB : Below w0.heap.size w0 w) (hn : 2 ≤ n ∧ n ≤ 12) (hj : J.length ≤ 20) (ht : t ≤ 10000) (hinv0 : SlInv n J.length s) :
    Calls Try.prog 62 #[.pointer (some ⟨g, 0, none⟩)] w fun e w' => e = .returned (.tuple #[]) ∧ IsT w0 w' g (n : Int) fah ((t + 1 : Nat) : Int) J (slIm J fah n t s n).1 (slIm J fah n t s n).2.1 (slIm J fah n t s n).2.2 ∧ Below w0.heap.size w0 w' := by
  have HI := Aside0.mk hI
  have HB := Aside0.mk hB
  have HN := Aside0.mk hn
  have HT := Aside0.mk ht
  have HJ := Aside0.mk hj
  have HV := Aside0.mk (fun o (ho : o ≤ n) => slIm_inv (J := J) (fah := fah) (n := n) (t := t) (by omega) hinv0 o ho)
  obtain ⟨A0, c0, v1, v2, v3, h1, h2, _⟩ := hI
  have HG := Aside0.mk h2
  have hc0 : w.cell? ⟨g, 0, none⟩ = some (.int .i64 (n : Int)) := (blk_cell h1 0).trans rfl
  clear hB hn hj ht hinv0 h1 h2
  go_enter Try.func62, Try.ntmps62
  go_wp2
  go_loopg [8] (n + 1) (fun kq v8 w' => ∃ o : Nat, kq + o = n + 1 ∧ o ≤ n ∧ v8 = .int .i64 (o : Int) ∧ Aside0 (IsT w0 w' g (n : Int) fah (t : Int) J (slIm J fah n t s o).1 (slIm J fah n t s o).2.1 (slIm J fah n t s o).2.2) ∧ Aside0 (Below w0.heap.size w0 w'))
  case atStart => exact ⟨0, by omega, by omega, rfl, HI, HB⟩
  case round =>
    clear HI HB hc0
    obtain ⟨o, hko, hon, rfl, HI, HB⟩ := hrel
    by_cases ho : o < n
    · have hb1 : decide ((o : Int) < (n : Int)) = true := decide_eq_true (by omega)
      have hb2 : decide (o < n) = true := decide_eq_true ho
      have HON := Aside0.mk ho
      have HON2 := Aside0.mk hon
      have HKO := Aside0.mk hko
      clear ho hon hko
      go_wp2_with (first | (go_at_call 74; (with_reducible refine (station_calls g n o fah J (slIm J fah n t s o) t w0 _ ?s1 ?s2 HN.out HJ.out HT.out HON.out (HV.out o HON2.out)).mono ?_); (case s1 => exact HI.out); (case s2 => exact HB.out); rintro e w7 ⟨rfl, hi, hb⟩; clear HI HB; have HI := Aside0.mk hi; have HB := Aside0.mk hb; clear hi hb) | ((with_reducible refine gate_callee (f := 74) rfl ?_); refine goesL_ (some 13) rfl rfl Try.func74 (by kernel_rfl) rfl #[.pointer (some ⟨g, 0, none⟩), .int .i64 (o : Int)] rfl (by (try simp only [List.map_toArray, List.map_cons, List.map_nil]); first | done | rfl) ?_; (with_reducible refine (station_calls g n o fah J (slIm J fah n t s o) t w0 _ ?s1 ?s2 HN.out HJ.out HT.out HON.out (HV.out o HON2.out)).mono ?_); (case s1 => exact HI.out); (case s2 => exact HB.out); rintro e w7 ⟨rfl, hi, hb⟩; clear HI HB; have HI := Aside0.mk hi; have HB := Aside0.mk hb; clear hi hb; refine ⟨_, rfl, ?_⟩))
      go_roundg (n - o)
      case measure => have := HKO.out; have := HON.out; omega
      case rel => exact ⟨o + 1, by have := HON.out; omega, by have := HON.out; omega, by have := HON.out; have := HN.out; first | rfl | (rw [wrapS (by omega) (by omega)]; rfl), HI, HB⟩
    · obtain rfl : o = n := by omega
      have hb1 : decide ((o : Int) < (o : Int)) = false := decide_eq_false (by omega)
      have hb2 : decide (o < o) = false := decide_eq_false ho
      obtain ⟨A1, c1, V1, V2, V3, h1, _⟩ := HI.out
      have hc3 : wr.cell? ⟨g, 3, none⟩ = some (.int .i64 (t : Int)) := (blk_cell h1 3).trans rfl
      have hf3 := blk_frozen h1 3
      obtain ⟨t1, ht1⟩ : ∃ q : Int, (t : Int) + 1 = q := ⟨_, rfl⟩
      have hw1 : IntKind.i64.wrap ((t : Int) + 1) = t1 := by rw [IntKind.wrap_i64, ← ht1]; have := HT.out; omega
      have HS := Aside0.mk (HI.out.tick1 t1)
      have HT1 := Aside0.mk (show ((t + 1 : Nat) : Int) = t1 by omega)
      clear ho h1 ht1
      go_wp2
      first | go_end0 | ((try simp only [Exit.inBlock, Exit.then]); refine bodyPost_ret (results_none rfl _ _ _) rfl ?_)
      rw [HT1.out]
      exact ⟨rfl, HS.out, HB.out.setCell (p := ⟨g, 3, none⟩) HG.out _⟩

/-! ### slices_Index_int_int: function 75 -/
def slices_Index_int_int.l0 : Nat → List Int → Int → Int → Int → Option (Int)
  | 0, _, _, _, _ => none
  | k + 1, x0, x1, x7, x8 => if x8 < x7 then (if 0 ≤ x8 then (if x8 < (x0.length : Int) then (if x1 = (rd x0 x8) then (some x8) else (slices_Index_int_int.l0 k x0 x1 x7 (wrap64 (x8 + 1)))) else (none)) else (none)) else (some (-1))
def slices_Index_int_int.f (k : Nat) (l0 : List Int) (a1 : Int) : Option (Int) := slices_Index_int_int.l0 k l0 a1 (l0.length : Int) 0
set_option maxHeartbeats 8000000 in
set_option maxRecDepth 100000 in
theorem slices_Index_int_int.calls (k : Nat) (A0 : Option Addr) (c0 : Nat) (l0 : List Int) (a1 : Int) (r : Int) (w : World) (hr0 : Kd.C (Kd.int .i64) w A0 l0.length l0) (hc0 : l0.length ≤ c0) (h : slices_Index_int_int.f k l0 a1 = some r) :
    Calls Try.prog 75 #[.slice A0 l0.length c0, .int .i64 a1] w fun e w' => e = .returned (.int .i64 r) ∧ Drawn0 w w' := by
  have HR0 := Aside0.mk hr0
  have HC0 := Aside0.mk hc0
  clear hr0 hc0
  have H : (slices_Index_int_int.l0 k l0 a1 (l0.length : Int) 0) = some r := h
  clear h
  have H' := Aside0.mk H
  clear H
  go_enter Try.func75, Try.ntmps75
  go_wp2
  go_loopg [8] k (fun kq v8 w' => ∃ (x8_1 : Int), v8 = .int .i64 x8_1 ∧ Aside0 (slices_Index_int_int.l0 kq l0 a1 (l0.length : Int) x8_1 = some r) ∧ Aside0 (kq ≤ k) ∧ Drawn0 w w')
  case atStart => exact ⟨(0), (by first | rfl | (simp; done) | (simp [*]; done)), H', ⟨Nat.le_refl _⟩, by repeat (first | exact Drawn0.refl _ | apply Drawn0.step)⟩
  case round =>
    clear H'
    try clear p2
    obtain ⟨x8_1, rfl, HA, HK1, ⟨m1, rfl⟩⟩ := hrel
    cases gk with
    | zero => exact absurd HA.out (by simp [slices_Index_int_int.l0])
    | succ k1 =>
      have H := HA.out
      clear HA
      simp only [slices_Index_int_int.l0] at H
      by_cases c3 : x8_1 < (l0.length : Int)
      · rw [if_pos c3] at H
        have c3b0 : decide (x8_1 < (l0.length : Int)) = true := decide_eq_true c3
        clear c3
        by_cases c4 : 0 ≤ x8_1
        · rw [if_pos c4] at H
          have c4b0 : decide (0 ≤ x8_1) = true := decide_eq_true c4
          clear c4
          by_cases c5 : x8_1 < (l0.length : Int)
          · rw [if_pos c5] at H
            have c5b0 : decide (x8_1 < (l0.length : Int)) = true := decide_eq_true c5
            clear c5
            by_cases c6 : a1 = (rd l0 x8_1)
            · rw [if_pos c6] at H
              have c6b0 : (a1 == (rd l0 x8_1)) = true := beq_iff_eq.mpr c6
              have c6b1 : (a1 != (rd l0 x8_1)) = false := bne_eq_false_iff_eq.mpr c6
              clear c6
              obtain rfl := Option.some.inj H
              have p369 : 0 ≤ (x8_1 : Int) := of_decide_eq_true (by first | (with_reducible assumption) | assumption)
              have q369 : x8_1 < (l0.length : Int) := of_decide_eq_true (by first | (with_reducible assumption) | assumption)
              obtain ⟨ad369, e369, hx369_0⟩ := Kd.at_int HR0.out x8_1 p369 q369
              cases e369
              replace p369 := eq_true p369
              replace q369 := eq_true q369
              go_wp2
              go_ret
              exact ⟨by first | rfl | (simp; done) | (simp [*]; done), by repeat (first | exact Drawn0.refl _ | apply Drawn0.step)⟩
            · rw [if_neg c6] at H
              have c6b0 : (a1 == (rd l0 x8_1)) = false := beq_eq_false_iff_ne.mpr c6
              have c6b1 : (a1 != (rd l0 x8_1)) = true := bne_iff_ne.mpr c6
              have H' := Aside0.mk H
              clear H
              have p369 : 0 ≤ (x8_1 : Int) := of_decide_eq_true (by first | (with_reducible assumption) | assumption)
              have q369 : x8_1 < (l0.length : Int) := of_decide_eq_true (by first | (with_reducible assumption) | assumption)
              obtain ⟨ad369, e369, hx369_0⟩ := Kd.at_int HR0.out x8_1 p369 q369
              cases e369
              replace p369 := eq_true p369
              replace q369 := eq_true q369
              go_wp2
              go_roundg k1
              case measure => have := HK1.out; omega
              case rel => exact ⟨(wrap64 (x8_1 + 1)), (by first | rfl | (simp; done) | (simp [*]; done)), H', ⟨by have := HK1.out; omega⟩, by repeat (first | exact Drawn0.refl _ | apply Drawn0.step)⟩
          · rw [if_neg c5] at H
            exact absurd H (by simp)
        · rw [if_neg c4] at H
          exact absurd H (by simp)
      · rw [if_neg c3] at H
        have c3b0 : decide (x8_1 < (l0.length : Int)) = false := decide_eq_false c3
        clear c3
        obtain rfl := Option.some.inj H
        go_wp2
        go_ret
        exact ⟨by first | rfl | (simp; done) | (simp [*]; done), by repeat (first | exact Drawn0.refl _ | apply Drawn0.step)⟩

/-! ### slices_Contains_int_int: function 63 -/
def slices_Contains_int_int.f (k : Nat) (l0 : List Int) (a1 : Int) : Option (Bool) := (slices_Index_int_int.f k l0 a1).bind fun t370 => (some (decide (t370 ≥ 0)))
set_option maxHeartbeats 8000000 in
set_option maxRecDepth 100000 in
theorem slices_Contains_int_int.calls (k : Nat) (A0 : Option Addr) (c0 : Nat) (l0 : List Int) (a1 : Int) (r : Bool) (w : World) (hr0 : Kd.C (Kd.int .i64) w A0 l0.length l0) (hc0 : l0.length ≤ c0) (h : slices_Contains_int_int.f k l0 a1 = some r) :
    Calls Try.prog 63 #[.slice A0 l0.length c0, .int .i64 a1] w fun e w' => e = .returned (.bool r) ∧ Drawn0 w w' := by
  have HR0 := Aside0.mk hr0
  have HC0 := Aside0.mk hc0
  clear hr0 hc0
  have H : ((slices_Index_int_int.f k l0 a1).bind fun t370 => (some (decide (t370 ≥ 0)))) = some r := h
  clear h
  replace H := Option.bind_eq_some_iff.mp H
  obtain ⟨t370, A30, H⟩ := H
  replace H : (some (decide (t370 ≥ 0))) = some r := H
  have A3 := Aside0.mk A30
  clear A30
  obtain rfl := Option.some.inj H
  go_enter Try.func63, Try.ntmps63
  go_wp2_with (first | ((with_reducible refine gate_callee (f := 75) rfl ?_); refine goesL_ (some 7) rfl rfl Try.func75 (by kernel_rfl) rfl #[.slice A0 l0.length c0, .int .i64 a1] rfl (by (try simp only [List.map_toArray, List.map_cons, List.map_nil]); first | done | rfl | (simp only [List.length_drop, List.length_take]; rfl)) ?_; (with_reducible refine (slices_Index_int_int.calls k _ _ l0 a1 t370 _ ?side1 ?side2 A3.out).mono ?_); (case side1 => repeat (first | exact HR0.out | (with_reducible refine Kd.C_alloc ?_ _) | (with_reducible refine Kd.C_drewN ?_ _) | (with_reducible refine Kd.C_drew ?_))); (case side2 => exact HC0.out); rintro e w' ⟨rfl, ⟨nd, rfl⟩⟩; refine ⟨_, rfl, ?_⟩))
  go_ret
  exact ⟨by first | rfl | (simp; done) | (simp [*]; done), by repeat (first | exact Drawn0.refl _ | apply Drawn0.step)⟩

end Go.Proofs.Ytgkbeejkbhhjkaa.X

/- What the functions of the program come to, and that they do: written by this session's program wip/xprint.py out of the translation; parts named extern are typed by hand. -/
namespace Go.Proofs.Ytgkbeejkbhhjkaa.X
open Go.RowKit Go.Proofs.YtgkbeejkbhhjkaaW.PrintWords Go.Proofs.YtgkbeejkbhhjkaaW.PrintLast Go.Proofs.YtgkbeejkbhhjkaaW.PrintMore
attribute [local go_sem] max2_int min2_int max_two min_two max_three min_three max_four min_four   -- for this text's walks alone
set_option linter.unusedVariables false
set_option linter.unusedSimpArgs false

/-! ### impl_FullTicks: function 35 -/
/- EXTERN, by hand (wip/hand/slotall.py): the ticks at which all slots are full. -/
end Go.Proofs.Ytgkbeejkbhhjkaa.X

/- What the functions of the program come to, and that they do: written by this session's program wip/xprint.py out of the translation; parts named extern are typed by hand. -/
namespace Go.Proofs.Ytgkbeejkbhhjkaa.X
open Go.RowKit Go.Proofs.YtgkbeejkbhhjkaaW.PrintWords Go.Proofs.YtgkbeejkbhhjkaaW.PrintLast Go.Proofs.YtgkbeejkbhhjkaaW.PrintMore
attribute [local go_sem] max2_int min2_int max_two min_two max_three min_three max_four min_four   -- for this text's walks alone
set_option linter.unusedVariables false
set_option linter.unusedSimpArgs false

/-! ### spec_slEnd: function 64 -/
/- EXTERN, by hand (wip/hand/slotall.py): the reference's ring behind so many ticks. -/
set_option maxHeartbeats 16000000 in
set_option maxRecDepth 100000 in
theorem slEnd_calls (A0 : Option Addr) (c0 n : Nat) (fah : Bool) (J : List (S30)) (T : Nat) (w0 w : World) (hC : Kd.C k30 w0 A0 J.length J) (hB : Below w0.heap.size w0 w) (hn : 2 ≤ n ∧ n ≤ 12) (hj : J.length ≤ 20) (hT : T ≤ 10000) :
    Calls Try.prog 64 #[.agg #[.int .i64 (n : Int), .bool fah], .slice A0 J.length c0, .int .i64 (T : Int)] w fun e w' => ∃ g, e = .returned (.pointer (some ⟨g, 0, none⟩)) ∧ IsR w0 w' g (n : Int) fah J (slRunTo J fah n T).1 (slRunTo J fah n T).2.1 (slRunTo J fah n T).2.2 ∧ Below w0.heap.size w0 w' := by
  have HC := Aside0.mk hC
  have HB := Aside0.mk hB
  have HN := Aside0.mk hn
  have HJ := Aside0.mk hj
  have HT := Aside0.mk hT
  clear hC hB hn hj hT
  go_enter Try.func64, Try.ntmps64
  go_wp2_with (first | ((with_reducible refine gate_dst (N := 3) rfl ?_); refine box_event ?hg (N := 3) ?hd (cs := #[.int .i64 (n : Int), .bool fah]) (t := 28) ?hr ?_; (case hd => rfl); (case hg => rfl); (case hr => first | (go_simp; done) | (go_simp; rfl)); intro b hg w3 hbox hb; have HB3 := Aside0.mk (below_step (by repeat (first | (with_reducible first | exact HB.out | apply below_alloc | apply pw_below_drewN | apply below_drew1) | exact HB.out)) hb); clear HB; have HB := HB3; clear HB3; have hk0 : w3.cell? ⟨b, 0, none⟩ = some (.int .i64 (n : Int)) := (blk_cell hbox 0).trans rfl; have hk1 : w3.cell? ⟨b, 1, none⟩ = some (.bool fah) := (blk_cell hbox 1).trans rfl; clear hg hb hbox) | (go_at_call 57; (with_reducible refine (slNew_calls A0 c0 n fah J w0 _ HC.out ?s1 HN.out HJ.out).mono ?_); (case s1 => exact (by repeat (first | (with_reducible first | exact HB.out | apply below_alloc | apply pw_below_drewN | apply below_drew1) | exact HB.out))); rintro e w6 ⟨g, rfl, hi, hb⟩; have HI := Aside0.mk hi; clear HB hi; have HB := Aside0.mk hb; clear hb) | ((with_reducible refine gate_callee (f := 57) rfl ?_); refine goesL_ (some 11) rfl rfl Try.func57 (by kernel_rfl) rfl #[.agg #[.int .i64 (n : Int), .bool fah], .slice A0 J.length c0] rfl (by (try simp only [List.map_toArray, List.map_cons, List.map_nil]); first | done | rfl) ?_; (with_reducible refine (slNew_calls A0 c0 n fah J w0 _ HC.out ?s1 HN.out HJ.out).mono ?_); (case s1 => exact (by repeat (first | (with_reducible first | exact HB.out | apply below_alloc | apply pw_below_drewN | apply below_drew1) | exact HB.out))); rintro e w6 ⟨g, rfl, hi, hb⟩; have HI := Aside0.mk hi; clear HB hi; have HB := Aside0.mk hb; clear hb; refine ⟨_, rfl, ?_⟩))
  go_loopg [8] (T + 1) (fun kq v8 w' => ∃ k : Nat, kq + k = T + 1 ∧ k ≤ T ∧ v8 = .int .i64 (k : Int) ∧ Aside0 (IsR w0 w' g (n : Int) fah J (slRunTo J fah n k).1 (slRunTo J fah n k).2.1 (slRunTo J fah n k).2.2) ∧ Aside0 (Below w0.heap.size w0 w'))
  case atStart => exact ⟨0, by omega, by omega, rfl, HI, HB⟩
  case round =>
    clear HI HB hk0 hk1
    obtain ⟨k, hkk, hkT, rfl, HI, HB⟩ := hrel
    by_cases hk : k < T
    · have hb1 : decide ((k : Int) < (T : Int)) = true := decide_eq_true (by omega)
      have hb2 : decide (k < T) = true := decide_eq_true hk
      have HKL := Aside0.mk hk
      have HKK := Aside0.mk hkk
      have HKT := Aside0.mk (show 0 ≤ (k : Int) ∧ (k : Int) ≤ 100000 by have := HT.out; omega)
      clear hk hkk hkT
      go_wp2_with (first | (go_at_call 58; (with_reducible refine (tick_calls g n fah J (slRunTo J fah n k) (k : Int) w0 _ ?s1 ?s2 ⟨by have := HN.out; omega, by have := HN.out; omega⟩ HJ.out HKT.out (slRunTo_inv J fah n k)).mono ?_); (case s1 => exact HI.out); (case s2 => exact HB.out); rintro e w7 ⟨rfl, hi, hb⟩; clear HI HB; have HI := Aside0.mk hi; have HB := Aside0.mk hb; clear hi hb) | ((with_reducible refine gate_callee (f := 58) rfl ?_); refine goesL_ (some 19) rfl rfl Try.func58 (by kernel_rfl) rfl #[.pointer (some ⟨g, 0, none⟩), .int .i64 (k : Int)] rfl (by (try simp only [List.map_toArray, List.map_cons, List.map_nil]); first | done | rfl) ?_; (with_reducible refine (tick_calls g n fah J (slRunTo J fah n k) (k : Int) w0 _ ?s1 ?s2 ⟨by have := HN.out; omega, by have := HN.out; omega⟩ HJ.out HKT.out (slRunTo_inv J fah n k)).mono ?_); (case s1 => exact HI.out); (case s2 => exact HB.out); rintro e w7 ⟨rfl, hi, hb⟩; clear HI HB; have HI := Aside0.mk hi; have HB := Aside0.mk hb; clear hi hb; refine ⟨_, rfl, ?_⟩))
      go_roundg (T - k)
      case measure => have := HKK.out; have := HKL.out; omega
      case rel => exact ⟨k + 1, by have := HKL.out; omega, by have := HKL.out; omega, by have := HKL.out; have := HT.out; first | rfl | (rw [wrapS (by omega) (by omega)]; rfl), HI, HB⟩
    · obtain rfl : k = T := by omega
      have hb1 : decide ((k : Int) < (k : Int)) = false := decide_eq_false (by omega)
      have hb2 : decide (k < k) = false := decide_eq_false hk
      clear hk
      go_wp2
      go_ret
      exact ⟨g, rfl, HI.out, HB.out⟩

/-! ### spec_SlotsAt: function 36 -/
/- EXTERN, by hand (wip/hand/slotall.py): the slots behind a tick. -/
theorem slEnd_one {T : Nat} (T1 : Int) (hQ : T1 = (T : Int)) (A0 : Option Addr) (c0 n : Nat) (fah : Bool) (J : List (S30)) (T' : Nat) (w0 w : World) (hC : Kd.C k30 w0 A0 J.length J) (hB : Below w0.heap.size w0 w) (hn : 2 ≤ n ∧ n ≤ 12) (hj : J.length ≤ 20) (hT : T' ≤ 10000) (hTT : T' = T := by rfl) :
    Calls Try.prog 64 #[.agg #[.int .i64 (n : Int), .bool fah], .slice A0 J.length c0, .int .i64 T1] w fun e w' => ∃ g, e = .returned (.pointer (some ⟨g, 0, none⟩)) ∧ IsR w0 w' g (n : Int) fah J (slRunTo J fah n T).1 (slRunTo J fah n T).2.1 (slRunTo J fah n T).2.2 ∧ Below w0.heap.size w0 w' := by
  subst hQ hTT
  exact slEnd_calls A0 c0 n fah J T' w0 w hC hB hn hj hT
/-! ### impl_SlotsAt: function 37 -/
/- EXTERN, by hand (wip/hand/slotall.py): the slots behind a tick. -/
end Go.Proofs.Ytgkbeejkbhhjkaa.X

/- What the functions of the program come to, and that they do: written by this session's program wip/xprint.py out of the translation; parts named extern are typed by hand. -/
namespace Go.Proofs.Ytgkbeejkbhhjkaa.X
open Go.RowKit Go.Proofs.YtgkbeejkbhhjkaaW.PrintWords Go.Proofs.YtgkbeejkbhhjkaaW.PrintLast Go.Proofs.YtgkbeejkbhhjkaaW.PrintMore
attribute [local go_sem] max2_int min2_int max_two min_two max_three min_three max_four min_four   -- for this text's walks alone
set_option linter.unusedVariables false
set_option linter.unusedSimpArgs false

/-! ### spec_slTicks: function 76 -/
def spec_slTicks.f (a0_0 : Int) (a0_1 : Bool) (l1 : List (S30)) : Option (Int) := if (l1.length : Int) = 0 then (some 0) else (if 0 ≤ (wrap64 ((l1.length : Int) - 1)) then (if (wrap64 ((l1.length : Int) - 1)) < (l1.length : Int) then (some (wrap64 (((rd_T30 l1 (wrap64 ((l1.length : Int) - 1))).f0) + (wrap64 ((wrap64 (2 * a0_0)) * (wrap64 ((l1.length : Int) + 1))))))) else (none)) else (none))
/-! ### spec_slWhole: function 65 -/
/- EXTERN, by hand (wip/hand/slotall.py): the reference's ring behind all messages. -/
/-! ### spec_l1Most: function 66 -/
/-! ### spec_LastRead: function 38 -/
/- EXTERN, by hand (wip/hand/slotall.py): when the last message is read. -/
end Go.Proofs.Ytgkbeejkbhhjkaa.X

/- What the functions of the program come to, and that they do: written by this session's program wip/xprint.py out of the translation; parts named extern are typed by hand. -/
namespace Go.Proofs.Ytgkbeejkbhhjkaa.X
open Go.RowKit Go.Proofs.YtgkbeejkbhhjkaaW.PrintWords Go.Proofs.YtgkbeejkbhhjkaaW.PrintLast Go.Proofs.YtgkbeejkbhhjkaaW.PrintMore
attribute [local go_sem] max2_int min2_int max_two min_two max_three min_three max_four min_four   -- for this text's walks alone
set_option linter.unusedVariables false
set_option linter.unusedSimpArgs false

/-! ### impl_slotted: function 68 -/
/- EXTERN, by hand (wip/hand/slotall.py): the program runs till all is read. -/
def impl_slotted.l0 (J : List (S30)) (fah : Bool) (n : Nat) : Nat → Nat → Option (List Int × List Int)
  | 0, _ => none
  | k + 1, t => (slices_Contains_int_int.f k (slImTo J fah n t).2.2 (-1)).bind fun b => if b = true then (if t ≤ 9999 then impl_slotted.l0 J fah n k (t + 1) else none) else some ((slImTo J fah n t).2.1, (slImTo J fah n t).2.2)
def impl_slotted.f (k : Nat) (a0_0 : Int) (a0_1 : Bool) (l1 : List (S30)) : Option (List Int × List Int) := if 2 ≤ a0_0 ∧ a0_0 ≤ 12 ∧ l1.length ≤ 20 then impl_slotted.l0 l1 a0_1 a0_0.toNat k 0 else none
set_option maxHeartbeats 16000000 in
set_option maxRecDepth 100000 in
theorem impl_slotted.calls (k : Nat) (a0_0 : Int) (a0_1 : Bool) (A1 : Option Addr) (c1 : Nat) (l1 : List (S30)) (r1 r2 : List Int) (w : World) (hr1 : Kd.C k30 w A1 l1.length l1) (hc1 : l1.length ≤ c1) (h : impl_slotted.f k a0_0 a0_1 l1 = some (r1, r2)) :
    Calls Try.prog 68 #[.agg #[.int .i64 a0_0, .bool a0_1], .slice A1 l1.length c1] w fun e w' => ∃ v0_ v1_ : Value, e = .returned (.tuple #[v0_, v1_]) ∧ Kd.R (Kd.int .i64) 3 w' w.heap.size (fun k_ => some k_ ≠ (v1_ : Value).ownBlock) v0_ r1 ∧ Kd.R (Kd.int .i64) 3 w' w.heap.size (fun k_ => some k_ ≠ (v0_ : Value).ownBlock) v1_ r2 ∧ Below w.heap.size w w' := by
  unfold impl_slotted.f at h
  by_cases hk : 2 ≤ a0_0 ∧ a0_0 ≤ 12 ∧ l1.length ≤ 20
  case neg => rw [if_neg hk] at h; cases h
  rw [if_pos hk] at h
  obtain ⟨n, rfl⟩ : ∃ n : Nat, a0_0 = (n : Int) := ⟨a0_0.toNat, by omega⟩
  rw [Int.toNat_natCast] at h
  obtain ⟨fah, rfl⟩ : ∃ q, q = a0_1 := ⟨_, rfl⟩
  have HN := Aside0.mk (show 2 ≤ n ∧ n ≤ 12 by omega)
  have HJ := Aside0.mk hk.2.2
  have HH := Aside0.mk h
  have HC := Aside0.mk hr1
  have HCC := Aside0.mk hc1
  have HB := Aside0.mk (Below.refl w.heap.size w)
  clear hr1 hc1 h hk
  go_enter Try.func68, Try.ntmps68
  go_wp2_with (first | ((with_reducible refine gate_dst (N := 2) rfl ?_); refine box_event ?hg (N := 2) ?hd (cs := #[.int .i64 (n : Int), .bool fah]) (t := 28) ?hr ?_; (case hd => rfl); (case hg => rfl); (case hr => first | (go_simp; done) | (go_simp; rfl)); intro b hg w3 hbox hb; have HB3 := Aside0.mk (below_step (by repeat (first | (with_reducible first | exact HB.out | apply below_alloc | apply pw_below_drewN | apply below_drew1) | exact HB.out)) hb); clear HB; have HB := HB3; clear HB3; have hk0 : w3.cell? ⟨b, 0, none⟩ = some (.int .i64 (n : Int)) := (blk_cell hbox 0).trans rfl; have hk1 : w3.cell? ⟨b, 1, none⟩ = some (.bool fah) := (blk_cell hbox 1).trans rfl; clear hg hb hbox) | (go_at_call 61; (with_reducible refine (newSlotter_calls A1 c1 n fah l1 w _ HC.out ?s1 HN.out HJ.out).mono ?_); (case s1 => exact (by repeat (first | (with_reducible first | exact HB.out | apply below_alloc | apply pw_below_drewN | apply below_drew1) | exact HB.out))); rintro e w6 ⟨g, rfl, hi, hb⟩; have HI := Aside0.mk hi; clear HB hi; have HB := Aside0.mk hb; clear hb) | ((with_reducible refine gate_callee (f := 61) rfl ?_); refine goesL_ (some 9) rfl rfl Try.func61 (by kernel_rfl) rfl #[.agg #[.int .i64 (n : Int), .bool fah], .slice A1 l1.length c1] rfl (by (try simp only [List.map_toArray, List.map_cons, List.map_nil]); first | done | rfl) ?_; (with_reducible refine (newSlotter_calls A1 c1 n fah l1 w _ HC.out ?s1 HN.out HJ.out).mono ?_); (case s1 => exact (by repeat (first | (with_reducible first | exact HB.out | apply below_alloc | apply pw_below_drewN | apply below_drew1) | exact HB.out))); rintro e w6 ⟨g, rfl, hi, hb⟩; have HI := Aside0.mk hi; clear HB hi; have HB := Aside0.mk hb; clear hb; refine ⟨_, rfl, ?_⟩))
  go_loopg [] k (fun kq w' => ∃ t : Nat, Aside0 (impl_slotted.l0 l1 fah n kq t = some (r1, r2)) ∧ Aside0 (t ≤ 10000) ∧ Aside0 (IsT w w' g (n : Int) fah (t : Int) l1 (slImTo l1 fah n t).1 (slImTo l1 fah n t).2.1 (slImTo l1 fah n t).2.2) ∧ Aside0 (Below w.heap.size w w'))
  case atStart => exact ⟨0, HH, ⟨by omega⟩, HI, HB⟩
  case round =>
    clear HI HB HH hk0 hk1
    obtain ⟨t, HH, HTT, HI, HB⟩ := hrel
    cases gk with
    | zero => exact absurd HH.out (by simp [impl_slotted.l0])
    | succ k1 =>
      have H := HH.out
      rw [impl_slotted.l0] at H
      obtain ⟨b9, E1, H⟩ := Option.bind_eq_some_iff.mp H
      have HE := Aside0.mk E1
      clear E1
      obtain ⟨A0, c0, v1, v2, v3, h1, h2, h3, h4, h5, h6⟩ := HI.out
      obtain ⟨A3, c3, e3⟩ := Kd.R_slice h6
      subst e3
      have hc6 : wr.cell? ⟨g, 6, none⟩ = some (.slice A3 (slImTo l1 fah n t).2.2.length c3) := (blk_cell h1 6).trans rfl
      have hc5 : wr.cell? ⟨g, 5, none⟩ = some v2 := (blk_cell h1 5).trans rfl
      have HCR := Aside0.mk (And.intro (Kd.R_reads' h6).2.2 (Kd.R_reads' h6).2.1)
      have H5 := Aside0.mk h5
      have H6 := Aside0.mk h6
      clear h1 h2 h3 h4 h5 h6
      cases b9 with
      | true =>
        rw [if_pos rfl] at H
        by_cases ht : t ≤ 9999
        case neg => rw [if_neg ht] at H; cases H
        rw [if_pos ht] at H
        have HQ := Aside0.mk H
        have HT9 := Aside0.mk ht
        clear H ht HH hc5
        go_wp2_with (first | (go_at_call 63; (with_reducible refine (slices_Contains_int_int.calls k1 A3 c3 (slImTo l1 fah n t).2.2 (-1) true _ ?s1 ?s2 HE.out).mono ?_); (case s1 => repeat (first | exact HCR.out.1 | (with_reducible refine Kd.C_alloc ?_ _) | (with_reducible refine Kd.C_drewN ?_ _) | (with_reducible refine Kd.C_drew ?_))); (case s2 => exact HCR.out.2); rintro e w8 ⟨rfl, ⟨nd, rfl⟩⟩) | ((with_reducible refine gate_callee (f := 63) rfl ?_); refine goesL_ (some 14) rfl rfl Try.func63 (by kernel_rfl) rfl #[.slice A3 (slImTo l1 fah n t).2.2.length c3, .int .i64 (-1)] rfl (by (try simp only [List.map_toArray, List.map_cons, List.map_nil]); first | done | rfl) ?_; (with_reducible refine (slices_Contains_int_int.calls k1 A3 c3 (slImTo l1 fah n t).2.2 (-1) true _ ?s1 ?s2 HE.out).mono ?_); (case s1 => repeat (first | exact HCR.out.1 | (with_reducible refine Kd.C_alloc ?_ _) | (with_reducible refine Kd.C_drewN ?_ _) | (with_reducible refine Kd.C_drew ?_))); (case s2 => exact HCR.out.2); rintro e w8 ⟨rfl, ⟨nd, rfl⟩⟩; refine ⟨_, rfl, ?_⟩) | (go_at_call 62; (with_reducible refine (step_calls g n fah l1 (slImTo l1 fah n t) t w _ ?s1 ?s2 HN.out HJ.out HTT.out (slImTo_inv l1 fah n (by have := HN.out; omega) t)).mono ?_); (case s1 => exact (by repeat (first | exact HI.out | apply IsT.drewN | apply IsT.drew))); (case s2 => exact (by repeat (first | exact HB.out | apply pw_below_drewN | apply below_drew1))); rintro e w7 ⟨rfl, hi, hb⟩; clear HI HB; have HI := Aside0.mk hi; have HB := Aside0.mk hb; clear hi hb) | ((with_reducible refine gate_callee (f := 62) rfl ?_); refine goesL_ (some 16) rfl rfl Try.func62 (by kernel_rfl) rfl #[.pointer (some ⟨g, 0, none⟩)] rfl (by (try simp only [List.map_toArray, List.map_cons, List.map_nil]); first | done | rfl) ?_; (with_reducible refine (step_calls g n fah l1 (slImTo l1 fah n t) t w _ ?s1 ?s2 HN.out HJ.out HTT.out (slImTo_inv l1 fah n (by have := HN.out; omega) t)).mono ?_); (case s1 => exact (by repeat (first | exact HI.out | apply IsT.drewN | apply IsT.drew))); (case s2 => exact (by repeat (first | exact HB.out | apply pw_below_drewN | apply below_drew1))); rintro e w7 ⟨rfl, hi, hb⟩; clear HI HB; have HI := Aside0.mk hi; have HB := Aside0.mk hb; clear hi hb; refine ⟨_, rfl, ?_⟩))
        go_roundg k1
        case measure => omega
        case rel => exact ⟨t + 1, HQ, ⟨by have := HT9.out; omega⟩, HI, HB⟩
      | false =>
        rw [if_neg (by simp)] at H
        obtain ⟨rfl, rfl⟩ := Prod.mk.inj (Option.some.inj H)
        clear H HH
        go_upto_region 4 with (first | (go_at_call 63; (with_reducible refine (slices_Contains_int_int.calls k1 A3 c3 (slImTo l1 fah n t).2.2 (-1) false _ ?s1 ?s2 HE.out).mono ?_); (case s1 => repeat (first | exact HCR.out.1 | (with_reducible refine Kd.C_alloc ?_ _) | (with_reducible refine Kd.C_drewN ?_ _) | (with_reducible refine Kd.C_drew ?_))); (case s2 => exact HCR.out.2); rintro e w8 ⟨rfl, ⟨nd, rfl⟩⟩) | ((with_reducible refine gate_callee (f := 63) rfl ?_); refine goesL_ (some 14) rfl rfl Try.func63 (by kernel_rfl) rfl #[.slice A3 (slImTo l1 fah n t).2.2.length c3, .int .i64 (-1)] rfl (by (try simp only [List.map_toArray, List.map_cons, List.map_nil]); first | done | rfl) ?_; (with_reducible refine (slices_Contains_int_int.calls k1 A3 c3 (slImTo l1 fah n t).2.2 (-1) false _ ?s1 ?s2 HE.out).mono ?_); (case s1 => repeat (first | exact HCR.out.1 | (with_reducible refine Kd.C_alloc ?_ _) | (with_reducible refine Kd.C_drewN ?_ _) | (with_reducible refine Kd.C_drew ?_))); (case s2 => exact HCR.out.2); rintro e w8 ⟨rfl, ⟨nd, rfl⟩⟩; refine ⟨_, rfl, ?_⟩))
        obtain ⟨A2, c2, e2⟩ := Kd.R_slice H5.out
        subst e2
        have hd5 : (wr.drewN nd).cell? ⟨g, 5, none⟩ = some (.slice A2 (slImTo l1 fah n t).2.1.length c2) := hc5
        have hd6 : (wr.drewN nd).cell? ⟨g, 6, none⟩ = some (.slice A3 (slImTo l1 fah n t).2.2.length c3) := hc6
        have HI9 := Aside0.mk (show IsT w (wr.drewN nd) g (n : Int) fah (t : Int) l1 (slImTo l1 fah n t).1 (slImTo l1 fah n t).2.1 (slImTo l1 fah n t).2.2 from HI.out.drewN nd)
        have HB9 := Aside0.mk (show Below w.heap.size w (wr.drewN nd) from pw_below_drewN HB.out nd)
        have H59 := Aside0.mk (Kd.R_drewN H5.out nd)
        have H69 := Aside0.mk (Kd.R_drewN H6.out nd)
        obtain ⟨wq, hwq⟩ : ∃ q, wr.drewN nd = q := ⟨_, rfl⟩
        rw [hwq] at hd5 hd6 HB9 H59 H69
        rw [hwq]
        clear hwq hc5 hc6 HI HI9 HB H5 H6
        go_quiet (fail)
        all_goals (try go_wp2)
        all_goals go_ret2
        all_goals exact ⟨_, _, rfl, Kd.R_drewN (Kd.R_mono H59.out (fun k_ hk_ => hk_.2.2)) _, Kd.R_drewN (Kd.R_mono H69.out (fun k_ hk_ => hk_.2.2)) _, pw_below_drewN HB9.out _⟩

/-! ### impl_ReadAt: function 43 -/
end Go.Proofs.Ytgkbeejkbhhjkaa.X

/- What the functions of the program come to, and that they do: written by this session's program wip/xprint.py out of the translation; parts named extern are typed by hand. -/
namespace Go.Proofs.Ytgkbeejkbhhjkaa.X
open Go.RowKit Go.Proofs.YtgkbeejkbhhjkaaW.PrintWords Go.Proofs.YtgkbeejkbhhjkaaW.PrintLast Go.Proofs.YtgkbeejkbhhjkaaW.PrintMore
attribute [local go_sem] max2_int min2_int max_two min_two max_three min_three max_four min_four   -- for this text's walks alone
set_option linter.unusedVariables false
set_option linter.unusedSimpArgs false

/-! ### impl_greatest: function 67 -/
/-! ### impl_LastRead: function 39 -/
end Go.Proofs.Ytgkbeejkbhhjkaa.X

/- What the functions of the program come to, and that they do: written by this session's program wip/xprint.py out of the translation; parts named extern are typed by hand. -/
namespace Go.Proofs.Ytgkbeejkbhhjkaa.X
open Go.RowKit Go.Proofs.YtgkbeejkbhhjkaaW.PrintWords Go.Proofs.YtgkbeejkbhhjkaaW.PrintLast Go.Proofs.YtgkbeejkbhhjkaaW.PrintMore
attribute [local go_sem] max2_int min2_int max_two min_two max_three min_three max_four min_four   -- for this text's walks alone
set_option linter.unusedVariables false
set_option linter.unusedSimpArgs false

/-! ### spec_FilledAt: function 40 -/
/- EXTERN, by hand (wip/hand/slotall.py): when messages fill slots. -/
/-! ### impl_FilledAt: function 41 -/
def impl_FilledAt.f (k : Nat) (a0_0 : Int) (a0_1 : Bool) (l1 : List (S30)) : Option (List Int × Bool) := (impl_isSlotted.f k a0_0 a0_1 l1).bind fun t471 => (if t471 = true then ((impl_slotted.f k a0_0 a0_1 l1).bind fun bt472 => (some (bt472.1, true))) else (some (([] : List Int), false)))
set_option maxHeartbeats 8000000 in
set_option maxRecDepth 100000 in
theorem impl_FilledAt.calls (k : Nat) (a0_0 : Int) (a0_1 : Bool) (A1 : Option Addr) (c1 : Nat) (l1 : List (S30)) (r1 : List Int) (r2 : Bool) (w : World) (hr1 : Kd.C k30 w A1 l1.length l1) (hc1 : l1.length ≤ c1) (h : impl_FilledAt.f k a0_0 a0_1 l1 = some (r1, r2)) :
    Calls Try.prog 41 #[.agg #[.int .i64 a0_0, .bool a0_1], .slice A1 l1.length c1] w fun e w' => ∃ v0_ : Value, e = .returned (.tuple #[v0_, .bool r2]) ∧ Kd.R (Kd.int .i64) 3 w' w.heap.size (fun _ => True) v0_ r1 ∧ Below w.heap.size w w' := by
  have hu28 := Try.underlying28
  have HR1 := Aside0.mk hr1
  have HC1 := Aside0.mk hc1
  clear hr1 hc1
  have HB := Aside0.mk (Below.refl w.heap.size w)
  have H : ((impl_isSlotted.f k a0_0 a0_1 l1).bind fun t471 => (if t471 = true then ((impl_slotted.f k a0_0 a0_1 l1).bind fun bt472 => (some (bt472.1, true))) else (some (([] : List Int), false)))) = some (r1, r2) := h
  clear h
  replace H := Option.bind_eq_some_iff.mp H
  obtain ⟨t471, A30, H⟩ := H
  replace H : (if t471 = true then ((impl_slotted.f k a0_0 a0_1 l1).bind fun bt472 => (some (bt472.1, true))) else (some (([] : List Int), false))) = some (r1, r2) := H
  have A3 := Aside0.mk A30
  clear A30
  by_cases c4 : t471 = true
  · subst c4
    have H1 : ((impl_slotted.f k a0_0 a0_1 l1).bind fun bt472 => (some (bt472.1, true))) = some (r1, r2) := by rw [if_pos rfl] at H; exact H
    clear H
    have H := H1
    clear H1
    replace H := Option.bind_eq_some_iff.mp H
    obtain ⟨⟨t472, t475⟩, A50, H⟩ := H
    replace H : (some (t472, true)) = some (r1, r2) := H
    have A5 := Aside0.mk A50
    clear A50
    simp only [Option.some.injEq, Prod.mk.injEq] at H
    obtain ⟨rfl, rfl⟩ := H
    go_enter Try.func41, Try.ntmps41
    go_wp2_with (first | ((with_reducible refine gate_dst (N := 2) rfl ?_); refine box_event ?hg (N := 2) ?hd (cs := #[.int .i64 a0_0, .bool a0_1]) (t := 28) ?hr ?_; (case hd => rfl); (case hg => rfl); (case hr => first | (go_simp; done) | (go_simp; rfl)); intro gb470 hg w6 hbox hb; have n0_ := Aside0.mk (below_step (by repeat (first | (with_reducible first | exact HB.out | apply below_alloc | apply pw_below_drewN | apply below_drew1) | exact HB.out)) hb); have n1_ := Aside0.mk (hbox); have n2_ := Aside0.mk ((by rw [hg]; exact (below_size (by repeat (first | (with_reducible first | exact HB.out | apply below_alloc | apply pw_below_drewN | apply below_drew1) | exact HB.out))) : w.heap.size ≤ gb470)); have n3_ := Aside0.mk ((by rw [hg]; exact (below_size (by repeat (first | (with_reducible first | exact HB.out | apply below_alloc | apply pw_below_drewN | apply below_drew1) | exact HB.out))) : w.heap.size ≤ gb470)); clear HB; have HB := n0_; have BK470 := n1_; have GW470 := n2_; have GE470 := n3_; clear n0_ n1_ n2_ n3_; clear hb hbox hg; have hcz7_0 : w6.cell? ⟨gb470, 0, none⟩ = some (.int .i64 a0_0) := (blk_cell BK470.out 0).trans rfl; have hcz7_1 : w6.cell? ⟨gb470, 1, none⟩ = some (.bool a0_1) := (blk_cell BK470.out 1).trans rfl; have hfz7_0 := blk_frozen BK470.out 0; have hfz7_1 := blk_frozen BK470.out 1) | ((with_reducible refine gate_callee (f := 48) rfl ?_); refine goesL_ (some 10) rfl rfl Try.func48 (by kernel_rfl) rfl #[.agg #[.int .i64 a0_0, .bool a0_1], .slice A1 l1.length c1] rfl (by (try simp only [List.map_toArray, List.map_cons, List.map_nil]); first | done | rfl | (simp only [List.length_drop, List.length_take]; rfl)) ?_; (with_reducible refine (impl_isSlotted.calls k a0_0 a0_1 _ _ l1 true _ ?side1 ?side2 A3.out).mono ?_); (case side1 => repeat (first | exact (Kd.C_below HR1.out HB.out) | (with_reducible refine Kd.C_alloc ?_ _) | (with_reducible refine Kd.C_drewN ?_ _) | (with_reducible refine Kd.C_drew ?_))); (case side2 => exact HC1.out); rintro e w8 ⟨rfl, hb⟩; refine ⟨_, rfl, ?_⟩; have n0_ := Aside0.mk (blk_below (g := gb470) (o := .cells #[.int .i64 a0_0, .bool a0_1] 28 (0, 0)) (by (with_reducible repeat (first | refine blk_drewN ?_ _ | refine blk_drew ?_ | refine blk_alloc ?_ _)); exact BK470.out) hb); have n1_ := Aside0.mk (below_step (by repeat (first | (with_reducible first | exact HB.out | apply below_alloc | apply pw_below_drewN | apply below_drew1 | refine below_set ?_ GE470.out) | exact HB.out)) hb); clear BK470; clear HB; have BK470 := n0_; have HB := n1_; clear n0_ n1_; (try clear hb); (try clear hb2); (try clear hk); (try clear hi); have hcz9_0 : w8.cell? ⟨gb470, 0, none⟩ = some (.int .i64 a0_0) := (blk_cell BK470.out 0).trans rfl; have hcz9_1 : w8.cell? ⟨gb470, 1, none⟩ = some (.bool a0_1) := (blk_cell BK470.out 1).trans rfl; have hfz9_0 := blk_frozen BK470.out 0; have hfz9_1 := blk_frozen BK470.out 1) | ((with_reducible refine gate_callee (f := 68) rfl ?_); refine goesL_ (some 15) rfl rfl Try.func68 (by kernel_rfl) rfl #[.agg #[.int .i64 a0_0, .bool a0_1], .slice A1 l1.length c1] rfl (by (try simp only [List.map_toArray, List.map_cons, List.map_nil]); first | done | rfl | (simp only [List.length_drop, List.length_take]; rfl)) ?_; (with_reducible refine (impl_slotted.calls k a0_0 a0_1 _ _ l1 t472 t475 _ ?side1 ?side2 A5.out).mono ?_); (case side1 => repeat (first | exact (Kd.C_below HR1.out HB.out) | (with_reducible refine Kd.C_alloc ?_ _) | (with_reducible refine Kd.C_drewN ?_ _) | (with_reducible refine Kd.C_drew ?_))); (case side2 => exact HC1.out); rintro e w10 ⟨v473, v476, rfl, ho0, ho1, hb⟩; refine ⟨_, rfl, ?_⟩; have n0_ := Aside0.mk (Kd.R_lower ho0 (below_size (by repeat (first | (with_reducible first | exact HB.out | apply below_alloc | apply pw_below_drewN | apply below_drew1 | refine below_set ?_ GE470.out) | exact HB.out)))); have n1_ := Aside0.mk (Kd.R_lower ho1 (below_size (by repeat (first | (with_reducible first | exact HB.out | apply below_alloc | apply pw_below_drewN | apply below_drew1 | refine below_set ?_ GE470.out) | exact HB.out)))); have n2_ := Aside0.mk (blk_below (g := gb470) (o := .cells #[.int .i64 a0_0, .bool a0_1] 28 (0, 0)) (by (with_reducible repeat (first | refine blk_drewN ?_ _ | refine blk_drew ?_ | refine blk_alloc ?_ _)); exact BK470.out) hb); have n3_ := Aside0.mk (below_step (by repeat (first | (with_reducible first | exact HB.out | apply below_alloc | apply pw_below_drewN | apply below_drew1 | refine below_set ?_ GE470.out) | exact HB.out)) hb); clear BK470; clear HB; have HO474 := n0_; have HO477 := n1_; have BK470 := n2_; have HB := n3_; clear n0_ n1_ n2_ n3_; (try clear hb); (try clear hb2); (try clear hk); (try clear hi); (try clear ho0); (try clear ho1)))
    go_ret2
    exact ⟨_, by first | rfl | (simp [errW_none, errW_some] <;> rfl) | (simp [*, errW_none, errW_some] <;> rfl), by (with_reducible repeat (first | apply Kd.R_alloc | apply Kd.R_drewN | apply Kd.R_drew)); exact Kd.R_mono HO474.out (fun _ hk => trivial), by repeat (first | (with_reducible first | exact HB.out | apply below_alloc | apply pw_below_drewN | apply below_drew1 | refine below_set ?_ GE470.out) | exact HB.out)⟩
  · replace c4 := Bool.eq_false_iff.mpr c4
    subst c4
    have H1 : (some (([] : List Int), false)) = some (r1, r2) := by rw [if_neg (show ¬ (false = true) by decide)] at H; exact H
    clear H
    have H := H1
    clear H1
    simp only [Option.some.injEq, Prod.mk.injEq] at H
    obtain ⟨rfl, rfl⟩ := H
    go_enter Try.func41, Try.ntmps41
    go_wp2_with (first | ((with_reducible refine gate_dst (N := 2) rfl ?_); refine box_event ?hg (N := 2) ?hd (cs := #[.int .i64 a0_0, .bool a0_1]) (t := 28) ?hr ?_; (case hd => rfl); (case hg => rfl); (case hr => first | (go_simp; done) | (go_simp; rfl)); intro gb470 hg w11 hbox hb; have n0_ := Aside0.mk (below_step (by repeat (first | (with_reducible first | exact HB.out | apply below_alloc | apply pw_below_drewN | apply below_drew1) | exact HB.out)) hb); have n1_ := Aside0.mk (hbox); have n2_ := Aside0.mk ((by rw [hg]; exact (below_size (by repeat (first | (with_reducible first | exact HB.out | apply below_alloc | apply pw_below_drewN | apply below_drew1) | exact HB.out))) : w.heap.size ≤ gb470)); have n3_ := Aside0.mk ((by rw [hg]; exact (below_size (by repeat (first | (with_reducible first | exact HB.out | apply below_alloc | apply pw_below_drewN | apply below_drew1) | exact HB.out))) : w.heap.size ≤ gb470)); clear HB; have HB := n0_; have BK470 := n1_; have GW470 := n2_; have GE470 := n3_; clear n0_ n1_ n2_ n3_; clear hb hbox hg; have hcz12_0 : w11.cell? ⟨gb470, 0, none⟩ = some (.int .i64 a0_0) := (blk_cell BK470.out 0).trans rfl; have hcz12_1 : w11.cell? ⟨gb470, 1, none⟩ = some (.bool a0_1) := (blk_cell BK470.out 1).trans rfl; have hfz12_0 := blk_frozen BK470.out 0; have hfz12_1 := blk_frozen BK470.out 1) | ((with_reducible refine gate_callee (f := 48) rfl ?_); refine goesL_ (some 10) rfl rfl Try.func48 (by kernel_rfl) rfl #[.agg #[.int .i64 a0_0, .bool a0_1], .slice A1 l1.length c1] rfl (by (try simp only [List.map_toArray, List.map_cons, List.map_nil]); first | done | rfl | (simp only [List.length_drop, List.length_take]; rfl)) ?_; (with_reducible refine (impl_isSlotted.calls k a0_0 a0_1 _ _ l1 false _ ?side1 ?side2 A3.out).mono ?_); (case side1 => repeat (first | exact (Kd.C_below HR1.out HB.out) | (with_reducible refine Kd.C_alloc ?_ _) | (with_reducible refine Kd.C_drewN ?_ _) | (with_reducible refine Kd.C_drew ?_))); (case side2 => exact HC1.out); rintro e w13 ⟨rfl, hb⟩; refine ⟨_, rfl, ?_⟩; have n0_ := Aside0.mk (blk_below (g := gb470) (o := .cells #[.int .i64 a0_0, .bool a0_1] 28 (0, 0)) (by (with_reducible repeat (first | refine blk_drewN ?_ _ | refine blk_drew ?_ | refine blk_alloc ?_ _)); exact BK470.out) hb); have n1_ := Aside0.mk (below_step (by repeat (first | (with_reducible first | exact HB.out | apply below_alloc | apply pw_below_drewN | apply below_drew1 | refine below_set ?_ GE470.out) | exact HB.out)) hb); clear BK470; clear HB; have BK470 := n0_; have HB := n1_; clear n0_ n1_; (try clear hb); (try clear hb2); (try clear hk); (try clear hi)))
    go_ret2
    exact ⟨_, by first | rfl | (simp [errW_none, errW_some] <;> rfl) | (simp [*, errW_none, errW_some] <;> rfl), by first | exact Kd.R_nil _ _ _ _ _ | exact Kd.N_nil _ _ _ _ _ | exact Kd.V_nil _ _ _ _ _ | exact Kd.Q_nil _ _ _ _ _ | exact Kd.S_nil _ _ _ _ _, by repeat (first | (with_reducible first | exact HB.out | apply below_alloc | apply pw_below_drewN | apply below_drew1 | refine below_set ?_ GE470.out) | exact HB.out)⟩

end Go.Proofs.Ytgkbeejkbhhjkaa.X

/- What the functions of the program come to, and that they do: written by this session's program wip/xprint.py out of the translation; parts named extern are typed by hand. -/
namespace Go.Proofs.Ytgkbeejkbhhjkaa.X
open Go.RowKit Go.Proofs.YtgkbeejkbhhjkaaW.PrintWords Go.Proofs.YtgkbeejkbhhjkaaW.PrintLast Go.Proofs.YtgkbeejkbhhjkaaW.PrintMore
attribute [local go_sem] max2_int min2_int max_two min_two max_three min_three max_four min_four   -- for this text's walks alone
set_option linter.unusedVariables false
set_option linter.unusedSimpArgs false

/-! ### spec_ReadAt: function 42 -/
/- EXTERN, by hand (wip/hand/slotall.py): when messages are read. -/
end Go.Proofs.Ytgkbeejkbhhjkaa.X

/- What the functions of the program come to, and that they do: written by this session's program wip/xprint.py out of the translation; parts named extern are typed by hand. -/
namespace Go.Proofs.Ytgkbeejkbhhjkaa.X
open Go.RowKit Go.Proofs.YtgkbeejkbhhjkaaW.PrintWords Go.Proofs.YtgkbeejkbhhjkaaW.PrintLast Go.Proofs.YtgkbeejkbhhjkaaW.PrintMore
attribute [local go_sem] max2_int min2_int max_two min_two max_three min_three max_four min_four   -- for this text's walks alone
set_option linter.unusedVariables false
set_option linter.unusedSimpArgs false

/-! ### spec_QueueAt: function 44 -/
/- EXTERN, by hand (wip/hand/slotall.py): the messages that wait. -/
/-- The messages of a station that wait, of the first ones. -/
def slQueue (J : List (S30)) (fi : List Int) (s tick : Int) : Nat → List Int
  | 0 => []
  | i + 1 => if slWaits J tick fi s i = true then slQueue J fi s tick i ++ [(i : Int)] else slQueue J fi s tick i
theorem slQueue_len (J : List (S30)) (fi : List Int) (s tick : Int) : ∀ i, (slQueue J fi s tick i).length ≤ i
  | 0 => by simp [slQueue]
  | i + 1 => by
    have := slQueue_len J fi s tick i
    rw [slQueue]
    split
    · rw [List.length_append, List.length_singleton]; omega
    · omega
def spec_QueueAt.f (k : Nat) (a0_0 : Int) (a0_1 : Bool) (l1 : List (S30)) (a2 a3 : Int) : Option (List Int × Bool) := (spec_slAll.f k a0_0 a0_1 l1).bind fun b1 => if b1 = true then ((spec_l1In.f a2 0 (wrap64 (a0_0 - 1))).bind fun b2 => if b2 = true then ((spec_l1In.f a3 0 400).bind fun b3 => if b3 = true then (if 2 ≤ a0_0 ∧ a0_0 ≤ 12 ∧ l1.length ≤ 20 ∧ 0 ≤ a3 ∧ a3 ≤ 9000 then some (slQueue l1 (slRunTo l1 a0_1 a0_0.toNat (a3.toNat + 1)).2.1 a2 a3 l1.length, true) else none) else some (([] : List Int), false)) else some (([] : List Int), false)) else some (([] : List Int), false)
set_option maxHeartbeats 16000000 in
set_option maxRecDepth 100000 in
theorem spec_QueueAt.calls (k : Nat) (a0_0 : Int) (a0_1 : Bool) (A1 : Option Addr) (c1 : Nat) (l1 : List (S30)) (a2 a3 : Int) (r1 : List Int) (r2 : Bool) (w : World) (hr1 : Kd.C k30 w A1 l1.length l1) (hc1 : l1.length ≤ c1) (h : spec_QueueAt.f k a0_0 a0_1 l1 a2 a3 = some (r1, r2)) :
    Calls Try.prog 44 #[.agg #[.int .i64 a0_0, .bool a0_1], .slice A1 l1.length c1, .int .i64 a2, .int .i64 a3] w fun e w' => ∃ v0_ : Value, e = .returned (.tuple #[v0_, .bool r2]) ∧ Kd.R (Kd.int .i64) 3 w' w.heap.size (fun _ => True) v0_ r1 ∧ Below w.heap.size w w' := by
  have hu30 := Try.underlying30
  unfold spec_QueueAt.f at h
  have HC := Aside0.mk hr1
  have HCC := Aside0.mk hc1
  have HB := Aside0.mk (Below.refl w.heap.size w)
  clear hr1 hc1
  obtain ⟨b1, e1, h⟩ := Option.bind_eq_some_iff.mp h
  have E1 := Aside0.mk e1
  clear e1
  cases b1 with
  | false =>
    rw [if_neg (by simp)] at h
    obtain ⟨rfl, rfl⟩ := Prod.mk.inj (Option.some.inj h)
    clear h
    go_enter Try.func44, Try.ntmps44
    go_wp2_with (first | ((with_reducible refine gate_dst (N := 4) rfl ?_); refine box_event ?hg (N := 4) ?hd (cs := #[.int .i64 a0_0, .bool a0_1]) (t := 28) ?hr ?_; (case hd => rfl); (case hg => rfl); (case hr => first | (go_simp; done) | (go_simp; rfl)); intro b hg w3 hbox hb; have HB3 := Aside0.mk (below_step (by repeat (first | (with_reducible first | exact HB.out | apply below_alloc | apply pw_below_drewN | apply below_drew1) | exact HB.out)) hb); clear HB; have HB := HB3; clear HB3; have HBX := Aside0.mk hbox; have hk0 : w3.cell? ⟨b, 0, none⟩ = some (.int .i64 a0_0) := (blk_cell hbox 0).trans rfl; have hk1 : w3.cell? ⟨b, 1, none⟩ = some (.bool a0_1) := (blk_cell hbox 1).trans rfl; clear hg hb hbox) | (go_at_call 50; (with_reducible refine (spec_slAll.calls k a0_0 a0_1 A1 c1 l1 false _ ?s1 HCC.out E1.out).mono ?_); (case s1 => repeat (first | exact (Kd.C_below HC.out HB.out) | (with_reducible refine Kd.C_alloc ?_ _) | (with_reducible refine Kd.C_drewN ?_ _) | (with_reducible refine Kd.C_drew ?_))); rintro e w9 ⟨rfl, hb⟩; have HX9 := Aside0.mk (blk_below HBX.out hb); have HB9 := Aside0.mk (below_step (by repeat (first | (with_reducible first | exact HB.out | apply below_alloc | apply pw_below_drewN | apply below_drew1) | exact HB.out)) hb); clear HBX HB hb hk0 hk1; have HBX := HX9; have HB := HB9; clear HX9 HB9; have hk0 : w9.cell? ⟨b, 0, none⟩ = some (.int .i64 a0_0) := (blk_cell HBX.out 0).trans rfl; have hk1 : w9.cell? ⟨b, 1, none⟩ = some (.bool a0_1) := (blk_cell HBX.out 1).trans rfl) | ((with_reducible refine gate_callee (f := 50) rfl ?_); refine goesL_ (some 16) rfl rfl Try.func50 (by kernel_rfl) rfl #[.agg #[.int .i64 a0_0, .bool a0_1], .slice A1 l1.length c1] rfl (by (try simp only [List.map_toArray, List.map_cons, List.map_nil]); first | done | rfl) ?_; (with_reducible refine (spec_slAll.calls k a0_0 a0_1 A1 c1 l1 false _ ?s1 HCC.out E1.out).mono ?_); (case s1 => repeat (first | exact (Kd.C_below HC.out HB.out) | (with_reducible refine Kd.C_alloc ?_ _) | (with_reducible refine Kd.C_drewN ?_ _) | (with_reducible refine Kd.C_drew ?_))); rintro e w9 ⟨rfl, hb⟩; have HX9 := Aside0.mk (blk_below HBX.out hb); have HB9 := Aside0.mk (below_step (by repeat (first | (with_reducible first | exact HB.out | apply below_alloc | apply pw_below_drewN | apply below_drew1) | exact HB.out)) hb); clear HBX HB hb hk0 hk1; have HBX := HX9; have HB := HB9; clear HX9 HB9; have hk0 : w9.cell? ⟨b, 0, none⟩ = some (.int .i64 a0_0) := (blk_cell HBX.out 0).trans rfl; have hk1 : w9.cell? ⟨b, 1, none⟩ = some (.bool a0_1) := (blk_cell HBX.out 1).trans rfl; refine ⟨_, rfl, ?_⟩))
    go_ret2
    exact ⟨_, rfl, Kd.R_nil _ _ _ _ _, (by repeat (first | (with_reducible first | exact HB.out | apply below_alloc | apply pw_below_drewN | apply below_drew1) | exact HB.out))⟩
  | true =>
    rw [if_pos rfl] at h
    obtain ⟨b2, e2, h⟩ := Option.bind_eq_some_iff.mp h
    have E2 := Aside0.mk e2
    clear e2
    obtain ⟨m1, hm1⟩ : ∃ q, wrap64 (a0_0 - 1) = q := ⟨_, rfl⟩
    rw [hm1] at E2
    have hw1 : IntKind.i64.wrap (a0_0 - 1) = m1 := by rw [← hm1, IntKind.wrap_i64]; unfold wrap64; rfl
    cases b2 with
    | false =>
      rw [if_neg (by simp)] at h
      obtain ⟨rfl, rfl⟩ := Prod.mk.inj (Option.some.inj h)
      clear h hm1
      go_enter Try.func44, Try.ntmps44
      go_wp2_with (first | ((with_reducible refine gate_dst (N := 4) rfl ?_); refine box_event ?hg (N := 4) ?hd (cs := #[.int .i64 a0_0, .bool a0_1]) (t := 28) ?hr ?_; (case hd => rfl); (case hg => rfl); (case hr => first | (go_simp; done) | (go_simp; rfl)); intro b hg w3 hbox hb; have HB3 := Aside0.mk (below_step (by repeat (first | (with_reducible first | exact HB.out | apply below_alloc | apply pw_below_drewN | apply below_drew1) | exact HB.out)) hb); clear HB; have HB := HB3; clear HB3; have HBX := Aside0.mk hbox; have hk0 : w3.cell? ⟨b, 0, none⟩ = some (.int .i64 a0_0) := (blk_cell hbox 0).trans rfl; have hk1 : w3.cell? ⟨b, 1, none⟩ = some (.bool a0_1) := (blk_cell hbox 1).trans rfl; clear hg hb hbox) | (go_at_call 50; (with_reducible refine (spec_slAll.calls k a0_0 a0_1 A1 c1 l1 true _ ?s1 HCC.out E1.out).mono ?_); (case s1 => repeat (first | exact (Kd.C_below HC.out HB.out) | (with_reducible refine Kd.C_alloc ?_ _) | (with_reducible refine Kd.C_drewN ?_ _) | (with_reducible refine Kd.C_drew ?_))); rintro e w9 ⟨rfl, hb⟩; have HX9 := Aside0.mk (blk_below HBX.out hb); have HB9 := Aside0.mk (below_step (by repeat (first | (with_reducible first | exact HB.out | apply below_alloc | apply pw_below_drewN | apply below_drew1) | exact HB.out)) hb); clear HBX HB hb hk0 hk1; have HBX := HX9; have HB := HB9; clear HX9 HB9; have hk0 : w9.cell? ⟨b, 0, none⟩ = some (.int .i64 a0_0) := (blk_cell HBX.out 0).trans rfl; have hk1 : w9.cell? ⟨b, 1, none⟩ = some (.bool a0_1) := (blk_cell HBX.out 1).trans rfl) | ((with_reducible refine gate_callee (f := 50) rfl ?_); refine goesL_ (some 16) rfl rfl Try.func50 (by kernel_rfl) rfl #[.agg #[.int .i64 a0_0, .bool a0_1], .slice A1 l1.length c1] rfl (by (try simp only [List.map_toArray, List.map_cons, List.map_nil]); first | done | rfl) ?_; (with_reducible refine (spec_slAll.calls k a0_0 a0_1 A1 c1 l1 true _ ?s1 HCC.out E1.out).mono ?_); (case s1 => repeat (first | exact (Kd.C_below HC.out HB.out) | (with_reducible refine Kd.C_alloc ?_ _) | (with_reducible refine Kd.C_drewN ?_ _) | (with_reducible refine Kd.C_drew ?_))); rintro e w9 ⟨rfl, hb⟩; have HX9 := Aside0.mk (blk_below HBX.out hb); have HB9 := Aside0.mk (below_step (by repeat (first | (with_reducible first | exact HB.out | apply below_alloc | apply pw_below_drewN | apply below_drew1) | exact HB.out)) hb); clear HBX HB hb hk0 hk1; have HBX := HX9; have HB := HB9; clear HX9 HB9; have hk0 : w9.cell? ⟨b, 0, none⟩ = some (.int .i64 a0_0) := (blk_cell HBX.out 0).trans rfl; have hk1 : w9.cell? ⟨b, 1, none⟩ = some (.bool a0_1) := (blk_cell HBX.out 1).trans rfl; refine ⟨_, rfl, ?_⟩) | (go_at_call 54; (with_reducible refine (spec_l1In.calls a2 0 m1 false _ E2.out).mono ?_); rintro e w8 ⟨rfl, ⟨nd8, rfl⟩⟩) | ((with_reducible refine gate_callee (f := 54) rfl ?_); refine goesL_ (some 23) rfl rfl Try.func54 (by kernel_rfl) rfl #[.int .i64 a2, .int .i64 0, .int .i64 m1] rfl (by (try simp only [List.map_toArray, List.map_cons, List.map_nil]); first | done | rfl) ?_; (with_reducible refine (spec_l1In.calls a2 0 m1 false _ E2.out).mono ?_); rintro e w8 ⟨rfl, ⟨nd8, rfl⟩⟩; refine ⟨_, rfl, ?_⟩))
      go_ret2
      exact ⟨_, rfl, Kd.R_nil _ _ _ _ _, (by repeat (first | (with_reducible first | exact HB.out | apply below_alloc | apply pw_below_drewN | apply below_drew1) | exact HB.out))⟩
    | true =>
      rw [if_pos rfl] at h
      obtain ⟨b3, e3, h⟩ := Option.bind_eq_some_iff.mp h
      have E3 := Aside0.mk e3
      clear e3 hm1
      cases b3 with
      | false =>
        rw [if_neg (by simp)] at h
        obtain ⟨rfl, rfl⟩ := Prod.mk.inj (Option.some.inj h)
        clear h
        go_enter Try.func44, Try.ntmps44
        go_wp2_with (first | ((with_reducible refine gate_dst (N := 4) rfl ?_); refine box_event ?hg (N := 4) ?hd (cs := #[.int .i64 a0_0, .bool a0_1]) (t := 28) ?hr ?_; (case hd => rfl); (case hg => rfl); (case hr => first | (go_simp; done) | (go_simp; rfl)); intro b hg w3 hbox hb; have HB3 := Aside0.mk (below_step (by repeat (first | (with_reducible first | exact HB.out | apply below_alloc | apply pw_below_drewN | apply below_drew1) | exact HB.out)) hb); clear HB; have HB := HB3; clear HB3; have HBX := Aside0.mk hbox; have hk0 : w3.cell? ⟨b, 0, none⟩ = some (.int .i64 a0_0) := (blk_cell hbox 0).trans rfl; have hk1 : w3.cell? ⟨b, 1, none⟩ = some (.bool a0_1) := (blk_cell hbox 1).trans rfl; clear hg hb hbox) | (go_at_call 50; (with_reducible refine (spec_slAll.calls k a0_0 a0_1 A1 c1 l1 true _ ?s1 HCC.out E1.out).mono ?_); (case s1 => repeat (first | exact (Kd.C_below HC.out HB.out) | (with_reducible refine Kd.C_alloc ?_ _) | (with_reducible refine Kd.C_drewN ?_ _) | (with_reducible refine Kd.C_drew ?_))); rintro e w9 ⟨rfl, hb⟩; have HX9 := Aside0.mk (blk_below HBX.out hb); have HB9 := Aside0.mk (below_step (by repeat (first | (with_reducible first | exact HB.out | apply below_alloc | apply pw_below_drewN | apply below_drew1) | exact HB.out)) hb); clear HBX HB hb hk0 hk1; have HBX := HX9; have HB := HB9; clear HX9 HB9; have hk0 : w9.cell? ⟨b, 0, none⟩ = some (.int .i64 a0_0) := (blk_cell HBX.out 0).trans rfl; have hk1 : w9.cell? ⟨b, 1, none⟩ = some (.bool a0_1) := (blk_cell HBX.out 1).trans rfl) | ((with_reducible refine gate_callee (f := 50) rfl ?_); refine goesL_ (some 16) rfl rfl Try.func50 (by kernel_rfl) rfl #[.agg #[.int .i64 a0_0, .bool a0_1], .slice A1 l1.length c1] rfl (by (try simp only [List.map_toArray, List.map_cons, List.map_nil]); first | done | rfl) ?_; (with_reducible refine (spec_slAll.calls k a0_0 a0_1 A1 c1 l1 true _ ?s1 HCC.out E1.out).mono ?_); (case s1 => repeat (first | exact (Kd.C_below HC.out HB.out) | (with_reducible refine Kd.C_alloc ?_ _) | (with_reducible refine Kd.C_drewN ?_ _) | (with_reducible refine Kd.C_drew ?_))); rintro e w9 ⟨rfl, hb⟩; have HX9 := Aside0.mk (blk_below HBX.out hb); have HB9 := Aside0.mk (below_step (by repeat (first | (with_reducible first | exact HB.out | apply below_alloc | apply pw_below_drewN | apply below_drew1) | exact HB.out)) hb); clear HBX HB hb hk0 hk1; have HBX := HX9; have HB := HB9; clear HX9 HB9; have hk0 : w9.cell? ⟨b, 0, none⟩ = some (.int .i64 a0_0) := (blk_cell HBX.out 0).trans rfl; have hk1 : w9.cell? ⟨b, 1, none⟩ = some (.bool a0_1) := (blk_cell HBX.out 1).trans rfl; refine ⟨_, rfl, ?_⟩) | (go_at_call 54; (with_reducible refine (spec_l1In.calls a2 0 m1 true _ E2.out).mono ?_); rintro e w8 ⟨rfl, ⟨nd8, rfl⟩⟩) | ((with_reducible refine gate_callee (f := 54) rfl ?_); refine goesL_ (some 23) rfl rfl Try.func54 (by kernel_rfl) rfl #[.int .i64 a2, .int .i64 0, .int .i64 m1] rfl (by (try simp only [List.map_toArray, List.map_cons, List.map_nil]); first | done | rfl) ?_; (with_reducible refine (spec_l1In.calls a2 0 m1 true _ E2.out).mono ?_); rintro e w8 ⟨rfl, ⟨nd8, rfl⟩⟩; refine ⟨_, rfl, ?_⟩) | (go_at_call 54; (with_reducible refine (spec_l1In.calls a3 0 400 false _ E3.out).mono ?_); rintro e w8 ⟨rfl, ⟨nd8, rfl⟩⟩) | ((with_reducible refine gate_callee (f := 54) rfl ?_); refine goesL_ (some 28) rfl rfl Try.func54 (by kernel_rfl) rfl #[.int .i64 a3, .int .i64 0, .int .i64 400] rfl (by (try simp only [List.map_toArray, List.map_cons, List.map_nil]); first | done | rfl) ?_; (with_reducible refine (spec_l1In.calls a3 0 400 false _ E3.out).mono ?_); rintro e w8 ⟨rfl, ⟨nd8, rfl⟩⟩; refine ⟨_, rfl, ?_⟩))
        go_ret2
        exact ⟨_, rfl, Kd.R_nil _ _ _ _ _, (by repeat (first | (with_reducible first | exact HB.out | apply below_alloc | apply pw_below_drewN | apply below_drew1) | exact HB.out))⟩
      | true =>
        rw [if_pos rfl] at h
        by_cases hk : 2 ≤ a0_0 ∧ a0_0 ≤ 12 ∧ l1.length ≤ 20 ∧ 0 ≤ a3 ∧ a3 ≤ 9000
        case neg => rw [if_neg hk] at h; cases h
        rw [if_pos hk] at h
        obtain ⟨n, rfl⟩ : ∃ n : Nat, a0_0 = (n : Int) := ⟨a0_0.toNat, by omega⟩
        obtain ⟨T, rfl⟩ : ∃ n : Nat, a3 = (n : Int) := ⟨a3.toNat, by omega⟩
        rw [Int.toNat_natCast, Int.toNat_natCast] at h
        obtain ⟨fah, rfl⟩ : ∃ q, q = a0_1 := ⟨_, rfl⟩
        obtain ⟨s0, rfl⟩ : ∃ q, q = a2 := ⟨_, rfl⟩
        have HN := Aside0.mk (show 2 ≤ n ∧ n ≤ 12 by omega)
        have HJ := Aside0.mk hk.2.2.1
        have HT := Aside0.mk (show T ≤ 9000 by omega)
        obtain ⟨T1, hT1⟩ : ∃ q : Int, (T : Int) + 1 = q := ⟨_, rfl⟩
        have hwT : IntKind.i64.wrap ((T : Int) + 1) = T1 := by rw [IntKind.wrap_i64, ← hT1]; have := HT.out; omega
        have HTQ := Aside0.mk (show T1 = ((T + 1 : Nat) : Int) by omega)
        obtain ⟨rfl, rfl⟩ := Prod.mk.inj (Option.some.inj h)
        clear h hk hT1
        go_enter Try.func44, Try.ntmps44
        go_wp2_with (first | ((with_reducible refine gate_dst (N := 4) rfl ?_); refine box_event ?hg (N := 4) ?hd (cs := #[.int .i64 (n : Int), .bool fah]) (t := 28) ?hr ?_; (case hd => rfl); (case hg => rfl); (case hr => first | (go_simp; done) | (go_simp; rfl)); intro b hg w3 hbox hb; have HB3 := Aside0.mk (below_step (by repeat (first | (with_reducible first | exact HB.out | apply below_alloc | apply pw_below_drewN | apply below_drew1) | exact HB.out)) hb); clear HB; have HB := HB3; clear HB3; have HBX := Aside0.mk hbox; have hk0 : w3.cell? ⟨b, 0, none⟩ = some (.int .i64 (n : Int)) := (blk_cell hbox 0).trans rfl; have hk1 : w3.cell? ⟨b, 1, none⟩ = some (.bool fah) := (blk_cell hbox 1).trans rfl; clear hg hb hbox) | (go_at_call 50; (with_reducible refine (spec_slAll.calls k (n : Int) fah A1 c1 l1 true _ ?s1 HCC.out E1.out).mono ?_); (case s1 => repeat (first | exact (Kd.C_below HC.out HB.out) | (with_reducible refine Kd.C_alloc ?_ _) | (with_reducible refine Kd.C_drewN ?_ _) | (with_reducible refine Kd.C_drew ?_))); rintro e w9 ⟨rfl, hb⟩; have HX9 := Aside0.mk (blk_below HBX.out hb); have HB9 := Aside0.mk (below_step (by repeat (first | (with_reducible first | exact HB.out | apply below_alloc | apply pw_below_drewN | apply below_drew1) | exact HB.out)) hb); clear HBX HB hb hk0 hk1; have HBX := HX9; have HB := HB9; clear HX9 HB9; have hk0 : w9.cell? ⟨b, 0, none⟩ = some (.int .i64 (n : Int)) := (blk_cell HBX.out 0).trans rfl; have hk1 : w9.cell? ⟨b, 1, none⟩ = some (.bool fah) := (blk_cell HBX.out 1).trans rfl) | ((with_reducible refine gate_callee (f := 50) rfl ?_); refine goesL_ (some 16) rfl rfl Try.func50 (by kernel_rfl) rfl #[.agg #[.int .i64 (n : Int), .bool fah], .slice A1 l1.length c1] rfl (by (try simp only [List.map_toArray, List.map_cons, List.map_nil]); first | done | rfl) ?_; (with_reducible refine (spec_slAll.calls k (n : Int) fah A1 c1 l1 true _ ?s1 HCC.out E1.out).mono ?_); (case s1 => repeat (first | exact (Kd.C_below HC.out HB.out) | (with_reducible refine Kd.C_alloc ?_ _) | (with_reducible refine Kd.C_drewN ?_ _) | (with_reducible refine Kd.C_drew ?_))); rintro e w9 ⟨rfl, hb⟩; have HX9 := Aside0.mk (blk_below HBX.out hb); have HB9 := Aside0.mk (below_step (by repeat (first | (with_reducible first | exact HB.out | apply below_alloc | apply pw_below_drewN | apply below_drew1) | exact HB.out)) hb); clear HBX HB hb hk0 hk1; have HBX := HX9; have HB := HB9; clear HX9 HB9; have hk0 : w9.cell? ⟨b, 0, none⟩ = some (.int .i64 (n : Int)) := (blk_cell HBX.out 0).trans rfl; have hk1 : w9.cell? ⟨b, 1, none⟩ = some (.bool fah) := (blk_cell HBX.out 1).trans rfl; refine ⟨_, rfl, ?_⟩) | (go_at_call 54; (with_reducible refine (spec_l1In.calls s0 0 m1 true _ E2.out).mono ?_); rintro e w8 ⟨rfl, ⟨nd8, rfl⟩⟩) | ((with_reducible refine gate_callee (f := 54) rfl ?_); refine goesL_ (some 23) rfl rfl Try.func54 (by kernel_rfl) rfl #[.int .i64 s0, .int .i64 0, .int .i64 m1] rfl (by (try simp only [List.map_toArray, List.map_cons, List.map_nil]); first | done | rfl) ?_; (with_reducible refine (spec_l1In.calls s0 0 m1 true _ E2.out).mono ?_); rintro e w8 ⟨rfl, ⟨nd8, rfl⟩⟩; refine ⟨_, rfl, ?_⟩) | (go_at_call 54; (with_reducible refine (spec_l1In.calls (T : Int) 0 400 true _ E3.out).mono ?_); rintro e w8 ⟨rfl, ⟨nd8, rfl⟩⟩) | ((with_reducible refine gate_callee (f := 54) rfl ?_); refine goesL_ (some 28) rfl rfl Try.func54 (by kernel_rfl) rfl #[.int .i64 (T : Int), .int .i64 0, .int .i64 400] rfl (by (try simp only [List.map_toArray, List.map_cons, List.map_nil]); first | done | rfl) ?_; (with_reducible refine (spec_l1In.calls (T : Int) 0 400 true _ E3.out).mono ?_); rintro e w8 ⟨rfl, ⟨nd8, rfl⟩⟩; refine ⟨_, rfl, ?_⟩) | (go_at_call 64; (with_reducible refine (slEnd_one T1 HTQ.out A1 c1 n fah l1 (T + 1) w _ HC.out ?s1 HN.out HJ.out (by have := HT.out; omega)).mono ?_); (case s1 => exact (by repeat (first | (with_reducible first | exact HB.out | apply below_alloc | apply pw_below_drewN | apply below_drew1) | exact HB.out))); rintro e w6 ⟨g, rfl, hi, hb⟩; have HI := Aside0.mk hi; clear HB hi; have HB := Aside0.mk hb; clear hb; obtain ⟨A0, c0, v1, v2, v3, h1, h2, h3, h4, h5, h6⟩ := HI.out; obtain ⟨A3, c3, e3⟩ := Kd.R_slice h5; subst e3; have hc4 : w6.cell? ⟨g, 4, none⟩ = some (.slice A3 _ c3) := (blk_cell h1 4).trans rfl; have HR := Aside0.mk h5; clear h1 h2 h3 h4 h5 h6) | ((with_reducible refine gate_callee (f := 64) rfl ?_); refine goesL_ (some 35) rfl rfl Try.func64 (by kernel_rfl) rfl #[.agg #[.int .i64 (n : Int), .bool fah], .slice A1 l1.length c1, .int .i64 T1] rfl (by (try simp only [List.map_toArray, List.map_cons, List.map_nil]); first | done | rfl) ?_; (with_reducible refine (slEnd_one T1 HTQ.out A1 c1 n fah l1 (T + 1) w _ HC.out ?s1 HN.out HJ.out (by have := HT.out; omega)).mono ?_); (case s1 => exact (by repeat (first | (with_reducible first | exact HB.out | apply below_alloc | apply pw_below_drewN | apply below_drew1) | exact HB.out))); rintro e w6 ⟨g, rfl, hi, hb⟩; have HI := Aside0.mk hi; clear HB hi; have HB := Aside0.mk hb; clear hb; refine ⟨_, rfl, ?_⟩; obtain ⟨A0, c0, v1, v2, v3, h1, h2, h3, h4, h5, h6⟩ := HI.out; obtain ⟨A3, c3, e3⟩ := Kd.R_slice h5; subst e3; have hc4 : w6.cell? ⟨g, 4, none⟩ = some (.slice A3 _ c3) := (blk_cell h1 4).trans rfl; have HR := Aside0.mk h5; clear h1 h2 h3 h4 h5 h6))
        obtain ⟨fi, hfi⟩ : ∃ q, (slRunTo l1 fah n (T + 1)).2.1 = q := ⟨_, rfl⟩
        obtain ⟨tk, htk⟩ : ∃ q : Int, (T : Int) = q := ⟨_, rfl⟩
        have HFL := Aside0.mk (show fi.length = l1.length by rw [← hfi]; exact (slRunTo_inv l1 fah n (T + 1)).2.1)
        rw [hfi] at hc4 HR
        rw [htk]
        have HFI := Aside0.mk hfi
        have HTK := Aside0.mk htk
        have HC4 := Aside0.mk hc4
        have HW := Aside0.mk HB.out
        have HCJ := Aside0.mk (Kd.C_below HC.out HB.out)
        clear HB hc4 hk0 hk1 HBX HI hfi htk hw1 hwT
        go_loopg [11, 38] (l1.length + 1) (fun kq v11 v38 w' => ∃ i : Nat, kq + i = l1.length + 1 ∧ i ≤ l1.length ∧ v38 = .int .i64 (i : Int) ∧ Aside0 (Kd.R (Kd.int .i64) 3 w' w6.heap.size (fun _ => True) v11 (slQueue l1 fi s0 tk i)) ∧ Aside0 (Below w6.heap.size w6 w'))
        case atStart => exact ⟨0, by omega, by omega, rfl, ⟨Kd.R_nil _ _ _ _ _⟩, ⟨Below.refl _ _⟩⟩
        case round =>
          obtain ⟨i, hki, hil, rfl, HO, HB⟩ := hrel
          by_cases hi : i < l1.length
          · have hb1 : decide ((i : Int) < (l1.length : Int)) = true := decide_eq_true (by omega)
            have hb2 : decide (i < l1.length) = true := decide_eq_true hi
            have HIL := Aside0.mk hi
            have HKI := Aside0.mk hki
            have HQL := Aside0.mk (slQueue_len l1 fi s0 tk i)
            have hp : 0 ≤ (i : Int) := by omega
            have hq : (i : Int) < (l1.length : Int) := by omega
            obtain ⟨ad, e1, hx0, hx1, hx2⟩ := at_T30 HCJ.out (i : Int) hp hq
            cases e1
            simp only [Int.toNat_natCast] at hx0 hx1 hx2
            replace hx0 := pw_cell_below HB.out hx0
            replace hx1 := pw_cell_below HB.out hx1
            replace hx2 := pw_cell_below HB.out hx2
            replace hp := eq_true hp
            replace hq := eq_true hq
            have hq2 := eq_true hi
            clear hi hki hil
            go_upto_region 7 with (fail)
            go_cut [12, 13] (fun v12 v13 wc => v12 = .int .i64 (i : Int) ∧ ∃ bm, v13 = .pointer (some ⟨bm, 0, none⟩) ∧ Aside0 (wc.cell? ⟨bm, 0, none⟩ = some (.int .i64 (rd_T30 l1 (i : Int)).f0)) ∧ Aside0 (wc.cell? ⟨bm, 1, none⟩ = some (.int .i64 (rd_T30 l1 (i : Int)).f1)) ∧ Aside0 (Kd.R (Kd.int .i64) 3 wc w6.heap.size (fun _ => True) u11 (slQueue l1 fi s0 tk i)) ∧ Aside0 (Below w6.heap.size w6 wc))
            case first =>
              go_wp2_with (first | ((with_reducible refine gate_dst (N := 13) rfl ?_); refine box_event ?hg (N := 13) ?hd (cs := #[.int .i64 0, .int .i64 0, .int .i64 0]) (t := 30) ?hr ?_; (case hd => rfl); (case hg => rfl); (case hr => first | (go_simp; done) | (go_simp; rfl)); intro bm hg w13 hbox hb; have HB3 := Aside0.mk (below_step (by repeat (first | (with_reducible first | exact HB.out | apply below_alloc | apply pw_below_drewN | apply below_drew1) | exact HB.out)) hb); have HO3 := Aside0.mk (Kd.R_below (show Kd.R (Kd.int .i64) 3 _ w6.heap.size (fun _ => True) u11 (slQueue l1 fi s0 tk i) from (by (with_reducible repeat (first | apply Kd.R_alloc | apply Kd.R_drewN | apply Kd.R_drew)); exact HO.out)) hb); have HBM := Aside0.mk hbox; have HOB := Aside0.mk (Kd.R_mono (Kd.R_types HO3.out hbox (fun q hq => by simp [Kd.int, Kd.scalar] at hq; omega)) (ok' := fun k_ => k_ ≠ bm) (fun _ hk => hk.2)); have HGE := Aside0.mk (show w6.heap.size ≤ bm by rw [hg]; exact (below_size (by repeat (first | (with_reducible first | exact HB.out | apply below_alloc | apply pw_below_drewN | apply below_drew1) | exact HB.out)))); clear hg hbox hb; have hk0 : w13.cell? ⟨bm, 0, none⟩ = some (.int .i64 0) := (blk_cell HBM.out 0).trans rfl; have hk1 : w13.cell? ⟨bm, 1, none⟩ = some (.int .i64 0) := (blk_cell HBM.out 1).trans rfl; have hk2 : w13.cell? ⟨bm, 2, none⟩ = some (.int .i64 0) := (blk_cell HBM.out 2).trans rfl; have hf0 := blk_frozen HBM.out 0; have hf1 := blk_frozen HBM.out 1; have hf2 := blk_frozen HBM.out 2))
              go_meet
              exact ⟨rfl, bm, rfl, ⟨by go_simp⟩, ⟨by go_simp⟩, ⟨(Kd.R_far (p := ⟨bm, 2, none⟩) (Kd.R_far (p := ⟨bm, 1, none⟩) (Kd.R_far (p := ⟨bm, 0, none⟩) HOB.out (fun _ hk => hk) _) (fun _ hk => hk) _) (fun _ hk => hk) _) |> fun h_ => Kd.R_mono h_ (fun _ _ => trivial)⟩, ⟨((HB3.out.setCell (p := ⟨bm, 0, none⟩) HGE.out _).setCell (p := ⟨bm, 1, none⟩) HGE.out _).setCell (p := ⟨bm, 2, none⟩) HGE.out _⟩⟩
            case rest =>
              clear hx0 hx1 hx2 hp hq hq2 HO HB hb1 hb2
              obtain ⟨rfl, bm, rfl, HK0, HK1, HO, HB⟩ := hcut
              have hk0 := HK0.out
              have hk1 := HK1.out
              have hc4 := pw_cell_below HB.out HC4.out
              obtain ⟨wa, hwa⟩ : ∃ q, slWaits l1 tk fi s0 i = q := ⟨_, rfl⟩
              have HWA := Aside0.mk hwa
              have HWA2 := Aside0.mk (show (decide ((rd_T30 l1 (i : Int)).f1 = s0) && (decide ((rd_T30 l1 (i : Int)).f0 ≤ tk) && decide (rd fi (i : Int) < 0))) = wa from hwa)
              have hp : 0 ≤ (i : Int) := by omega
              have hq : (i : Int) < (fi.length : Int) := by have := HFL.out; have := HIL.out; omega
              obtain ⟨ad5, e5, hx5⟩ := Kd.at_int (Kd.R_reads' HR.out).2.2 (i : Int) hp hq
              cases e5
              simp only [Int.toNat_natCast] at hx5
              replace hx5 := pw_cell_below HB.out hx5
              replace hp := eq_true hp
              replace hq := eq_true hq
              have hq2 : (i < fi.length) = True := eq_true (by have := HFL.out; have := HIL.out; omega)
              clear hwa
              go_upto_region 8 with (fail)
              go_cut [62] (fun v62 wd => v62 = .bool wa ∧ Aside0 (wd = wc))
              case first =>
                by_cases q1 : (rd_T30 l1 (i : Int)).f1 = s0
                · have c1b : ((rd_T30 l1 (i : Int)).f1 == s0) = true := beq_iff_eq.mpr q1
                  have HC1 := Aside0.mk q1
                  clear q1
                  by_cases q2 : (rd_T30 l1 (i : Int)).f0 ≤ tk
                  · have c2b : decide ((rd_T30 l1 (i : Int)).f0 ≤ tk) = true := decide_eq_true q2
                    have HC2 := Aside0.mk c2b
                    clear q2
                    by_cases q3 : rd fi (i : Int) < 0
                    · have c3b : decide (rd fi (i : Int) < 0) = true := decide_eq_true q3
                      have HC3 := Aside0.mk c3b
                      clear q3
                      go_wp2
                      go_meet
                      exact ⟨by rw [← HWA2.out, decide_eq_true HC1.out, HC2.out, HC3.out]; rfl, ⟨rfl⟩⟩
                    · have c3b : decide (rd fi (i : Int) < 0) = false := decide_eq_false q3
                      have HC3 := Aside0.mk c3b
                      clear q3
                      go_wp2
                      go_meet
                      exact ⟨by rw [← HWA2.out, decide_eq_true HC1.out, HC2.out, HC3.out]; rfl, ⟨rfl⟩⟩
                  · have c2b : decide ((rd_T30 l1 (i : Int)).f0 ≤ tk) = false := decide_eq_false q2
                    have HC2 := Aside0.mk c2b
                    clear q2
                    go_wp2
                    go_meet
                    exact ⟨by rw [← HWA2.out, decide_eq_true HC1.out, HC2.out]; rfl, ⟨rfl⟩⟩
                · have c1b : ((rd_T30 l1 (i : Int)).f1 == s0) = false := beq_eq_false_iff_ne.mpr q1
                  have HC1 := Aside0.mk q1
                  clear q1
                  go_wp2
                  go_meet
                  exact ⟨by rw [← HWA2.out, decide_eq_false HC1.out]; rfl, ⟨rfl⟩⟩
              case rest =>
                obtain ⟨rfl, HWD⟩ := hcut
                obtain rfl := HWD.out
                clear HWD hk0 hk1 hc4 hx5 hp hq hq2
                cases wa with
                | true =>
                  have HQS := Aside0.mk (show slQueue l1 fi s0 tk (i + 1) = slQueue l1 fi s0 tk i ++ [(i : Int)] by rw [slQueue, if_pos HWA.out])
                  go_wp2_with (first | ((with_reducible refine gate_builtin (b := .append) (xs := #[.tmp 63, .tmp 65]) rfl ?_); at_builtin; refine Kd.R_append (Kd.int .i64) (w0 := w6) w6.heap.size rfl (.tmp 63) (.tmp 65) 46 3 (.int .i64 0) 8 rfl Try.underlying46 info3 rfl (by decide) (by omega) u11 (slQueue l1 fi s0 tk i) (i : Int) [.int .i64 (i : Int)] (fun _ => True) (fun _ => False) rfl rfl ?aP (fun _ hk => hk.elim) ?aF ?aO ?aB ?aS ?aL ?_; (case aP => exact rfl); (case aF => exact (fun _ _ => trivial)); (case aO => exact (by (with_reducible repeat (first | apply Kd.R_alloc | apply Kd.R_drewN | apply Kd.R_drew)); exact HO.out)); (case aB => exact (by repeat (first | (with_reducible first | exact HB.out | apply below_alloc | apply pw_below_drewN | apply below_drew1) | exact HB.out))); (case aS => exact (below_size (by repeat (first | (with_reducible first | exact HB.out | apply below_alloc | apply pw_below_drewN | apply below_drew1) | exact HB.out)))); (case aL => have := HQL.out; have := HIL.out; have := HJ.out; omega); intro v66 w66 ho hb hg hat; have HO6 := Aside0.mk ho; have HB6 := Aside0.mk hb; clear ho hb hg hat HO HB; have HO := HO6; have HB := HB6; clear HO6 HB6))
                  go_roundg (l1.length - i)
                  case measure => have := HKI.out; have := HIL.out; omega
                  case rel => exact ⟨i + 1, by have := HIL.out; omega, by have := HIL.out; omega, by have := HIL.out; have := HJ.out; first | rfl | (rw [wrapS (by omega) (by omega)]; rfl), ⟨by rw [HQS.out]; exact HO.out⟩, HB⟩
                | false =>
                  have HQS := Aside0.mk (show slQueue l1 fi s0 tk (i + 1) = slQueue l1 fi s0 tk i by rw [slQueue, if_neg (by rw [HWA.out]; simp)])
                  go_wp2
                  go_roundg (l1.length - i)
                  case measure => have := HKI.out; have := HIL.out; omega
                  case rel => exact ⟨i + 1, by have := HIL.out; omega, by have := HIL.out; omega, by have := HIL.out; have := HJ.out; first | rfl | (rw [wrapS (by omega) (by omega)]; rfl), ⟨by rw [HQS.out]; exact HO.out⟩, HB⟩
          · obtain rfl : i = l1.length := by omega
            have hb1 : decide ((l1.length : Int) < (l1.length : Int)) = false := decide_eq_false (by omega)
            have hb2 : decide (l1.length < l1.length) = false := decide_eq_false hi
            have HRW := Aside0.mk (Kd.R_lower HO.out (below_size HW.out))
            have HBW := Aside0.mk (below_step HW.out HB.out)
            obtain ⟨A9, c9, e9⟩ := Kd.R_slice HRW.out
            subst e9
            clear hi
            go_wp2
            go_ret2
            rw [HFI.out, HTK.out]
            exact ⟨_, rfl, HRW.out, HBW.out⟩

end Go.Proofs.Ytgkbeejkbhhjkaa.X

/- What the functions of the program come to, and that they do: written by this session's program wip/xprint.py out of the translation; parts named extern are typed by hand. -/
namespace Go.Proofs.Ytgkbeejkbhhjkaa.X
open Go.RowKit Go.Proofs.YtgkbeejkbhhjkaaW.PrintWords Go.Proofs.YtgkbeejkbhhjkaaW.PrintLast Go.Proofs.YtgkbeejkbhhjkaaW.PrintMore
attribute [local go_sem] max2_int min2_int max_two min_two max_three min_three max_four min_four   -- for this text's walks alone
set_option linter.unusedVariables false
set_option linter.unusedSimpArgs false

/-! ### impl_QueueAt: function 45 -/
mutual
def impl_QueueAt.j0 : Nat → List (S30) → Int → Int → List Int → Bool → Option (List Int × Bool)
  | 0, _, _, _, _, _ => none
  | k + 1, x1, x2, x3, x10, x35 => if x35 = true then (some (([] : List Int), false)) else (impl_QueueAt.l0 k x2 x3 x10 (([] : List Int)) x1 (x1.length : Int) 0)
def impl_QueueAt.l0 : Nat → Int → Int → List Int → List Int → List (S30) → Int → Int → Option (List Int × Bool)
  | 0, _, _, _, _, _, _, _ => none
  | k + 1, x2, x3, x10, x12, x37, x38, x39 => if x39 < x38 then (if 0 ≤ x39 then (if x39 < (x37.length : Int) then (if ((rd_T30 x37 x39).f1) = x2 then (if ((rd_T30 x37 x39).f0) ≤ x3 then (if x39 < (x10.length : Int) then (if (rd x10 x39) > x3 then (if x12.length < 17592186044416 then (impl_QueueAt.l0 k x2 x3 x10 (x12 ++ [x39]) x37 x38 (wrap64 (x39 + 1))) else (none)) else (impl_QueueAt.l0 k x2 x3 x10 x12 x37 x38 (wrap64 (x39 + 1)))) else (none)) else (impl_QueueAt.l0 k x2 x3 x10 x12 x37 x38 (wrap64 (x39 + 1)))) else (impl_QueueAt.l0 k x2 x3 x10 x12 x37 x38 (wrap64 (x39 + 1)))) else (none)) else (none)) else (some (x12, true))
end
def impl_QueueAt.f (k : Nat) (a0_0 : Int) (a0_1 : Bool) (l1 : List (S30)) (a2 : Int) (a3 : Int) : Option (List Int × Bool) := (impl_FilledAt.f k a0_0 a0_1 l1).bind fun bt563 => (if bt563.2 = true then ((impl_within.f a2 0 (wrap64 (a0_0 - 1))).bind fun t567 => (if t567 = true then ((impl_isSlotTick.f a3).bind fun t568 => (impl_QueueAt.j0 k l1 a2 a3 bt563.1 (!t568))) else (impl_QueueAt.j0 k l1 a2 a3 bt563.1 true))) else (impl_QueueAt.j0 k l1 a2 a3 bt563.1 true))
set_option maxHeartbeats 8000000 in
set_option maxRecDepth 100000 in
theorem impl_QueueAt.calls (k : Nat) (a0_0 : Int) (a0_1 : Bool) (A1 : Option Addr) (c1 : Nat) (l1 : List (S30)) (a2 : Int) (a3 : Int) (r1 : List Int) (r2 : Bool) (w : World) (hr1 : Kd.C k30 w A1 l1.length l1) (hc1 : l1.length ≤ c1) (h : impl_QueueAt.f k a0_0 a0_1 l1 a2 a3 = some (r1, r2)) :
    Calls Try.prog 45 #[.agg #[.int .i64 a0_0, .bool a0_1], .slice A1 l1.length c1, .int .i64 a2, .int .i64 a3] w fun e w' => ∃ v0_ : Value, e = .returned (.tuple #[v0_, .bool r2]) ∧ Kd.R (Kd.int .i64) 3 w' w.heap.size (fun _ => True) v0_ r1 ∧ Below w.heap.size w w' := by
  have hu28 := Try.underlying28
  have hu30 := Try.underlying30
  have HR1 := Aside0.mk hr1
  have HC1 := Aside0.mk hc1
  clear hr1 hc1
  have HB := Aside0.mk (Below.refl w.heap.size w)
  have H : ((impl_FilledAt.f k a0_0 a0_1 l1).bind fun bt563 => (if bt563.2 = true then ((impl_within.f a2 0 (wrap64 (a0_0 - 1))).bind fun t567 => (if t567 = true then ((impl_isSlotTick.f a3).bind fun t568 => (impl_QueueAt.j0 k l1 a2 a3 bt563.1 (!t568))) else (impl_QueueAt.j0 k l1 a2 a3 bt563.1 true))) else (impl_QueueAt.j0 k l1 a2 a3 bt563.1 true))) = some (r1, r2) := h
  clear h
  replace H := Option.bind_eq_some_iff.mp H
  obtain ⟨⟨t563, t566⟩, A50, H⟩ := H
  replace H : (if t566 = true then ((impl_within.f a2 0 (wrap64 (a0_0 - 1))).bind fun t567 => (if t567 = true then ((impl_isSlotTick.f a3).bind fun t568 => (impl_QueueAt.j0 k l1 a2 a3 t563 (!t568))) else (impl_QueueAt.j0 k l1 a2 a3 t563 true))) else (impl_QueueAt.j0 k l1 a2 a3 t563 true)) = some (r1, r2) := H
  have A5 := Aside0.mk A50
  clear A50
  have HC6 := Aside0.mk H
  clear H
  go_enter Try.func45, Try.ntmps45
  go_upto_region 2 with (first | ((with_reducible refine gate_dst (N := 4) rfl ?_); refine box_event ?hg (N := 4) ?hd (cs := #[.int .i64 a0_0, .bool a0_1]) (t := 28) ?hr ?_; (case hd => rfl); (case hg => rfl); (case hr => first | (go_simp; done) | (go_simp; rfl)); intro gb562 hg w7 hbox hb; have n0_ := Aside0.mk (below_step (by repeat (first | (with_reducible first | exact HB.out | apply below_alloc | apply pw_below_drewN | apply below_drew1) | exact HB.out)) hb); have n1_ := Aside0.mk (hbox); have n2_ := Aside0.mk ((by rw [hg]; exact (below_size (by repeat (first | (with_reducible first | exact HB.out | apply below_alloc | apply pw_below_drewN | apply below_drew1) | exact HB.out))) : w.heap.size ≤ gb562)); have n3_ := Aside0.mk ((by rw [hg]; exact (below_size (by repeat (first | (with_reducible first | exact HB.out | apply below_alloc | apply pw_below_drewN | apply below_drew1) | exact HB.out))) : w.heap.size ≤ gb562)); clear HB; have HB := n0_; have BK562 := n1_; have GW562 := n2_; have GE562 := n3_; clear n0_ n1_ n2_ n3_; clear hb hbox hg; have hcz8_0 : w7.cell? ⟨gb562, 0, none⟩ = some (.int .i64 a0_0) := (blk_cell BK562.out 0).trans rfl; have hcz8_1 : w7.cell? ⟨gb562, 1, none⟩ = some (.bool a0_1) := (blk_cell BK562.out 1).trans rfl; have hfz8_0 := blk_frozen BK562.out 0; have hfz8_1 := blk_frozen BK562.out 1) | ((with_reducible refine gate_callee (f := 41) rfl ?_); refine goesL_ (some 18) rfl rfl Try.func41 (by kernel_rfl) rfl #[.agg #[.int .i64 a0_0, .bool a0_1], .slice A1 l1.length c1] rfl (by (try simp only [List.map_toArray, List.map_cons, List.map_nil]); first | done | rfl | (simp only [List.length_drop, List.length_take]; rfl)) ?_; (with_reducible refine (impl_FilledAt.calls k a0_0 a0_1 _ _ l1 t563 t566 _ ?side1 ?side2 A5.out).mono ?_); (case side1 => repeat (first | exact (Kd.C_below HR1.out HB.out) | (with_reducible refine Kd.C_alloc ?_ _) | (with_reducible refine Kd.C_drewN ?_ _) | (with_reducible refine Kd.C_drew ?_))); (case side2 => exact HC1.out); rintro e w9 ⟨v564, rfl, ho0, hb⟩; refine ⟨_, rfl, ?_⟩; have n0_ := Aside0.mk (Kd.R_lower ho0 (below_size (by repeat (first | (with_reducible first | exact HB.out | apply below_alloc | apply pw_below_drewN | apply below_drew1 | refine below_set ?_ GE562.out) | exact HB.out)))); have n1_ := Aside0.mk (blk_below (g := gb562) (o := .cells #[.int .i64 a0_0, .bool a0_1] 28 (0, 0)) (by (with_reducible repeat (first | refine blk_drewN ?_ _ | refine blk_drew ?_ | refine blk_alloc ?_ _)); exact BK562.out) hb); have n2_ := Aside0.mk (below_step (by repeat (first | (with_reducible first | exact HB.out | apply below_alloc | apply pw_below_drewN | apply below_drew1 | refine below_set ?_ GE562.out) | exact HB.out)) hb); clear BK562; clear HB; have HO565 := n0_; have BK562 := n1_; have HB := n2_; clear n0_ n1_ n2_; (try clear hb); (try clear hb2); (try clear hk); (try clear hi); (try clear ho0)))
  (try simp only [Act.put, List.setIfInBounds_toArray, List.set_cons_zero, List.set_cons_succ])
  go_cut [35] (fun v35 wc => ∃ (kq : Nat) (x35_5 : Bool), v35 = .bool x35_5 ∧ Aside0 (impl_QueueAt.j0 kq l1 a2 a3 t563 x35_5 = some (r1, r2)) ∧ Aside0 (kq ≤ k) ∧ Aside0 (Kd.R (Kd.int .i64) 3 wc w.heap.size (fun _ => True) v564 t563) ∧ Aside0 (wc.heap[gb562]? = some (.cells #[.int .i64 a0_0, .bool a0_1] 28 (0, 0))) ∧ Aside0 (Below w.heap.size w wc))
  case first =>
    have H := HC6.out
    clear HC6
    by_cases c10 : t566 = true
    · subst c10
      have H1 : ((impl_within.f a2 0 (wrap64 (a0_0 - 1))).bind fun t567 => (if t567 = true then ((impl_isSlotTick.f a3).bind fun t568 => (impl_QueueAt.j0 k l1 a2 a3 t563 (!t568))) else (impl_QueueAt.j0 k l1 a2 a3 t563 true))) = some (r1, r2) := by rw [if_pos rfl] at H; exact H
      clear H
      have H := H1
      clear H1
      replace H := Option.bind_eq_some_iff.mp H
      obtain ⟨t567, A110, H⟩ := H
      replace H : (if t567 = true then ((impl_isSlotTick.f a3).bind fun t568 => (impl_QueueAt.j0 k l1 a2 a3 t563 (!t568))) else (impl_QueueAt.j0 k l1 a2 a3 t563 true)) = some (r1, r2) := H
      have A11 := Aside0.mk A110
      clear A110
      by_cases c12 : t567 = true
      · subst c12
        have H1 : ((impl_isSlotTick.f a3).bind fun t568 => (impl_QueueAt.j0 k l1 a2 a3 t563 (!t568))) = some (r1, r2) := by rw [if_pos rfl] at H; exact H
        clear H
        have H := H1
        clear H1
        replace H := Option.bind_eq_some_iff.mp H
        obtain ⟨t568, A130, H⟩ := H
        replace H : (impl_QueueAt.j0 k l1 a2 a3 t563 (!t568)) = some (r1, r2) := H
        have A13 := Aside0.mk A130
        clear A130
        have H' := Aside0.mk H
        clear H
        have hcz14_0 : w9.cell? ⟨gb562, 0, none⟩ = some (.int .i64 a0_0) := (blk_cell BK562.out 0).trans rfl
        have hcz14_1 : w9.cell? ⟨gb562, 1, none⟩ = some (.bool a0_1) := (blk_cell BK562.out 1).trans rfl
        have hfz14_0 := blk_frozen BK562.out 0
        have hfz14_1 := blk_frozen BK562.out 1
        go_wp2_with (first | (go_at_call 55; (with_reducible refine (impl_within.calls a2 0 (wrap64 (a0_0 - 1)) true _ A11.out).mono ?_); rintro e w' ⟨rfl, ⟨nd, rfl⟩⟩) | (go_at_call 60; (with_reducible refine (impl_isSlotTick.calls a3 t568 _ A13.out).mono ?_); rintro e w' ⟨rfl, ⟨nd, rfl⟩⟩))
        go_meet
        case rel => exact ⟨_, (!t568), (by first | rfl | (simp; done) | (simp [*]; done)), H', ⟨by first | omega | exact Nat.le_refl _⟩, ⟨by (with_reducible repeat (first | apply Kd.R_alloc | apply Kd.R_drewN | apply Kd.R_drew)); exact HO565.out⟩, ⟨by (with_reducible repeat (first | refine blk_drewN ?_ _ | refine blk_drew ?_ | refine blk_alloc ?_ _)); exact BK562.out⟩, ⟨by repeat (first | (with_reducible first | exact HB.out | apply below_alloc | apply pw_below_drewN | apply below_drew1 | refine below_set ?_ GE562.out) | exact HB.out)⟩⟩
      · replace c12 := Bool.eq_false_iff.mpr c12
        subst c12
        have H1 : (impl_QueueAt.j0 k l1 a2 a3 t563 true) = some (r1, r2) := by rw [if_neg (show ¬ (false = true) by decide)] at H; exact H
        clear H
        have H := H1
        clear H1
        have H' := Aside0.mk H
        clear H
        have hcz15_0 : w9.cell? ⟨gb562, 0, none⟩ = some (.int .i64 a0_0) := (blk_cell BK562.out 0).trans rfl
        have hcz15_1 : w9.cell? ⟨gb562, 1, none⟩ = some (.bool a0_1) := (blk_cell BK562.out 1).trans rfl
        have hfz15_0 := blk_frozen BK562.out 0
        have hfz15_1 := blk_frozen BK562.out 1
        go_wp2_with (first | (go_at_call 55; (with_reducible refine (impl_within.calls a2 0 (wrap64 (a0_0 - 1)) false _ A11.out).mono ?_); rintro e w' ⟨rfl, ⟨nd, rfl⟩⟩))
        go_meet
        case rel => exact ⟨_, (true), (by first | rfl | (simp; done) | (simp [*]; done)), H', ⟨by first | omega | exact Nat.le_refl _⟩, ⟨by (with_reducible repeat (first | apply Kd.R_alloc | apply Kd.R_drewN | apply Kd.R_drew)); exact HO565.out⟩, ⟨by (with_reducible repeat (first | refine blk_drewN ?_ _ | refine blk_drew ?_ | refine blk_alloc ?_ _)); exact BK562.out⟩, ⟨by repeat (first | (with_reducible first | exact HB.out | apply below_alloc | apply pw_below_drewN | apply below_drew1 | refine below_set ?_ GE562.out) | exact HB.out)⟩⟩
    · replace c10 := Bool.eq_false_iff.mpr c10
      subst c10
      have H1 : (impl_QueueAt.j0 k l1 a2 a3 t563 true) = some (r1, r2) := by rw [if_neg (show ¬ (false = true) by decide)] at H; exact H
      clear H
      have H := H1
      clear H1
      have H' := Aside0.mk H
      clear H
      go_wp2
      go_meet
      case rel => exact ⟨_, (true), (by first | rfl | (simp; done) | (simp [*]; done)), H', ⟨by first | omega | exact Nat.le_refl _⟩, ⟨by (with_reducible repeat (first | apply Kd.R_alloc | apply Kd.R_drewN | apply Kd.R_drew)); exact HO565.out⟩, ⟨by (with_reducible repeat (first | refine blk_drewN ?_ _ | refine blk_drew ?_ | refine blk_alloc ?_ _)); exact BK562.out⟩, ⟨by repeat (first | (with_reducible first | exact HB.out | apply below_alloc | apply pw_below_drewN | apply below_drew1 | refine below_set ?_ GE562.out) | exact HB.out)⟩⟩
  case rest =>
    clear HC6
    try clear c1
    try clear p2
    try clear c4
    try clear p6
    try clear c10
    try clear c12
    try clear hcz14_0
    try clear hcz14_1
    try clear hcz15_0
    try clear hcz15_1
    try clear hcz8_0
    try clear hcz8_1
    try clear hfz14_0
    try clear hfz14_1
    try clear hfz15_0
    try clear hfz15_1
    try clear hfz8_0
    try clear hfz8_1
    obtain ⟨kq, x35_5, rfl, HA, HJ5, HO_10, BK562, HB⟩ := hcut
    cases kq with
    | zero => exact absurd HA.out (by simp [impl_QueueAt.j0])
    | succ kj5 =>
      have H := HA.out
      clear HA
      simp only [impl_QueueAt.j0] at H
      by_cases c16 : x35_5 = true
      · subst c16
        have H1 : (some (([] : List Int), false)) = some (r1, r2) := by rw [if_pos rfl] at H; exact H
        clear H
        have H := H1
        clear H1
        simp only [Option.some.injEq, Prod.mk.injEq] at H
        obtain ⟨rfl, rfl⟩ := H
        go_wp2
        go_ret2
        exact ⟨_, by first | rfl | (simp [errW_none, errW_some] <;> rfl) | (simp [*, errW_none, errW_some] <;> rfl), by first | exact Kd.R_nil _ _ _ _ _ | exact Kd.N_nil _ _ _ _ _ | exact Kd.V_nil _ _ _ _ _ | exact Kd.Q_nil _ _ _ _ _ | exact Kd.S_nil _ _ _ _ _, by repeat (first | (with_reducible first | exact HB.out | apply below_alloc | apply pw_below_drewN | apply below_drew1 | refine below_set ?_ GE562.out) | exact HB.out)⟩
      · replace c16 := Bool.eq_false_iff.mpr c16
        subst c16
        have H1 : (impl_QueueAt.l0 kj5 a2 a3 t563 (([] : List Int)) l1 (l1.length : Int) 0) = some (r1, r2) := by rw [if_neg (show ¬ (false = true) by decide)] at H; exact H
        clear H
        have H := H1
        clear H1
        obtain ⟨y569, hy569⟩ : ∃ y_ : List Int, y_ = (([] : List Int)) := ⟨_, rfl⟩
        replace H : (impl_QueueAt.l0 kj5 a2 a3 t563 y569 l1 (l1.length : Int) 0) = some (r1, r2) := by first | (rw [hy569]; with_reducible exact H) | (have H2_ := (Option.bind_some _ _).symm.trans H; rw [hy569]; with_reducible exact H2_) | (have H2_ := (Option.bind_some _ _).symm.trans H; with_reducible exact H2_) | with_reducible exact H | (rw [hy569]; exact H) | exact H
        have Ny569 := Aside0.mk hy569
        clear hy569
        have H' := Aside0.mk H
        clear H
        go_wp2_with (first | ((with_reducible refine gate_dst (N := 36) rfl ?_); refine Kd.R_lit (Kd.int .i64) _ 3 ?hg (N := 36) ?hd (xs := ([] : List Int)) (inner := []) (ok := fun _ => True) (okp := fun _ => True) ?hr ?hp (fun _ hk => hk) trivial (Below.refl _ _) (Nat.le_refl _) (by simp) ?_; (case hd => rfl); (case hg => rfl); (case hr => first | (go_simp; done) | (go_simp; rfl)); (case hp => exact (Reps.none _ _)); intro v570 w17 ho18 hb hg_ hnew_; clear hg_ hnew_; (first | rw [← Ny569.out] at ho18 | (simp only [Int.reduceToNat] at ho18; rw [← Ny569.out] at ho18)); have n0_ := Aside0.mk (Kd.R_elder' (by (with_reducible repeat (first | apply Kd.R_alloc | apply Kd.R_drewN | apply Kd.R_drew)); exact HO_10.out) (Kd.R_base ho18) hb); have n1_ := Aside0.mk (Kd.R_lower (Kd.R_new' ho18 (Kd.R_lt (by (with_reducible repeat (first | apply Kd.R_alloc | apply Kd.R_drewN | apply Kd.R_drew)); exact HO_10.out))) (below_size (by repeat (first | (with_reducible first | exact HB.out | apply below_alloc | apply pw_below_drewN | apply below_drew1 | refine below_set ?_ GE562.out) | exact HB.out)))); have n2_ := Aside0.mk (blk_below (g := gb562) (o := .cells #[.int .i64 a0_0, .bool a0_1] 28 (0, 0)) (by (with_reducible repeat (first | refine blk_drewN ?_ _ | refine blk_drew ?_ | refine blk_alloc ?_ _)); exact BK562.out) hb); have n3_ := Aside0.mk (below_step (by repeat (first | (with_reducible first | exact HB.out | apply below_alloc | apply pw_below_drewN | apply below_drew1 | refine below_set ?_ GE562.out) | exact HB.out)) hb); clear HO_10; clear BK562; clear HB; have HO_10 := n0_; have HO571 := n1_; have BK562 := n2_; have HB := n3_; clear n0_ n1_ n2_ n3_; clear hb ho18))
        go_loopg [12, 39] kj5 (fun kq v12 v39 w' => ∃ (x12_2 : List Int) (x39_2 : Int), v39 = .int .i64 x39_2 ∧ Aside0 (impl_QueueAt.l0 kq a2 a3 t563 x12_2 l1 (l1.length : Int) x39_2 = some (r1, r2)) ∧ Aside0 (kq ≤ kj5) ∧ Aside0 (Kd.R (Kd.int .i64) 3 w' w.heap.size (fun k_ => some k_ ≠ (v12 : Value).ownBlock) v564 t563) ∧ Aside0 (Kd.R (Kd.int .i64) 3 w' w.heap.size (fun k_ => some k_ ≠ (v564 : Value).ownBlock) v12 x12_2) ∧ Aside0 (w'.heap[gb562]? = some (.cells #[.int .i64 a0_0, .bool a0_1] 28 (0, 0))) ∧ Aside0 (Below w.heap.size w w'))
        case atStart => exact ⟨(y569), (0), (by first | rfl | (simp; done) | (simp [*]; done)), H', ⟨Nat.le_refl _⟩, ⟨by (with_reducible repeat (first | apply Kd.R_alloc | apply Kd.R_drewN | apply Kd.R_drew)); exact Kd.R_mono HO_10.out (fun _ hk => hk.2)⟩, ⟨by (with_reducible repeat (first | apply Kd.R_alloc | apply Kd.R_drewN | apply Kd.R_drew)); exact Kd.R_mono HO571.out (fun _ hk => hk.2)⟩, ⟨by (with_reducible repeat (first | refine blk_drewN ?_ _ | refine blk_drew ?_ | refine blk_alloc ?_ _)); exact BK562.out⟩, ⟨by repeat (first | (with_reducible first | exact HB.out | apply below_alloc | apply pw_below_drewN | apply below_drew1 | refine below_set ?_ GE562.out) | exact HB.out)⟩⟩
        case round =>
          clear H'
          try clear c1
          try clear p2
          try clear c4
          try clear p6
          try clear c10
          try clear c12
          try clear c16
          try clear hcz14_0
          try clear hcz14_1
          try clear hcz15_0
          try clear hcz15_1
          try clear hcz8_0
          try clear hcz8_1
          try clear hfz14_0
          try clear hfz14_1
          try clear hfz15_0
          try clear hfz15_1
          try clear hfz8_0
          try clear hfz8_1
          try clear p2
          try clear p6
          obtain ⟨x12_2, x39_2, rfl, HA, HK2, HO_10, HO_12, BK562, HB⟩ := hrel
          cases gk with
          | zero => exact absurd HA.out (by simp [impl_QueueAt.l0])
          | succ k2 =>
            have H := HA.out
            clear HA
            simp only [impl_QueueAt.l0] at H
            by_cases c19 : x39_2 < (l1.length : Int)
            · rw [if_pos c19] at H
              have c19b0 : decide (x39_2 < (l1.length : Int)) = true := decide_eq_true c19
              clear c19
              by_cases c20 : 0 ≤ x39_2
              · rw [if_pos c20] at H
                have c20b0 : decide (0 ≤ x39_2) = true := decide_eq_true c20
                clear c20
                by_cases c21 : x39_2 < (l1.length : Int)
                · rw [if_pos c21] at H
                  have c21b0 : decide (x39_2 < (l1.length : Int)) = true := decide_eq_true c21
                  clear c21
                  by_cases c22 : ((rd_T30 l1 x39_2).f1) = a2
                  · rw [if_pos c22] at H
                    have c22b0 : (((rd_T30 l1 x39_2).f1) == a2) = true := beq_iff_eq.mpr c22
                    have c22b1 : (((rd_T30 l1 x39_2).f1) != a2) = false := bne_eq_false_iff_eq.mpr c22
                    clear c22
                    by_cases c23 : ((rd_T30 l1 x39_2).f0) ≤ a3
                    · rw [if_pos c23] at H
                      have c23b0 : decide (((rd_T30 l1 x39_2).f0) ≤ a3) = true := decide_eq_true c23
                      clear c23
                      by_cases c24 : x39_2 < (t563.length : Int)
                      · rw [if_pos c24] at H
                        have c24b0 : decide (x39_2 < (t563.length : Int)) = true := decide_eq_true c24
                        clear c24
                        by_cases c25 : (rd t563 x39_2) > a3
                        · rw [if_pos c25] at H
                          have c25b0 : decide (a3 < (rd t563 x39_2)) = true := decide_eq_true c25
                          clear c25
                          by_cases c26 : x12_2.length < 17592186044416
                          · rw [if_pos c26] at H
                            have LMc26 := Aside0.mk c26
                            clear c26
                            obtain ⟨y575, hy575⟩ : ∃ y_ : List Int, y_ = (x12_2 ++ [x39_2]) := ⟨_, rfl⟩
                            replace H : (impl_QueueAt.l0 k2 a2 a3 t563 y575 l1 (l1.length : Int) (wrap64 (x39_2 + 1))) = some (r1, r2) := by first | (rw [hy575]; with_reducible exact H) | (have H2_ := (Option.bind_some _ _).symm.trans H; rw [hy575]; with_reducible exact H2_) | (have H2_ := (Option.bind_some _ _).symm.trans H; with_reducible exact H2_) | with_reducible exact H | (rw [hy575]; exact H) | exact H
                            have Ny575 := Aside0.mk hy575
                            clear hy575
                            have H' := Aside0.mk H
                            clear H
                            have p572 : 0 ≤ (x39_2 : Int) := of_decide_eq_true (by first | (with_reducible assumption) | assumption)
                            have q572 : x39_2 < (l1.length : Int) := of_decide_eq_true (by first | (with_reducible assumption) | assumption)
                            obtain ⟨ad572, e572, hx572_0, hx572_1, hx572_2⟩ := at_T30 HR1.out x39_2 p572 q572
                            cases e572
                            replace hx572_0 := (HB.out.cell (World.block_lt_of_cell? w _ hx572_0)).trans hx572_0
                            replace hx572_1 := (HB.out.cell (World.block_lt_of_cell? w _ hx572_1)).trans hx572_1
                            replace hx572_2 := (HB.out.cell (World.block_lt_of_cell? w _ hx572_2)).trans hx572_2
                            replace p572 := eq_true p572
                            replace q572 := eq_true q572
                            go_wp2_with (first | ((with_reducible refine gate_dst (N := 14) rfl ?_); refine box_event ?hg (N := 14) ?hd (cs := #[.int .i64 0, .int .i64 0, .int .i64 0]) (t := 30) ?hr ?_; (case hd => rfl); (case hg => rfl); (case hr => first | (go_simp; done) | (go_simp; rfl)); intro gb573 hg w27 hbox hb; have n0_ := Aside0.mk (Kd.R_below (by (with_reducible repeat (first | apply Kd.R_alloc | apply Kd.R_drewN | apply Kd.R_drew)); exact HO_10.out) hb); have n1_ := Aside0.mk (Kd.R_below (by (with_reducible repeat (first | apply Kd.R_alloc | apply Kd.R_drewN | apply Kd.R_drew)); exact HO_12.out) hb); have n2_ := Aside0.mk (blk_below (g := gb562) (o := .cells #[.int .i64 a0_0, .bool a0_1] 28 (0, 0)) (by (with_reducible repeat (first | refine blk_drewN ?_ _ | refine blk_drew ?_ | refine blk_alloc ?_ _)); exact BK562.out) hb); have n3_ := Aside0.mk (below_step (by repeat (first | (with_reducible first | exact HB.out | apply below_alloc | apply pw_below_drewN | apply below_drew1 | refine below_set ?_ GE562.out) | exact HB.out)) hb); have n4_ := Aside0.mk (hbox); have n5_ := Aside0.mk ((by rw [hg]; exact (below_size (by repeat (first | (with_reducible first | exact HB.out | apply below_alloc | apply pw_below_drewN | apply below_drew1 | refine below_set ?_ GE562.out) | exact HB.out))) : w.heap.size ≤ gb573)); have n6_ := Aside0.mk ((by rw [hg]; exact (below_size (by repeat (first | (with_reducible first | exact HB.out | apply below_alloc | apply pw_below_drewN | apply below_drew1 | refine below_set ?_ GE562.out) | exact HB.out))) : w.heap.size ≤ gb573)); have n7_ := Aside0.mk ((by rw [hg]; exact Nat.ne_of_lt (blk_lt (g := gb562) (o := .cells #[.int .i64 a0_0, .bool a0_1] 28 (0, 0)) (by (with_reducible repeat (first | refine blk_drewN ?_ _ | refine blk_drew ?_ | refine blk_alloc ?_ _)); exact BK562.out)) : gb562 ≠ gb573)); have n8_ := Aside0.mk ((by rw [hg]; exact Nat.ne_of_gt (blk_lt (g := gb562) (o := .cells #[.int .i64 a0_0, .bool a0_1] 28 (0, 0)) (by (with_reducible repeat (first | refine blk_drewN ?_ _ | refine blk_drew ?_ | refine blk_alloc ?_ _)); exact BK562.out)) : gb573 ≠ gb562)); clear HO_10; clear HO_12; clear BK562; clear HB; have HO_10 := n0_; have HO_12 := n1_; have BK562 := n2_; have HB := n3_; have BK573 := n4_; have GW573 := n5_; have GE573 := n6_; have NB562_573 := n7_; have NB573_562 := n8_; clear n0_ n1_ n2_ n3_ n4_ n5_ n6_ n7_ n8_; clear hb hbox hg; have hnb28 := NB573_562.out; have hnc28 := NB562_573.out; have hcz29_0 : w27.cell? ⟨gb573, 0, none⟩ = some (.int .i64 0) := (blk_cell BK573.out 0).trans rfl; have hcz29_1 : w27.cell? ⟨gb573, 1, none⟩ = some (.int .i64 0) := (blk_cell BK573.out 1).trans rfl; have hcz29_2 : w27.cell? ⟨gb573, 2, none⟩ = some (.int .i64 0) := (blk_cell BK573.out 2).trans rfl; have hfz29_0 := blk_frozen BK573.out 0; have hfz29_1 := blk_frozen BK573.out 1; have hfz29_2 := blk_frozen BK573.out 2; obtain ⟨Ao30, co30, eo30⟩ := Kd.R_slice HO_10.out; subst eo30; have p574 : 0 ≤ (x39_2 : Int) := of_decide_eq_true (by first | (with_reducible assumption) | assumption); have q574 : x39_2 < (t563.length : Int) := of_decide_eq_true (by first | (with_reducible assumption) | assumption); obtain ⟨ad574, e574, hx574_0⟩ := Kd.at_int (Kd.R_reads' HO_10.out).2.2 x39_2 p574 q574; cases e574; have hn574_0 : ad574.block ≠ gb573 := Kd.own_blk (Kd.R_ne HO_10.out BK573.out (by decide)); have hn574_1 : ad574.block ≠ gb573 := Kd.own_blk (Kd.R_ne HO_10.out BK573.out (by decide)); have hn574_2 : ad574.block ≠ gb573 := Kd.own_blk (Kd.R_ne HO_10.out BK573.out (by decide)); replace hx574_0 := (cell_far (p := ⟨gb573, 0, none⟩) (by first | (rw [add_block]; exact hn574_0) | (show (Addr.add _ _).block ≠ _; rw [add_block]; exact hn574_0) | exact hn574_0) (.int .i64 ((rd_T30 l1 x39_2).f0))).trans hx574_0; replace hx574_0 := (cell_far (p := ⟨gb573, 1, none⟩) (by first | (rw [add_block]; exact hn574_1) | (show (Addr.add _ _).block ≠ _; rw [add_block]; exact hn574_1) | exact hn574_1) (.int .i64 ((rd_T30 l1 x39_2).f1))).trans hx574_0; replace hx574_0 := (cell_far (p := ⟨gb573, 2, none⟩) (by first | (rw [add_block]; exact hn574_2) | (show (Addr.add _ _).block ≠ _; rw [add_block]; exact hn574_2) | exact hn574_2) (.int .i64 ((rd_T30 l1 x39_2).f2))).trans hx574_0; clear hn574_0; clear hn574_1; clear hn574_2; replace p574 := eq_true p574; replace q574 := eq_true q574) | ((with_reducible refine gate_builtin (b := .append) (xs := #[.tmp 62, .tmp 64]) rfl ?_); at_builtin; refine Kd.R_append (Kd.int .i64) (w0 := w) w.heap.size rfl (.tmp 62) (.tmp 64) 46 3 (.int .i64 0) 8 rfl Try.underlying46 info3 rfl (by decide) (by omega) u12 x12_2 x39_2 [.int .i64 x39_2] (fun k_ => some k_ ≠ (.slice (some ad574) t563.length co30 : Value).ownBlock) (fun _ => False) rfl (by first | (go_simp; done) | (go_simp; rfl)) ?aP (fun _ hk => hk.elim) ?aF ?aO ?aB ?aS ?aL ?_; (case aP => exact rfl); (case aB => exact (by repeat (first | (with_reducible first | exact HB.out | apply below_alloc | apply pw_below_drewN | apply below_drew1 | refine below_set ?_ GE562.out | refine below_set ?_ GE573.out) | exact HB.out))); (case aF => exact (fun k_ hk => Kd.fresh' (Kd.R_lt (by (with_reducible repeat (first | apply Kd.R_alloc | apply Kd.R_drewN | apply Kd.R_drew)); exact (Kd.R_mono (Kd.R_far (p := ⟨gb573, 2, none⟩) (Kd.R_far (p := ⟨gb573, 1, none⟩) (Kd.R_far (p := ⟨gb573, 0, none⟩) (Kd.R_types HO_10.out BK573.out (by decide)) (fun _ hk => hk.2) (.int .i64 ((rd_T30 l1 x39_2).f0))) (fun _ hk => hk.2) (.int .i64 ((rd_T30 l1 x39_2).f1))) (fun _ hk => hk.2) (.int .i64 ((rd_T30 l1 x39_2).f2))) (fun _ h_ => h_.1)))) k_ hk)); (case aO => exact (by (with_reducible repeat (first | apply Kd.R_alloc | apply Kd.R_drewN | apply Kd.R_drew)); exact Kd.R_mono (Kd.R_far (p := ⟨gb573, 2, none⟩) (Kd.R_far (p := ⟨gb573, 1, none⟩) (Kd.R_far (p := ⟨gb573, 0, none⟩) (Kd.R_types HO_12.out BK573.out (by decide)) (fun _ hk => hk.2) (.int .i64 ((rd_T30 l1 x39_2).f0))) (fun _ hk => hk.2) (.int .i64 ((rd_T30 l1 x39_2).f1))) (fun _ hk => hk.2) (.int .i64 ((rd_T30 l1 x39_2).f2))) (fun _ hk => hk.1))); (case aS => exact (below_size (by repeat (first | (with_reducible first | exact HB.out | apply below_alloc | apply pw_below_drewN | apply below_drew1 | refine below_set ?_ GE562.out | refine below_set ?_ GE573.out) | exact HB.out)))); (case aL => have := LMc26.out; omega); intro v576 w31 ho hb hg hat; rw [← Ny575.out] at ho; have n0_ := Aside0.mk (Kd.R_after (ok := (fun _ => True)) (by (with_reducible repeat (first | apply Kd.R_alloc | apply Kd.R_drewN | apply Kd.R_drew)); exact Kd.R_mono (Kd.R_far (p := ⟨gb573, 2, none⟩) (Kd.R_far (p := ⟨gb573, 1, none⟩) (Kd.R_far (p := ⟨gb573, 0, none⟩) (Kd.R_types HO_10.out BK573.out (by decide)) (fun _ hk => hk.2) (.int .i64 ((rd_T30 l1 x39_2).f0))) (fun _ hk => hk.2) (.int .i64 ((rd_T30 l1 x39_2).f1))) (fun _ hk => hk.2) (.int .i64 ((rd_T30 l1 x39_2).f2))) (fun _ hk => ⟨trivial, hk.1⟩)) hg hat); have n1_ := Aside0.mk (blk_grown (g := gb562) (o := .cells #[.int .i64 a0_0, .bool a0_1] 28 (0, 0)) (by (with_reducible repeat (first | refine blk_drewN ?_ _ | refine blk_drew ?_ | refine blk_alloc ?_ _)); refine blk_far ?_ NB562_573.out _; (with_reducible repeat (first | refine blk_drewN ?_ _ | refine blk_drew ?_ | refine blk_alloc ?_ _)); refine blk_far ?_ NB562_573.out _; (with_reducible repeat (first | refine blk_drewN ?_ _ | refine blk_drew ?_ | refine blk_alloc ?_ _)); refine blk_far ?_ NB562_573.out _; (with_reducible repeat (first | refine blk_drewN ?_ _ | refine blk_drew ?_ | refine blk_alloc ?_ _)); exact BK562.out) hg (Kd.R_ne HO_12.out BK562.out (by decide))); have n2_ := Aside0.mk (blk_grown (g := gb573) (o := .cells #[.int .i64 ((rd_T30 l1 x39_2).f0), .int .i64 ((rd_T30 l1 x39_2).f1), .int .i64 ((rd_T30 l1 x39_2).f2)] 30 (0, 0)) (by (with_reducible repeat (first | refine blk_drewN ?_ _ | refine blk_drew ?_ | refine blk_alloc ?_ _)); refine blk_put (cs := #[.int .i64 ((rd_T30 l1 x39_2).f0), .int .i64 ((rd_T30 l1 x39_2).f1), .int .i64 0]) ?_ 2 _ rfl; (with_reducible repeat (first | refine blk_drewN ?_ _ | refine blk_drew ?_ | refine blk_alloc ?_ _)); refine blk_put (cs := #[.int .i64 ((rd_T30 l1 x39_2).f0), .int .i64 0, .int .i64 0]) ?_ 1 _ rfl; (with_reducible repeat (first | refine blk_drewN ?_ _ | refine blk_drew ?_ | refine blk_alloc ?_ _)); refine blk_put (cs := #[.int .i64 0, .int .i64 0, .int .i64 0]) ?_ 0 _ rfl; (with_reducible repeat (first | refine blk_drewN ?_ _ | refine blk_drew ?_ | refine blk_alloc ?_ _)); exact BK573.out) hg (Kd.R_ne HO_12.out BK573.out (by decide))); have n3_ := Aside0.mk (hb); have n4_ := Aside0.mk (ho); clear HO_10; clear BK562; clear BK573; clear HB; clear HO_12; have HO_10 := n0_; have BK562 := n1_; have BK573 := n2_; have HB := n3_; have HO577 := n4_; clear n0_ n1_ n2_ n3_ n4_; clear ho hb hg hat))
                            go_roundg k2
                            case measure => have := HJ5.out; have := HK2.out; omega
                            case rel => exact ⟨(y575), (wrap64 (x39_2 + 1)), (by first | rfl | (simp; done) | (simp [*]; done)), H', ⟨by have := HJ5.out; have := HK2.out; omega⟩, ⟨by (with_reducible repeat (first | apply Kd.R_alloc | apply Kd.R_drewN | apply Kd.R_drew)); exact Kd.R_mono HO_10.out (fun _ hk => hk.2)⟩, ⟨by (with_reducible repeat (first | apply Kd.R_alloc | apply Kd.R_drewN | apply Kd.R_drew)); exact HO577.out⟩, ⟨by (with_reducible repeat (first | refine blk_drewN ?_ _ | refine blk_drew ?_ | refine blk_alloc ?_ _)); exact BK562.out⟩, ⟨by repeat (first | (with_reducible first | exact HB.out | apply below_alloc | apply pw_below_drewN | apply below_drew1 | refine below_set ?_ GE562.out | refine below_set ?_ GE573.out) | exact HB.out)⟩⟩
                          · rw [if_neg c26] at H
                            exact absurd H (by simp)
                        · rw [if_neg c25] at H
                          have c25b0 : decide (a3 < (rd t563 x39_2)) = false := decide_eq_false c25
                          clear c25
                          have H' := Aside0.mk H
                          clear H
                          have p572 : 0 ≤ (x39_2 : Int) := of_decide_eq_true (by first | (with_reducible assumption) | assumption)
                          have q572 : x39_2 < (l1.length : Int) := of_decide_eq_true (by first | (with_reducible assumption) | assumption)
                          obtain ⟨ad572, e572, hx572_0, hx572_1, hx572_2⟩ := at_T30 HR1.out x39_2 p572 q572
                          cases e572
                          replace hx572_0 := (HB.out.cell (World.block_lt_of_cell? w _ hx572_0)).trans hx572_0
                          replace hx572_1 := (HB.out.cell (World.block_lt_of_cell? w _ hx572_1)).trans hx572_1
                          replace hx572_2 := (HB.out.cell (World.block_lt_of_cell? w _ hx572_2)).trans hx572_2
                          replace p572 := eq_true p572
                          replace q572 := eq_true q572
                          go_wp2_with (first | ((with_reducible refine gate_dst (N := 14) rfl ?_); refine box_event ?hg (N := 14) ?hd (cs := #[.int .i64 0, .int .i64 0, .int .i64 0]) (t := 30) ?hr ?_; (case hd => rfl); (case hg => rfl); (case hr => first | (go_simp; done) | (go_simp; rfl)); intro gb573 hg w32 hbox hb; have n0_ := Aside0.mk (Kd.R_below (by (with_reducible repeat (first | apply Kd.R_alloc | apply Kd.R_drewN | apply Kd.R_drew)); exact HO_10.out) hb); have n1_ := Aside0.mk (Kd.R_below (by (with_reducible repeat (first | apply Kd.R_alloc | apply Kd.R_drewN | apply Kd.R_drew)); exact HO_12.out) hb); have n2_ := Aside0.mk (blk_below (g := gb562) (o := .cells #[.int .i64 a0_0, .bool a0_1] 28 (0, 0)) (by (with_reducible repeat (first | refine blk_drewN ?_ _ | refine blk_drew ?_ | refine blk_alloc ?_ _)); exact BK562.out) hb); have n3_ := Aside0.mk (below_step (by repeat (first | (with_reducible first | exact HB.out | apply below_alloc | apply pw_below_drewN | apply below_drew1 | refine below_set ?_ GE562.out) | exact HB.out)) hb); have n4_ := Aside0.mk (hbox); have n5_ := Aside0.mk ((by rw [hg]; exact (below_size (by repeat (first | (with_reducible first | exact HB.out | apply below_alloc | apply pw_below_drewN | apply below_drew1 | refine below_set ?_ GE562.out) | exact HB.out))) : w.heap.size ≤ gb573)); have n6_ := Aside0.mk ((by rw [hg]; exact (below_size (by repeat (first | (with_reducible first | exact HB.out | apply below_alloc | apply pw_below_drewN | apply below_drew1 | refine below_set ?_ GE562.out) | exact HB.out))) : w.heap.size ≤ gb573)); have n7_ := Aside0.mk ((by rw [hg]; exact Nat.ne_of_lt (blk_lt (g := gb562) (o := .cells #[.int .i64 a0_0, .bool a0_1] 28 (0, 0)) (by (with_reducible repeat (first | refine blk_drewN ?_ _ | refine blk_drew ?_ | refine blk_alloc ?_ _)); exact BK562.out)) : gb562 ≠ gb573)); have n8_ := Aside0.mk ((by rw [hg]; exact Nat.ne_of_gt (blk_lt (g := gb562) (o := .cells #[.int .i64 a0_0, .bool a0_1] 28 (0, 0)) (by (with_reducible repeat (first | refine blk_drewN ?_ _ | refine blk_drew ?_ | refine blk_alloc ?_ _)); exact BK562.out)) : gb573 ≠ gb562)); clear HO_10; clear HO_12; clear BK562; clear HB; have HO_10 := n0_; have HO_12 := n1_; have BK562 := n2_; have HB := n3_; have BK573 := n4_; have GW573 := n5_; have GE573 := n6_; have NB562_573 := n7_; have NB573_562 := n8_; clear n0_ n1_ n2_ n3_ n4_ n5_ n6_ n7_ n8_; clear hb hbox hg; have hnb33 := NB573_562.out; have hnc33 := NB562_573.out; have hcz34_0 : w32.cell? ⟨gb573, 0, none⟩ = some (.int .i64 0) := (blk_cell BK573.out 0).trans rfl; have hcz34_1 : w32.cell? ⟨gb573, 1, none⟩ = some (.int .i64 0) := (blk_cell BK573.out 1).trans rfl; have hcz34_2 : w32.cell? ⟨gb573, 2, none⟩ = some (.int .i64 0) := (blk_cell BK573.out 2).trans rfl; have hfz34_0 := blk_frozen BK573.out 0; have hfz34_1 := blk_frozen BK573.out 1; have hfz34_2 := blk_frozen BK573.out 2; obtain ⟨Ao35, co35, eo35⟩ := Kd.R_slice HO_10.out; subst eo35; have p574 : 0 ≤ (x39_2 : Int) := of_decide_eq_true (by first | (with_reducible assumption) | assumption); have q574 : x39_2 < (t563.length : Int) := of_decide_eq_true (by first | (with_reducible assumption) | assumption); obtain ⟨ad574, e574, hx574_0⟩ := Kd.at_int (Kd.R_reads' HO_10.out).2.2 x39_2 p574 q574; cases e574; have hn574_0 : ad574.block ≠ gb573 := Kd.own_blk (Kd.R_ne HO_10.out BK573.out (by decide)); have hn574_1 : ad574.block ≠ gb573 := Kd.own_blk (Kd.R_ne HO_10.out BK573.out (by decide)); have hn574_2 : ad574.block ≠ gb573 := Kd.own_blk (Kd.R_ne HO_10.out BK573.out (by decide)); replace hx574_0 := (cell_far (p := ⟨gb573, 0, none⟩) (by first | (rw [add_block]; exact hn574_0) | (show (Addr.add _ _).block ≠ _; rw [add_block]; exact hn574_0) | exact hn574_0) (.int .i64 ((rd_T30 l1 x39_2).f0))).trans hx574_0; replace hx574_0 := (cell_far (p := ⟨gb573, 1, none⟩) (by first | (rw [add_block]; exact hn574_1) | (show (Addr.add _ _).block ≠ _; rw [add_block]; exact hn574_1) | exact hn574_1) (.int .i64 ((rd_T30 l1 x39_2).f1))).trans hx574_0; replace hx574_0 := (cell_far (p := ⟨gb573, 2, none⟩) (by first | (rw [add_block]; exact hn574_2) | (show (Addr.add _ _).block ≠ _; rw [add_block]; exact hn574_2) | exact hn574_2) (.int .i64 ((rd_T30 l1 x39_2).f2))).trans hx574_0; clear hn574_0; clear hn574_1; clear hn574_2; replace p574 := eq_true p574; replace q574 := eq_true q574))
                          go_roundg k2
                          case measure => have := HJ5.out; have := HK2.out; omega
                          case rel => exact ⟨(x12_2), (wrap64 (x39_2 + 1)), (by first | rfl | (simp; done) | (simp [*]; done)), H', ⟨by have := HJ5.out; have := HK2.out; omega⟩, ⟨by (with_reducible repeat (first | apply Kd.R_alloc | apply Kd.R_drewN | apply Kd.R_drew)); exact Kd.R_mono (Kd.R_far (p := ⟨gb573, 2, none⟩) (Kd.R_far (p := ⟨gb573, 1, none⟩) (Kd.R_far (p := ⟨gb573, 0, none⟩) (Kd.R_types HO_10.out BK573.out (by decide)) (fun _ hk => hk.2) (.int .i64 ((rd_T30 l1 x39_2).f0))) (fun _ hk => hk.2) (.int .i64 ((rd_T30 l1 x39_2).f1))) (fun _ hk => hk.2) (.int .i64 ((rd_T30 l1 x39_2).f2))) (fun _ hk => hk.1)⟩, ⟨by (with_reducible repeat (first | apply Kd.R_alloc | apply Kd.R_drewN | apply Kd.R_drew)); exact Kd.R_mono (Kd.R_far (p := ⟨gb573, 2, none⟩) (Kd.R_far (p := ⟨gb573, 1, none⟩) (Kd.R_far (p := ⟨gb573, 0, none⟩) (Kd.R_types HO_12.out BK573.out (by decide)) (fun _ hk => hk.2) (.int .i64 ((rd_T30 l1 x39_2).f0))) (fun _ hk => hk.2) (.int .i64 ((rd_T30 l1 x39_2).f1))) (fun _ hk => hk.2) (.int .i64 ((rd_T30 l1 x39_2).f2))) (fun _ hk => hk.1)⟩, ⟨by (with_reducible repeat (first | refine blk_drewN ?_ _ | refine blk_drew ?_ | refine blk_alloc ?_ _)); refine blk_far ?_ NB562_573.out _; (with_reducible repeat (first | refine blk_drewN ?_ _ | refine blk_drew ?_ | refine blk_alloc ?_ _)); refine blk_far ?_ NB562_573.out _; (with_reducible repeat (first | refine blk_drewN ?_ _ | refine blk_drew ?_ | refine blk_alloc ?_ _)); refine blk_far ?_ NB562_573.out _; (with_reducible repeat (first | refine blk_drewN ?_ _ | refine blk_drew ?_ | refine blk_alloc ?_ _)); exact BK562.out⟩, ⟨by repeat (first | (with_reducible first | exact HB.out | apply below_alloc | apply pw_below_drewN | apply below_drew1 | refine below_set ?_ GE562.out | refine below_set ?_ GE573.out) | exact HB.out)⟩⟩
                      · rw [if_neg c24] at H
                        exact absurd H (by simp)
                    · rw [if_neg c23] at H
                      have c23b0 : decide (((rd_T30 l1 x39_2).f0) ≤ a3) = false := decide_eq_false c23
                      clear c23
                      have H' := Aside0.mk H
                      clear H
                      have p572 : 0 ≤ (x39_2 : Int) := of_decide_eq_true (by first | (with_reducible assumption) | assumption)
                      have q572 : x39_2 < (l1.length : Int) := of_decide_eq_true (by first | (with_reducible assumption) | assumption)
                      obtain ⟨ad572, e572, hx572_0, hx572_1, hx572_2⟩ := at_T30 HR1.out x39_2 p572 q572
                      cases e572
                      replace hx572_0 := (HB.out.cell (World.block_lt_of_cell? w _ hx572_0)).trans hx572_0
                      replace hx572_1 := (HB.out.cell (World.block_lt_of_cell? w _ hx572_1)).trans hx572_1
                      replace hx572_2 := (HB.out.cell (World.block_lt_of_cell? w _ hx572_2)).trans hx572_2
                      replace p572 := eq_true p572
                      replace q572 := eq_true q572
                      go_wp2_with (first | ((with_reducible refine gate_dst (N := 14) rfl ?_); refine box_event ?hg (N := 14) ?hd (cs := #[.int .i64 0, .int .i64 0, .int .i64 0]) (t := 30) ?hr ?_; (case hd => rfl); (case hg => rfl); (case hr => first | (go_simp; done) | (go_simp; rfl)); intro gb573 hg w36 hbox hb; have n0_ := Aside0.mk (Kd.R_below (by (with_reducible repeat (first | apply Kd.R_alloc | apply Kd.R_drewN | apply Kd.R_drew)); exact HO_10.out) hb); have n1_ := Aside0.mk (Kd.R_below (by (with_reducible repeat (first | apply Kd.R_alloc | apply Kd.R_drewN | apply Kd.R_drew)); exact HO_12.out) hb); have n2_ := Aside0.mk (blk_below (g := gb562) (o := .cells #[.int .i64 a0_0, .bool a0_1] 28 (0, 0)) (by (with_reducible repeat (first | refine blk_drewN ?_ _ | refine blk_drew ?_ | refine blk_alloc ?_ _)); exact BK562.out) hb); have n3_ := Aside0.mk (below_step (by repeat (first | (with_reducible first | exact HB.out | apply below_alloc | apply pw_below_drewN | apply below_drew1 | refine below_set ?_ GE562.out) | exact HB.out)) hb); have n4_ := Aside0.mk (hbox); have n5_ := Aside0.mk ((by rw [hg]; exact (below_size (by repeat (first | (with_reducible first | exact HB.out | apply below_alloc | apply pw_below_drewN | apply below_drew1 | refine below_set ?_ GE562.out) | exact HB.out))) : w.heap.size ≤ gb573)); have n6_ := Aside0.mk ((by rw [hg]; exact (below_size (by repeat (first | (with_reducible first | exact HB.out | apply below_alloc | apply pw_below_drewN | apply below_drew1 | refine below_set ?_ GE562.out) | exact HB.out))) : w.heap.size ≤ gb573)); have n7_ := Aside0.mk ((by rw [hg]; exact Nat.ne_of_lt (blk_lt (g := gb562) (o := .cells #[.int .i64 a0_0, .bool a0_1] 28 (0, 0)) (by (with_reducible repeat (first | refine blk_drewN ?_ _ | refine blk_drew ?_ | refine blk_alloc ?_ _)); exact BK562.out)) : gb562 ≠ gb573)); have n8_ := Aside0.mk ((by rw [hg]; exact Nat.ne_of_gt (blk_lt (g := gb562) (o := .cells #[.int .i64 a0_0, .bool a0_1] 28 (0, 0)) (by (with_reducible repeat (first | refine blk_drewN ?_ _ | refine blk_drew ?_ | refine blk_alloc ?_ _)); exact BK562.out)) : gb573 ≠ gb562)); clear HO_10; clear HO_12; clear BK562; clear HB; have HO_10 := n0_; have HO_12 := n1_; have BK562 := n2_; have HB := n3_; have BK573 := n4_; have GW573 := n5_; have GE573 := n6_; have NB562_573 := n7_; have NB573_562 := n8_; clear n0_ n1_ n2_ n3_ n4_ n5_ n6_ n7_ n8_; clear hb hbox hg; have hnb37 := NB573_562.out; have hnc37 := NB562_573.out; have hcz38_0 : w36.cell? ⟨gb573, 0, none⟩ = some (.int .i64 0) := (blk_cell BK573.out 0).trans rfl; have hcz38_1 : w36.cell? ⟨gb573, 1, none⟩ = some (.int .i64 0) := (blk_cell BK573.out 1).trans rfl; have hcz38_2 : w36.cell? ⟨gb573, 2, none⟩ = some (.int .i64 0) := (blk_cell BK573.out 2).trans rfl; have hfz38_0 := blk_frozen BK573.out 0; have hfz38_1 := blk_frozen BK573.out 1; have hfz38_2 := blk_frozen BK573.out 2))
                      go_roundg k2
                      case measure => have := HJ5.out; have := HK2.out; omega
                      case rel => exact ⟨(x12_2), (wrap64 (x39_2 + 1)), (by first | rfl | (simp; done) | (simp [*]; done)), H', ⟨by have := HJ5.out; have := HK2.out; omega⟩, ⟨by (with_reducible repeat (first | apply Kd.R_alloc | apply Kd.R_drewN | apply Kd.R_drew)); exact Kd.R_mono (Kd.R_far (p := ⟨gb573, 2, none⟩) (Kd.R_far (p := ⟨gb573, 1, none⟩) (Kd.R_far (p := ⟨gb573, 0, none⟩) (Kd.R_types HO_10.out BK573.out (by decide)) (fun _ hk => hk.2) (.int .i64 ((rd_T30 l1 x39_2).f0))) (fun _ hk => hk.2) (.int .i64 ((rd_T30 l1 x39_2).f1))) (fun _ hk => hk.2) (.int .i64 ((rd_T30 l1 x39_2).f2))) (fun _ hk => hk.1)⟩, ⟨by (with_reducible repeat (first | apply Kd.R_alloc | apply Kd.R_drewN | apply Kd.R_drew)); exact Kd.R_mono (Kd.R_far (p := ⟨gb573, 2, none⟩) (Kd.R_far (p := ⟨gb573, 1, none⟩) (Kd.R_far (p := ⟨gb573, 0, none⟩) (Kd.R_types HO_12.out BK573.out (by decide)) (fun _ hk => hk.2) (.int .i64 ((rd_T30 l1 x39_2).f0))) (fun _ hk => hk.2) (.int .i64 ((rd_T30 l1 x39_2).f1))) (fun _ hk => hk.2) (.int .i64 ((rd_T30 l1 x39_2).f2))) (fun _ hk => hk.1)⟩, ⟨by (with_reducible repeat (first | refine blk_drewN ?_ _ | refine blk_drew ?_ | refine blk_alloc ?_ _)); refine blk_far ?_ NB562_573.out _; (with_reducible repeat (first | refine blk_drewN ?_ _ | refine blk_drew ?_ | refine blk_alloc ?_ _)); refine blk_far ?_ NB562_573.out _; (with_reducible repeat (first | refine blk_drewN ?_ _ | refine blk_drew ?_ | refine blk_alloc ?_ _)); refine blk_far ?_ NB562_573.out _; (with_reducible repeat (first | refine blk_drewN ?_ _ | refine blk_drew ?_ | refine blk_alloc ?_ _)); exact BK562.out⟩, ⟨by repeat (first | (with_reducible first | exact HB.out | apply below_alloc | apply pw_below_drewN | apply below_drew1 | refine below_set ?_ GE562.out | refine below_set ?_ GE573.out) | exact HB.out)⟩⟩
                  · rw [if_neg c22] at H
                    have c22b0 : (((rd_T30 l1 x39_2).f1) == a2) = false := beq_eq_false_iff_ne.mpr c22
                    have c22b1 : (((rd_T30 l1 x39_2).f1) != a2) = true := bne_iff_ne.mpr c22
                    have H' := Aside0.mk H
                    clear H
                    have p572 : 0 ≤ (x39_2 : Int) := of_decide_eq_true (by first | (with_reducible assumption) | assumption)
                    have q572 : x39_2 < (l1.length : Int) := of_decide_eq_true (by first | (with_reducible assumption) | assumption)
                    obtain ⟨ad572, e572, hx572_0, hx572_1, hx572_2⟩ := at_T30 HR1.out x39_2 p572 q572
                    cases e572
                    replace hx572_0 := (HB.out.cell (World.block_lt_of_cell? w _ hx572_0)).trans hx572_0
                    replace hx572_1 := (HB.out.cell (World.block_lt_of_cell? w _ hx572_1)).trans hx572_1
                    replace hx572_2 := (HB.out.cell (World.block_lt_of_cell? w _ hx572_2)).trans hx572_2
                    replace p572 := eq_true p572
                    replace q572 := eq_true q572
                    go_wp2_with (first | ((with_reducible refine gate_dst (N := 14) rfl ?_); refine box_event ?hg (N := 14) ?hd (cs := #[.int .i64 0, .int .i64 0, .int .i64 0]) (t := 30) ?hr ?_; (case hd => rfl); (case hg => rfl); (case hr => first | (go_simp; done) | (go_simp; rfl)); intro gb573 hg w39 hbox hb; have n0_ := Aside0.mk (Kd.R_below (by (with_reducible repeat (first | apply Kd.R_alloc | apply Kd.R_drewN | apply Kd.R_drew)); exact HO_10.out) hb); have n1_ := Aside0.mk (Kd.R_below (by (with_reducible repeat (first | apply Kd.R_alloc | apply Kd.R_drewN | apply Kd.R_drew)); exact HO_12.out) hb); have n2_ := Aside0.mk (blk_below (g := gb562) (o := .cells #[.int .i64 a0_0, .bool a0_1] 28 (0, 0)) (by (with_reducible repeat (first | refine blk_drewN ?_ _ | refine blk_drew ?_ | refine blk_alloc ?_ _)); exact BK562.out) hb); have n3_ := Aside0.mk (below_step (by repeat (first | (with_reducible first | exact HB.out | apply below_alloc | apply pw_below_drewN | apply below_drew1 | refine below_set ?_ GE562.out) | exact HB.out)) hb); have n4_ := Aside0.mk (hbox); have n5_ := Aside0.mk ((by rw [hg]; exact (below_size (by repeat (first | (with_reducible first | exact HB.out | apply below_alloc | apply pw_below_drewN | apply below_drew1 | refine below_set ?_ GE562.out) | exact HB.out))) : w.heap.size ≤ gb573)); have n6_ := Aside0.mk ((by rw [hg]; exact (below_size (by repeat (first | (with_reducible first | exact HB.out | apply below_alloc | apply pw_below_drewN | apply below_drew1 | refine below_set ?_ GE562.out) | exact HB.out))) : w.heap.size ≤ gb573)); have n7_ := Aside0.mk ((by rw [hg]; exact Nat.ne_of_lt (blk_lt (g := gb562) (o := .cells #[.int .i64 a0_0, .bool a0_1] 28 (0, 0)) (by (with_reducible repeat (first | refine blk_drewN ?_ _ | refine blk_drew ?_ | refine blk_alloc ?_ _)); exact BK562.out)) : gb562 ≠ gb573)); have n8_ := Aside0.mk ((by rw [hg]; exact Nat.ne_of_gt (blk_lt (g := gb562) (o := .cells #[.int .i64 a0_0, .bool a0_1] 28 (0, 0)) (by (with_reducible repeat (first | refine blk_drewN ?_ _ | refine blk_drew ?_ | refine blk_alloc ?_ _)); exact BK562.out)) : gb573 ≠ gb562)); clear HO_10; clear HO_12; clear BK562; clear HB; have HO_10 := n0_; have HO_12 := n1_; have BK562 := n2_; have HB := n3_; have BK573 := n4_; have GW573 := n5_; have GE573 := n6_; have NB562_573 := n7_; have NB573_562 := n8_; clear n0_ n1_ n2_ n3_ n4_ n5_ n6_ n7_ n8_; clear hb hbox hg; have hnb40 := NB573_562.out; have hnc40 := NB562_573.out; have hcz41_0 : w39.cell? ⟨gb573, 0, none⟩ = some (.int .i64 0) := (blk_cell BK573.out 0).trans rfl; have hcz41_1 : w39.cell? ⟨gb573, 1, none⟩ = some (.int .i64 0) := (blk_cell BK573.out 1).trans rfl; have hcz41_2 : w39.cell? ⟨gb573, 2, none⟩ = some (.int .i64 0) := (blk_cell BK573.out 2).trans rfl; have hfz41_0 := blk_frozen BK573.out 0; have hfz41_1 := blk_frozen BK573.out 1; have hfz41_2 := blk_frozen BK573.out 2))
                    go_roundg k2
                    case measure => have := HJ5.out; have := HK2.out; omega
                    case rel => exact ⟨(x12_2), (wrap64 (x39_2 + 1)), (by first | rfl | (simp; done) | (simp [*]; done)), H', ⟨by have := HJ5.out; have := HK2.out; omega⟩, ⟨by (with_reducible repeat (first | apply Kd.R_alloc | apply Kd.R_drewN | apply Kd.R_drew)); exact Kd.R_mono (Kd.R_far (p := ⟨gb573, 2, none⟩) (Kd.R_far (p := ⟨gb573, 1, none⟩) (Kd.R_far (p := ⟨gb573, 0, none⟩) (Kd.R_types HO_10.out BK573.out (by decide)) (fun _ hk => hk.2) (.int .i64 ((rd_T30 l1 x39_2).f0))) (fun _ hk => hk.2) (.int .i64 ((rd_T30 l1 x39_2).f1))) (fun _ hk => hk.2) (.int .i64 ((rd_T30 l1 x39_2).f2))) (fun _ hk => hk.1)⟩, ⟨by (with_reducible repeat (first | apply Kd.R_alloc | apply Kd.R_drewN | apply Kd.R_drew)); exact Kd.R_mono (Kd.R_far (p := ⟨gb573, 2, none⟩) (Kd.R_far (p := ⟨gb573, 1, none⟩) (Kd.R_far (p := ⟨gb573, 0, none⟩) (Kd.R_types HO_12.out BK573.out (by decide)) (fun _ hk => hk.2) (.int .i64 ((rd_T30 l1 x39_2).f0))) (fun _ hk => hk.2) (.int .i64 ((rd_T30 l1 x39_2).f1))) (fun _ hk => hk.2) (.int .i64 ((rd_T30 l1 x39_2).f2))) (fun _ hk => hk.1)⟩, ⟨by (with_reducible repeat (first | refine blk_drewN ?_ _ | refine blk_drew ?_ | refine blk_alloc ?_ _)); refine blk_far ?_ NB562_573.out _; (with_reducible repeat (first | refine blk_drewN ?_ _ | refine blk_drew ?_ | refine blk_alloc ?_ _)); refine blk_far ?_ NB562_573.out _; (with_reducible repeat (first | refine blk_drewN ?_ _ | refine blk_drew ?_ | refine blk_alloc ?_ _)); refine blk_far ?_ NB562_573.out _; (with_reducible repeat (first | refine blk_drewN ?_ _ | refine blk_drew ?_ | refine blk_alloc ?_ _)); exact BK562.out⟩, ⟨by repeat (first | (with_reducible first | exact HB.out | apply below_alloc | apply pw_below_drewN | apply below_drew1 | refine below_set ?_ GE562.out | refine below_set ?_ GE573.out) | exact HB.out)⟩⟩
                · rw [if_neg c21] at H
                  exact absurd H (by simp)
              · rw [if_neg c20] at H
                exact absurd H (by simp)
            · rw [if_neg c19] at H
              have c19b0 : decide (x39_2 < (l1.length : Int)) = false := decide_eq_false c19
              clear c19
              simp only [Option.some.injEq, Prod.mk.injEq] at H
              obtain ⟨rfl, rfl⟩ := H
              go_wp2
              go_ret2
              exact ⟨_, by first | rfl | (simp [errW_none, errW_some] <;> rfl) | (simp [*, errW_none, errW_some] <;> rfl), by (with_reducible repeat (first | apply Kd.R_alloc | apply Kd.R_drewN | apply Kd.R_drew)); exact Kd.R_mono HO_12.out (fun _ hk => trivial), by repeat (first | (with_reducible first | exact HB.out | apply below_alloc | apply pw_below_drewN | apply below_drew1 | refine below_set ?_ GE562.out) | exact HB.out)⟩

end Go.Proofs.Ytgkbeejkbhhjkaa.X
