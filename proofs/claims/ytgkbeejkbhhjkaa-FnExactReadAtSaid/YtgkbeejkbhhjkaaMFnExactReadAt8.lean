/- Several texts of this session in one: X32, X33, X35, X37, X38, X39, X41, X43. -/
import Derived.Test.YtgkbeejkbhhjkaaMFnExactReadAt0
import Derived.Test.YtgkbeejkbhhjkaaMFnExactReadAt3
import Derived.Test.YtgkbeejkbhhjkaaMFnExactReadAt7
import Derived.Test.YtgkbeejkbhhjkaaMFnExactReadAt2
import Derived.Test.YtgkbeejkbhhjkaaMFnExactReadAt6
import Derived.Test.YtgkbeejkbhhjkaaMFnExactReadAt5
/- What the functions of the program come to, and that they do: written by this session's program wip/xprint.py out of the translation; parts named extern are typed by hand. -/
namespace Go.Proofs.Ytgkbeejkbhhjkaa.X
open Go.RowKit Go.Proofs.YtgkbeejkbhhjkaaW.PrintWords Go.Proofs.YtgkbeejkbhhjkaaW.PrintLast Go.Proofs.YtgkbeejkbhhjkaaW.PrintMore
attribute [local go_sem] max2_int min2_int max_two min_two max_three min_three max_four min_four   -- for this text's walks alone
set_option linter.unusedVariables false
set_option linter.unusedSimpArgs false

/-! ### impl_slotter_step: function 62 -/
/- EXTERN, by hand (wip/hand/slotall.py): a tick of the program's ring. -/
/-- The stations ahead of o have been seen to. -/
def slIm (J : List (S30)) (fah : Bool) (n t : Nat) (s : SlSt) : Nat → SlSt
  | 0 => s
  | o + 1 => slOne J fah (t : Int) ((o + (n - t % n)) % n) (o : Int) (slIm J fah n t s o)
theorem slIm_inv {J : List (S30)} {fah : Bool} {n t : Nat} {s : SlSt} (hn : 0 < n) (h : SlInv n J.length s) : ∀ o, o ≤ n → SlInv n J.length (slIm J fah n t s o)
  | 0, _ => h
  | o + 1, ho => slOne_inv (by omega) (slIm_inv hn h o (by omega)) (Nat.mod_lt _ hn)
/-- The program's ring behind so many ticks. -/
def slImTo (J : List (S30)) (fah : Bool) (n : Nat) : Nat → SlSt
  | 0 => slInit n J.length
  | t + 1 => slIm J fah n t (slImTo J fah n t) n
theorem slImTo_inv (J : List (S30)) (fah : Bool) (n : Nat) (hn : 0 < n) : ∀ t, SlInv n J.length (slImTo J fah n t)
  | 0 => slInit_inv n J.length
  | t + 1 => slIm_inv hn (slImTo_inv J fah n hn t) n (Nat.le_refl _)
set_option maxHeartbeats 16000000 in
set_option maxRecDepth 100000 in
theorem step_calls (g n : Nat) (fah : Bool) (J : List (S30)) (s : SlSt) (t : Nat) (w0 w : World) (hI : IsT w0 w g (n : Int) fah (t : Int) J s.1 s.2.1 s.2.2) (hB : Below w0.heap.size w0 w) (hn : 2 ≤ n ∧ n ≤ 12) (hj : J.length ≤ 20) (ht : t ≤ 10000) (hinv0 : SlInv n J.length s) :
    Calls Try.prog 62 #[.pointer (some ⟨g, 0, none⟩)] w fun e w' => e = .returned (.tuple #[]) ∧ IsT w0 w' g (n : Int) fah ((t + 1 : Nat) : Int) J (slIm J fah n t s n).1 (slIm J fah n t s n).2.1 (slIm J fah n t s n).2.2 ∧ Below w0.heap.size w0 w' := by
  have HI := Aside0.mk hI
  have HB := Aside0.mk hB
  have HN := Aside0.mk hn
  have HT := Aside0.mk ht
  have HJ := Aside0.mk hj
  have HV := Aside0.mk (fun o (ho : o ≤ n) => slIm_inv (J := J) (fah := fah) (n := n) (t := t) (by omega) hinv0 o ho)
  obtain ⟨A0, c0, v1, v2, v3, h1, h2, _⟩ := hI
  have HG := Aside0.mk h2
  have hc0 : w.cell? ⟨g, 0, none⟩ = some (.int .i64 (n : Int)) := (blk_cell h1 0).trans rfl
  clear hB hn hj ht hinv0 h1 h2
  go_enter Try.func62, Try.ntmps62
  go_wp2
  go_loopg [8] (n + 1) (fun kq v8 w' => ∃ o : Nat, kq + o = n + 1 ∧ o ≤ n ∧ v8 = .int .i64 (o : Int) ∧ Aside0 (IsT w0 w' g (n : Int) fah (t : Int) J (slIm J fah n t s o).1 (slIm J fah n t s o).2.1 (slIm J fah n t s o).2.2) ∧ Aside0 (Below w0.heap.size w0 w'))
  case atStart => exact ⟨0, by omega, by omega, rfl, HI, HB⟩
  case round =>
    clear HI HB hc0
    obtain ⟨o, hko, hon, rfl, HI, HB⟩ := hrel
    by_cases ho : o < n
    · have hb1 : decide ((o : Int) < (n : Int)) = true := decide_eq_true (by omega)
      have hb2 : decide (o < n) = true := decide_eq_true ho
      have HON := Aside0.mk ho
      have HON2 := Aside0.mk hon
      have HKO := Aside0.mk hko
      clear ho hon hko
      go_wp2_with (first | (go_at_call 74; (with_reducible refine (station_calls g n o fah J (slIm J fah n t s o) t w0 _ ?s1 ?s2 HN.out HJ.out HT.out HON.out (HV.out o HON2.out)).mono ?_); (case s1 => exact HI.out); (case s2 => exact HB.out); rintro e w7 ⟨rfl, hi, hb⟩; clear HI HB; have HI := Aside0.mk hi; have HB := Aside0.mk hb; clear hi hb) | ((with_reducible refine gate_callee (f := 74) rfl ?_); refine goesL_ (some 13) rfl rfl Try.func74 (by kernel_rfl) rfl #[.pointer (some ⟨g, 0, none⟩), .int .i64 (o : Int)] rfl (by (try simp only [List.map_toArray, List.map_cons, List.map_nil]); first | done | rfl) ?_; (with_reducible refine (station_calls g n o fah J (slIm J fah n t s o) t w0 _ ?s1 ?s2 HN.out HJ.out HT.out HON.out (HV.out o HON2.out)).mono ?_); (case s1 => exact HI.out); (case s2 => exact HB.out); rintro e w7 ⟨rfl, hi, hb⟩; clear HI HB; have HI := Aside0.mk hi; have HB := Aside0.mk hb; clear hi hb; refine ⟨_, rfl, ?_⟩))
      go_roundg (n - o)
      case measure => have := HKO.out; have := HON.out; omega
      case rel => exact ⟨o + 1, by have := HON.out; omega, by have := HON.out; omega, by have := HON.out; have := HN.out; first | rfl | (rw [wrapS (by omega) (by omega)]; rfl), HI, HB⟩
    · obtain rfl : o = n := by omega
      have hb1 : decide ((o : Int) < (o : Int)) = false := decide_eq_false (by omega)
      have hb2 : decide (o < o) = false := decide_eq_false ho
      obtain ⟨A1, c1, V1, V2, V3, h1, _⟩ := HI.out
      have hc3 : wr.cell? ⟨g, 3, none⟩ = some (.int .i64 (t : Int)) := (blk_cell h1 3).trans rfl
      have hf3 := blk_frozen h1 3
      obtain ⟨t1, ht1⟩ : ∃ q : Int, (t : Int) + 1 = q := ⟨_, rfl⟩
      have hw1 : IntKind.i64.wrap ((t : Int) + 1) = t1 := by rw [IntKind.wrap_i64, ← ht1]; have := HT.out; omega
      have HS := Aside0.mk (HI.out.tick1 t1)
      have HT1 := Aside0.mk (show ((t + 1 : Nat) : Int) = t1 by omega)
      clear ho h1 ht1
      go_wp2
      first | go_end0 | ((try simp only [Exit.inBlock, Exit.then]); refine bodyPost_ret (results_none rfl _ _ _) rfl ?_)
      rw [HT1.out]
      exact ⟨rfl, HS.out, HB.out.setCell (p := ⟨g, 3, none⟩) HG.out _⟩

/-! ### slices_Index_int_int: function 75 -/
def slices_Index_int_int.l0 : Nat → List Int → Int → Int → Int → Option (Int)
  | 0, _, _, _, _ => none
  | k + 1, x0, x1, x7, x8 => if x8 < x7 then (if 0 ≤ x8 then (if x8 < (x0.length : Int) then (if x1 = (rd x0 x8) then (some x8) else (slices_Index_int_int.l0 k x0 x1 x7 (wrap64 (x8 + 1)))) else (none)) else (none)) else (some (-1))
def slices_Index_int_int.f (k : Nat) (l0 : List Int) (a1 : Int) : Option (Int) := slices_Index_int_int.l0 k l0 a1 (l0.length : Int) 0
set_option maxHeartbeats 8000000 in
set_option maxRecDepth 100000 in
theorem slices_Index_int_int.calls (k : Nat) (A0 : Option Addr) (c0 : Nat) (l0 : List Int) (a1 : Int) (r : Int) (w : World) (hr0 : Kd.C (Kd.int .i64) w A0 l0.length l0) (hc0 : l0.length ≤ c0) (h : slices_Index_int_int.f k l0 a1 = some r) :
    Calls Try.prog 75 #[.slice A0 l0.length c0, .int .i64 a1] w fun e w' => e = .returned (.int .i64 r) ∧ Drawn0 w w' := by
  have HR0 := Aside0.mk hr0
  have HC0 := Aside0.mk hc0
  clear hr0 hc0
  have H : (slices_Index_int_int.l0 k l0 a1 (l0.length : Int) 0) = some r := h
  clear h
  have H' := Aside0.mk H
  clear H
  go_enter Try.func75, Try.ntmps75
  go_wp2
  go_loopg [8] k (fun kq v8 w' => ∃ (x8_1 : Int), v8 = .int .i64 x8_1 ∧ Aside0 (slices_Index_int_int.l0 kq l0 a1 (l0.length : Int) x8_1 = some r) ∧ Aside0 (kq ≤ k) ∧ Drawn0 w w')
  case atStart => exact ⟨(0), (by first | rfl | (simp; done) | (simp [*]; done)), H', ⟨Nat.le_refl _⟩, by repeat (first | exact Drawn0.refl _ | apply Drawn0.step)⟩
  case round =>
    clear H'
    try clear p2
    obtain ⟨x8_1, rfl, HA, HK1, ⟨m1, rfl⟩⟩ := hrel
    cases gk with
    | zero => exact absurd HA.out (by simp [slices_Index_int_int.l0])
    | succ k1 =>
      have H := HA.out
      clear HA
      simp only [slices_Index_int_int.l0] at H
      by_cases c3 : x8_1 < (l0.length : Int)
      · rw [if_pos c3] at H
        have c3b0 : decide (x8_1 < (l0.length : Int)) = true := decide_eq_true c3
        clear c3
        by_cases c4 : 0 ≤ x8_1
        · rw [if_pos c4] at H
          have c4b0 : decide (0 ≤ x8_1) = true := decide_eq_true c4
          clear c4
          by_cases c5 : x8_1 < (l0.length : Int)
          · rw [if_pos c5] at H
            have c5b0 : decide (x8_1 < (l0.length : Int)) = true := decide_eq_true c5
            clear c5
            by_cases c6 : a1 = (rd l0 x8_1)
            · rw [if_pos c6] at H
              have c6b0 : (a1 == (rd l0 x8_1)) = true := beq_iff_eq.mpr c6
              have c6b1 : (a1 != (rd l0 x8_1)) = false := bne_eq_false_iff_eq.mpr c6
              clear c6
              obtain rfl := Option.some.inj H
              have p369 : 0 ≤ (x8_1 : Int) := of_decide_eq_true (by first | (with_reducible assumption) | assumption)
              have q369 : x8_1 < (l0.length : Int) := of_decide_eq_true (by first | (with_reducible assumption) | assumption)
              obtain ⟨ad369, e369, hx369_0⟩ := Kd.at_int HR0.out x8_1 p369 q369
              cases e369
              replace p369 := eq_true p369
              replace q369 := eq_true q369
              go_wp2
              go_ret
              exact ⟨by first | rfl | (simp; done) | (simp [*]; done), by repeat (first | exact Drawn0.refl _ | apply Drawn0.step)⟩
            · rw [if_neg c6] at H
              have c6b0 : (a1 == (rd l0 x8_1)) = false := beq_eq_false_iff_ne.mpr c6
              have c6b1 : (a1 != (rd l0 x8_1)) = true := bne_iff_ne.mpr c6
              have H' := Aside0.mk H
              clear H
              have p369 : 0 ≤ (x8_1 : Int) := of_decide_eq_true (by first | (with_reducible assumption) | assumption)
              have q369 : x8_1 < (l0.length : Int) := of_decide_eq_true (by first | (with_reducible assumption) | assumption)
              obtain ⟨ad369, e369, hx369_0⟩ := Kd.at_int HR0.out x8_1 p369 q369
              cases e369
              replace p369 := eq_true p369
              replace q369 := eq_true q369
              go_wp2
              go_roundg k1
              case measure => have := HK1.out; omega
              case rel => exact ⟨(wrap64 (x8_1 + 1)), (by first | rfl | (simp; done) | (simp [*]; done)), H', ⟨by have := HK1.out; omega⟩, by repeat (first | exact Drawn0.refl _ | apply Drawn0.step)⟩
          · rw [if_neg c5] at H
            exact absurd H (by simp)
        · rw [if_neg c4] at H
          exact absurd H (by simp)
      · rw [if_neg c3] at H
        have c3b0 : decide (x8_1 < (l0.length : Int)) = false := decide_eq_false c3
        clear c3
        obtain rfl := Option.some.inj H
        go_wp2
        go_ret
        exact ⟨by first | rfl | (simp; done) | (simp [*]; done), by repeat (first | exact Drawn0.refl _ | apply Drawn0.step)⟩

/-! ### slices_Contains_int_int: function 63 -/
def slices_Contains_int_int.f (k : Nat) (l0 : List Int) (a1 : Int) : Option (Bool) := (slices_Index_int_int.f k l0 a1).bind fun t370 => (some (decide (t370 ≥ 0)))
set_option maxHeartbeats 8000000 in
set_option maxRecDepth 100000 in
theorem slices_Contains_int_int.calls (k : Nat) (A0 : Option Addr) (c0 : Nat) (l0 : List Int) (a1 : Int) (r : Bool) (w : World) (hr0 : Kd.C (Kd.int .i64) w A0 l0.length l0) (hc0 : l0.length ≤ c0) (h : slices_Contains_int_int.f k l0 a1 = some r) :
    Calls Try.prog 63 #[.slice A0 l0.length c0, .int .i64 a1] w fun e w' => e = .returned (.bool r) ∧ Drawn0 w w' := by
  have HR0 := Aside0.mk hr0
  have HC0 := Aside0.mk hc0
  clear hr0 hc0
  have H : ((slices_Index_int_int.f k l0 a1).bind fun t370 => (some (decide (t370 ≥ 0)))) = some r := h
  clear h
  replace H := Option.bind_eq_some_iff.mp H
  obtain ⟨t370, A30, H⟩ := H
  replace H : (some (decide (t370 ≥ 0))) = some r := H
  have A3 := Aside0.mk A30
  clear A30
  obtain rfl := Option.some.inj H
  go_enter Try.func63, Try.ntmps63
  go_wp2_with (first | ((with_reducible refine gate_callee (f := 75) rfl ?_); refine goesL_ (some 7) rfl rfl Try.func75 (by kernel_rfl) rfl #[.slice A0 l0.length c0, .int .i64 a1] rfl (by (try simp only [List.map_toArray, List.map_cons, List.map_nil]); first | done | rfl | (simp only [List.length_drop, List.length_take]; rfl)) ?_; (with_reducible refine (slices_Index_int_int.calls k _ _ l0 a1 t370 _ ?side1 ?side2 A3.out).mono ?_); (case side1 => repeat (first | exact HR0.out | (with_reducible refine Kd.C_alloc ?_ _) | (with_reducible refine Kd.C_drewN ?_ _) | (with_reducible refine Kd.C_drew ?_))); (case side2 => exact HC0.out); rintro e w' ⟨rfl, ⟨nd, rfl⟩⟩; refine ⟨_, rfl, ?_⟩))
  go_ret
  exact ⟨by first | rfl | (simp; done) | (simp [*]; done), by repeat (first | exact Drawn0.refl _ | apply Drawn0.step)⟩

end Go.Proofs.Ytgkbeejkbhhjkaa.X

/- What the functions of the program come to, and that they do: written by this session's program wip/xprint.py out of the translation; parts named extern are typed by hand. -/
namespace Go.Proofs.Ytgkbeejkbhhjkaa.X
open Go.RowKit Go.Proofs.YtgkbeejkbhhjkaaW.PrintWords Go.Proofs.YtgkbeejkbhhjkaaW.PrintLast Go.Proofs.YtgkbeejkbhhjkaaW.PrintMore
attribute [local go_sem] max2_int min2_int max_two min_two max_three min_three max_four min_four   -- for this text's walks alone
set_option linter.unusedVariables false
set_option linter.unusedSimpArgs false

/-! ### impl_FullTicks: function 35 -/
/- EXTERN, by hand (wip/hand/slotall.py): the ticks at which all slots are full. -/
end Go.Proofs.Ytgkbeejkbhhjkaa.X

/- What the functions of the program come to, and that they do: written by this session's program wip/xprint.py out of the translation; parts named extern are typed by hand. -/
namespace Go.Proofs.Ytgkbeejkbhhjkaa.X
open Go.RowKit Go.Proofs.YtgkbeejkbhhjkaaW.PrintWords Go.Proofs.YtgkbeejkbhhjkaaW.PrintLast Go.Proofs.YtgkbeejkbhhjkaaW.PrintMore
attribute [local go_sem] max2_int min2_int max_two min_two max_three min_three max_four min_four   -- for this text's walks alone
set_option linter.unusedVariables false
set_option linter.unusedSimpArgs false

/-! ### spec_slEnd: function 64 -/
/- EXTERN, by hand (wip/hand/slotall.py): the reference's ring behind so many ticks. -/
set_option maxHeartbeats 16000000 in
set_option maxRecDepth 100000 in
theorem slEnd_calls (A0 : Option Addr) (c0 n : Nat) (fah : Bool) (J : List (S30)) (T : Nat) (w0 w : World) (hC : Kd.C k30 w0 A0 J.length J) (hB : Below w0.heap.size w0 w) (hn : 2 ≤ n ∧ n ≤ 12) (hj : J.length ≤ 20) (hT : T ≤ 10000) :
    Calls Try.prog 64 #[.agg #[.int .i64 (n : Int), .bool fah], .slice A0 J.length c0, .int .i64 (T : Int)] w fun e w' => ∃ g, e = .returned (.pointer (some ⟨g, 0, none⟩)) ∧ IsR w0 w' g (n : Int) fah J (slRunTo J fah n T).1 (slRunTo J fah n T).2.1 (slRunTo J fah n T).2.2 ∧ Below w0.heap.size w0 w' := by
  have HC := Aside0.mk hC
  have HB := Aside0.mk hB
  have HN := Aside0.mk hn
  have HJ := Aside0.mk hj
  have HT := Aside0.mk hT
  clear hC hB hn hj hT
  go_enter Try.func64, Try.ntmps64
  go_wp2_with (first | ((with_reducible refine gate_dst (N := 3) rfl ?_); refine box_event ?hg (N := 3) ?hd (cs := #[.int .i64 (n : Int), .bool fah]) (t := 28) ?hr ?_; (case hd => rfl); (case hg => rfl); (case hr => first | (go_simp; done) | (go_simp; rfl)); intro b hg w3 hbox hb; have HB3 := Aside0.mk (below_step (by repeat (first | (with_reducible first | exact HB.out | apply below_alloc | apply pw_below_drewN | apply below_drew1) | exact HB.out)) hb); clear HB; have HB := HB3; clear HB3; have hk0 : w3.cell? ⟨b, 0, none⟩ = some (.int .i64 (n : Int)) := (blk_cell hbox 0).trans rfl; have hk1 : w3.cell? ⟨b, 1, none⟩ = some (.bool fah) := (blk_cell hbox 1).trans rfl; clear hg hb hbox) | (go_at_call 57; (with_reducible refine (slNew_calls A0 c0 n fah J w0 _ HC.out ?s1 HN.out HJ.out).mono ?_); (case s1 => exact (by repeat (first | (with_reducible first | exact HB.out | apply below_alloc | apply pw_below_drewN | apply below_drew1) | exact HB.out))); rintro e w6 ⟨g, rfl, hi, hb⟩; have HI := Aside0.mk hi; clear HB hi; have HB := Aside0.mk hb; clear hb) | ((with_reducible refine gate_callee (f := 57) rfl ?_); refine goesL_ (some 11) rfl rfl Try.func57 (by kernel_rfl) rfl #[.agg #[.int .i64 (n : Int), .bool fah], .slice A0 J.length c0] rfl (by (try simp only [List.map_toArray, List.map_cons, List.map_nil]); first | done | rfl) ?_; (with_reducible refine (slNew_calls A0 c0 n fah J w0 _ HC.out ?s1 HN.out HJ.out).mono ?_); (case s1 => exact (by repeat (first | (with_reducible first | exact HB.out | apply below_alloc | apply pw_below_drewN | apply below_drew1) | exact HB.out))); rintro e w6 ⟨g, rfl, hi, hb⟩; have HI := Aside0.mk hi; clear HB hi; have HB := Aside0.mk hb; clear hb; refine ⟨_, rfl, ?_⟩))
  go_loopg [8] (T + 1) (fun kq v8 w' => ∃ k : Nat, kq + k = T + 1 ∧ k ≤ T ∧ v8 = .int .i64 (k : Int) ∧ Aside0 (IsR w0 w' g (n : Int) fah J (slRunTo J fah n k).1 (slRunTo J fah n k).2.1 (slRunTo J fah n k).2.2) ∧ Aside0 (Below w0.heap.size w0 w'))
  case atStart => exact ⟨0, by omega, by omega, rfl, HI, HB⟩
  case round =>
    clear HI HB hk0 hk1
    obtain ⟨k, hkk, hkT, rfl, HI, HB⟩ := hrel
    by_cases hk : k < T
    · have hb1 : decide ((k : Int) < (T : Int)) = true := decide_eq_true (by omega)
      have hb2 : decide (k < T) = true := decide_eq_true hk
      have HKL := Aside0.mk hk
      have HKK := Aside0.mk hkk
      have HKT := Aside0.mk (show 0 ≤ (k : Int) ∧ (k : Int) ≤ 100000 by have := HT.out; omega)
      clear hk hkk hkT
      go_wp2_with (first | (go_at_call 58; (with_reducible refine (tick_calls g n fah J (slRunTo J fah n k) (k : Int) w0 _ ?s1 ?s2 ⟨by have := HN.out; omega, by have := HN.out; omega⟩ HJ.out HKT.out (slRunTo_inv J fah n k)).mono ?_); (case s1 => exact HI.out); (case s2 => exact HB.out); rintro e w7 ⟨rfl, hi, hb⟩; clear HI HB; have HI := Aside0.mk hi; have HB := Aside0.mk hb; clear hi hb) | ((with_reducible refine gate_callee (f := 58) rfl ?_); refine goesL_ (some 19) rfl rfl Try.func58 (by kernel_rfl) rfl #[.pointer (some ⟨g, 0, none⟩), .int .i64 (k : Int)] rfl (by (try simp only [List.map_toArray, List.map_cons, List.map_nil]); first | done | rfl) ?_; (with_reducible refine (tick_calls g n fah J (slRunTo J fah n k) (k : Int) w0 _ ?s1 ?s2 ⟨by have := HN.out; omega, by have := HN.out; omega⟩ HJ.out HKT.out (slRunTo_inv J fah n k)).mono ?_); (case s1 => exact HI.out); (case s2 => exact HB.out); rintro e w7 ⟨rfl, hi, hb⟩; clear HI HB; have HI := Aside0.mk hi; have HB := Aside0.mk hb; clear hi hb; refine ⟨_, rfl, ?_⟩))
      go_roundg (T - k)
      case measure => have := HKK.out; have := HKL.out; omega
      case rel => exact ⟨k + 1, by have := HKL.out; omega, by have := HKL.out; omega, by have := HKL.out; have := HT.out; first | rfl | (rw [wrapS (by omega) (by omega)]; rfl), HI, HB⟩
    · obtain rfl : k = T := by omega
      have hb1 : decide ((k : Int) < (k : Int)) = false := decide_eq_false (by omega)
      have hb2 : decide (k < k) = false := decide_eq_false hk
      clear hk
      go_wp2
      go_ret
      exact ⟨g, rfl, HI.out, HB.out⟩

/-! ### spec_SlotsAt: function 36 -/
/- EXTERN, by hand (wip/hand/slotall.py): the slots behind a tick. -/
/-! ### impl_SlotsAt: function 37 -/
/- EXTERN, by hand (wip/hand/slotall.py): the slots behind a tick. -/
end Go.Proofs.Ytgkbeejkbhhjkaa.X

/- What the functions of the program come to, and that they do: written by this session's program wip/xprint.py out of the translation; parts named extern are typed by hand. -/
namespace Go.Proofs.Ytgkbeejkbhhjkaa.X
open Go.RowKit Go.Proofs.YtgkbeejkbhhjkaaW.PrintWords Go.Proofs.YtgkbeejkbhhjkaaW.PrintLast Go.Proofs.YtgkbeejkbhhjkaaW.PrintMore
attribute [local go_sem] max2_int min2_int max_two min_two max_three min_three max_four min_four   -- for this text's walks alone
set_option linter.unusedVariables false
set_option linter.unusedSimpArgs false

/-! ### spec_slTicks: function 76 -/
def spec_slTicks.f (a0_0 : Int) (a0_1 : Bool) (l1 : List (S30)) : Option (Int) := if (l1.length : Int) = 0 then (some 0) else (if 0 ≤ (wrap64 ((l1.length : Int) - 1)) then (if (wrap64 ((l1.length : Int) - 1)) < (l1.length : Int) then (some (wrap64 (((rd_T30 l1 (wrap64 ((l1.length : Int) - 1))).f0) + (wrap64 ((wrap64 (2 * a0_0)) * (wrap64 ((l1.length : Int) + 1))))))) else (none)) else (none))
set_option maxHeartbeats 8000000 in
set_option maxRecDepth 100000 in
theorem spec_slTicks.calls (a0_0 : Int) (a0_1 : Bool) (A1 : Option Addr) (c1 : Nat) (l1 : List (S30)) (r : Int) (w : World) (hr1 : Kd.C k30 w A1 l1.length l1) (hc1 : l1.length ≤ c1) (h : spec_slTicks.f a0_0 a0_1 l1 = some r) :
    Calls Try.prog 76 #[.agg #[.int .i64 a0_0, .bool a0_1], .slice A1 l1.length c1] w fun e w' => e = .returned (.int .i64 r) ∧ Below w.heap.size w w' := by
  have hu28 := Try.underlying28
  have HR1 := Aside0.mk hr1
  have HC1 := Aside0.mk hc1
  clear hr1 hc1
  have HB := Aside0.mk (Below.refl w.heap.size w)
  have H : (if (l1.length : Int) = 0 then (some 0) else (if 0 ≤ (wrap64 ((l1.length : Int) - 1)) then (if (wrap64 ((l1.length : Int) - 1)) < (l1.length : Int) then (some (wrap64 (((rd_T30 l1 (wrap64 ((l1.length : Int) - 1))).f0) + (wrap64 ((wrap64 (2 * a0_0)) * (wrap64 ((l1.length : Int) + 1))))))) else (none)) else (none))) = some r := h
  clear h
  by_cases c3 : (l1.length : Int) = 0
  · rw [if_pos c3] at H
    have c3b0 : ((l1.length : Int) == 0) = true := beq_iff_eq.mpr c3
    have c3b1 : ((l1.length : Int) != 0) = false := bne_eq_false_iff_eq.mpr c3
    clear c3
    obtain rfl := Option.some.inj H
    go_enter Try.func76, Try.ntmps76
    go_wp2_with (first | ((with_reducible refine gate_dst (N := 2) rfl ?_); refine box_event ?hg (N := 2) ?hd (cs := #[.int .i64 a0_0, .bool a0_1]) (t := 28) ?hr ?_; (case hd => rfl); (case hg => rfl); (case hr => first | (go_simp; done) | (go_simp; rfl)); intro gb433 hg w4 hbox hb; have n0_ := Aside0.mk (below_step (by repeat (first | (with_reducible first | exact HB.out | apply below_alloc | apply pw_below_drewN | apply below_drew1) | exact HB.out)) hb); have n1_ := Aside0.mk (hbox); have n2_ := Aside0.mk ((by rw [hg]; exact (below_size (by repeat (first | (with_reducible first | exact HB.out | apply below_alloc | apply pw_below_drewN | apply below_drew1) | exact HB.out))) : w.heap.size ≤ gb433)); have n3_ := Aside0.mk ((by rw [hg]; exact (below_size (by repeat (first | (with_reducible first | exact HB.out | apply below_alloc | apply pw_below_drewN | apply below_drew1) | exact HB.out))) : w.heap.size ≤ gb433)); clear HB; have HB := n0_; have BK433 := n1_; have GW433 := n2_; have GE433 := n3_; clear n0_ n1_ n2_ n3_; clear hb hbox hg))
    repeat (go_quiet (first | ((with_reducible refine gate_dst (N := 2) rfl ?_); refine box_event ?hg (N := 2) ?hd (cs := #[.int .i64 a0_0, .bool a0_1]) (t := 28) ?hr ?_; (case hd => rfl); (case hg => rfl); (case hr => first | (go_simp; done) | (go_simp; rfl)); intro gb433 hg w4 hbox hb; have n0_ := Aside0.mk (below_step (by repeat (first | (with_reducible first | exact HB.out | apply below_alloc | apply pw_below_drewN | apply below_drew1) | exact HB.out)) hb); have n1_ := Aside0.mk (hbox); have n2_ := Aside0.mk ((by rw [hg]; exact (below_size (by repeat (first | (with_reducible first | exact HB.out | apply below_alloc | apply pw_below_drewN | apply below_drew1) | exact HB.out))) : w.heap.size ≤ gb433)); have n3_ := Aside0.mk ((by rw [hg]; exact (below_size (by repeat (first | (with_reducible first | exact HB.out | apply below_alloc | apply pw_below_drewN | apply below_drew1) | exact HB.out))) : w.heap.size ≤ gb433)); clear HB; have HB := n0_; have BK433 := n1_; have GW433 := n2_; have GE433 := n3_; clear n0_ n1_ n2_ n3_; clear hb hbox hg)); try go_wp2_with (first | ((with_reducible refine gate_dst (N := 2) rfl ?_); refine box_event ?hg (N := 2) ?hd (cs := #[.int .i64 a0_0, .bool a0_1]) (t := 28) ?hr ?_; (case hd => rfl); (case hg => rfl); (case hr => first | (go_simp; done) | (go_simp; rfl)); intro gb433 hg w4 hbox hb; have n0_ := Aside0.mk (below_step (by repeat (first | (with_reducible first | exact HB.out | apply below_alloc | apply pw_below_drewN | apply below_drew1) | exact HB.out)) hb); have n1_ := Aside0.mk (hbox); have n2_ := Aside0.mk ((by rw [hg]; exact (below_size (by repeat (first | (with_reducible first | exact HB.out | apply below_alloc | apply pw_below_drewN | apply below_drew1) | exact HB.out))) : w.heap.size ≤ gb433)); have n3_ := Aside0.mk ((by rw [hg]; exact (below_size (by repeat (first | (with_reducible first | exact HB.out | apply below_alloc | apply pw_below_drewN | apply below_drew1) | exact HB.out))) : w.heap.size ≤ gb433)); clear HB; have HB := n0_; have BK433 := n1_; have GW433 := n2_; have GE433 := n3_; clear n0_ n1_ n2_ n3_; clear hb hbox hg)))
    go_ret
    exact ⟨by first | rfl | (simp [errW_none, errW_some] <;> rfl) | (simp [*, errW_none, errW_some] <;> rfl), by repeat (first | (with_reducible first | exact HB.out | apply below_alloc | apply pw_below_drewN | apply below_drew1 | refine below_set ?_ GE433.out) | exact HB.out)⟩
  · rw [if_neg c3] at H
    have c3b0 : ((l1.length : Int) == 0) = false := beq_eq_false_iff_ne.mpr c3
    have c3b1 : ((l1.length : Int) != 0) = true := bne_iff_ne.mpr c3
    have c3b2 : ¬ (l1 = []) := fun h_ => c3 (by rw [h_]; rfl)
    obtain ⟨ji5, hji5⟩ : ∃ j_ : Int, (wrap64 ((l1.length : Int) - 1)) = j_ := ⟨_, rfl⟩
    replace H : (if 0 ≤ (ji5) then (if (ji5) < (l1.length : Int) then (some (wrap64 (((rd_T30 l1 (ji5)).f0) + (wrap64 ((wrap64 (2 * a0_0)) * (wrap64 ((l1.length : Int) + 1))))))) else (none)) else (none)) = some r := by first | (rw [hji5] at H; exact H) | (simp only [hji5] at H ⊢; exact H)
    have hji5w : (IntKind.i64.wrap ((l1.length : Int) - 1)) = ji5 := (i64_w _).trans hji5
    by_cases c6 : 0 ≤ (ji5)
    · rw [if_pos c6] at H
      have c6b0 : decide (0 ≤ (ji5)) = true := decide_eq_true c6
      clear c6
      by_cases c7 : (ji5) < (l1.length : Int)
      · rw [if_pos c7] at H
        have c7b0 : decide ((ji5) < (l1.length : Int)) = true := decide_eq_true c7
        clear c7
        obtain rfl := Option.some.inj H
        go_enter Try.func76, Try.ntmps76
        go_wp2_with (first | ((with_reducible refine gate_dst (N := 2) rfl ?_); refine box_event ?hg (N := 2) ?hd (cs := #[.int .i64 a0_0, .bool a0_1]) (t := 28) ?hr ?_; (case hd => rfl); (case hg => rfl); (case hr => first | (go_simp; done) | (go_simp; rfl)); intro gb433 hg w8 hbox hb; have n0_ := Aside0.mk (below_step (by repeat (first | (with_reducible first | exact HB.out | apply below_alloc | apply pw_below_drewN | apply below_drew1) | exact HB.out)) hb); have n1_ := Aside0.mk (hbox); have n2_ := Aside0.mk ((by rw [hg]; exact (below_size (by repeat (first | (with_reducible first | exact HB.out | apply below_alloc | apply pw_below_drewN | apply below_drew1) | exact HB.out))) : w.heap.size ≤ gb433)); have n3_ := Aside0.mk ((by rw [hg]; exact (below_size (by repeat (first | (with_reducible first | exact HB.out | apply below_alloc | apply pw_below_drewN | apply below_drew1) | exact HB.out))) : w.heap.size ≤ gb433)); clear HB; have HB := n0_; have BK433 := n1_; have GW433 := n2_; have GE433 := n3_; clear n0_ n1_ n2_ n3_; clear hb hbox hg; have p434 : 0 ≤ ((ji5) : Int) := of_decide_eq_true (by first | (with_reducible assumption) | assumption); have q434 : (ji5) < (l1.length : Int) := of_decide_eq_true (by first | (with_reducible assumption) | assumption); obtain ⟨ad434, e434, hx434_0, hx434_1, hx434_2⟩ := at_T30 HR1.out (ji5) p434 q434; cases e434; replace hx434_0 := (HB.out.cell (World.block_lt_of_cell? w _ hx434_0)).trans hx434_0; replace hx434_1 := (HB.out.cell (World.block_lt_of_cell? w _ hx434_1)).trans hx434_1; replace hx434_2 := (HB.out.cell (World.block_lt_of_cell? w _ hx434_2)).trans hx434_2; replace p434 := eq_true p434; replace q434 := eq_true q434; have hcz9_0 : w8.cell? ⟨gb433, 0, none⟩ = some (.int .i64 a0_0) := (blk_cell BK433.out 0).trans rfl; have hcz9_1 : w8.cell? ⟨gb433, 1, none⟩ = some (.bool a0_1) := (blk_cell BK433.out 1).trans rfl; have hfz9_0 := blk_frozen BK433.out 0; have hfz9_1 := blk_frozen BK433.out 1))
        repeat (go_quiet (first | ((with_reducible refine gate_dst (N := 2) rfl ?_); refine box_event ?hg (N := 2) ?hd (cs := #[.int .i64 a0_0, .bool a0_1]) (t := 28) ?hr ?_; (case hd => rfl); (case hg => rfl); (case hr => first | (go_simp; done) | (go_simp; rfl)); intro gb433 hg w8 hbox hb; have n0_ := Aside0.mk (below_step (by repeat (first | (with_reducible first | exact HB.out | apply below_alloc | apply pw_below_drewN | apply below_drew1) | exact HB.out)) hb); have n1_ := Aside0.mk (hbox); have n2_ := Aside0.mk ((by rw [hg]; exact (below_size (by repeat (first | (with_reducible first | exact HB.out | apply below_alloc | apply pw_below_drewN | apply below_drew1) | exact HB.out))) : w.heap.size ≤ gb433)); have n3_ := Aside0.mk ((by rw [hg]; exact (below_size (by repeat (first | (with_reducible first | exact HB.out | apply below_alloc | apply pw_below_drewN | apply below_drew1) | exact HB.out))) : w.heap.size ≤ gb433)); clear HB; have HB := n0_; have BK433 := n1_; have GW433 := n2_; have GE433 := n3_; clear n0_ n1_ n2_ n3_; clear hb hbox hg; have p434 : 0 ≤ ((ji5) : Int) := of_decide_eq_true (by first | (with_reducible assumption) | assumption); have q434 : (ji5) < (l1.length : Int) := of_decide_eq_true (by first | (with_reducible assumption) | assumption); obtain ⟨ad434, e434, hx434_0, hx434_1, hx434_2⟩ := at_T30 HR1.out (ji5) p434 q434; cases e434; replace hx434_0 := (HB.out.cell (World.block_lt_of_cell? w _ hx434_0)).trans hx434_0; replace hx434_1 := (HB.out.cell (World.block_lt_of_cell? w _ hx434_1)).trans hx434_1; replace hx434_2 := (HB.out.cell (World.block_lt_of_cell? w _ hx434_2)).trans hx434_2; replace p434 := eq_true p434; replace q434 := eq_true q434; have hcz9_0 : w8.cell? ⟨gb433, 0, none⟩ = some (.int .i64 a0_0) := (blk_cell BK433.out 0).trans rfl; have hcz9_1 : w8.cell? ⟨gb433, 1, none⟩ = some (.bool a0_1) := (blk_cell BK433.out 1).trans rfl; have hfz9_0 := blk_frozen BK433.out 0; have hfz9_1 := blk_frozen BK433.out 1)); try go_wp2_with (first | ((with_reducible refine gate_dst (N := 2) rfl ?_); refine box_event ?hg (N := 2) ?hd (cs := #[.int .i64 a0_0, .bool a0_1]) (t := 28) ?hr ?_; (case hd => rfl); (case hg => rfl); (case hr => first | (go_simp; done) | (go_simp; rfl)); intro gb433 hg w8 hbox hb; have n0_ := Aside0.mk (below_step (by repeat (first | (with_reducible first | exact HB.out | apply below_alloc | apply pw_below_drewN | apply below_drew1) | exact HB.out)) hb); have n1_ := Aside0.mk (hbox); have n2_ := Aside0.mk ((by rw [hg]; exact (below_size (by repeat (first | (with_reducible first | exact HB.out | apply below_alloc | apply pw_below_drewN | apply below_drew1) | exact HB.out))) : w.heap.size ≤ gb433)); have n3_ := Aside0.mk ((by rw [hg]; exact (below_size (by repeat (first | (with_reducible first | exact HB.out | apply below_alloc | apply pw_below_drewN | apply below_drew1) | exact HB.out))) : w.heap.size ≤ gb433)); clear HB; have HB := n0_; have BK433 := n1_; have GW433 := n2_; have GE433 := n3_; clear n0_ n1_ n2_ n3_; clear hb hbox hg; have p434 : 0 ≤ ((ji5) : Int) := of_decide_eq_true (by first | (with_reducible assumption) | assumption); have q434 : (ji5) < (l1.length : Int) := of_decide_eq_true (by first | (with_reducible assumption) | assumption); obtain ⟨ad434, e434, hx434_0, hx434_1, hx434_2⟩ := at_T30 HR1.out (ji5) p434 q434; cases e434; replace hx434_0 := (HB.out.cell (World.block_lt_of_cell? w _ hx434_0)).trans hx434_0; replace hx434_1 := (HB.out.cell (World.block_lt_of_cell? w _ hx434_1)).trans hx434_1; replace hx434_2 := (HB.out.cell (World.block_lt_of_cell? w _ hx434_2)).trans hx434_2; replace p434 := eq_true p434; replace q434 := eq_true q434; have hcz9_0 : w8.cell? ⟨gb433, 0, none⟩ = some (.int .i64 a0_0) := (blk_cell BK433.out 0).trans rfl; have hcz9_1 : w8.cell? ⟨gb433, 1, none⟩ = some (.bool a0_1) := (blk_cell BK433.out 1).trans rfl; have hfz9_0 := blk_frozen BK433.out 0; have hfz9_1 := blk_frozen BK433.out 1)))
        go_ret
        exact ⟨by first | rfl | (simp [errW_none, errW_some] <;> rfl) | (simp only [← hji5]; first | rfl | (simp [errW_none, errW_some] <;> rfl)) | (simp [*, errW_none, errW_some] <;> rfl), by repeat (first | (with_reducible first | exact HB.out | apply below_alloc | apply pw_below_drewN | apply below_drew1 | refine below_set ?_ GE433.out) | exact HB.out)⟩
      · rw [if_neg c7] at H
        exact absurd H (by simp)
    · rw [if_neg c6] at H
      exact absurd H (by simp)

/-! ### spec_slWhole: function 65 -/
/- EXTERN, by hand (wip/hand/slotall.py): the reference's ring behind all messages. -/
set_option maxHeartbeats 16000000 in
set_option maxRecDepth 100000 in
theorem slWhole_calls (A1 : Option Addr) (c1 n : Nat) (fah : Bool) (l1 : List (S30)) (T : Nat) (w : World) (hr1 : Kd.C k30 w A1 l1.length l1) (hc1 : l1.length ≤ c1) (hn : 2 ≤ n ∧ n ≤ 12) (hj : l1.length ≤ 20) (hT : T ≤ 10000) (hTT : spec_slTicks.f (n : Int) fah l1 = some (T : Int)) :
    Calls Try.prog 65 #[.agg #[.int .i64 (n : Int), .bool fah], .slice A1 l1.length c1] w fun e w' => ∃ g wx, e = .returned (.pointer (some ⟨g, 0, none⟩)) ∧ IsR wx w' g (n : Int) fah l1 (slRunTo l1 fah n T).1 (slRunTo l1 fah n T).2.1 (slRunTo l1 fah n T).2.2 ∧ w.heap.size ≤ wx.heap.size ∧ Below w.heap.size w w' := by
  have HC := Aside0.mk hr1
  have HCC := Aside0.mk hc1
  have HB := Aside0.mk (Below.refl w.heap.size w)
  have HN := Aside0.mk hn
  have HJ := Aside0.mk hj
  have HT := Aside0.mk hT
  have HTT := Aside0.mk hTT
  clear hr1 hc1 hn hj hT hTT
  go_enter Try.func65, Try.ntmps65
  go_upto_region 1 with (first | ((with_reducible refine gate_dst (N := 2) rfl ?_); refine box_event ?hg (N := 2) ?hd (cs := #[.int .i64 (n : Int), .bool fah]) (t := 28) ?hr ?_; (case hd => rfl); (case hg => rfl); (case hr => first | (go_simp; done) | (go_simp; rfl)); intro b hg w3 hbox hb; have HB3 := Aside0.mk (below_step (by repeat (first | (with_reducible first | exact HB.out | apply below_alloc | apply pw_below_drewN | apply below_drew1) | exact HB.out)) hb); clear HB; have HB := HB3; clear HB3; have hk0 : w3.cell? ⟨b, 0, none⟩ = some (.int .i64 (n : Int)) := (blk_cell hbox 0).trans rfl; have hk1 : w3.cell? ⟨b, 1, none⟩ = some (.bool fah) := (blk_cell hbox 1).trans rfl; clear hg hb hbox))
  go_cut [4] (fun v4 wc => ∃ g wx, v4 = .pointer (some ⟨g, 0, none⟩) ∧ Aside0 (w.heap.size ≤ wx.heap.size) ∧ Aside0 (IsR wx wc g (n : Int) fah l1 (slRunTo l1 fah n T).1 (slRunTo l1 fah n T).2.1 (slRunTo l1 fah n T).2.2) ∧ Aside0 (Below w.heap.size w wc))
  case first =>
    go_region_held3 (fun w' => w'.cell? ⟨b, 0, none⟩ = some (.int .i64 (n : Int)) ∧ w'.cell? ⟨b, 1, none⟩ = some (.bool fah)) (first | go_keep | (go_split_ands; exact ⟨HKA.out, HKB.out⟩)) ((first | (go_at_call 76; refine (spec_slTicks.calls (n : Int) fah A1 c1 l1 (T : Int) _ ?c1 HCC.out HTT.out).mono ?_; (case c1 => repeat (first | exact (Kd.C_below HC.out HB.out) | (with_reducible refine Kd.C_alloc ?_ _) | (with_reducible refine Kd.C_drewN ?_ _) | (with_reducible refine Kd.C_drew ?_))); rintro e w9 ⟨rfl, hb9⟩; have HBW := Aside0.mk (below_step (show Below w3.heap.size w3 _ from by repeat (first | (with_reducible exact Below.refl _ _) | apply below_alloc | apply pw_below_drewN | apply below_drew1)) hb9); have HKA := Aside0.mk (pw_cell_below HBW.out hk0); have HKB := Aside0.mk (pw_cell_below HBW.out hk1); have HB9 := Aside0.mk (below_step HB.out HBW.out); clear hb9) | (go_at_call 64; refine (slEnd_calls A1 c1 n fah l1 T _ _ ?c1 (Below.refl _ _) HN.out HJ.out HT.out).mono ?_; (case c1 => repeat (first | exact (Kd.C_below HC.out HB9.out) | (with_reducible refine Kd.C_alloc ?_ _) | (with_reducible refine Kd.C_drewN ?_ _) | (with_reducible refine Kd.C_drew ?_))); rintro e w6 ⟨g, rfl, hi, hb⟩; have HI := Aside0.mk hi; have HBX := Aside0.mk (below_step (show Below w9.heap.size w9 _ from by repeat (first | (with_reducible exact Below.refl _ _) | apply below_alloc | apply pw_below_drewN | apply below_drew1)) hb); have HB6 := Aside0.mk (below_step HB9.out HBX.out); have HLE := Aside0.mk (below_size (show Below w.heap.size w _ from (by repeat (first | exact HB9.out | apply pw_below_drewN | apply below_drew1)))); have HKC := HKA; have HKD := HKB; clear HKA HKB; have HKA := Aside0.mk (pw_cell_below HBX.out HKC.out); have HKB := Aside0.mk (pw_cell_below HBX.out HKD.out); clear hi hb)))
    all_goals (try go_wp2_with fail)
    all_goals go_meet
    all_goals exact ⟨g, _, rfl, HLE, ⟨by repeat (first | exact HI.out | apply IsR.drewN | apply IsR.drew)⟩, ⟨by repeat (first | exact HB6.out | apply pw_below_drewN | apply below_drew1)⟩⟩
  case rest =>
    clear hk0 hk1 HB
    obtain ⟨g, wx, rfl, HLE, HI, HB⟩ := hcut
    go_wp2
    go_ret
    exact ⟨g, wx, rfl, HI.out, HLE.out, HB.out⟩

/-! ### spec_l1Most: function 66 -/
/-! ### spec_LastRead: function 38 -/
/- EXTERN, by hand (wip/hand/slotall.py): when the last message is read. -/
end Go.Proofs.Ytgkbeejkbhhjkaa.X

/- What the functions of the program come to, and that they do: written by this session's program wip/xprint.py out of the translation; parts named extern are typed by hand. -/
namespace Go.Proofs.Ytgkbeejkbhhjkaa.X
open Go.RowKit Go.Proofs.YtgkbeejkbhhjkaaW.PrintWords Go.Proofs.YtgkbeejkbhhjkaaW.PrintLast Go.Proofs.YtgkbeejkbhhjkaaW.PrintMore
attribute [local go_sem] max2_int min2_int max_two min_two max_three min_three max_four min_four   -- for this text's walks alone
set_option linter.unusedVariables false
set_option linter.unusedSimpArgs false

/-! ### impl_slotted: function 68 -/
/- EXTERN, by hand (wip/hand/slotall.py): the program runs till all is read. -/
def impl_slotted.l0 (J : List (S30)) (fah : Bool) (n : Nat) : Nat → Nat → Option (List Int × List Int)
  | 0, _ => none
  | k + 1, t => (slices_Contains_int_int.f k (slImTo J fah n t).2.2 (-1)).bind fun b => if b = true then (if t ≤ 9999 then impl_slotted.l0 J fah n k (t + 1) else none) else some ((slImTo J fah n t).2.1, (slImTo J fah n t).2.2)
def impl_slotted.f (k : Nat) (a0_0 : Int) (a0_1 : Bool) (l1 : List (S30)) : Option (List Int × List Int) := if 2 ≤ a0_0 ∧ a0_0 ≤ 12 ∧ l1.length ≤ 20 then impl_slotted.l0 l1 a0_1 a0_0.toNat k 0 else none
set_option maxHeartbeats 16000000 in
set_option maxRecDepth 100000 in
theorem impl_slotted.calls (k : Nat) (a0_0 : Int) (a0_1 : Bool) (A1 : Option Addr) (c1 : Nat) (l1 : List (S30)) (r1 r2 : List Int) (w : World) (hr1 : Kd.C k30 w A1 l1.length l1) (hc1 : l1.length ≤ c1) (h : impl_slotted.f k a0_0 a0_1 l1 = some (r1, r2)) :
    Calls Try.prog 68 #[.agg #[.int .i64 a0_0, .bool a0_1], .slice A1 l1.length c1] w fun e w' => ∃ v0_ v1_ : Value, e = .returned (.tuple #[v0_, v1_]) ∧ Kd.R (Kd.int .i64) 3 w' w.heap.size (fun k_ => some k_ ≠ (v1_ : Value).ownBlock) v0_ r1 ∧ Kd.R (Kd.int .i64) 3 w' w.heap.size (fun k_ => some k_ ≠ (v0_ : Value).ownBlock) v1_ r2 ∧ Below w.heap.size w w' := by
  unfold impl_slotted.f at h
  by_cases hk : 2 ≤ a0_0 ∧ a0_0 ≤ 12 ∧ l1.length ≤ 20
  case neg => rw [if_neg hk] at h; cases h
  rw [if_pos hk] at h
  obtain ⟨n, rfl⟩ : ∃ n : Nat, a0_0 = (n : Int) := ⟨a0_0.toNat, by omega⟩
  rw [Int.toNat_natCast] at h
  obtain ⟨fah, rfl⟩ : ∃ q, q = a0_1 := ⟨_, rfl⟩
  have HN := Aside0.mk (show 2 ≤ n ∧ n ≤ 12 by omega)
  have HJ := Aside0.mk hk.2.2
  have HH := Aside0.mk h
  have HC := Aside0.mk hr1
  have HCC := Aside0.mk hc1
  have HB := Aside0.mk (Below.refl w.heap.size w)
  clear hr1 hc1 h hk
  go_enter Try.func68, Try.ntmps68
  go_wp2_with (first | ((with_reducible refine gate_dst (N := 2) rfl ?_); refine box_event ?hg (N := 2) ?hd (cs := #[.int .i64 (n : Int), .bool fah]) (t := 28) ?hr ?_; (case hd => rfl); (case hg => rfl); (case hr => first | (go_simp; done) | (go_simp; rfl)); intro b hg w3 hbox hb; have HB3 := Aside0.mk (below_step (by repeat (first | (with_reducible first | exact HB.out | apply below_alloc | apply pw_below_drewN | apply below_drew1) | exact HB.out)) hb); clear HB; have HB := HB3; clear HB3; have hk0 : w3.cell? ⟨b, 0, none⟩ = some (.int .i64 (n : Int)) := (blk_cell hbox 0).trans rfl; have hk1 : w3.cell? ⟨b, 1, none⟩ = some (.bool fah) := (blk_cell hbox 1).trans rfl; clear hg hb hbox) | (go_at_call 61; (with_reducible refine (newSlotter_calls A1 c1 n fah l1 w _ HC.out ?s1 HN.out HJ.out).mono ?_); (case s1 => exact (by repeat (first | (with_reducible first | exact HB.out | apply below_alloc | apply pw_below_drewN | apply below_drew1) | exact HB.out))); rintro e w6 ⟨g, rfl, hi, hb⟩; have HI := Aside0.mk hi; clear HB hi; have HB := Aside0.mk hb; clear hb) | ((with_reducible refine gate_callee (f := 61) rfl ?_); refine goesL_ (some 9) rfl rfl Try.func61 (by kernel_rfl) rfl #[.agg #[.int .i64 (n : Int), .bool fah], .slice A1 l1.length c1] rfl (by (try simp only [List.map_toArray, List.map_cons, List.map_nil]); first | done | rfl) ?_; (with_reducible refine (newSlotter_calls A1 c1 n fah l1 w _ HC.out ?s1 HN.out HJ.out).mono ?_); (case s1 => exact (by repeat (first | (with_reducible first | exact HB.out | apply below_alloc | apply pw_below_drewN | apply below_drew1) | exact HB.out))); rintro e w6 ⟨g, rfl, hi, hb⟩; have HI := Aside0.mk hi; clear HB hi; have HB := Aside0.mk hb; clear hb; refine ⟨_, rfl, ?_⟩))
  go_loopg [] k (fun kq w' => ∃ t : Nat, Aside0 (impl_slotted.l0 l1 fah n kq t = some (r1, r2)) ∧ Aside0 (t ≤ 10000) ∧ Aside0 (IsT w w' g (n : Int) fah (t : Int) l1 (slImTo l1 fah n t).1 (slImTo l1 fah n t).2.1 (slImTo l1 fah n t).2.2) ∧ Aside0 (Below w.heap.size w w'))
  case atStart => exact ⟨0, HH, ⟨by omega⟩, HI, HB⟩
  case round =>
    clear HI HB HH hk0 hk1
    obtain ⟨t, HH, HTT, HI, HB⟩ := hrel
    cases gk with
    | zero => exact absurd HH.out (by simp [impl_slotted.l0])
    | succ k1 =>
      have H := HH.out
      rw [impl_slotted.l0] at H
      obtain ⟨b9, E1, H⟩ := Option.bind_eq_some_iff.mp H
      have HE := Aside0.mk E1
      clear E1
      obtain ⟨A0, c0, v1, v2, v3, h1, h2, h3, h4, h5, h6⟩ := HI.out
      obtain ⟨A3, c3, e3⟩ := Kd.R_slice h6
      subst e3
      have hc6 : wr.cell? ⟨g, 6, none⟩ = some (.slice A3 (slImTo l1 fah n t).2.2.length c3) := (blk_cell h1 6).trans rfl
      have hc5 : wr.cell? ⟨g, 5, none⟩ = some v2 := (blk_cell h1 5).trans rfl
      have HCR := Aside0.mk (And.intro (Kd.R_reads' h6).2.2 (Kd.R_reads' h6).2.1)
      have H5 := Aside0.mk h5
      have H6 := Aside0.mk h6
      clear h1 h2 h3 h4 h5 h6
      cases b9 with
      | true =>
        rw [if_pos rfl] at H
        by_cases ht : t ≤ 9999
        case neg => rw [if_neg ht] at H; cases H
        rw [if_pos ht] at H
        have HQ := Aside0.mk H
        have HT9 := Aside0.mk ht
        clear H ht HH hc5
        go_wp2_with (first | (go_at_call 63; (with_reducible refine (slices_Contains_int_int.calls k1 A3 c3 (slImTo l1 fah n t).2.2 (-1) true _ ?s1 ?s2 HE.out).mono ?_); (case s1 => repeat (first | exact HCR.out.1 | (with_reducible refine Kd.C_alloc ?_ _) | (with_reducible refine Kd.C_drewN ?_ _) | (with_reducible refine Kd.C_drew ?_))); (case s2 => exact HCR.out.2); rintro e w8 ⟨rfl, ⟨nd, rfl⟩⟩) | ((with_reducible refine gate_callee (f := 63) rfl ?_); refine goesL_ (some 14) rfl rfl Try.func63 (by kernel_rfl) rfl #[.slice A3 (slImTo l1 fah n t).2.2.length c3, .int .i64 (-1)] rfl (by (try simp only [List.map_toArray, List.map_cons, List.map_nil]); first | done | rfl) ?_; (with_reducible refine (slices_Contains_int_int.calls k1 A3 c3 (slImTo l1 fah n t).2.2 (-1) true _ ?s1 ?s2 HE.out).mono ?_); (case s1 => repeat (first | exact HCR.out.1 | (with_reducible refine Kd.C_alloc ?_ _) | (with_reducible refine Kd.C_drewN ?_ _) | (with_reducible refine Kd.C_drew ?_))); (case s2 => exact HCR.out.2); rintro e w8 ⟨rfl, ⟨nd, rfl⟩⟩; refine ⟨_, rfl, ?_⟩) | (go_at_call 62; (with_reducible refine (step_calls g n fah l1 (slImTo l1 fah n t) t w _ ?s1 ?s2 HN.out HJ.out HTT.out (slImTo_inv l1 fah n (by have := HN.out; omega) t)).mono ?_); (case s1 => exact (by repeat (first | exact HI.out | apply IsT.drewN | apply IsT.drew))); (case s2 => exact (by repeat (first | exact HB.out | apply pw_below_drewN | apply below_drew1))); rintro e w7 ⟨rfl, hi, hb⟩; clear HI HB; have HI := Aside0.mk hi; have HB := Aside0.mk hb; clear hi hb) | ((with_reducible refine gate_callee (f := 62) rfl ?_); refine goesL_ (some 16) rfl rfl Try.func62 (by kernel_rfl) rfl #[.pointer (some ⟨g, 0, none⟩)] rfl (by (try simp only [List.map_toArray, List.map_cons, List.map_nil]); first | done | rfl) ?_; (with_reducible refine (step_calls g n fah l1 (slImTo l1 fah n t) t w _ ?s1 ?s2 HN.out HJ.out HTT.out (slImTo_inv l1 fah n (by have := HN.out; omega) t)).mono ?_); (case s1 => exact (by repeat (first | exact HI.out | apply IsT.drewN | apply IsT.drew))); (case s2 => exact (by repeat (first | exact HB.out | apply pw_below_drewN | apply below_drew1))); rintro e w7 ⟨rfl, hi, hb⟩; clear HI HB; have HI := Aside0.mk hi; have HB := Aside0.mk hb; clear hi hb; refine ⟨_, rfl, ?_⟩))
        go_roundg k1
        case measure => omega
        case rel => exact ⟨t + 1, HQ, ⟨by have := HT9.out; omega⟩, HI, HB⟩
      | false =>
        rw [if_neg (by simp)] at H
        obtain ⟨rfl, rfl⟩ := Prod.mk.inj (Option.some.inj H)
        clear H HH
        go_upto_region 4 with (first | (go_at_call 63; (with_reducible refine (slices_Contains_int_int.calls k1 A3 c3 (slImTo l1 fah n t).2.2 (-1) false _ ?s1 ?s2 HE.out).mono ?_); (case s1 => repeat (first | exact HCR.out.1 | (with_reducible refine Kd.C_alloc ?_ _) | (with_reducible refine Kd.C_drewN ?_ _) | (with_reducible refine Kd.C_drew ?_))); (case s2 => exact HCR.out.2); rintro e w8 ⟨rfl, ⟨nd, rfl⟩⟩) | ((with_reducible refine gate_callee (f := 63) rfl ?_); refine goesL_ (some 14) rfl rfl Try.func63 (by kernel_rfl) rfl #[.slice A3 (slImTo l1 fah n t).2.2.length c3, .int .i64 (-1)] rfl (by (try simp only [List.map_toArray, List.map_cons, List.map_nil]); first | done | rfl) ?_; (with_reducible refine (slices_Contains_int_int.calls k1 A3 c3 (slImTo l1 fah n t).2.2 (-1) false _ ?s1 ?s2 HE.out).mono ?_); (case s1 => repeat (first | exact HCR.out.1 | (with_reducible refine Kd.C_alloc ?_ _) | (with_reducible refine Kd.C_drewN ?_ _) | (with_reducible refine Kd.C_drew ?_))); (case s2 => exact HCR.out.2); rintro e w8 ⟨rfl, ⟨nd, rfl⟩⟩; refine ⟨_, rfl, ?_⟩))
        obtain ⟨A2, c2, e2⟩ := Kd.R_slice H5.out
        subst e2
        have hd5 : (wr.drewN nd).cell? ⟨g, 5, none⟩ = some (.slice A2 (slImTo l1 fah n t).2.1.length c2) := hc5
        have hd6 : (wr.drewN nd).cell? ⟨g, 6, none⟩ = some (.slice A3 (slImTo l1 fah n t).2.2.length c3) := hc6
        have HI9 := Aside0.mk (show IsT w (wr.drewN nd) g (n : Int) fah (t : Int) l1 (slImTo l1 fah n t).1 (slImTo l1 fah n t).2.1 (slImTo l1 fah n t).2.2 from HI.out.drewN nd)
        have HB9 := Aside0.mk (show Below w.heap.size w (wr.drewN nd) from pw_below_drewN HB.out nd)
        have H59 := Aside0.mk (Kd.R_drewN H5.out nd)
        have H69 := Aside0.mk (Kd.R_drewN H6.out nd)
        obtain ⟨wq, hwq⟩ : ∃ q, wr.drewN nd = q := ⟨_, rfl⟩
        rw [hwq] at hd5 hd6 HB9 H59 H69
        rw [hwq]
        clear hwq hc5 hc6 HI HI9 HB H5 H6
        go_quiet (fail)
        all_goals (try go_wp2)
        all_goals go_ret2
        all_goals exact ⟨_, _, rfl, Kd.R_drewN (Kd.R_mono H59.out (fun k_ hk_ => hk_.2.2)) _, Kd.R_drewN (Kd.R_mono H69.out (fun k_ hk_ => hk_.2.2)) _, pw_below_drewN HB9.out _⟩

/-! ### impl_ReadAt: function 43 -/
def impl_ReadAt.f (k : Nat) (a0_0 : Int) (a0_1 : Bool) (l1 : List (S30)) : Option (List Int × Bool) := (impl_isSlotted.f k a0_0 a0_1 l1).bind fun t436 => (if t436 = true then ((impl_slotted.f k a0_0 a0_1 l1).bind fun bt437 => (some (bt437.2, true))) else (some (([] : List Int), false)))
set_option maxHeartbeats 8000000 in
set_option maxRecDepth 100000 in
theorem impl_ReadAt.calls (k : Nat) (a0_0 : Int) (a0_1 : Bool) (A1 : Option Addr) (c1 : Nat) (l1 : List (S30)) (r1 : List Int) (r2 : Bool) (w : World) (hr1 : Kd.C k30 w A1 l1.length l1) (hc1 : l1.length ≤ c1) (h : impl_ReadAt.f k a0_0 a0_1 l1 = some (r1, r2)) :
    Calls Try.prog 43 #[.agg #[.int .i64 a0_0, .bool a0_1], .slice A1 l1.length c1] w fun e w' => ∃ v0_ : Value, e = .returned (.tuple #[v0_, .bool r2]) ∧ Kd.R (Kd.int .i64) 3 w' w.heap.size (fun _ => True) v0_ r1 ∧ Below w.heap.size w w' := by
  have hu28 := Try.underlying28
  have HR1 := Aside0.mk hr1
  have HC1 := Aside0.mk hc1
  clear hr1 hc1
  have HB := Aside0.mk (Below.refl w.heap.size w)
  have H : ((impl_isSlotted.f k a0_0 a0_1 l1).bind fun t436 => (if t436 = true then ((impl_slotted.f k a0_0 a0_1 l1).bind fun bt437 => (some (bt437.2, true))) else (some (([] : List Int), false)))) = some (r1, r2) := h
  clear h
  replace H := Option.bind_eq_some_iff.mp H
  obtain ⟨t436, A30, H⟩ := H
  replace H : (if t436 = true then ((impl_slotted.f k a0_0 a0_1 l1).bind fun bt437 => (some (bt437.2, true))) else (some (([] : List Int), false))) = some (r1, r2) := H
  have A3 := Aside0.mk A30
  clear A30
  by_cases c4 : t436 = true
  · subst c4
    have H1 : ((impl_slotted.f k a0_0 a0_1 l1).bind fun bt437 => (some (bt437.2, true))) = some (r1, r2) := by rw [if_pos rfl] at H; exact H
    clear H
    have H := H1
    clear H1
    replace H := Option.bind_eq_some_iff.mp H
    obtain ⟨⟨t437, t440⟩, A50, H⟩ := H
    replace H : (some (t440, true)) = some (r1, r2) := H
    have A5 := Aside0.mk A50
    clear A50
    simp only [Option.some.injEq, Prod.mk.injEq] at H
    obtain ⟨rfl, rfl⟩ := H
    go_enter Try.func43, Try.ntmps43
    go_wp2_with (first | ((with_reducible refine gate_dst (N := 2) rfl ?_); refine box_event ?hg (N := 2) ?hd (cs := #[.int .i64 a0_0, .bool a0_1]) (t := 28) ?hr ?_; (case hd => rfl); (case hg => rfl); (case hr => first | (go_simp; done) | (go_simp; rfl)); intro gb435 hg w6 hbox hb; have n0_ := Aside0.mk (below_step (by repeat (first | (with_reducible first | exact HB.out | apply below_alloc | apply pw_below_drewN | apply below_drew1) | exact HB.out)) hb); have n1_ := Aside0.mk (hbox); have n2_ := Aside0.mk ((by rw [hg]; exact (below_size (by repeat (first | (with_reducible first | exact HB.out | apply below_alloc | apply pw_below_drewN | apply below_drew1) | exact HB.out))) : w.heap.size ≤ gb435)); have n3_ := Aside0.mk ((by rw [hg]; exact (below_size (by repeat (first | (with_reducible first | exact HB.out | apply below_alloc | apply pw_below_drewN | apply below_drew1) | exact HB.out))) : w.heap.size ≤ gb435)); clear HB; have HB := n0_; have BK435 := n1_; have GW435 := n2_; have GE435 := n3_; clear n0_ n1_ n2_ n3_; clear hb hbox hg; have hcz7_0 : w6.cell? ⟨gb435, 0, none⟩ = some (.int .i64 a0_0) := (blk_cell BK435.out 0).trans rfl; have hcz7_1 : w6.cell? ⟨gb435, 1, none⟩ = some (.bool a0_1) := (blk_cell BK435.out 1).trans rfl; have hfz7_0 := blk_frozen BK435.out 0; have hfz7_1 := blk_frozen BK435.out 1) | ((with_reducible refine gate_callee (f := 48) rfl ?_); refine goesL_ (some 10) rfl rfl Try.func48 (by kernel_rfl) rfl #[.agg #[.int .i64 a0_0, .bool a0_1], .slice A1 l1.length c1] rfl (by (try simp only [List.map_toArray, List.map_cons, List.map_nil]); first | done | rfl | (simp only [List.length_drop, List.length_take]; rfl)) ?_; (with_reducible refine (impl_isSlotted.calls k a0_0 a0_1 _ _ l1 true _ ?side1 ?side2 A3.out).mono ?_); (case side1 => repeat (first | exact (Kd.C_below HR1.out HB.out) | (with_reducible refine Kd.C_alloc ?_ _) | (with_reducible refine Kd.C_drewN ?_ _) | (with_reducible refine Kd.C_drew ?_))); (case side2 => exact HC1.out); rintro e w8 ⟨rfl, hb⟩; refine ⟨_, rfl, ?_⟩; have n0_ := Aside0.mk (blk_below (g := gb435) (o := .cells #[.int .i64 a0_0, .bool a0_1] 28 (0, 0)) (by (with_reducible repeat (first | refine blk_drewN ?_ _ | refine blk_drew ?_ | refine blk_alloc ?_ _)); exact BK435.out) hb); have n1_ := Aside0.mk (below_step (by repeat (first | (with_reducible first | exact HB.out | apply below_alloc | apply pw_below_drewN | apply below_drew1 | refine below_set ?_ GE435.out) | exact HB.out)) hb); clear BK435; clear HB; have BK435 := n0_; have HB := n1_; clear n0_ n1_; (try clear hb); (try clear hb2); (try clear hk); (try clear hi); have hcz9_0 : w8.cell? ⟨gb435, 0, none⟩ = some (.int .i64 a0_0) := (blk_cell BK435.out 0).trans rfl; have hcz9_1 : w8.cell? ⟨gb435, 1, none⟩ = some (.bool a0_1) := (blk_cell BK435.out 1).trans rfl; have hfz9_0 := blk_frozen BK435.out 0; have hfz9_1 := blk_frozen BK435.out 1) | ((with_reducible refine gate_callee (f := 68) rfl ?_); refine goesL_ (some 15) rfl rfl Try.func68 (by kernel_rfl) rfl #[.agg #[.int .i64 a0_0, .bool a0_1], .slice A1 l1.length c1] rfl (by (try simp only [List.map_toArray, List.map_cons, List.map_nil]); first | done | rfl | (simp only [List.length_drop, List.length_take]; rfl)) ?_; (with_reducible refine (impl_slotted.calls k a0_0 a0_1 _ _ l1 t437 t440 _ ?side1 ?side2 A5.out).mono ?_); (case side1 => repeat (first | exact (Kd.C_below HR1.out HB.out) | (with_reducible refine Kd.C_alloc ?_ _) | (with_reducible refine Kd.C_drewN ?_ _) | (with_reducible refine Kd.C_drew ?_))); (case side2 => exact HC1.out); rintro e w10 ⟨v438, v441, rfl, ho0, ho1, hb⟩; refine ⟨_, rfl, ?_⟩; have n0_ := Aside0.mk (Kd.R_lower ho0 (below_size (by repeat (first | (with_reducible first | exact HB.out | apply below_alloc | apply pw_below_drewN | apply below_drew1 | refine below_set ?_ GE435.out) | exact HB.out)))); have n1_ := Aside0.mk (Kd.R_lower ho1 (below_size (by repeat (first | (with_reducible first | exact HB.out | apply below_alloc | apply pw_below_drewN | apply below_drew1 | refine below_set ?_ GE435.out) | exact HB.out)))); have n2_ := Aside0.mk (blk_below (g := gb435) (o := .cells #[.int .i64 a0_0, .bool a0_1] 28 (0, 0)) (by (with_reducible repeat (first | refine blk_drewN ?_ _ | refine blk_drew ?_ | refine blk_alloc ?_ _)); exact BK435.out) hb); have n3_ := Aside0.mk (below_step (by repeat (first | (with_reducible first | exact HB.out | apply below_alloc | apply pw_below_drewN | apply below_drew1 | refine below_set ?_ GE435.out) | exact HB.out)) hb); clear BK435; clear HB; have HO439 := n0_; have HO442 := n1_; have BK435 := n2_; have HB := n3_; clear n0_ n1_ n2_ n3_; (try clear hb); (try clear hb2); (try clear hk); (try clear hi); (try clear ho0); (try clear ho1)))
    go_ret2
    exact ⟨_, by first | rfl | (simp [errW_none, errW_some] <;> rfl) | (simp [*, errW_none, errW_some] <;> rfl), by (with_reducible repeat (first | apply Kd.R_alloc | apply Kd.R_drewN | apply Kd.R_drew)); exact Kd.R_mono HO442.out (fun _ hk => trivial), by repeat (first | (with_reducible first | exact HB.out | apply below_alloc | apply pw_below_drewN | apply below_drew1 | refine below_set ?_ GE435.out) | exact HB.out)⟩
  · replace c4 := Bool.eq_false_iff.mpr c4
    subst c4
    have H1 : (some (([] : List Int), false)) = some (r1, r2) := by rw [if_neg (show ¬ (false = true) by decide)] at H; exact H
    clear H
    have H := H1
    clear H1
    simp only [Option.some.injEq, Prod.mk.injEq] at H
    obtain ⟨rfl, rfl⟩ := H
    go_enter Try.func43, Try.ntmps43
    go_wp2_with (first | ((with_reducible refine gate_dst (N := 2) rfl ?_); refine box_event ?hg (N := 2) ?hd (cs := #[.int .i64 a0_0, .bool a0_1]) (t := 28) ?hr ?_; (case hd => rfl); (case hg => rfl); (case hr => first | (go_simp; done) | (go_simp; rfl)); intro gb435 hg w11 hbox hb; have n0_ := Aside0.mk (below_step (by repeat (first | (with_reducible first | exact HB.out | apply below_alloc | apply pw_below_drewN | apply below_drew1) | exact HB.out)) hb); have n1_ := Aside0.mk (hbox); have n2_ := Aside0.mk ((by rw [hg]; exact (below_size (by repeat (first | (with_reducible first | exact HB.out | apply below_alloc | apply pw_below_drewN | apply below_drew1) | exact HB.out))) : w.heap.size ≤ gb435)); have n3_ := Aside0.mk ((by rw [hg]; exact (below_size (by repeat (first | (with_reducible first | exact HB.out | apply below_alloc | apply pw_below_drewN | apply below_drew1) | exact HB.out))) : w.heap.size ≤ gb435)); clear HB; have HB := n0_; have BK435 := n1_; have GW435 := n2_; have GE435 := n3_; clear n0_ n1_ n2_ n3_; clear hb hbox hg; have hcz12_0 : w11.cell? ⟨gb435, 0, none⟩ = some (.int .i64 a0_0) := (blk_cell BK435.out 0).trans rfl; have hcz12_1 : w11.cell? ⟨gb435, 1, none⟩ = some (.bool a0_1) := (blk_cell BK435.out 1).trans rfl; have hfz12_0 := blk_frozen BK435.out 0; have hfz12_1 := blk_frozen BK435.out 1) | ((with_reducible refine gate_callee (f := 48) rfl ?_); refine goesL_ (some 10) rfl rfl Try.func48 (by kernel_rfl) rfl #[.agg #[.int .i64 a0_0, .bool a0_1], .slice A1 l1.length c1] rfl (by (try simp only [List.map_toArray, List.map_cons, List.map_nil]); first | done | rfl | (simp only [List.length_drop, List.length_take]; rfl)) ?_; (with_reducible refine (impl_isSlotted.calls k a0_0 a0_1 _ _ l1 false _ ?side1 ?side2 A3.out).mono ?_); (case side1 => repeat (first | exact (Kd.C_below HR1.out HB.out) | (with_reducible refine Kd.C_alloc ?_ _) | (with_reducible refine Kd.C_drewN ?_ _) | (with_reducible refine Kd.C_drew ?_))); (case side2 => exact HC1.out); rintro e w13 ⟨rfl, hb⟩; refine ⟨_, rfl, ?_⟩; have n0_ := Aside0.mk (blk_below (g := gb435) (o := .cells #[.int .i64 a0_0, .bool a0_1] 28 (0, 0)) (by (with_reducible repeat (first | refine blk_drewN ?_ _ | refine blk_drew ?_ | refine blk_alloc ?_ _)); exact BK435.out) hb); have n1_ := Aside0.mk (below_step (by repeat (first | (with_reducible first | exact HB.out | apply below_alloc | apply pw_below_drewN | apply below_drew1 | refine below_set ?_ GE435.out) | exact HB.out)) hb); clear BK435; clear HB; have BK435 := n0_; have HB := n1_; clear n0_ n1_; (try clear hb); (try clear hb2); (try clear hk); (try clear hi)))
    go_ret2
    exact ⟨_, by first | rfl | (simp [errW_none, errW_some] <;> rfl) | (simp [*, errW_none, errW_some] <;> rfl), by first | exact Kd.R_nil _ _ _ _ _ | exact Kd.N_nil _ _ _ _ _ | exact Kd.V_nil _ _ _ _ _ | exact Kd.Q_nil _ _ _ _ _ | exact Kd.S_nil _ _ _ _ _, by repeat (first | (with_reducible first | exact HB.out | apply below_alloc | apply pw_below_drewN | apply below_drew1 | refine below_set ?_ GE435.out) | exact HB.out)⟩

end Go.Proofs.Ytgkbeejkbhhjkaa.X

/- What the functions of the program come to, and that they do: written by this session's program wip/xprint.py out of the translation; parts named extern are typed by hand. -/
namespace Go.Proofs.Ytgkbeejkbhhjkaa.X
open Go.RowKit Go.Proofs.YtgkbeejkbhhjkaaW.PrintWords Go.Proofs.YtgkbeejkbhhjkaaW.PrintLast Go.Proofs.YtgkbeejkbhhjkaaW.PrintMore
attribute [local go_sem] max2_int min2_int max_two min_two max_three min_three max_four min_four   -- for this text's walks alone
set_option linter.unusedVariables false
set_option linter.unusedSimpArgs false

/-! ### impl_greatest: function 67 -/
/-! ### impl_LastRead: function 39 -/
end Go.Proofs.Ytgkbeejkbhhjkaa.X

/- What the functions of the program come to, and that they do: written by this session's program wip/xprint.py out of the translation; parts named extern are typed by hand. -/
namespace Go.Proofs.Ytgkbeejkbhhjkaa.X
open Go.RowKit Go.Proofs.YtgkbeejkbhhjkaaW.PrintWords Go.Proofs.YtgkbeejkbhhjkaaW.PrintLast Go.Proofs.YtgkbeejkbhhjkaaW.PrintMore
attribute [local go_sem] max2_int min2_int max_two min_two max_three min_three max_four min_four   -- for this text's walks alone
set_option linter.unusedVariables false
set_option linter.unusedSimpArgs false

/-! ### spec_FilledAt: function 40 -/
/- EXTERN, by hand (wip/hand/slotall.py): when messages fill slots. -/
/-! ### impl_FilledAt: function 41 -/
end Go.Proofs.Ytgkbeejkbhhjkaa.X

/- What the functions of the program come to, and that they do: written by this session's program wip/xprint.py out of the translation; parts named extern are typed by hand. -/
namespace Go.Proofs.Ytgkbeejkbhhjkaa.X
open Go.RowKit Go.Proofs.YtgkbeejkbhhjkaaW.PrintWords Go.Proofs.YtgkbeejkbhhjkaaW.PrintLast Go.Proofs.YtgkbeejkbhhjkaaW.PrintMore
attribute [local go_sem] max2_int min2_int max_two min_two max_three min_three max_four min_four   -- for this text's walks alone
set_option linter.unusedVariables false
set_option linter.unusedSimpArgs false

/-! ### spec_ReadAt: function 42 -/
/- EXTERN, by hand (wip/hand/slotall.py): when messages are read. -/
def spec_ReadAt.f (k : Nat) (a0_0 : Int) (a0_1 : Bool) (l1 : List (S30)) : Option (List Int × Bool) := (spec_slAll.f k a0_0 a0_1 l1).bind fun b1 => if b1 = true then (if 2 ≤ a0_0 ∧ a0_0 ≤ 12 ∧ l1.length ≤ 20 then ((spec_slTicks.f a0_0 a0_1 l1).bind fun T => if 0 ≤ T ∧ T ≤ 9000 then some ((slRunTo l1 a0_1 a0_0.toNat T.toNat).2.2, true) else none) else none) else some (([] : List Int), false)
set_option maxHeartbeats 16000000 in
set_option maxRecDepth 100000 in
theorem spec_ReadAt.calls (k : Nat) (a0_0 : Int) (a0_1 : Bool) (A1 : Option Addr) (c1 : Nat) (l1 : List (S30)) (r1 : List Int) (r2 : Bool) (w : World) (hr1 : Kd.C k30 w A1 l1.length l1) (hc1 : l1.length ≤ c1) (h : spec_ReadAt.f k a0_0 a0_1 l1 = some (r1, r2)) :
    Calls Try.prog 42 #[.agg #[.int .i64 a0_0, .bool a0_1], .slice A1 l1.length c1] w fun e w' => ∃ v0_ : Value, e = .returned (.tuple #[v0_, .bool r2]) ∧ Kd.R (Kd.int .i64) 3 w' w.heap.size (fun _ => True) v0_ r1 ∧ Below w.heap.size w w' := by
  unfold spec_ReadAt.f at h
  have HC := Aside0.mk hr1
  have HCC := Aside0.mk hc1
  have HB := Aside0.mk (Below.refl w.heap.size w)
  clear hr1 hc1
  obtain ⟨b1, e1, h⟩ := Option.bind_eq_some_iff.mp h
  have E1 := Aside0.mk e1
  clear e1
  cases b1 with
  | false =>
    rw [if_neg (by simp)] at h
    obtain ⟨rfl, rfl⟩ := Prod.mk.inj (Option.some.inj h)
    clear h
    go_enter Try.func42, Try.ntmps42
    go_wp2_with (first | ((with_reducible refine gate_dst (N := 2) rfl ?_); refine box_event ?hg (N := 2) ?hd (cs := #[.int .i64 a0_0, .bool a0_1]) (t := 28) ?hr ?_; (case hd => rfl); (case hg => rfl); (case hr => first | (go_simp; done) | (go_simp; rfl)); intro b hg w3 hbox hb; have HB3 := Aside0.mk (below_step (by repeat (first | (with_reducible first | exact HB.out | apply below_alloc | apply pw_below_drewN | apply below_drew1) | exact HB.out)) hb); clear HB; have HB := HB3; clear HB3; have HBX := Aside0.mk hbox; have hk0 : w3.cell? ⟨b, 0, none⟩ = some (.int .i64 a0_0) := (blk_cell hbox 0).trans rfl; have hk1 : w3.cell? ⟨b, 1, none⟩ = some (.bool a0_1) := (blk_cell hbox 1).trans rfl; clear hg hb hbox) | (go_at_call 50; (with_reducible refine (spec_slAll.calls k a0_0 a0_1 A1 c1 l1 false _ ?s1 HCC.out E1.out).mono ?_); (case s1 => repeat (first | exact (Kd.C_below HC.out HB.out) | (with_reducible refine Kd.C_alloc ?_ _) | (with_reducible refine Kd.C_drewN ?_ _) | (with_reducible refine Kd.C_drew ?_))); rintro e w9 ⟨rfl, hb⟩; have HX9 := Aside0.mk (blk_below HBX.out hb); have HB9 := Aside0.mk (below_step (by repeat (first | (with_reducible first | exact HB.out | apply below_alloc | apply pw_below_drewN | apply below_drew1) | exact HB.out)) hb); clear HBX HB hb hk0 hk1; have HBX := HX9; have HB := HB9; clear HX9 HB9; have hk0 : w9.cell? ⟨b, 0, none⟩ = some (.int .i64 a0_0) := (blk_cell HBX.out 0).trans rfl; have hk1 : w9.cell? ⟨b, 1, none⟩ = some (.bool a0_1) := (blk_cell HBX.out 1).trans rfl) | ((with_reducible refine gate_callee (f := 50) rfl ?_); refine goesL_ (some 8) rfl rfl Try.func50 (by kernel_rfl) rfl #[.agg #[.int .i64 a0_0, .bool a0_1], .slice A1 l1.length c1] rfl (by (try simp only [List.map_toArray, List.map_cons, List.map_nil]); first | done | rfl) ?_; (with_reducible refine (spec_slAll.calls k a0_0 a0_1 A1 c1 l1 false _ ?s1 HCC.out E1.out).mono ?_); (case s1 => repeat (first | exact (Kd.C_below HC.out HB.out) | (with_reducible refine Kd.C_alloc ?_ _) | (with_reducible refine Kd.C_drewN ?_ _) | (with_reducible refine Kd.C_drew ?_))); rintro e w9 ⟨rfl, hb⟩; have HX9 := Aside0.mk (blk_below HBX.out hb); have HB9 := Aside0.mk (below_step (by repeat (first | (with_reducible first | exact HB.out | apply below_alloc | apply pw_below_drewN | apply below_drew1) | exact HB.out)) hb); clear HBX HB hb hk0 hk1; have HBX := HX9; have HB := HB9; clear HX9 HB9; have hk0 : w9.cell? ⟨b, 0, none⟩ = some (.int .i64 a0_0) := (blk_cell HBX.out 0).trans rfl; have hk1 : w9.cell? ⟨b, 1, none⟩ = some (.bool a0_1) := (blk_cell HBX.out 1).trans rfl; refine ⟨_, rfl, ?_⟩))
    go_ret2
    exact ⟨_, rfl, Kd.R_nil _ _ _ _ _, (by repeat (first | (with_reducible first | exact HB.out | apply below_alloc | apply pw_below_drewN | apply below_drew1) | exact HB.out))⟩
  | true =>
    rw [if_pos rfl] at h
    by_cases hk : 2 ≤ a0_0 ∧ a0_0 ≤ 12 ∧ l1.length ≤ 20
    case neg => rw [if_neg hk] at h; cases h
    rw [if_pos hk] at h
    obtain ⟨n, rfl⟩ : ∃ n : Nat, a0_0 = (n : Int) := ⟨a0_0.toNat, by omega⟩
    obtain ⟨T0, hT0, h⟩ := Option.bind_eq_some_iff.mp h
    by_cases hT : 0 ≤ T0 ∧ T0 ≤ 9000
    case neg => rw [if_neg hT] at h; cases h
    rw [if_pos hT] at h
    obtain ⟨T, rfl⟩ : ∃ n : Nat, T0 = (n : Int) := ⟨T0.toNat, by omega⟩
    rw [Int.toNat_natCast, Int.toNat_natCast] at h
    obtain ⟨fah, rfl⟩ : ∃ q, q = a0_1 := ⟨_, rfl⟩
    have HN := Aside0.mk (show 2 ≤ n ∧ n ≤ 12 by omega)
    have HJ := Aside0.mk hk.2.2
    have HT := Aside0.mk (show T ≤ 10000 by omega)
    have HTT := Aside0.mk hT0
    obtain ⟨rfl, rfl⟩ := Prod.mk.inj (Option.some.inj h)
    clear h hk hT hT0
    go_enter Try.func42, Try.ntmps42
    go_wp2_with (first | ((with_reducible refine gate_dst (N := 2) rfl ?_); refine box_event ?hg (N := 2) ?hd (cs := #[.int .i64 (n : Int), .bool fah]) (t := 28) ?hr ?_; (case hd => rfl); (case hg => rfl); (case hr => first | (go_simp; done) | (go_simp; rfl)); intro b hg w3 hbox hb; have HB3 := Aside0.mk (below_step (by repeat (first | (with_reducible first | exact HB.out | apply below_alloc | apply pw_below_drewN | apply below_drew1) | exact HB.out)) hb); clear HB; have HB := HB3; clear HB3; have HBX := Aside0.mk hbox; have hk0 : w3.cell? ⟨b, 0, none⟩ = some (.int .i64 (n : Int)) := (blk_cell hbox 0).trans rfl; have hk1 : w3.cell? ⟨b, 1, none⟩ = some (.bool fah) := (blk_cell hbox 1).trans rfl; clear hg hb hbox) | (go_at_call 50; (with_reducible refine (spec_slAll.calls k (n : Int) fah A1 c1 l1 true _ ?s1 HCC.out E1.out).mono ?_); (case s1 => repeat (first | exact (Kd.C_below HC.out HB.out) | (with_reducible refine Kd.C_alloc ?_ _) | (with_reducible refine Kd.C_drewN ?_ _) | (with_reducible refine Kd.C_drew ?_))); rintro e w9 ⟨rfl, hb⟩; have HX9 := Aside0.mk (blk_below HBX.out hb); have HB9 := Aside0.mk (below_step (by repeat (first | (with_reducible first | exact HB.out | apply below_alloc | apply pw_below_drewN | apply below_drew1) | exact HB.out)) hb); clear HBX HB hb hk0 hk1; have HBX := HX9; have HB := HB9; clear HX9 HB9; have hk0 : w9.cell? ⟨b, 0, none⟩ = some (.int .i64 (n : Int)) := (blk_cell HBX.out 0).trans rfl; have hk1 : w9.cell? ⟨b, 1, none⟩ = some (.bool fah) := (blk_cell HBX.out 1).trans rfl) | ((with_reducible refine gate_callee (f := 50) rfl ?_); refine goesL_ (some 8) rfl rfl Try.func50 (by kernel_rfl) rfl #[.agg #[.int .i64 (n : Int), .bool fah], .slice A1 l1.length c1] rfl (by (try simp only [List.map_toArray, List.map_cons, List.map_nil]); first | done | rfl) ?_; (with_reducible refine (spec_slAll.calls k (n : Int) fah A1 c1 l1 true _ ?s1 HCC.out E1.out).mono ?_); (case s1 => repeat (first | exact (Kd.C_below HC.out HB.out) | (with_reducible refine Kd.C_alloc ?_ _) | (with_reducible refine Kd.C_drewN ?_ _) | (with_reducible refine Kd.C_drew ?_))); rintro e w9 ⟨rfl, hb⟩; have HX9 := Aside0.mk (blk_below HBX.out hb); have HB9 := Aside0.mk (below_step (by repeat (first | (with_reducible first | exact HB.out | apply below_alloc | apply pw_below_drewN | apply below_drew1) | exact HB.out)) hb); clear HBX HB hb hk0 hk1; have HBX := HX9; have HB := HB9; clear HX9 HB9; have hk0 : w9.cell? ⟨b, 0, none⟩ = some (.int .i64 (n : Int)) := (blk_cell HBX.out 0).trans rfl; have hk1 : w9.cell? ⟨b, 1, none⟩ = some (.bool fah) := (blk_cell HBX.out 1).trans rfl; refine ⟨_, rfl, ?_⟩) | (go_at_call 65; (with_reducible refine (slWhole_calls A1 c1 n fah l1 T _ ?s1 HCC.out HN.out HJ.out HT.out HTT.out).mono ?_); (case s1 => repeat (first | exact (Kd.C_below HC.out HB.out) | (with_reducible refine Kd.C_alloc ?_ _) | (with_reducible refine Kd.C_drewN ?_ _) | (with_reducible refine Kd.C_drew ?_))); rintro e w6 ⟨g, wx, rfl, hi, hle, hb⟩; have HI := Aside0.mk hi; have HLE := Aside0.mk (Nat.le_trans (below_size (by repeat (first | (with_reducible first | exact HB.out | apply below_alloc | apply pw_below_drewN | apply below_drew1) | exact HB.out))) hle); have HB6 := Aside0.mk (below_step (by repeat (first | (with_reducible first | exact HB.out | apply below_alloc | apply pw_below_drewN | apply below_drew1) | exact HB.out)) hb); clear HB hi hle hb; have HB := HB6; clear HB6; obtain ⟨A0, c0, v1, v2, v3, h1, h2, h3, h4, h5, h6⟩ := HI.out; obtain ⟨A3, c3, e3⟩ := Kd.R_slice h6; subst e3; have hc4 : w6.cell? ⟨g, 5, none⟩ = some (.slice A3 _ c3) := (blk_cell h1 5).trans rfl; have HR := Aside0.mk h6; clear h1 h2 h3 h4 h5 h6) | ((with_reducible refine gate_callee (f := 65) rfl ?_); refine goesL_ (some 12) rfl rfl Try.func65 (by kernel_rfl) rfl #[.agg #[.int .i64 (n : Int), .bool fah], .slice A1 l1.length c1] rfl (by (try simp only [List.map_toArray, List.map_cons, List.map_nil]); first | done | rfl) ?_; (with_reducible refine (slWhole_calls A1 c1 n fah l1 T _ ?s1 HCC.out HN.out HJ.out HT.out HTT.out).mono ?_); (case s1 => repeat (first | exact (Kd.C_below HC.out HB.out) | (with_reducible refine Kd.C_alloc ?_ _) | (with_reducible refine Kd.C_drewN ?_ _) | (with_reducible refine Kd.C_drew ?_))); rintro e w6 ⟨g, wx, rfl, hi, hle, hb⟩; have HI := Aside0.mk hi; have HLE := Aside0.mk (Nat.le_trans (below_size (by repeat (first | (with_reducible first | exact HB.out | apply below_alloc | apply pw_below_drewN | apply below_drew1) | exact HB.out))) hle); have HB6 := Aside0.mk (below_step (by repeat (first | (with_reducible first | exact HB.out | apply below_alloc | apply pw_below_drewN | apply below_drew1) | exact HB.out)) hb); clear HB hi hle hb; have HB := HB6; clear HB6; refine ⟨_, rfl, ?_⟩; obtain ⟨A0, c0, v1, v2, v3, h1, h2, h3, h4, h5, h6⟩ := HI.out; obtain ⟨A3, c3, e3⟩ := Kd.R_slice h6; subst e3; have hc4 : w6.cell? ⟨g, 5, none⟩ = some (.slice A3 _ c3) := (blk_cell h1 5).trans rfl; have HR := Aside0.mk h6; clear h1 h2 h3 h4 h5 h6))
    go_ret2
    exact ⟨_, rfl, Kd.R_mono (Kd.R_lower HR.out HLE.out) (fun _ _ => trivial), HB.out⟩

end Go.Proofs.Ytgkbeejkbhhjkaa.X
