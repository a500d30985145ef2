/- Several texts of this session in one: X32, X33, X35, X37, X38, X39, X40, X41, X43, X45, X46, PlEv, PlSlots, PlStructs, PlIn, PlMsgs. -/
import Derived.Test.YtgkbeejkbhhjkaaMFnExactLastRead0
import Derived.Test.YtgkbeejkbhhjkaaMFnExactLastRead3
import Derived.Test.YtgkbeejkbhhjkaaMFnExactLastRead6
import Derived.Test.YtgkbeejkbhhjkaaMFnExactLastRead2
import Derived.Test.YtgkbeejkbhhjkaaMFnExactLastRead5
import Derived.Test.YtgkbeejkbhhjkaaMFnExactLastRead4
import Derived.Test.YtgkbeejkbhhjkaaMFnExactLastReadWWords
import Derived.Test.YtgkbeejkbhhjkaaMFnExactLastReadWMore
import Derived.Test.YtgkbeejkbhhjkaaMFnExactLastRead1
/- What the functions of the program come to, and that they do: written by this session's program wip/xprint.py out of the translation; parts named extern are typed by hand. -/
namespace Go.Proofs.Ytgkbeejkbhhjkaa.X
open Go.RowKit Go.Proofs.YtgkbeejkbhhjkaaW.PrintWords Go.Proofs.YtgkbeejkbhhjkaaW.PrintLast Go.Proofs.YtgkbeejkbhhjkaaW.PrintMore
attribute [local go_sem] max2_int min2_int max_two min_two max_three min_three max_four min_four   -- for this text's walks alone
set_option linter.unusedVariables false
set_option linter.unusedSimpArgs false

/-! ### impl_slotter_step: function 62 -/
/- EXTERN, by hand (wip/hand/slotall.py): a tick of the program's ring. -/
/-- The stations ahead of o have been seen to. -/
def slIm (J : List (S30)) (fah : Bool) (n t : Nat) (s : SlSt) : Nat → SlSt
  | 0 => s
  | o + 1 => slOne J fah (t : Int) ((o + (n - t % n)) % n) (o : Int) (slIm J fah n t s o)
theorem slIm_inv {J : List (S30)} {fah : Bool} {n t : Nat} {s : SlSt} (hn : 0 < n) (h : SlInv n J.length s) : ∀ o, o ≤ n → SlInv n J.length (slIm J fah n t s o)
  | 0, _ => h
  | o + 1, ho => slOne_inv (by omega) (slIm_inv hn h o (by omega)) (Nat.mod_lt _ hn)
/-- The program's ring behind so many ticks. -/
def slImTo (J : List (S30)) (fah : Bool) (n : Nat) : Nat → SlSt
  | 0 => slInit n J.length
  | t + 1 => slIm J fah n t (slImTo J fah n t) n
theorem slImTo_inv (J : List (S30)) (fah : Bool) (n : Nat) (hn : 0 < n) : ∀ t, SlInv n J.length (slImTo J fah n t)
  | 0 => slInit_inv n J.length
  | t + 1 => slIm_inv hn (slImTo_inv J fah n hn t) n (Nat.le_refl _)
set_option maxHeartbeats 16000000 in
set_option maxRecDepth 100000 in
theorem step_calls (g n : Nat) (fah : Bool) (J : List (S30)) (s : SlSt) (t : Nat) (w0 w : World) (hI : IsT w0 w g (n : Int) fah (t : Int) J s.1 s.2.1 s.2.2) (hB : Below w0.heap.size w0 w) (hn : 2 ≤ n ∧ n ≤ 12) (hj : J.length ≤ 20) (ht : t ≤ 10000) (hinv0 : SlInv n J.length s) :
    Calls Try.prog 62 #[.pointer (some ⟨g, 0, none⟩)] w fun e w' => e = .returned (.tuple #[]) ∧ IsT w0 w' g (n : Int) fah ((t + 1 : Nat) : Int) J (slIm J fah n t s n).1 (slIm J fah n t s n).2.1 (slIm J fah n t s n).2.2 ∧ Below w0.heap.size w0 w' := by
  have HI := Aside0.mk hI
  have HB := Aside0.mk hB
  have HN := Aside0.mk hn
  have HT := Aside0.mk ht
  have HJ := Aside0.mk hj
  have HV := Aside0.mk (fun o (ho : o ≤ n) => slIm_inv (J := J) (fah := fah) (n := n) (t := t) (by omega) hinv0 o ho)
  obtain ⟨A0, c0, v1, v2, v3, h1, h2, _⟩ := hI
  have HG := Aside0.mk h2
  have hc0 : w.cell? ⟨g, 0, none⟩ = some (.int .i64 (n : Int)) := (blk_cell h1 0).trans rfl
  clear hB hn hj ht hinv0 h1 h2
  go_enter Try.func62, Try.ntmps62
  go_wp2
  go_loopg [8] (n + 1) (fun kq v8 w' => ∃ o : Nat, kq + o = n + 1 ∧ o ≤ n ∧ v8 = .int .i64 (o : Int) ∧ Aside0 (IsT w0 w' g (n : Int) fah (t : Int) J (slIm J fah n t s o).1 (slIm J fah n t s o).2.1 (slIm J fah n t s o).2.2) ∧ Aside0 (Below w0.heap.size w0 w'))
  case atStart => exact ⟨0, by omega, by omega, rfl, HI, HB⟩
  case round =>
    clear HI HB hc0
    obtain ⟨o, hko, hon, rfl, HI, HB⟩ := hrel
    by_cases ho : o < n
    · have hb1 : decide ((o : Int) < (n : Int)) = true := decide_eq_true (by omega)
      have hb2 : decide (o < n) = true := decide_eq_true ho
      have HON := Aside0.mk ho
      have HON2 := Aside0.mk hon
      have HKO := Aside0.mk hko
      clear ho hon hko
      go_wp2_with (first | (go_at_call 74; (with_reducible refine (station_calls g n o fah J (slIm J fah n t s o) t w0 _ ?s1 ?s2 HN.out HJ.out HT.out HON.out (HV.out o HON2.out)).mono ?_); (case s1 => exact HI.out); (case s2 => exact HB.out); rintro e w7 ⟨rfl, hi, hb⟩; clear HI HB; have HI := Aside0.mk hi; have HB := Aside0.mk hb; clear hi hb) | ((with_reducible refine gate_callee (f := 74) rfl ?_); refine goesL_ (some 13) rfl rfl Try.func74 (by kernel_rfl) rfl #[.pointer (some ⟨g, 0, none⟩), .int .i64 (o : Int)] rfl (by (try simp only [List.map_toArray, List.map_cons, List.map_nil]); first | done | rfl) ?_; (with_reducible refine (station_calls g n o fah J (slIm J fah n t s o) t w0 _ ?s1 ?s2 HN.out HJ.out HT.out HON.out (HV.out o HON2.out)).mono ?_); (case s1 => exact HI.out); (case s2 => exact HB.out); rintro e w7 ⟨rfl, hi, hb⟩; clear HI HB; have HI := Aside0.mk hi; have HB := Aside0.mk hb; clear hi hb; refine ⟨_, rfl, ?_⟩))
      go_roundg (n - o)
      case measure => have := HKO.out; have := HON.out; omega
      case rel => exact ⟨o + 1, by have := HON.out; omega, by have := HON.out; omega, by have := HON.out; have := HN.out; first | rfl | (rw [wrapS (by omega) (by omega)]; rfl), HI, HB⟩
    · obtain rfl : o = n := by omega
      have hb1 : decide ((o : Int) < (o : Int)) = false := decide_eq_false (by omega)
      have hb2 : decide (o < o) = false := decide_eq_false ho
      obtain ⟨A1, c1, V1, V2, V3, h1, _⟩ := HI.out
      have hc3 : wr.cell? ⟨g, 3, none⟩ = some (.int .i64 (t : Int)) := (blk_cell h1 3).trans rfl
      have hf3 := blk_frozen h1 3
      obtain ⟨t1, ht1⟩ : ∃ q : Int, (t : Int) + 1 = q := ⟨_, rfl⟩
      have hw1 : IntKind.i64.wrap ((t : Int) + 1) = t1 := by rw [IntKind.wrap_i64, ← ht1]; have := HT.out; omega
      have HS := Aside0.mk (HI.out.tick1 t1)
      have HT1 := Aside0.mk (show ((t + 1 : Nat) : Int) = t1 by omega)
      clear ho h1 ht1
      go_wp2
      first | go_end0 | ((try simp only [Exit.inBlock, Exit.then]); refine bodyPost_ret (results_none rfl _ _ _) rfl ?_)
      rw [HT1.out]
      exact ⟨rfl, HS.out, HB.out.setCell (p := ⟨g, 3, none⟩) HG.out _⟩

/-! ### slices_Index_int_int: function 75 -/
def slices_Index_int_int.l0 : Nat → List Int → Int → Int → Int → Option (Int)
  | 0, _, _, _, _ => none
  | k + 1, x0, x1, x7, x8 => if x8 < x7 then (if 0 ≤ x8 then (if x8 < (x0.length : Int) then (if x1 = (rd x0 x8) then (some x8) else (slices_Index_int_int.l0 k x0 x1 x7 (wrap64 (x8 + 1)))) else (none)) else (none)) else (some (-1))
def slices_Index_int_int.f (k : Nat) (l0 : List Int) (a1 : Int) : Option (Int) := slices_Index_int_int.l0 k l0 a1 (l0.length : Int) 0
set_option maxHeartbeats 8000000 in
set_option maxRecDepth 100000 in
theorem slices_Index_int_int.calls (k : Nat) (A0 : Option Addr) (c0 : Nat) (l0 : List Int) (a1 : Int) (r : Int) (w : World) (hr0 : Kd.C (Kd.int .i64) w A0 l0.length l0) (hc0 : l0.length ≤ c0) (h : slices_Index_int_int.f k l0 a1 = some r) :
    Calls Try.prog 75 #[.slice A0 l0.length c0, .int .i64 a1] w fun e w' => e = .returned (.int .i64 r) ∧ Drawn0 w w' := by
  have HR0 := Aside0.mk hr0
  have HC0 := Aside0.mk hc0
  clear hr0 hc0
  have H : (slices_Index_int_int.l0 k l0 a1 (l0.length : Int) 0) = some r := h
  clear h
  have H' := Aside0.mk H
  clear H
  go_enter Try.func75, Try.ntmps75
  go_wp2
  go_loopg [8] k (fun kq v8 w' => ∃ (x8_1 : Int), v8 = .int .i64 x8_1 ∧ Aside0 (slices_Index_int_int.l0 kq l0 a1 (l0.length : Int) x8_1 = some r) ∧ Aside0 (kq ≤ k) ∧ Drawn0 w w')
  case atStart => exact ⟨(0), (by first | rfl | (simp; done) | (simp [*]; done)), H', ⟨Nat.le_refl _⟩, by repeat (first | exact Drawn0.refl _ | apply Drawn0.step)⟩
  case round =>
    clear H'
    try clear p2
    obtain ⟨x8_1, rfl, HA, HK1, ⟨m1, rfl⟩⟩ := hrel
    cases gk with
    | zero => exact absurd HA.out (by simp [slices_Index_int_int.l0])
    | succ k1 =>
      have H := HA.out
      clear HA
      simp only [slices_Index_int_int.l0] at H
      by_cases c3 : x8_1 < (l0.length : Int)
      · rw [if_pos c3] at H
        have c3b0 : decide (x8_1 < (l0.length : Int)) = true := decide_eq_true c3
        clear c3
        by_cases c4 : 0 ≤ x8_1
        · rw [if_pos c4] at H
          have c4b0 : decide (0 ≤ x8_1) = true := decide_eq_true c4
          clear c4
          by_cases c5 : x8_1 < (l0.length : Int)
          · rw [if_pos c5] at H
            have c5b0 : decide (x8_1 < (l0.length : Int)) = true := decide_eq_true c5
            clear c5
            by_cases c6 : a1 = (rd l0 x8_1)
            · rw [if_pos c6] at H
              have c6b0 : (a1 == (rd l0 x8_1)) = true := beq_iff_eq.mpr c6
              have c6b1 : (a1 != (rd l0 x8_1)) = false := bne_eq_false_iff_eq.mpr c6
              clear c6
              obtain rfl := Option.some.inj H
              have p369 : 0 ≤ (x8_1 : Int) := of_decide_eq_true (by first | (with_reducible assumption) | assumption)
              have q369 : x8_1 < (l0.length : Int) := of_decide_eq_true (by first | (with_reducible assumption) | assumption)
              obtain ⟨ad369, e369, hx369_0⟩ := Kd.at_int HR0.out x8_1 p369 q369
              cases e369
              replace p369 := eq_true p369
              replace q369 := eq_true q369
              go_wp2
              go_ret
              exact ⟨by first | rfl | (simp; done) | (simp [*]; done), by repeat (first | exact Drawn0.refl _ | apply Drawn0.step)⟩
            · rw [if_neg c6] at H
              have c6b0 : (a1 == (rd l0 x8_1)) = false := beq_eq_false_iff_ne.mpr c6
              have c6b1 : (a1 != (rd l0 x8_1)) = true := bne_iff_ne.mpr c6
              have H' := Aside0.mk H
              clear H
              have p369 : 0 ≤ (x8_1 : Int) := of_decide_eq_true (by first | (with_reducible assumption) | assumption)
              have q369 : x8_1 < (l0.length : Int) := of_decide_eq_true (by first | (with_reducible assumption) | assumption)
              obtain ⟨ad369, e369, hx369_0⟩ := Kd.at_int HR0.out x8_1 p369 q369
              cases e369
              replace p369 := eq_true p369
              replace q369 := eq_true q369
              go_wp2
              go_roundg k1
              case measure => have := HK1.out; omega
              case rel => exact ⟨(wrap64 (x8_1 + 1)), (by first | rfl | (simp; done) | (simp [*]; done)), H', ⟨by have := HK1.out; omega⟩, by repeat (first | exact Drawn0.refl _ | apply Drawn0.step)⟩
          · rw [if_neg c5] at H
            exact absurd H (by simp)
        · rw [if_neg c4] at H
          exact absurd H (by simp)
      · rw [if_neg c3] at H
        have c3b0 : decide (x8_1 < (l0.length : Int)) = false := decide_eq_false c3
        clear c3
        obtain rfl := Option.some.inj H
        go_wp2
        go_ret
        exact ⟨by first | rfl | (simp; done) | (simp [*]; done), by repeat (first | exact Drawn0.refl _ | apply Drawn0.step)⟩

/-! ### slices_Contains_int_int: function 63 -/
def slices_Contains_int_int.f (k : Nat) (l0 : List Int) (a1 : Int) : Option (Bool) := (slices_Index_int_int.f k l0 a1).bind fun t370 => (some (decide (t370 ≥ 0)))
set_option maxHeartbeats 8000000 in
set_option maxRecDepth 100000 in
theorem slices_Contains_int_int.calls (k : Nat) (A0 : Option Addr) (c0 : Nat) (l0 : List Int) (a1 : Int) (r : Bool) (w : World) (hr0 : Kd.C (Kd.int .i64) w A0 l0.length l0) (hc0 : l0.length ≤ c0) (h : slices_Contains_int_int.f k l0 a1 = some r) :
    Calls Try.prog 63 #[.slice A0 l0.length c0, .int .i64 a1] w fun e w' => e = .returned (.bool r) ∧ Drawn0 w w' := by
  have HR0 := Aside0.mk hr0
  have HC0 := Aside0.mk hc0
  clear hr0 hc0
  have H : ((slices_Index_int_int.f k l0 a1).bind fun t370 => (some (decide (t370 ≥ 0)))) = some r := h
  clear h
  replace H := Option.bind_eq_some_iff.mp H
  obtain ⟨t370, A30, H⟩ := H
  replace H : (some (decide (t370 ≥ 0))) = some r := H
  have A3 := Aside0.mk A30
  clear A30
  obtain rfl := Option.some.inj H
  go_enter Try.func63, Try.ntmps63
  go_wp2_with (first | ((with_reducible refine gate_callee (f := 75) rfl ?_); refine goesL_ (some 7) rfl rfl Try.func75 (by kernel_rfl) rfl #[.slice A0 l0.length c0, .int .i64 a1] rfl (by (try simp only [List.map_toArray, List.map_cons, List.map_nil]); first | done | rfl | (simp only [List.length_drop, List.length_take]; rfl)) ?_; (with_reducible refine (slices_Index_int_int.calls k _ _ l0 a1 t370 _ ?side1 ?side2 A3.out).mono ?_); (case side1 => repeat (first | exact HR0.out | (with_reducible refine Kd.C_alloc ?_ _) | (with_reducible refine Kd.C_drewN ?_ _) | (with_reducible refine Kd.C_drew ?_))); (case side2 => exact HC0.out); rintro e w' ⟨rfl, ⟨nd, rfl⟩⟩; refine ⟨_, rfl, ?_⟩))
  go_ret
  exact ⟨by first | rfl | (simp; done) | (simp [*]; done), by repeat (first | exact Drawn0.refl _ | apply Drawn0.step)⟩

end Go.Proofs.Ytgkbeejkbhhjkaa.X

/- What the functions of the program come to, and that they do: written by this session's program wip/xprint.py out of the translation; parts named extern are typed by hand. -/
namespace Go.Proofs.Ytgkbeejkbhhjkaa.X
open Go.RowKit Go.Proofs.YtgkbeejkbhhjkaaW.PrintWords Go.Proofs.YtgkbeejkbhhjkaaW.PrintLast Go.Proofs.YtgkbeejkbhhjkaaW.PrintMore
attribute [local go_sem] max2_int min2_int max_two min_two max_three min_three max_four min_four   -- for this text's walks alone
set_option linter.unusedVariables false
set_option linter.unusedSimpArgs false

/-! ### impl_FullTicks: function 35 -/
/- EXTERN, by hand (wip/hand/slotall.py): the ticks at which all slots are full. -/
end Go.Proofs.Ytgkbeejkbhhjkaa.X

/- What the functions of the program come to, and that they do: written by this session's program wip/xprint.py out of the translation; parts named extern are typed by hand. -/
namespace Go.Proofs.Ytgkbeejkbhhjkaa.X
open Go.RowKit Go.Proofs.YtgkbeejkbhhjkaaW.PrintWords Go.Proofs.YtgkbeejkbhhjkaaW.PrintLast Go.Proofs.YtgkbeejkbhhjkaaW.PrintMore
attribute [local go_sem] max2_int min2_int max_two min_two max_three min_three max_four min_four   -- for this text's walks alone
set_option linter.unusedVariables false
set_option linter.unusedSimpArgs false

/-! ### spec_slEnd: function 64 -/
/- EXTERN, by hand (wip/hand/slotall.py): the reference's ring behind so many ticks. -/
set_option maxHeartbeats 16000000 in
set_option maxRecDepth 100000 in
theorem slEnd_calls (A0 : Option Addr) (c0 n : Nat) (fah : Bool) (J : List (S30)) (T : Nat) (w0 w : World) (hC : Kd.C k30 w0 A0 J.length J) (hB : Below w0.heap.size w0 w) (hn : 2 ≤ n ∧ n ≤ 12) (hj : J.length ≤ 20) (hT : T ≤ 10000) :
    Calls Try.prog 64 #[.agg #[.int .i64 (n : Int), .bool fah], .slice A0 J.length c0, .int .i64 (T : Int)] w fun e w' => ∃ g, e = .returned (.pointer (some ⟨g, 0, none⟩)) ∧ IsR w0 w' g (n : Int) fah J (slRunTo J fah n T).1 (slRunTo J fah n T).2.1 (slRunTo J fah n T).2.2 ∧ Below w0.heap.size w0 w' := by
  have HC := Aside0.mk hC
  have HB := Aside0.mk hB
  have HN := Aside0.mk hn
  have HJ := Aside0.mk hj
  have HT := Aside0.mk hT
  clear hC hB hn hj hT
  go_enter Try.func64, Try.ntmps64
  go_wp2_with (first | ((with_reducible refine gate_dst (N := 3) rfl ?_); refine box_event ?hg (N := 3) ?hd (cs := #[.int .i64 (n : Int), .bool fah]) (t := 28) ?hr ?_; (case hd => rfl); (case hg => rfl); (case hr => first | (go_simp; done) | (go_simp; rfl)); intro b hg w3 hbox hb; have HB3 := Aside0.mk (below_step (by repeat (first | (with_reducible first | exact HB.out | apply below_alloc | apply pw_below_drewN | apply below_drew1) | exact HB.out)) hb); clear HB; have HB := HB3; clear HB3; have hk0 : w3.cell? ⟨b, 0, none⟩ = some (.int .i64 (n : Int)) := (blk_cell hbox 0).trans rfl; have hk1 : w3.cell? ⟨b, 1, none⟩ = some (.bool fah) := (blk_cell hbox 1).trans rfl; clear hg hb hbox) | (go_at_call 57; (with_reducible refine (slNew_calls A0 c0 n fah J w0 _ HC.out ?s1 HN.out HJ.out).mono ?_); (case s1 => exact (by repeat (first | (with_reducible first | exact HB.out | apply below_alloc | apply pw_below_drewN | apply below_drew1) | exact HB.out))); rintro e w6 ⟨g, rfl, hi, hb⟩; have HI := Aside0.mk hi; clear HB hi; have HB := Aside0.mk hb; clear hb) | ((with_reducible refine gate_callee (f := 57) rfl ?_); refine goesL_ (some 11) rfl rfl Try.func57 (by kernel_rfl) rfl #[.agg #[.int .i64 (n : Int), .bool fah], .slice A0 J.length c0] rfl (by (try simp only [List.map_toArray, List.map_cons, List.map_nil]); first | done | rfl) ?_; (with_reducible refine (slNew_calls A0 c0 n fah J w0 _ HC.out ?s1 HN.out HJ.out).mono ?_); (case s1 => exact (by repeat (first | (with_reducible first | exact HB.out | apply below_alloc | apply pw_below_drewN | apply below_drew1) | exact HB.out))); rintro e w6 ⟨g, rfl, hi, hb⟩; have HI := Aside0.mk hi; clear HB hi; have HB := Aside0.mk hb; clear hb; refine ⟨_, rfl, ?_⟩))
  go_loopg [8] (T + 1) (fun kq v8 w' => ∃ k : Nat, kq + k = T + 1 ∧ k ≤ T ∧ v8 = .int .i64 (k : Int) ∧ Aside0 (IsR w0 w' g (n : Int) fah J (slRunTo J fah n k).1 (slRunTo J fah n k).2.1 (slRunTo J fah n k).2.2) ∧ Aside0 (Below w0.heap.size w0 w'))
  case atStart => exact ⟨0, by omega, by omega, rfl, HI, HB⟩
  case round =>
    clear HI HB hk0 hk1
    obtain ⟨k, hkk, hkT, rfl, HI, HB⟩ := hrel
    by_cases hk : k < T
    · have hb1 : decide ((k : Int) < (T : Int)) = true := decide_eq_true (by omega)
      have hb2 : decide (k < T) = true := decide_eq_true hk
      have HKL := Aside0.mk hk
      have HKK := Aside0.mk hkk
      have HKT := Aside0.mk (show 0 ≤ (k : Int) ∧ (k : Int) ≤ 100000 by have := HT.out; omega)
      clear hk hkk hkT
      go_wp2_with (first | (go_at_call 58; (with_reducible refine (tick_calls g n fah J (slRunTo J fah n k) (k : Int) w0 _ ?s1 ?s2 ⟨by have := HN.out; omega, by have := HN.out; omega⟩ HJ.out HKT.out (slRunTo_inv J fah n k)).mono ?_); (case s1 => exact HI.out); (case s2 => exact HB.out); rintro e w7 ⟨rfl, hi, hb⟩; clear HI HB; have HI := Aside0.mk hi; have HB := Aside0.mk hb; clear hi hb) | ((with_reducible refine gate_callee (f := 58) rfl ?_); refine goesL_ (some 19) rfl rfl Try.func58 (by kernel_rfl) rfl #[.pointer (some ⟨g, 0, none⟩), .int .i64 (k : Int)] rfl (by (try simp only [List.map_toArray, List.map_cons, List.map_nil]); first | done | rfl) ?_; (with_reducible refine (tick_calls g n fah J (slRunTo J fah n k) (k : Int) w0 _ ?s1 ?s2 ⟨by have := HN.out; omega, by have := HN.out; omega⟩ HJ.out HKT.out (slRunTo_inv J fah n k)).mono ?_); (case s1 => exact HI.out); (case s2 => exact HB.out); rintro e w7 ⟨rfl, hi, hb⟩; clear HI HB; have HI := Aside0.mk hi; have HB := Aside0.mk hb; clear hi hb; refine ⟨_, rfl, ?_⟩))
      go_roundg (T - k)
      case measure => have := HKK.out; have := HKL.out; omega
      case rel => exact ⟨k + 1, by have := HKL.out; omega, by have := HKL.out; omega, by have := HKL.out; have := HT.out; first | rfl | (rw [wrapS (by omega) (by omega)]; rfl), HI, HB⟩
    · obtain rfl : k = T := by omega
      have hb1 : decide ((k : Int) < (k : Int)) = false := decide_eq_false (by omega)
      have hb2 : decide (k < k) = false := decide_eq_false hk
      clear hk
      go_wp2
      go_ret
      exact ⟨g, rfl, HI.out, HB.out⟩

/-! ### spec_SlotsAt: function 36 -/
/- EXTERN, by hand (wip/hand/slotall.py): the slots behind a tick. -/
/-! ### impl_SlotsAt: function 37 -/
/- EXTERN, by hand (wip/hand/slotall.py): the slots behind a tick. -/
end Go.Proofs.Ytgkbeejkbhhjkaa.X

/- What the functions of the program come to, and that they do: written by this session's program wip/xprint.py out of the translation; parts named extern are typed by hand. -/
namespace Go.Proofs.Ytgkbeejkbhhjkaa.X
open Go.RowKit Go.Proofs.YtgkbeejkbhhjkaaW.PrintWords Go.Proofs.YtgkbeejkbhhjkaaW.PrintLast Go.Proofs.YtgkbeejkbhhjkaaW.PrintMore
attribute [local go_sem] max2_int min2_int max_two min_two max_three min_three max_four min_four   -- for this text's walks alone
set_option linter.unusedVariables false
set_option linter.unusedSimpArgs false

/-! ### spec_slTicks: function 76 -/
def spec_slTicks.f (a0_0 : Int) (a0_1 : Bool) (l1 : List (S30)) : Option (Int) := if (l1.length : Int) = 0 then (some 0) else (if 0 ≤ (wrap64 ((l1.length : Int) - 1)) then (if (wrap64 ((l1.length : Int) - 1)) < (l1.length : Int) then (some (wrap64 (((rd_T30 l1 (wrap64 ((l1.length : Int) - 1))).f0) + (wrap64 ((wrap64 (2 * a0_0)) * (wrap64 ((l1.length : Int) + 1))))))) else (none)) else (none))
set_option maxHeartbeats 8000000 in
set_option maxRecDepth 100000 in
theorem spec_slTicks.calls (a0_0 : Int) (a0_1 : Bool) (A1 : Option Addr) (c1 : Nat) (l1 : List (S30)) (r : Int) (w : World) (hr1 : Kd.C k30 w A1 l1.length l1) (hc1 : l1.length ≤ c1) (h : spec_slTicks.f a0_0 a0_1 l1 = some r) :
    Calls Try.prog 76 #[.agg #[.int .i64 a0_0, .bool a0_1], .slice A1 l1.length c1] w fun e w' => e = .returned (.int .i64 r) ∧ Below w.heap.size w w' := by
  have hu28 := Try.underlying28
  have HR1 := Aside0.mk hr1
  have HC1 := Aside0.mk hc1
  clear hr1 hc1
  have HB := Aside0.mk (Below.refl w.heap.size w)
  have H : (if (l1.length : Int) = 0 then (some 0) else (if 0 ≤ (wrap64 ((l1.length : Int) - 1)) then (if (wrap64 ((l1.length : Int) - 1)) < (l1.length : Int) then (some (wrap64 (((rd_T30 l1 (wrap64 ((l1.length : Int) - 1))).f0) + (wrap64 ((wrap64 (2 * a0_0)) * (wrap64 ((l1.length : Int) + 1))))))) else (none)) else (none))) = some r := h
  clear h
  by_cases c3 : (l1.length : Int) = 0
  · rw [if_pos c3] at H
    have c3b0 : ((l1.length : Int) == 0) = true := beq_iff_eq.mpr c3
    have c3b1 : ((l1.length : Int) != 0) = false := bne_eq_false_iff_eq.mpr c3
    clear c3
    obtain rfl := Option.some.inj H
    go_enter Try.func76, Try.ntmps76
    go_wp2_with (first | ((with_reducible refine gate_dst (N := 2) rfl ?_); refine box_event ?hg (N := 2) ?hd (cs := #[.int .i64 a0_0, .bool a0_1]) (t := 28) ?hr ?_; (case hd => rfl); (case hg => rfl); (case hr => first | (go_simp; done) | (go_simp; rfl)); intro gb433 hg w4 hbox hb; have n0_ := Aside0.mk (below_step (by repeat (first | (with_reducible first | exact HB.out | apply below_alloc | apply pw_below_drewN | apply below_drew1) | exact HB.out)) hb); have n1_ := Aside0.mk (hbox); have n2_ := Aside0.mk ((by rw [hg]; exact (below_size (by repeat (first | (with_reducible first | exact HB.out | apply below_alloc | apply pw_below_drewN | apply below_drew1) | exact HB.out))) : w.heap.size ≤ gb433)); have n3_ := Aside0.mk ((by rw [hg]; exact (below_size (by repeat (first | (with_reducible first | exact HB.out | apply below_alloc | apply pw_below_drewN | apply below_drew1) | exact HB.out))) : w.heap.size ≤ gb433)); clear HB; have HB := n0_; have BK433 := n1_; have GW433 := n2_; have GE433 := n3_; clear n0_ n1_ n2_ n3_; clear hb hbox hg))
    repeat (go_quiet (first | ((with_reducible refine gate_dst (N := 2) rfl ?_); refine box_event ?hg (N := 2) ?hd (cs := #[.int .i64 a0_0, .bool a0_1]) (t := 28) ?hr ?_; (case hd => rfl); (case hg => rfl); (case hr => first | (go_simp; done) | (go_simp; rfl)); intro gb433 hg w4 hbox hb; have n0_ := Aside0.mk (below_step (by repeat (first | (with_reducible first | exact HB.out | apply below_alloc | apply pw_below_drewN | apply below_drew1) | exact HB.out)) hb); have n1_ := Aside0.mk (hbox); have n2_ := Aside0.mk ((by rw [hg]; exact (below_size (by repeat (first | (with_reducible first | exact HB.out | apply below_alloc | apply pw_below_drewN | apply below_drew1) | exact HB.out))) : w.heap.size ≤ gb433)); have n3_ := Aside0.mk ((by rw [hg]; exact (below_size (by repeat (first | (with_reducible first | exact HB.out | apply below_alloc | apply pw_below_drewN | apply below_drew1) | exact HB.out))) : w.heap.size ≤ gb433)); clear HB; have HB := n0_; have BK433 := n1_; have GW433 := n2_; have GE433 := n3_; clear n0_ n1_ n2_ n3_; clear hb hbox hg)); try go_wp2_with (first | ((with_reducible refine gate_dst (N := 2) rfl ?_); refine box_event ?hg (N := 2) ?hd (cs := #[.int .i64 a0_0, .bool a0_1]) (t := 28) ?hr ?_; (case hd => rfl); (case hg => rfl); (case hr => first | (go_simp; done) | (go_simp; rfl)); intro gb433 hg w4 hbox hb; have n0_ := Aside0.mk (below_step (by repeat (first | (with_reducible first | exact HB.out | apply below_alloc | apply pw_below_drewN | apply below_drew1) | exact HB.out)) hb); have n1_ := Aside0.mk (hbox); have n2_ := Aside0.mk ((by rw [hg]; exact (below_size (by repeat (first | (with_reducible first | exact HB.out | apply below_alloc | apply pw_below_drewN | apply below_drew1) | exact HB.out))) : w.heap.size ≤ gb433)); have n3_ := Aside0.mk ((by rw [hg]; exact (below_size (by repeat (first | (with_reducible first | exact HB.out | apply below_alloc | apply pw_below_drewN | apply below_drew1) | exact HB.out))) : w.heap.size ≤ gb433)); clear HB; have HB := n0_; have BK433 := n1_; have GW433 := n2_; have GE433 := n3_; clear n0_ n1_ n2_ n3_; clear hb hbox hg)))
    go_ret
    exact ⟨by first | rfl | (simp [errW_none, errW_some] <;> rfl) | (simp [*, errW_none, errW_some] <;> rfl), by repeat (first | (with_reducible first | exact HB.out | apply below_alloc | apply pw_below_drewN | apply below_drew1 | refine below_set ?_ GE433.out) | exact HB.out)⟩
  · rw [if_neg c3] at H
    have c3b0 : ((l1.length : Int) == 0) = false := beq_eq_false_iff_ne.mpr c3
    have c3b1 : ((l1.length : Int) != 0) = true := bne_iff_ne.mpr c3
    have c3b2 : ¬ (l1 = []) := fun h_ => c3 (by rw [h_]; rfl)
    obtain ⟨ji5, hji5⟩ : ∃ j_ : Int, (wrap64 ((l1.length : Int) - 1)) = j_ := ⟨_, rfl⟩
    replace H : (if 0 ≤ (ji5) then (if (ji5) < (l1.length : Int) then (some (wrap64 (((rd_T30 l1 (ji5)).f0) + (wrap64 ((wrap64 (2 * a0_0)) * (wrap64 ((l1.length : Int) + 1))))))) else (none)) else (none)) = some r := by first | (rw [hji5] at H; exact H) | (simp only [hji5] at H ⊢; exact H)
    have hji5w : (IntKind.i64.wrap ((l1.length : Int) - 1)) = ji5 := (i64_w _).trans hji5
    by_cases c6 : 0 ≤ (ji5)
    · rw [if_pos c6] at H
      have c6b0 : decide (0 ≤ (ji5)) = true := decide_eq_true c6
      clear c6
      by_cases c7 : (ji5) < (l1.length : Int)
      · rw [if_pos c7] at H
        have c7b0 : decide ((ji5) < (l1.length : Int)) = true := decide_eq_true c7
        clear c7
        obtain rfl := Option.some.inj H
        go_enter Try.func76, Try.ntmps76
        go_wp2_with (first | ((with_reducible refine gate_dst (N := 2) rfl ?_); refine box_event ?hg (N := 2) ?hd (cs := #[.int .i64 a0_0, .bool a0_1]) (t := 28) ?hr ?_; (case hd => rfl); (case hg => rfl); (case hr => first | (go_simp; done) | (go_simp; rfl)); intro gb433 hg w8 hbox hb; have n0_ := Aside0.mk (below_step (by repeat (first | (with_reducible first | exact HB.out | apply below_alloc | apply pw_below_drewN | apply below_drew1) | exact HB.out)) hb); have n1_ := Aside0.mk (hbox); have n2_ := Aside0.mk ((by rw [hg]; exact (below_size (by repeat (first | (with_reducible first | exact HB.out | apply below_alloc | apply pw_below_drewN | apply below_drew1) | exact HB.out))) : w.heap.size ≤ gb433)); have n3_ := Aside0.mk ((by rw [hg]; exact (below_size (by repeat (first | (with_reducible first | exact HB.out | apply below_alloc | apply pw_below_drewN | apply below_drew1) | exact HB.out))) : w.heap.size ≤ gb433)); clear HB; have HB := n0_; have BK433 := n1_; have GW433 := n2_; have GE433 := n3_; clear n0_ n1_ n2_ n3_; clear hb hbox hg; have p434 : 0 ≤ ((ji5) : Int) := of_decide_eq_true (by first | (with_reducible assumption) | assumption); have q434 : (ji5) < (l1.length : Int) := of_decide_eq_true (by first | (with_reducible assumption) | assumption); obtain ⟨ad434, e434, hx434_0, hx434_1, hx434_2⟩ := at_T30 HR1.out (ji5) p434 q434; cases e434; replace hx434_0 := (HB.out.cell (World.block_lt_of_cell? w _ hx434_0)).trans hx434_0; replace hx434_1 := (HB.out.cell (World.block_lt_of_cell? w _ hx434_1)).trans hx434_1; replace hx434_2 := (HB.out.cell (World.block_lt_of_cell? w _ hx434_2)).trans hx434_2; replace p434 := eq_true p434; replace q434 := eq_true q434; have hcz9_0 : w8.cell? ⟨gb433, 0, none⟩ = some (.int .i64 a0_0) := (blk_cell BK433.out 0).trans rfl; have hcz9_1 : w8.cell? ⟨gb433, 1, none⟩ = some (.bool a0_1) := (blk_cell BK433.out 1).trans rfl; have hfz9_0 := blk_frozen BK433.out 0; have hfz9_1 := blk_frozen BK433.out 1))
        repeat (go_quiet (first | ((with_reducible refine gate_dst (N := 2) rfl ?_); refine box_event ?hg (N := 2) ?hd (cs := #[.int .i64 a0_0, .bool a0_1]) (t := 28) ?hr ?_; (case hd => rfl); (case hg => rfl); (case hr => first | (go_simp; done) | (go_simp; rfl)); intro gb433 hg w8 hbox hb; have n0_ := Aside0.mk (below_step (by repeat (first | (with_reducible first | exact HB.out | apply below_alloc | apply pw_below_drewN | apply below_drew1) | exact HB.out)) hb); have n1_ := Aside0.mk (hbox); have n2_ := Aside0.mk ((by rw [hg]; exact (below_size (by repeat (first | (with_reducible first | exact HB.out | apply below_alloc | apply pw_below_drewN | apply below_drew1) | exact HB.out))) : w.heap.size ≤ gb433)); have n3_ := Aside0.mk ((by rw [hg]; exact (below_size (by repeat (first | (with_reducible first | exact HB.out | apply below_alloc | apply pw_below_drewN | apply below_drew1) | exact HB.out))) : w.heap.size ≤ gb433)); clear HB; have HB := n0_; have BK433 := n1_; have GW433 := n2_; have GE433 := n3_; clear n0_ n1_ n2_ n3_; clear hb hbox hg; have p434 : 0 ≤ ((ji5) : Int) := of_decide_eq_true (by first | (with_reducible assumption) | assumption); have q434 : (ji5) < (l1.length : Int) := of_decide_eq_true (by first | (with_reducible assumption) | assumption); obtain ⟨ad434, e434, hx434_0, hx434_1, hx434_2⟩ := at_T30 HR1.out (ji5) p434 q434; cases e434; replace hx434_0 := (HB.out.cell (World.block_lt_of_cell? w _ hx434_0)).trans hx434_0; replace hx434_1 := (HB.out.cell (World.block_lt_of_cell? w _ hx434_1)).trans hx434_1; replace hx434_2 := (HB.out.cell (World.block_lt_of_cell? w _ hx434_2)).trans hx434_2; replace p434 := eq_true p434; replace q434 := eq_true q434; have hcz9_0 : w8.cell? ⟨gb433, 0, none⟩ = some (.int .i64 a0_0) := (blk_cell BK433.out 0).trans rfl; have hcz9_1 : w8.cell? ⟨gb433, 1, none⟩ = some (.bool a0_1) := (blk_cell BK433.out 1).trans rfl; have hfz9_0 := blk_frozen BK433.out 0; have hfz9_1 := blk_frozen BK433.out 1)); try go_wp2_with (first | ((with_reducible refine gate_dst (N := 2) rfl ?_); refine box_event ?hg (N := 2) ?hd (cs := #[.int .i64 a0_0, .bool a0_1]) (t := 28) ?hr ?_; (case hd => rfl); (case hg => rfl); (case hr => first | (go_simp; done) | (go_simp; rfl)); intro gb433 hg w8 hbox hb; have n0_ := Aside0.mk (below_step (by repeat (first | (with_reducible first | exact HB.out | apply below_alloc | apply pw_below_drewN | apply below_drew1) | exact HB.out)) hb); have n1_ := Aside0.mk (hbox); have n2_ := Aside0.mk ((by rw [hg]; exact (below_size (by repeat (first | (with_reducible first | exact HB.out | apply below_alloc | apply pw_below_drewN | apply below_drew1) | exact HB.out))) : w.heap.size ≤ gb433)); have n3_ := Aside0.mk ((by rw [hg]; exact (below_size (by repeat (first | (with_reducible first | exact HB.out | apply below_alloc | apply pw_below_drewN | apply below_drew1) | exact HB.out))) : w.heap.size ≤ gb433)); clear HB; have HB := n0_; have BK433 := n1_; have GW433 := n2_; have GE433 := n3_; clear n0_ n1_ n2_ n3_; clear hb hbox hg; have p434 : 0 ≤ ((ji5) : Int) := of_decide_eq_true (by first | (with_reducible assumption) | assumption); have q434 : (ji5) < (l1.length : Int) := of_decide_eq_true (by first | (with_reducible assumption) | assumption); obtain ⟨ad434, e434, hx434_0, hx434_1, hx434_2⟩ := at_T30 HR1.out (ji5) p434 q434; cases e434; replace hx434_0 := (HB.out.cell (World.block_lt_of_cell? w _ hx434_0)).trans hx434_0; replace hx434_1 := (HB.out.cell (World.block_lt_of_cell? w _ hx434_1)).trans hx434_1; replace hx434_2 := (HB.out.cell (World.block_lt_of_cell? w _ hx434_2)).trans hx434_2; replace p434 := eq_true p434; replace q434 := eq_true q434; have hcz9_0 : w8.cell? ⟨gb433, 0, none⟩ = some (.int .i64 a0_0) := (blk_cell BK433.out 0).trans rfl; have hcz9_1 : w8.cell? ⟨gb433, 1, none⟩ = some (.bool a0_1) := (blk_cell BK433.out 1).trans rfl; have hfz9_0 := blk_frozen BK433.out 0; have hfz9_1 := blk_frozen BK433.out 1)))
        go_ret
        exact ⟨by first | rfl | (simp [errW_none, errW_some] <;> rfl) | (simp only [← hji5]; first | rfl | (simp [errW_none, errW_some] <;> rfl)) | (simp [*, errW_none, errW_some] <;> rfl), by repeat (first | (with_reducible first | exact HB.out | apply below_alloc | apply pw_below_drewN | apply below_drew1 | refine below_set ?_ GE433.out) | exact HB.out)⟩
      · rw [if_neg c7] at H
        exact absurd H (by simp)
    · rw [if_neg c6] at H
      exact absurd H (by simp)

/-! ### spec_slWhole: function 65 -/
/- EXTERN, by hand (wip/hand/slotall.py): the reference's ring behind all messages. -/
set_option maxHeartbeats 16000000 in
set_option maxRecDepth 100000 in
theorem slWhole_calls (A1 : Option Addr) (c1 n : Nat) (fah : Bool) (l1 : List (S30)) (T : Nat) (w : World) (hr1 : Kd.C k30 w A1 l1.length l1) (hc1 : l1.length ≤ c1) (hn : 2 ≤ n ∧ n ≤ 12) (hj : l1.length ≤ 20) (hT : T ≤ 10000) (hTT : spec_slTicks.f (n : Int) fah l1 = some (T : Int)) :
    Calls Try.prog 65 #[.agg #[.int .i64 (n : Int), .bool fah], .slice A1 l1.length c1] w fun e w' => ∃ g wx, e = .returned (.pointer (some ⟨g, 0, none⟩)) ∧ IsR wx w' g (n : Int) fah l1 (slRunTo l1 fah n T).1 (slRunTo l1 fah n T).2.1 (slRunTo l1 fah n T).2.2 ∧ w.heap.size ≤ wx.heap.size ∧ Below w.heap.size w w' := by
  have HC := Aside0.mk hr1
  have HCC := Aside0.mk hc1
  have HB := Aside0.mk (Below.refl w.heap.size w)
  have HN := Aside0.mk hn
  have HJ := Aside0.mk hj
  have HT := Aside0.mk hT
  have HTT := Aside0.mk hTT
  clear hr1 hc1 hn hj hT hTT
  go_enter Try.func65, Try.ntmps65
  go_upto_region 1 with (first | ((with_reducible refine gate_dst (N := 2) rfl ?_); refine box_event ?hg (N := 2) ?hd (cs := #[.int .i64 (n : Int), .bool fah]) (t := 28) ?hr ?_; (case hd => rfl); (case hg => rfl); (case hr => first | (go_simp; done) | (go_simp; rfl)); intro b hg w3 hbox hb; have HB3 := Aside0.mk (below_step (by repeat (first | (with_reducible first | exact HB.out | apply below_alloc | apply pw_below_drewN | apply below_drew1) | exact HB.out)) hb); clear HB; have HB := HB3; clear HB3; have hk0 : w3.cell? ⟨b, 0, none⟩ = some (.int .i64 (n : Int)) := (blk_cell hbox 0).trans rfl; have hk1 : w3.cell? ⟨b, 1, none⟩ = some (.bool fah) := (blk_cell hbox 1).trans rfl; clear hg hb hbox))
  go_cut [4] (fun v4 wc => ∃ g wx, v4 = .pointer (some ⟨g, 0, none⟩) ∧ Aside0 (w.heap.size ≤ wx.heap.size) ∧ Aside0 (IsR wx wc g (n : Int) fah l1 (slRunTo l1 fah n T).1 (slRunTo l1 fah n T).2.1 (slRunTo l1 fah n T).2.2) ∧ Aside0 (Below w.heap.size w wc))
  case first =>
    go_region_held3 (fun w' => w'.cell? ⟨b, 0, none⟩ = some (.int .i64 (n : Int)) ∧ w'.cell? ⟨b, 1, none⟩ = some (.bool fah)) (first | go_keep | (go_split_ands; exact ⟨HKA.out, HKB.out⟩)) ((first | (go_at_call 76; refine (spec_slTicks.calls (n : Int) fah A1 c1 l1 (T : Int) _ ?c1 HCC.out HTT.out).mono ?_; (case c1 => repeat (first | exact (Kd.C_below HC.out HB.out) | (with_reducible refine Kd.C_alloc ?_ _) | (with_reducible refine Kd.C_drewN ?_ _) | (with_reducible refine Kd.C_drew ?_))); rintro e w9 ⟨rfl, hb9⟩; have HBW := Aside0.mk (below_step (show Below w3.heap.size w3 _ from by repeat (first | (with_reducible exact Below.refl _ _) | apply below_alloc | apply pw_below_drewN | apply below_drew1)) hb9); have HKA := Aside0.mk (pw_cell_below HBW.out hk0); have HKB := Aside0.mk (pw_cell_below HBW.out hk1); have HB9 := Aside0.mk (below_step HB.out HBW.out); clear hb9) | (go_at_call 64; refine (slEnd_calls A1 c1 n fah l1 T _ _ ?c1 (Below.refl _ _) HN.out HJ.out HT.out).mono ?_; (case c1 => repeat (first | exact (Kd.C_below HC.out HB9.out) | (with_reducible refine Kd.C_alloc ?_ _) | (with_reducible refine Kd.C_drewN ?_ _) | (with_reducible refine Kd.C_drew ?_))); rintro e w6 ⟨g, rfl, hi, hb⟩; have HI := Aside0.mk hi; have HBX := Aside0.mk (below_step (show Below w9.heap.size w9 _ from by repeat (first | (with_reducible exact Below.refl _ _) | apply below_alloc | apply pw_below_drewN | apply below_drew1)) hb); have HB6 := Aside0.mk (below_step HB9.out HBX.out); have HLE := Aside0.mk (below_size (show Below w.heap.size w _ from (by repeat (first | exact HB9.out | apply pw_below_drewN | apply below_drew1)))); have HKC := HKA; have HKD := HKB; clear HKA HKB; have HKA := Aside0.mk (pw_cell_below HBX.out HKC.out); have HKB := Aside0.mk (pw_cell_below HBX.out HKD.out); clear hi hb)))
    all_goals (try go_wp2_with fail)
    all_goals go_meet
    all_goals exact ⟨g, _, rfl, HLE, ⟨by repeat (first | exact HI.out | apply IsR.drewN | apply IsR.drew)⟩, ⟨by repeat (first | exact HB6.out | apply pw_below_drewN | apply below_drew1)⟩⟩
  case rest =>
    clear hk0 hk1 HB
    obtain ⟨g, wx, rfl, HLE, HI, HB⟩ := hcut
    go_wp2
    go_ret
    exact ⟨g, wx, rfl, HI.out, HLE.out, HB.out⟩

/-! ### spec_l1Most: function 66 -/
def spec_l1Most.f (a0 : Int) (a1 : Int) : Option (Int) := if a0 > a1 then (some a0) else (some a1)
set_option maxHeartbeats 8000000 in
set_option maxRecDepth 100000 in
theorem spec_l1Most.calls (a0 : Int) (a1 : Int) (r : Int) (w : World) (h : spec_l1Most.f a0 a1 = some r) :
    Calls Try.prog 66 #[.int .i64 a0, .int .i64 a1] w fun e w' => e = .returned (.int .i64 r) ∧ Drawn0 w w' := by
  have H : (if a0 > a1 then (some a0) else (some a1)) = some r := h
  clear h
  by_cases c3 : a0 > a1
  · rw [if_pos c3] at H
    have c3b0 : decide (a1 < a0) = true := decide_eq_true c3
    clear c3
    obtain rfl := Option.some.inj H
    go_enter Try.func66, Try.ntmps66
    go_wp2
    go_ret
    exact ⟨by first | rfl | (simp; done) | (simp [*]; done), by repeat (first | exact Drawn0.refl _ | apply Drawn0.step)⟩
  · rw [if_neg c3] at H
    have c3b0 : decide (a1 < a0) = false := decide_eq_false c3
    clear c3
    obtain rfl := Option.some.inj H
    go_enter Try.func66, Try.ntmps66
    go_wp2
    go_ret
    exact ⟨by first | rfl | (simp; done) | (simp [*]; done), by repeat (first | exact Drawn0.refl _ | apply Drawn0.step)⟩

/-! ### spec_LastRead: function 38 -/
/- EXTERN, by hand (wip/hand/slotall.py): when the last message is read. -/
/-- The greatest of the first numbers, 0 of none. -/
def slMost (l : List Int) : Nat → Int
  | 0 => 0
  | i + 1 => (spec_l1Most.f (slMost l i) (rd l (i : Int))).getD 0
theorem slMost_step (l : List Int) (i : Nat) : spec_l1Most.f (slMost l i) (rd l (i : Int)) = some (slMost l (i + 1)) := by
  rw [slMost]
  unfold spec_l1Most.f
  split <;> rfl
def spec_LastRead.f (k : Nat) (a0_0 : Int) (a0_1 : Bool) (l1 : List (S30)) : Option (Int × Bool) := (spec_slAll.f k a0_0 a0_1 l1).bind fun b1 => if b1 = true then (if 2 ≤ a0_0 ∧ a0_0 ≤ 12 ∧ l1.length ≤ 20 then ((spec_slTicks.f a0_0 a0_1 l1).bind fun T => if 0 ≤ T ∧ T ≤ 9000 then some (slMost (slRunTo l1 a0_1 a0_0.toNat T.toNat).2.2 (slRunTo l1 a0_1 a0_0.toNat T.toNat).2.2.length, true) else none) else none) else some (0, false)
set_option maxHeartbeats 16000000 in
set_option maxRecDepth 100000 in
theorem spec_LastRead.calls (k : Nat) (a0_0 : Int) (a0_1 : Bool) (A1 : Option Addr) (c1 : Nat) (l1 : List (S30)) (r1 : Int) (r2 : Bool) (w : World) (hr1 : Kd.C k30 w A1 l1.length l1) (hc1 : l1.length ≤ c1) (h : spec_LastRead.f k a0_0 a0_1 l1 = some (r1, r2)) :
    Calls Try.prog 38 #[.agg #[.int .i64 a0_0, .bool a0_1], .slice A1 l1.length c1] w fun e w' => e = .returned (.tuple #[.int .i64 r1, .bool r2]) ∧ Below w.heap.size w w' := by
  unfold spec_LastRead.f at h
  have HC := Aside0.mk hr1
  have HCC := Aside0.mk hc1
  have HB := Aside0.mk (Below.refl w.heap.size w)
  clear hr1 hc1
  obtain ⟨b1, e1, h⟩ := Option.bind_eq_some_iff.mp h
  have E1 := Aside0.mk e1
  clear e1
  cases b1 with
  | false =>
    rw [if_neg (by simp)] at h
    obtain ⟨rfl, rfl⟩ := Prod.mk.inj (Option.some.inj h)
    clear h
    go_enter Try.func38, Try.ntmps38
    go_wp2_with (first | ((with_reducible refine gate_dst (N := 2) rfl ?_); refine box_event ?hg (N := 2) ?hd (cs := #[.int .i64 a0_0, .bool a0_1]) (t := 28) ?hr ?_; (case hd => rfl); (case hg => rfl); (case hr => first | (go_simp; done) | (go_simp; rfl)); intro b hg w3 hbox hb; have HB3 := Aside0.mk (below_step (by repeat (first | (with_reducible first | exact HB.out | apply below_alloc | apply pw_below_drewN | apply below_drew1) | exact HB.out)) hb); clear HB; have HB := HB3; clear HB3; have HBX := Aside0.mk hbox; have hk0 : w3.cell? ⟨b, 0, none⟩ = some (.int .i64 a0_0) := (blk_cell hbox 0).trans rfl; have hk1 : w3.cell? ⟨b, 1, none⟩ = some (.bool a0_1) := (blk_cell hbox 1).trans rfl; clear hg hb hbox) | (go_at_call 50; (with_reducible refine (spec_slAll.calls k a0_0 a0_1 A1 c1 l1 false _ ?s1 HCC.out E1.out).mono ?_); (case s1 => repeat (first | exact (Kd.C_below HC.out HB.out) | (with_reducible refine Kd.C_alloc ?_ _) | (with_reducible refine Kd.C_drewN ?_ _) | (with_reducible refine Kd.C_drew ?_))); rintro e w9 ⟨rfl, hb⟩; have HX9 := Aside0.mk (blk_below HBX.out hb); have HB9 := Aside0.mk (below_step (by repeat (first | (with_reducible first | exact HB.out | apply below_alloc | apply pw_below_drewN | apply below_drew1) | exact HB.out)) hb); clear HBX HB hb hk0 hk1; have HBX := HX9; have HB := HB9; clear HX9 HB9; have hk0 : w9.cell? ⟨b, 0, none⟩ = some (.int .i64 a0_0) := (blk_cell HBX.out 0).trans rfl; have hk1 : w9.cell? ⟨b, 1, none⟩ = some (.bool a0_1) := (blk_cell HBX.out 1).trans rfl) | ((with_reducible refine gate_callee (f := 50) rfl ?_); refine goesL_ (some 11) rfl rfl Try.func50 (by kernel_rfl) rfl #[.agg #[.int .i64 a0_0, .bool a0_1], .slice A1 l1.length c1] rfl (by (try simp only [List.map_toArray, List.map_cons, List.map_nil]); first | done | rfl) ?_; (with_reducible refine (spec_slAll.calls k a0_0 a0_1 A1 c1 l1 false _ ?s1 HCC.out E1.out).mono ?_); (case s1 => repeat (first | exact (Kd.C_below HC.out HB.out) | (with_reducible refine Kd.C_alloc ?_ _) | (with_reducible refine Kd.C_drewN ?_ _) | (with_reducible refine Kd.C_drew ?_))); rintro e w9 ⟨rfl, hb⟩; have HX9 := Aside0.mk (blk_below HBX.out hb); have HB9 := Aside0.mk (below_step (by repeat (first | (with_reducible first | exact HB.out | apply below_alloc | apply pw_below_drewN | apply below_drew1) | exact HB.out)) hb); clear HBX HB hb hk0 hk1; have HBX := HX9; have HB := HB9; clear HX9 HB9; have hk0 : w9.cell? ⟨b, 0, none⟩ = some (.int .i64 a0_0) := (blk_cell HBX.out 0).trans rfl; have hk1 : w9.cell? ⟨b, 1, none⟩ = some (.bool a0_1) := (blk_cell HBX.out 1).trans rfl; refine ⟨_, rfl, ?_⟩))
    go_ret2
    exact ⟨rfl, (by repeat (first | (with_reducible first | exact HB.out | apply below_alloc | apply pw_below_drewN | apply below_drew1) | exact HB.out))⟩
  | true =>
    rw [if_pos rfl] at h
    by_cases hk : 2 ≤ a0_0 ∧ a0_0 ≤ 12 ∧ l1.length ≤ 20
    case neg => rw [if_neg hk] at h; cases h
    rw [if_pos hk] at h
    obtain ⟨n, rfl⟩ : ∃ n : Nat, a0_0 = (n : Int) := ⟨a0_0.toNat, by omega⟩
    obtain ⟨T0, hT0, h⟩ := Option.bind_eq_some_iff.mp h
    by_cases hT : 0 ≤ T0 ∧ T0 ≤ 9000
    case neg => rw [if_neg hT] at h; cases h
    rw [if_pos hT] at h
    obtain ⟨T, rfl⟩ : ∃ n : Nat, T0 = (n : Int) := ⟨T0.toNat, by omega⟩
    rw [Int.toNat_natCast, Int.toNat_natCast] at h
    obtain ⟨fah, rfl⟩ : ∃ q, q = a0_1 := ⟨_, rfl⟩
    have HN := Aside0.mk (show 2 ≤ n ∧ n ≤ 12 by omega)
    have HJ := Aside0.mk hk.2.2
    have HT := Aside0.mk (show T ≤ 10000 by omega)
    have HTT := Aside0.mk hT0
    obtain ⟨rfl, rfl⟩ := Prod.mk.inj (Option.some.inj h)
    clear h hk hT hT0
    go_enter Try.func38, Try.ntmps38
    go_wp2_with (first | ((with_reducible refine gate_dst (N := 2) rfl ?_); refine box_event ?hg (N := 2) ?hd (cs := #[.int .i64 (n : Int), .bool fah]) (t := 28) ?hr ?_; (case hd => rfl); (case hg => rfl); (case hr => first | (go_simp; done) | (go_simp; rfl)); intro b hg w3 hbox hb; have HB3 := Aside0.mk (below_step (by repeat (first | (with_reducible first | exact HB.out | apply below_alloc | apply pw_below_drewN | apply below_drew1) | exact HB.out)) hb); clear HB; have HB := HB3; clear HB3; have HBX := Aside0.mk hbox; have hk0 : w3.cell? ⟨b, 0, none⟩ = some (.int .i64 (n : Int)) := (blk_cell hbox 0).trans rfl; have hk1 : w3.cell? ⟨b, 1, none⟩ = some (.bool fah) := (blk_cell hbox 1).trans rfl; clear hg hb hbox) | (go_at_call 50; (with_reducible refine (spec_slAll.calls k (n : Int) fah A1 c1 l1 true _ ?s1 HCC.out E1.out).mono ?_); (case s1 => repeat (first | exact (Kd.C_below HC.out HB.out) | (with_reducible refine Kd.C_alloc ?_ _) | (with_reducible refine Kd.C_drewN ?_ _) | (with_reducible refine Kd.C_drew ?_))); rintro e w9 ⟨rfl, hb⟩; have HX9 := Aside0.mk (blk_below HBX.out hb); have HB9 := Aside0.mk (below_step (by repeat (first | (with_reducible first | exact HB.out | apply below_alloc | apply pw_below_drewN | apply below_drew1) | exact HB.out)) hb); clear HBX HB hb hk0 hk1; have HBX := HX9; have HB := HB9; clear HX9 HB9; have hk0 : w9.cell? ⟨b, 0, none⟩ = some (.int .i64 (n : Int)) := (blk_cell HBX.out 0).trans rfl; have hk1 : w9.cell? ⟨b, 1, none⟩ = some (.bool fah) := (blk_cell HBX.out 1).trans rfl) | ((with_reducible refine gate_callee (f := 50) rfl ?_); refine goesL_ (some 11) rfl rfl Try.func50 (by kernel_rfl) rfl #[.agg #[.int .i64 (n : Int), .bool fah], .slice A1 l1.length c1] rfl (by (try simp only [List.map_toArray, List.map_cons, List.map_nil]); first | done | rfl) ?_; (with_reducible refine (spec_slAll.calls k (n : Int) fah A1 c1 l1 true _ ?s1 HCC.out E1.out).mono ?_); (case s1 => repeat (first | exact (Kd.C_below HC.out HB.out) | (with_reducible refine Kd.C_alloc ?_ _) | (with_reducible refine Kd.C_drewN ?_ _) | (with_reducible refine Kd.C_drew ?_))); rintro e w9 ⟨rfl, hb⟩; have HX9 := Aside0.mk (blk_below HBX.out hb); have HB9 := Aside0.mk (below_step (by repeat (first | (with_reducible first | exact HB.out | apply below_alloc | apply pw_below_drewN | apply below_drew1) | exact HB.out)) hb); clear HBX HB hb hk0 hk1; have HBX := HX9; have HB := HB9; clear HX9 HB9; have hk0 : w9.cell? ⟨b, 0, none⟩ = some (.int .i64 (n : Int)) := (blk_cell HBX.out 0).trans rfl; have hk1 : w9.cell? ⟨b, 1, none⟩ = some (.bool fah) := (blk_cell HBX.out 1).trans rfl; refine ⟨_, rfl, ?_⟩) | (go_at_call 65; (with_reducible refine (slWhole_calls A1 c1 n fah l1 T _ ?s1 HCC.out HN.out HJ.out HT.out HTT.out).mono ?_); (case s1 => repeat (first | exact (Kd.C_below HC.out HB.out) | (with_reducible refine Kd.C_alloc ?_ _) | (with_reducible refine Kd.C_drewN ?_ _) | (with_reducible refine Kd.C_drew ?_))); rintro e w6 ⟨g, wx, rfl, hi, hle, hb⟩; have HI := Aside0.mk hi; have HLE := Aside0.mk (Nat.le_trans (below_size (by repeat (first | (with_reducible first | exact HB.out | apply below_alloc | apply pw_below_drewN | apply below_drew1) | exact HB.out))) hle); have HB6 := Aside0.mk (below_step (by repeat (first | (with_reducible first | exact HB.out | apply below_alloc | apply pw_below_drewN | apply below_drew1) | exact HB.out)) hb); clear HB hi hle hb; have HB := HB6; clear HB6; obtain ⟨A0, c0, v1, v2, v3, h1, h2, h3, h4, h5, h6⟩ := HI.out; obtain ⟨A3, c3, e3⟩ := Kd.R_slice h6; subst e3; have hc4 : w6.cell? ⟨g, 5, none⟩ = some (.slice A3 _ c3) := (blk_cell h1 5).trans rfl; have HR := Aside0.mk h6; clear h1 h2 h3 h4 h5 h6) | ((with_reducible refine gate_callee (f := 65) rfl ?_); refine goesL_ (some 15) rfl rfl Try.func65 (by kernel_rfl) rfl #[.agg #[.int .i64 (n : Int), .bool fah], .slice A1 l1.length c1] rfl (by (try simp only [List.map_toArray, List.map_cons, List.map_nil]); first | done | rfl) ?_; (with_reducible refine (slWhole_calls A1 c1 n fah l1 T _ ?s1 HCC.out HN.out HJ.out HT.out HTT.out).mono ?_); (case s1 => repeat (first | exact (Kd.C_below HC.out HB.out) | (with_reducible refine Kd.C_alloc ?_ _) | (with_reducible refine Kd.C_drewN ?_ _) | (with_reducible refine Kd.C_drew ?_))); rintro e w6 ⟨g, wx, rfl, hi, hle, hb⟩; have HI := Aside0.mk hi; have HLE := Aside0.mk (Nat.le_trans (below_size (by repeat (first | (with_reducible first | exact HB.out | apply below_alloc | apply pw_below_drewN | apply below_drew1) | exact HB.out))) hle); have HB6 := Aside0.mk (below_step (by repeat (first | (with_reducible first | exact HB.out | apply below_alloc | apply pw_below_drewN | apply below_drew1) | exact HB.out)) hb); clear HB hi hle hb; have HB := HB6; clear HB6; refine ⟨_, rfl, ?_⟩; obtain ⟨A0, c0, v1, v2, v3, h1, h2, h3, h4, h5, h6⟩ := HI.out; obtain ⟨A3, c3, e3⟩ := Kd.R_slice h6; subst e3; have hc4 : w6.cell? ⟨g, 5, none⟩ = some (.slice A3 _ c3) := (blk_cell h1 5).trans rfl; have HR := Aside0.mk h6; clear h1 h2 h3 h4 h5 h6))
    go_loopg [6, 20] ((slRunTo l1 fah n T).2.2.length + 1) (fun kq v6 v20 w' => ∃ i : Nat, kq + i = (slRunTo l1 fah n T).2.2.length + 1 ∧ i ≤ (slRunTo l1 fah n T).2.2.length ∧ v6 = .int .i64 (slMost (slRunTo l1 fah n T).2.2 i) ∧ v20 = .int .i64 (i : Int) ∧ Aside0 (Drawn0 w6 w'))
    case atStart => exact ⟨0, by omega, by omega, rfl, rfl, ⟨Drawn0.refl _⟩⟩
    case round =>
      obtain ⟨i, hki, hil, rfl, rfl, HD⟩ := hrel
      obtain ⟨nd, hnd⟩ := HD.out.out
      subst hnd
      clear HD
      by_cases hi : i < (slRunTo l1 fah n T).2.2.length
      · have hb1 : decide ((i : Int) < ((slRunTo l1 fah n T).2.2.length : Int)) = true := decide_eq_true (by omega)
        have hb2 : decide (i < (slRunTo l1 fah n T).2.2.length) = true := decide_eq_true hi
        have hp : 0 ≤ (i : Int) := by omega
        have hq : (i : Int) < ((slRunTo l1 fah n T).2.2.length : Int) := by omega
        obtain ⟨ad3, e3, hx⟩ := Kd.at_int (Kd.R_reads' HR.out).2.2 (i : Int) hp hq
        cases e3
        simp only [Int.toNat_natCast] at hx
        replace hx : (w6.drewN nd).cell? (ad3.add i) = some (.int .i64 (rd (slRunTo l1 fah n T).2.2 (i : Int))) := hx
        replace hp := eq_true hp
        replace hq := eq_true hq
        have hq2 : (i < (slRunTo l1 fah n T).2.2.length) = True := eq_true hi
        have HKI := Aside0.mk (And.intro hki hi)
        have HLN := Aside0.mk (show (slRunTo l1 fah n T).2.2.length ≤ 20 by have h9 := (slRunTo_inv l1 fah n T).2.2.1; have := HJ.out; omega)
        clear hi hki hil
        go_wp2_with (first | (go_at_call 66; (with_reducible refine (spec_l1Most.calls (slMost (slRunTo l1 fah n T).2.2 i) (rd (slRunTo l1 fah n T).2.2 (i : Int)) (slMost (slRunTo l1 fah n T).2.2 (i + 1)) _ (slMost_step (slRunTo l1 fah n T).2.2 i)).mono ?_); rintro e w8 ⟨rfl, ⟨nd8, rfl⟩⟩) | ((with_reducible refine gate_callee (f := 66) rfl ?_); refine goesL_ (some 26) rfl rfl Try.func66 (by kernel_rfl) rfl #[.int .i64 (slMost (slRunTo l1 fah n T).2.2 i), .int .i64 (rd (slRunTo l1 fah n T).2.2 (i : Int))] rfl (by (try simp only [List.map_toArray, List.map_cons, List.map_nil]); first | done | rfl) ?_; (with_reducible refine (spec_l1Most.calls (slMost (slRunTo l1 fah n T).2.2 i) (rd (slRunTo l1 fah n T).2.2 (i : Int)) (slMost (slRunTo l1 fah n T).2.2 (i + 1)) _ (slMost_step (slRunTo l1 fah n T).2.2 i)).mono ?_); rintro e w8 ⟨rfl, ⟨nd8, rfl⟩⟩; refine ⟨_, rfl, ?_⟩))
        go_roundg ((slRunTo l1 fah n T).2.2.length - i)
        case measure => have := HKI.out; omega
        case rel => exact ⟨i + 1, by have := HKI.out; omega, by have := HKI.out; omega, rfl, by have := HKI.out; have := HLN.out; first | rfl | (rw [wrapS (by omega) (by omega)]; rfl), ⟨⟨_, rfl⟩⟩⟩
      · obtain rfl : i = (slRunTo l1 fah n T).2.2.length := by omega
        have hb1 : decide (((slRunTo l1 fah n T).2.2.length : Int) < ((slRunTo l1 fah n T).2.2.length : Int)) = false := decide_eq_false (by omega)
        have hb2 : decide ((slRunTo l1 fah n T).2.2.length < (slRunTo l1 fah n T).2.2.length) = false := decide_eq_false hi
        clear hi
        go_wp2
        go_ret2
        exact ⟨rfl, pw_below_drewN HB.out _⟩

end Go.Proofs.Ytgkbeejkbhhjkaa.X

/- What the functions of the program come to, and that they do: written by this session's program wip/xprint.py out of the translation; parts named extern are typed by hand. -/
namespace Go.Proofs.Ytgkbeejkbhhjkaa.X
open Go.RowKit Go.Proofs.YtgkbeejkbhhjkaaW.PrintWords Go.Proofs.YtgkbeejkbhhjkaaW.PrintLast Go.Proofs.YtgkbeejkbhhjkaaW.PrintMore
attribute [local go_sem] max2_int min2_int max_two min_two max_three min_three max_four min_four   -- for this text's walks alone
set_option linter.unusedVariables false
set_option linter.unusedSimpArgs false

/-! ### impl_slotted: function 68 -/
/- EXTERN, by hand (wip/hand/slotall.py): the program runs till all is read. -/
def impl_slotted.l0 (J : List (S30)) (fah : Bool) (n : Nat) : Nat → Nat → Option (List Int × List Int)
  | 0, _ => none
  | k + 1, t => (slices_Contains_int_int.f k (slImTo J fah n t).2.2 (-1)).bind fun b => if b = true then (if t ≤ 9999 then impl_slotted.l0 J fah n k (t + 1) else none) else some ((slImTo J fah n t).2.1, (slImTo J fah n t).2.2)
def impl_slotted.f (k : Nat) (a0_0 : Int) (a0_1 : Bool) (l1 : List (S30)) : Option (List Int × List Int) := if 2 ≤ a0_0 ∧ a0_0 ≤ 12 ∧ l1.length ≤ 20 then impl_slotted.l0 l1 a0_1 a0_0.toNat k 0 else none
set_option maxHeartbeats 16000000 in
set_option maxRecDepth 100000 in
theorem impl_slotted.calls (k : Nat) (a0_0 : Int) (a0_1 : Bool) (A1 : Option Addr) (c1 : Nat) (l1 : List (S30)) (r1 r2 : List Int) (w : World) (hr1 : Kd.C k30 w A1 l1.length l1) (hc1 : l1.length ≤ c1) (h : impl_slotted.f k a0_0 a0_1 l1 = some (r1, r2)) :
    Calls Try.prog 68 #[.agg #[.int .i64 a0_0, .bool a0_1], .slice A1 l1.length c1] w fun e w' => ∃ v0_ v1_ : Value, e = .returned (.tuple #[v0_, v1_]) ∧ Kd.R (Kd.int .i64) 3 w' w.heap.size (fun k_ => some k_ ≠ (v1_ : Value).ownBlock) v0_ r1 ∧ Kd.R (Kd.int .i64) 3 w' w.heap.size (fun k_ => some k_ ≠ (v0_ : Value).ownBlock) v1_ r2 ∧ Below w.heap.size w w' := by
  unfold impl_slotted.f at h
  by_cases hk : 2 ≤ a0_0 ∧ a0_0 ≤ 12 ∧ l1.length ≤ 20
  case neg => rw [if_neg hk] at h; cases h
  rw [if_pos hk] at h
  obtain ⟨n, rfl⟩ : ∃ n : Nat, a0_0 = (n : Int) := ⟨a0_0.toNat, by omega⟩
  rw [Int.toNat_natCast] at h
  obtain ⟨fah, rfl⟩ : ∃ q, q = a0_1 := ⟨_, rfl⟩
  have HN := Aside0.mk (show 2 ≤ n ∧ n ≤ 12 by omega)
  have HJ := Aside0.mk hk.2.2
  have HH := Aside0.mk h
  have HC := Aside0.mk hr1
  have HCC := Aside0.mk hc1
  have HB := Aside0.mk (Below.refl w.heap.size w)
  clear hr1 hc1 h hk
  go_enter Try.func68, Try.ntmps68
  go_wp2_with (first | ((with_reducible refine gate_dst (N := 2) rfl ?_); refine box_event ?hg (N := 2) ?hd (cs := #[.int .i64 (n : Int), .bool fah]) (t := 28) ?hr ?_; (case hd => rfl); (case hg => rfl); (case hr => first | (go_simp; done) | (go_simp; rfl)); intro b hg w3 hbox hb; have HB3 := Aside0.mk (below_step (by repeat (first | (with_reducible first | exact HB.out | apply below_alloc | apply pw_below_drewN | apply below_drew1) | exact HB.out)) hb); clear HB; have HB := HB3; clear HB3; have hk0 : w3.cell? ⟨b, 0, none⟩ = some (.int .i64 (n : Int)) := (blk_cell hbox 0).trans rfl; have hk1 : w3.cell? ⟨b, 1, none⟩ = some (.bool fah) := (blk_cell hbox 1).trans rfl; clear hg hb hbox) | (go_at_call 61; (with_reducible refine (newSlotter_calls A1 c1 n fah l1 w _ HC.out ?s1 HN.out HJ.out).mono ?_); (case s1 => exact (by repeat (first | (with_reducible first | exact HB.out | apply below_alloc | apply pw_below_drewN | apply below_drew1) | exact HB.out))); rintro e w6 ⟨g, rfl, hi, hb⟩; have HI := Aside0.mk hi; clear HB hi; have HB := Aside0.mk hb; clear hb) | ((with_reducible refine gate_callee (f := 61) rfl ?_); refine goesL_ (some 9) rfl rfl Try.func61 (by kernel_rfl) rfl #[.agg #[.int .i64 (n : Int), .bool fah], .slice A1 l1.length c1] rfl (by (try simp only [List.map_toArray, List.map_cons, List.map_nil]); first | done | rfl) ?_; (with_reducible refine (newSlotter_calls A1 c1 n fah l1 w _ HC.out ?s1 HN.out HJ.out).mono ?_); (case s1 => exact (by repeat (first | (with_reducible first | exact HB.out | apply below_alloc | apply pw_below_drewN | apply below_drew1) | exact HB.out))); rintro e w6 ⟨g, rfl, hi, hb⟩; have HI := Aside0.mk hi; clear HB hi; have HB := Aside0.mk hb; clear hb; refine ⟨_, rfl, ?_⟩))
  go_loopg [] k (fun kq w' => ∃ t : Nat, Aside0 (impl_slotted.l0 l1 fah n kq t = some (r1, r2)) ∧ Aside0 (t ≤ 10000) ∧ Aside0 (IsT w w' g (n : Int) fah (t : Int) l1 (slImTo l1 fah n t).1 (slImTo l1 fah n t).2.1 (slImTo l1 fah n t).2.2) ∧ Aside0 (Below w.heap.size w w'))
  case atStart => exact ⟨0, HH, ⟨by omega⟩, HI, HB⟩
  case round =>
    clear HI HB HH hk0 hk1
    obtain ⟨t, HH, HTT, HI, HB⟩ := hrel
    cases gk with
    | zero => exact absurd HH.out (by simp [impl_slotted.l0])
    | succ k1 =>
      have H := HH.out
      rw [impl_slotted.l0] at H
      obtain ⟨b9, E1, H⟩ := Option.bind_eq_some_iff.mp H
      have HE := Aside0.mk E1
      clear E1
      obtain ⟨A0, c0, v1, v2, v3, h1, h2, h3, h4, h5, h6⟩ := HI.out
      obtain ⟨A3, c3, e3⟩ := Kd.R_slice h6
      subst e3
      have hc6 : wr.cell? ⟨g, 6, none⟩ = some (.slice A3 (slImTo l1 fah n t).2.2.length c3) := (blk_cell h1 6).trans rfl
      have hc5 : wr.cell? ⟨g, 5, none⟩ = some v2 := (blk_cell h1 5).trans rfl
      have HCR := Aside0.mk (And.intro (Kd.R_reads' h6).2.2 (Kd.R_reads' h6).2.1)
      have H5 := Aside0.mk h5
      have H6 := Aside0.mk h6
      clear h1 h2 h3 h4 h5 h6
      cases b9 with
      | true =>
        rw [if_pos rfl] at H
        by_cases ht : t ≤ 9999
        case neg => rw [if_neg ht] at H; cases H
        rw [if_pos ht] at H
        have HQ := Aside0.mk H
        have HT9 := Aside0.mk ht
        clear H ht HH hc5
        go_wp2_with (first | (go_at_call 63; (with_reducible refine (slices_Contains_int_int.calls k1 A3 c3 (slImTo l1 fah n t).2.2 (-1) true _ ?s1 ?s2 HE.out).mono ?_); (case s1 => repeat (first | exact HCR.out.1 | (with_reducible refine Kd.C_alloc ?_ _) | (with_reducible refine Kd.C_drewN ?_ _) | (with_reducible refine Kd.C_drew ?_))); (case s2 => exact HCR.out.2); rintro e w8 ⟨rfl, ⟨nd, rfl⟩⟩) | ((with_reducible refine gate_callee (f := 63) rfl ?_); refine goesL_ (some 14) rfl rfl Try.func63 (by kernel_rfl) rfl #[.slice A3 (slImTo l1 fah n t).2.2.length c3, .int .i64 (-1)] rfl (by (try simp only [List.map_toArray, List.map_cons, List.map_nil]); first | done | rfl) ?_; (with_reducible refine (slices_Contains_int_int.calls k1 A3 c3 (slImTo l1 fah n t).2.2 (-1) true _ ?s1 ?s2 HE.out).mono ?_); (case s1 => repeat (first | exact HCR.out.1 | (with_reducible refine Kd.C_alloc ?_ _) | (with_reducible refine Kd.C_drewN ?_ _) | (with_reducible refine Kd.C_drew ?_))); (case s2 => exact HCR.out.2); rintro e w8 ⟨rfl, ⟨nd, rfl⟩⟩; refine ⟨_, rfl, ?_⟩) | (go_at_call 62; (with_reducible refine (step_calls g n fah l1 (slImTo l1 fah n t) t w _ ?s1 ?s2 HN.out HJ.out HTT.out (slImTo_inv l1 fah n (by have := HN.out; omega) t)).mono ?_); (case s1 => exact (by repeat (first | exact HI.out | apply IsT.drewN | apply IsT.drew))); (case s2 => exact (by repeat (first | exact HB.out | apply pw_below_drewN | apply below_drew1))); rintro e w7 ⟨rfl, hi, hb⟩; clear HI HB; have HI := Aside0.mk hi; have HB := Aside0.mk hb; clear hi hb) | ((with_reducible refine gate_callee (f := 62) rfl ?_); refine goesL_ (some 16) rfl rfl Try.func62 (by kernel_rfl) rfl #[.pointer (some ⟨g, 0, none⟩)] rfl (by (try simp only [List.map_toArray, List.map_cons, List.map_nil]); first | done | rfl) ?_; (with_reducible refine (step_calls g n fah l1 (slImTo l1 fah n t) t w _ ?s1 ?s2 HN.out HJ.out HTT.out (slImTo_inv l1 fah n (by have := HN.out; omega) t)).mono ?_); (case s1 => exact (by repeat (first | exact HI.out | apply IsT.drewN | apply IsT.drew))); (case s2 => exact (by repeat (first | exact HB.out | apply pw_below_drewN | apply below_drew1))); rintro e w7 ⟨rfl, hi, hb⟩; clear HI HB; have HI := Aside0.mk hi; have HB := Aside0.mk hb; clear hi hb; refine ⟨_, rfl, ?_⟩))
        go_roundg k1
        case measure => omega
        case rel => exact ⟨t + 1, HQ, ⟨by have := HT9.out; omega⟩, HI, HB⟩
      | false =>
        rw [if_neg (by simp)] at H
        obtain ⟨rfl, rfl⟩ := Prod.mk.inj (Option.some.inj H)
        clear H HH
        go_upto_region 4 with (first | (go_at_call 63; (with_reducible refine (slices_Contains_int_int.calls k1 A3 c3 (slImTo l1 fah n t).2.2 (-1) false _ ?s1 ?s2 HE.out).mono ?_); (case s1 => repeat (first | exact HCR.out.1 | (with_reducible refine Kd.C_alloc ?_ _) | (with_reducible refine Kd.C_drewN ?_ _) | (with_reducible refine Kd.C_drew ?_))); (case s2 => exact HCR.out.2); rintro e w8 ⟨rfl, ⟨nd, rfl⟩⟩) | ((with_reducible refine gate_callee (f := 63) rfl ?_); refine goesL_ (some 14) rfl rfl Try.func63 (by kernel_rfl) rfl #[.slice A3 (slImTo l1 fah n t).2.2.length c3, .int .i64 (-1)] rfl (by (try simp only [List.map_toArray, List.map_cons, List.map_nil]); first | done | rfl) ?_; (with_reducible refine (slices_Contains_int_int.calls k1 A3 c3 (slImTo l1 fah n t).2.2 (-1) false _ ?s1 ?s2 HE.out).mono ?_); (case s1 => repeat (first | exact HCR.out.1 | (with_reducible refine Kd.C_alloc ?_ _) | (with_reducible refine Kd.C_drewN ?_ _) | (with_reducible refine Kd.C_drew ?_))); (case s2 => exact HCR.out.2); rintro e w8 ⟨rfl, ⟨nd, rfl⟩⟩; refine ⟨_, rfl, ?_⟩))
        obtain ⟨A2, c2, e2⟩ := Kd.R_slice H5.out
        subst e2
        have hd5 : (wr.drewN nd).cell? ⟨g, 5, none⟩ = some (.slice A2 (slImTo l1 fah n t).2.1.length c2) := hc5
        have hd6 : (wr.drewN nd).cell? ⟨g, 6, none⟩ = some (.slice A3 (slImTo l1 fah n t).2.2.length c3) := hc6
        have HI9 := Aside0.mk (show IsT w (wr.drewN nd) g (n : Int) fah (t : Int) l1 (slImTo l1 fah n t).1 (slImTo l1 fah n t).2.1 (slImTo l1 fah n t).2.2 from HI.out.drewN nd)
        have HB9 := Aside0.mk (show Below w.heap.size w (wr.drewN nd) from pw_below_drewN HB.out nd)
        have H59 := Aside0.mk (Kd.R_drewN H5.out nd)
        have H69 := Aside0.mk (Kd.R_drewN H6.out nd)
        obtain ⟨wq, hwq⟩ : ∃ q, wr.drewN nd = q := ⟨_, rfl⟩
        rw [hwq] at hd5 hd6 HB9 H59 H69
        rw [hwq]
        clear hwq hc5 hc6 HI HI9 HB H5 H6
        go_quiet (fail)
        all_goals (try go_wp2)
        all_goals go_ret2
        all_goals exact ⟨_, _, rfl, Kd.R_drewN (Kd.R_mono H59.out (fun k_ hk_ => hk_.2.2)) _, Kd.R_drewN (Kd.R_mono H69.out (fun k_ hk_ => hk_.2.2)) _, pw_below_drewN HB9.out _⟩

/-! ### impl_ReadAt: function 43 -/
def impl_ReadAt.f (k : Nat) (a0_0 : Int) (a0_1 : Bool) (l1 : List (S30)) : Option (List Int × Bool) := (impl_isSlotted.f k a0_0 a0_1 l1).bind fun t436 => (if t436 = true then ((impl_slotted.f k a0_0 a0_1 l1).bind fun bt437 => (some (bt437.2, true))) else (some (([] : List Int), false)))
set_option maxHeartbeats 8000000 in
set_option maxRecDepth 100000 in
theorem impl_ReadAt.calls (k : Nat) (a0_0 : Int) (a0_1 : Bool) (A1 : Option Addr) (c1 : Nat) (l1 : List (S30)) (r1 : List Int) (r2 : Bool) (w : World) (hr1 : Kd.C k30 w A1 l1.length l1) (hc1 : l1.length ≤ c1) (h : impl_ReadAt.f k a0_0 a0_1 l1 = some (r1, r2)) :
    Calls Try.prog 43 #[.agg #[.int .i64 a0_0, .bool a0_1], .slice A1 l1.length c1] w fun e w' => ∃ v0_ : Value, e = .returned (.tuple #[v0_, .bool r2]) ∧ Kd.R (Kd.int .i64) 3 w' w.heap.size (fun _ => True) v0_ r1 ∧ Below w.heap.size w w' := by
  have hu28 := Try.underlying28
  have HR1 := Aside0.mk hr1
  have HC1 := Aside0.mk hc1
  clear hr1 hc1
  have HB := Aside0.mk (Below.refl w.heap.size w)
  have H : ((impl_isSlotted.f k a0_0 a0_1 l1).bind fun t436 => (if t436 = true then ((impl_slotted.f k a0_0 a0_1 l1).bind fun bt437 => (some (bt437.2, true))) else (some (([] : List Int), false)))) = some (r1, r2) := h
  clear h
  replace H := Option.bind_eq_some_iff.mp H
  obtain ⟨t436, A30, H⟩ := H
  replace H : (if t436 = true then ((impl_slotted.f k a0_0 a0_1 l1).bind fun bt437 => (some (bt437.2, true))) else (some (([] : List Int), false))) = some (r1, r2) := H
  have A3 := Aside0.mk A30
  clear A30
  by_cases c4 : t436 = true
  · subst c4
    have H1 : ((impl_slotted.f k a0_0 a0_1 l1).bind fun bt437 => (some (bt437.2, true))) = some (r1, r2) := by rw [if_pos rfl] at H; exact H
    clear H
    have H := H1
    clear H1
    replace H := Option.bind_eq_some_iff.mp H
    obtain ⟨⟨t437, t440⟩, A50, H⟩ := H
    replace H : (some (t440, true)) = some (r1, r2) := H
    have A5 := Aside0.mk A50
    clear A50
    simp only [Option.some.injEq, Prod.mk.injEq] at H
    obtain ⟨rfl, rfl⟩ := H
    go_enter Try.func43, Try.ntmps43
    go_wp2_with (first | ((with_reducible refine gate_dst (N := 2) rfl ?_); refine box_event ?hg (N := 2) ?hd (cs := #[.int .i64 a0_0, .bool a0_1]) (t := 28) ?hr ?_; (case hd => rfl); (case hg => rfl); (case hr => first | (go_simp; done) | (go_simp; rfl)); intro gb435 hg w6 hbox hb; have n0_ := Aside0.mk (below_step (by repeat (first | (with_reducible first | exact HB.out | apply below_alloc | apply pw_below_drewN | apply below_drew1) | exact HB.out)) hb); have n1_ := Aside0.mk (hbox); have n2_ := Aside0.mk ((by rw [hg]; exact (below_size (by repeat (first | (with_reducible first | exact HB.out | apply below_alloc | apply pw_below_drewN | apply below_drew1) | exact HB.out))) : w.heap.size ≤ gb435)); have n3_ := Aside0.mk ((by rw [hg]; exact (below_size (by repeat (first | (with_reducible first | exact HB.out | apply below_alloc | apply pw_below_drewN | apply below_drew1) | exact HB.out))) : w.heap.size ≤ gb435)); clear HB; have HB := n0_; have BK435 := n1_; have GW435 := n2_; have GE435 := n3_; clear n0_ n1_ n2_ n3_; clear hb hbox hg; have hcz7_0 : w6.cell? ⟨gb435, 0, none⟩ = some (.int .i64 a0_0) := (blk_cell BK435.out 0).trans rfl; have hcz7_1 : w6.cell? ⟨gb435, 1, none⟩ = some (.bool a0_1) := (blk_cell BK435.out 1).trans rfl; have hfz7_0 := blk_frozen BK435.out 0; have hfz7_1 := blk_frozen BK435.out 1) | ((with_reducible refine gate_callee (f := 48) rfl ?_); refine goesL_ (some 10) rfl rfl Try.func48 (by kernel_rfl) rfl #[.agg #[.int .i64 a0_0, .bool a0_1], .slice A1 l1.length c1] rfl (by (try simp only [List.map_toArray, List.map_cons, List.map_nil]); first | done | rfl | (simp only [List.length_drop, List.length_take]; rfl)) ?_; (with_reducible refine (impl_isSlotted.calls k a0_0 a0_1 _ _ l1 true _ ?side1 ?side2 A3.out).mono ?_); (case side1 => repeat (first | exact (Kd.C_below HR1.out HB.out) | (with_reducible refine Kd.C_alloc ?_ _) | (with_reducible refine Kd.C_drewN ?_ _) | (with_reducible refine Kd.C_drew ?_))); (case side2 => exact HC1.out); rintro e w8 ⟨rfl, hb⟩; refine ⟨_, rfl, ?_⟩; have n0_ := Aside0.mk (blk_below (g := gb435) (o := .cells #[.int .i64 a0_0, .bool a0_1] 28 (0, 0)) (by (with_reducible repeat (first | refine blk_drewN ?_ _ | refine blk_drew ?_ | refine blk_alloc ?_ _)); exact BK435.out) hb); have n1_ := Aside0.mk (below_step (by repeat (first | (with_reducible first | exact HB.out | apply below_alloc | apply pw_below_drewN | apply below_drew1 | refine below_set ?_ GE435.out) | exact HB.out)) hb); clear BK435; clear HB; have BK435 := n0_; have HB := n1_; clear n0_ n1_; (try clear hb); (try clear hb2); (try clear hk); (try clear hi); have hcz9_0 : w8.cell? ⟨gb435, 0, none⟩ = some (.int .i64 a0_0) := (blk_cell BK435.out 0).trans rfl; have hcz9_1 : w8.cell? ⟨gb435, 1, none⟩ = some (.bool a0_1) := (blk_cell BK435.out 1).trans rfl; have hfz9_0 := blk_frozen BK435.out 0; have hfz9_1 := blk_frozen BK435.out 1) | ((with_reducible refine gate_callee (f := 68) rfl ?_); refine goesL_ (some 15) rfl rfl Try.func68 (by kernel_rfl) rfl #[.agg #[.int .i64 a0_0, .bool a0_1], .slice A1 l1.length c1] rfl (by (try simp only [List.map_toArray, List.map_cons, List.map_nil]); first | done | rfl | (simp only [List.length_drop, List.length_take]; rfl)) ?_; (with_reducible refine (impl_slotted.calls k a0_0 a0_1 _ _ l1 t437 t440 _ ?side1 ?side2 A5.out).mono ?_); (case side1 => repeat (first | exact (Kd.C_below HR1.out HB.out) | (with_reducible refine Kd.C_alloc ?_ _) | (with_reducible refine Kd.C_drewN ?_ _) | (with_reducible refine Kd.C_drew ?_))); (case side2 => exact HC1.out); rintro e w10 ⟨v438, v441, rfl, ho0, ho1, hb⟩; refine ⟨_, rfl, ?_⟩; have n0_ := Aside0.mk (Kd.R_lower ho0 (below_size (by repeat (first | (with_reducible first | exact HB.out | apply below_alloc | apply pw_below_drewN | apply below_drew1 | refine below_set ?_ GE435.out) | exact HB.out)))); have n1_ := Aside0.mk (Kd.R_lower ho1 (below_size (by repeat (first | (with_reducible first | exact HB.out | apply below_alloc | apply pw_below_drewN | apply below_drew1 | refine below_set ?_ GE435.out) | exact HB.out)))); have n2_ := Aside0.mk (blk_below (g := gb435) (o := .cells #[.int .i64 a0_0, .bool a0_1] 28 (0, 0)) (by (with_reducible repeat (first | refine blk_drewN ?_ _ | refine blk_drew ?_ | refine blk_alloc ?_ _)); exact BK435.out) hb); have n3_ := Aside0.mk (below_step (by repeat (first | (with_reducible first | exact HB.out | apply below_alloc | apply pw_below_drewN | apply below_drew1 | refine below_set ?_ GE435.out) | exact HB.out)) hb); clear BK435; clear HB; have HO439 := n0_; have HO442 := n1_; have BK435 := n2_; have HB := n3_; clear n0_ n1_ n2_ n3_; (try clear hb); (try clear hb2); (try clear hk); (try clear hi); (try clear ho0); (try clear ho1)))
    go_ret2
    exact ⟨_, by first | rfl | (simp [errW_none, errW_some] <;> rfl) | (simp [*, errW_none, errW_some] <;> rfl), by (with_reducible repeat (first | apply Kd.R_alloc | apply Kd.R_drewN | apply Kd.R_drew)); exact Kd.R_mono HO442.out (fun _ hk => trivial), by repeat (first | (with_reducible first | exact HB.out | apply below_alloc | apply pw_below_drewN | apply below_drew1 | refine below_set ?_ GE435.out) | exact HB.out)⟩
  · replace c4 := Bool.eq_false_iff.mpr c4
    subst c4
    have H1 : (some (([] : List Int), false)) = some (r1, r2) := by rw [if_neg (show ¬ (false = true) by decide)] at H; exact H
    clear H
    have H := H1
    clear H1
    simp only [Option.some.injEq, Prod.mk.injEq] at H
    obtain ⟨rfl, rfl⟩ := H
    go_enter Try.func43, Try.ntmps43
    go_wp2_with (first | ((with_reducible refine gate_dst (N := 2) rfl ?_); refine box_event ?hg (N := 2) ?hd (cs := #[.int .i64 a0_0, .bool a0_1]) (t := 28) ?hr ?_; (case hd => rfl); (case hg => rfl); (case hr => first | (go_simp; done) | (go_simp; rfl)); intro gb435 hg w11 hbox hb; have n0_ := Aside0.mk (below_step (by repeat (first | (with_reducible first | exact HB.out | apply below_alloc | apply pw_below_drewN | apply below_drew1) | exact HB.out)) hb); have n1_ := Aside0.mk (hbox); have n2_ := Aside0.mk ((by rw [hg]; exact (below_size (by repeat (first | (with_reducible first | exact HB.out | apply below_alloc | apply pw_below_drewN | apply below_drew1) | exact HB.out))) : w.heap.size ≤ gb435)); have n3_ := Aside0.mk ((by rw [hg]; exact (below_size (by repeat (first | (with_reducible first | exact HB.out | apply below_alloc | apply pw_below_drewN | apply below_drew1) | exact HB.out))) : w.heap.size ≤ gb435)); clear HB; have HB := n0_; have BK435 := n1_; have GW435 := n2_; have GE435 := n3_; clear n0_ n1_ n2_ n3_; clear hb hbox hg; have hcz12_0 : w11.cell? ⟨gb435, 0, none⟩ = some (.int .i64 a0_0) := (blk_cell BK435.out 0).trans rfl; have hcz12_1 : w11.cell? ⟨gb435, 1, none⟩ = some (.bool a0_1) := (blk_cell BK435.out 1).trans rfl; have hfz12_0 := blk_frozen BK435.out 0; have hfz12_1 := blk_frozen BK435.out 1) | ((with_reducible refine gate_callee (f := 48) rfl ?_); refine goesL_ (some 10) rfl rfl Try.func48 (by kernel_rfl) rfl #[.agg #[.int .i64 a0_0, .bool a0_1], .slice A1 l1.length c1] rfl (by (try simp only [List.map_toArray, List.map_cons, List.map_nil]); first | done | rfl | (simp only [List.length_drop, List.length_take]; rfl)) ?_; (with_reducible refine (impl_isSlotted.calls k a0_0 a0_1 _ _ l1 false _ ?side1 ?side2 A3.out).mono ?_); (case side1 => repeat (first | exact (Kd.C_below HR1.out HB.out) | (with_reducible refine Kd.C_alloc ?_ _) | (with_reducible refine Kd.C_drewN ?_ _) | (with_reducible refine Kd.C_drew ?_))); (case side2 => exact HC1.out); rintro e w13 ⟨rfl, hb⟩; refine ⟨_, rfl, ?_⟩; have n0_ := Aside0.mk (blk_below (g := gb435) (o := .cells #[.int .i64 a0_0, .bool a0_1] 28 (0, 0)) (by (with_reducible repeat (first | refine blk_drewN ?_ _ | refine blk_drew ?_ | refine blk_alloc ?_ _)); exact BK435.out) hb); have n1_ := Aside0.mk (below_step (by repeat (first | (with_reducible first | exact HB.out | apply below_alloc | apply pw_below_drewN | apply below_drew1 | refine below_set ?_ GE435.out) | exact HB.out)) hb); clear BK435; clear HB; have BK435 := n0_; have HB := n1_; clear n0_ n1_; (try clear hb); (try clear hb2); (try clear hk); (try clear hi)))
    go_ret2
    exact ⟨_, by first | rfl | (simp [errW_none, errW_some] <;> rfl) | (simp [*, errW_none, errW_some] <;> rfl), by first | exact Kd.R_nil _ _ _ _ _ | exact Kd.N_nil _ _ _ _ _ | exact Kd.V_nil _ _ _ _ _ | exact Kd.Q_nil _ _ _ _ _ | exact Kd.S_nil _ _ _ _ _, by repeat (first | (with_reducible first | exact HB.out | apply below_alloc | apply pw_below_drewN | apply below_drew1 | refine below_set ?_ GE435.out) | exact HB.out)⟩

end Go.Proofs.Ytgkbeejkbhhjkaa.X

/- What the functions of the program come to, and that they do: written by this session's program wip/xprint.py out of the translation; parts named extern are typed by hand. -/
namespace Go.Proofs.Ytgkbeejkbhhjkaa.X
open Go.RowKit Go.Proofs.YtgkbeejkbhhjkaaW.PrintWords Go.Proofs.YtgkbeejkbhhjkaaW.PrintLast Go.Proofs.YtgkbeejkbhhjkaaW.PrintMore
attribute [local go_sem] max2_int min2_int max_two min_two max_three min_three max_four min_four   -- for this text's walks alone
set_option linter.unusedVariables false
set_option linter.unusedSimpArgs false

/-! ### impl_greatest: function 67 -/
def impl_greatest.l0 : Nat → Int → List Int → Int → Int → Option (Int)
  | 0, _, _, _, _ => none
  | k + 1, x3, x6, x7, x8 => if x8 < x7 then (if 0 ≤ x8 then (if x8 < (x6.length : Int) then (impl_greatest.l0 k (mx x3 (rd x6 x8)) x6 x7 (wrap64 (x8 + 1))) else (none)) else (none)) else (some x3)
def impl_greatest.f (k : Nat) (l0 : List Int) : Option (Int) := impl_greatest.l0 k 0 l0 (l0.length : Int) 0
set_option maxHeartbeats 8000000 in
set_option maxRecDepth 100000 in
theorem impl_greatest.calls (k : Nat) (A0 : Option Addr) (c0 : Nat) (l0 : List Int) (r : Int) (w : World) (hr0 : Kd.C (Kd.int .i64) w A0 l0.length l0) (hc0 : l0.length ≤ c0) (h : impl_greatest.f k l0 = some r) :
    Calls Try.prog 67 #[.slice A0 l0.length c0] w fun e w' => e = .returned (.int .i64 r) ∧ Below w.heap.size w w' := by
  have HR0 := Aside0.mk hr0
  have HC0 := Aside0.mk hc0
  clear hr0 hc0
  have HB := Aside0.mk (Below.refl w.heap.size w)
  have H : (impl_greatest.l0 k 0 l0 (l0.length : Int) 0) = some r := h
  clear h
  have H' := Aside0.mk H
  clear H
  go_enter Try.func67, Try.ntmps67
  go_wp2
  go_loopg [3, 8] k (fun kq v3 v8 w' => ∃ (x3_1 : Int) (x8_1 : Int), v3 = .int .i64 x3_1 ∧ v8 = .int .i64 x8_1 ∧ Aside0 (impl_greatest.l0 kq x3_1 l0 (l0.length : Int) x8_1 = some r) ∧ Aside0 (kq ≤ k) ∧ Aside0 (Below w.heap.size w w'))
  case atStart => exact ⟨(0), (0), (by first | rfl | (simp; done) | (simp [*]; done)), (by first | rfl | (simp; done) | (simp [*]; done)), H', ⟨Nat.le_refl _⟩, ⟨by repeat (first | (with_reducible first | exact HB.out | apply below_alloc | apply pw_below_drewN | apply below_drew1) | exact HB.out)⟩⟩
  case round =>
    clear H'
    obtain ⟨x3_1, x8_1, rfl, rfl, HA, HK1, HB⟩ := hrel
    cases gk with
    | zero => exact absurd HA.out (by simp [impl_greatest.l0])
    | succ k1 =>
      have H := HA.out
      clear HA
      simp only [impl_greatest.l0] at H
      by_cases c2 : x8_1 < (l0.length : Int)
      · rw [if_pos c2] at H
        have c2b0 : decide (x8_1 < (l0.length : Int)) = true := decide_eq_true c2
        clear c2
        by_cases c3 : 0 ≤ x8_1
        · rw [if_pos c3] at H
          have c3b0 : decide (0 ≤ x8_1) = true := decide_eq_true c3
          clear c3
          by_cases c4 : x8_1 < (l0.length : Int)
          · rw [if_pos c4] at H
            have c4b0 : decide (x8_1 < (l0.length : Int)) = true := decide_eq_true c4
            clear c4
            obtain ⟨ji5, hji5⟩ : ∃ j_ : Int, (mx x3_1 (rd l0 x8_1)) = j_ := ⟨_, rfl⟩
            replace H : (impl_greatest.l0 k1 ji5 l0 (l0.length : Int) (wrap64 (x8_1 + 1))) = some r := by first | (rw [hji5] at H; exact H) | (simp only [hji5] at H ⊢; exact H)
            have hji5_ : (if x3_1 < (rd l0 x8_1) then (rd l0 x8_1) else x3_1) = ji5 := hji5
            have H' := Aside0.mk H
            clear H
            have p443 : 0 ≤ (x8_1 : Int) := of_decide_eq_true (by first | (with_reducible assumption) | assumption)
            have q443 : x8_1 < (l0.length : Int) := of_decide_eq_true (by first | (with_reducible assumption) | assumption)
            obtain ⟨ad443, e443, hx443_0⟩ := Kd.at_int HR0.out x8_1 p443 q443
            cases e443
            replace hx443_0 := (HB.out.cell (World.block_lt_of_cell? w _ hx443_0)).trans hx443_0
            replace p443 := eq_true p443
            replace q443 := eq_true q443
            go_wp2
            go_roundg k1
            case measure => have := HK1.out; omega
            case rel => exact ⟨(ji5), (wrap64 (x8_1 + 1)), (by first | rfl | (simp; done) | (simp only [← hji5] <;> (first | rfl | simp)) | (simp [*]; done)), (by first | rfl | (simp; done) | (simp [*]; done)), H', ⟨by have := HK1.out; omega⟩, ⟨by repeat (first | (with_reducible first | exact HB.out | apply below_alloc | apply pw_below_drewN | apply below_drew1) | exact HB.out)⟩⟩
          · rw [if_neg c4] at H
            exact absurd H (by simp)
        · rw [if_neg c3] at H
          exact absurd H (by simp)
      · rw [if_neg c2] at H
        have c2b0 : decide (x8_1 < (l0.length : Int)) = false := decide_eq_false c2
        clear c2
        obtain rfl := Option.some.inj H
        go_wp2
        go_ret
        exact ⟨by first | rfl | (simp [errW_none, errW_some] <;> rfl) | (simp [*, errW_none, errW_some] <;> rfl), by repeat (first | (with_reducible first | exact HB.out | apply below_alloc | apply pw_below_drewN | apply below_drew1) | exact HB.out)⟩

/-! ### impl_LastRead: function 39 -/
def impl_LastRead.f (k : Nat) (a0_0 : Int) (a0_1 : Bool) (l1 : List (S30)) : Option (Int × Bool) := (impl_ReadAt.f k a0_0 a0_1 l1).bind fun bt445 => ((impl_greatest.f k bt445.1).bind fun t449 => (some (t449, bt445.2)))
set_option maxHeartbeats 8000000 in
set_option maxRecDepth 100000 in
theorem impl_LastRead.calls (k : Nat) (a0_0 : Int) (a0_1 : Bool) (A1 : Option Addr) (c1 : Nat) (l1 : List (S30)) (r1 : Int) (r2 : Bool) (w : World) (hr1 : Kd.C k30 w A1 l1.length l1) (hc1 : l1.length ≤ c1) (h : impl_LastRead.f k a0_0 a0_1 l1 = some (r1, r2)) :
    Calls Try.prog 39 #[.agg #[.int .i64 a0_0, .bool a0_1], .slice A1 l1.length c1] w fun e w' => e = .returned (.tuple #[.int .i64 r1, .bool r2]) ∧ Below w.heap.size w w' := by
  have hu28 := Try.underlying28
  have HR1 := Aside0.mk hr1
  have HC1 := Aside0.mk hc1
  clear hr1 hc1
  have HB := Aside0.mk (Below.refl w.heap.size w)
  have H : ((impl_ReadAt.f k a0_0 a0_1 l1).bind fun bt445 => ((impl_greatest.f k bt445.1).bind fun t449 => (some (t449, bt445.2)))) = some (r1, r2) := h
  clear h
  replace H := Option.bind_eq_some_iff.mp H
  obtain ⟨⟨t445, t448⟩, A30, H⟩ := H
  replace H : ((impl_greatest.f k t445).bind fun t449 => (some (t449, t448))) = some (r1, r2) := H
  have A3 := Aside0.mk A30
  clear A30
  replace H := Option.bind_eq_some_iff.mp H
  obtain ⟨t449, A40, H⟩ := H
  replace H : (some (t449, t448)) = some (r1, r2) := H
  have A4 := Aside0.mk A40
  clear A40
  simp only [Option.some.injEq, Prod.mk.injEq] at H
  obtain ⟨rfl, rfl⟩ := H
  go_enter Try.func39, Try.ntmps39
  go_wp2_with (first | ((with_reducible refine gate_dst (N := 2) rfl ?_); refine box_event ?hg (N := 2) ?hd (cs := #[.int .i64 a0_0, .bool a0_1]) (t := 28) ?hr ?_; (case hd => rfl); (case hg => rfl); (case hr => first | (go_simp; done) | (go_simp; rfl)); intro gb444 hg w5 hbox hb; have n0_ := Aside0.mk (below_step (by repeat (first | (with_reducible first | exact HB.out | apply below_alloc | apply pw_below_drewN | apply below_drew1) | exact HB.out)) hb); have n1_ := Aside0.mk (hbox); have n2_ := Aside0.mk ((by rw [hg]; exact (below_size (by repeat (first | (with_reducible first | exact HB.out | apply below_alloc | apply pw_below_drewN | apply below_drew1) | exact HB.out))) : w.heap.size ≤ gb444)); have n3_ := Aside0.mk ((by rw [hg]; exact (below_size (by repeat (first | (with_reducible first | exact HB.out | apply below_alloc | apply pw_below_drewN | apply below_drew1) | exact HB.out))) : w.heap.size ≤ gb444)); clear HB; have HB := n0_; have BK444 := n1_; have GW444 := n2_; have GE444 := n3_; clear n0_ n1_ n2_ n3_; clear hb hbox hg; have hcz6_0 : w5.cell? ⟨gb444, 0, none⟩ = some (.int .i64 a0_0) := (blk_cell BK444.out 0).trans rfl; have hcz6_1 : w5.cell? ⟨gb444, 1, none⟩ = some (.bool a0_1) := (blk_cell BK444.out 1).trans rfl; have hfz6_0 := blk_frozen BK444.out 0; have hfz6_1 := blk_frozen BK444.out 1) | ((with_reducible refine gate_callee (f := 43) rfl ?_); refine goesL_ (some 11) rfl rfl Try.func43 (by kernel_rfl) rfl #[.agg #[.int .i64 a0_0, .bool a0_1], .slice A1 l1.length c1] rfl (by (try simp only [List.map_toArray, List.map_cons, List.map_nil]); first | done | rfl | (simp only [List.length_drop, List.length_take]; rfl)) ?_; (with_reducible refine (impl_ReadAt.calls k a0_0 a0_1 _ _ l1 t445 t448 _ ?side1 ?side2 A3.out).mono ?_); (case side1 => repeat (first | exact (Kd.C_below HR1.out HB.out) | (with_reducible refine Kd.C_alloc ?_ _) | (with_reducible refine Kd.C_drewN ?_ _) | (with_reducible refine Kd.C_drew ?_))); (case side2 => exact HC1.out); rintro e w7 ⟨v446, rfl, ho0, hb⟩; refine ⟨_, rfl, ?_⟩; have n0_ := Aside0.mk (Kd.R_lower ho0 (below_size (by repeat (first | (with_reducible first | exact HB.out | apply below_alloc | apply pw_below_drewN | apply below_drew1 | refine below_set ?_ GE444.out) | exact HB.out)))); have n1_ := Aside0.mk (blk_below (g := gb444) (o := .cells #[.int .i64 a0_0, .bool a0_1] 28 (0, 0)) (by (with_reducible repeat (first | refine blk_drewN ?_ _ | refine blk_drew ?_ | refine blk_alloc ?_ _)); exact BK444.out) hb); have n2_ := Aside0.mk (below_step (by repeat (first | (with_reducible first | exact HB.out | apply below_alloc | apply pw_below_drewN | apply below_drew1 | refine below_set ?_ GE444.out) | exact HB.out)) hb); clear BK444; clear HB; have HO447 := n0_; have BK444 := n1_; have HB := n2_; clear n0_ n1_ n2_; (try clear hb); (try clear hb2); (try clear hk); (try clear hi); (try clear ho0); obtain ⟨Ao8, co8, eo8⟩ := Kd.R_slice HO447.out; subst eo8) | ((with_reducible refine gate_callee (f := 67) rfl ?_); refine goesL_ (some 15) rfl rfl Try.func67 (by kernel_rfl) rfl #[.slice Ao8 t445.length co8] rfl (by (try simp only [List.map_toArray, List.map_cons, List.map_nil]); first | done | rfl | (simp only [List.length_drop, List.length_take]; rfl)) ?_; (with_reducible refine (impl_greatest.calls k _ _ t445 t449 _ ?side1 ?side2 A4.out).mono ?_); (case side1 => repeat (first | exact (Kd.R_reads' HO447.out).2.2 | (with_reducible refine Kd.C_alloc ?_ _) | (with_reducible refine Kd.C_drewN ?_ _) | (with_reducible refine Kd.C_drew ?_))); (case side2 => exact (Kd.R_reads' HO447.out).2.1); rintro e w9 ⟨rfl, hb⟩; refine ⟨_, rfl, ?_⟩; have n0_ := Aside0.mk (Kd.R_below (by (with_reducible repeat (first | apply Kd.R_alloc | apply Kd.R_drewN | apply Kd.R_drew)); exact HO447.out) hb); have n1_ := Aside0.mk (blk_below (g := gb444) (o := .cells #[.int .i64 a0_0, .bool a0_1] 28 (0, 0)) (by (with_reducible repeat (first | refine blk_drewN ?_ _ | refine blk_drew ?_ | refine blk_alloc ?_ _)); exact BK444.out) hb); have n2_ := Aside0.mk (below_step (by repeat (first | (with_reducible first | exact HB.out | apply below_alloc | apply pw_below_drewN | apply below_drew1 | refine below_set ?_ GE444.out) | exact HB.out)) hb); clear HO447; clear BK444; clear HB; have HO447 := n0_; have BK444 := n1_; have HB := n2_; clear n0_ n1_ n2_; (try clear hb); (try clear hb2); (try clear hk); (try clear hi)))
  go_ret2
  exact ⟨by first | rfl | (simp [errW_none, errW_some] <;> rfl) | (simp [*, errW_none, errW_some] <;> rfl), by repeat (first | (with_reducible first | exact HB.out | apply below_alloc | apply pw_below_drewN | apply below_drew1 | refine below_set ?_ GE444.out) | exact HB.out)⟩

end Go.Proofs.Ytgkbeejkbhhjkaa.X

/- What the functions of the program come to, and that they do: written by this session's program wip/xprint.py out of the translation; parts named extern are typed by hand. -/
namespace Go.Proofs.Ytgkbeejkbhhjkaa.X
open Go.RowKit Go.Proofs.YtgkbeejkbhhjkaaW.PrintWords Go.Proofs.YtgkbeejkbhhjkaaW.PrintLast Go.Proofs.YtgkbeejkbhhjkaaW.PrintMore
attribute [local go_sem] max2_int min2_int max_two min_two max_three min_three max_four min_four   -- for this text's walks alone
set_option linter.unusedVariables false
set_option linter.unusedSimpArgs false

/-! ### laws_FnExactLastRead: function 10 -/
def laws_FnExactLastRead.j0 : Nat → List (S25) → List (S30) → Bool → Option (Bool)
  | 0, _, _, _ => none
  | k + 1, x1, x8, x40 => if x40 = true then (some false) else ((laws_toMessageS.f k x1).bind fun t466 => ((laws_eqMessageS.f k x8 t466).bind fun t469 => (if t469 = true then (some true) else (some false))))
def laws_FnExactLastRead.f (k : Nat) (a0_0 : Int) (a0_1 : Bool) (l1 : List (S25)) : Option (Bool) := (laws_szMessageS.f l1 1048576).bind fun t451 => (if t451 < 0 then (some true) else ((laws_toSlotRing.f a0_0 a0_1).bind fun bt452 => ((laws_toMessageS.f k l1).bind fun t454 => ((spec_LastRead.f k bt452.1 bt452.2 t454).bind fun bt457 => ((laws_toMessageS.f k l1).bind fun t459 => ((laws_toSlotRing.f a0_0 a0_1).bind fun bt462 => ((impl_LastRead.f k bt462.1 bt462.2 t459).bind fun bt464 => (if bt464.1 = bt457.1 then (laws_FnExactLastRead.j0 k l1 t459 (bt464.2 != bt457.2)) else (laws_FnExactLastRead.j0 k l1 t459 true)))))))))
set_option maxHeartbeats 8000000 in
set_option maxRecDepth 100000 in
theorem laws_FnExactLastRead.calls (k : Nat) (a0_0 : Int) (a0_1 : Bool) (A1 : Option Addr) (c1 : Nat) (l1 : List (S25)) (r : Bool) (w : World) (hr1 : Kd.C k25 w A1 l1.length l1) (hc1 : l1.length ≤ c1) (h : laws_FnExactLastRead.f k a0_0 a0_1 l1 = some r) :
    Calls Try.prog 10 #[.agg #[.int .i64 a0_0, .bool a0_1], .slice A1 l1.length c1] w fun e w' => e = .returned (.bool r) ∧ Below w.heap.size w w' := by
  have hu23 := Try.underlying23
  have HR1 := Aside0.mk hr1
  have HC1 := Aside0.mk hc1
  clear hr1 hc1
  have HB := Aside0.mk (Below.refl w.heap.size w)
  have H : ((laws_szMessageS.f l1 1048576).bind fun t451 => (if t451 < 0 then (some true) else ((laws_toSlotRing.f a0_0 a0_1).bind fun bt452 => ((laws_toMessageS.f k l1).bind fun t454 => ((spec_LastRead.f k bt452.1 bt452.2 t454).bind fun bt457 => ((laws_toMessageS.f k l1).bind fun t459 => ((laws_toSlotRing.f a0_0 a0_1).bind fun bt462 => ((impl_LastRead.f k bt462.1 bt462.2 t459).bind fun bt464 => (if bt464.1 = bt457.1 then (laws_FnExactLastRead.j0 k l1 t459 (bt464.2 != bt457.2)) else (laws_FnExactLastRead.j0 k l1 t459 true)))))))))) = some r := h
  clear h
  replace H := Option.bind_eq_some_iff.mp H
  obtain ⟨t451, A30, H⟩ := H
  replace H : (if t451 < 0 then (some true) else ((laws_toSlotRing.f a0_0 a0_1).bind fun bt452 => ((laws_toMessageS.f k l1).bind fun t454 => ((spec_LastRead.f k bt452.1 bt452.2 t454).bind fun bt457 => ((laws_toMessageS.f k l1).bind fun t459 => ((laws_toSlotRing.f a0_0 a0_1).bind fun bt462 => ((impl_LastRead.f k bt462.1 bt462.2 t459).bind fun bt464 => (if bt464.1 = bt457.1 then (laws_FnExactLastRead.j0 k l1 t459 (bt464.2 != bt457.2)) else (laws_FnExactLastRead.j0 k l1 t459 true))))))))) = some r := H
  have A3 := Aside0.mk A30
  clear A30
  by_cases c4 : t451 < 0
  · rw [if_pos c4] at H
    have c4b0 : decide (t451 < 0) = true := decide_eq_true c4
    clear c4
    obtain rfl := Option.some.inj H
    go_enter Try.func10, Try.ntmps10
    go_wp2_with (first | ((with_reducible refine gate_dst (N := 2) rfl ?_); refine box_event ?hg (N := 2) ?hd (cs := #[.int .i64 a0_0, .bool a0_1]) (t := 23) ?hr ?_; (case hd => rfl); (case hg => rfl); (case hr => first | (go_simp; done) | (go_simp; rfl)); intro gb450 hg w5 hbox hb; have n0_ := Aside0.mk (below_step (by repeat (first | (with_reducible first | exact HB.out | apply below_alloc | apply pw_below_drewN | apply below_drew1) | exact HB.out)) hb); have n1_ := Aside0.mk (hbox); have n2_ := Aside0.mk ((by rw [hg]; exact (below_size (by repeat (first | (with_reducible first | exact HB.out | apply below_alloc | apply pw_below_drewN | apply below_drew1) | exact HB.out))) : w.heap.size ≤ gb450)); have n3_ := Aside0.mk ((by rw [hg]; exact (below_size (by repeat (first | (with_reducible first | exact HB.out | apply below_alloc | apply pw_below_drewN | apply below_drew1) | exact HB.out))) : w.heap.size ≤ gb450)); clear HB; have HB := n0_; have BK450 := n1_; have GW450 := n2_; have GE450 := n3_; clear n0_ n1_ n2_ n3_; clear hb hbox hg) | ((with_reducible refine gate_callee (f := 18) rfl ?_); refine goesL_ (some 13) rfl rfl Try.func18 (by kernel_rfl) rfl #[.slice A1 l1.length c1, .int .i64 1048576] rfl (by (try simp only [List.map_toArray, List.map_cons, List.map_nil]); first | done | rfl | (simp only [List.length_drop, List.length_take]; rfl)) ?_; (with_reducible refine (laws_szMessageS.calls _ _ l1 1048576 t451 _ ?side1 ?side2 A3.out).mono ?_); (case side1 => repeat (first | exact (Kd.C_below HR1.out HB.out) | (with_reducible refine Kd.C_alloc ?_ _) | (with_reducible refine Kd.C_drewN ?_ _) | (with_reducible refine Kd.C_drew ?_))); (case side2 => exact HC1.out); rintro e w' ⟨rfl, ⟨nd, rfl⟩⟩; refine ⟨_, rfl, ?_⟩))
    go_ret
    exact ⟨by first | rfl | (simp [errW_none, errW_some] <;> rfl) | (simp [*, errW_none, errW_some] <;> rfl), by repeat (first | (with_reducible first | exact HB.out | apply below_alloc | apply pw_below_drewN | apply below_drew1 | refine below_set ?_ GE450.out) | exact HB.out)⟩
  · rw [if_neg c4] at H
    have c4b0 : decide (t451 < 0) = false := decide_eq_false c4
    clear c4
    replace H := Option.bind_eq_some_iff.mp H
    obtain ⟨⟨t452, t453⟩, A60, H⟩ := H
    replace H : ((laws_toMessageS.f k l1).bind fun t454 => ((spec_LastRead.f k t452 t453 t454).bind fun bt457 => ((laws_toMessageS.f k l1).bind fun t459 => ((laws_toSlotRing.f a0_0 a0_1).bind fun bt462 => ((impl_LastRead.f k bt462.1 bt462.2 t459).bind fun bt464 => (if bt464.1 = bt457.1 then (laws_FnExactLastRead.j0 k l1 t459 (bt464.2 != bt457.2)) else (laws_FnExactLastRead.j0 k l1 t459 true))))))) = some r := H
    have A6 := Aside0.mk A60
    clear A60
    replace H := Option.bind_eq_some_iff.mp H
    obtain ⟨t454, A70, H⟩ := H
    replace H : ((spec_LastRead.f k t452 t453 t454).bind fun bt457 => ((laws_toMessageS.f k l1).bind fun t459 => ((laws_toSlotRing.f a0_0 a0_1).bind fun bt462 => ((impl_LastRead.f k bt462.1 bt462.2 t459).bind fun bt464 => (if bt464.1 = bt457.1 then (laws_FnExactLastRead.j0 k l1 t459 (bt464.2 != bt457.2)) else (laws_FnExactLastRead.j0 k l1 t459 true)))))) = some r := H
    have A7 := Aside0.mk A70
    clear A70
    replace H := Option.bind_eq_some_iff.mp H
    obtain ⟨⟨t457, t458⟩, A80, H⟩ := H
    replace H : ((laws_toMessageS.f k l1).bind fun t459 => ((laws_toSlotRing.f a0_0 a0_1).bind fun bt462 => ((impl_LastRead.f k bt462.1 bt462.2 t459).bind fun bt464 => (if bt464.1 = t457 then (laws_FnExactLastRead.j0 k l1 t459 (bt464.2 != t458)) else (laws_FnExactLastRead.j0 k l1 t459 true))))) = some r := H
    have A8 := Aside0.mk A80
    clear A80
    replace H := Option.bind_eq_some_iff.mp H
    obtain ⟨t459, A90, H⟩ := H
    replace H : ((laws_toSlotRing.f a0_0 a0_1).bind fun bt462 => ((impl_LastRead.f k bt462.1 bt462.2 t459).bind fun bt464 => (if bt464.1 = t457 then (laws_FnExactLastRead.j0 k l1 t459 (bt464.2 != t458)) else (laws_FnExactLastRead.j0 k l1 t459 true)))) = some r := H
    have A9 := Aside0.mk A90
    clear A90
    replace H := Option.bind_eq_some_iff.mp H
    obtain ⟨⟨t462, t463⟩, A100, H⟩ := H
    replace H : ((impl_LastRead.f k t462 t463 t459).bind fun bt464 => (if bt464.1 = t457 then (laws_FnExactLastRead.j0 k l1 t459 (bt464.2 != t458)) else (laws_FnExactLastRead.j0 k l1 t459 true))) = some r := H
    have A10 := Aside0.mk A100
    clear A100
    replace H := Option.bind_eq_some_iff.mp H
    obtain ⟨⟨t464, t465⟩, A110, H⟩ := H
    replace H : (if t464 = t457 then (laws_FnExactLastRead.j0 k l1 t459 (t465 != t458)) else (laws_FnExactLastRead.j0 k l1 t459 true)) = some r := H
    have A11 := Aside0.mk A110
    clear A110
    have HC12 := Aside0.mk H
    clear H
    go_enter Try.func10, Try.ntmps10
    go_upto_region 8 with (first | ((with_reducible refine gate_dst (N := 2) rfl ?_); refine box_event ?hg (N := 2) ?hd (cs := #[.int .i64 a0_0, .bool a0_1]) (t := 23) ?hr ?_; (case hd => rfl); (case hg => rfl); (case hr => first | (go_simp; done) | (go_simp; rfl)); intro gb450 hg w13 hbox hb; have n0_ := Aside0.mk (below_step (by repeat (first | (with_reducible first | exact HB.out | apply below_alloc | apply pw_below_drewN | apply below_drew1) | exact HB.out)) hb); have n1_ := Aside0.mk (hbox); have n2_ := Aside0.mk ((by rw [hg]; exact (below_size (by repeat (first | (with_reducible first | exact HB.out | apply below_alloc | apply pw_below_drewN | apply below_drew1) | exact HB.out))) : w.heap.size ≤ gb450)); have n3_ := Aside0.mk ((by rw [hg]; exact (below_size (by repeat (first | (with_reducible first | exact HB.out | apply below_alloc | apply pw_below_drewN | apply below_drew1) | exact HB.out))) : w.heap.size ≤ gb450)); clear HB; have HB := n0_; have BK450 := n1_; have GW450 := n2_; have GE450 := n3_; clear n0_ n1_ n2_ n3_; clear hb hbox hg) | ((with_reducible refine gate_callee (f := 18) rfl ?_); refine goesL_ (some 13) rfl rfl Try.func18 (by kernel_rfl) rfl #[.slice A1 l1.length c1, .int .i64 1048576] rfl (by (try simp only [List.map_toArray, List.map_cons, List.map_nil]); first | done | rfl | (simp only [List.length_drop, List.length_take]; rfl)) ?_; (with_reducible refine (laws_szMessageS.calls _ _ l1 1048576 t451 _ ?side1 ?side2 A3.out).mono ?_); (case side1 => repeat (first | exact (Kd.C_below HR1.out HB.out) | (with_reducible refine Kd.C_alloc ?_ _) | (with_reducible refine Kd.C_drewN ?_ _) | (with_reducible refine Kd.C_drew ?_))); (case side2 => exact HC1.out); rintro e w' ⟨rfl, ⟨nd, rfl⟩⟩; refine ⟨_, rfl, ?_⟩; have hcz14_0 : w13.cell? ⟨gb450, 0, none⟩ = some (.int .i64 a0_0) := (blk_cell BK450.out 0).trans rfl; have hcz14_1 : w13.cell? ⟨gb450, 1, none⟩ = some (.bool a0_1) := (blk_cell BK450.out 1).trans rfl; have hfz14_0 := blk_frozen BK450.out 0; have hfz14_1 := blk_frozen BK450.out 1) | ((with_reducible refine gate_callee (f := 15) rfl ?_); refine goesL_ (some 18) rfl rfl Try.func15 (by kernel_rfl) rfl #[.agg #[.int .i64 a0_0, .bool a0_1]] rfl (by (try simp only [List.map_toArray, List.map_cons, List.map_nil]); first | done | rfl | (simp only [List.length_drop, List.length_take]; rfl)) ?_; (with_reducible refine (laws_toSlotRing.calls a0_0 a0_1 t452 t453 _ A6.out).mono ?_); rintro e w15 ⟨rfl, hb⟩; refine ⟨_, rfl, ?_⟩; have n0_ := Aside0.mk (blk_below (g := gb450) (o := .cells #[.int .i64 a0_0, .bool a0_1] 23 (0, 0)) (by (with_reducible repeat (first | refine blk_drewN ?_ _ | refine blk_drew ?_ | refine blk_alloc ?_ _)); exact BK450.out) hb); have n1_ := Aside0.mk (below_step (by repeat (first | (with_reducible first | exact HB.out | apply below_alloc | apply pw_below_drewN | apply below_drew1 | refine below_set ?_ GE450.out) | exact HB.out)) hb); clear BK450; clear HB; have BK450 := n0_; have HB := n1_; clear n0_ n1_; (try clear hb); (try clear hb2); (try clear hk); (try clear hi)) | ((with_reducible refine gate_callee (f := 20) rfl ?_); refine goesL_ (some 20) rfl rfl Try.func20 (by kernel_rfl) rfl #[.slice A1 l1.length c1] rfl (by (try simp only [List.map_toArray, List.map_cons, List.map_nil]); first | done | rfl | (simp only [List.length_drop, List.length_take]; rfl)) ?_; (with_reducible refine (laws_toMessageS.calls k _ _ l1 t454 _ ?side1 ?side2 A7.out).mono ?_); (case side1 => repeat (first | exact (Kd.C_below HR1.out HB.out) | (with_reducible refine Kd.C_alloc ?_ _) | (with_reducible refine Kd.C_drewN ?_ _) | (with_reducible refine Kd.C_drew ?_))); (case side2 => exact HC1.out); rintro e w16 ⟨v455, rfl, ho0, hb⟩; refine ⟨_, rfl, ?_⟩; have n0_ := Aside0.mk (Kd.R_lower ho0 (below_size (by repeat (first | (with_reducible first | exact HB.out | apply below_alloc | apply pw_below_drewN | apply below_drew1 | refine below_set ?_ GE450.out) | exact HB.out)))); have n1_ := Aside0.mk (blk_below (g := gb450) (o := .cells #[.int .i64 a0_0, .bool a0_1] 23 (0, 0)) (by (with_reducible repeat (first | refine blk_drewN ?_ _ | refine blk_drew ?_ | refine blk_alloc ?_ _)); exact BK450.out) hb); have n2_ := Aside0.mk (below_step (by repeat (first | (with_reducible first | exact HB.out | apply below_alloc | apply pw_below_drewN | apply below_drew1 | refine below_set ?_ GE450.out) | exact HB.out)) hb); clear BK450; clear HB; have HO456 := n0_; have BK450 := n1_; have HB := n2_; clear n0_ n1_ n2_; (try clear hb); (try clear hb2); (try clear hk); (try clear hi); (try clear ho0); obtain ⟨Ao17, co17, eo17⟩ := Kd.R_slice HO456.out; subst eo17) | ((with_reducible refine gate_callee (f := 38) rfl ?_); refine goesL_ (some 21) rfl rfl Try.func38 (by kernel_rfl) rfl #[.agg #[.int .i64 t452, .bool t453], .slice Ao17 t454.length co17] rfl (by (try simp only [List.map_toArray, List.map_cons, List.map_nil]); first | done | rfl | (simp only [List.length_drop, List.length_take]; rfl)) ?_; (with_reducible refine (spec_LastRead.calls k t452 t453 _ _ t454 t457 t458 _ ?side1 ?side2 A8.out).mono ?_); (case side1 => repeat (first | exact (Kd.R_reads' HO456.out).2.2 | (with_reducible refine Kd.C_alloc ?_ _) | (with_reducible refine Kd.C_drewN ?_ _) | (with_reducible refine Kd.C_drew ?_))); (case side2 => exact (Kd.R_reads' HO456.out).2.1); rintro e w18 ⟨rfl, hb⟩; refine ⟨_, rfl, ?_⟩; have n0_ := Aside0.mk (Kd.R_below (by (with_reducible repeat (first | apply Kd.R_alloc | apply Kd.R_drewN | apply Kd.R_drew)); exact HO456.out) hb); have n1_ := Aside0.mk (blk_below (g := gb450) (o := .cells #[.int .i64 a0_0, .bool a0_1] 23 (0, 0)) (by (with_reducible repeat (first | refine blk_drewN ?_ _ | refine blk_drew ?_ | refine blk_alloc ?_ _)); exact BK450.out) hb); have n2_ := Aside0.mk (below_step (by repeat (first | (with_reducible first | exact HB.out | apply below_alloc | apply pw_below_drewN | apply below_drew1 | refine below_set ?_ GE450.out) | exact HB.out)) hb); clear HO456; clear BK450; clear HB; have HO456 := n0_; have BK450 := n1_; have HB := n2_; clear n0_ n1_ n2_; (try clear hb); (try clear hb2); (try clear hk); (try clear hi)) | ((with_reducible refine gate_callee (f := 20) rfl ?_); refine goesL_ (some 25) rfl rfl Try.func20 (by kernel_rfl) rfl #[.slice A1 l1.length c1] rfl (by (try simp only [List.map_toArray, List.map_cons, List.map_nil]); first | done | rfl | (simp only [List.length_drop, List.length_take]; rfl)) ?_; (with_reducible refine (laws_toMessageS.calls k _ _ l1 t459 _ ?side1 ?side2 A9.out).mono ?_); (case side1 => repeat (first | exact (Kd.C_below HR1.out HB.out) | (with_reducible refine Kd.C_alloc ?_ _) | (with_reducible refine Kd.C_drewN ?_ _) | (with_reducible refine Kd.C_drew ?_))); (case side2 => exact HC1.out); rintro e w19 ⟨v460, rfl, ho0, hb⟩; refine ⟨_, rfl, ?_⟩; have n0_ := Aside0.mk (Kd.R_elder' (by (with_reducible repeat (first | apply Kd.R_alloc | apply Kd.R_drewN | apply Kd.R_drew)); exact HO456.out) (Kd.R_base ho0) hb); have n1_ := Aside0.mk (Kd.R_lower (Kd.R_new' ho0 (Kd.R_lt (by (with_reducible repeat (first | apply Kd.R_alloc | apply Kd.R_drewN | apply Kd.R_drew)); exact HO456.out))) (below_size (by repeat (first | (with_reducible first | exact HB.out | apply below_alloc | apply pw_below_drewN | apply below_drew1 | refine below_set ?_ GE450.out) | exact HB.out)))); have n2_ := Aside0.mk (blk_below (g := gb450) (o := .cells #[.int .i64 a0_0, .bool a0_1] 23 (0, 0)) (by (with_reducible repeat (first | refine blk_drewN ?_ _ | refine blk_drew ?_ | refine blk_alloc ?_ _)); exact BK450.out) hb); have n3_ := Aside0.mk (below_step (by repeat (first | (with_reducible first | exact HB.out | apply below_alloc | apply pw_below_drewN | apply below_drew1 | refine below_set ?_ GE450.out) | exact HB.out)) hb); clear HO456; clear BK450; clear HB; have HO456 := n0_; have HO461 := n1_; have BK450 := n2_; have HB := n3_; clear n0_ n1_ n2_ n3_; (try clear hb); (try clear hb2); (try clear hk); (try clear hi); (try clear ho0); have hcz20_0 : w19.cell? ⟨gb450, 0, none⟩ = some (.int .i64 a0_0) := (blk_cell BK450.out 0).trans rfl; have hcz20_1 : w19.cell? ⟨gb450, 1, none⟩ = some (.bool a0_1) := (blk_cell BK450.out 1).trans rfl; have hfz20_0 := blk_frozen BK450.out 0; have hfz20_1 := blk_frozen BK450.out 1) | ((with_reducible refine gate_callee (f := 15) rfl ?_); refine goesL_ (some 28) rfl rfl Try.func15 (by kernel_rfl) rfl #[.agg #[.int .i64 a0_0, .bool a0_1]] rfl (by (try simp only [List.map_toArray, List.map_cons, List.map_nil]); first | done | rfl | (simp only [List.length_drop, List.length_take]; rfl)) ?_; (with_reducible refine (laws_toSlotRing.calls a0_0 a0_1 t462 t463 _ A10.out).mono ?_); rintro e w21 ⟨rfl, hb⟩; refine ⟨_, rfl, ?_⟩; have n0_ := Aside0.mk (Kd.R_below (by (with_reducible repeat (first | apply Kd.R_alloc | apply Kd.R_drewN | apply Kd.R_drew)); exact HO456.out) hb); have n1_ := Aside0.mk (Kd.R_below (by (with_reducible repeat (first | apply Kd.R_alloc | apply Kd.R_drewN | apply Kd.R_drew)); exact HO461.out) hb); have n2_ := Aside0.mk (blk_below (g := gb450) (o := .cells #[.int .i64 a0_0, .bool a0_1] 23 (0, 0)) (by (with_reducible repeat (first | refine blk_drewN ?_ _ | refine blk_drew ?_ | refine blk_alloc ?_ _)); exact BK450.out) hb); have n3_ := Aside0.mk (below_step (by repeat (first | (with_reducible first | exact HB.out | apply below_alloc | apply pw_below_drewN | apply below_drew1 | refine below_set ?_ GE450.out) | exact HB.out)) hb); clear HO456; clear HO461; clear BK450; clear HB; have HO456 := n0_; have HO461 := n1_; have BK450 := n2_; have HB := n3_; clear n0_ n1_ n2_ n3_; (try clear hb); (try clear hb2); (try clear hk); (try clear hi); obtain ⟨Ao22, co22, eo22⟩ := Kd.R_slice HO461.out; subst eo22) | ((with_reducible refine gate_callee (f := 39) rfl ?_); refine goesL_ (some 30) rfl rfl Try.func39 (by kernel_rfl) rfl #[.agg #[.int .i64 t462, .bool t463], .slice Ao22 t459.length co22] rfl (by (try simp only [List.map_toArray, List.map_cons, List.map_nil]); first | done | rfl | (simp only [List.length_drop, List.length_take]; rfl)) ?_; (with_reducible refine (impl_LastRead.calls k t462 t463 _ _ t459 t464 t465 _ ?side1 ?side2 A11.out).mono ?_); (case side1 => repeat (first | exact (Kd.R_reads' HO461.out).2.2 | (with_reducible refine Kd.C_alloc ?_ _) | (with_reducible refine Kd.C_drewN ?_ _) | (with_reducible refine Kd.C_drew ?_))); (case side2 => exact (Kd.R_reads' HO461.out).2.1); rintro e w23 ⟨rfl, hb⟩; refine ⟨_, rfl, ?_⟩; have n0_ := Aside0.mk (Kd.R_below (by (with_reducible repeat (first | apply Kd.R_alloc | apply Kd.R_drewN | apply Kd.R_drew)); exact HO456.out) hb); have n1_ := Aside0.mk (Kd.R_below (by (with_reducible repeat (first | apply Kd.R_alloc | apply Kd.R_drewN | apply Kd.R_drew)); exact HO461.out) hb); have n2_ := Aside0.mk (blk_below (g := gb450) (o := .cells #[.int .i64 a0_0, .bool a0_1] 23 (0, 0)) (by (with_reducible repeat (first | refine blk_drewN ?_ _ | refine blk_drew ?_ | refine blk_alloc ?_ _)); exact BK450.out) hb); have n3_ := Aside0.mk (below_step (by repeat (first | (with_reducible first | exact HB.out | apply below_alloc | apply pw_below_drewN | apply below_drew1 | refine below_set ?_ GE450.out) | exact HB.out)) hb); clear HO456; clear HO461; clear BK450; clear HB; have HO456 := n0_; have HO461 := n1_; have BK450 := n2_; have HB := n3_; clear n0_ n1_ n2_ n3_; (try clear hb); (try clear hb2); (try clear hk); (try clear hi)))
    (try simp only [Act.put, List.setIfInBounds_toArray, List.set_cons_zero, List.set_cons_succ])
    go_cut [40] (fun v40 wc => ∃ (kq : Nat) (x40_11 : Bool), v40 = .bool x40_11 ∧ Aside0 (laws_FnExactLastRead.j0 kq l1 t459 x40_11 = some r) ∧ Aside0 (kq ≤ k) ∧ Aside0 (Kd.R k30 30 wc w.heap.size (fun _ => True) (.slice Ao22 t459.length co22) t459) ∧ Aside0 (wc.heap[gb450]? = some (.cells #[.int .i64 a0_0, .bool a0_1] 23 (0, 0))) ∧ Aside0 (Below w.heap.size w wc))
    case first =>
      have H := HC12.out
      clear HC12
      by_cases c24 : t464 = t457
      · rw [if_pos c24] at H
        have c24b0 : (t464 == t457) = true := beq_iff_eq.mpr c24
        have c24b1 : (t464 != t457) = false := bne_eq_false_iff_eq.mpr c24
        clear c24
        (first | rw [c24b0] | (simp only [i64_w, i32_w]; rw [c24b0]) | skip)
        have H' := Aside0.mk H
        clear H
        go_wp2
        go_meet
        case rel => exact ⟨_, ((t465 != t458)), (by first | rfl | (simp; done) | (simp [*]; done)), H', ⟨by first | omega | exact Nat.le_refl _⟩, ⟨by (with_reducible repeat (first | apply Kd.R_alloc | apply Kd.R_drewN | apply Kd.R_drew)); exact Kd.R_mono HO461.out (fun _ hk => trivial)⟩, ⟨by (with_reducible repeat (first | refine blk_drewN ?_ _ | refine blk_drew ?_ | refine blk_alloc ?_ _)); exact BK450.out⟩, ⟨by repeat (first | (with_reducible first | exact HB.out | apply below_alloc | apply pw_below_drewN | apply below_drew1 | refine below_set ?_ GE450.out) | exact HB.out)⟩⟩
      · rw [if_neg c24] at H
        have c24b0 : (t464 == t457) = false := beq_eq_false_iff_ne.mpr c24
        have c24b1 : (t464 != t457) = true := bne_iff_ne.mpr c24
        (first | rw [c24b0] | (simp only [i64_w, i32_w]; rw [c24b0]) | skip)
        have H' := Aside0.mk H
        clear H
        go_wp2
        go_meet
        case rel => exact ⟨_, (true), (by first | rfl | (simp; done) | (simp [*]; done)), H', ⟨by first | omega | exact Nat.le_refl _⟩, ⟨by (with_reducible repeat (first | apply Kd.R_alloc | apply Kd.R_drewN | apply Kd.R_drew)); exact Kd.R_mono HO461.out (fun _ hk => trivial)⟩, ⟨by (with_reducible repeat (first | refine blk_drewN ?_ _ | refine blk_drew ?_ | refine blk_alloc ?_ _)); exact BK450.out⟩, ⟨by repeat (first | (with_reducible first | exact HB.out | apply below_alloc | apply pw_below_drewN | apply below_drew1 | refine below_set ?_ GE450.out) | exact HB.out)⟩⟩
    case rest =>
      clear HC12
      try clear c1
      try clear c2
      try clear p2
      try clear c3
      try clear c4
      try clear c4b0
      try clear c10
      try clear c15
      try clear c18
      try clear c20
      try clear c24
      try clear c24b0
      try clear c24b1
      try clear hcz14_0
      try clear hcz14_1
      try clear hcz20_0
      try clear hcz20_1
      try clear hfz14_0
      try clear hfz14_1
      try clear hfz20_0
      try clear hfz20_1
      obtain ⟨kq, x40_11, rfl, HA, HJ11, HO_8, BK450, HB⟩ := hcut
      cases kq with
      | zero => exact absurd HA.out (by simp [laws_FnExactLastRead.j0])
      | succ kj11 =>
        have H := HA.out
        clear HA
        simp only [laws_FnExactLastRead.j0] at H
        by_cases c25 : x40_11 = true
        · subst c25
          have H1 : (some false) = some r := by rw [if_pos rfl] at H; exact H
          clear H
          have H := H1
          clear H1
          obtain rfl := Option.some.inj H
          go_wp2
          go_ret
          exact ⟨by first | rfl | (simp [errW_none, errW_some] <;> rfl) | (simp [*, errW_none, errW_some] <;> rfl), by repeat (first | (with_reducible first | exact HB.out | apply below_alloc | apply pw_below_drewN | apply below_drew1 | refine below_set ?_ GE450.out) | exact HB.out)⟩
        · replace c25 := Bool.eq_false_iff.mpr c25
          subst c25
          have H1 : ((laws_toMessageS.f kj11 l1).bind fun t466 => ((laws_eqMessageS.f kj11 t459 t466).bind fun t469 => (if t469 = true then (some true) else (some false)))) = some r := by rw [if_neg (show ¬ (false = true) by decide)] at H; exact H
          clear H
          have H := H1
          clear H1
          replace H := Option.bind_eq_some_iff.mp H
          obtain ⟨t466, A260, H⟩ := H
          replace H : ((laws_eqMessageS.f kj11 t459 t466).bind fun t469 => (if t469 = true then (some true) else (some false))) = some r := H
          have A26 := Aside0.mk A260
          clear A260
          replace H := Option.bind_eq_some_iff.mp H
          obtain ⟨t469, A270, H⟩ := H
          replace H : (if t469 = true then (some true) else (some false)) = some r := H
          have A27 := Aside0.mk A270
          clear A270
          by_cases c28 : t469 = true
          · subst c28
            have H1 : (some true) = some r := by rw [if_pos rfl] at H; exact H
            clear H
            have H := H1
            clear H1
            obtain rfl := Option.some.inj H
            go_wp2_with (first | ((with_reducible refine gate_callee (f := 20) rfl ?_); refine goesL_ (some 43) rfl rfl Try.func20 (by kernel_rfl) rfl #[.slice A1 l1.length c1] rfl (by (try simp only [List.map_toArray, List.map_cons, List.map_nil]); first | done | rfl | (simp only [List.length_drop, List.length_take]; rfl)) ?_; (with_reducible refine (laws_toMessageS.calls kj11 _ _ l1 t466 _ ?side1 ?side2 A26.out).mono ?_); (case side1 => repeat (first | exact (Kd.C_below HR1.out HB.out) | (with_reducible refine Kd.C_alloc ?_ _) | (with_reducible refine Kd.C_drewN ?_ _) | (with_reducible refine Kd.C_drew ?_))); (case side2 => exact HC1.out); rintro e w29 ⟨v467, rfl, ho0, hb⟩; refine ⟨_, rfl, ?_⟩; have n0_ := Aside0.mk (Kd.R_elder' (by (with_reducible repeat (first | apply Kd.R_alloc | apply Kd.R_drewN | apply Kd.R_drew)); exact HO_8.out) (Kd.R_base ho0) hb); have n1_ := Aside0.mk (Kd.R_lower (Kd.R_new' ho0 (Kd.R_lt (by (with_reducible repeat (first | apply Kd.R_alloc | apply Kd.R_drewN | apply Kd.R_drew)); exact HO_8.out))) (below_size (by repeat (first | (with_reducible first | exact HB.out | apply below_alloc | apply pw_below_drewN | apply below_drew1 | refine below_set ?_ GE450.out) | exact HB.out)))); have n2_ := Aside0.mk (blk_below (g := gb450) (o := .cells #[.int .i64 a0_0, .bool a0_1] 23 (0, 0)) (by (with_reducible repeat (first | refine blk_drewN ?_ _ | refine blk_drew ?_ | refine blk_alloc ?_ _)); exact BK450.out) hb); have n3_ := Aside0.mk (below_step (by repeat (first | (with_reducible first | exact HB.out | apply below_alloc | apply pw_below_drewN | apply below_drew1 | refine below_set ?_ GE450.out) | exact HB.out)) hb); clear HO_8; clear BK450; clear HB; have HO_8 := n0_; have HO468 := n1_; have BK450 := n2_; have HB := n3_; clear n0_ n1_ n2_ n3_; (try clear hb); (try clear hb2); (try clear hk); (try clear hi); (try clear ho0); obtain ⟨Ao30, co30, eo30⟩ := Kd.R_slice HO468.out; subst eo30) | ((with_reducible refine gate_callee (f := 22) rfl ?_); refine goesL_ (some 44) rfl rfl Try.func22 (by kernel_rfl) rfl #[.slice Ao22 t459.length co22, .slice Ao30 t466.length co30] rfl (by (try simp only [List.map_toArray, List.map_cons, List.map_nil]); first | done | rfl | (simp only [List.length_drop, List.length_take]; rfl)) ?_; (with_reducible refine (laws_eqMessageS.calls kj11 _ _ t459 _ _ t466 true _ ?side1 ?side2 ?side3 ?side4 A27.out).mono ?_); (case side1 => repeat (first | exact (Kd.R_reads' HO_8.out).2.2 | (with_reducible refine Kd.C_alloc ?_ _) | (with_reducible refine Kd.C_drewN ?_ _) | (with_reducible refine Kd.C_drew ?_))); (case side2 => exact (Kd.R_reads' HO_8.out).2.1); (case side3 => repeat (first | exact (Kd.R_reads' HO468.out).2.2 | (with_reducible refine Kd.C_alloc ?_ _) | (with_reducible refine Kd.C_drewN ?_ _) | (with_reducible refine Kd.C_drew ?_))); (case side4 => exact (Kd.R_reads' HO468.out).2.1); rintro e w31 ⟨rfl, hb⟩; refine ⟨_, rfl, ?_⟩; have n0_ := Aside0.mk (Kd.R_below (by (with_reducible repeat (first | apply Kd.R_alloc | apply Kd.R_drewN | apply Kd.R_drew)); exact HO_8.out) hb); have n1_ := Aside0.mk (Kd.R_below (by (with_reducible repeat (first | apply Kd.R_alloc | apply Kd.R_drewN | apply Kd.R_drew)); exact HO468.out) hb); have n2_ := Aside0.mk (blk_below (g := gb450) (o := .cells #[.int .i64 a0_0, .bool a0_1] 23 (0, 0)) (by (with_reducible repeat (first | refine blk_drewN ?_ _ | refine blk_drew ?_ | refine blk_alloc ?_ _)); exact BK450.out) hb); have n3_ := Aside0.mk (below_step (by repeat (first | (with_reducible first | exact HB.out | apply below_alloc | apply pw_below_drewN | apply below_drew1 | refine below_set ?_ GE450.out) | exact HB.out)) hb); clear HO_8; clear HO468; clear BK450; clear HB; have HO_8 := n0_; have HO468 := n1_; have BK450 := n2_; have HB := n3_; clear n0_ n1_ n2_ n3_; (try clear hb); (try clear hb2); (try clear hk); (try clear hi)))
            go_ret
            exact ⟨by first | rfl | (simp [errW_none, errW_some] <;> rfl) | (simp [*, errW_none, errW_some] <;> rfl), by repeat (first | (with_reducible first | exact HB.out | apply below_alloc | apply pw_below_drewN | apply below_drew1 | refine below_set ?_ GE450.out) | exact HB.out)⟩
          · replace c28 := Bool.eq_false_iff.mpr c28
            subst c28
            have H1 : (some false) = some r := by rw [if_neg (show ¬ (false = true) by decide)] at H; exact H
            clear H
            have H := H1
            clear H1
            obtain rfl := Option.some.inj H
            go_wp2_with (first | ((with_reducible refine gate_callee (f := 20) rfl ?_); refine goesL_ (some 43) rfl rfl Try.func20 (by kernel_rfl) rfl #[.slice A1 l1.length c1] rfl (by (try simp only [List.map_toArray, List.map_cons, List.map_nil]); first | done | rfl | (simp only [List.length_drop, List.length_take]; rfl)) ?_; (with_reducible refine (laws_toMessageS.calls kj11 _ _ l1 t466 _ ?side1 ?side2 A26.out).mono ?_); (case side1 => repeat (first | exact (Kd.C_below HR1.out HB.out) | (with_reducible refine Kd.C_alloc ?_ _) | (with_reducible refine Kd.C_drewN ?_ _) | (with_reducible refine Kd.C_drew ?_))); (case side2 => exact HC1.out); rintro e w32 ⟨v467, rfl, ho0, hb⟩; refine ⟨_, rfl, ?_⟩; have n0_ := Aside0.mk (Kd.R_elder' (by (with_reducible repeat (first | apply Kd.R_alloc | apply Kd.R_drewN | apply Kd.R_drew)); exact HO_8.out) (Kd.R_base ho0) hb); have n1_ := Aside0.mk (Kd.R_lower (Kd.R_new' ho0 (Kd.R_lt (by (with_reducible repeat (first | apply Kd.R_alloc | apply Kd.R_drewN | apply Kd.R_drew)); exact HO_8.out))) (below_size (by repeat (first | (with_reducible first | exact HB.out | apply below_alloc | apply pw_below_drewN | apply below_drew1 | refine below_set ?_ GE450.out) | exact HB.out)))); have n2_ := Aside0.mk (blk_below (g := gb450) (o := .cells #[.int .i64 a0_0, .bool a0_1] 23 (0, 0)) (by (with_reducible repeat (first | refine blk_drewN ?_ _ | refine blk_drew ?_ | refine blk_alloc ?_ _)); exact BK450.out) hb); have n3_ := Aside0.mk (below_step (by repeat (first | (with_reducible first | exact HB.out | apply below_alloc | apply pw_below_drewN | apply below_drew1 | refine below_set ?_ GE450.out) | exact HB.out)) hb); clear HO_8; clear BK450; clear HB; have HO_8 := n0_; have HO468 := n1_; have BK450 := n2_; have HB := n3_; clear n0_ n1_ n2_ n3_; (try clear hb); (try clear hb2); (try clear hk); (try clear hi); (try clear ho0); obtain ⟨Ao33, co33, eo33⟩ := Kd.R_slice HO468.out; subst eo33) | ((with_reducible refine gate_callee (f := 22) rfl ?_); refine goesL_ (some 44) rfl rfl Try.func22 (by kernel_rfl) rfl #[.slice Ao22 t459.length co22, .slice Ao33 t466.length co33] rfl (by (try simp only [List.map_toArray, List.map_cons, List.map_nil]); first | done | rfl | (simp only [List.length_drop, List.length_take]; rfl)) ?_; (with_reducible refine (laws_eqMessageS.calls kj11 _ _ t459 _ _ t466 false _ ?side1 ?side2 ?side3 ?side4 A27.out).mono ?_); (case side1 => repeat (first | exact (Kd.R_reads' HO_8.out).2.2 | (with_reducible refine Kd.C_alloc ?_ _) | (with_reducible refine Kd.C_drewN ?_ _) | (with_reducible refine Kd.C_drew ?_))); (case side2 => exact (Kd.R_reads' HO_8.out).2.1); (case side3 => repeat (first | exact (Kd.R_reads' HO468.out).2.2 | (with_reducible refine Kd.C_alloc ?_ _) | (with_reducible refine Kd.C_drewN ?_ _) | (with_reducible refine Kd.C_drew ?_))); (case side4 => exact (Kd.R_reads' HO468.out).2.1); rintro e w34 ⟨rfl, hb⟩; refine ⟨_, rfl, ?_⟩; have n0_ := Aside0.mk (Kd.R_below (by (with_reducible repeat (first | apply Kd.R_alloc | apply Kd.R_drewN | apply Kd.R_drew)); exact HO_8.out) hb); have n1_ := Aside0.mk (Kd.R_below (by (with_reducible repeat (first | apply Kd.R_alloc | apply Kd.R_drewN | apply Kd.R_drew)); exact HO468.out) hb); have n2_ := Aside0.mk (blk_below (g := gb450) (o := .cells #[.int .i64 a0_0, .bool a0_1] 23 (0, 0)) (by (with_reducible repeat (first | refine blk_drewN ?_ _ | refine blk_drew ?_ | refine blk_alloc ?_ _)); exact BK450.out) hb); have n3_ := Aside0.mk (below_step (by repeat (first | (with_reducible first | exact HB.out | apply below_alloc | apply pw_below_drewN | apply below_drew1 | refine below_set ?_ GE450.out) | exact HB.out)) hb); clear HO_8; clear HO468; clear BK450; clear HB; have HO_8 := n0_; have HO468 := n1_; have BK450 := n2_; have HB := n3_; clear n0_ n1_ n2_ n3_; (try clear hb); (try clear hb2); (try clear hk); (try clear hi)))
            go_ret
            exact ⟨by first | rfl | (simp [errW_none, errW_some] <;> rfl) | (simp [*, errW_none, errW_some] <;> rfl), by repeat (first | (with_reducible first | exact HB.out | apply below_alloc | apply pw_below_drewN | apply below_drew1 | refine below_set ?_ GE450.out) | exact HB.out)⟩

end Go.Proofs.Ytgkbeejkbhhjkaa.X

/- What the functions of the program come to, and that they do: written by this session's program wip/xprint.py out of the translation; parts named extern are typed by hand. -/
namespace Go.Proofs.Ytgkbeejkbhhjkaa.X
open Go.RowKit Go.Proofs.YtgkbeejkbhhjkaaW.PrintWords Go.Proofs.YtgkbeejkbhhjkaaW.PrintLast Go.Proofs.YtgkbeejkbhhjkaaW.PrintMore
attribute [local go_sem] max2_int min2_int max_two min_two max_three min_three max_four min_four   -- for this text's walks alone
set_option linter.unusedVariables false
set_option linter.unusedSimpArgs false

/-! ### spec_FilledAt: function 40 -/
/- EXTERN, by hand (wip/hand/slotall.py): when messages fill slots. -/
/-! ### impl_FilledAt: function 41 -/
end Go.Proofs.Ytgkbeejkbhhjkaa.X

/- What the functions of the program come to, and that they do: written by this session's program wip/xprint.py out of the translation; parts named extern are typed by hand. -/
namespace Go.Proofs.Ytgkbeejkbhhjkaa.X
open Go.RowKit Go.Proofs.YtgkbeejkbhhjkaaW.PrintWords Go.Proofs.YtgkbeejkbhhjkaaW.PrintLast Go.Proofs.YtgkbeejkbhhjkaaW.PrintMore
attribute [local go_sem] max2_int min2_int max_two min_two max_three min_three max_four min_four   -- for this text's walks alone
set_option linter.unusedVariables false
set_option linter.unusedSimpArgs false

/-! ### spec_ReadAt: function 42 -/
/- EXTERN, by hand (wip/hand/slotall.py): when messages are read. -/
end Go.Proofs.Ytgkbeejkbhhjkaa.X

/- What the functions of the program come to, and that they do: written by this session's program wip/xprint.py out of the translation; parts named extern are typed by hand. -/
namespace Go.Proofs.Ytgkbeejkbhhjkaa.X
open Go.RowKit Go.Proofs.YtgkbeejkbhhjkaaW.PrintWords Go.Proofs.YtgkbeejkbhhjkaaW.PrintLast Go.Proofs.YtgkbeejkbhhjkaaW.PrintMore
attribute [local go_sem] max2_int min2_int max_two min_two max_three min_three max_four min_four   -- for this text's walks alone
set_option linter.unusedVariables false
set_option linter.unusedSimpArgs false

/-! ### spec_QueueAt: function 44 -/
/- EXTERN, by hand (wip/hand/slotall.py): the messages that wait. -/
end Go.Proofs.Ytgkbeejkbhhjkaa.X

/- What the functions of the program come to, and that they do: written by this session's program wip/xprint.py out of the translation; parts named extern are typed by hand. -/
namespace Go.Proofs.Ytgkbeejkbhhjkaa.X
open Go.RowKit Go.Proofs.YtgkbeejkbhhjkaaW.PrintWords Go.Proofs.YtgkbeejkbhhjkaaW.PrintLast Go.Proofs.YtgkbeejkbhhjkaaW.PrintMore
attribute [local go_sem] max2_int min2_int max_two min_two max_three min_three max_four min_four   -- for this text's walks alone
set_option linter.unusedVariables false
set_option linter.unusedSimpArgs false

/-! ### impl_QueueAt: function 45 -/
mutual
def impl_QueueAt.j0 : Nat → List (S30) → Int → Int → List Int → Bool → Option (List Int × Bool)
  | 0, _, _, _, _, _ => none
  | k + 1, x1, x2, x3, x10, x35 => if x35 = true then (some (([] : List Int), false)) else (impl_QueueAt.l0 k x2 x3 x10 (([] : List Int)) x1 (x1.length : Int) 0)
def impl_QueueAt.l0 : Nat → Int → Int → List Int → List Int → List (S30) → Int → Int → Option (List Int × Bool)
  | 0, _, _, _, _, _, _, _ => none
  | k + 1, x2, x3, x10, x12, x37, x38, x39 => if x39 < x38 then (if 0 ≤ x39 then (if x39 < (x37.length : Int) then (if ((rd_T30 x37 x39).f1) = x2 then (if ((rd_T30 x37 x39).f0) ≤ x3 then (if x39 < (x10.length : Int) then (if (rd x10 x39) > x3 then (if x12.length < 17592186044416 then (impl_QueueAt.l0 k x2 x3 x10 (x12 ++ [x39]) x37 x38 (wrap64 (x39 + 1))) else (none)) else (impl_QueueAt.l0 k x2 x3 x10 x12 x37 x38 (wrap64 (x39 + 1)))) else (none)) else (impl_QueueAt.l0 k x2 x3 x10 x12 x37 x38 (wrap64 (x39 + 1)))) else (impl_QueueAt.l0 k x2 x3 x10 x12 x37 x38 (wrap64 (x39 + 1)))) else (none)) else (none)) else (some (x12, true))
end
end Go.Proofs.Ytgkbeejkbhhjkaa.X

/- Plain lemmas: what a function with rounds comes to. -/
namespace Go.Proofs.Ytgkbeejkbhhjkaa.X
set_option linter.unusedSimpArgs false
set_option linter.unusedVariables false
open Go.RowKit Go.Proofs.YtgkbeejkbhhjkaaW.PrintWords
theorem w64 {x : Int} (h1 : -9223372036854775808 ≤ x) (h2 : x ≤ 9223372036854775807) : wrap64 x = x := by unfold wrap64; omega
/-- One round: the next state's answer is this state's. -/
theorem evNext {α : Type} {g f : Nat → Option α} {r : α} (h : ∀ k, g (k + 1) = f k) (k : Ev f r) : Ev g r := Ev.step h k
theorem evEnd {α : Type} {g : Nat → Option α} {r : α} (h : ∀ k, g (k + 1) = some r) : Ev g r := Ev.step (f := fun _ => some r) h (Ev.now r)
/-- A round that calls: from some number of rounds on. -/
theorem evCall {α β : Type} {g f : Nat → Option α} {c : Nat → Option β} {v : β} {r : α} (hc : Ev c v) (h : ∀ k, c k = some v → g (k + 1) = f k) (k : Ev f r) : Ev g r := by
  obtain ⟨K, k⟩ := k
  obtain ⟨K', hc⟩ := hc
  refine ⟨K + K' + 1, fun n hn => ?_⟩
  obtain ⟨m, rfl⟩ : ∃ m, n = m + 1 := ⟨n - 1, by omega⟩
  rw [h m (hc m (by omega))]
  exact k m (by omega)
theorem evCallEnd {α β : Type} {g : Nat → Option α} {c : Nat → Option β} {v : β} {r : α} (hc : Ev c v) (h : ∀ k, c k = some v → g (k + 1) = some r) : Ev g r :=
  evCall hc h (Ev.now r)
/-- A counter that goes up: an invariant, and each round hands the answer on. -/
theorem evUp {σ ρ : Type} (n : Nat) (L : Nat → σ → Nat → Option ρ) (I : Nat → σ → Prop) (r : ρ)
    (hs : ∀ i s, i < n → I i s → (∃ s', I (i + 1) s' ∧ (Ev (fun k => L k s' (i + 1)) r → Ev (fun k => L k s i) r)) ∨ Ev (fun k => L k s i) r)
    (he : ∀ s, I n s → Ev (fun k => L k s n) r) : ∀ i s, i ≤ n → I i s → Ev (fun k => L k s i) r := by
  have key : ∀ d i s, i + d = n → I i s → Ev (fun k => L k s i) r := by
    intro d
    induction d with
    | zero =>
      intro i s hd hI
      obtain rfl : i = n := by omega
      exact he s hI
    | succ d ih =>
      intro i s hd hI
      rcases hs i s (by omega) hI with ⟨s', hI', hk⟩ | h
      · exact hk (ih (i + 1) s' (by omega) hI')
      · exact h
  intro i s hi hI
  exact key (n - i) i s (by omega) hI
/-- The same from zero on. -/
theorem evUp0 {σ ρ : Type} (n : Nat) (L : Nat → σ → Nat → Option ρ) (I : Nat → σ → Prop) (r : ρ) (s : σ) (h0 : I 0 s)
    (hs : ∀ i s, i < n → I i s → (∃ s', I (i + 1) s' ∧ (Ev (fun k => L k s' (i + 1)) r → Ev (fun k => L k s i) r)) ∨ Ev (fun k => L k s i) r)
    (he : ∀ s, I n s → Ev (fun k => L k s n) r) : Ev (fun k => L k s 0) r := evUp n L I r hs he 0 s (Nat.zero_le _) h0
theorem evEq {α : Type} {g : Nat → Option α} {r r' : α} (h : Ev g r) (e : r = r') : Ev g r' := e ▸ h
theorem rd_at (l : List Int) (i : Nat) (h : i < l.length) : rd l (i : Int) = l[i] := by
  simp [rd, List.getD_eq_getElem?_getD, List.getElem?_eq_getElem h]
end Go.Proofs.Ytgkbeejkbhhjkaa.X

/- Plain lemmas of slot rings: the order of the stations within a tick does not matter; the program's ring is the reference's. -/
namespace Go.Proofs.Ytgkbeejkbhhjkaa.X
set_option linter.unusedSimpArgs false
set_option linter.unusedVariables false
open Go.RowKit Go.Proofs.YtgkbeejkbhhjkaaW.PrintWords
section
variable {J : List S30} {fah : Bool} {t : Int}
/-- One after the other. -/
def slFold (J : List S30) (fah : Bool) (t : Int) (ops : List (Nat × Int)) (s : SlSt) : SlSt := ops.foldl (fun s p => slOne J fah t p.1 p.2 s) s
theorem slFold_inv {n : Nat} (ht : 0 ≤ t) : ∀ (A : List (Nat × Int)) (s : SlSt), SlInv n J.length s → (∀ p ∈ A, p.1 < n) → SlInv n J.length (slFold J fah t A s)
  | [], _, h, _ => h
  | p :: A, s, h, hA => slFold_inv ht A _ (slOne_inv ht h (hA p (by simp))) (fun q hq => hA q (by simp [hq]))
theorem slFold_past {n : Nat} (ht : 0 ≤ t) (b : Nat × Int) (hb : b.1 < n) : ∀ (A : List (Nat × Int)) (s : SlSt), SlInv n J.length s → (∀ p ∈ A, p.1 < n ∧ p.1 ≠ b.1 ∧ p.2 ≠ b.2) → slFold J fah t A (slOne J fah t b.1 b.2 s) = slOne J fah t b.1 b.2 (slFold J fah t A s)
  | [], _, _, _ => rfl
  | p :: A, s, h, hA => by
    obtain ⟨h1, h2, h3⟩ := hA p (by simp)
    show slFold J fah t A (slOne J fah t p.1 p.2 (slOne J fah t b.1 b.2 s)) = slOne J fah t b.1 b.2 (slFold J fah t A (slOne J fah t p.1 p.2 s))
    rw [slOne_comm (J := J) (fah := fah) (t := t) h hb h1 (Ne.symm h2) (Ne.symm h3)]
    exact slFold_past ht b hb A _ (slOne_inv ht h h1) (fun q hq => hA q (by simp [hq]))
theorem slFold_swap {n : Nat} (ht : 0 ≤ t) (A : List (Nat × Int)) (hA : ∀ p ∈ A, p.1 < n) : ∀ (B : List (Nat × Int)) (s : SlSt), SlInv n J.length s → (∀ b ∈ B, b.1 < n ∧ ∀ p ∈ A, p.1 ≠ b.1 ∧ p.2 ≠ b.2) → slFold J fah t (A ++ B) s = slFold J fah t (B ++ A) s
  | [], s, _, _ => by rw [List.append_nil]; rfl
  | b :: B, s, h, hB => by
    obtain ⟨h1, h2⟩ := hB b (by simp)
    have ih := slFold_swap ht A hA B (slOne J fah t b.1 b.2 s) (slOne_inv ht h h1) (fun q hq => hB q (by simp [hq]))
    have hp := slFold_past (J := J) (fah := fah) (t := t) ht b h1 A s h (fun p hp => ⟨hA p hp, (h2 p hp).1, (h2 p hp).2⟩)
    show List.foldl _ s (A ++ b :: B) = slFold J fah t (B ++ A) (slOne J fah t b.1 b.2 s)
    rw [← ih]
    unfold slFold at hp ⊢
    rw [List.foldl_append, List.foldl_append, List.foldl_cons, hp]
/-- The reference goes by slots, the program by stations. -/
def opsSpec (n t : Nat) : List (Nat × Int) := (List.range n).map (fun k => (k, (((k + t) % n : Nat) : Int)))
def opsImpl (n t : Nat) : List (Nat × Int) := (List.range n).map (fun o => ((o + (n - t % n)) % n, (o : Int)))
theorem range_split (a b : Nat) : List.range (a + b) = List.range a ++ (List.range b).map (fun i => a + i) := by
  induction b with
  | zero => simp
  | succ b ih => rw [← Nat.add_assoc, List.range_succ, ih, List.range_succ, List.map_append, List.append_assoc]; rfl
theorem ops_split (n t : Nat) (hn : 0 < n) : ∃ X Y : List (Nat × Int), opsSpec n t = X ++ Y ∧ opsImpl n t = Y ++ X ∧ (∀ p ∈ X, p.1 < n) ∧ ∀ b ∈ Y, b.1 < n ∧ ∀ p ∈ X, p.1 ≠ b.1 ∧ p.2 ≠ b.2 := by
  have hs : t % n < n := Nat.mod_lt _ hn
  obtain ⟨s0, hs0⟩ : ∃ s0, t % n = s0 := ⟨_, rfl⟩
  rw [hs0] at hs
  refine ⟨(List.range (n - s0)).map (fun k => (k, ((k + s0 : Nat) : Int))), (List.range s0).map (fun i => (n - s0 + i, (i : Int))), ?_, ?_, ?_, ?_⟩
  · unfold opsSpec
    rw [show List.range n = List.range ((n - s0) + s0) by rw [Nat.sub_add_cancel (by omega)], range_split, List.map_append, List.map_map]
    congr 1
    · refine List.map_congr_left fun k hk => ?_
      have hk2 := List.mem_range.1 hk
      rw [Nat.add_mod, hs0, Nat.mod_eq_of_lt (show k < n by omega), Nat.mod_eq_of_lt (by omega)]
    · refine List.map_congr_left fun i hi => ?_
      have hi2 := List.mem_range.1 hi
      show (n - s0 + i, (((n - s0 + i + t) % n : Nat) : Int)) = _
      rw [Nat.add_mod, hs0, Nat.mod_eq_of_lt (show n - s0 + i < n by omega), show n - s0 + i + s0 = i + n by omega, Nat.add_mod_right, Nat.mod_eq_of_lt (by omega)]
  · unfold opsImpl
    rw [show List.range n = List.range (s0 + (n - s0)) by rw [Nat.add_sub_cancel' (by omega)], range_split, List.map_append, List.map_map, hs0]
    congr 1
    · refine List.map_congr_left fun i hi => ?_
      have hi2 := List.mem_range.1 hi
      rw [Nat.mod_eq_of_lt (by omega), Nat.add_comm]
    · refine List.map_congr_left fun k hk => ?_
      have hk2 := List.mem_range.1 hk
      show ((s0 + k + (n - s0)) % n, ((s0 + k : Nat) : Int)) = _
      rw [show s0 + k + (n - s0) = k + n by omega, Nat.add_mod_right, Nat.mod_eq_of_lt (by omega), Nat.add_comm s0 k]
  · intro p hp
    obtain ⟨k, hk, rfl⟩ := List.mem_map.1 hp
    have := List.mem_range.1 hk
    show k < n
    omega
  · intro b hb
    obtain ⟨i, hi, rfl⟩ := List.mem_map.1 hb
    have hi2 := List.mem_range.1 hi
    refine ⟨by show n - s0 + i < n; omega, fun p hp => ?_⟩
    obtain ⟨k, hk, rfl⟩ := List.mem_map.1 hp
    have hk2 := List.mem_range.1 hk
    exact ⟨by show k ≠ n - s0 + i; omega, by show ((k + s0 : Nat) : Int) ≠ (i : Int); omega⟩
/-- A tick by slots is a tick by stations. -/
theorem tick_same {n : Nat} (hn : 0 < n) (tn : Nat) (s : SlSt) (h : SlInv n J.length s) : slFold J fah (tn : Int) (opsSpec n tn) s = slFold J fah (tn : Int) (opsImpl n tn) s ∧ SlInv n J.length (slFold J fah (tn : Int) (opsSpec n tn) s) := by
  obtain ⟨X, Y, h1, h2, h3, h4⟩ := ops_split n tn hn
  refine ⟨?_, slFold_inv (by omega) _ _ h (fun p hp => ?_)⟩
  · rw [h1, h2]
    exact slFold_swap (by omega) X h3 Y s h h4
  · rw [h1] at hp
    rcases List.mem_append.1 hp with hp | hp
    · exact h3 p hp
    · exact (h4 p hp).1
end
theorem slTo_fold (J : List S30) (fah : Bool) (t n : Nat) (s : SlSt) : ∀ m, slTo J fah (t : Int) n s m = slFold J fah (t : Int) ((List.range m).map (fun k => (k, (((k + t) % n : Nat) : Int)))) s
  | 0 => rfl
  | m + 1 => by
    rw [slTo, slTo_fold J fah t n s m, List.range_succ, List.map_append]
    unfold slFold
    rw [List.foldl_append]
    have e : Int.tmod ((m : Int) + (t : Int)) (n : Int) = (((m + t) % n : Nat) : Int) := by
      rw [Int.tmod_eq_emod_of_nonneg (by omega), Int.natCast_emod]
      rfl
    rw [e]
    rfl
theorem slIm_fold (J : List S30) (fah : Bool) (n t : Nat) (s : SlSt) : ∀ o, slIm J fah n t s o = slFold J fah (t : Int) ((List.range o).map (fun o => ((o + (n - t % n)) % n, (o : Int)))) s
  | 0 => rfl
  | o + 1 => by
    rw [slIm, slIm_fold J fah n t s o, List.range_succ, List.map_append]
    unfold slFold
    rw [List.foldl_append]
    rfl
/-- The program's ring is the reference's. -/
theorem run_same (J : List S30) (fah : Bool) (n : Nat) (hn : 0 < n) : ∀ t, slImTo J fah n t = slRunTo J fah n t
  | 0 => rfl
  | t + 1 => by
    rw [slImTo, slRunTo, run_same J fah n hn t, slTo_fold, slIm_fold]
    exact (tick_same (fah := fah) hn t _ (slRunTo_inv J fah n t)).1.symm
end Go.Proofs.Ytgkbeejkbhhjkaa.X

/- Plain lemmas: the laws' own helpers over slices of Messages. -/
namespace Go.Proofs.Ytgkbeejkbhhjkaa.X
set_option linter.unusedSimpArgs false
set_option linter.unusedVariables false
open Go.RowKit Go.Proofs.YtgkbeejkbhhjkaaW.PrintWords
theorem rdL_at (l : List S25) (i : Nat) (h : i < l.length) : rd_T25 l (i : Int) = l[i] := by
  simp [rd_T25, List.getD_eq_getElem?_getD, List.getElem?_eq_getElem h]
def toL (l : List S25) : List S30 := l.map (fun x => ⟨x.f0, x.f1, x.f2⟩)
theorem toL_length (l : List S25) : (toL l).length = l.length := by simp [toL]
theorem sz_big (l : List S25) (h : 1048576 < l.length) (h2 : l.length ≤ 9223372036854775807) : laws_szMessageS.f l 1048576 = some (-1) := by
  unfold laws_szMessageS.f
  rw [w64 (by omega) (by omega), if_pos (by omega)]
theorem sz_small (l : List S25) (h : l.length ≤ 1048576) : laws_szMessageS.f l 1048576 = some (1048576 - (l.length : Int)) := by
  unfold laws_szMessageS.f
  rw [w64 (by omega) (by omega), if_neg (by omega)]
theorem toS_ev (l : List S25) (hn : l.length ≤ 1048576) : Ev (fun k => laws_toMessageS.f k l) (toL l) := by
  have key := evUp l.length (fun k (s : List S30) (i : Nat) => laws_toMessageS.l0 k l s (i : Int)) (fun i s => s = (toL l).take i ++ List.replicate (l.length - i) z30) (toL l)
    (by
      intro i s hi hI
      have hsl : s.length = l.length := by rw [hI]; simp [toL_length]; omega
      refine .inl ⟨(toL l).take (i + 1) ++ List.replicate (l.length - (i + 1)) z30, rfl, fun h => evNext (fun k => ?_) h⟩
      show laws_toMessageS.l0 (k + 1) l s (i : Int) = laws_toMessageS.l0 k l _ (i + 1 : Nat)
      simp only [laws_toMessageS.l0, laws_toMessage.f, Option.bind_some]
      rw [if_pos (by omega), if_pos (by omega), if_pos (by omega), w64 (by omega) (by omega), rdL_at l i hi]
      congr 1
      subst hI
      rw [Int.toNat_natCast]
      have htl := toL_length l
      apply List.ext_getElem
      · simp [toL_length]; omega
      · intro j h1 h2
        rw [List.getElem_set]
        by_cases e : i = j
        · subst e
          rw [if_pos rfl, List.getElem_append_left (by simp [toL_length]; omega)]
          simp [toL]
        · rw [if_neg e]
          by_cases hj : j < i
          · rw [List.getElem_append_left (by simp [toL_length]; omega), List.getElem_append_left (by simp [toL_length]; omega)]
            simp
          · rw [List.getElem_append_right (by simp [toL_length]; omega), List.getElem_append_right (by simp [toL_length]; omega)]
            simp)
    (by
      intro s hI
      refine evEnd fun k => ?_
      show laws_toMessageS.l0 (k + 1) l s (l.length : Int) = some (toL l)
      simp only [laws_toMessageS.l0]
      rw [if_neg (by omega), hI, List.take_of_length_le (by rw [toL_length]; exact Nat.le_refl _)]
      simp) 0 (List.replicate l.length z30) (by omega) (by simp)
  refine Ev.congr (fun k => ?_) key
  unfold laws_toMessageS.f
  rw [if_pos (by omega), if_pos (by omega), Int.toNat_natCast]
  rfl
theorem eqOne (x : S30) : laws_eqMessage.f x.f0 x.f1 x.f2 x.f0 x.f1 x.f2 = some true := by simp [laws_eqMessage.f]
theorem eqS_ev (l : List S30) (hn : l.length ≤ 1048576) : Ev (fun k => laws_eqMessageS.f k l l) true := by
  have key := evUp0 l.length (fun k (_ : Unit) (i : Nat) => laws_eqMessageS.l0 k l l (i : Int)) (fun _ _ => True) true () trivial
    (by
      intro i s hi _
      refine .inl ⟨(), trivial, fun h => evNext (fun k => ?_) h⟩
      show laws_eqMessageS.l0 (k + 1) l l (i : Int) = laws_eqMessageS.l0 k l l (i + 1 : Nat)
      simp only [laws_eqMessageS.l0]
      rw [if_pos (by omega), if_pos (by omega), if_pos (by omega), eqOne, w64 (by omega) (by omega)]
      simp only [Option.bind_some, if_true]
      rfl)
    (by
      intro s _
      refine evEnd fun k => ?_
      show laws_eqMessageS.l0 (k + 1) l l (l.length : Int) = _
      simp only [laws_eqMessageS.l0]
      rw [if_neg (by omega)])
  refine Ev.congr (fun k => ?_) key
  unfold laws_eqMessageS.f
  rw [if_pos rfl]
  rfl
end Go.Proofs.Ytgkbeejkbhhjkaa.X

/- Plain lemmas: a number between two others. -/
namespace Go.Proofs.Ytgkbeejkbhhjkaa.X
set_option linter.unusedSimpArgs false
set_option linter.unusedVariables false
open Go.RowKit Go.Proofs.YtgkbeejkbhhjkaaW.PrintWords
theorem l1In_eq (n lo hi : Int) : spec_l1In.f n lo hi = some (inB lo hi n) := by
  unfold spec_l1In.f inB
  by_cases h : lo ≤ n
  · rw [if_pos (by omega), decide_eq_true h]; simp
  · rw [if_neg (by omega), decide_eq_false h]; simp
theorem within_eq (n lo hi : Int) : impl_within.f n lo hi = some (inB lo hi n) := by
  unfold impl_within.f inB
  by_cases h : lo ≤ n
  · rw [if_pos (by omega), decide_eq_true h]; simp
  · rw [if_neg (by omega), decide_eq_false h]; simp
theorem allWithin_eq (l : List Int) (lo hi : Int) : impl_allWithin.f l lo hi = some (l.all (inB lo hi)) := rfl
theorem inB_iff {lo hi n : Int} : inB lo hi n = true ↔ lo ≤ n ∧ n ≤ hi := by simp [inB]
end Go.Proofs.Ytgkbeejkbhhjkaa.X

/- Plain lemmas: messages on a slotted ring. -/
namespace Go.Proofs.Ytgkbeejkbhhjkaa.X
set_option linter.unusedSimpArgs false
set_option linter.unusedVariables false
open Go.RowKit Go.Proofs.YtgkbeejkbhhjkaaW.PrintWords
def okMsg (n : Int) (x : S30) : Bool := inB 0 100 x.f0 && (inB 0 (n - 1) x.f1 && (inB 0 (n - 1) x.f2 && (x.f1 != x.f2)))
def msgAt (n : Int) (l : List S30) (i : Nat) : Bool := okMsg n (rd_T30 l (i : Int)) && (decide (i = 0) || decide ((rd_T30 l ((i : Int) - 1)).f0 ≤ (rd_T30 l (i : Int)).f0))
def msgsTo (n : Int) (l : List S30) : Nat → Bool
  | 0 => true
  | m + 1 => msgsTo n l m && msgAt n l m
def areMsgs (n : Int) (l : List S30) : Bool := decide (l.length ≤ 20) && msgsTo n l l.length
def isSl (n : Int) (l : List S30) : Bool := inB 2 12 n && areMsgs n l
theorem msgsTo_false (n : Int) (l : List S30) (j : Nat) (h : msgAt n l j = false) : ∀ m, j < m → msgsTo n l m = false
  | 0, hm => by omega
  | m + 1, hm => by
    by_cases e : j = m
    · subst e
      simp [msgsTo, h]
    · simp [msgsTo, msgsTo_false n l j h m (by omega)]
theorem msgsTo_at {n : Int} {l : List S30} (m : Nat) (h : msgsTo n l m = true) (i : Nat) (hi : i < m) : msgAt n l i = true := by
  cases hj : msgAt n l i with
  | true => rfl
  | false =>
    have := msgsTo_false n l i hj m hi
    rw [this] at h
    cases h
theorem slGood_eq (n : Int) (b : Bool) : spec_slGood.f n b = some (inB 2 12 n) := by simp [spec_slGood.f, l1In_eq]
theorem isSlotRing_eq (n : Int) (b : Bool) : impl_IsSlotRing.f n b = some (inB 2 12 n) := by simp [impl_IsSlotRing.f, impl_isRingSize.f, within_eq]
theorem slMessage_eq (n : Int) (b : Bool) (hn : 2 ≤ n ∧ n ≤ 12) (x : S30) : spec_slMessage.f n b x.f0 x.f1 x.f2 = some (okMsg n x) := by
  unfold spec_slMessage.f okMsg
  simp only [l1In_eq, Option.bind_some]
  rw [w64 (by omega) (by omega)]
  cases inB 0 100 x.f0 <;> cases inB 0 (n - 1) x.f1 <;> cases inB 0 (n - 1) x.f2 <;> simp
theorem specMsgs_step (n : Int) (b : Bool) (hn : 2 ≤ n ∧ n ≤ 12) (l : List S30) (i : Nat) (hi : i < l.length) (hl : l.length ≤ 1048576) (k : Nat) :
    spec_slAll.l0 (k + 1) l l (l.length : Int) (i : Int) n b = if msgAt n l i = true then spec_slAll.l0 k l l (l.length : Int) ((i + 1 : Nat) : Int) n b else some false := by
  rw [spec_slAll.l0.eq_2]
  rw [if_pos (by omega), if_pos (by omega), if_pos (by omega)]
  simp only [slMessage_eq n b hn, Option.bind_some]
  unfold msgAt
  rw [w64 (x := (i : Int) + 1) (by omega) (by omega)]
  cases okMsg n (rd_T30 l (i : Int)) <;> simp
  by_cases h0 : i = 0
  · subst h0
    simp
  · rw [if_pos (by omega), w64 (by omega) (by omega), if_pos (by omega), if_pos (by omega)]
    by_cases hc : (rd_T30 l ((i : Int) - 1)).f0 ≤ (rd_T30 l (i : Int)).f0
    · rw [if_neg (by omega), if_pos (.inr hc)]
    · rw [if_pos (by omega), if_neg (by omega)]
theorem implMsgs_step (n : Int) (hn : 2 ≤ n ∧ n ≤ 12) (l : List S30) (i : Nat) (hi : i < l.length) (hl : l.length ≤ 1048576) (k : Nat) :
    impl_areMessages.l0 (k + 1) n l l (l.length : Int) (i : Int) = if msgAt n l i = true then impl_areMessages.l0 k n l l (l.length : Int) ((i + 1 : Nat) : Int) else some false := by
  simp only [impl_areMessages.l0]
  rw [if_pos (by omega), if_pos (by omega), if_pos (by omega)]
  simp only [within_eq, allWithin_eq, Option.bind_some, List.all_cons, List.all_nil, Bool.and_true]
  unfold msgAt okMsg
  rw [w64 (x := (i : Int) + 1) (by omega) (by omega), w64 (x := n - 1) (by omega) (by omega)]
  cases inB 0 100 (rd_T30 l (i : Int)).f0 <;> cases inB 0 (n - 1) (rd_T30 l (i : Int)).f1 <;> cases inB 0 (n - 1) (rd_T30 l (i : Int)).f2 <;> simp
  by_cases he : (rd_T30 l (i : Int)).f1 = (rd_T30 l (i : Int)).f2
  · simp [he]
  · rw [if_neg he]
    by_cases h0 : i = 0
    · subst h0
      rw [if_neg (by omega), if_pos ⟨he, .inl rfl⟩]
    · rw [if_pos (by omega), w64 (by omega) (by omega), if_pos (by omega), if_pos (by omega)]
      by_cases hc : (rd_T30 l ((i : Int) - 1)).f0 ≤ (rd_T30 l (i : Int)).f0
      · rw [if_neg (by omega), if_pos ⟨he, .inr hc⟩]
      · rw [if_pos (by omega), if_neg (by omega)]
theorem specMsgs_ev (n : Int) (b : Bool) (l : List S30) (hl : l.length ≤ 1048576) : Ev (fun k => spec_slAll.f k n b l) (isSl n l) := by
  unfold isSl
  cases hg : inB 2 12 n with
  | false =>
    refine ⟨9, fun k hk => ?_⟩
    obtain ⟨m, rfl⟩ : ∃ m, k = m + 9 := ⟨k - 9, by omega⟩
    simp [spec_slAll.f, slGood_eq, hg, spec_slAll.j0]
  | true =>
    have hn := inB_iff.1 hg
    unfold areMsgs
    by_cases hc : l.length ≤ 20
    · rw [decide_eq_true hc, Bool.true_and, Bool.true_and]
      have key := evUp0 l.length (fun k (_ : Unit) (i : Nat) => spec_slAll.l0 k l l (l.length : Int) (i : Int) n b) (fun i _ => msgsTo n l i = true) (msgsTo n l l.length) () rfl
        (by
          intro i s hi hI
          cases hj : msgAt n l i with
          | true => exact .inl ⟨(), by simp [msgsTo, hI, hj], fun h => evNext (fun k => by rw [specMsgs_step n b hn l i hi hl k, if_pos hj]) h⟩
          | false => exact .inr (evEnd fun k => by rw [specMsgs_step n b hn l i hi hl k, hj, msgsTo_false n l i hj l.length hi]; simp))
        (by
          intro s hI
          refine evEnd fun k => ?_
          show spec_slAll.l0 (k + 1) l l (l.length : Int) (l.length : Int) n b = _
          rw [spec_slAll.l0.eq_2, if_neg (by omega), hI])
      refine Ev.step (f := fun k => spec_slAll.l0 k l l (l.length : Int) 0 n b) (g := fun k => spec_slAll.f k n b l) (fun k => ?_) key
      show spec_slAll.f (k + 1) n b l = _
      unfold spec_slAll.f
      rw [slGood_eq, hg]
      simp only [Option.bind_some, if_true]
      rw [spec_slAll.j0.eq_2, decide_eq_false (by omega)]
      simp
    · refine ⟨9, fun k hk => ?_⟩
      obtain ⟨m, rfl⟩ : ∃ m, k = m + 9 := ⟨k - 9, by omega⟩
      have hd : decide ((l.length : Int) > 20) = true := decide_eq_true (by omega)
      show spec_slAll.f (m + 9) n b l = _
      unfold spec_slAll.f
      rw [slGood_eq, hg]
      simp only [Option.bind_some, if_true]
      rw [spec_slAll.j0.eq_2, hd, decide_eq_false hc]
      simp
theorem implMsgs_ev (n : Int) (hn : 2 ≤ n ∧ n ≤ 12) (l : List S30) (hl : l.length ≤ 1048576) : Ev (fun k => impl_areMessages.f k n l) (areMsgs n l) := by
  have key := evUp0 l.length (fun k (_ : Unit) (i : Nat) => impl_areMessages.l0 k n l l (l.length : Int) (i : Int)) (fun i _ => msgsTo n l i = true) (areMsgs n l) () rfl
    (by
      intro i s hi hI
      cases hj : msgAt n l i with
      | true => exact .inl ⟨(), by simp [msgsTo, hI, hj], fun h => evNext (fun k => by rw [implMsgs_step n hn l i hi hl k, if_pos hj]) h⟩
      | false => exact .inr (evEnd fun k => by rw [implMsgs_step n hn l i hi hl k, hj]; simp [areMsgs, msgsTo_false n l i hj l.length hi]))
    (by
      intro s hI
      refine evEnd fun k => ?_
      show impl_areMessages.l0 (k + 1) n l l (l.length : Int) (l.length : Int) = _
      simp only [impl_areMessages.l0]
      rw [if_neg (by omega)]
      unfold areMsgs
      rw [hI, Bool.and_true]
      congr 1
      by_cases h : l.length ≤ 20
      · rw [decide_eq_true h, decide_eq_true (by omega)]
      · rw [decide_eq_false h, decide_eq_false (by omega)])
  exact key
theorem implSlotted_ev (n : Int) (b : Bool) (l : List S30) (hl : l.length ≤ 1048576) : Ev (fun k => impl_isSlotted.f k n b l) (isSl n l) := by
  unfold isSl
  cases hg : inB 2 12 n with
  | false =>
    refine Ev.congr (f := fun _ => some false) (fun k => ?_) (Ev.now _)
    simp [impl_isSlotted.f, isSlotRing_eq, hg]
  | true =>
    obtain ⟨K, e⟩ := implMsgs_ev n (inB_iff.1 hg) l hl
    dsimp only at e
    refine ⟨K, fun k hk => ?_⟩
    simp (disch := omega) only [impl_isSlotted.f, isSlotRing_eq, hg, e, Option.bind_some, if_true, Bool.true_and]
/-- What is known of messages. -/
theorem isSl_at {n : Int} {l : List S30} (h : isSl n l = true) : (2 ≤ n ∧ n ≤ 12) ∧ l.length ≤ 20 ∧ ∀ i : Nat, i < l.length → 0 ≤ (rd_T30 l (i : Int)).f0 ∧ (rd_T30 l (i : Int)).f0 ≤ 100 ∧ 0 ≤ (rd_T30 l (i : Int)).f1 ∧ (rd_T30 l (i : Int)).f1 ≤ n - 1 ∧ 0 ≤ (rd_T30 l (i : Int)).f2 ∧ (rd_T30 l (i : Int)).f2 ≤ n - 1 ∧ (rd_T30 l (i : Int)).f1 ≠ (rd_T30 l (i : Int)).f2 := by
  unfold isSl areMsgs at h
  simp only [Bool.and_eq_true, decide_eq_true_eq] at h
  refine ⟨inB_iff.1 h.1, h.2.1, fun i hi => ?_⟩
  have := msgsTo_at l.length h.2.2 i hi
  unfold msgAt okMsg at this
  simp only [Bool.and_eq_true, bne_iff_ne] at this
  have h1 := inB_iff.1 this.1.1
  have h2 := inB_iff.1 this.1.2.1
  have h3 := inB_iff.1 this.1.2.2.1
  exact ⟨h1.1, h1.2, h2.1, h2.2, h3.1, h3.2, this.1.2.2.2⟩
theorem isSl_sorted {n : Int} {l : List S30} (h : isSl n l = true) (i : Nat) (hi : i + 1 < l.length) : (rd_T30 l (i : Int)).f0 ≤ (rd_T30 l ((i + 1 : Nat) : Int)).f0 := by
  unfold isSl areMsgs at h
  simp only [Bool.and_eq_true, decide_eq_true_eq] at h
  have := msgsTo_at l.length h.2.2 (i + 1) hi
  unfold msgAt at this
  simp only [Bool.and_eq_true, Bool.or_eq_true, decide_eq_true_eq] at this
  have e : ((i + 1 : Nat) : Int) - 1 = (i : Int) := by omega
  rw [e] at this
  omega
end Go.Proofs.Ytgkbeejkbhhjkaa.X
