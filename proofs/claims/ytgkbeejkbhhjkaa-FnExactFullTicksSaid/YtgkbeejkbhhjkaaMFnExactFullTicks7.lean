/- Several texts of this session in one: X32, X33, X34, X35, X37, X38, X39, X41, X43, X45, X46, PlEv, PlSlots, PlStructs, PlIn, PlMsgs, PlLive, PlHas, PlSlotRuns, PureFnExactFullTicks, Rw. -/
import Derived.Test.YtgkbeejkbhhjkaaMFnExactFullTicks0
import Derived.Test.YtgkbeejkbhhjkaaMFnExactFullTicks3
import Derived.Test.YtgkbeejkbhhjkaaMFnExactFullTicks6
import Derived.Test.YtgkbeejkbhhjkaaMFnExactFullTicks2
import Derived.Test.YtgkbeejkbhhjkaaMFnExactFullTicks5
import Derived.Test.YtgkbeejkbhhjkaaMFnExactFullTicks4
import Derived.Test.YtgkbeejkbhhjkaaWWords
import Derived.Test.YtgkbeejkbhhjkaaWMore
import Derived.Test.YtgkbeejkbhhjkaaMFnExactFullTicks1
import Derived.Deep.Slices
import Derived.Deep.Fields
import Derived.ChangeSame
import Derived.Lib.SmallJoins
import Derived.SizedLaws
import Derived.ChangeSlices
/- What the functions of the program come to, and that they do: written by this session's program wip/xprint.py out of the translation; parts named extern are typed by hand. -/
namespace Go.Proofs.Ytgkbeejkbhhjkaa.X
open Go.RowKit Go.Proofs.YtgkbeejkbhhjkaaW.PrintWords Go.Proofs.YtgkbeejkbhhjkaaW.PrintLast Go.Proofs.YtgkbeejkbhhjkaaW.PrintMore
attribute [local go_sem] max2_int min2_int max_two min_two max_three min_three max_four min_four   -- for this text's walks alone
set_option linter.unusedVariables false
set_option linter.unusedSimpArgs false

/-! ### impl_slotter_step: function 62 -/
/- EXTERN, by hand (wip/hand/slotall.py): a tick of the program's ring. -/
/-- The stations ahead of o have been seen to. -/
def slIm (J : List (S30)) (fah : Bool) (n t : Nat) (s : SlSt) : Nat → SlSt
  | 0 => s
  | o + 1 => slOne J fah (t : Int) ((o + (n - t % n)) % n) (o : Int) (slIm J fah n t s o)
theorem slIm_inv {J : List (S30)} {fah : Bool} {n t : Nat} {s : SlSt} (hn : 0 < n) (h : SlInv n J.length s) : ∀ o, o ≤ n → SlInv n J.length (slIm J fah n t s o)
  | 0, _ => h
  | o + 1, ho => slOne_inv (by omega) (slIm_inv hn h o (by omega)) (Nat.mod_lt _ hn)
/-- The program's ring behind so many ticks. -/
def slImTo (J : List (S30)) (fah : Bool) (n : Nat) : Nat → SlSt
  | 0 => slInit n J.length
  | t + 1 => slIm J fah n t (slImTo J fah n t) n
theorem slImTo_inv (J : List (S30)) (fah : Bool) (n : Nat) (hn : 0 < n) : ∀ t, SlInv n J.length (slImTo J fah n t)
  | 0 => slInit_inv n J.length
  | t + 1 => slIm_inv hn (slImTo_inv J fah n hn t) n (Nat.le_refl _)
set_option maxHeartbeats 16000000 in
set_option maxRecDepth 100000 in
theorem step_calls (g n : Nat) (fah : Bool) (J : List (S30)) (s : SlSt) (t : Nat) (w0 w : World) (hI : IsT w0 w g (n : Int) fah (t : Int) J s.1 s.2.1 s.2.2) (hB : Below w0.heap.size w0 w) (hn : 2 ≤ n ∧ n ≤ 12) (hj : J.length ≤ 20) (ht : t ≤ 10000) (hinv0 : SlInv n J.length s) :
    Calls Try.prog 62 #[.pointer (some ⟨g, 0, none⟩)] w fun e w' => e = .returned (.tuple #[]) ∧ IsT w0 w' g (n : Int) fah ((t + 1 : Nat) : Int) J (slIm J fah n t s n).1 (slIm J fah n t s n).2.1 (slIm J fah n t s n).2.2 ∧ Below w0.heap.size w0 w' := by
  have HI := Aside0.mk hI
  have HB := Aside0.mk hB
  have HN := Aside0.mk hn
  have HT := Aside0.mk ht
  have HJ := Aside0.mk hj
  have HV := Aside0.mk (fun o (ho : o ≤ n) => slIm_inv (J := J) (fah := fah) (n := n) (t := t) (by omega) hinv0 o ho)
  obtain ⟨A0, c0, v1, v2, v3, h1, h2, _⟩ := hI
  have HG := Aside0.mk h2
  have hc0 : w.cell? ⟨g, 0, none⟩ = some (.int .i64 (n : Int)) := (blk_cell h1 0).trans rfl
  clear hB hn hj ht hinv0 h1 h2
  go_enter Try.func62, Try.ntmps62
  go_wp2
  go_loopg [8] (n + 1) (fun kq v8 w' => ∃ o : Nat, kq + o = n + 1 ∧ o ≤ n ∧ v8 = .int .i64 (o : Int) ∧ Aside0 (IsT w0 w' g (n : Int) fah (t : Int) J (slIm J fah n t s o).1 (slIm J fah n t s o).2.1 (slIm J fah n t s o).2.2) ∧ Aside0 (Below w0.heap.size w0 w'))
  case atStart => exact ⟨0, by omega, by omega, rfl, HI, HB⟩
  case round =>
    clear HI HB hc0
    obtain ⟨o, hko, hon, rfl, HI, HB⟩ := hrel
    by_cases ho : o < n
    · have hb1 : decide ((o : Int) < (n : Int)) = true := decide_eq_true (by omega)
      have hb2 : decide (o < n) = true := decide_eq_true ho
      have HON := Aside0.mk ho
      have HON2 := Aside0.mk hon
      have HKO := Aside0.mk hko
      clear ho hon hko
      go_wp2_with (first | (go_at_call 74; (with_reducible refine (station_calls g n o fah J (slIm J fah n t s o) t w0 _ ?s1 ?s2 HN.out HJ.out HT.out HON.out (HV.out o HON2.out)).mono ?_); (case s1 => exact HI.out); (case s2 => exact HB.out); rintro e w7 ⟨rfl, hi, hb⟩; clear HI HB; have HI := Aside0.mk hi; have HB := Aside0.mk hb; clear hi hb) | ((with_reducible refine gate_callee (f := 74) rfl ?_); refine goesL_ (some 13) rfl rfl Try.func74 (by kernel_rfl) rfl #[.pointer (some ⟨g, 0, none⟩), .int .i64 (o : Int)] rfl (by (try simp only [List.map_toArray, List.map_cons, List.map_nil]); first | done | rfl) ?_; (with_reducible refine (station_calls g n o fah J (slIm J fah n t s o) t w0 _ ?s1 ?s2 HN.out HJ.out HT.out HON.out (HV.out o HON2.out)).mono ?_); (case s1 => exact HI.out); (case s2 => exact HB.out); rintro e w7 ⟨rfl, hi, hb⟩; clear HI HB; have HI := Aside0.mk hi; have HB := Aside0.mk hb; clear hi hb; refine ⟨_, rfl, ?_⟩))
      go_roundg (n - o)
      case measure => have := HKO.out; have := HON.out; omega
      case rel => exact ⟨o + 1, by have := HON.out; omega, by have := HON.out; omega, by have := HON.out; have := HN.out; first | rfl | (rw [wrapS (by omega) (by omega)]; rfl), HI, HB⟩
    · obtain rfl : o = n := by omega
      have hb1 : decide ((o : Int) < (o : Int)) = false := decide_eq_false (by omega)
      have hb2 : decide (o < o) = false := decide_eq_false ho
      obtain ⟨A1, c1, V1, V2, V3, h1, _⟩ := HI.out
      have hc3 : wr.cell? ⟨g, 3, none⟩ = some (.int .i64 (t : Int)) := (blk_cell h1 3).trans rfl
      have hf3 := blk_frozen h1 3
      obtain ⟨t1, ht1⟩ : ∃ q : Int, (t : Int) + 1 = q := ⟨_, rfl⟩
      have hw1 : IntKind.i64.wrap ((t : Int) + 1) = t1 := by rw [IntKind.wrap_i64, ← ht1]; have := HT.out; omega
      have HS := Aside0.mk (HI.out.tick1 t1)
      have HT1 := Aside0.mk (show ((t + 1 : Nat) : Int) = t1 by omega)
      clear ho h1 ht1
      go_wp2
      first | go_end0 | ((try simp only [Exit.inBlock, Exit.then]); refine bodyPost_ret (results_none rfl _ _ _) rfl ?_)
      rw [HT1.out]
      exact ⟨rfl, HS.out, HB.out.setCell (p := ⟨g, 3, none⟩) HG.out _⟩

/-! ### slices_Index_int_int: function 75 -/
def slices_Index_int_int.l0 : Nat → List Int → Int → Int → Int → Option (Int)
  | 0, _, _, _, _ => none
  | k + 1, x0, x1, x7, x8 => if x8 < x7 then (if 0 ≤ x8 then (if x8 < (x0.length : Int) then (if x1 = (rd x0 x8) then (some x8) else (slices_Index_int_int.l0 k x0 x1 x7 (wrap64 (x8 + 1)))) else (none)) else (none)) else (some (-1))
def slices_Index_int_int.f (k : Nat) (l0 : List Int) (a1 : Int) : Option (Int) := slices_Index_int_int.l0 k l0 a1 (l0.length : Int) 0
set_option maxHeartbeats 8000000 in
set_option maxRecDepth 100000 in
theorem slices_Index_int_int.calls (k : Nat) (A0 : Option Addr) (c0 : Nat) (l0 : List Int) (a1 : Int) (r : Int) (w : World) (hr0 : Kd.C (Kd.int .i64) w A0 l0.length l0) (hc0 : l0.length ≤ c0) (h : slices_Index_int_int.f k l0 a1 = some r) :
    Calls Try.prog 75 #[.slice A0 l0.length c0, .int .i64 a1] w fun e w' => e = .returned (.int .i64 r) ∧ Drawn0 w w' := by
  have HR0 := Aside0.mk hr0
  have HC0 := Aside0.mk hc0
  clear hr0 hc0
  have H : (slices_Index_int_int.l0 k l0 a1 (l0.length : Int) 0) = some r := h
  clear h
  have H' := Aside0.mk H
  clear H
  go_enter Try.func75, Try.ntmps75
  go_wp2
  go_loopg [8] k (fun kq v8 w' => ∃ (x8_1 : Int), v8 = .int .i64 x8_1 ∧ Aside0 (slices_Index_int_int.l0 kq l0 a1 (l0.length : Int) x8_1 = some r) ∧ Aside0 (kq ≤ k) ∧ Drawn0 w w')
  case atStart => exact ⟨(0), (by first | rfl | (simp; done) | (simp [*]; done)), H', ⟨Nat.le_refl _⟩, by repeat (first | exact Drawn0.refl _ | apply Drawn0.step)⟩
  case round =>
    clear H'
    try clear p2
    obtain ⟨x8_1, rfl, HA, HK1, ⟨m1, rfl⟩⟩ := hrel
    cases gk with
    | zero => exact absurd HA.out (by simp [slices_Index_int_int.l0])
    | succ k1 =>
      have H := HA.out
      clear HA
      simp only [slices_Index_int_int.l0] at H
      by_cases c3 : x8_1 < (l0.length : Int)
      · rw [if_pos c3] at H
        have c3b0 : decide (x8_1 < (l0.length : Int)) = true := decide_eq_true c3
        clear c3
        by_cases c4 : 0 ≤ x8_1
        · rw [if_pos c4] at H
          have c4b0 : decide (0 ≤ x8_1) = true := decide_eq_true c4
          clear c4
          by_cases c5 : x8_1 < (l0.length : Int)
          · rw [if_pos c5] at H
            have c5b0 : decide (x8_1 < (l0.length : Int)) = true := decide_eq_true c5
            clear c5
            by_cases c6 : a1 = (rd l0 x8_1)
            · rw [if_pos c6] at H
              have c6b0 : (a1 == (rd l0 x8_1)) = true := beq_iff_eq.mpr c6
              have c6b1 : (a1 != (rd l0 x8_1)) = false := bne_eq_false_iff_eq.mpr c6
              clear c6
              obtain rfl := Option.some.inj H
              have p369 : 0 ≤ (x8_1 : Int) := of_decide_eq_true (by first | (with_reducible assumption) | assumption)
              have q369 : x8_1 < (l0.length : Int) := of_decide_eq_true (by first | (with_reducible assumption) | assumption)
              obtain ⟨ad369, e369, hx369_0⟩ := Kd.at_int HR0.out x8_1 p369 q369
              cases e369
              replace p369 := eq_true p369
              replace q369 := eq_true q369
              go_wp2
              go_ret
              exact ⟨by first | rfl | (simp; done) | (simp [*]; done), by repeat (first | exact Drawn0.refl _ | apply Drawn0.step)⟩
            · rw [if_neg c6] at H
              have c6b0 : (a1 == (rd l0 x8_1)) = false := beq_eq_false_iff_ne.mpr c6
              have c6b1 : (a1 != (rd l0 x8_1)) = true := bne_iff_ne.mpr c6
              have H' := Aside0.mk H
              clear H
              have p369 : 0 ≤ (x8_1 : Int) := of_decide_eq_true (by first | (with_reducible assumption) | assumption)
              have q369 : x8_1 < (l0.length : Int) := of_decide_eq_true (by first | (with_reducible assumption) | assumption)
              obtain ⟨ad369, e369, hx369_0⟩ := Kd.at_int HR0.out x8_1 p369 q369
              cases e369
              replace p369 := eq_true p369
              replace q369 := eq_true q369
              go_wp2
              go_roundg k1
              case measure => have := HK1.out; omega
              case rel => exact ⟨(wrap64 (x8_1 + 1)), (by first | rfl | (simp; done) | (simp [*]; done)), H', ⟨by have := HK1.out; omega⟩, by repeat (first | exact Drawn0.refl _ | apply Drawn0.step)⟩
          · rw [if_neg c5] at H
            exact absurd H (by simp)
        · rw [if_neg c4] at H
          exact absurd H (by simp)
      · rw [if_neg c3] at H
        have c3b0 : decide (x8_1 < (l0.length : Int)) = false := decide_eq_false c3
        clear c3
        obtain rfl := Option.some.inj H
        go_wp2
        go_ret
        exact ⟨by first | rfl | (simp; done) | (simp [*]; done), by repeat (first | exact Drawn0.refl _ | apply Drawn0.step)⟩

/-! ### slices_Contains_int_int: function 63 -/
def slices_Contains_int_int.f (k : Nat) (l0 : List Int) (a1 : Int) : Option (Bool) := (slices_Index_int_int.f k l0 a1).bind fun t370 => (some (decide (t370 ≥ 0)))
set_option maxHeartbeats 8000000 in
set_option maxRecDepth 100000 in
theorem slices_Contains_int_int.calls (k : Nat) (A0 : Option Addr) (c0 : Nat) (l0 : List Int) (a1 : Int) (r : Bool) (w : World) (hr0 : Kd.C (Kd.int .i64) w A0 l0.length l0) (hc0 : l0.length ≤ c0) (h : slices_Contains_int_int.f k l0 a1 = some r) :
    Calls Try.prog 63 #[.slice A0 l0.length c0, .int .i64 a1] w fun e w' => e = .returned (.bool r) ∧ Drawn0 w w' := by
  have HR0 := Aside0.mk hr0
  have HC0 := Aside0.mk hc0
  clear hr0 hc0
  have H : ((slices_Index_int_int.f k l0 a1).bind fun t370 => (some (decide (t370 ≥ 0)))) = some r := h
  clear h
  replace H := Option.bind_eq_some_iff.mp H
  obtain ⟨t370, A30, H⟩ := H
  replace H : (some (decide (t370 ≥ 0))) = some r := H
  have A3 := Aside0.mk A30
  clear A30
  obtain rfl := Option.some.inj H
  go_enter Try.func63, Try.ntmps63
  go_wp2_with (first | ((with_reducible refine gate_callee (f := 75) rfl ?_); refine goesL_ (some 7) rfl rfl Try.func75 (by kernel_rfl) rfl #[.slice A0 l0.length c0, .int .i64 a1] rfl (by (try simp only [List.map_toArray, List.map_cons, List.map_nil]); first | done | rfl | (simp only [List.length_drop, List.length_take]; rfl)) ?_; (with_reducible refine (slices_Index_int_int.calls k _ _ l0 a1 t370 _ ?side1 ?side2 A3.out).mono ?_); (case side1 => repeat (first | exact HR0.out | (with_reducible refine Kd.C_alloc ?_ _) | (with_reducible refine Kd.C_drewN ?_ _) | (with_reducible refine Kd.C_drew ?_))); (case side2 => exact HC0.out); rintro e w' ⟨rfl, ⟨nd, rfl⟩⟩; refine ⟨_, rfl, ?_⟩))
  go_ret
  exact ⟨by first | rfl | (simp; done) | (simp [*]; done), by repeat (first | exact Drawn0.refl _ | apply Drawn0.step)⟩

end Go.Proofs.Ytgkbeejkbhhjkaa.X

/- What the functions of the program come to, and that they do: written by this session's program wip/xprint.py out of the translation; parts named extern are typed by hand. -/
namespace Go.Proofs.Ytgkbeejkbhhjkaa.X
open Go.RowKit Go.Proofs.YtgkbeejkbhhjkaaW.PrintWords Go.Proofs.YtgkbeejkbhhjkaaW.PrintLast Go.Proofs.YtgkbeejkbhhjkaaW.PrintMore
attribute [local go_sem] max2_int min2_int max_two min_two max_three min_three max_four min_four   -- for this text's walks alone
set_option linter.unusedVariables false
set_option linter.unusedSimpArgs false

/-! ### impl_FullTicks: function 35 -/
/- EXTERN, by hand (wip/hand/slotall.py): the ticks at which all slots are full. -/
def impl_FullTicks.l0 (J : List (S30)) (fah : Bool) (n T : Nat) : Nat → Nat → Int → Option Int
  | 0, _, _ => none
  | k + 1, t, c => if t < T then (slices_Contains_int_int.f k (slImTo J fah n (t + 1)).1 0).bind fun b => impl_FullTicks.l0 J fah n T k (t + 1) (if b = true then c else wrap64 (c + 1)) else some c
def impl_FullTicks.f (k : Nat) (a0_0 : Int) (a0_1 : Bool) (l1 : List (S30)) (a2 : Int) : Option (Int × Bool) := (impl_isSlotted.f k a0_0 a0_1 l1).bind fun b1 => if b1 = true then ((impl_isSlotTick.f a2).bind fun b2 => if b2 = true then (if 2 ≤ a0_0 ∧ a0_0 ≤ 12 ∧ l1.length ≤ 20 ∧ 0 ≤ a2 ∧ a2 ≤ 9000 then ((impl_FullTicks.l0 l1 a0_1 a0_0.toNat a2.toNat k 0 0).bind fun c => some (c, true)) else none) else some ((0 : Int), false)) else some ((0 : Int), false)
set_option maxHeartbeats 16000000 in
set_option maxRecDepth 100000 in
theorem impl_FullTicks.calls (k : Nat) (a0_0 : Int) (a0_1 : Bool) (A1 : Option Addr) (c1 : Nat) (l1 : List (S30)) (a2 : Int) (r1 : Int) (r2 : Bool) (w : World) (hr1 : Kd.C k30 w A1 l1.length l1) (hc1 : l1.length ≤ c1) (h : impl_FullTicks.f k a0_0 a0_1 l1 a2 = some (r1, r2)) :
    Calls Try.prog 35 #[.agg #[.int .i64 a0_0, .bool a0_1], .slice A1 l1.length c1, .int .i64 a2] w fun e w' => e = .returned (.tuple #[.int .i64 r1, .bool r2]) ∧ Below w.heap.size w w' := by
  unfold impl_FullTicks.f at h
  have HC := Aside0.mk hr1
  have HCC := Aside0.mk hc1
  have HB := Aside0.mk (Below.refl w.heap.size w)
  clear hr1 hc1
  obtain ⟨b1, e1, h⟩ := Option.bind_eq_some_iff.mp h
  have E1 := Aside0.mk e1
  clear e1
  cases b1 with
  | false =>
    rw [if_neg (by simp)] at h
    obtain ⟨rfl, rfl⟩ := Prod.mk.inj (Option.some.inj h)
    clear h
    go_enter Try.func35, Try.ntmps35
    go_wp2_with (first | ((with_reducible refine gate_dst (N := 3) rfl ?_); refine box_event ?hg (N := 3) ?hd (cs := #[.int .i64 a0_0, .bool a0_1]) (t := 28) ?hr ?_; (case hd => rfl); (case hg => rfl); (case hr => first | (go_simp; done) | (go_simp; rfl)); intro b hg w3 hbox hb; have HB3 := Aside0.mk (below_step (by repeat (first | (with_reducible first | exact HB.out | apply below_alloc | apply pw_below_drewN | apply below_drew1) | exact HB.out)) hb); clear HB; have HB := HB3; clear HB3; have HBX := Aside0.mk hbox; have hk0 : w3.cell? ⟨b, 0, none⟩ = some (.int .i64 a0_0) := (blk_cell hbox 0).trans rfl; have hk1 : w3.cell? ⟨b, 1, none⟩ = some (.bool a0_1) := (blk_cell hbox 1).trans rfl; clear hg hb hbox) | (go_at_call 48; (with_reducible refine (impl_isSlotted.calls k a0_0 a0_1 A1 c1 l1 false _ ?s1 HCC.out E1.out).mono ?_); (case s1 => repeat (first | exact (Kd.C_below HC.out HB.out) | (with_reducible refine Kd.C_alloc ?_ _) | (with_reducible refine Kd.C_drewN ?_ _) | (with_reducible refine Kd.C_drew ?_))); rintro e w9 ⟨rfl, hb⟩; have HX9 := Aside0.mk (blk_below HBX.out hb); have HB9 := Aside0.mk (below_step (by repeat (first | (with_reducible first | exact HB.out | apply below_alloc | apply pw_below_drewN | apply below_drew1) | exact HB.out)) hb); clear HBX HB hb hk0 hk1; have HBX := HX9; have HB := HB9; clear HX9 HB9; have hk0 : w9.cell? ⟨b, 0, none⟩ = some (.int .i64 a0_0) := (blk_cell HBX.out 0).trans rfl; have hk1 : w9.cell? ⟨b, 1, none⟩ = some (.bool a0_1) := (blk_cell HBX.out 1).trans rfl) | ((with_reducible refine gate_callee (f := 48) rfl ?_); refine goesL_ (some 12) rfl rfl Try.func48 (by kernel_rfl) rfl #[.agg #[.int .i64 a0_0, .bool a0_1], .slice A1 l1.length c1] rfl (by (try simp only [List.map_toArray, List.map_cons, List.map_nil]); first | done | rfl) ?_; (with_reducible refine (impl_isSlotted.calls k a0_0 a0_1 A1 c1 l1 false _ ?s1 HCC.out E1.out).mono ?_); (case s1 => repeat (first | exact (Kd.C_below HC.out HB.out) | (with_reducible refine Kd.C_alloc ?_ _) | (with_reducible refine Kd.C_drewN ?_ _) | (with_reducible refine Kd.C_drew ?_))); rintro e w9 ⟨rfl, hb⟩; have HX9 := Aside0.mk (blk_below HBX.out hb); have HB9 := Aside0.mk (below_step (by repeat (first | (with_reducible first | exact HB.out | apply below_alloc | apply pw_below_drewN | apply below_drew1) | exact HB.out)) hb); clear HBX HB hb hk0 hk1; have HBX := HX9; have HB := HB9; clear HX9 HB9; have hk0 : w9.cell? ⟨b, 0, none⟩ = some (.int .i64 a0_0) := (blk_cell HBX.out 0).trans rfl; have hk1 : w9.cell? ⟨b, 1, none⟩ = some (.bool a0_1) := (blk_cell HBX.out 1).trans rfl; refine ⟨_, rfl, ?_⟩))
    go_ret2
    exact ⟨rfl, (by repeat (first | (with_reducible first | exact HB.out | apply below_alloc | apply pw_below_drewN | apply below_drew1) | exact HB.out))⟩
  | true =>
    rw [if_pos rfl] at h
    obtain ⟨b2, e2, h⟩ := Option.bind_eq_some_iff.mp h
    have E2 := Aside0.mk e2
    clear e2
    cases b2 with
    | false =>
      rw [if_neg (by simp)] at h
      obtain ⟨rfl, rfl⟩ := Prod.mk.inj (Option.some.inj h)
      clear h
      go_enter Try.func35, Try.ntmps35
      go_wp2_with (first | ((with_reducible refine gate_dst (N := 3) rfl ?_); refine box_event ?hg (N := 3) ?hd (cs := #[.int .i64 a0_0, .bool a0_1]) (t := 28) ?hr ?_; (case hd => rfl); (case hg => rfl); (case hr => first | (go_simp; done) | (go_simp; rfl)); intro b hg w3 hbox hb; have HB3 := Aside0.mk (below_step (by repeat (first | (with_reducible first | exact HB.out | apply below_alloc | apply pw_below_drewN | apply below_drew1) | exact HB.out)) hb); clear HB; have HB := HB3; clear HB3; have HBX := Aside0.mk hbox; have hk0 : w3.cell? ⟨b, 0, none⟩ = some (.int .i64 a0_0) := (blk_cell hbox 0).trans rfl; have hk1 : w3.cell? ⟨b, 1, none⟩ = some (.bool a0_1) := (blk_cell hbox 1).trans rfl; clear hg hb hbox) | (go_at_call 48; (with_reducible refine (impl_isSlotted.calls k a0_0 a0_1 A1 c1 l1 true _ ?s1 HCC.out E1.out).mono ?_); (case s1 => repeat (first | exact (Kd.C_below HC.out HB.out) | (with_reducible refine Kd.C_alloc ?_ _) | (with_reducible refine Kd.C_drewN ?_ _) | (with_reducible refine Kd.C_drew ?_))); rintro e w9 ⟨rfl, hb⟩; have HX9 := Aside0.mk (blk_below HBX.out hb); have HB9 := Aside0.mk (below_step (by repeat (first | (with_reducible first | exact HB.out | apply below_alloc | apply pw_below_drewN | apply below_drew1) | exact HB.out)) hb); clear HBX HB hb hk0 hk1; have HBX := HX9; have HB := HB9; clear HX9 HB9; have hk0 : w9.cell? ⟨b, 0, none⟩ = some (.int .i64 a0_0) := (blk_cell HBX.out 0).trans rfl; have hk1 : w9.cell? ⟨b, 1, none⟩ = some (.bool a0_1) := (blk_cell HBX.out 1).trans rfl) | ((with_reducible refine gate_callee (f := 48) rfl ?_); refine goesL_ (some 12) rfl rfl Try.func48 (by kernel_rfl) rfl #[.agg #[.int .i64 a0_0, .bool a0_1], .slice A1 l1.length c1] rfl (by (try simp only [List.map_toArray, List.map_cons, List.map_nil]); first | done | rfl) ?_; (with_reducible refine (impl_isSlotted.calls k a0_0 a0_1 A1 c1 l1 true _ ?s1 HCC.out E1.out).mono ?_); (case s1 => repeat (first | exact (Kd.C_below HC.out HB.out) | (with_reducible refine Kd.C_alloc ?_ _) | (with_reducible refine Kd.C_drewN ?_ _) | (with_reducible refine Kd.C_drew ?_))); rintro e w9 ⟨rfl, hb⟩; have HX9 := Aside0.mk (blk_below HBX.out hb); have HB9 := Aside0.mk (below_step (by repeat (first | (with_reducible first | exact HB.out | apply below_alloc | apply pw_below_drewN | apply below_drew1) | exact HB.out)) hb); clear HBX HB hb hk0 hk1; have HBX := HX9; have HB := HB9; clear HX9 HB9; have hk0 : w9.cell? ⟨b, 0, none⟩ = some (.int .i64 a0_0) := (blk_cell HBX.out 0).trans rfl; have hk1 : w9.cell? ⟨b, 1, none⟩ = some (.bool a0_1) := (blk_cell HBX.out 1).trans rfl; refine ⟨_, rfl, ?_⟩) | (go_at_call 60; (with_reducible refine (impl_isSlotTick.calls a2 false _ E2.out).mono ?_); rintro e w8 ⟨rfl, ⟨nd8, rfl⟩⟩) | ((with_reducible refine gate_callee (f := 60) rfl ?_); refine goesL_ (some 16) rfl rfl Try.func60 (by kernel_rfl) rfl #[.int .i64 a2] rfl (by (try simp only [List.map_toArray, List.map_cons, List.map_nil]); first | done | rfl) ?_; (with_reducible refine (impl_isSlotTick.calls a2 false _ E2.out).mono ?_); rintro e w8 ⟨rfl, ⟨nd8, rfl⟩⟩; refine ⟨_, rfl, ?_⟩))
      go_ret2
      exact ⟨rfl, (by repeat (first | (with_reducible first | exact HB.out | apply below_alloc | apply pw_below_drewN | apply below_drew1) | exact HB.out))⟩
    | true =>
      rw [if_pos rfl] at h
      by_cases hk : 2 ≤ a0_0 ∧ a0_0 ≤ 12 ∧ l1.length ≤ 20 ∧ 0 ≤ a2 ∧ a2 ≤ 9000
      case neg => rw [if_neg hk] at h; cases h
      rw [if_pos hk] at h
      obtain ⟨n, rfl⟩ : ∃ n : Nat, a0_0 = (n : Int) := ⟨a0_0.toNat, by omega⟩
      obtain ⟨T, rfl⟩ : ∃ n : Nat, a2 = (n : Int) := ⟨a2.toNat, by omega⟩
      rw [Int.toNat_natCast, Int.toNat_natCast] at h
      obtain ⟨fah, rfl⟩ : ∃ q, q = a0_1 := ⟨_, rfl⟩
      have HN := Aside0.mk (show 2 ≤ n ∧ n ≤ 12 by omega)
      have HJ := Aside0.mk hk.2.2.1
      have HT := Aside0.mk (show T ≤ 9000 by omega)
      have HH := Aside0.mk h
      clear h hk
      go_enter Try.func35, Try.ntmps35
      go_wp2_with (first | ((with_reducible refine gate_dst (N := 3) rfl ?_); refine box_event ?hg (N := 3) ?hd (cs := #[.int .i64 (n : Int), .bool fah]) (t := 28) ?hr ?_; (case hd => rfl); (case hg => rfl); (case hr => first | (go_simp; done) | (go_simp; rfl)); intro b hg w3 hbox hb; have HB3 := Aside0.mk (below_step (by repeat (first | (with_reducible first | exact HB.out | apply below_alloc | apply pw_below_drewN | apply below_drew1) | exact HB.out)) hb); clear HB; have HB := HB3; clear HB3; have HBX := Aside0.mk hbox; have hk0 : w3.cell? ⟨b, 0, none⟩ = some (.int .i64 (n : Int)) := (blk_cell hbox 0).trans rfl; have hk1 : w3.cell? ⟨b, 1, none⟩ = some (.bool fah) := (blk_cell hbox 1).trans rfl; clear hg hb hbox) | (go_at_call 48; (with_reducible refine (impl_isSlotted.calls k (n : Int) fah A1 c1 l1 true _ ?s1 HCC.out E1.out).mono ?_); (case s1 => repeat (first | exact (Kd.C_below HC.out HB.out) | (with_reducible refine Kd.C_alloc ?_ _) | (with_reducible refine Kd.C_drewN ?_ _) | (with_reducible refine Kd.C_drew ?_))); rintro e w9 ⟨rfl, hb⟩; have HX9 := Aside0.mk (blk_below HBX.out hb); have HB9 := Aside0.mk (below_step (by repeat (first | (with_reducible first | exact HB.out | apply below_alloc | apply pw_below_drewN | apply below_drew1) | exact HB.out)) hb); clear HBX HB hb hk0 hk1; have HBX := HX9; have HB := HB9; clear HX9 HB9; have hk0 : w9.cell? ⟨b, 0, none⟩ = some (.int .i64 (n : Int)) := (blk_cell HBX.out 0).trans rfl; have hk1 : w9.cell? ⟨b, 1, none⟩ = some (.bool fah) := (blk_cell HBX.out 1).trans rfl) | ((with_reducible refine gate_callee (f := 48) rfl ?_); refine goesL_ (some 12) rfl rfl Try.func48 (by kernel_rfl) rfl #[.agg #[.int .i64 (n : Int), .bool fah], .slice A1 l1.length c1] rfl (by (try simp only [List.map_toArray, List.map_cons, List.map_nil]); first | done | rfl) ?_; (with_reducible refine (impl_isSlotted.calls k (n : Int) fah A1 c1 l1 true _ ?s1 HCC.out E1.out).mono ?_); (case s1 => repeat (first | exact (Kd.C_below HC.out HB.out) | (with_reducible refine Kd.C_alloc ?_ _) | (with_reducible refine Kd.C_drewN ?_ _) | (with_reducible refine Kd.C_drew ?_))); rintro e w9 ⟨rfl, hb⟩; have HX9 := Aside0.mk (blk_below HBX.out hb); have HB9 := Aside0.mk (below_step (by repeat (first | (with_reducible first | exact HB.out | apply below_alloc | apply pw_below_drewN | apply below_drew1) | exact HB.out)) hb); clear HBX HB hb hk0 hk1; have HBX := HX9; have HB := HB9; clear HX9 HB9; have hk0 : w9.cell? ⟨b, 0, none⟩ = some (.int .i64 (n : Int)) := (blk_cell HBX.out 0).trans rfl; have hk1 : w9.cell? ⟨b, 1, none⟩ = some (.bool fah) := (blk_cell HBX.out 1).trans rfl; refine ⟨_, rfl, ?_⟩) | (go_at_call 60; (with_reducible refine (impl_isSlotTick.calls (T : Int) true _ E2.out).mono ?_); rintro e w8 ⟨rfl, ⟨nd8, rfl⟩⟩) | ((with_reducible refine gate_callee (f := 60) rfl ?_); refine goesL_ (some 16) rfl rfl Try.func60 (by kernel_rfl) rfl #[.int .i64 (T : Int)] rfl (by (try simp only [List.map_toArray, List.map_cons, List.map_nil]); first | done | rfl) ?_; (with_reducible refine (impl_isSlotTick.calls (T : Int) true _ E2.out).mono ?_); rintro e w8 ⟨rfl, ⟨nd8, rfl⟩⟩; refine ⟨_, rfl, ?_⟩) | (go_at_call 61; (with_reducible refine (newSlotter_calls A1 c1 n fah l1 w _ HC.out ?s1 HN.out HJ.out).mono ?_); (case s1 => exact (by repeat (first | (with_reducible first | exact HB.out | apply below_alloc | apply pw_below_drewN | apply below_drew1) | exact HB.out))); rintro e w6 ⟨g, rfl, hi, hb⟩; have HI := Aside0.mk hi; clear HB hi; have HB := Aside0.mk hb; clear hb) | ((with_reducible refine gate_callee (f := 61) rfl ?_); refine goesL_ (some 21) rfl rfl Try.func61 (by kernel_rfl) rfl #[.agg #[.int .i64 (n : Int), .bool fah], .slice A1 l1.length c1] rfl (by (try simp only [List.map_toArray, List.map_cons, List.map_nil]); first | done | rfl) ?_; (with_reducible refine (newSlotter_calls A1 c1 n fah l1 w _ HC.out ?s1 HN.out HJ.out).mono ?_); (case s1 => exact (by repeat (first | (with_reducible first | exact HB.out | apply below_alloc | apply pw_below_drewN | apply below_drew1) | exact HB.out))); rintro e w6 ⟨g, rfl, hi, hb⟩; have HI := Aside0.mk hi; clear HB hi; have HB := Aside0.mk hb; clear hb; refine ⟨_, rfl, ?_⟩))
      obtain ⟨cn, HQ0, HQ1⟩ := Option.bind_eq_some_iff.mp HH.out
      obtain ⟨rfl, rfl⟩ := Prod.mk.inj (Option.some.inj HQ1)
      have HQ := Aside0.mk HQ0
      clear HQ0 HQ1 HH
      go_loopg [9, 23] k (fun kq v9 v23 w' => ∃ (t : Nat) (cc : Int), v9 = .int .i64 cc ∧ v23 = .int .i64 (t : Int) ∧ Aside0 (t ≤ T) ∧ Aside0 (impl_FullTicks.l0 l1 fah n T kq t cc = some cn) ∧ Aside0 (IsT w w' g (n : Int) fah (t : Int) l1 (slImTo l1 fah n t).1 (slImTo l1 fah n t).2.1 (slImTo l1 fah n t).2.2) ∧ Aside0 (Below w.heap.size w w'))
      case atStart => exact ⟨0, 0, rfl, rfl, ⟨by omega⟩, HQ, HI, HB⟩
      case round =>
        clear HI HB HQ hk0 hk1 HBX
        obtain ⟨t, cc, rfl, rfl, HTT0, HQ, HI, HB⟩ := hrel
        cases gk with
        | zero => exact absurd HQ.out (by simp [impl_FullTicks.l0])
        | succ k1 =>
          have H := HQ.out
          rw [impl_FullTicks.l0] at H
          by_cases hl : t < T
          · rw [if_pos hl] at H
            obtain ⟨b9, E9, H⟩ := Option.bind_eq_some_iff.mp H
            have HE := Aside0.mk E9
            have HQ2 := Aside0.mk H
            have hb1 : decide ((t : Int) < (T : Int)) = true := decide_eq_true (by omega)
            have hb2 : decide (t < T) = true := decide_eq_true hl
            have HLT := Aside0.mk hl
            have HTT := Aside0.mk (show t ≤ 10000 by have := HT.out; omega)
            have HKT := Aside0.mk (show 0 ≤ (t : Int) ∧ (t : Int) ≤ 100000 by have := HT.out; omega)
            clear hl H HQ E9
            go_upto_region 7 with (first | (go_at_call 62; (with_reducible refine (step_calls g n fah l1 (slImTo l1 fah n t) t w _ ?s1 ?s2 HN.out HJ.out HTT.out (slImTo_inv l1 fah n (by have := HN.out; omega) t)).mono ?_); (case s1 => exact (by repeat (first | exact HI.out | apply IsT.drewN | apply IsT.drew))); (case s2 => exact (by repeat (first | exact HB.out | apply pw_below_drewN | apply below_drew1))); rintro e w7 ⟨rfl, hi, hb⟩; clear HI HB; have HI := Aside0.mk hi; have HB := Aside0.mk hb; clear hi hb) | ((with_reducible refine gate_callee (f := 62) rfl ?_); refine goesL_ (some 26) rfl rfl Try.func62 (by kernel_rfl) rfl #[.pointer (some ⟨g, 0, none⟩)] rfl (by (try simp only [List.map_toArray, List.map_cons, List.map_nil]); first | done | rfl) ?_; (with_reducible refine (step_calls g n fah l1 (slImTo l1 fah n t) t w _ ?s1 ?s2 HN.out HJ.out HTT.out (slImTo_inv l1 fah n (by have := HN.out; omega) t)).mono ?_); (case s1 => exact (by repeat (first | exact HI.out | apply IsT.drewN | apply IsT.drew))); (case s2 => exact (by repeat (first | exact HB.out | apply pw_below_drewN | apply below_drew1))); rintro e w7 ⟨rfl, hi, hb⟩; clear HI HB; have HI := Aside0.mk hi; have HB := Aside0.mk hb; clear hi hb; refine ⟨_, rfl, ?_⟩))
            obtain ⟨A0, c0, v1, v2, v3, h1, h2, h3, h4, h5, h6⟩ := HI.out
            obtain ⟨A3, c3, e3⟩ := Kd.R_slice h4
            subst e3
            have hc4 : w7.cell? ⟨g, 4, none⟩ = some (.slice A3 (slImTo l1 fah n (t + 1)).1.length c3) := (blk_cell h1 4).trans rfl
            have HCR := Aside0.mk (And.intro (Kd.R_reads' h4).2.2 (Kd.R_reads' h4).2.1)
            clear h1 h2 h3 h4 h5 h6
            cases b9 with
            | true =>
              rw [if_pos rfl] at HQ2
              go_wp2_with (first | (go_at_call 63; (with_reducible refine (slices_Contains_int_int.calls k1 A3 c3 (slImTo l1 fah n (t + 1)).1 0 true _ ?s1 ?s2 HE.out).mono ?_); (case s1 => repeat (first | exact HCR.out.1 | (with_reducible refine Kd.C_alloc ?_ _) | (with_reducible refine Kd.C_drewN ?_ _) | (with_reducible refine Kd.C_drew ?_))); (case s2 => exact HCR.out.2); rintro e w8 ⟨rfl, ⟨nd, rfl⟩⟩) | ((with_reducible refine gate_callee (f := 63) rfl ?_); refine goesL_ (some 31) rfl rfl Try.func63 (by kernel_rfl) rfl #[.slice A3 (slImTo l1 fah n (t + 1)).1.length c3, .int .i64 0] rfl (by (try simp only [List.map_toArray, List.map_cons, List.map_nil]); first | done | rfl) ?_; (with_reducible refine (slices_Contains_int_int.calls k1 A3 c3 (slImTo l1 fah n (t + 1)).1 0 true _ ?s1 ?s2 HE.out).mono ?_); (case s1 => repeat (first | exact HCR.out.1 | (with_reducible refine Kd.C_alloc ?_ _) | (with_reducible refine Kd.C_drewN ?_ _) | (with_reducible refine Kd.C_drew ?_))); (case s2 => exact HCR.out.2); rintro e w8 ⟨rfl, ⟨nd, rfl⟩⟩; refine ⟨_, rfl, ?_⟩))
              go_roundg k1
              case measure => omega
              case rel => exact ⟨t + 1, cc, rfl, by have := HT.out; have := HLT.out; first | rfl | (rw [wrapS (by omega) (by omega)]; rfl), ⟨by have := HLT.out; omega⟩, HQ2, ⟨HI.out.drewN nd⟩, ⟨pw_below_drewN HB.out nd⟩⟩
            | false =>
              rw [if_neg (by simp)] at HQ2
              go_wp2_with (first | (go_at_call 63; (with_reducible refine (slices_Contains_int_int.calls k1 A3 c3 (slImTo l1 fah n (t + 1)).1 0 false _ ?s1 ?s2 HE.out).mono ?_); (case s1 => repeat (first | exact HCR.out.1 | (with_reducible refine Kd.C_alloc ?_ _) | (with_reducible refine Kd.C_drewN ?_ _) | (with_reducible refine Kd.C_drew ?_))); (case s2 => exact HCR.out.2); rintro e w8 ⟨rfl, ⟨nd, rfl⟩⟩) | ((with_reducible refine gate_callee (f := 63) rfl ?_); refine goesL_ (some 31) rfl rfl Try.func63 (by kernel_rfl) rfl #[.slice A3 (slImTo l1 fah n (t + 1)).1.length c3, .int .i64 0] rfl (by (try simp only [List.map_toArray, List.map_cons, List.map_nil]); first | done | rfl) ?_; (with_reducible refine (slices_Contains_int_int.calls k1 A3 c3 (slImTo l1 fah n (t + 1)).1 0 false _ ?s1 ?s2 HE.out).mono ?_); (case s1 => repeat (first | exact HCR.out.1 | (with_reducible refine Kd.C_alloc ?_ _) | (with_reducible refine Kd.C_drewN ?_ _) | (with_reducible refine Kd.C_drew ?_))); (case s2 => exact HCR.out.2); rintro e w8 ⟨rfl, ⟨nd, rfl⟩⟩; refine ⟨_, rfl, ?_⟩))
              go_roundg k1
              case measure => omega
              case rel => exact ⟨t + 1, wrap64 (cc + 1), rfl, by have := HT.out; have := HLT.out; first | rfl | (rw [wrapS (by omega) (by omega)]; rfl), ⟨by have := HLT.out; omega⟩, HQ2, ⟨HI.out.drewN nd⟩, ⟨pw_below_drewN HB.out nd⟩⟩
          · rw [if_neg hl] at H
            obtain rfl := Option.some.inj H
            obtain rfl : t = T := by have := HTT0.out; omega
            have hb1 : decide ((t : Int) < (t : Int)) = false := decide_eq_false (by omega)
            have hb2 : decide (t < t) = false := decide_eq_false hl
            clear hl H
            go_wp2
            go_ret2
            exact ⟨rfl, HB.out⟩

end Go.Proofs.Ytgkbeejkbhhjkaa.X

/- What the functions of the program come to, and that they do: written by this session's program wip/xprint.py out of the translation; parts named extern are typed by hand. -/
namespace Go.Proofs.Ytgkbeejkbhhjkaa.X
open Go.RowKit Go.Proofs.YtgkbeejkbhhjkaaW.PrintWords Go.Proofs.YtgkbeejkbhhjkaaW.PrintLast Go.Proofs.YtgkbeejkbhhjkaaW.PrintMore
attribute [local go_sem] max2_int min2_int max_two min_two max_three min_three max_four min_four   -- for this text's walks alone
set_option linter.unusedVariables false
set_option linter.unusedSimpArgs false

/-! ### laws_FnExactFullTicks: function 8 -/
def laws_FnExactFullTicks.j0 : Nat → List (S25) → List (S30) → Bool → Option (Bool)
  | 0, _, _, _ => none
  | k + 1, x1, x10, x44 => if x44 = true then (some false) else ((laws_toMessageS.f k x1).bind fun t387 => ((laws_eqMessageS.f k x10 t387).bind fun t390 => (if t390 = true then (some true) else (some false))))
def laws_FnExactFullTicks.f (k : Nat) (a0_0 : Int) (a0_1 : Bool) (l1 : List (S25)) (a2 : Int) : Option (Bool) := (laws_szMessageS.f l1 1048576).bind fun t372 => (if t372 < 0 then (some true) else ((laws_toSlotRing.f a0_0 a0_1).bind fun bt373 => ((laws_toMessageS.f k l1).bind fun t375 => ((spec_FullTicks.f k bt373.1 bt373.2 t375 a2).bind fun bt378 => ((laws_toMessageS.f k l1).bind fun t380 => ((laws_toSlotRing.f a0_0 a0_1).bind fun bt383 => ((impl_FullTicks.f k bt383.1 bt383.2 t380 a2).bind fun bt385 => (if bt385.1 = bt378.1 then (laws_FnExactFullTicks.j0 k l1 t380 (bt385.2 != bt378.2)) else (laws_FnExactFullTicks.j0 k l1 t380 true)))))))))
set_option maxHeartbeats 8000000 in
set_option maxRecDepth 100000 in
theorem laws_FnExactFullTicks.calls (k : Nat) (a0_0 : Int) (a0_1 : Bool) (A1 : Option Addr) (c1 : Nat) (l1 : List (S25)) (a2 : Int) (r : Bool) (w : World) (hr1 : Kd.C k25 w A1 l1.length l1) (hc1 : l1.length ≤ c1) (h : laws_FnExactFullTicks.f k a0_0 a0_1 l1 a2 = some r) :
    Calls Try.prog 8 #[.agg #[.int .i64 a0_0, .bool a0_1], .slice A1 l1.length c1, .int .i64 a2] w fun e w' => e = .returned (.bool r) ∧ Below w.heap.size w w' := by
  have hu23 := Try.underlying23
  have HR1 := Aside0.mk hr1
  have HC1 := Aside0.mk hc1
  clear hr1 hc1
  have HB := Aside0.mk (Below.refl w.heap.size w)
  have H : ((laws_szMessageS.f l1 1048576).bind fun t372 => (if t372 < 0 then (some true) else ((laws_toSlotRing.f a0_0 a0_1).bind fun bt373 => ((laws_toMessageS.f k l1).bind fun t375 => ((spec_FullTicks.f k bt373.1 bt373.2 t375 a2).bind fun bt378 => ((laws_toMessageS.f k l1).bind fun t380 => ((laws_toSlotRing.f a0_0 a0_1).bind fun bt383 => ((impl_FullTicks.f k bt383.1 bt383.2 t380 a2).bind fun bt385 => (if bt385.1 = bt378.1 then (laws_FnExactFullTicks.j0 k l1 t380 (bt385.2 != bt378.2)) else (laws_FnExactFullTicks.j0 k l1 t380 true)))))))))) = some r := h
  clear h
  replace H := Option.bind_eq_some_iff.mp H
  obtain ⟨t372, A40, H⟩ := H
  replace H : (if t372 < 0 then (some true) else ((laws_toSlotRing.f a0_0 a0_1).bind fun bt373 => ((laws_toMessageS.f k l1).bind fun t375 => ((spec_FullTicks.f k bt373.1 bt373.2 t375 a2).bind fun bt378 => ((laws_toMessageS.f k l1).bind fun t380 => ((laws_toSlotRing.f a0_0 a0_1).bind fun bt383 => ((impl_FullTicks.f k bt383.1 bt383.2 t380 a2).bind fun bt385 => (if bt385.1 = bt378.1 then (laws_FnExactFullTicks.j0 k l1 t380 (bt385.2 != bt378.2)) else (laws_FnExactFullTicks.j0 k l1 t380 true))))))))) = some r := H
  have A4 := Aside0.mk A40
  clear A40
  by_cases c5 : t372 < 0
  · rw [if_pos c5] at H
    have c5b0 : decide (t372 < 0) = true := decide_eq_true c5
    clear c5
    obtain rfl := Option.some.inj H
    go_enter Try.func8, Try.ntmps8
    go_wp2_with (first | ((with_reducible refine gate_dst (N := 3) rfl ?_); refine box_event ?hg (N := 3) ?hd (cs := #[.int .i64 a0_0, .bool a0_1]) (t := 23) ?hr ?_; (case hd => rfl); (case hg => rfl); (case hr => first | (go_simp; done) | (go_simp; rfl)); intro gb371 hg w6 hbox hb; have n0_ := Aside0.mk (below_step (by repeat (first | (with_reducible first | exact HB.out | apply below_alloc | apply pw_below_drewN | apply below_drew1) | exact HB.out)) hb); have n1_ := Aside0.mk (hbox); have n2_ := Aside0.mk ((by rw [hg]; exact (below_size (by repeat (first | (with_reducible first | exact HB.out | apply below_alloc | apply pw_below_drewN | apply below_drew1) | exact HB.out))) : w.heap.size ≤ gb371)); have n3_ := Aside0.mk ((by rw [hg]; exact (below_size (by repeat (first | (with_reducible first | exact HB.out | apply below_alloc | apply pw_below_drewN | apply below_drew1) | exact HB.out))) : w.heap.size ≤ gb371)); clear HB; have HB := n0_; have BK371 := n1_; have GW371 := n2_; have GE371 := n3_; clear n0_ n1_ n2_ n3_; clear hb hbox hg) | ((with_reducible refine gate_callee (f := 18) rfl ?_); refine goesL_ (some 15) rfl rfl Try.func18 (by kernel_rfl) rfl #[.slice A1 l1.length c1, .int .i64 1048576] rfl (by (try simp only [List.map_toArray, List.map_cons, List.map_nil]); first | done | rfl | (simp only [List.length_drop, List.length_take]; rfl)) ?_; (with_reducible refine (laws_szMessageS.calls _ _ l1 1048576 t372 _ ?side1 ?side2 A4.out).mono ?_); (case side1 => repeat (first | exact (Kd.C_below HR1.out HB.out) | (with_reducible refine Kd.C_alloc ?_ _) | (with_reducible refine Kd.C_drewN ?_ _) | (with_reducible refine Kd.C_drew ?_))); (case side2 => exact HC1.out); rintro e w' ⟨rfl, ⟨nd, rfl⟩⟩; refine ⟨_, rfl, ?_⟩))
    go_ret
    exact ⟨by first | rfl | (simp [errW_none, errW_some] <;> rfl) | (simp [*, errW_none, errW_some] <;> rfl), by repeat (first | (with_reducible first | exact HB.out | apply below_alloc | apply pw_below_drewN | apply below_drew1 | refine below_set ?_ GE371.out) | exact HB.out)⟩
  · rw [if_neg c5] at H
    have c5b0 : decide (t372 < 0) = false := decide_eq_false c5
    clear c5
    replace H := Option.bind_eq_some_iff.mp H
    obtain ⟨⟨t373, t374⟩, A70, H⟩ := H
    replace H : ((laws_toMessageS.f k l1).bind fun t375 => ((spec_FullTicks.f k t373 t374 t375 a2).bind fun bt378 => ((laws_toMessageS.f k l1).bind fun t380 => ((laws_toSlotRing.f a0_0 a0_1).bind fun bt383 => ((impl_FullTicks.f k bt383.1 bt383.2 t380 a2).bind fun bt385 => (if bt385.1 = bt378.1 then (laws_FnExactFullTicks.j0 k l1 t380 (bt385.2 != bt378.2)) else (laws_FnExactFullTicks.j0 k l1 t380 true))))))) = some r := H
    have A7 := Aside0.mk A70
    clear A70
    replace H := Option.bind_eq_some_iff.mp H
    obtain ⟨t375, A80, H⟩ := H
    replace H : ((spec_FullTicks.f k t373 t374 t375 a2).bind fun bt378 => ((laws_toMessageS.f k l1).bind fun t380 => ((laws_toSlotRing.f a0_0 a0_1).bind fun bt383 => ((impl_FullTicks.f k bt383.1 bt383.2 t380 a2).bind fun bt385 => (if bt385.1 = bt378.1 then (laws_FnExactFullTicks.j0 k l1 t380 (bt385.2 != bt378.2)) else (laws_FnExactFullTicks.j0 k l1 t380 true)))))) = some r := H
    have A8 := Aside0.mk A80
    clear A80
    replace H := Option.bind_eq_some_iff.mp H
    obtain ⟨⟨t378, t379⟩, A90, H⟩ := H
    replace H : ((laws_toMessageS.f k l1).bind fun t380 => ((laws_toSlotRing.f a0_0 a0_1).bind fun bt383 => ((impl_FullTicks.f k bt383.1 bt383.2 t380 a2).bind fun bt385 => (if bt385.1 = t378 then (laws_FnExactFullTicks.j0 k l1 t380 (bt385.2 != t379)) else (laws_FnExactFullTicks.j0 k l1 t380 true))))) = some r := H
    have A9 := Aside0.mk A90
    clear A90
    replace H := Option.bind_eq_some_iff.mp H
    obtain ⟨t380, A100, H⟩ := H
    replace H : ((laws_toSlotRing.f a0_0 a0_1).bind fun bt383 => ((impl_FullTicks.f k bt383.1 bt383.2 t380 a2).bind fun bt385 => (if bt385.1 = t378 then (laws_FnExactFullTicks.j0 k l1 t380 (bt385.2 != t379)) else (laws_FnExactFullTicks.j0 k l1 t380 true)))) = some r := H
    have A10 := Aside0.mk A100
    clear A100
    replace H := Option.bind_eq_some_iff.mp H
    obtain ⟨⟨t383, t384⟩, A110, H⟩ := H
    replace H : ((impl_FullTicks.f k t383 t384 t380 a2).bind fun bt385 => (if bt385.1 = t378 then (laws_FnExactFullTicks.j0 k l1 t380 (bt385.2 != t379)) else (laws_FnExactFullTicks.j0 k l1 t380 true))) = some r := H
    have A11 := Aside0.mk A110
    clear A110
    replace H := Option.bind_eq_some_iff.mp H
    obtain ⟨⟨t385, t386⟩, A120, H⟩ := H
    replace H : (if t385 = t378 then (laws_FnExactFullTicks.j0 k l1 t380 (t386 != t379)) else (laws_FnExactFullTicks.j0 k l1 t380 true)) = some r := H
    have A12 := Aside0.mk A120
    clear A120
    have HC13 := Aside0.mk H
    clear H
    go_enter Try.func8, Try.ntmps8
    go_upto_region 8 with (first | ((with_reducible refine gate_dst (N := 3) rfl ?_); refine box_event ?hg (N := 3) ?hd (cs := #[.int .i64 a0_0, .bool a0_1]) (t := 23) ?hr ?_; (case hd => rfl); (case hg => rfl); (case hr => first | (go_simp; done) | (go_simp; rfl)); intro gb371 hg w14 hbox hb; have n0_ := Aside0.mk (below_step (by repeat (first | (with_reducible first | exact HB.out | apply below_alloc | apply pw_below_drewN | apply below_drew1) | exact HB.out)) hb); have n1_ := Aside0.mk (hbox); have n2_ := Aside0.mk ((by rw [hg]; exact (below_size (by repeat (first | (with_reducible first | exact HB.out | apply below_alloc | apply pw_below_drewN | apply below_drew1) | exact HB.out))) : w.heap.size ≤ gb371)); have n3_ := Aside0.mk ((by rw [hg]; exact (below_size (by repeat (first | (with_reducible first | exact HB.out | apply below_alloc | apply pw_below_drewN | apply below_drew1) | exact HB.out))) : w.heap.size ≤ gb371)); clear HB; have HB := n0_; have BK371 := n1_; have GW371 := n2_; have GE371 := n3_; clear n0_ n1_ n2_ n3_; clear hb hbox hg) | ((with_reducible refine gate_callee (f := 18) rfl ?_); refine goesL_ (some 15) rfl rfl Try.func18 (by kernel_rfl) rfl #[.slice A1 l1.length c1, .int .i64 1048576] rfl (by (try simp only [List.map_toArray, List.map_cons, List.map_nil]); first | done | rfl | (simp only [List.length_drop, List.length_take]; rfl)) ?_; (with_reducible refine (laws_szMessageS.calls _ _ l1 1048576 t372 _ ?side1 ?side2 A4.out).mono ?_); (case side1 => repeat (first | exact (Kd.C_below HR1.out HB.out) | (with_reducible refine Kd.C_alloc ?_ _) | (with_reducible refine Kd.C_drewN ?_ _) | (with_reducible refine Kd.C_drew ?_))); (case side2 => exact HC1.out); rintro e w' ⟨rfl, ⟨nd, rfl⟩⟩; refine ⟨_, rfl, ?_⟩; have hcz15_0 : w14.cell? ⟨gb371, 0, none⟩ = some (.int .i64 a0_0) := (blk_cell BK371.out 0).trans rfl; have hcz15_1 : w14.cell? ⟨gb371, 1, none⟩ = some (.bool a0_1) := (blk_cell BK371.out 1).trans rfl; have hfz15_0 := blk_frozen BK371.out 0; have hfz15_1 := blk_frozen BK371.out 1) | ((with_reducible refine gate_callee (f := 15) rfl ?_); refine goesL_ (some 20) rfl rfl Try.func15 (by kernel_rfl) rfl #[.agg #[.int .i64 a0_0, .bool a0_1]] rfl (by (try simp only [List.map_toArray, List.map_cons, List.map_nil]); first | done | rfl | (simp only [List.length_drop, List.length_take]; rfl)) ?_; (with_reducible refine (laws_toSlotRing.calls a0_0 a0_1 t373 t374 _ A7.out).mono ?_); rintro e w16 ⟨rfl, hb⟩; refine ⟨_, rfl, ?_⟩; have n0_ := Aside0.mk (blk_below (g := gb371) (o := .cells #[.int .i64 a0_0, .bool a0_1] 23 (0, 0)) (by (with_reducible repeat (first | refine blk_drewN ?_ _ | refine blk_drew ?_ | refine blk_alloc ?_ _)); exact BK371.out) hb); have n1_ := Aside0.mk (below_step (by repeat (first | (with_reducible first | exact HB.out | apply below_alloc | apply pw_below_drewN | apply below_drew1 | refine below_set ?_ GE371.out) | exact HB.out)) hb); clear BK371; clear HB; have BK371 := n0_; have HB := n1_; clear n0_ n1_; (try clear hb); (try clear hb2); (try clear hk); (try clear hi)) | ((with_reducible refine gate_callee (f := 20) rfl ?_); refine goesL_ (some 22) rfl rfl Try.func20 (by kernel_rfl) rfl #[.slice A1 l1.length c1] rfl (by (try simp only [List.map_toArray, List.map_cons, List.map_nil]); first | done | rfl | (simp only [List.length_drop, List.length_take]; rfl)) ?_; (with_reducible refine (laws_toMessageS.calls k _ _ l1 t375 _ ?side1 ?side2 A8.out).mono ?_); (case side1 => repeat (first | exact (Kd.C_below HR1.out HB.out) | (with_reducible refine Kd.C_alloc ?_ _) | (with_reducible refine Kd.C_drewN ?_ _) | (with_reducible refine Kd.C_drew ?_))); (case side2 => exact HC1.out); rintro e w17 ⟨v376, rfl, ho0, hb⟩; refine ⟨_, rfl, ?_⟩; have n0_ := Aside0.mk (Kd.R_lower ho0 (below_size (by repeat (first | (with_reducible first | exact HB.out | apply below_alloc | apply pw_below_drewN | apply below_drew1 | refine below_set ?_ GE371.out) | exact HB.out)))); have n1_ := Aside0.mk (blk_below (g := gb371) (o := .cells #[.int .i64 a0_0, .bool a0_1] 23 (0, 0)) (by (with_reducible repeat (first | refine blk_drewN ?_ _ | refine blk_drew ?_ | refine blk_alloc ?_ _)); exact BK371.out) hb); have n2_ := Aside0.mk (below_step (by repeat (first | (with_reducible first | exact HB.out | apply below_alloc | apply pw_below_drewN | apply below_drew1 | refine below_set ?_ GE371.out) | exact HB.out)) hb); clear BK371; clear HB; have HO377 := n0_; have BK371 := n1_; have HB := n2_; clear n0_ n1_ n2_; (try clear hb); (try clear hb2); (try clear hk); (try clear hi); (try clear ho0); obtain ⟨Ao18, co18, eo18⟩ := Kd.R_slice HO377.out; subst eo18) | ((with_reducible refine gate_callee (f := 34) rfl ?_); refine goesL_ (some 24) rfl rfl Try.func34 (by kernel_rfl) rfl #[.agg #[.int .i64 t373, .bool t374], .slice Ao18 t375.length co18, .int .i64 a2] rfl (by (try simp only [List.map_toArray, List.map_cons, List.map_nil]); first | done | rfl | (simp only [List.length_drop, List.length_take]; rfl)) ?_; (with_reducible refine (spec_FullTicks.calls k t373 t374 _ _ t375 a2 t378 t379 _ ?side1 ?side2 A9.out).mono ?_); (case side1 => repeat (first | exact (Kd.R_reads' HO377.out).2.2 | (with_reducible refine Kd.C_alloc ?_ _) | (with_reducible refine Kd.C_drewN ?_ _) | (with_reducible refine Kd.C_drew ?_))); (case side2 => exact (Kd.R_reads' HO377.out).2.1); rintro e w19 ⟨rfl, hb⟩; refine ⟨_, rfl, ?_⟩; have n0_ := Aside0.mk (Kd.R_below (by (with_reducible repeat (first | apply Kd.R_alloc | apply Kd.R_drewN | apply Kd.R_drew)); exact HO377.out) hb); have n1_ := Aside0.mk (blk_below (g := gb371) (o := .cells #[.int .i64 a0_0, .bool a0_1] 23 (0, 0)) (by (with_reducible repeat (first | refine blk_drewN ?_ _ | refine blk_drew ?_ | refine blk_alloc ?_ _)); exact BK371.out) hb); have n2_ := Aside0.mk (below_step (by repeat (first | (with_reducible first | exact HB.out | apply below_alloc | apply pw_below_drewN | apply below_drew1 | refine below_set ?_ GE371.out) | exact HB.out)) hb); clear HO377; clear BK371; clear HB; have HO377 := n0_; have BK371 := n1_; have HB := n2_; clear n0_ n1_ n2_; (try clear hb); (try clear hb2); (try clear hk); (try clear hi)) | ((with_reducible refine gate_callee (f := 20) rfl ?_); refine goesL_ (some 28) rfl rfl Try.func20 (by kernel_rfl) rfl #[.slice A1 l1.length c1] rfl (by (try simp only [List.map_toArray, List.map_cons, List.map_nil]); first | done | rfl | (simp only [List.length_drop, List.length_take]; rfl)) ?_; (with_reducible refine (laws_toMessageS.calls k _ _ l1 t380 _ ?side1 ?side2 A10.out).mono ?_); (case side1 => repeat (first | exact (Kd.C_below HR1.out HB.out) | (with_reducible refine Kd.C_alloc ?_ _) | (with_reducible refine Kd.C_drewN ?_ _) | (with_reducible refine Kd.C_drew ?_))); (case side2 => exact HC1.out); rintro e w20 ⟨v381, rfl, ho0, hb⟩; refine ⟨_, rfl, ?_⟩; have n0_ := Aside0.mk (Kd.R_elder' (by (with_reducible repeat (first | apply Kd.R_alloc | apply Kd.R_drewN | apply Kd.R_drew)); exact HO377.out) (Kd.R_base ho0) hb); have n1_ := Aside0.mk (Kd.R_lower (Kd.R_new' ho0 (Kd.R_lt (by (with_reducible repeat (first | apply Kd.R_alloc | apply Kd.R_drewN | apply Kd.R_drew)); exact HO377.out))) (below_size (by repeat (first | (with_reducible first | exact HB.out | apply below_alloc | apply pw_below_drewN | apply below_drew1 | refine below_set ?_ GE371.out) | exact HB.out)))); have n2_ := Aside0.mk (blk_below (g := gb371) (o := .cells #[.int .i64 a0_0, .bool a0_1] 23 (0, 0)) (by (with_reducible repeat (first | refine blk_drewN ?_ _ | refine blk_drew ?_ | refine blk_alloc ?_ _)); exact BK371.out) hb); have n3_ := Aside0.mk (below_step (by repeat (first | (with_reducible first | exact HB.out | apply below_alloc | apply pw_below_drewN | apply below_drew1 | refine below_set ?_ GE371.out) | exact HB.out)) hb); clear HO377; clear BK371; clear HB; have HO377 := n0_; have HO382 := n1_; have BK371 := n2_; have HB := n3_; clear n0_ n1_ n2_ n3_; (try clear hb); (try clear hb2); (try clear hk); (try clear hi); (try clear ho0); have hcz21_0 : w20.cell? ⟨gb371, 0, none⟩ = some (.int .i64 a0_0) := (blk_cell BK371.out 0).trans rfl; have hcz21_1 : w20.cell? ⟨gb371, 1, none⟩ = some (.bool a0_1) := (blk_cell BK371.out 1).trans rfl; have hfz21_0 := blk_frozen BK371.out 0; have hfz21_1 := blk_frozen BK371.out 1) | ((with_reducible refine gate_callee (f := 15) rfl ?_); refine goesL_ (some 31) rfl rfl Try.func15 (by kernel_rfl) rfl #[.agg #[.int .i64 a0_0, .bool a0_1]] rfl (by (try simp only [List.map_toArray, List.map_cons, List.map_nil]); first | done | rfl | (simp only [List.length_drop, List.length_take]; rfl)) ?_; (with_reducible refine (laws_toSlotRing.calls a0_0 a0_1 t383 t384 _ A11.out).mono ?_); rintro e w22 ⟨rfl, hb⟩; refine ⟨_, rfl, ?_⟩; have n0_ := Aside0.mk (Kd.R_below (by (with_reducible repeat (first | apply Kd.R_alloc | apply Kd.R_drewN | apply Kd.R_drew)); exact HO377.out) hb); have n1_ := Aside0.mk (Kd.R_below (by (with_reducible repeat (first | apply Kd.R_alloc | apply Kd.R_drewN | apply Kd.R_drew)); exact HO382.out) hb); have n2_ := Aside0.mk (blk_below (g := gb371) (o := .cells #[.int .i64 a0_0, .bool a0_1] 23 (0, 0)) (by (with_reducible repeat (first | refine blk_drewN ?_ _ | refine blk_drew ?_ | refine blk_alloc ?_ _)); exact BK371.out) hb); have n3_ := Aside0.mk (below_step (by repeat (first | (with_reducible first | exact HB.out | apply below_alloc | apply pw_below_drewN | apply below_drew1 | refine below_set ?_ GE371.out) | exact HB.out)) hb); clear HO377; clear HO382; clear BK371; clear HB; have HO377 := n0_; have HO382 := n1_; have BK371 := n2_; have HB := n3_; clear n0_ n1_ n2_ n3_; (try clear hb); (try clear hb2); (try clear hk); (try clear hi); obtain ⟨Ao23, co23, eo23⟩ := Kd.R_slice HO382.out; subst eo23) | ((with_reducible refine gate_callee (f := 35) rfl ?_); refine goesL_ (some 34) rfl rfl Try.func35 (by kernel_rfl) rfl #[.agg #[.int .i64 t383, .bool t384], .slice Ao23 t380.length co23, .int .i64 a2] rfl (by (try simp only [List.map_toArray, List.map_cons, List.map_nil]); first | done | rfl | (simp only [List.length_drop, List.length_take]; rfl)) ?_; (with_reducible refine (impl_FullTicks.calls k t383 t384 _ _ t380 a2 t385 t386 _ ?side1 ?side2 A12.out).mono ?_); (case side1 => repeat (first | exact (Kd.R_reads' HO382.out).2.2 | (with_reducible refine Kd.C_alloc ?_ _) | (with_reducible refine Kd.C_drewN ?_ _) | (with_reducible refine Kd.C_drew ?_))); (case side2 => exact (Kd.R_reads' HO382.out).2.1); rintro e w24 ⟨rfl, hb⟩; refine ⟨_, rfl, ?_⟩; have n0_ := Aside0.mk (Kd.R_below (by (with_reducible repeat (first | apply Kd.R_alloc | apply Kd.R_drewN | apply Kd.R_drew)); exact HO377.out) hb); have n1_ := Aside0.mk (Kd.R_below (by (with_reducible repeat (first | apply Kd.R_alloc | apply Kd.R_drewN | apply Kd.R_drew)); exact HO382.out) hb); have n2_ := Aside0.mk (blk_below (g := gb371) (o := .cells #[.int .i64 a0_0, .bool a0_1] 23 (0, 0)) (by (with_reducible repeat (first | refine blk_drewN ?_ _ | refine blk_drew ?_ | refine blk_alloc ?_ _)); exact BK371.out) hb); have n3_ := Aside0.mk (below_step (by repeat (first | (with_reducible first | exact HB.out | apply below_alloc | apply pw_below_drewN | apply below_drew1 | refine below_set ?_ GE371.out) | exact HB.out)) hb); clear HO377; clear HO382; clear BK371; clear HB; have HO377 := n0_; have HO382 := n1_; have BK371 := n2_; have HB := n3_; clear n0_ n1_ n2_ n3_; (try clear hb); (try clear hb2); (try clear hk); (try clear hi)))
    (try simp only [Act.put, List.setIfInBounds_toArray, List.set_cons_zero, List.set_cons_succ])
    go_cut [44] (fun v44 wc => ∃ (kq : Nat) (x44_12 : Bool), v44 = .bool x44_12 ∧ Aside0 (laws_FnExactFullTicks.j0 kq l1 t380 x44_12 = some r) ∧ Aside0 (kq ≤ k) ∧ Aside0 (Kd.R k30 30 wc w.heap.size (fun _ => True) (.slice Ao23 t380.length co23) t380) ∧ Aside0 (wc.heap[gb371]? = some (.cells #[.int .i64 a0_0, .bool a0_1] 23 (0, 0))) ∧ Aside0 (Below w.heap.size w wc))
    case first =>
      have H := HC13.out
      clear HC13
      by_cases c25 : t385 = t378
      · rw [if_pos c25] at H
        have c25b0 : (t385 == t378) = true := beq_iff_eq.mpr c25
        have c25b1 : (t385 != t378) = false := bne_eq_false_iff_eq.mpr c25
        clear c25
        (first | rw [c25b0] | (simp only [i64_w, i32_w]; rw [c25b0]) | skip)
        have H' := Aside0.mk H
        clear H
        go_wp2
        go_meet
        case rel => exact ⟨_, ((t386 != t379)), (by first | rfl | (simp; done) | (simp [*]; done)), H', ⟨by first | omega | exact Nat.le_refl _⟩, ⟨by (with_reducible repeat (first | apply Kd.R_alloc | apply Kd.R_drewN | apply Kd.R_drew)); exact Kd.R_mono HO382.out (fun _ hk => trivial)⟩, ⟨by (with_reducible repeat (first | refine blk_drewN ?_ _ | refine blk_drew ?_ | refine blk_alloc ?_ _)); exact BK371.out⟩, ⟨by repeat (first | (with_reducible first | exact HB.out | apply below_alloc | apply pw_below_drewN | apply below_drew1 | refine below_set ?_ GE371.out) | exact HB.out)⟩⟩
      · rw [if_neg c25] at H
        have c25b0 : (t385 == t378) = false := beq_eq_false_iff_ne.mpr c25
        have c25b1 : (t385 != t378) = true := bne_iff_ne.mpr c25
        (first | rw [c25b0] | (simp only [i64_w, i32_w]; rw [c25b0]) | skip)
        have H' := Aside0.mk H
        clear H
        go_wp2
        go_meet
        case rel => exact ⟨_, (true), (by first | rfl | (simp; done) | (simp [*]; done)), H', ⟨by first | omega | exact Nat.le_refl _⟩, ⟨by (with_reducible repeat (first | apply Kd.R_alloc | apply Kd.R_drewN | apply Kd.R_drew)); exact Kd.R_mono HO382.out (fun _ hk => trivial)⟩, ⟨by (with_reducible repeat (first | refine blk_drewN ?_ _ | refine blk_drew ?_ | refine blk_alloc ?_ _)); exact BK371.out⟩, ⟨by repeat (first | (with_reducible first | exact HB.out | apply below_alloc | apply pw_below_drewN | apply below_drew1 | refine below_set ?_ GE371.out) | exact HB.out)⟩⟩
    case rest =>
      clear HC13
      try clear c1
      try clear c2
      try clear p2
      try clear c3
      try clear c5
      try clear c5b0
      try clear c8
      try clear c15
      try clear c18
      try clear c20
      try clear c25
      try clear c25b0
      try clear c25b1
      try clear hcz15_0
      try clear hcz15_1
      try clear hcz21_0
      try clear hcz21_1
      try clear hfz15_0
      try clear hfz15_1
      try clear hfz21_0
      try clear hfz21_1
      obtain ⟨kq, x44_12, rfl, HA, HJ12, HO_10, BK371, HB⟩ := hcut
      cases kq with
      | zero => exact absurd HA.out (by simp [laws_FnExactFullTicks.j0])
      | succ kj12 =>
        have H := HA.out
        clear HA
        simp only [laws_FnExactFullTicks.j0] at H
        by_cases c26 : x44_12 = true
        · subst c26
          have H1 : (some false) = some r := by rw [if_pos rfl] at H; exact H
          clear H
          have H := H1
          clear H1
          obtain rfl := Option.some.inj H
          go_wp2
          go_ret
          exact ⟨by first | rfl | (simp [errW_none, errW_some] <;> rfl) | (simp [*, errW_none, errW_some] <;> rfl), by repeat (first | (with_reducible first | exact HB.out | apply below_alloc | apply pw_below_drewN | apply below_drew1 | refine below_set ?_ GE371.out) | exact HB.out)⟩
        · replace c26 := Bool.eq_false_iff.mpr c26
          subst c26
          have H1 : ((laws_toMessageS.f kj12 l1).bind fun t387 => ((laws_eqMessageS.f kj12 t380 t387).bind fun t390 => (if t390 = true then (some true) else (some false)))) = some r := by rw [if_neg (show ¬ (false = true) by decide)] at H; exact H
          clear H
          have H := H1
          clear H1
          replace H := Option.bind_eq_some_iff.mp H
          obtain ⟨t387, A270, H⟩ := H
          replace H : ((laws_eqMessageS.f kj12 t380 t387).bind fun t390 => (if t390 = true then (some true) else (some false))) = some r := H
          have A27 := Aside0.mk A270
          clear A270
          replace H := Option.bind_eq_some_iff.mp H
          obtain ⟨t390, A280, H⟩ := H
          replace H : (if t390 = true then (some true) else (some false)) = some r := H
          have A28 := Aside0.mk A280
          clear A280
          by_cases c29 : t390 = true
          · subst c29
            have H1 : (some true) = some r := by rw [if_pos rfl] at H; exact H
            clear H
            have H := H1
            clear H1
            obtain rfl := Option.some.inj H
            go_wp2_with (first | ((with_reducible refine gate_callee (f := 20) rfl ?_); refine goesL_ (some 47) rfl rfl Try.func20 (by kernel_rfl) rfl #[.slice A1 l1.length c1] rfl (by (try simp only [List.map_toArray, List.map_cons, List.map_nil]); first | done | rfl | (simp only [List.length_drop, List.length_take]; rfl)) ?_; (with_reducible refine (laws_toMessageS.calls kj12 _ _ l1 t387 _ ?side1 ?side2 A27.out).mono ?_); (case side1 => repeat (first | exact (Kd.C_below HR1.out HB.out) | (with_reducible refine Kd.C_alloc ?_ _) | (with_reducible refine Kd.C_drewN ?_ _) | (with_reducible refine Kd.C_drew ?_))); (case side2 => exact HC1.out); rintro e w30 ⟨v388, rfl, ho0, hb⟩; refine ⟨_, rfl, ?_⟩; have n0_ := Aside0.mk (Kd.R_elder' (by (with_reducible repeat (first | apply Kd.R_alloc | apply Kd.R_drewN | apply Kd.R_drew)); exact HO_10.out) (Kd.R_base ho0) hb); have n1_ := Aside0.mk (Kd.R_lower (Kd.R_new' ho0 (Kd.R_lt (by (with_reducible repeat (first | apply Kd.R_alloc | apply Kd.R_drewN | apply Kd.R_drew)); exact HO_10.out))) (below_size (by repeat (first | (with_reducible first | exact HB.out | apply below_alloc | apply pw_below_drewN | apply below_drew1 | refine below_set ?_ GE371.out) | exact HB.out)))); have n2_ := Aside0.mk (blk_below (g := gb371) (o := .cells #[.int .i64 a0_0, .bool a0_1] 23 (0, 0)) (by (with_reducible repeat (first | refine blk_drewN ?_ _ | refine blk_drew ?_ | refine blk_alloc ?_ _)); exact BK371.out) hb); have n3_ := Aside0.mk (below_step (by repeat (first | (with_reducible first | exact HB.out | apply below_alloc | apply pw_below_drewN | apply below_drew1 | refine below_set ?_ GE371.out) | exact HB.out)) hb); clear HO_10; clear BK371; clear HB; have HO_10 := n0_; have HO389 := n1_; have BK371 := n2_; have HB := n3_; clear n0_ n1_ n2_ n3_; (try clear hb); (try clear hb2); (try clear hk); (try clear hi); (try clear ho0); obtain ⟨Ao31, co31, eo31⟩ := Kd.R_slice HO389.out; subst eo31) | ((with_reducible refine gate_callee (f := 22) rfl ?_); refine goesL_ (some 48) rfl rfl Try.func22 (by kernel_rfl) rfl #[.slice Ao23 t380.length co23, .slice Ao31 t387.length co31] rfl (by (try simp only [List.map_toArray, List.map_cons, List.map_nil]); first | done | rfl | (simp only [List.length_drop, List.length_take]; rfl)) ?_; (with_reducible refine (laws_eqMessageS.calls kj12 _ _ t380 _ _ t387 true _ ?side1 ?side2 ?side3 ?side4 A28.out).mono ?_); (case side1 => repeat (first | exact (Kd.R_reads' HO_10.out).2.2 | (with_reducible refine Kd.C_alloc ?_ _) | (with_reducible refine Kd.C_drewN ?_ _) | (with_reducible refine Kd.C_drew ?_))); (case side2 => exact (Kd.R_reads' HO_10.out).2.1); (case side3 => repeat (first | exact (Kd.R_reads' HO389.out).2.2 | (with_reducible refine Kd.C_alloc ?_ _) | (with_reducible refine Kd.C_drewN ?_ _) | (with_reducible refine Kd.C_drew ?_))); (case side4 => exact (Kd.R_reads' HO389.out).2.1); rintro e w32 ⟨rfl, hb⟩; refine ⟨_, rfl, ?_⟩; have n0_ := Aside0.mk (Kd.R_below (by (with_reducible repeat (first | apply Kd.R_alloc | apply Kd.R_drewN | apply Kd.R_drew)); exact HO_10.out) hb); have n1_ := Aside0.mk (Kd.R_below (by (with_reducible repeat (first | apply Kd.R_alloc | apply Kd.R_drewN | apply Kd.R_drew)); exact HO389.out) hb); have n2_ := Aside0.mk (blk_below (g := gb371) (o := .cells #[.int .i64 a0_0, .bool a0_1] 23 (0, 0)) (by (with_reducible repeat (first | refine blk_drewN ?_ _ | refine blk_drew ?_ | refine blk_alloc ?_ _)); exact BK371.out) hb); have n3_ := Aside0.mk (below_step (by repeat (first | (with_reducible first | exact HB.out | apply below_alloc | apply pw_below_drewN | apply below_drew1 | refine below_set ?_ GE371.out) | exact HB.out)) hb); clear HO_10; clear HO389; clear BK371; clear HB; have HO_10 := n0_; have HO389 := n1_; have BK371 := n2_; have HB := n3_; clear n0_ n1_ n2_ n3_; (try clear hb); (try clear hb2); (try clear hk); (try clear hi)))
            go_ret
            exact ⟨by first | rfl | (simp [errW_none, errW_some] <;> rfl) | (simp [*, errW_none, errW_some] <;> rfl), by repeat (first | (with_reducible first | exact HB.out | apply below_alloc | apply pw_below_drewN | apply below_drew1 | refine below_set ?_ GE371.out) | exact HB.out)⟩
          · replace c29 := Bool.eq_false_iff.mpr c29
            subst c29
            have H1 : (some false) = some r := by rw [if_neg (show ¬ (false = true) by decide)] at H; exact H
            clear H
            have H := H1
            clear H1
            obtain rfl := Option.some.inj H
            go_wp2_with (first | ((with_reducible refine gate_callee (f := 20) rfl ?_); refine goesL_ (some 47) rfl rfl Try.func20 (by kernel_rfl) rfl #[.slice A1 l1.length c1] rfl (by (try simp only [List.map_toArray, List.map_cons, List.map_nil]); first | done | rfl | (simp only [List.length_drop, List.length_take]; rfl)) ?_; (with_reducible refine (laws_toMessageS.calls kj12 _ _ l1 t387 _ ?side1 ?side2 A27.out).mono ?_); (case side1 => repeat (first | exact (Kd.C_below HR1.out HB.out) | (with_reducible refine Kd.C_alloc ?_ _) | (with_reducible refine Kd.C_drewN ?_ _) | (with_reducible refine Kd.C_drew ?_))); (case side2 => exact HC1.out); rintro e w33 ⟨v388, rfl, ho0, hb⟩; refine ⟨_, rfl, ?_⟩; have n0_ := Aside0.mk (Kd.R_elder' (by (with_reducible repeat (first | apply Kd.R_alloc | apply Kd.R_drewN | apply Kd.R_drew)); exact HO_10.out) (Kd.R_base ho0) hb); have n1_ := Aside0.mk (Kd.R_lower (Kd.R_new' ho0 (Kd.R_lt (by (with_reducible repeat (first | apply Kd.R_alloc | apply Kd.R_drewN | apply Kd.R_drew)); exact HO_10.out))) (below_size (by repeat (first | (with_reducible first | exact HB.out | apply below_alloc | apply pw_below_drewN | apply below_drew1 | refine below_set ?_ GE371.out) | exact HB.out)))); have n2_ := Aside0.mk (blk_below (g := gb371) (o := .cells #[.int .i64 a0_0, .bool a0_1] 23 (0, 0)) (by (with_reducible repeat (first | refine blk_drewN ?_ _ | refine blk_drew ?_ | refine blk_alloc ?_ _)); exact BK371.out) hb); have n3_ := Aside0.mk (below_step (by repeat (first | (with_reducible first | exact HB.out | apply below_alloc | apply pw_below_drewN | apply below_drew1 | refine below_set ?_ GE371.out) | exact HB.out)) hb); clear HO_10; clear BK371; clear HB; have HO_10 := n0_; have HO389 := n1_; have BK371 := n2_; have HB := n3_; clear n0_ n1_ n2_ n3_; (try clear hb); (try clear hb2); (try clear hk); (try clear hi); (try clear ho0); obtain ⟨Ao34, co34, eo34⟩ := Kd.R_slice HO389.out; subst eo34) | ((with_reducible refine gate_callee (f := 22) rfl ?_); refine goesL_ (some 48) rfl rfl Try.func22 (by kernel_rfl) rfl #[.slice Ao23 t380.length co23, .slice Ao34 t387.length co34] rfl (by (try simp only [List.map_toArray, List.map_cons, List.map_nil]); first | done | rfl | (simp only [List.length_drop, List.length_take]; rfl)) ?_; (with_reducible refine (laws_eqMessageS.calls kj12 _ _ t380 _ _ t387 false _ ?side1 ?side2 ?side3 ?side4 A28.out).mono ?_); (case side1 => repeat (first | exact (Kd.R_reads' HO_10.out).2.2 | (with_reducible refine Kd.C_alloc ?_ _) | (with_reducible refine Kd.C_drewN ?_ _) | (with_reducible refine Kd.C_drew ?_))); (case side2 => exact (Kd.R_reads' HO_10.out).2.1); (case side3 => repeat (first | exact (Kd.R_reads' HO389.out).2.2 | (with_reducible refine Kd.C_alloc ?_ _) | (with_reducible refine Kd.C_drewN ?_ _) | (with_reducible refine Kd.C_drew ?_))); (case side4 => exact (Kd.R_reads' HO389.out).2.1); rintro e w35 ⟨rfl, hb⟩; refine ⟨_, rfl, ?_⟩; have n0_ := Aside0.mk (Kd.R_below (by (with_reducible repeat (first | apply Kd.R_alloc | apply Kd.R_drewN | apply Kd.R_drew)); exact HO_10.out) hb); have n1_ := Aside0.mk (Kd.R_below (by (with_reducible repeat (first | apply Kd.R_alloc | apply Kd.R_drewN | apply Kd.R_drew)); exact HO389.out) hb); have n2_ := Aside0.mk (blk_below (g := gb371) (o := .cells #[.int .i64 a0_0, .bool a0_1] 23 (0, 0)) (by (with_reducible repeat (first | refine blk_drewN ?_ _ | refine blk_drew ?_ | refine blk_alloc ?_ _)); exact BK371.out) hb); have n3_ := Aside0.mk (below_step (by repeat (first | (with_reducible first | exact HB.out | apply below_alloc | apply pw_below_drewN | apply below_drew1 | refine below_set ?_ GE371.out) | exact HB.out)) hb); clear HO_10; clear HO389; clear BK371; clear HB; have HO_10 := n0_; have HO389 := n1_; have BK371 := n2_; have HB := n3_; clear n0_ n1_ n2_ n3_; (try clear hb); (try clear hb2); (try clear hk); (try clear hi)))
            go_ret
            exact ⟨by first | rfl | (simp [errW_none, errW_some] <;> rfl) | (simp [*, errW_none, errW_some] <;> rfl), by repeat (first | (with_reducible first | exact HB.out | apply below_alloc | apply pw_below_drewN | apply below_drew1 | refine below_set ?_ GE371.out) | exact HB.out)⟩

end Go.Proofs.Ytgkbeejkbhhjkaa.X

/- What the functions of the program come to, and that they do: written by this session's program wip/xprint.py out of the translation; parts named extern are typed by hand. -/
namespace Go.Proofs.Ytgkbeejkbhhjkaa.X
open Go.RowKit Go.Proofs.YtgkbeejkbhhjkaaW.PrintWords Go.Proofs.YtgkbeejkbhhjkaaW.PrintLast Go.Proofs.YtgkbeejkbhhjkaaW.PrintMore
attribute [local go_sem] max2_int min2_int max_two min_two max_three min_three max_four min_four   -- for this text's walks alone
set_option linter.unusedVariables false
set_option linter.unusedSimpArgs false

/-! ### spec_slEnd: function 64 -/
/- EXTERN, by hand (wip/hand/slotall.py): the reference's ring behind so many ticks. -/
/-! ### spec_SlotsAt: function 36 -/
/- EXTERN, by hand (wip/hand/slotall.py): the slots behind a tick. -/
/-! ### impl_SlotsAt: function 37 -/
/- EXTERN, by hand (wip/hand/slotall.py): the slots behind a tick. -/
end Go.Proofs.Ytgkbeejkbhhjkaa.X

/- What the functions of the program come to, and that they do: written by this session's program wip/xprint.py out of the translation; parts named extern are typed by hand. -/
namespace Go.Proofs.Ytgkbeejkbhhjkaa.X
open Go.RowKit Go.Proofs.YtgkbeejkbhhjkaaW.PrintWords Go.Proofs.YtgkbeejkbhhjkaaW.PrintLast Go.Proofs.YtgkbeejkbhhjkaaW.PrintMore
attribute [local go_sem] max2_int min2_int max_two min_two max_three min_three max_four min_four   -- for this text's walks alone
set_option linter.unusedVariables false
set_option linter.unusedSimpArgs false

/-! ### spec_slTicks: function 76 -/
/-! ### spec_slWhole: function 65 -/
/- EXTERN, by hand (wip/hand/slotall.py): the reference's ring behind all messages. -/
/-! ### spec_l1Most: function 66 -/
/-! ### spec_LastRead: function 38 -/
/- EXTERN, by hand (wip/hand/slotall.py): when the last message is read. -/
end Go.Proofs.Ytgkbeejkbhhjkaa.X

/- What the functions of the program come to, and that they do: written by this session's program wip/xprint.py out of the translation; parts named extern are typed by hand. -/
namespace Go.Proofs.Ytgkbeejkbhhjkaa.X
open Go.RowKit Go.Proofs.YtgkbeejkbhhjkaaW.PrintWords Go.Proofs.YtgkbeejkbhhjkaaW.PrintLast Go.Proofs.YtgkbeejkbhhjkaaW.PrintMore
attribute [local go_sem] max2_int min2_int max_two min_two max_three min_three max_four min_four   -- for this text's walks alone
set_option linter.unusedVariables false
set_option linter.unusedSimpArgs false

/-! ### impl_slotted: function 68 -/
/- EXTERN, by hand (wip/hand/slotall.py): the program runs till all is read. -/
/-! ### impl_ReadAt: function 43 -/
end Go.Proofs.Ytgkbeejkbhhjkaa.X

/- What the functions of the program come to, and that they do: written by this session's program wip/xprint.py out of the translation; parts named extern are typed by hand. -/
namespace Go.Proofs.Ytgkbeejkbhhjkaa.X
open Go.RowKit Go.Proofs.YtgkbeejkbhhjkaaW.PrintWords Go.Proofs.YtgkbeejkbhhjkaaW.PrintLast Go.Proofs.YtgkbeejkbhhjkaaW.PrintMore
attribute [local go_sem] max2_int min2_int max_two min_two max_three min_three max_four min_four   -- for this text's walks alone
set_option linter.unusedVariables false
set_option linter.unusedSimpArgs false

/-! ### impl_greatest: function 67 -/
/-! ### impl_LastRead: function 39 -/
end Go.Proofs.Ytgkbeejkbhhjkaa.X

/- What the functions of the program come to, and that they do: written by this session's program wip/xprint.py out of the translation; parts named extern are typed by hand. -/
namespace Go.Proofs.Ytgkbeejkbhhjkaa.X
open Go.RowKit Go.Proofs.YtgkbeejkbhhjkaaW.PrintWords Go.Proofs.YtgkbeejkbhhjkaaW.PrintLast Go.Proofs.YtgkbeejkbhhjkaaW.PrintMore
attribute [local go_sem] max2_int min2_int max_two min_two max_three min_three max_four min_four   -- for this text's walks alone
set_option linter.unusedVariables false
set_option linter.unusedSimpArgs false

/-! ### spec_FilledAt: function 40 -/
/- EXTERN, by hand (wip/hand/slotall.py): when messages fill slots. -/
/-! ### impl_FilledAt: function 41 -/
end Go.Proofs.Ytgkbeejkbhhjkaa.X

/- What the functions of the program come to, and that they do: written by this session's program wip/xprint.py out of the translation; parts named extern are typed by hand. -/
namespace Go.Proofs.Ytgkbeejkbhhjkaa.X
open Go.RowKit Go.Proofs.YtgkbeejkbhhjkaaW.PrintWords Go.Proofs.YtgkbeejkbhhjkaaW.PrintLast Go.Proofs.YtgkbeejkbhhjkaaW.PrintMore
attribute [local go_sem] max2_int min2_int max_two min_two max_three min_three max_four min_four   -- for this text's walks alone
set_option linter.unusedVariables false
set_option linter.unusedSimpArgs false

/-! ### spec_ReadAt: function 42 -/
/- EXTERN, by hand (wip/hand/slotall.py): when messages are read. -/
end Go.Proofs.Ytgkbeejkbhhjkaa.X

/- What the functions of the program come to, and that they do: written by this session's program wip/xprint.py out of the translation; parts named extern are typed by hand. -/
namespace Go.Proofs.Ytgkbeejkbhhjkaa.X
open Go.RowKit Go.Proofs.YtgkbeejkbhhjkaaW.PrintWords Go.Proofs.YtgkbeejkbhhjkaaW.PrintLast Go.Proofs.YtgkbeejkbhhjkaaW.PrintMore
attribute [local go_sem] max2_int min2_int max_two min_two max_three min_three max_four min_four   -- for this text's walks alone
set_option linter.unusedVariables false
set_option linter.unusedSimpArgs false

/-! ### spec_QueueAt: function 44 -/
/- EXTERN, by hand (wip/hand/slotall.py): the messages that wait. -/
end Go.Proofs.Ytgkbeejkbhhjkaa.X

/- What the functions of the program come to, and that they do: written by this session's program wip/xprint.py out of the translation; parts named extern are typed by hand. -/
namespace Go.Proofs.Ytgkbeejkbhhjkaa.X
open Go.RowKit Go.Proofs.YtgkbeejkbhhjkaaW.PrintWords Go.Proofs.YtgkbeejkbhhjkaaW.PrintLast Go.Proofs.YtgkbeejkbhhjkaaW.PrintMore
attribute [local go_sem] max2_int min2_int max_two min_two max_three min_three max_four min_four   -- for this text's walks alone
set_option linter.unusedVariables false
set_option linter.unusedSimpArgs false

/-! ### impl_QueueAt: function 45 -/
mutual
def impl_QueueAt.j0 : Nat → List (S30) → Int → Int → List Int → Bool → Option (List Int × Bool)
  | 0, _, _, _, _, _ => none
  | k + 1, x1, x2, x3, x10, x35 => if x35 = true then (some (([] : List Int), false)) else (impl_QueueAt.l0 k x2 x3 x10 (([] : List Int)) x1 (x1.length : Int) 0)
def impl_QueueAt.l0 : Nat → Int → Int → List Int → List Int → List (S30) → Int → Int → Option (List Int × Bool)
  | 0, _, _, _, _, _, _, _ => none
  | k + 1, x2, x3, x10, x12, x37, x38, x39 => if x39 < x38 then (if 0 ≤ x39 then (if x39 < (x37.length : Int) then (if ((rd_T30 x37 x39).f1) = x2 then (if ((rd_T30 x37 x39).f0) ≤ x3 then (if x39 < (x10.length : Int) then (if (rd x10 x39) > x3 then (if x12.length < 17592186044416 then (impl_QueueAt.l0 k x2 x3 x10 (x12 ++ [x39]) x37 x38 (wrap64 (x39 + 1))) else (none)) else (impl_QueueAt.l0 k x2 x3 x10 x12 x37 x38 (wrap64 (x39 + 1)))) else (none)) else (impl_QueueAt.l0 k x2 x3 x10 x12 x37 x38 (wrap64 (x39 + 1)))) else (impl_QueueAt.l0 k x2 x3 x10 x12 x37 x38 (wrap64 (x39 + 1)))) else (none)) else (none)) else (some (x12, true))
end
end Go.Proofs.Ytgkbeejkbhhjkaa.X

/- Plain lemmas: what a function with rounds comes to. -/
namespace Go.Proofs.Ytgkbeejkbhhjkaa.X
set_option linter.unusedSimpArgs false
set_option linter.unusedVariables false
open Go.RowKit Go.Proofs.YtgkbeejkbhhjkaaW.PrintWords
theorem w64 {x : Int} (h1 : -9223372036854775808 ≤ x) (h2 : x ≤ 9223372036854775807) : wrap64 x = x := by unfold wrap64; omega
/-- One round: the next state's answer is this state's. -/
theorem evNext {α : Type} {g f : Nat → Option α} {r : α} (h : ∀ k, g (k + 1) = f k) (k : Ev f r) : Ev g r := Ev.step h k
theorem evEnd {α : Type} {g : Nat → Option α} {r : α} (h : ∀ k, g (k + 1) = some r) : Ev g r := Ev.step (f := fun _ => some r) h (Ev.now r)
/-- A round that calls: from some number of rounds on. -/
theorem evCall {α β : Type} {g f : Nat → Option α} {c : Nat → Option β} {v : β} {r : α} (hc : Ev c v) (h : ∀ k, c k = some v → g (k + 1) = f k) (k : Ev f r) : Ev g r := by
  obtain ⟨K, k⟩ := k
  obtain ⟨K', hc⟩ := hc
  refine ⟨K + K' + 1, fun n hn => ?_⟩
  obtain ⟨m, rfl⟩ : ∃ m, n = m + 1 := ⟨n - 1, by omega⟩
  rw [h m (hc m (by omega))]
  exact k m (by omega)
/-- A counter that goes up: an invariant, and each round hands the answer on. -/
theorem evUp {σ ρ : Type} (n : Nat) (L : Nat → σ → Nat → Option ρ) (I : Nat → σ → Prop) (r : ρ)
    (hs : ∀ i s, i < n → I i s → (∃ s', I (i + 1) s' ∧ (Ev (fun k => L k s' (i + 1)) r → Ev (fun k => L k s i) r)) ∨ Ev (fun k => L k s i) r)
    (he : ∀ s, I n s → Ev (fun k => L k s n) r) : ∀ i s, i ≤ n → I i s → Ev (fun k => L k s i) r := by
  have key : ∀ d i s, i + d = n → I i s → Ev (fun k => L k s i) r := by
    intro d
    induction d with
    | zero =>
      intro i s hd hI
      obtain rfl : i = n := by omega
      exact he s hI
    | succ d ih =>
      intro i s hd hI
      rcases hs i s (by omega) hI with ⟨s', hI', hk⟩ | h
      · exact hk (ih (i + 1) s' (by omega) hI')
      · exact h
  intro i s hi hI
  exact key (n - i) i s (by omega) hI
/-- The same from zero on. -/
theorem evUp0 {σ ρ : Type} (n : Nat) (L : Nat → σ → Nat → Option ρ) (I : Nat → σ → Prop) (r : ρ) (s : σ) (h0 : I 0 s)
    (hs : ∀ i s, i < n → I i s → (∃ s', I (i + 1) s' ∧ (Ev (fun k => L k s' (i + 1)) r → Ev (fun k => L k s i) r)) ∨ Ev (fun k => L k s i) r)
    (he : ∀ s, I n s → Ev (fun k => L k s n) r) : Ev (fun k => L k s 0) r := evUp n L I r hs he 0 s (Nat.zero_le _) h0
theorem evEq {α : Type} {g : Nat → Option α} {r r' : α} (h : Ev g r) (e : r = r') : Ev g r' := e ▸ h
theorem rd_at (l : List Int) (i : Nat) (h : i < l.length) : rd l (i : Int) = l[i] := by
  simp [rd, List.getD_eq_getElem?_getD, List.getElem?_eq_getElem h]
end Go.Proofs.Ytgkbeejkbhhjkaa.X

/- Plain lemmas of slot rings: the order of the stations within a tick does not matter; the program's ring is the reference's. -/
namespace Go.Proofs.Ytgkbeejkbhhjkaa.X
set_option linter.unusedSimpArgs false
set_option linter.unusedVariables false
open Go.RowKit Go.Proofs.YtgkbeejkbhhjkaaW.PrintWords
section
variable {J : List S30} {fah : Bool} {t : Int}
/-- One after the other. -/
def slFold (J : List S30) (fah : Bool) (t : Int) (ops : List (Nat × Int)) (s : SlSt) : SlSt := ops.foldl (fun s p => slOne J fah t p.1 p.2 s) s
theorem slFold_inv {n : Nat} (ht : 0 ≤ t) : ∀ (A : List (Nat × Int)) (s : SlSt), SlInv n J.length s → (∀ p ∈ A, p.1 < n) → SlInv n J.length (slFold J fah t A s)
  | [], _, h, _ => h
  | p :: A, s, h, hA => slFold_inv ht A _ (slOne_inv ht h (hA p (by simp))) (fun q hq => hA q (by simp [hq]))
theorem slFold_past {n : Nat} (ht : 0 ≤ t) (b : Nat × Int) (hb : b.1 < n) : ∀ (A : List (Nat × Int)) (s : SlSt), SlInv n J.length s → (∀ p ∈ A, p.1 < n ∧ p.1 ≠ b.1 ∧ p.2 ≠ b.2) → slFold J fah t A (slOne J fah t b.1 b.2 s) = slOne J fah t b.1 b.2 (slFold J fah t A s)
  | [], _, _, _ => rfl
  | p :: A, s, h, hA => by
    obtain ⟨h1, h2, h3⟩ := hA p (by simp)
    show slFold J fah t A (slOne J fah t p.1 p.2 (slOne J fah t b.1 b.2 s)) = slOne J fah t b.1 b.2 (slFold J fah t A (slOne J fah t p.1 p.2 s))
    rw [slOne_comm (J := J) (fah := fah) (t := t) h hb h1 (Ne.symm h2) (Ne.symm h3)]
    exact slFold_past ht b hb A _ (slOne_inv ht h h1) (fun q hq => hA q (by simp [hq]))
theorem slFold_swap {n : Nat} (ht : 0 ≤ t) (A : List (Nat × Int)) (hA : ∀ p ∈ A, p.1 < n) : ∀ (B : List (Nat × Int)) (s : SlSt), SlInv n J.length s → (∀ b ∈ B, b.1 < n ∧ ∀ p ∈ A, p.1 ≠ b.1 ∧ p.2 ≠ b.2) → slFold J fah t (A ++ B) s = slFold J fah t (B ++ A) s
  | [], s, _, _ => by rw [List.append_nil]; rfl
  | b :: B, s, h, hB => by
    obtain ⟨h1, h2⟩ := hB b (by simp)
    have ih := slFold_swap ht A hA B (slOne J fah t b.1 b.2 s) (slOne_inv ht h h1) (fun q hq => hB q (by simp [hq]))
    have hp := slFold_past (J := J) (fah := fah) (t := t) ht b h1 A s h (fun p hp => ⟨hA p hp, (h2 p hp).1, (h2 p hp).2⟩)
    show List.foldl _ s (A ++ b :: B) = slFold J fah t (B ++ A) (slOne J fah t b.1 b.2 s)
    rw [← ih]
    unfold slFold at hp ⊢
    rw [List.foldl_append, List.foldl_append, List.foldl_cons, hp]
/-- The reference goes by slots, the program by stations. -/
def opsSpec (n t : Nat) : List (Nat × Int) := (List.range n).map (fun k => (k, (((k + t) % n : Nat) : Int)))
def opsImpl (n t : Nat) : List (Nat × Int) := (List.range n).map (fun o => ((o + (n - t % n)) % n, (o : Int)))
theorem range_split (a b : Nat) : List.range (a + b) = List.range a ++ (List.range b).map (fun i => a + i) := by
  induction b with
  | zero => simp
  | succ b ih => rw [← Nat.add_assoc, List.range_succ, ih, List.range_succ, List.map_append, List.append_assoc]; rfl
theorem ops_split (n t : Nat) (hn : 0 < n) : ∃ X Y : List (Nat × Int), opsSpec n t = X ++ Y ∧ opsImpl n t = Y ++ X ∧ (∀ p ∈ X, p.1 < n) ∧ ∀ b ∈ Y, b.1 < n ∧ ∀ p ∈ X, p.1 ≠ b.1 ∧ p.2 ≠ b.2 := by
  have hs : t % n < n := Nat.mod_lt _ hn
  obtain ⟨s0, hs0⟩ : ∃ s0, t % n = s0 := ⟨_, rfl⟩
  rw [hs0] at hs
  refine ⟨(List.range (n - s0)).map (fun k => (k, ((k + s0 : Nat) : Int))), (List.range s0).map (fun i => (n - s0 + i, (i : Int))), ?_, ?_, ?_, ?_⟩
  · unfold opsSpec
    rw [show List.range n = List.range ((n - s0) + s0) by rw [Nat.sub_add_cancel (by omega)], range_split, List.map_append, List.map_map]
    congr 1
    · refine List.map_congr_left fun k hk => ?_
      have hk2 := List.mem_range.1 hk
      rw [Nat.add_mod, hs0, Nat.mod_eq_of_lt (show k < n by omega), Nat.mod_eq_of_lt (by omega)]
    · refine List.map_congr_left fun i hi => ?_
      have hi2 := List.mem_range.1 hi
      show (n - s0 + i, (((n - s0 + i + t) % n : Nat) : Int)) = _
      rw [Nat.add_mod, hs0, Nat.mod_eq_of_lt (show n - s0 + i < n by omega), show n - s0 + i + s0 = i + n by omega, Nat.add_mod_right, Nat.mod_eq_of_lt (by omega)]
  · unfold opsImpl
    rw [show List.range n = List.range (s0 + (n - s0)) by rw [Nat.add_sub_cancel' (by omega)], range_split, List.map_append, List.map_map, hs0]
    congr 1
    · refine List.map_congr_left fun i hi => ?_
      have hi2 := List.mem_range.1 hi
      rw [Nat.mod_eq_of_lt (by omega), Nat.add_comm]
    · refine List.map_congr_left fun k hk => ?_
      have hk2 := List.mem_range.1 hk
      show ((s0 + k + (n - s0)) % n, ((s0 + k : Nat) : Int)) = _
      rw [show s0 + k + (n - s0) = k + n by omega, Nat.add_mod_right, Nat.mod_eq_of_lt (by omega), Nat.add_comm s0 k]
  · intro p hp
    obtain ⟨k, hk, rfl⟩ := List.mem_map.1 hp
    have := List.mem_range.1 hk
    show k < n
    omega
  · intro b hb
    obtain ⟨i, hi, rfl⟩ := List.mem_map.1 hb
    have hi2 := List.mem_range.1 hi
    refine ⟨by show n - s0 + i < n; omega, fun p hp => ?_⟩
    obtain ⟨k, hk, rfl⟩ := List.mem_map.1 hp
    have hk2 := List.mem_range.1 hk
    exact ⟨by show k ≠ n - s0 + i; omega, by show ((k + s0 : Nat) : Int) ≠ (i : Int); omega⟩
/-- A tick by slots is a tick by stations. -/
theorem tick_same {n : Nat} (hn : 0 < n) (tn : Nat) (s : SlSt) (h : SlInv n J.length s) : slFold J fah (tn : Int) (opsSpec n tn) s = slFold J fah (tn : Int) (opsImpl n tn) s ∧ SlInv n J.length (slFold J fah (tn : Int) (opsSpec n tn) s) := by
  obtain ⟨X, Y, h1, h2, h3, h4⟩ := ops_split n tn hn
  refine ⟨?_, slFold_inv (by omega) _ _ h (fun p hp => ?_)⟩
  · rw [h1, h2]
    exact slFold_swap (by omega) X h3 Y s h h4
  · rw [h1] at hp
    rcases List.mem_append.1 hp with hp | hp
    · exact h3 p hp
    · exact (h4 p hp).1
end
theorem slTo_fold (J : List S30) (fah : Bool) (t n : Nat) (s : SlSt) : ∀ m, slTo J fah (t : Int) n s m = slFold J fah (t : Int) ((List.range m).map (fun k => (k, (((k + t) % n : Nat) : Int)))) s
  | 0 => rfl
  | m + 1 => by
    rw [slTo, slTo_fold J fah t n s m, List.range_succ, List.map_append]
    unfold slFold
    rw [List.foldl_append]
    have e : Int.tmod ((m : Int) + (t : Int)) (n : Int) = (((m + t) % n : Nat) : Int) := by
      rw [Int.tmod_eq_emod_of_nonneg (by omega), Int.natCast_emod]
      rfl
    rw [e]
    rfl
theorem slIm_fold (J : List S30) (fah : Bool) (n t : Nat) (s : SlSt) : ∀ o, slIm J fah n t s o = slFold J fah (t : Int) ((List.range o).map (fun o => ((o + (n - t % n)) % n, (o : Int)))) s
  | 0 => rfl
  | o + 1 => by
    rw [slIm, slIm_fold J fah n t s o, List.range_succ, List.map_append]
    unfold slFold
    rw [List.foldl_append]
    rfl
/-- The program's ring is the reference's. -/
theorem run_same (J : List S30) (fah : Bool) (n : Nat) (hn : 0 < n) : ∀ t, slImTo J fah n t = slRunTo J fah n t
  | 0 => rfl
  | t + 1 => by
    rw [slImTo, slRunTo, run_same J fah n hn t, slTo_fold, slIm_fold]
    exact (tick_same (fah := fah) hn t _ (slRunTo_inv J fah n t)).1.symm
end Go.Proofs.Ytgkbeejkbhhjkaa.X

/- Plain lemmas: the laws' own helpers over slices of Messages. -/
namespace Go.Proofs.Ytgkbeejkbhhjkaa.X
set_option linter.unusedSimpArgs false
set_option linter.unusedVariables false
open Go.RowKit Go.Proofs.YtgkbeejkbhhjkaaW.PrintWords
theorem rdL_at (l : List S25) (i : Nat) (h : i < l.length) : rd_T25 l (i : Int) = l[i] := by
  simp [rd_T25, List.getD_eq_getElem?_getD, List.getElem?_eq_getElem h]
def toL (l : List S25) : List S30 := l.map (fun x => ⟨x.f0, x.f1, x.f2⟩)
theorem toL_length (l : List S25) : (toL l).length = l.length := by simp [toL]
theorem sz_big (l : List S25) (h : 1048576 < l.length) (h2 : l.length ≤ 9223372036854775807) : laws_szMessageS.f l 1048576 = some (-1) := by
  unfold laws_szMessageS.f
  rw [w64 (by omega) (by omega), if_pos (by omega)]
theorem sz_small (l : List S25) (h : l.length ≤ 1048576) : laws_szMessageS.f l 1048576 = some (1048576 - (l.length : Int)) := by
  unfold laws_szMessageS.f
  rw [w64 (by omega) (by omega), if_neg (by omega)]
theorem toS_ev (l : List S25) (hn : l.length ≤ 1048576) : Ev (fun k => laws_toMessageS.f k l) (toL l) := by
  have key := evUp l.length (fun k (s : List S30) (i : Nat) => laws_toMessageS.l0 k l s (i : Int)) (fun i s => s = (toL l).take i ++ List.replicate (l.length - i) z30) (toL l)
    (by
      intro i s hi hI
      have hsl : s.length = l.length := by rw [hI]; simp [toL_length]; omega
      refine .inl ⟨(toL l).take (i + 1) ++ List.replicate (l.length - (i + 1)) z30, rfl, fun h => evNext (fun k => ?_) h⟩
      show laws_toMessageS.l0 (k + 1) l s (i : Int) = laws_toMessageS.l0 k l _ (i + 1 : Nat)
      simp only [laws_toMessageS.l0, laws_toMessage.f, Option.bind_some]
      rw [if_pos (by omega), if_pos (by omega), if_pos (by omega), w64 (by omega) (by omega), rdL_at l i hi]
      congr 1
      subst hI
      rw [Int.toNat_natCast]
      have htl := toL_length l
      apply List.ext_getElem
      · simp [toL_length]; omega
      · intro j h1 h2
        rw [List.getElem_set]
        by_cases e : i = j
        · subst e
          rw [if_pos rfl, List.getElem_append_left (by simp [toL_length]; omega)]
          simp [toL]
        · rw [if_neg e]
          by_cases hj : j < i
          · rw [List.getElem_append_left (by simp [toL_length]; omega), List.getElem_append_left (by simp [toL_length]; omega)]
            simp
          · rw [List.getElem_append_right (by simp [toL_length]; omega), List.getElem_append_right (by simp [toL_length]; omega)]
            simp)
    (by
      intro s hI
      refine evEnd fun k => ?_
      show laws_toMessageS.l0 (k + 1) l s (l.length : Int) = some (toL l)
      simp only [laws_toMessageS.l0]
      rw [if_neg (by omega), hI, List.take_of_length_le (by rw [toL_length]; exact Nat.le_refl _)]
      simp) 0 (List.replicate l.length z30) (by omega) (by simp)
  refine Ev.congr (fun k => ?_) key
  unfold laws_toMessageS.f
  rw [if_pos (by omega), if_pos (by omega), Int.toNat_natCast]
  rfl
theorem eqOne (x : S30) : laws_eqMessage.f x.f0 x.f1 x.f2 x.f0 x.f1 x.f2 = some true := by simp [laws_eqMessage.f]
theorem eqS_ev (l : List S30) (hn : l.length ≤ 1048576) : Ev (fun k => laws_eqMessageS.f k l l) true := by
  have key := evUp0 l.length (fun k (_ : Unit) (i : Nat) => laws_eqMessageS.l0 k l l (i : Int)) (fun _ _ => True) true () trivial
    (by
      intro i s hi _
      refine .inl ⟨(), trivial, fun h => evNext (fun k => ?_) h⟩
      show laws_eqMessageS.l0 (k + 1) l l (i : Int) = laws_eqMessageS.l0 k l l (i + 1 : Nat)
      simp only [laws_eqMessageS.l0]
      rw [if_pos (by omega), if_pos (by omega), if_pos (by omega), eqOne, w64 (by omega) (by omega)]
      simp only [Option.bind_some, if_true]
      rfl)
    (by
      intro s _
      refine evEnd fun k => ?_
      show laws_eqMessageS.l0 (k + 1) l l (l.length : Int) = _
      simp only [laws_eqMessageS.l0]
      rw [if_neg (by omega)])
  refine Ev.congr (fun k => ?_) key
  unfold laws_eqMessageS.f
  rw [if_pos rfl]
  rfl
end Go.Proofs.Ytgkbeejkbhhjkaa.X

/- Plain lemmas: a number between two others. -/
namespace Go.Proofs.Ytgkbeejkbhhjkaa.X
set_option linter.unusedSimpArgs false
set_option linter.unusedVariables false
open Go.RowKit Go.Proofs.YtgkbeejkbhhjkaaW.PrintWords
theorem l1In_eq (n lo hi : Int) : spec_l1In.f n lo hi = some (inB lo hi n) := by
  unfold spec_l1In.f inB
  by_cases h : lo ≤ n
  · rw [if_pos (by omega), decide_eq_true h]; simp
  · rw [if_neg (by omega), decide_eq_false h]; simp
theorem within_eq (n lo hi : Int) : impl_within.f n lo hi = some (inB lo hi n) := by
  unfold impl_within.f inB
  by_cases h : lo ≤ n
  · rw [if_pos (by omega), decide_eq_true h]; simp
  · rw [if_neg (by omega), decide_eq_false h]; simp
theorem allWithin_eq (l : List Int) (lo hi : Int) : impl_allWithin.f l lo hi = some (l.all (inB lo hi)) := rfl
theorem inB_iff {lo hi n : Int} : inB lo hi n = true ↔ lo ≤ n ∧ n ≤ hi := by simp [inB]
end Go.Proofs.Ytgkbeejkbhhjkaa.X

/- Plain lemmas: messages on a slotted ring. -/
namespace Go.Proofs.Ytgkbeejkbhhjkaa.X
set_option linter.unusedSimpArgs false
set_option linter.unusedVariables false
open Go.RowKit Go.Proofs.YtgkbeejkbhhjkaaW.PrintWords
def okMsg (n : Int) (x : S30) : Bool := inB 0 100 x.f0 && (inB 0 (n - 1) x.f1 && (inB 0 (n - 1) x.f2 && (x.f1 != x.f2)))
def msgAt (n : Int) (l : List S30) (i : Nat) : Bool := okMsg n (rd_T30 l (i : Int)) && (decide (i = 0) || decide ((rd_T30 l ((i : Int) - 1)).f0 ≤ (rd_T30 l (i : Int)).f0))
def msgsTo (n : Int) (l : List S30) : Nat → Bool
  | 0 => true
  | m + 1 => msgsTo n l m && msgAt n l m
def areMsgs (n : Int) (l : List S30) : Bool := decide (l.length ≤ 20) && msgsTo n l l.length
def isSl (n : Int) (l : List S30) : Bool := inB 2 12 n && areMsgs n l
theorem msgsTo_false (n : Int) (l : List S30) (j : Nat) (h : msgAt n l j = false) : ∀ m, j < m → msgsTo n l m = false
  | 0, hm => by omega
  | m + 1, hm => by
    by_cases e : j = m
    · subst e
      simp [msgsTo, h]
    · simp [msgsTo, msgsTo_false n l j h m (by omega)]
theorem msgsTo_at {n : Int} {l : List S30} (m : Nat) (h : msgsTo n l m = true) (i : Nat) (hi : i < m) : msgAt n l i = true := by
  cases hj : msgAt n l i with
  | true => rfl
  | false =>
    have := msgsTo_false n l i hj m hi
    rw [this] at h
    cases h
theorem slGood_eq (n : Int) (b : Bool) : spec_slGood.f n b = some (inB 2 12 n) := by simp [spec_slGood.f, l1In_eq]
theorem isSlotRing_eq (n : Int) (b : Bool) : impl_IsSlotRing.f n b = some (inB 2 12 n) := by simp [impl_IsSlotRing.f, impl_isRingSize.f, within_eq]
theorem slMessage_eq (n : Int) (b : Bool) (hn : 2 ≤ n ∧ n ≤ 12) (x : S30) : spec_slMessage.f n b x.f0 x.f1 x.f2 = some (okMsg n x) := by
  unfold spec_slMessage.f okMsg
  simp only [l1In_eq, Option.bind_some]
  rw [w64 (by omega) (by omega)]
  cases inB 0 100 x.f0 <;> cases inB 0 (n - 1) x.f1 <;> cases inB 0 (n - 1) x.f2 <;> simp
theorem specMsgs_step (n : Int) (b : Bool) (hn : 2 ≤ n ∧ n ≤ 12) (l : List S30) (i : Nat) (hi : i < l.length) (hl : l.length ≤ 1048576) (k : Nat) :
    spec_slAll.l0 (k + 1) l l (l.length : Int) (i : Int) n b = if msgAt n l i = true then spec_slAll.l0 k l l (l.length : Int) ((i + 1 : Nat) : Int) n b else some false := by
  rw [spec_slAll.l0.eq_2]
  rw [if_pos (by omega), if_pos (by omega), if_pos (by omega)]
  simp only [slMessage_eq n b hn, Option.bind_some]
  unfold msgAt
  rw [w64 (x := (i : Int) + 1) (by omega) (by omega)]
  cases okMsg n (rd_T30 l (i : Int)) <;> simp
  by_cases h0 : i = 0
  · subst h0
    simp
  · rw [if_pos (by omega), w64 (by omega) (by omega), if_pos (by omega), if_pos (by omega)]
    by_cases hc : (rd_T30 l ((i : Int) - 1)).f0 ≤ (rd_T30 l (i : Int)).f0
    · rw [if_neg (by omega), if_pos (.inr hc)]
    · rw [if_pos (by omega), if_neg (by omega)]
theorem implMsgs_step (n : Int) (hn : 2 ≤ n ∧ n ≤ 12) (l : List S30) (i : Nat) (hi : i < l.length) (hl : l.length ≤ 1048576) (k : Nat) :
    impl_areMessages.l0 (k + 1) n l l (l.length : Int) (i : Int) = if msgAt n l i = true then impl_areMessages.l0 k n l l (l.length : Int) ((i + 1 : Nat) : Int) else some false := by
  simp only [impl_areMessages.l0]
  rw [if_pos (by omega), if_pos (by omega), if_pos (by omega)]
  simp only [within_eq, allWithin_eq, Option.bind_some, List.all_cons, List.all_nil, Bool.and_true]
  unfold msgAt okMsg
  rw [w64 (x := (i : Int) + 1) (by omega) (by omega), w64 (x := n - 1) (by omega) (by omega)]
  cases inB 0 100 (rd_T30 l (i : Int)).f0 <;> cases inB 0 (n - 1) (rd_T30 l (i : Int)).f1 <;> cases inB 0 (n - 1) (rd_T30 l (i : Int)).f2 <;> simp
  by_cases he : (rd_T30 l (i : Int)).f1 = (rd_T30 l (i : Int)).f2
  · simp [he]
  · rw [if_neg he]
    by_cases h0 : i = 0
    · subst h0
      rw [if_neg (by omega), if_pos ⟨he, .inl rfl⟩]
    · rw [if_pos (by omega), w64 (by omega) (by omega), if_pos (by omega), if_pos (by omega)]
      by_cases hc : (rd_T30 l ((i : Int) - 1)).f0 ≤ (rd_T30 l (i : Int)).f0
      · rw [if_neg (by omega), if_pos ⟨he, .inr hc⟩]
      · rw [if_pos (by omega), if_neg (by omega)]
theorem specMsgs_ev (n : Int) (b : Bool) (l : List S30) (hl : l.length ≤ 1048576) : Ev (fun k => spec_slAll.f k n b l) (isSl n l) := by
  unfold isSl
  cases hg : inB 2 12 n with
  | false =>
    refine ⟨9, fun k hk => ?_⟩
    obtain ⟨m, rfl⟩ : ∃ m, k = m + 9 := ⟨k - 9, by omega⟩
    simp [spec_slAll.f, slGood_eq, hg, spec_slAll.j0]
  | true =>
    have hn := inB_iff.1 hg
    unfold areMsgs
    by_cases hc : l.length ≤ 20
    · rw [decide_eq_true hc, Bool.true_and, Bool.true_and]
      have key := evUp0 l.length (fun k (_ : Unit) (i : Nat) => spec_slAll.l0 k l l (l.length : Int) (i : Int) n b) (fun i _ => msgsTo n l i = true) (msgsTo n l l.length) () rfl
        (by
          intro i s hi hI
          cases hj : msgAt n l i with
          | true => exact .inl ⟨(), by simp [msgsTo, hI, hj], fun h => evNext (fun k => by rw [specMsgs_step n b hn l i hi hl k, if_pos hj]) h⟩
          | false => exact .inr (evEnd fun k => by rw [specMsgs_step n b hn l i hi hl k, hj, msgsTo_false n l i hj l.length hi]; simp))
        (by
          intro s hI
          refine evEnd fun k => ?_
          show spec_slAll.l0 (k + 1) l l (l.length : Int) (l.length : Int) n b = _
          rw [spec_slAll.l0.eq_2, if_neg (by omega), hI])
      refine Ev.step (f := fun k => spec_slAll.l0 k l l (l.length : Int) 0 n b) (g := fun k => spec_slAll.f k n b l) (fun k => ?_) key
      show spec_slAll.f (k + 1) n b l = _
      unfold spec_slAll.f
      rw [slGood_eq, hg]
      simp only [Option.bind_some, if_true]
      rw [spec_slAll.j0.eq_2, decide_eq_false (by omega)]
      simp
    · refine ⟨9, fun k hk => ?_⟩
      obtain ⟨m, rfl⟩ : ∃ m, k = m + 9 := ⟨k - 9, by omega⟩
      have hd : decide ((l.length : Int) > 20) = true := decide_eq_true (by omega)
      show spec_slAll.f (m + 9) n b l = _
      unfold spec_slAll.f
      rw [slGood_eq, hg]
      simp only [Option.bind_some, if_true]
      rw [spec_slAll.j0.eq_2, hd, decide_eq_false hc]
      simp
theorem implMsgs_ev (n : Int) (hn : 2 ≤ n ∧ n ≤ 12) (l : List S30) (hl : l.length ≤ 1048576) : Ev (fun k => impl_areMessages.f k n l) (areMsgs n l) := by
  have key := evUp0 l.length (fun k (_ : Unit) (i : Nat) => impl_areMessages.l0 k n l l (l.length : Int) (i : Int)) (fun i _ => msgsTo n l i = true) (areMsgs n l) () rfl
    (by
      intro i s hi hI
      cases hj : msgAt n l i with
      | true => exact .inl ⟨(), by simp [msgsTo, hI, hj], fun h => evNext (fun k => by rw [implMsgs_step n hn l i hi hl k, if_pos hj]) h⟩
      | false => exact .inr (evEnd fun k => by rw [implMsgs_step n hn l i hi hl k, hj]; simp [areMsgs, msgsTo_false n l i hj l.length hi]))
    (by
      intro s hI
      refine evEnd fun k => ?_
      show impl_areMessages.l0 (k + 1) n l l (l.length : Int) (l.length : Int) = _
      simp only [impl_areMessages.l0]
      rw [if_neg (by omega)]
      unfold areMsgs
      rw [hI, Bool.and_true]
      congr 1
      by_cases h : l.length ≤ 20
      · rw [decide_eq_true h, decide_eq_true (by omega)]
      · rw [decide_eq_false h, decide_eq_false (by omega)])
  exact key
theorem implSlotted_ev (n : Int) (b : Bool) (l : List S30) (hl : l.length ≤ 1048576) : Ev (fun k => impl_isSlotted.f k n b l) (isSl n l) := by
  unfold isSl
  cases hg : inB 2 12 n with
  | false =>
    refine Ev.congr (f := fun _ => some false) (fun k => ?_) (Ev.now _)
    simp [impl_isSlotted.f, isSlotRing_eq, hg]
  | true =>
    obtain ⟨K, e⟩ := implMsgs_ev n (inB_iff.1 hg) l hl
    dsimp only at e
    refine ⟨K, fun k hk => ?_⟩
    simp (disch := omega) only [impl_isSlotted.f, isSlotRing_eq, hg, e, Option.bind_some, if_true, Bool.true_and]
/-- What is known of messages. -/
theorem isSl_at {n : Int} {l : List S30} (h : isSl n l = true) : (2 ≤ n ∧ n ≤ 12) ∧ l.length ≤ 20 ∧ ∀ i : Nat, i < l.length → 0 ≤ (rd_T30 l (i : Int)).f0 ∧ (rd_T30 l (i : Int)).f0 ≤ 100 ∧ 0 ≤ (rd_T30 l (i : Int)).f1 ∧ (rd_T30 l (i : Int)).f1 ≤ n - 1 ∧ 0 ≤ (rd_T30 l (i : Int)).f2 ∧ (rd_T30 l (i : Int)).f2 ≤ n - 1 ∧ (rd_T30 l (i : Int)).f1 ≠ (rd_T30 l (i : Int)).f2 := by
  unfold isSl areMsgs at h
  simp only [Bool.and_eq_true, decide_eq_true_eq] at h
  refine ⟨inB_iff.1 h.1, h.2.1, fun i hi => ?_⟩
  have := msgsTo_at l.length h.2.2 i hi
  unfold msgAt okMsg at this
  simp only [Bool.and_eq_true, bne_iff_ne] at this
  have h1 := inB_iff.1 this.1.1
  have h2 := inB_iff.1 this.1.2.1
  have h3 := inB_iff.1 this.1.2.2.1
  exact ⟨h1.1, h1.2, h2.1, h2.2, h3.1, h3.2, this.1.2.2.2⟩
end Go.Proofs.Ytgkbeejkbhhjkaa.X

/- Plain lemmas of slot rings: all messages are read in time. -/
namespace Go.Proofs.Ytgkbeejkbhhjkaa.X
set_option linter.unusedSimpArgs false
set_option linter.unusedVariables false
open Go.RowKit Go.Proofs.YtgkbeejkbhhjkaaW.PrintWords
/-- Which tick slot q comes to next. -/
def nxTick (t k q : Nat) : Nat := if q < k then t + 1 else t
def LvSlot (J : List S30) (fah : Bool) (n : Nat) (fi re : List Int) (q tq : Nat) (v : Int) : Prop :=
  0 < v → ∃ u : Nat, rd fi (v - 1) = (u : Int) ∧ u < tq ∧ tq ≤ u + n ∧ (((q + u) % n : Nat) : Int) = (rd_T30 J (v - 1)).f1 ∧ (rd re (v - 1) < 0 → ∀ w : Nat, u < w → w < tq → (((q + w) % n : Nat) : Int) ≠ (rd_T30 J (v - 1)).f2) ∧ (fah = false → rd re (v - 1) < 0)
/-- What is known in the midst of tick t, the slots ahead of k seen to. -/
structure LvInv (J : List S30) (fah : Bool) (n : Nat) (s : SlSt) (t k : Nat) : Prop where
  inv : SlInv n J.length s
  slot : ∀ q : Nat, q < n → LvSlot J fah n s.2.1 s.2.2 q (nxTick t k q) (rd s.1 (q : Int))
  un : ∀ j : Nat, j < J.length → rd s.2.1 (j : Int) < 0 → rd s.2.2 (j : Int) < 0
  lies : ∀ j : Nat, j < J.length → 0 ≤ rd s.2.1 (j : Int) → rd s.2.2 (j : Int) < 0 → ∃ q : Nat, q < n ∧ rd s.1 (q : Int) = (j : Int) + 1
  bound : ∀ j : Nat, j < J.length → rd s.2.1 (j : Int) < (t : Int) + (if k = 0 then 0 else 1)
  low : ∀ j : Nat, j < J.length → -1 ≤ rd s.2.2 (j : Int)
/-- How many messages have not been filled in. -/
def slCnt (l : List Int) : Nat := l.countP (fun x => decide (x < 0))
/-- The ticks of filling stay as they are, or one message less waits; what has been told stays told. -/
def FM (t : Nat) (l l' : List Int) : Prop := l'.length = l.length ∧ (l' = l ∨ slCnt l' < slCnt l) ∧ (∀ j : Nat, j < l.length → 0 ≤ rd l (j : Int) → rd l' (j : Int) = rd l (j : Int)) ∧ ∀ j : Nat, j < l.length → rd l (j : Int) < 0 → rd l' (j : Int) < 0 ∨ (t : Int) ≤ rd l' (j : Int)
theorem FM.refl (t : Nat) (l : List Int) : FM t l l := ⟨rfl, .inl rfl, fun _ _ _ => rfl, fun _ _ h => .inl h⟩
theorem FM.trans {t t' : Nat} (ht : t ≤ t') {a b c : List Int} (h : FM t a b) (k : FM t' b c) : FM t a c := by
  obtain ⟨h1, h2, h3, h4⟩ := h
  obtain ⟨k1, k2, k3, k4⟩ := k
  refine ⟨k1.trans h1, ?_, fun j hj hp => ?_, fun j hj hn => ?_⟩
  · rcases k2 with rfl | k2
    · exact h2
    · rcases h2 with rfl | h2
      · exact .inr k2
      · exact .inr (by omega)
  · have e := h3 j hj hp
    rw [k3 j (by omega) (by omega)]
    exact e
  · rcases h4 j hj hn with q | q
    · rcases k4 j (by omega) q with p | p
      · exact .inl p
      · exact .inr (by omega)
    · rw [k3 j (by omega) (by omega)]
      exact .inr q
end Go.Proofs.Ytgkbeejkbhhjkaa.X

/- Plain lemmas: whether a number is among others. -/
namespace Go.Proofs.Ytgkbeejkbhhjkaa.X
set_option linter.unusedSimpArgs false
set_option linter.unusedVariables false
open Go.RowKit Go.Proofs.YtgkbeejkbhhjkaaW.PrintWords
theorem index_ev (l : List Int) (n : Int) (hl : l.length ≤ 9223372036854775806) : ∃ r : Int, Ev (fun k => slices_Index_int_int.f k l n) r ∧ decide (r ≥ 0) = l.contains n := by
  cases hc : l.contains n with
  | false =>
    refine ⟨-1, ?_, rfl⟩
    have key := evUp0 l.length (fun k (_ : Unit) (i : Nat) => slices_Index_int_int.l0 k l n (l.length : Int) (i : Int)) (fun _ _ => True) (-1) () trivial
      (by
        intro i s hi _
        refine .inl ⟨(), trivial, fun h => evNext (fun k => ?_) h⟩
        show slices_Index_int_int.l0 (k + 1) l n (l.length : Int) (i : Int) = slices_Index_int_int.l0 k l n (l.length : Int) (i + 1 : Nat)
        have hne : ¬ n = l[i] := by
          intro e
          have : l.contains n = true := by rw [e]; simp
          rw [this] at hc
          cases hc
        simp only [slices_Index_int_int.l0]
        rw [if_pos (by omega), if_pos (by omega), if_pos (by omega), rd_at l i hi, if_neg hne, w64 (by omega) (by omega)]
        rfl)
      (by
        intro s _
        refine evEnd fun k => ?_
        show slices_Index_int_int.l0 (k + 1) l n (l.length : Int) (l.length : Int) = _
        simp only [slices_Index_int_int.l0]
        rw [if_neg (by omega)])
    exact key
  | true =>
    have hex : ∃ i : Nat, ∃ h : i < l.length, n = l[i] ∧ ∀ j (hj : j < i), ¬ n = l[j] := by
      clear hl
      induction l with
      | nil => simp at hc
      | cons x xs ih =>
        by_cases e : n = x
        · exact ⟨0, by simp, by simpa using e, fun j hj => absurd hj (by omega)⟩
        · have : xs.contains n = true := by
            rw [List.contains_cons] at hc
            have : (n == x) = false := by simpa using e
            rw [this] at hc
            simpa using hc
          obtain ⟨i, h, h1, h2⟩ := ih this
          refine ⟨i + 1, by simp; omega, by simpa using h1, fun j hj => ?_⟩
          cases j with
          | zero => simpa using e
          | succ j => simpa using h2 j (by omega)
    obtain ⟨m, hm, h1, h2⟩ := hex
    refine ⟨(m : Int), ?_, by simp⟩
    have key := evUp m (fun k (_ : Unit) (i : Nat) => slices_Index_int_int.l0 k l n (l.length : Int) (i : Int)) (fun _ _ => True) (m : Int)
      (by
        intro i s hi _
        refine .inl ⟨(), trivial, fun h => evNext (fun k => ?_) h⟩
        show slices_Index_int_int.l0 (k + 1) l n (l.length : Int) (i : Int) = slices_Index_int_int.l0 k l n (l.length : Int) (i + 1 : Nat)
        simp only [slices_Index_int_int.l0]
        rw [if_pos (by omega), if_pos (by omega), if_pos (by omega), rd_at l i (by omega), if_neg (h2 i hi), w64 (by omega) (by omega)]
        rfl)
      (by
        intro s _
        refine evEnd fun k => ?_
        show slices_Index_int_int.l0 (k + 1) l n (l.length : Int) (m : Int) = _
        simp only [slices_Index_int_int.l0]
        rw [if_pos (by omega), if_pos (by omega), if_pos (by omega), rd_at l m hm, if_pos h1]) 0 () (by omega) trivial
    exact key
theorem contains_ev (l : List Int) (n : Int) (hl : l.length ≤ 9223372036854775806) : Ev (fun k => slices_Contains_int_int.f k l n) (l.contains n) := by
  obtain ⟨r, h1, h2⟩ := index_ev l n hl
  exact evEq (Ev.bind h1 (Ev.now _)) h2
end Go.Proofs.Ytgkbeejkbhhjkaa.X

/- Slot rings: the program and the reference come to the same. -/
namespace Go.Proofs.Ytgkbeejkbhhjkaa.X
set_option linter.unusedSimpArgs false
set_option linter.unusedVariables false
open Go.RowKit Go.Proofs.YtgkbeejkbhhjkaaW.PrintWords
theorem l1Has_ev (l : List Int) (n : Int) (hl : l.length ≤ 9223372036854775806) : Ev (fun k => spec_l1Has.f k l n) (l.contains n) := by
  have key := evUp0 l.length (fun k (_ : Unit) (i : Nat) => spec_l1Has.l0 k n l (l.length : Int) (i : Int)) (fun i _ => (l.drop i).contains n = l.contains n) (l.contains n) () rfl
    (by
      intro i s hi hI
      rw [List.drop_eq_getElem_cons hi, List.contains_cons] at hI
      by_cases e : l[i] = n
      · refine .inr (evEnd fun k => ?_)
        show spec_l1Has.l0 (k + 1) n l (l.length : Int) (i : Int) = _
        simp only [spec_l1Has.l0]
        rw [if_pos (by omega), if_pos (by omega), if_pos (by omega), rd_at l i hi, if_pos e, ← hI, e]
        simp
      · refine .inl ⟨(), ?_, fun h => evNext (fun k => ?_) h⟩
        · have : (n == l[i]) = false := by simpa using fun h => e h.symm
          rw [this, Bool.false_or] at hI
          exact hI
        · show spec_l1Has.l0 (k + 1) n l (l.length : Int) (i : Int) = spec_l1Has.l0 k n l (l.length : Int) (i + 1 : Nat)
          simp only [spec_l1Has.l0]
          rw [if_pos (by omega), if_pos (by omega), if_pos (by omega), rd_at l i hi, if_neg e, w64 (by omega) (by omega)]
          rfl)
    (by
      intro s hI
      rw [List.drop_length] at hI
      refine evEnd fun k => ?_
      show spec_l1Has.l0 (k + 1) n l (l.length : Int) (l.length : Int) = _
      simp only [spec_l1Has.l0]
      rw [if_neg (by omega), ← hI]
      simp)
  exact key
abbrev MSG := S30
theorem isTick_eq (t : Int) : impl_isSlotTick.f t = some (inB 0 400 t) := by simp [impl_isSlotTick.f, within_eq]
/-- How many of the first ticks have full slots. -/
def fullCnt (J : List MSG) (b : Bool) (n : Nat) : Nat → Int
  | 0 => 0
  | t + 1 => if (slRunTo J b n (t + 1)).1.contains 0 = true then fullCnt J b n t else wrap64 (fullCnt J b n t + 1)
theorem full_spec (J : List MSG) (b : Bool) (n T : Nat) (hn : n ≤ 100) : ∀ d t, t + d = T → Ev (fun k => spec_FullTicks.l0 J b n T k t (fullCnt J b n t)) (fullCnt J b n T)
  | 0, t, h => by
    obtain rfl : t = T := by omega
    exact evEnd fun k => by rw [spec_FullTicks.l0, if_neg (by omega)]
  | d + 1, t, h => evCall (l1Has_ev (slRunTo J b n (t + 1)).1 0 (by have := (slRunTo_inv J b n (t + 1)).1; omega)) (fun k hk => by
      rw [spec_FullTicks.l0, if_pos (by omega), hk]
      simp only [Option.bind_some]
      rw [fullCnt]) (full_spec J b n T hn d (t + 1) (by omega))
theorem full_impl (J : List MSG) (b : Bool) (n T : Nat) (h0 : 0 < n) (hn : n ≤ 100) : ∀ d t, t + d = T → Ev (fun k => impl_FullTicks.l0 J b n T k t (fullCnt J b n t)) (fullCnt J b n T)
  | 0, t, h => by
    obtain rfl : t = T := by omega
    exact evEnd fun k => by rw [impl_FullTicks.l0, if_neg (by omega)]
  | d + 1, t, h => evCall (contains_ev (slRunTo J b n (t + 1)).1 0 (by have := (slRunTo_inv J b n (t + 1)).1; omega)) (fun k hk => by
      rw [impl_FullTicks.l0, if_pos (by omega), run_same J b n h0 (t + 1), hk]
      simp only [Option.bind_some]
      rw [fullCnt]) (full_impl J b n T h0 hn d (t + 1) (by omega))
theorem FullTicks_same (n : Int) (b : Bool) (L : List S25) (t : Int) (h : (Lit.int .i64 n).wf = true ∧ L.length ≤ maxLen ∧ (∀ x ∈ L, (Lit.int .i64 x.f0).wf = true ∧ (Lit.int .i64 x.f1).wf = true ∧ (Lit.int .i64 x.f2).wf = true) ∧ (Lit.int .i64 t).wf = true ∧ L.length ≤ 1048576) :
    ∃ v, Ev (fun k => spec_FullTicks.f k n b (toL L) t) v ∧ Ev (fun k => impl_FullTicks.f k n b (toL L) t) v := by
  have htl := toL_length L
  generalize toL L = J at htl ⊢
  obtain ⟨K1, e1⟩ := specMsgs_ev n b J (by omega)
  obtain ⟨K2, e2⟩ := implSlotted_ev n b J (by omega)
  dsimp only at e1 e2
  cases hs : isSl n J with
  | false =>
    rw [hs] at e1 e2
    exact ⟨(0, false), ⟨K1, fun k hk => by simp (disch := omega) [spec_FullTicks.f, e1]⟩, ⟨K2, fun k hk => by simp (disch := omega) [impl_FullTicks.f, e2]⟩⟩
  | true =>
    rw [hs] at e1 e2
    cases hb : inB 0 400 t with
    | false => exact ⟨(0, false), ⟨K1, fun k hk => by simp (disch := omega) [spec_FullTicks.f, e1, l1In_eq, hb]⟩, ⟨K2, fun k hk => by simp (disch := omega) [impl_FullTicks.f, e2, isTick_eq, hb]⟩⟩
    | true =>
      have ht := inB_iff.1 hb
      obtain ⟨hn, hl, ha⟩ := isSl_at hs
      obtain ⟨n, rfl⟩ : ∃ m : Nat, n = (m : Int) := ⟨n.toNat, by omega⟩
      obtain ⟨K3, e3⟩ := full_spec J b n t.toNat (by omega) t.toNat 0 (by omega)
      obtain ⟨K4, e4⟩ := full_impl J b n t.toNat (by omega) (by omega) t.toNat 0 (by omega)
      dsimp only at e3 e4
      rw [show fullCnt J b n 0 = 0 from rfl] at e3 e4
      refine ⟨(fullCnt J b n t.toNat, true), ⟨K1 + K3, fun k hk => ?_⟩, ⟨K2 + K4, fun k hk => ?_⟩⟩
      · dsimp only
        unfold spec_FullTicks.f
        rw [e1 k (by omega), l1In_eq, hb]
        simp only [Option.bind_some, if_true]
        rw [if_pos ⟨by omega, by omega, hl, by omega, by omega⟩, Int.toNat_natCast, e3 k (by omega)]
        rfl
      · dsimp only
        unfold impl_FullTicks.f
        rw [e2 k (by omega), isTick_eq, hb]
        simp only [Option.bind_some, if_true]
        rw [if_pos ⟨by omega, by omega, hl, by omega, by omega⟩, Int.toNat_natCast, e4 k (by omega)]
        rfl
end Go.Proofs.Ytgkbeejkbhhjkaa.X

/- FullTicks answers as the reference does, for every input: the pure statement. -/
namespace Go.Proofs.Ytgkbeejkbhhjkaa.Pure
set_option linter.unusedSimpArgs false
set_option linter.unusedVariables false
set_option linter.unusedSimpArgs false
open Go.RowKit Go.Proofs.Ytgkbeejkbhhjkaa.X Go.Proofs.YtgkbeejkbhhjkaaW.PrintWords Go.Proofs.YtgkbeejkbhhjkaaW.PrintLast
set_option maxHeartbeats 1000000 in
theorem FnExactFullTicks : ∀ (a0_0 : Int) (a0_1 : Bool) (l1 : List S25) (a2 : Int), (Lit.int .i64 a0_0).wf = true → l1.length ≤ maxLen → (∀ x ∈ l1, (Lit.int .i64 x.f0).wf = true ∧ (Lit.int .i64 x.f1).wf = true ∧ (Lit.int .i64 x.f2).wf = true) → (Lit.int .i64 a2).wf = true → ∃ k, laws_FnExactFullTicks.f k a0_0 a0_1 l1 a2 = some true := by
  intro a0_0 a0_1 l1 a2 h0_ h1_ h2_ h3_
  by_cases hs : 1048576 < l1.length
  · exact ⟨9, by simp [laws_FnExactFullTicks.f, sz_big l1 (by omega) (by unfold maxLen at *; omega)]⟩
  have hm : l1.length ≤ 1048576 := by omega
  obtain ⟨v, hS, hI⟩ := FullTicks_same a0_0 a0_1 l1 a2 (by first | exact ⟨h0_, h1_, h2_, h3_, hm⟩ | trivial)
  obtain ⟨K1, e1⟩ := hS
  obtain ⟨K2, e2⟩ := hI
  have htl_l1 := toL_length l1
  have es_l1 := sz_small l1 (by omega)
  have ns_l1 : ¬ (1048576 - (l1.length : Int) < 0) := by omega
  obtain ⟨K3, e3⟩ := toS_ev l1 (by omega)
  -- structs
  obtain ⟨K4, e4⟩ := eqS_ev (toL l1) (by rw [toL_length]; omega)
  dsimp only at e1 e2 e3 e4
  refine ⟨K1 + K2 + K3 + K4 + 9, ?_⟩
  simp (disch := omega) only [laws_FnExactFullTicks.f, laws_toSlotRing.f, e1, e2, e3, e4, es_l1, ns_l1, Option.bind_some, eq_self, decide_true, bne_self_eq_false, Bool.false_eq_true, Bool.not_true, Bool.not_false, ↓reduceIte]
  all_goals (try rw [laws_FnExactFullTicks.j0.eq_2])
  all_goals (try simp (disch := omega) only [laws_FnExactFullTicks.f, laws_toSlotRing.f, e1, e2, e3, e4, es_l1, ns_l1, Option.bind_some, eq_self, decide_true, bne_self_eq_false, Bool.false_eq_true, Bool.not_true, Bool.not_false, ↓reduceIte])
end Go.Proofs.Ytgkbeejkbhhjkaa.Pure

/- Plain lemmas for the rows: a slice of structs of three whole numbers that came in, opened to cells. -/
namespace Go.Proofs.Ytgkbeejkbhhjkaa.Rw
open Go.ChangeShapes Go.WideShapes Go.Deep Go.RowKit
section
variable {H : Type} {enc : TypeId × Value → H} {P : Program} {w : World} {base : Nat} {spare : Nat → Bool} {held : Bool}
theorem trod_int_mk {t : TypeId} {k : IntKind} {n : Int} (h : P.underlying t = some (.int k)) (hw : (Lit.int k n).wf = true) : ∃ m, DataW.trod enc P w base spare held m t [.int k n] = some (.lit (.int k n), []) := ⟨1, by simp [DataW.trod, h, hw]⟩
theorem trod_bool_mk {t : TypeId} {b : Bool} (h : P.underlying t = some .bool) : ∃ m, DataW.trod enc P w base spare held m t [.bool b] = some (.lit (.bool b), []) := ⟨1, by simp [DataW.trod, h]⟩
def numAt (w : World) (a : Addr) : Int := match w.cell? a with
  | some (.int _ n) => n
  | _ => 0
theorem open_rows3 {t e : TypeId} {f0 f1 f2 : Field} {fuel : Nat} {A : Option Addr} {len cap : Nat} {x : DataW H × List MemPlace} (ht : P.underlying t = some (.slice e)) (he : P.underlying e = some (.struct #[f0, f1, f2]))
    (hone : oneCellFields P #[f0, f1, f2] = true) (hC : P.cellsOf e = 3) (h0 : P.underlying f0.type = some (.int .i64)) (h1 : P.underlying f1.type = some (.int .i64)) (h2 : P.underlying f2.type = some (.int .i64))
    (h : DataW.trod enc P w base spare held fuel t [.slice A len cap] = some x) :
    len ≤ cap ∧ len ≤ 9223372036854775807 ∧ ∃ l : List (Int × Int × Int), l.length = len ∧ (∀ p ∈ l, (Lit.int .i64 p.1).wf = true ∧ (Lit.int .i64 p.2.1).wf = true ∧ (Lit.int .i64 p.2.2).wf = true) ∧
      (0 < len → ∃ ad, A = some ad ∧ ∀ j p, l[j]? = some p → w.cell? (ad.add (j * 3 + 0)) = some (.int .i64 p.1) ∧ w.cell? (ad.add (j * 3 + 1)) = some (.int .i64 p.2.1) ∧ w.cell? (ad.add (j * 3 + 2)) = some (.int .i64 p.2.2)) := by
  rcases open_slice ht h with ⟨hcs, _⟩ | ⟨a, len', cap', m, n, D, Pl, hcs, hb, hl, hm, hmm, hx, hi⟩
  · injection hcs with hcs
    injection hcs with ha hl hc
    subst ha hl hc
    exact ⟨Nat.le_refl _, by omega, [], rfl, by simp, fun h => absurd h (by omega)⟩
  · injection hcs with hcs
    injection hcs with ha hl' hc'
    subst ha hl' hc'
    have hml : len ≤ m := by rw [hmm]; split <;> omega
    have key : ∀ i, i < len → ∃ n0 n1 n2 : Int, w.cell? (a.add (i * 3 + 0)) = some (.int .i64 n0) ∧ w.cell? (a.add (i * 3 + 1)) = some (.int .i64 n1) ∧ w.cell? (a.add (i * 3 + 2)) = some (.int .i64 n2) ∧
        (Lit.int .i64 n0).wf = true ∧ (Lit.int .i64 n1).wf = true ∧ (Lit.int .i64 n2).wf = true := by
      intro i hil
      obtain ⟨cs', hc, ht'⟩ := hi i (by omega)
      rw [hC] at hc
      obtain ⟨ys, n', hn', hy, hlen, hyl, hf⟩ := DataW.trod_struct he ht'
      obtain ⟨_, hcl, hat⟩ := World.cells?_some hc
      have one : ∀ (j : Nat) (f : Field), j < 3 → (#[f0, f1, f2] : Array Field)[j]? = some f → P.underlying f.type = some (.int .i64) → ∃ n0 : Int, w.cell? (a.add (i * 3 + j)) = some (.int .i64 n0) ∧ (Lit.int .i64 n0).wf = true := by
        intro j f hj3 hj hu
        obtain ⟨ho, hk⟩ := hone_of hone j f hj
        have hcell := hat j hj3
        have hv : cs'[j]? = some (cs'[j]'(by omega)) := List.getElem?_eq_getElem (by omega)
        have g1 := hf j f hj
        rw [ho, hk] at g1
        have hone' : (cs'.drop j).take 1 = [cs'[j]'(by omega)] := by
          rw [List.drop_eq_getElem_cons (by omega)]
          rfl
        rw [hone'] at g1
        have hys : ys[j]? = some (ys[j]'(by simp at hyl; omega)) := List.getElem?_eq_getElem (by simp at hyl; omega)
        obtain ⟨n0, e0, _, wf0⟩ := DataW.trod_int hu (g1.trans hys)
        refine ⟨n0, ?_, wf0⟩
        rw [← Go.Deep.add_add, hcell, hv]
        injection e0 with e0
        rw [e0]
      obtain ⟨n0, c0, w0⟩ := one 0 f0 (by omega) rfl h0
      obtain ⟨n1, c1, w1⟩ := one 1 f1 (by omega) rfl h1
      obtain ⟨n2, c2, w2⟩ := one 2 f2 (by omega) rfl h2
      exact ⟨n0, n1, n2, c0, c1, c2, w0, w1, w2⟩
    refine ⟨hl, by unfold maxLen at hm; omega, (List.range len).map (fun i => (numAt w (a.add (i * 3 + 0)), numAt w (a.add (i * 3 + 1)), numAt w (a.add (i * 3 + 2)))), by simp, ?_, fun _ => ⟨a, rfl, ?_⟩⟩
    · intro p hp
      obtain ⟨i, hir, rfl⟩ := List.mem_map.1 hp
      obtain ⟨n0, n1, n2, c0, c1, c2, w0, w1, w2⟩ := key i (List.mem_range.1 hir)
      simp only [numAt, c0, c1, c2]
      exact ⟨w0, w1, w2⟩
    · intro j p hj
      obtain ⟨hjl, hp⟩ := List.getElem?_eq_some_iff.1 hj
      have hjl' : j < len := by simpa using hjl
      obtain ⟨n0, n1, n2, c0, c1, c2, w0, w1, w2⟩ := key j hjl'
      have : p = (n0, n1, n2) := by
        rw [← hp]
        simp only [List.getElem_map, List.getElem_range, numAt, c0, c1, c2]
      subst this
      exact ⟨c0, c1, c2⟩
end
end Go.Proofs.Ytgkbeejkbhhjkaa.Rw
