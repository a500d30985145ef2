/- What the functions of the program come to, and that they do: written by this session's program wip/xprint.py out of the translation; parts named extern are typed by hand. -/
import Derived.Test.YtbiiklkkfkipeaaX0
namespace Go.Proofs.Ytbiiklkkfkipeaa.X
open Go.RowKit Go.Proofs.YtbiiklkkfkipeaaW.PrintWords Go.Proofs.YtbiiklkkfkipeaaW.PrintLast Go.Proofs.YtbiiklkkfkipeaaW.PrintMore
attribute [local go_sem] max2_int min2_int max_two min_two max_three min_three max_four min_four   -- for this text's walks alone
set_option linter.unusedVariables false
set_option linter.unusedSimpArgs false

/-! ### impl_allWithin: function 56 -/
/- EXTERN, by hand: allWithin over slices.ContainsFunc with its closure. -/
def inB (lo hi n : Int) : Bool := decide (lo ≤ n) && decide (n ≤ hi)
theorem allWithin_clo (B : Nat) (lo hi n : Int) (w : World) (hlo : w.cell? ⟨B, 0, none⟩ = some (.int .i64 lo)) (hhi : w.cell? ⟨B + 1, 0, none⟩ = some (.int .i64 hi)) :
    Calls Try.prog 76 #[.int .i64 n, .pointer (some ⟨B, 0, none⟩), .pointer (some ⟨B + 1, 0, none⟩)] w fun e w' => e = .returned (.bool (!(inB lo hi n))) ∧ w = w' := by
  unfold inB
  by_cases h1 : lo ≤ n
  · by_cases h2 : n ≤ hi
    · rw [decide_eq_true h1, decide_eq_true h2]
      go_enter Try.func76, Try.ntmps76
      go_wp2_with go_in
      go_ret
      exact ⟨rfl, rfl⟩
    · rw [decide_eq_true h1, decide_eq_false h2]
      go_enter Try.func76, Try.ntmps76
      go_wp2_with go_in
      go_ret
      exact ⟨rfl, rfl⟩
  · rw [decide_eq_false h1]
    go_enter Try.func76, Try.ntmps76
    go_wp2_with go_in
    go_ret
    exact ⟨rfl, rfl⟩
def impl_allWithin.f (l0 : List Int) (a1 : Int) (a2 : Int) : Option (Bool) := some (l0.all (inB a1 a2))
def SomeIdx (b : Bool) (w : World) (e : Ending) (w' : World) : Prop := ∃ r : Int, e = .returned (.int .i64 r) ∧ decide (0 ≤ r) = b ∧ w = w'
theorem allWithin_idx (A0 : Option Addr) (c0 : Nat) (l0 : List Int) (B : Nat) (lo hi : Int) (w : World) (hr0 : Kd.C (Kd.int .i64) w A0 l0.length l0)
    (hlo : w.cell? ⟨B, 0, none⟩ = some (.int .i64 lo)) (hhi : w.cell? ⟨B + 1, 0, none⟩ = some (.int .i64 hi)) :
    Calls Try.prog 85 #[.slice A0 l0.length c0, .func (.func 76) #[] #[.pointer (some ⟨B, 0, none⟩), .pointer (some ⟨B + 1, 0, none⟩)]] w
      (SomeIdx (!(l0.all (inB lo hi))) w) := by
  have hlen := hr0.2.1
  have HR0 := Aside0.mk hr0
  clear hr0
  go_enter Try.func85, Try.ntmps85
  go_wp2
  go_loop [8, 5] (fun v8 v5 => ∃ k : Nat, k ≤ l0.length ∧ v8 = .int .i64 k ∧ Aside0 ((l0.take k).all (inB lo hi) = true)) (fun v8 _ => l0.length - (intOf v8).toNat)
  case atStart => exact ⟨0, Nat.zero_le _, rfl, ⟨rfl⟩⟩
  case round =>
    obtain ⟨k, hk, rfl, HK⟩ := hrel
    by_cases hlt : k < l0.length
    · obtain ⟨ad, e, hcell⟩ := Kd.at_int HR0.out (k : Int) (by omega) (by omega)
      cases e
      rw [Int.toNat_natCast] at hcell
      have hclo := allWithin_clo B lo hi (rd l0 (k : Int)) w hlo hhi
      have hx : l0.getD k 0 = rd l0 (k : Int) := by simp [rd]
      have hp1 : (0 : Int) ≤ k := by omega
      cases hb : inB lo hi (rd l0 (k : Int)) with
      | true =>
        rw [hb] at hclo
        have hn : (l0.take (k + 1)).all (inB lo hi) = true := by
          rw [List.take_add_one, List.all_append, HK.out, List.getElem?_eq_getElem hlt]
          have : l0[k] = rd l0 (k : Int) := by rw [← hx]; simp [List.getD_eq_getElem?_getD, List.getElem?_eq_getElem hlt]
          simp [this, hb]
        have HN := Aside0.mk hn
        clear hn hb hx
        go_wp2_with (go_at_call 76; refine hclo.mono ?_; rintro e w' ⟨rfl, rfl⟩)
        go_round
        case rel => exact ⟨k + 1, by omega, by go_num, HN⟩
        case measure => simp [intOf]; omega
      | false =>
        rw [hb] at hclo
        have hn : l0.all (inB lo hi) = false := by
          rw [List.all_eq_false]
          refine ⟨rd l0 (k : Int), ?_, by simp [hb]⟩
          rw [← hx]
          simp [List.getD_eq_getElem?_getD, List.getElem?_eq_getElem hlt]
        have HN := Aside0.mk hn
        clear hn hb hx
        go_wp2_with (go_at_call 76; refine hclo.mono ?_; rintro e w' ⟨rfl, rfl⟩)
        go_ret
        exact ⟨_, rfl, by rw [HN.out]; simp, rfl⟩
    · have hkl : k = l0.length := by omega
      have hn : l0.all (inB lo hi) = true := by have := HK.out; rwa [hkl, List.take_length] at this
      have HN := Aside0.mk hn
      clear hn
      go_wp2
      go_ret
      exact ⟨_, rfl, by rw [HN.out]; simp, rfl⟩
theorem allWithin_has (A0 : Option Addr) (c0 : Nat) (l0 : List Int) (B : Nat) (lo hi : Int) (w : World) (hr0 : Kd.C (Kd.int .i64) w A0 l0.length l0)
    (hlo : w.cell? ⟨B, 0, none⟩ = some (.int .i64 lo)) (hhi : w.cell? ⟨B + 1, 0, none⟩ = some (.int .i64 hi)) :
    Calls Try.prog 75 #[.slice A0 l0.length c0, .func (.func 76) #[] #[.pointer (some ⟨B, 0, none⟩), .pointer (some ⟨B + 1, 0, none⟩)]] w
      fun e w' => e = .returned (.bool (!(l0.all (inB lo hi)))) ∧ w = w' := by
  go_enter Try.func75, Try.ntmps75
  go_wp2_with fail
  refine (allWithin_idx A0 c0 l0 B lo hi w hr0 hlo hhi).mono ?_
  rintro e w' ⟨r, rfl, hb, rfl⟩
  have HB := Aside0.mk hb
  clear hb
  go_wp2
  go_ret
  exact ⟨by rw [← HB.out]; rfl, rfl⟩
set_option maxHeartbeats 800000 in
theorem impl_allWithin.calls (A0 : Option Addr) (c0 : Nat) (l0 : List Int) (a1 : Int) (a2 : Int) (r : Bool) (w : World) (hr0 : Kd.C (Kd.int .i64) w A0 l0.length l0) (hc0 : l0.length ≤ c0) (h : impl_allWithin.f l0 a1 a2 = some r) :
    Calls Try.prog 56 #[.slice A0 l0.length c0, .int .i64 a1, .int .i64 a2] w fun e w' => e = .returned (.bool r) ∧ Below w.heap.size w w' := by
  have hmf : ∀ (fn : Fn) (first cap : Array Value) (w : World), (Instr.makeFunc fn first cap).run Try.prog w = .ok (.func fn first cap) w := fun _ _ _ _ => rfl
  have hb2 : Below w.heap.size w ((w.alloc (.cells #[.int .i64 a1] 3)).alloc (.cells #[.int .i64 a2] 3)) := ((Below.refl _ _).alloc (Nat.le_refl _) _).alloc (by simp) _
  have hr2 := Kd.C_below hr0 hb2
  have hM2 : ((w.alloc (.cells #[.int .i64 a1] 3)).alloc (.cells #[.int .i64 a2] 3)).cell? ⟨w.heap.size, 0, none⟩ = some (.int .i64 a1) := by
    rw [World.cell?_alloc_past _ _ _ (by simp), World.cell?_alloc_at _ _ _ _ rfl]; rfl
  have hD2 : ((w.alloc (.cells #[.int .i64 a1] 3)).alloc (.cells #[.int .i64 a2] 3)).cell? ⟨w.heap.size + 1, 0, none⟩ = some (.int .i64 a2) := by
    rw [World.cell?_alloc_at _ _ _ _ (by simp)]; rfl
  have hhas := allWithin_has A0 c0 l0 w.heap.size a1 a2 _ hr2 hM2 hD2
  obtain rfl : l0.all (inB a1 a2) = r := Option.some.inj h
  clear hr0 hr2 hM2 hD2 h
  go_enter Try.func56, Try.ntmps56
  go_wp2_with fail
  refine hhas.mono ?_
  rintro e w' ⟨rfl, rfl⟩
  go_wp2
  go_ret
  exact ⟨by simp, hb2⟩

end Go.Proofs.Ytbiiklkkfkipeaa.X
