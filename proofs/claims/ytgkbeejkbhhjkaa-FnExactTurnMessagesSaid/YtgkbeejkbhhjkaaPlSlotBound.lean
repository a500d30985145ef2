/- SlotBound, TurnMessages: the program and the reference come to the same. -/
import Derived.Test.YtgkbeejkbhhjkaaPlMsgs
import Derived.Test.YtgkbeejkbhhjkaaX12
import Derived.Test.YtgkbeejkbhhjkaaX14
import Derived.Test.YtgkbeejkbhhjkaaX16
import Derived.Test.YtgkbeejkbhhjkaaX15
namespace Go.Proofs.Ytgkbeejkbhhjkaa.X
set_option linter.unusedSimpArgs false
set_option linter.unusedVariables false
open Go.RowKit Go.Proofs.YtgkbeejkbhhjkaaW.PrintWords
theorem slotLoop_ev {n : Int} {b : Bool} {l : List S30} (h : isSl n l = true) (hp : 0 < l.length) :
    Ev (fun k => impl_SlotBound.l0 k l 0 l (l.length : Int) 0 n b) ((rd_T30 l ((l.length : Int) - 1)).f0 + 2 * n * (l.length : Int), true) := by
  obtain ⟨hn, hl, ha⟩ := isSl_at h
  have key := evUp0 l.length (fun k (s : Int) (i : Nat) => impl_SlotBound.l0 k l s l (l.length : Int) (i : Int) n b) (fun i s => s = if i = 0 then 0 else (rd_T30 l ((i : Int) - 1)).f0) ((rd_T30 l ((l.length : Int) - 1)).f0 + 2 * n * (l.length : Int), true) 0 rfl
    (by
      intro i s hi hI
      have h1 := ha i hi
      refine .inl ⟨(rd_T30 l (i : Int)).f0, ?_, fun h' => evNext (fun k => ?_) h'⟩
      · rw [if_neg (by omega), show ((i + 1 : Nat) : Int) - 1 = (i : Int) by omega]
      · show impl_SlotBound.l0 (k + 1) l s l (l.length : Int) (i : Int) n b = impl_SlotBound.l0 k l _ l (l.length : Int) ((i + 1 : Nat) : Int) n b
        simp only [impl_SlotBound.l0]
        rw [if_pos (by omega), if_pos (by omega), if_pos (by omega), w64 (x := (i : Int) + 1) (by omega) (by omega)]
        have e : mx s (rd_T30 l (i : Int)).f0 = (rd_T30 l (i : Int)).f0 := by
          have hs : s ≤ (rd_T30 l (i : Int)).f0 := by
            rw [hI]
            by_cases h0 : i = 0
            · rw [if_pos h0]
              exact h1.1
            · rw [if_neg h0]
              have := isSl_sorted h (i - 1) (by omega)
              rw [show ((i - 1 : Nat) : Int) = (i : Int) - 1 by omega, show ((i - 1 + 1 : Nat) : Int) = (i : Int) by omega] at this
              exact this
          unfold mx
          split <;> omega
        rw [e]
        rfl)
    (by
      intro s hI
      refine evEnd fun k => ?_
      show impl_SlotBound.l0 (k + 1) l s l (l.length : Int) ((l.length : Nat) : Int) n b = _
      have h2 := ha (l.length - 1) (by omega)
      rw [show ((l.length - 1 : Nat) : Int) = (l.length : Int) - 1 by omega] at h2
      rw [if_neg (by omega)] at hI
      simp only [impl_SlotBound.l0]
      rw [if_neg (by omega), hI]
      have hm : 0 ≤ 2 * n * (l.length : Int) ∧ 2 * n * (l.length : Int) ≤ 480 := by
        constructor
        · exact Int.mul_nonneg (by omega) (by omega)
        · have := Int.mul_le_mul (show 2 * n ≤ 24 by omega) (show (l.length : Int) ≤ 20 by omega) (by omega) (by omega)
          omega
      rw [w64 (x := 2 * n) (by omega) (by omega), w64 (x := 2 * n * (l.length : Int)) (by omega) (by omega), w64 (by omega) (by omega)])
  exact key
theorem SlotBound_same (n : Int) (b : Bool) (L : List S25) (h : (Lit.int .i64 n).wf = true ∧ L.length ≤ maxLen ∧ (∀ x ∈ L, (Lit.int .i64 x.f0).wf = true ∧ (Lit.int .i64 x.f1).wf = true ∧ (Lit.int .i64 x.f2).wf = true) ∧ L.length ≤ 1048576) :
    ∃ v, Ev (fun k => spec_SlotBound.f k n b (toL L)) v ∧ Ev (fun k => impl_SlotBound.f k n b (toL L)) v := by
  have htl := toL_length L
  generalize toL L = J at htl ⊢
  obtain ⟨K1, e1⟩ := specMsgs_ev n b J (by omega)
  obtain ⟨K2, e2⟩ := implSlotted_ev n b J (by omega)
  dsimp only at e1 e2
  cases hs : isSl n J with
  | false =>
    rw [hs] at e1 e2
    exact ⟨(0, false), ⟨K1, fun k hk => by simp (disch := omega) [spec_SlotBound.f, e1]⟩, ⟨K2, fun k hk => by simp (disch := omega) [impl_SlotBound.f, e2]⟩⟩
  | true =>
    rw [hs] at e1 e2
    obtain ⟨hn, hl, ha⟩ := isSl_at hs
    by_cases hp : J.length = 0
    · have hnil : J = [] := List.length_eq_zero_iff.1 hp
      subst hnil
      refine ⟨(0, true), ⟨K1, fun k hk => by simp (disch := omega) [spec_SlotBound.f, e1]⟩, ⟨K2 + 9, fun k hk => ?_⟩⟩
      obtain ⟨m, rfl⟩ : ∃ m, k = m + 9 := ⟨k - 9, by omega⟩
      simp (disch := omega) only [impl_SlotBound.f, e2, Option.bind_some, if_true]
      have hw : wrap64 0 = 0 := w64 (by omega) (by omega)
      simp [impl_SlotBound.l0, hw]
    · obtain ⟨K3, e3⟩ := slotLoop_ev (b := b) hs (by omega)
      dsimp only at e3
      refine ⟨((rd_T30 J ((J.length : Int) - 1)).f0 + 2 * n * (J.length : Int), true), ⟨K1, fun k hk => ?_⟩, ⟨K2 + K3, fun k hk => by simp (disch := omega) only [impl_SlotBound.f, e2, e3, Option.bind_some, if_true]⟩⟩
      · have h2 := ha (J.length - 1) (by omega)
        rw [show ((J.length - 1 : Nat) : Int) = (J.length : Int) - 1 by omega] at h2
        have hm : 0 ≤ 2 * n * (J.length : Int) ∧ 2 * n * (J.length : Int) ≤ 480 := by
          constructor
          · exact Int.mul_nonneg (by omega) (by omega)
          · have := Int.mul_le_mul (show 2 * n ≤ 24 by omega) (show (J.length : Int) ≤ 20 by omega) (by omega) (by omega)
            omega
        dsimp only
        unfold spec_SlotBound.f
        rw [e1 k (by omega)]
        simp only [Option.bind_some, if_true]
        rw [if_neg (by omega), w64 (x := (J.length : Int) - 1) (by omega) (by omega), if_pos (by omega), if_pos (by omega), w64 (x := 2 * n) (by omega) (by omega), w64 (x := 2 * n * (J.length : Int)) (by omega) (by omega), w64 (by omega) (by omega)]
def turned (n t : Int) (l : List S30) (m : Nat) : List S30 := (List.range m).map (fun (i : Nat) => ⟨(rd_T30 l (i : Int)).f0, Int.tmod (wrap64 ((rd_T30 l (i : Int)).f1 + t)) n, Int.tmod (wrap64 ((rd_T30 l (i : Int)).f2 + t)) n⟩)
theorem turned_succ (n t : Int) (l : List S30) (m : Nat) : turned n t l (m + 1) = turned n t l m ++ [⟨(rd_T30 l (m : Int)).f0, Int.tmod (wrap64 ((rd_T30 l (m : Int)).f1 + t)) n, Int.tmod (wrap64 ((rd_T30 l (m : Int)).f2 + t)) n⟩] := by simp [turned, List.range_succ]
theorem turned_len (n t : Int) (l : List S30) (m : Nat) : (turned n t l m).length = m := by simp [turned]
theorem specTurn_ev (n t : Int) (b : Bool) (hn : n ≠ 0) (l : List S30) (hl : l.length ≤ 1048576) : Ev (fun k => spec_TurnMessages.l0 k t [] l (l.length : Int) 0 n b) (turned n t l l.length, true) := by
  have key := evUp0 l.length (fun k (s : List S30) (i : Nat) => spec_TurnMessages.l0 k t s l (l.length : Int) (i : Int) n b) (fun i s => s = turned n t l i) (turned n t l l.length, true) [] rfl
    (by
      intro i s hi hI
      have hsl := turned_len n t l i
      rw [← hI] at hsl
      refine .inl ⟨turned n t l (i + 1), rfl, fun h => evNext (fun k => ?_) h⟩
      show spec_TurnMessages.l0 (k + 1) t s l (l.length : Int) (i : Int) n b = spec_TurnMessages.l0 k t (turned n t l (i + 1)) l (l.length : Int) (i + 1 : Nat) n b
      rw [spec_TurnMessages.l0.eq_2, if_pos (by omega), if_pos (by omega), if_pos (by omega), if_neg hn, if_pos (by omega), w64 (x := (i : Int) + 1) (by omega) (by omega), turned_succ, hI]
      rfl)
    (by
      intro s hI
      refine evEnd fun k => ?_
      show spec_TurnMessages.l0 (k + 1) t s l (l.length : Int) (l.length : Int) n b = _
      rw [spec_TurnMessages.l0.eq_2, if_neg (by omega), hI])
  exact key
theorem implTurn_ev (n t : Int) (hn : n ≠ 0) (l : List S30) (hl : l.length ≤ 1048576) : Ev (fun k => impl_turnedMessages.f k n l t) (turned n t l l.length) := by
  have key := evUp0 l.length (fun k (s : List S30) (i : Nat) => impl_turnedMessages.l0 k n t s l (l.length : Int) (i : Int)) (fun i s => s = turned n t l i) (turned n t l l.length) [] rfl
    (by
      intro i s hi hI
      have hsl := turned_len n t l i
      rw [← hI] at hsl
      refine .inl ⟨turned n t l (i + 1), rfl, fun h => evNext (fun k => ?_) h⟩
      show impl_turnedMessages.l0 (k + 1) n t s l (l.length : Int) (i : Int) = impl_turnedMessages.l0 k n t (turned n t l (i + 1)) l (l.length : Int) (i + 1 : Nat)
      simp only [impl_turnedMessages.l0]
      rw [if_pos (by omega), if_pos (by omega), if_pos (by omega), if_neg hn, if_pos (by omega), w64 (x := (i : Int) + 1) (by omega) (by omega), turned_succ, hI]
      rfl)
    (by
      intro s hI
      refine evEnd fun k => ?_
      show impl_turnedMessages.l0 (k + 1) n t s l (l.length : Int) (l.length : Int) = _
      simp only [impl_turnedMessages.l0]
      rw [if_neg (by omega), hI])
  exact key
theorem TurnMessages_same (n : Int) (b : Bool) (L : List S25) (t : Int) (h : (Lit.int .i64 n).wf = true ∧ L.length ≤ maxLen ∧ (∀ x ∈ L, (Lit.int .i64 x.f0).wf = true ∧ (Lit.int .i64 x.f1).wf = true ∧ (Lit.int .i64 x.f2).wf = true) ∧ (Lit.int .i64 t).wf = true ∧ L.length ≤ 1048576) :
    ∃ v, Ev (fun k => spec_TurnMessages.f k n b (toL L) t) v ∧ Ev (fun k => impl_TurnMessages.f k n b (toL L) t) v ∧ v.1.length ≤ 1000000 := by
  have htl := toL_length L
  generalize toL L = J at htl ⊢
  obtain ⟨K1, e1⟩ := specMsgs_ev n b J (by omega)
  obtain ⟨K2, e2⟩ := implSlotted_ev n b J (by omega)
  dsimp only at e1 e2
  cases hs : isSl n J with
  | false =>
    rw [hs] at e1 e2
    refine ⟨([], false), ⟨K1 + 9, fun k hk => ?_⟩, ⟨K2, fun k hk => by simp (disch := omega) [impl_TurnMessages.f, e2]⟩, by simp⟩
    obtain ⟨m, rfl⟩ : ∃ m, k = m + 9 := ⟨k - 9, by omega⟩
    simp (disch := omega) only [spec_TurnMessages.f, e1, Option.bind_some]
    rw [if_neg (by simp), spec_TurnMessages.j0.eq_2, if_pos rfl]
  | true =>
    rw [hs] at e1 e2
    obtain ⟨hn, hl, ha⟩ := isSl_at hs
    have hw : wrap64 (n - 1) = n - 1 := w64 (by omega) (by omega)
    cases hi : inB 0 (n - 1) t with
    | false =>
      refine ⟨([], false), ⟨K1 + 9, fun k hk => ?_⟩, ⟨K2, fun k hk => by simp (disch := omega) [impl_TurnMessages.f, e2, within_eq, hw, hi]⟩, by simp⟩
      obtain ⟨m, rfl⟩ : ∃ m, k = m + 9 := ⟨k - 9, by omega⟩
      simp (disch := omega) only [spec_TurnMessages.f, e1, Option.bind_some, l1In_eq, hw, hi]
      rw [if_pos trivial, spec_TurnMessages.j0.eq_2, if_pos (by simp)]
    | true =>
      obtain ⟨K3, e3⟩ := specTurn_ev n t b (by omega) J (by omega)
      obtain ⟨K4, e4⟩ := implTurn_ev n t (by omega) J (by omega)
      dsimp only at e3 e4
      refine ⟨(turned n t J J.length, true), ⟨K1 + K3 + 9, fun k hk => ?_⟩, ⟨K2 + K4, fun k hk => by simp (disch := omega) only [impl_TurnMessages.f, e2, e4, within_eq, hw, hi, Option.bind_some, if_true]⟩, by simp only [turned_len]; omega⟩
      obtain ⟨m, rfl⟩ : ∃ m, k = m + 9 := ⟨k - 9, by omega⟩
      simp (disch := omega) only [spec_TurnMessages.f, e1, Option.bind_some, l1In_eq, hw, hi]
      rw [if_pos trivial, spec_TurnMessages.j0.eq_2, if_neg (by simp)]
      exact e3 _ (by omega)
end Go.Proofs.Ytgkbeejkbhhjkaa.X
