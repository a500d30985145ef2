/- Plain lemmas: messages on a slotted ring. -/
import Derived.Test.YtgkbeejkbhhjkaaPlStructs
import Derived.Test.YtgkbeejkbhhjkaaPlIn
import Derived.Test.YtgkbeejkbhhjkaaX7
import Derived.Test.YtgkbeejkbhhjkaaX3
import Derived.Test.YtgkbeejkbhhjkaaX4
import Derived.Test.YtgkbeejkbhhjkaaX2
namespace Go.Proofs.Ytgkbeejkbhhjkaa.X
set_option linter.unusedSimpArgs false
set_option linter.unusedVariables false
open Go.RowKit Go.Proofs.YtgkbeejkbhhjkaaW.PrintWords
def okMsg (n : Int) (x : S30) : Bool := inB 0 100 x.f0 && (inB 0 (n - 1) x.f1 && (inB 0 (n - 1) x.f2 && (x.f1 != x.f2)))
def msgAt (n : Int) (l : List S30) (i : Nat) : Bool := okMsg n (rd_T30 l (i : Int)) && (decide (i = 0) || decide ((rd_T30 l ((i : Int) - 1)).f0 ≤ (rd_T30 l (i : Int)).f0))
def msgsTo (n : Int) (l : List S30) : Nat → Bool
  | 0 => true
  | m + 1 => msgsTo n l m && msgAt n l m
def areMsgs (n : Int) (l : List S30) : Bool := decide (l.length ≤ 20) && msgsTo n l l.length
def isSl (n : Int) (l : List S30) : Bool := inB 2 12 n && areMsgs n l
theorem msgsTo_false (n : Int) (l : List S30) (j : Nat) (h : msgAt n l j = false) : ∀ m, j < m → msgsTo n l m = false
  | 0, hm => by omega
  | m + 1, hm => by
    by_cases e : j = m
    · subst e
      simp [msgsTo, h]
    · simp [msgsTo, msgsTo_false n l j h m (by omega)]
theorem msgsTo_at {n : Int} {l : List S30} (m : Nat) (h : msgsTo n l m = true) (i : Nat) (hi : i < m) : msgAt n l i = true := by
  cases hj : msgAt n l i with
  | true => rfl
  | false =>
    have := msgsTo_false n l i hj m hi
    rw [this] at h
    cases h
theorem slGood_eq (n : Int) (b : Bool) : spec_slGood.f n b = some (inB 2 12 n) := by simp [spec_slGood.f, l1In_eq]
theorem isSlotRing_eq (n : Int) (b : Bool) : impl_IsSlotRing.f n b = some (inB 2 12 n) := by simp [impl_IsSlotRing.f, impl_isRingSize.f, within_eq]
theorem slMessage_eq (n : Int) (b : Bool) (hn : 2 ≤ n ∧ n ≤ 12) (x : S30) : spec_slMessage.f n b x.f0 x.f1 x.f2 = some (okMsg n x) := by
  unfold spec_slMessage.f okMsg
  simp only [l1In_eq, Option.bind_some]
  rw [w64 (by omega) (by omega)]
  cases inB 0 100 x.f0 <;> cases inB 0 (n - 1) x.f1 <;> cases inB 0 (n - 1) x.f2 <;> simp
theorem specMsgs_step (n : Int) (b : Bool) (hn : 2 ≤ n ∧ n ≤ 12) (l : List S30) (i : Nat) (hi : i < l.length) (hl : l.length ≤ 1048576) (k : Nat) :
    spec_slAll.l0 (k + 1) l l (l.length : Int) (i : Int) n b = if msgAt n l i = true then spec_slAll.l0 k l l (l.length : Int) ((i + 1 : Nat) : Int) n b else some false := by
  rw [spec_slAll.l0.eq_2]
  rw [if_pos (by omega), if_pos (by omega), if_pos (by omega)]
  simp only [slMessage_eq n b hn, Option.bind_some]
  unfold msgAt
  rw [w64 (x := (i : Int) + 1) (by omega) (by omega)]
  cases okMsg n (rd_T30 l (i : Int)) <;> simp
  by_cases h0 : i = 0
  · subst h0
    simp
  · rw [if_pos (by omega), w64 (by omega) (by omega), if_pos (by omega), if_pos (by omega)]
    by_cases hc : (rd_T30 l ((i : Int) - 1)).f0 ≤ (rd_T30 l (i : Int)).f0
    · rw [if_neg (by omega), if_pos (.inr hc)]
    · rw [if_pos (by omega), if_neg (by omega)]
theorem implMsgs_step (n : Int) (hn : 2 ≤ n ∧ n ≤ 12) (l : List S30) (i : Nat) (hi : i < l.length) (hl : l.length ≤ 1048576) (k : Nat) :
    impl_areMessages.l0 (k + 1) n l l (l.length : Int) (i : Int) = if msgAt n l i = true then impl_areMessages.l0 k n l l (l.length : Int) ((i + 1 : Nat) : Int) else some false := by
  simp only [impl_areMessages.l0]
  rw [if_pos (by omega), if_pos (by omega), if_pos (by omega)]
  simp only [within_eq, allWithin_eq, Option.bind_some, List.all_cons, List.all_nil, Bool.and_true]
  unfold msgAt okMsg
  rw [w64 (x := (i : Int) + 1) (by omega) (by omega), w64 (x := n - 1) (by omega) (by omega)]
  cases inB 0 100 (rd_T30 l (i : Int)).f0 <;> cases inB 0 (n - 1) (rd_T30 l (i : Int)).f1 <;> cases inB 0 (n - 1) (rd_T30 l (i : Int)).f2 <;> simp
  by_cases he : (rd_T30 l (i : Int)).f1 = (rd_T30 l (i : Int)).f2
  · simp [he]
  · rw [if_neg he]
    by_cases h0 : i = 0
    · subst h0
      rw [if_neg (by omega), if_pos ⟨he, .inl rfl⟩]
    · rw [if_pos (by omega), w64 (by omega) (by omega), if_pos (by omega), if_pos (by omega)]
      by_cases hc : (rd_T30 l ((i : Int) - 1)).f0 ≤ (rd_T30 l (i : Int)).f0
      · rw [if_neg (by omega), if_pos ⟨he, .inr hc⟩]
      · rw [if_pos (by omega), if_neg (by omega)]
theorem specMsgs_ev (n : Int) (b : Bool) (l : List S30) (hl : l.length ≤ 1048576) : Ev (fun k => spec_slAll.f k n b l) (isSl n l) := by
  unfold isSl
  cases hg : inB 2 12 n with
  | false =>
    refine ⟨9, fun k hk => ?_⟩
    obtain ⟨m, rfl⟩ : ∃ m, k = m + 9 := ⟨k - 9, by omega⟩
    simp [spec_slAll.f, slGood_eq, hg, spec_slAll.j0]
  | true =>
    have hn := inB_iff.1 hg
    unfold areMsgs
    by_cases hc : l.length ≤ 20
    · rw [decide_eq_true hc, Bool.true_and, Bool.true_and]
      have key := evUp0 l.length (fun k (_ : Unit) (i : Nat) => spec_slAll.l0 k l l (l.length : Int) (i : Int) n b) (fun i _ => msgsTo n l i = true) (msgsTo n l l.length) () rfl
        (by
          intro i s hi hI
          cases hj : msgAt n l i with
          | true => exact .inl ⟨(), by simp [msgsTo, hI, hj], fun h => evNext (fun k => by rw [specMsgs_step n b hn l i hi hl k, if_pos hj]) h⟩
          | false => exact .inr (evEnd fun k => by rw [specMsgs_step n b hn l i hi hl k, hj, msgsTo_false n l i hj l.length hi]; simp))
        (by
          intro s hI
          refine evEnd fun k => ?_
          show spec_slAll.l0 (k + 1) l l (l.length : Int) (l.length : Int) n b = _
          rw [spec_slAll.l0.eq_2, if_neg (by omega), hI])
      refine Ev.step (f := fun k => spec_slAll.l0 k l l (l.length : Int) 0 n b) (g := fun k => spec_slAll.f k n b l) (fun k => ?_) key
      show spec_slAll.f (k + 1) n b l = _
      unfold spec_slAll.f
      rw [slGood_eq, hg]
      simp only [Option.bind_some, if_true]
      rw [spec_slAll.j0.eq_2, decide_eq_false (by omega)]
      simp
    · refine ⟨9, fun k hk => ?_⟩
      obtain ⟨m, rfl⟩ : ∃ m, k = m + 9 := ⟨k - 9, by omega⟩
      have hd : decide ((l.length : Int) > 20) = true := decide_eq_true (by omega)
      show spec_slAll.f (m + 9) n b l = _
      unfold spec_slAll.f
      rw [slGood_eq, hg]
      simp only [Option.bind_some, if_true]
      rw [spec_slAll.j0.eq_2, hd, decide_eq_false hc]
      simp
theorem implMsgs_ev (n : Int) (hn : 2 ≤ n ∧ n ≤ 12) (l : List S30) (hl : l.length ≤ 1048576) : Ev (fun k => impl_areMessages.f k n l) (areMsgs n l) := by
  have key := evUp0 l.length (fun k (_ : Unit) (i : Nat) => impl_areMessages.l0 k n l l (l.length : Int) (i : Int)) (fun i _ => msgsTo n l i = true) (areMsgs n l) () rfl
    (by
      intro i s hi hI
      cases hj : msgAt n l i with
      | true => exact .inl ⟨(), by simp [msgsTo, hI, hj], fun h => evNext (fun k => by rw [implMsgs_step n hn l i hi hl k, if_pos hj]) h⟩
      | false => exact .inr (evEnd fun k => by rw [implMsgs_step n hn l i hi hl k, hj]; simp [areMsgs, msgsTo_false n l i hj l.length hi]))
    (by
      intro s hI
      refine evEnd fun k => ?_
      show impl_areMessages.l0 (k + 1) n l l (l.length : Int) (l.length : Int) = _
      simp only [impl_areMessages.l0]
      rw [if_neg (by omega)]
      unfold areMsgs
      rw [hI, Bool.and_true]
      congr 1
      by_cases h : l.length ≤ 20
      · rw [decide_eq_true h, decide_eq_true (by omega)]
      · rw [decide_eq_false h, decide_eq_false (by omega)])
  exact key
theorem implSlotted_ev (n : Int) (b : Bool) (l : List S30) (hl : l.length ≤ 1048576) : Ev (fun k => impl_isSlotted.f k n b l) (isSl n l) := by
  unfold isSl
  cases hg : inB 2 12 n with
  | false =>
    refine Ev.congr (f := fun _ => some false) (fun k => ?_) (Ev.now _)
    simp [impl_isSlotted.f, isSlotRing_eq, hg]
  | true =>
    obtain ⟨K, e⟩ := implMsgs_ev n (inB_iff.1 hg) l hl
    dsimp only at e
    refine ⟨K, fun k hk => ?_⟩
    simp (disch := omega) only [impl_isSlotted.f, isSlotRing_eq, hg, e, Option.bind_some, if_true, Bool.true_and]
/-- What is known of messages. -/
theorem isSl_at {n : Int} {l : List S30} (h : isSl n l = true) : (2 ≤ n ∧ n ≤ 12) ∧ l.length ≤ 20 ∧ ∀ i : Nat, i < l.length → 0 ≤ (rd_T30 l (i : Int)).f0 ∧ (rd_T30 l (i : Int)).f0 ≤ 100 ∧ 0 ≤ (rd_T30 l (i : Int)).f1 ∧ (rd_T30 l (i : Int)).f1 ≤ n - 1 ∧ 0 ≤ (rd_T30 l (i : Int)).f2 ∧ (rd_T30 l (i : Int)).f2 ≤ n - 1 ∧ (rd_T30 l (i : Int)).f1 ≠ (rd_T30 l (i : Int)).f2 := by
  unfold isSl areMsgs at h
  simp only [Bool.and_eq_true, decide_eq_true_eq] at h
  refine ⟨inB_iff.1 h.1, h.2.1, fun i hi => ?_⟩
  have := msgsTo_at l.length h.2.2 i hi
  unfold msgAt okMsg at this
  simp only [Bool.and_eq_true, bne_iff_ne] at this
  have h1 := inB_iff.1 this.1.1
  have h2 := inB_iff.1 this.1.2.1
  have h3 := inB_iff.1 this.1.2.2.1
  exact ⟨h1.1, h1.2, h2.1, h2.2, h3.1, h3.2, this.1.2.2.2⟩
theorem isSl_sorted {n : Int} {l : List S30} (h : isSl n l = true) (i : Nat) (hi : i + 1 < l.length) : (rd_T30 l (i : Int)).f0 ≤ (rd_T30 l ((i + 1 : Nat) : Int)).f0 := by
  unfold isSl areMsgs at h
  simp only [Bool.and_eq_true, decide_eq_true_eq] at h
  have := msgsTo_at l.length h.2.2 (i + 1) hi
  unfold msgAt at this
  simp only [Bool.and_eq_true, Bool.or_eq_true, decide_eq_true_eq] at this
  have e : ((i + 1 : Nat) : Int) - 1 = (i : Int) := by omega
  rw [e] at this
  omega
end Go.Proofs.Ytgkbeejkbhhjkaa.X
