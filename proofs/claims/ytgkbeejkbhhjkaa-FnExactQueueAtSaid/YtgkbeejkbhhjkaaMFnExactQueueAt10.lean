/- Several texts of this session in one: PlLive, PlHas, PlSlotRuns, PlStructMarks, PureFnExactQueueAt, Rw. -/
import Derived.Test.YtgkbeejkbhhjkaaMFnExactQueueAt9
import Derived.Test.YtgkbeejkbhhjkaaMFnExactQueueAt8
import Derived.Test.YtgkbeejkbhhjkaaMFnExactQueueAt6
import Derived.Test.YtgkbeejkbhhjkaaMFnExactQueueAt3
import Derived.Deep.Slices
import Derived.Deep.Fields
import Derived.ChangeSame
import Derived.Lib.SmallJoins
import Derived.SizedLaws
import Derived.ChangeSlices
/- Plain lemmas of slot rings: all messages are read in time. -/
namespace Go.Proofs.Ytgkbeejkbhhjkaa.X
set_option linter.unusedSimpArgs false
set_option linter.unusedVariables false
open Go.RowKit Go.Proofs.YtgkbeejkbhhjkaaW.PrintWords
/-- Which tick slot q comes to next. -/
def nxTick (t k q : Nat) : Nat := if q < k then t + 1 else t
def LvSlot (J : List S30) (fah : Bool) (n : Nat) (fi re : List Int) (q tq : Nat) (v : Int) : Prop :=
  0 < v → ∃ u : Nat, rd fi (v - 1) = (u : Int) ∧ u < tq ∧ tq ≤ u + n ∧ (((q + u) % n : Nat) : Int) = (rd_T30 J (v - 1)).f1 ∧ (rd re (v - 1) < 0 → ∀ w : Nat, u < w → w < tq → (((q + w) % n : Nat) : Int) ≠ (rd_T30 J (v - 1)).f2) ∧ (fah = false → rd re (v - 1) < 0)
/-- What is known in the midst of tick t, the slots ahead of k seen to. -/
structure LvInv (J : List S30) (fah : Bool) (n : Nat) (s : SlSt) (t k : Nat) : Prop where
  inv : SlInv n J.length s
  slot : ∀ q : Nat, q < n → LvSlot J fah n s.2.1 s.2.2 q (nxTick t k q) (rd s.1 (q : Int))
  un : ∀ j : Nat, j < J.length → rd s.2.1 (j : Int) < 0 → rd s.2.2 (j : Int) < 0
  lies : ∀ j : Nat, j < J.length → 0 ≤ rd s.2.1 (j : Int) → rd s.2.2 (j : Int) < 0 → ∃ q : Nat, q < n ∧ rd s.1 (q : Int) = (j : Int) + 1
  bound : ∀ j : Nat, j < J.length → rd s.2.1 (j : Int) < (t : Int) + (if k = 0 then 0 else 1)
  low : ∀ j : Nat, j < J.length → -1 ≤ rd s.2.2 (j : Int)
def JOk (J : List S30) (n : Nat) : Prop := 2 ≤ n ∧ ∀ i : Nat, i < J.length → 0 ≤ (rd_T30 J (i : Int)).f1 ∧ (rd_T30 J (i : Int)).f1 < (n : Int) ∧ 0 ≤ (rd_T30 J (i : Int)).f2 ∧ (rd_T30 J (i : Int)).f2 < (n : Int) ∧ (rd_T30 J (i : Int)).f1 ≠ (rd_T30 J (i : Int)).f2
/-- From one station to another: so many steps. -/
theorem ring_steps (n c : Nat) (hn : 0 < n) (x : Int) (h0 : 0 ≤ x) (h1 : x < (n : Int)) : ∃ d : Nat, d < n ∧ (((c + d) % n : Nat) : Int) = x := by
  obtain ⟨y, rfl⟩ := Int.eq_ofNat_of_zero_le h0
  have hy : y < n := by omega
  have hc : c % n < n := Nat.mod_lt _ hn
  refine ⟨(y + (n - c % n)) % n, Nat.mod_lt _ hn, ?_⟩
  have : (c + (y + (n - c % n)) % n) % n = y := by
    rw [Nat.add_mod, Nat.mod_mod, ← Nat.add_mod c (y + (n - c % n)) n]
    have e : c + (y + (n - c % n)) = y + n * (c / n + 1) := by
      have := Nat.div_add_mod c n
      rw [Nat.mul_add, Nat.mul_one]
      omega
    rw [e, Nat.add_mul_mod_self_left, Nat.mod_eq_of_lt hy]
  rw [this]
theorem slHit_pos' {J : List S30} {re : List Int} {a v : Int} (h : slHit J re a v = true) : 0 < v ∧ (rd_T30 J (v - 1)).f2 = a ∧ rd re (v - 1) < 0 := by
  unfold slHit at h
  simp only [Bool.and_eq_true, decide_eq_true_eq] at h
  exact h
theorem slRe_other {J : List S30} {t : Int} {re : List Int} {a v x : Int} (hx : 0 ≤ x) (h : 0 < v → x ≠ v - 1) : rd (slRe J t re a v) x = rd re x := by
  unfold slRe
  by_cases c : slHit J re a v = true
  · rw [if_pos c]
    have hp := (slHit_pos' c).1
    refine rd_set_nei _ _ _ _ hx ?_
    have := h hp
    omega
  · rw [if_neg c]
theorem slRe_up {J : List S30} {t : Int} (ht : 0 ≤ t) {re : List Int} {a v : Int} (hv : v ≤ re.length) (j : Nat) (h : rd (slRe J t re a v) (j : Int) < 0) : rd re (j : Int) < 0 ∧ (slHit J re a v = true → (j : Int) ≠ v - 1) := by
  unfold slRe at h
  by_cases c : slHit J re a v = true
  · rw [if_pos c] at h
    have hp := (slHit_pos' c).1
    by_cases e : (j : Int) = v - 1
    · rw [show (v - 1).toNat = j by omega, rd_set_eq _ _ _ (by omega)] at h
      omega
    · rw [rd_set_nei _ _ _ _ (by omega) (by omega)] at h
      exact ⟨h, fun _ => e⟩
  · rw [if_neg c] at h
    exact ⟨h, fun e => absurd e c⟩
theorem slRe_low {J : List S30} {t : Int} (ht : 0 ≤ t) {re : List Int} {a v : Int} (hv : v ≤ re.length) (j : Nat) (h : -1 ≤ rd re (j : Int)) : -1 ≤ rd (slRe J t re a v) (j : Int) := by
  unfold slRe
  by_cases c : slHit J re a v = true
  · rw [if_pos c]
    have hp := (slHit_pos' c).1
    by_cases e : (j : Int) = v - 1
    · rw [show (v - 1).toNat = j by omega, rd_set_eq _ _ _ (by omega)]
      omega
    · rw [rd_set_nei _ _ _ _ (by omega) (by omega)]
      exact h
  · rw [if_neg c]
    exact h
/-- A slot that is not freed keeps what is known of it. -/
theorem lv_kept {J : List S30} {fah : Bool} {n : Nat} {fi re : List Int} {t k : Nat} {v : Int} (hJ : JOk J n) (hv : 0 < v) (hvm : v ≤ J.length) (hrl : re.length = J.length) (h : LvSlot J fah n fi re k t v) (hf : slFreed J fah re (((k + t) % n : Nat) : Int) v = false) :
    LvSlot J fah n fi (slRe J (t : Int) re (((k + t) % n : Nat) : Int) v) k (t + 1) v := by
  intro _
  obtain ⟨u, h1, h2, h3, h4, h5, h6⟩ := h hv
  obtain ⟨j, hj⟩ : ∃ j : Nat, v - 1 = (j : Int) := ⟨(v - 1).toNat, by omega⟩
  have hok := hJ.2 j (by omega)
  rw [hj] at h1 h4 h5 h6 ⊢
  unfold slFreed at hf
  rw [Bool.or_eq_false_iff] at hf
  have hhome := hf.1
  have hhit := hf.2
  have e8 := slHome_at J fah (t : Int) (by omega) re (((k + t) % n : Nat) : Int) j (by omega)
  rw [show (j : Int) + 1 = v by omega] at e8
  rw [hhome] at e8
  have key : rd (slRe J (t : Int) re (((k + t) % n : Nat) : Int) v) (j : Int) < 0 → rd re (j : Int) < 0 ∧ slHit J re (((k + t) % n : Nat) : Int) v = false := fun h => by
    have h9 := slRe_up (show (0 : Int) ≤ (t : Int) by omega) (show v ≤ re.length by omega) j h
    refine ⟨h9.1, ?_⟩
    cases hc : slHit J re (((k + t) % n : Nat) : Int) v with
    | true => exact absurd hj.symm (h9.2 hc)
    | false => rfl
  refine ⟨u, h1, by omega, ?_, h4, fun hr w hw1 hw2 => ?_, fun hfa => ?_⟩
  · rcases Nat.lt_or_ge t (u + n) with hlt | hge
    · omega
    · have e : t = u + n := by omega
      have hst : (((k + t) % n : Nat) : Int) = (rd_T30 J (j : Int)).f1 := by
        rw [← h4, e, ← Nat.add_assoc, Nat.add_mod_right]
      have hread : 0 ≤ rd re (j : Int) := by
        rcases Int.lt_or_le (rd re (j : Int)) 0 with hneg | hpos
        · exfalso
          obtain ⟨d, hd1, hd2⟩ := ring_steps n (k + u) (by omega) (rd_T30 J (j : Int)).f2 hok.2.2.1 hok.2.2.2.1
          have hd0 : d ≠ 0 := by
            rintro rfl
            rw [Nat.add_zero] at hd2
            exact hok.2.2.2.2 (h4.symm.trans hd2)
          refine h5 hneg (u + d) (by omega) (by omega) ?_
          rw [← Nat.add_assoc]
          exact hd2
        · exact hpos
      have hfah : fah = true := by
        cases fah with
        | true => rfl
        | false =>
          have := h6 rfl
          omega
      have hread' : 0 ≤ rd (slRe J (t : Int) re (((k + t) % n : Nat) : Int) v) (j : Int) := by
        rcases Int.lt_or_le (rd (slRe J (t : Int) re (((k + t) % n : Nat) : Int) v) (j : Int)) 0 with hneg | hpos
        · have := (key hneg).1
          omega
        · exact hpos
      rw [hfah, hst, decide_eq_true rfl] at e8
      rw [hst] at hread'
      rw [decide_eq_true hread'] at e8
      cases e8
  · obtain ⟨hr1, hr2⟩ := key hr
    rcases Nat.lt_or_ge w t with hlt | hge
    · exact h5 hr1 w hw1 hlt
    · obtain rfl : w = t := by omega
      intro e
      have h9 := slHit_at J re (((k + w) % n : Nat) : Int) j
      rw [show (j : Int) + 1 = v by omega, hr2, decide_eq_true e.symm, decide_eq_true hr1] at h9
      cases h9
  · rw [hfa] at hhit
    have hnh : slHit J re (((k + t) % n : Nat) : Int) v = false := by
      cases hc : slHit J re (((k + t) % n : Nat) : Int) v with
      | true => rw [hc] at hhit; cases hhit
      | false => rfl
    unfold slRe
    rw [hnh, if_neg (by simp)]
    exact h6 hfa
theorem slFreed_read {J : List S30} {fah : Bool} {t : Int} (ht : 0 ≤ t) {re : List Int} {a v : Int} (hv : v ≤ re.length) (j : Nat) (hj : v = (j : Int) + 1) (hf : slFreed J fah re a v = true) : 0 ≤ rd (slRe J t re a v) (j : Int) := by
  rcases Int.lt_or_le (rd (slRe J t re a v) (j : Int)) 0 with hneg | hpos
  · exfalso
    obtain ⟨h1, h2⟩ := slRe_up ht hv j hneg
    have hnh : slHit J re a v = false := by
      cases hc : slHit J re a v with
      | true => exact absurd (by omega) (h2 hc)
      | false => rfl
    unfold slFreed slHome at hf
    rw [hnh, hj, show (j : Int) + 1 - 1 = (j : Int) by omega, decide_eq_false (show ¬ 0 ≤ rd re (j : Int) by omega)] at hf
    simp at hf
  · exact hpos
theorem lv_step {J : List S30} {fah : Bool} {n : Nat} {s : SlSt} {t k : Nat} (hJ : JOk J n) (h : LvInv J fah n s t k) (hk : k < n) : LvInv J fah n (slOne J fah (t : Int) k (((k + t) % n : Nat) : Int) s) t (k + 1) := by
  have hinv' := slOne_inv (fah := fah) (t := (t : Int)) (a := (((k + t) % n : Nat) : Int)) (by omega) h.inv hk
  obtain ⟨sl, fi, re⟩ := s
  obtain ⟨hI, hS, hU, hL, hB, hW⟩ := h
  dsimp only at hS hU hL hB hW
  obtain ⟨i1, i2, i3, i4, i5, i6⟩ := hI
  dsimp only at i1 i2 i3 i4 i5 i6
  obtain ⟨a, ha⟩ : ∃ a : Int, (((k + t) % n : Nat) : Int) = a := ⟨_, rfl⟩
  obtain ⟨v, hv⟩ : ∃ v, rd sl (k : Int) = v := ⟨_, rfl⟩
  have hvr := i4 k hk
  rw [hv] at hvr
  have hvl : v ≤ (re.length : Int) := by omega
  have hSk := hS k hk
  rw [hv] at hSk
  have hnx : nxTick t k k = t := by unfold nxTick; rw [if_neg (by omega)]
  rw [hnx] at hSk
  have hkept := fun (hp : 0 < v) (hf : slFreed J fah re a v = false) => lv_kept hJ hp (by omega) i3 hSk (by rw [ha]; exact hf)
  rw [ha] at hinv' ⊢
  simp only [ha] at hkept
  have hnext : ∀ q : Nat, nxTick t (k + 1) q = if q = k then t + 1 else nxTick t k q := fun q => by
    unfold nxTick
    by_cases e : q = k
    · rw [if_pos e, if_pos (by omega)]
    · rw [if_neg e]
      by_cases e2 : q < k
      · rw [if_pos (by omega), if_pos e2]
      · rw [if_neg (by omega), if_neg e2]
  -- the other slots
  have hother : ∀ (q : Nat) (fi' : List Int), q < n → q ≠ k → (∀ x : Nat, x < J.length → 0 ≤ rd fi (x : Int) → rd fi' (x : Int) = rd fi (x : Int)) → LvSlot J fah n fi' (slRe J (t : Int) re a v) q (nxTick t k q) (rd sl (q : Int)) := by
    intro q fi' hq hqk hfi hp
    obtain ⟨u, g1, g2, g3, g4, g5, g6⟩ := hS q hq hp
    have hqr := i4 q hq
    obtain ⟨x, hx⟩ : ∃ x : Nat, rd sl (q : Int) - 1 = (x : Int) := ⟨(rd sl (q : Int) - 1).toNat, by omega⟩
    have hne : rd (slRe J (t : Int) re a v) (rd sl (q : Int) - 1) = rd re (rd sl (q : Int) - 1) := slRe_other (by omega) (fun hv0 e => i5 q k hq hk hqk hp (by omega))
    refine ⟨u, ?_, g2, g3, g4, ?_, ?_⟩
    · rw [hx] at g1 ⊢
      rw [hfi x (by omega) (by omega)]
      exact g1
    · rw [hne]; exact g5
    · rw [hne]; exact g6
  have hUr : ∀ j : Nat, j < J.length → rd fi (j : Int) < 0 → rd (slRe J (t : Int) re a v) (j : Int) < 0 := fun j hj hneg => by
    rw [slRe_other (by omega) (fun hv0 e => by
      have := i6 k hk (by omega)
      rw [hv] at this
      rw [← e] at this
      omega)]
    exact hU j hj hneg
  have hLies : ∀ j : Nat, j < J.length → 0 ≤ rd fi (j : Int) → rd (slRe J (t : Int) re a v) (j : Int) < 0 → ∃ q : Nat, q < n ∧ rd sl (q : Int) = (j : Int) + 1 ∧ (q = k → slFreed J fah re a v = false) := fun j hj hf hneg => by
    obtain ⟨q, hq1, hq2⟩ := hL j hj hf (slRe_up (by omega) hvl j hneg).1
    refine ⟨q, hq1, hq2, fun e => ?_⟩
    subst e
    rw [hv] at hq2
    cases hc : slFreed J fah re a v with
    | false => rfl
    | true =>
      have := slFreed_read (t := (t : Int)) (by omega) hvl j hq2 hc
      omega
  have hlow : ∀ j : Nat, j < J.length → -1 ≤ rd (slRe J (t : Int) re a v) (j : Int) := fun j hj => slRe_low (by omega) hvl j (hW j hj)
  have hbnd : ∀ j : Nat, j < J.length → rd fi (j : Int) < (t : Int) + 1 := fun j hj => by
    have := hB j hj
    split at this <;> omega
  by_cases c : 0 ≤ slFill J fah (t : Int) fi re a v
  · obtain ⟨i, c1, c2, c3⟩ := slFill_in c
    have e := slOne_fill (fah := fah) (t := (t : Int)) (a := a) (fi := fi) (re := re) hv c1
    rw [e, List.set_set] at hinv' ⊢
    unfold slWaits at c3
    simp only [Bool.and_eq_true, decide_eq_true_eq] at c3
    have hfi : ∀ x : Nat, x < J.length → 0 ≤ rd fi (x : Int) → rd (fi.set i (t : Int)) (x : Int) = rd fi (x : Int) := fun x _ hx => rd_set_ne _ _ _ _ (fun e => by rw [e] at c3; omega)
    refine ⟨hinv', fun q hq => ?_, fun j hj hneg => ?_, fun j hj hf hneg => ?_, fun j hj => ?_, hlow⟩
    · dsimp only
      rw [hnext q]
      by_cases eq : q = k
      · subst eq
        rw [if_pos rfl, rd_set_eq _ _ _ (by omega)]
        intro _
        rw [show (i : Int) + 1 - 1 = (i : Int) by omega]
        refine ⟨t, rd_set_eq _ _ _ (by omega), by omega, by omega, ?_, fun _ w hw1 hw2 => by omega, fun _ => hUr i c2 c3.2.2⟩
        rw [ha]
        exact c3.1.symm
      · rw [if_neg eq, rd_set_ne _ _ _ _ (Ne.symm eq)]
        exact hother q _ hq eq hfi
    · dsimp only at hneg ⊢
      by_cases e : i = j
      · rw [← e, rd_set_eq _ _ _ (by omega)] at hneg
        omega
      · rw [rd_set_ne _ _ _ _ e] at hneg
        exact hUr j hj hneg
    · dsimp only at hf hneg ⊢
      by_cases e : i = j
      · exact ⟨k, hk, by rw [rd_set_eq _ _ _ (by omega), e]⟩
      · rw [rd_set_ne _ _ _ _ e] at hf
        obtain ⟨q, q1, q2, q3⟩ := hLies j hj hf hneg
        refine ⟨q, q1, ?_⟩
        by_cases eq : q = k
        · exfalso
          have hnf := q3 eq
          subst eq
          have hl : slLeft J fah re a v = v := by rw [slLeft_eq, hnf]; simp
          unfold slFill at c
          rw [hl, if_pos (.inl (by omega))] at c
          omega
        · rw [rd_set_ne _ _ _ _ (Ne.symm eq)]
          exact q2
    · dsimp only
      rw [if_neg (by omega)]
      by_cases e : i = j
      · rw [← e, rd_set_eq _ _ _ (by omega)]
        omega
      · rw [rd_set_ne _ _ _ _ e]
        exact hbnd j hj
  · have e := slOne_cont (fah := fah) (t := (t : Int)) (a := a) (fi := fi) (re := re) hv (show slFill J fah (t : Int) fi re a v < 0 by omega)
    rw [e] at hinv' ⊢
    refine ⟨hinv', fun q hq => ?_, hUr, fun j hj hf hneg => ?_, fun j hj => ?_, hlow⟩
    · dsimp only
      rw [hnext q]
      by_cases eq : q = k
      · subst eq
        rw [if_pos rfl, rd_set_eq _ _ _ (by omega)]
        intro hp
        have hnf : slFreed J fah re a v = false := by
          cases hc : slFreed J fah re a v with
          | false => rfl
          | true =>
            rw [slLeft_eq, hc] at hp
            simp at hp
        have hl : slLeft J fah re a v = v := by rw [slLeft_eq, hnf]; simp
        rw [hl] at hp ⊢
        exact hkept hp hnf hp
      · rw [if_neg eq, rd_set_ne _ _ _ _ (Ne.symm eq)]
        exact hother q _ hq eq (fun _ _ _ => rfl)
    · dsimp only at hf hneg ⊢
      obtain ⟨q, q1, q2, q3⟩ := hLies j hj hf hneg
      refine ⟨q, q1, ?_⟩
      by_cases eq : q = k
      · have hnf := q3 eq
        subst eq
        have hl : slLeft J fah re a v = v := by rw [slLeft_eq, hnf]; simp
        rw [rd_set_eq _ _ _ (by omega), hl, ← hv]
        exact q2
      · rw [rd_set_ne _ _ _ _ (Ne.symm eq)]
        exact q2
    · dsimp only
      rw [if_neg (by omega)]
      exact hbnd j hj
theorem tmod_nat (m t n : Nat) : Int.tmod ((m : Int) + (t : Int)) (n : Int) = (((m + t) % n : Nat) : Int) := by
  rw [Int.tmod_eq_emod_of_nonneg (by omega), Int.natCast_emod]
  rfl
theorem lv_to {J : List S30} {fah : Bool} {n : Nat} {s : SlSt} {t : Nat} (hJ : JOk J n) (h : LvInv J fah n s t 0) : ∀ m, m ≤ n → LvInv J fah n (slTo J fah (t : Int) n s m) t m
  | 0, _ => h
  | m + 1, hm => by
    rw [slTo, tmod_nat]
    exact lv_step hJ (lv_to hJ h m (by omega)) (by omega)
theorem lv_tick {J : List S30} {fah : Bool} {n : Nat} {s : SlSt} {t : Nat} (hJ : JOk J n) (h : LvInv J fah n s t n) : LvInv J fah n s (t + 1) 0 := by
  have hn := hJ.1
  obtain ⟨hI, hS, hU, hL, hB, hW⟩ := h
  refine ⟨hI, fun q hq => ?_, hU, hL, fun j hj => ?_, hW⟩
  · have h9 := hS q hq
    have e1 : nxTick t n q = t + 1 := by unfold nxTick; rw [if_pos hq]
    have e2 : nxTick (t + 1) 0 q = t + 1 := by unfold nxTick; rw [if_neg (by omega)]
    rw [e1] at h9
    rw [e2]
    exact h9
  · have h9 := hB j hj
    rw [if_neg (by omega)] at h9
    rw [if_pos rfl]
    omega
theorem lv_run {J : List S30} {fah : Bool} {n : Nat} (hJ : JOk J n) : ∀ t, LvInv J fah n (slRunTo J fah n t) t 0
  | 0 => by
    refine ⟨slInit_inv n J.length, fun q hq hp => ?_, fun j hj _ => ?_, fun j hj hf => ?_, fun j hj => ?_, fun j hj => ?_⟩
    · rw [show rd (slRunTo J fah n 0).1 (q : Int) = 0 from rd_rep n 0 q hq] at hp
      omega
    · rw [show rd (slRunTo J fah n 0).2.2 (j : Int) = -1 from rd_rep _ _ j hj]
      omega
    · rw [show rd (slRunTo J fah n 0).2.1 (j : Int) = -1 from rd_rep _ _ j hj] at hf
      omega
    · rw [show rd (slRunTo J fah n 0).2.1 (j : Int) = -1 from rd_rep _ _ j hj, if_pos rfl]
      omega
    · rw [show rd (slRunTo J fah n 0).2.2 (j : Int) = -1 from rd_rep _ _ j hj]
      omega
  | t + 1 => by
    rw [slRunTo]
    exact lv_tick hJ (lv_to hJ (lv_run hJ t) n (Nat.le_refl _))
/-- How many messages have not been filled in. -/
def slCnt (l : List Int) : Nat := l.countP (fun x => decide (x < 0))
theorem slCnt_set (l : List Int) (i : Nat) (t : Int) (hi : i < l.length) (h : rd l (i : Int) < 0) (ht : 0 ≤ t) : slCnt (l.set i t) < slCnt l := by
  have e : l[i] < 0 := by rw [← rd_at l i hi]; exact h
  have hp : 0 < l.countP (fun x => decide (x < 0)) := List.countP_pos_iff.2 ⟨l[i], List.getElem_mem hi, by simpa using e⟩
  unfold slCnt
  rw [List.countP_set hi]
  simp only [e, decide_true, if_true]
  rw [if_neg (by simp; omega)]
  omega
theorem slCnt_zero {l : List Int} (h : slCnt l = 0) (i : Nat) (hi : i < l.length) : 0 ≤ rd l (i : Int) := by
  rcases Int.lt_or_le (rd l (i : Int)) 0 with hneg | hpos
  · exfalso
    have := slCnt_set l i 0 hi hneg (by omega)
    omega
  · exact hpos
theorem slCnt_ex {l : List Int} (h : 0 < slCnt l) : ∃ i : Nat, i < l.length ∧ rd l (i : Int) < 0 := by
  obtain ⟨x, hx, hp⟩ := List.countP_pos_iff.1 h
  obtain ⟨i, hi, rfl⟩ := List.getElem_of_mem hx
  exact ⟨i, hi, by rw [rd_at l i hi]; simpa using hp⟩
/-- The ticks of filling stay as they are, or one message less waits; what has been told stays told. -/
def FM (t : Nat) (l l' : List Int) : Prop := l'.length = l.length ∧ (l' = l ∨ slCnt l' < slCnt l) ∧ (∀ j : Nat, j < l.length → 0 ≤ rd l (j : Int) → rd l' (j : Int) = rd l (j : Int)) ∧ ∀ j : Nat, j < l.length → rd l (j : Int) < 0 → rd l' (j : Int) < 0 ∨ (t : Int) ≤ rd l' (j : Int)
theorem FM.refl (t : Nat) (l : List Int) : FM t l l := ⟨rfl, .inl rfl, fun _ _ _ => rfl, fun _ _ h => .inl h⟩
theorem FM.trans {t t' : Nat} (ht : t ≤ t') {a b c : List Int} (h : FM t a b) (k : FM t' b c) : FM t a c := by
  obtain ⟨h1, h2, h3, h4⟩ := h
  obtain ⟨k1, k2, k3, k4⟩ := k
  refine ⟨k1.trans h1, ?_, fun j hj hp => ?_, fun j hj hn => ?_⟩
  · rcases k2 with rfl | k2
    · exact h2
    · rcases h2 with rfl | h2
      · exact .inr k2
      · exact .inr (by omega)
  · have e := h3 j hj hp
    rw [k3 j (by omega) (by omega)]
    exact e
  · rcases h4 j hj hn with q | q
    · rcases k4 j (by omega) q with p | p
      · exact .inl p
      · exact .inr (by omega)
    · rw [k3 j (by omega) (by omega)]
      exact .inr q
theorem FM.cnt {t : Nat} {a b : List Int} (h : FM t a b) : slCnt b ≤ slCnt a := by
  rcases h.2.1 with e | e
  · rw [e]; exact Nat.le_refl _
  · omega
theorem slOne_FM {J : List S30} {fah : Bool} {t : Nat} {k : Nat} {a : Int} {s : SlSt} (hl : s.2.1.length = J.length) : FM t s.2.1 (slOne J fah (t : Int) k a s).2.1 := by
  show FM t s.2.1 (if _ then _ else _ : List Int)
  by_cases c : 0 ≤ slFill J fah (t : Int) s.2.1 s.2.2 a (rd s.1 (k : Int))
  · rw [if_pos c]
    obtain ⟨i, c1, c2, c3⟩ := slFill_in c
    rw [c1, Int.toNat_natCast]
    unfold slWaits at c3
    simp only [Bool.and_eq_true, decide_eq_true_eq] at c3
    refine ⟨by rw [List.length_set], .inr (slCnt_set _ _ _ (by omega) c3.2.2 (by omega)), fun j hj hp => rd_set_ne _ _ _ _ (fun e => by rw [e] at c3; omega), fun j hj hn => ?_⟩
    by_cases e : i = j
    · rw [← e, rd_set_eq _ _ _ (by omega)]
      exact .inr (by omega)
    · rw [rd_set_ne _ _ _ _ e]
      exact .inl hn
  · rw [if_neg c]
    exact FM.refl _ _
theorem slTo_FM {J : List S30} {fah : Bool} {t n : Nat} {s : SlSt} (hi : SlInv n J.length s) (a : Nat) : ∀ d, a + d ≤ n → FM t (slTo J fah (t : Int) n s a).2.1 (slTo J fah (t : Int) n s (a + d)).2.1
  | 0, _ => FM.refl _ _
  | d + 1, hd => (slTo_FM hi a d (by omega)).trans (Nat.le_refl _) (by
    rw [← Nat.add_assoc, slTo]
    exact slOne_FM (slTo_inv (by omega) hi _ (by omega)).2.1)
theorem run_FM (J : List S30) (fah : Bool) (n t : Nat) : ∀ d, FM t (slRunTo J fah n t).2.1 (slRunTo J fah n (t + d)).2.1
  | 0 => FM.refl _ _
  | d + 1 => FM.trans (t' := t + d) (by omega) (run_FM J fah n t d) (by
    rw [← Nat.add_assoc, slRunTo]
    have h9 := slTo_FM (fah := fah) (t := t + d) (slRunTo_inv J fah n (t + d)) 0 n (by omega)
    rw [Nat.zero_add] at h9
    exact h9)
/-- A message waits at the station that slot 0, a free one, comes to: it, or another one, is filled in. -/
theorem tick_first {J : List S30} {fah : Bool} {n t : Nat} (hn : 0 < n) (j : Nat) (hj : j < J.length) (h0 : rd (slRunTo J fah n t).1 0 = 0) (hf : rd (slRunTo J fah n t).2.1 (j : Int) < 0) (hst : (((0 + t) % n : Nat) : Int) = (rd_T30 J (j : Int)).f1) (htk : (rd_T30 J (j : Int)).f0 ≤ (t : Int)) :
    slCnt (slRunTo J fah n (t + 1)).2.1 < slCnt (slRunTo J fah n t).2.1 := by
  obtain ⟨s, hs⟩ : ∃ s, slRunTo J fah n t = s := ⟨_, rfl⟩
  have hinv := slRunTo_inv J fah n t
  rw [slRunTo, hs]
  rw [hs] at h0 hf hinv
  have h1 := slTo_FM (fah := fah) (t := t) hinv 1 (n - 1) (by omega)
  rw [show 1 + (n - 1) = n by omega] at h1
  refine Nat.lt_of_le_of_lt h1.cnt ?_
  show slCnt (slOne J fah (t : Int) 0 (Int.tmod (((0 : Nat) : Int) + (t : Int)) (n : Int)) s).2.1 < _
  rw [tmod_nat, hst]
  obtain ⟨a, ha⟩ : ∃ a, (rd_T30 J (j : Int)).f1 = a := ⟨_, rfl⟩
  rw [ha]
  have hw : slWaits J (t : Int) s.2.1 a j = true := by
    unfold slWaits
    rw [decide_eq_true ha, decide_eq_true htk, decide_eq_true hf]
    rfl
  have hx : 0 ≤ slNext J (t : Int) s.2.1 a J.length := by
    have key : ∀ m, j < m → 0 ≤ slNext J (t : Int) s.2.1 a m := by
      intro m
      induction m with
      | zero => intro h; omega
      | succ m ih =>
        intro hm
        rw [slNext]
        by_cases c : 0 ≤ slNext J (t : Int) s.2.1 a m
        · rw [if_pos c]; exact c
        · rw [if_neg c]
          by_cases e : j = m
          · rw [← e, if_pos hw]; omega
          · exact absurd (ih (by omega)) c
    exact key J.length hj
  have hv : rd s.1 ((0 : Nat) : Int) = 0 := h0
  have e1 : slHit J s.2.2 a 0 = false := rfl
  have e2 : slHome J fah s.2.2 a 0 = false := rfl
  have e3 : slFreed J fah s.2.2 a 0 = false := by unfold slFreed; rw [e1, e2]; rfl
  have e4 : slLeft J fah s.2.2 a 0 = 0 := by rw [slLeft_eq, e3]; rfl
  have e5 : slFill J fah (t : Int) s.2.1 s.2.2 a 0 = slNext J (t : Int) s.2.1 a J.length := by
    unfold slFill
    rw [e4, e2, if_neg (by simp)]
  show slCnt (if 0 ≤ slFill J fah (t : Int) s.2.1 s.2.2 a (rd s.1 ((0 : Nat) : Int)) then _ else _ : List Int) < _
  rw [hv, e5, if_pos hx]
  obtain ⟨i, c1, c2, c3⟩ := slNext_in (J := J) (t := (t : Int)) (at_ := a) (filled := s.2.1) J.length hx
  unfold slWaits at c3
  simp only [Bool.and_eq_true, decide_eq_true_eq] at c3
  rw [c1, Int.toNat_natCast]
  exact slCnt_set _ _ _ (by have := hinv.2.1; omega) c3.2.2 (by omega)
/-- Within two rounds a message is filled in, if one waits. -/
theorem window {J : List S30} {fah : Bool} {n : Nat} (hJ : JOk J n) {t : Nat} (htk : ∀ j : Nat, j < J.length → (rd_T30 J (j : Int)).f0 ≤ (t : Int)) (h : 0 < slCnt (slRunTo J fah n t).2.1) : slCnt (slRunTo J fah n (t + 2 * n)).2.1 < slCnt (slRunTo J fah n t).2.1 := by
  rcases Nat.lt_or_ge (slCnt (slRunTo J fah n (t + 2 * n)).2.1) (slCnt (slRunTo J fah n t).2.1) with hlt | hge
  · exact hlt
  · exfalso
    have hn := hJ.1
    have same : ∀ d, d ≤ 2 * n → (slRunTo J fah n (t + d)).2.1 = (slRunTo J fah n t).2.1 := fun d hd => by
      rcases (run_FM J fah n t d).2.1 with e | e
      · exact e
      · exfalso
        have h9 := (run_FM J fah n (t + d) (2 * n - d)).cnt
        rw [show t + d + (2 * n - d) = t + 2 * n by omega] at h9
        omega
    obtain ⟨j, hj, hjn⟩ := slCnt_ex h
    have hlen : (slRunTo J fah n t).2.1.length = J.length := (slRunTo_inv J fah n t).2.1
    have hok := hJ.2 j (by omega)
    obtain ⟨d, hd1, hd2⟩ := ring_steps n (0 + (t + n)) (by omega) _ hok.1 hok.2.1
    have hw := lv_run (fah := fah) hJ (t + n + d)
    have hb := (lv_run (fah := fah) hJ t).bound
    have h0 : rd (slRunTo J fah n (t + n + d)).1 0 = 0 := by
      have hr := hw.inv.2.2.2.1 0 (by omega)
      rcases Int.lt_or_le 0 (rd (slRunTo J fah n (t + n + d)).1 ((0 : Nat) : Int)) with hp | hz
      · exfalso
        obtain ⟨u, g1, g2, g3, _⟩ := hw.slot 0 (by omega) hp
        have e : nxTick (t + n + d) 0 0 = t + n + d := by unfold nxTick; rw [if_neg (by omega)]
        rw [e] at g2 g3
        obtain ⟨x, hx⟩ : ∃ x : Nat, rd (slRunTo J fah n (t + n + d)).1 ((0 : Nat) : Int) - 1 = (x : Int) := ⟨(rd (slRunTo J fah n (t + n + d)).1 ((0 : Nat) : Int) - 1).toNat, by omega⟩
        rw [hx, show t + n + d = t + (n + d) by omega, same (n + d) (by omega)] at g1
        have h9 := hb x (by omega)
        rw [if_pos rfl] at h9
        omega
      · have : rd (slRunTo J fah n (t + n + d)).1 ((0 : Nat) : Int) = 0 := by omega
        exact this
    have h9 := tick_first (fah := fah) (t := t + n + d) (by omega) j (by omega) h0 (by rw [show t + n + d = t + (n + d) by omega, same (n + d) (by omega)]; exact hjn) (by rw [← hd2, show 0 + (t + n) + d = 0 + (t + n + d) by omega]) (by have := htk j (by omega); omega)
    rw [show t + n + d + 1 = t + (n + d + 1) by omega, show t + n + d = t + (n + d) by omega, same (n + d + 1) (by omega), same (n + d) (by omega)] at h9
    omega
theorem windows {J : List S30} {fah : Bool} {n : Nat} (hJ : JOk J n) {t : Nat} (htk : ∀ j : Nat, j < J.length → (rd_T30 J (j : Int)).f0 ≤ (t : Int)) : ∀ i, slCnt (slRunTo J fah n (t + 2 * n * i)).2.1 ≤ J.length - i
  | 0 => by
    have h9 : slCnt (slRunTo J fah n t).2.1 ≤ (slRunTo J fah n t).2.1.length := List.countP_le_length
    rw [(slRunTo_inv J fah n t).2.1] at h9
    simpa using h9
  | i + 1 => by
    have ih := windows (fah := fah) hJ htk i
    rcases Nat.eq_zero_or_pos (slCnt (slRunTo J fah n (t + 2 * n * i)).2.1) with h0 | hp
    · have h9 := (run_FM J fah n (t + 2 * n * i) (2 * n)).cnt
      rw [show t + 2 * n * i + 2 * n = t + 2 * n * (i + 1) by rw [Nat.mul_add, Nat.mul_one]; omega] at h9
      omega
    · have h9 := window (fah := fah) hJ (t := t + 2 * n * i) (fun j hj => by have := htk j hj; omega) hp
      rw [show t + 2 * n * i + 2 * n = t + 2 * n * (i + 1) by rw [Nat.mul_add, Nat.mul_one]; omega] at h9
      omega
def AllFilled (J : List S30) (s : SlSt) : Prop := ∀ j : Nat, j < J.length → 0 ≤ rd s.2.1 (j : Int)
def AllRead (J : List S30) (s : SlSt) : Prop := ∀ j : Nat, j < J.length → 0 ≤ rd s.2.2 (j : Int)
theorem all_filled {J : List S30} {fah : Bool} {n : Nat} (hJ : JOk J n) {t : Nat} (htk : ∀ j : Nat, j < J.length → (rd_T30 J (j : Int)).f0 ≤ (t : Int)) : AllFilled J (slRunTo J fah n (t + 2 * n * J.length)) := fun j hj => by
  have h := windows (fah := fah) hJ htk J.length
  exact slCnt_zero (by omega) j (by rw [(slRunTo_inv J fah n _).2.1]; exact hj)
theorem all_read {J : List S30} {fah : Bool} {n : Nat} (hJ : JOk J n) {t : Nat} (htk : ∀ j : Nat, j < J.length → (rd_T30 J (j : Int)).f0 ≤ (t : Int)) : AllRead J (slRunTo J fah n (t + 2 * n * J.length + n)) := fun j hj => by
  obtain ⟨T, hT⟩ : ∃ T, t + 2 * n * J.length = T := ⟨_, rfl⟩
  have hF := all_filled (fah := fah) hJ htk j hj
  rw [hT] at hF ⊢
  rcases Int.lt_or_le (rd (slRunTo J fah n (T + n)).2.2 (j : Int)) 0 with hneg | hpos
  · exfalso
    have hw := lv_run (fah := fah) hJ (T + n)
    have hb := (lv_run (fah := fah) hJ T).bound j hj
    rw [if_pos rfl] at hb
    have hm := (run_FM J fah n T n).2.2.1 j (by rw [(slRunTo_inv J fah n T).2.1]; exact hj) hF
    obtain ⟨q, hq1, hq2⟩ := hw.lies j hj (by rw [hm]; exact hF) hneg
    obtain ⟨u, g1, g2, g3, _⟩ := hw.slot q hq1 (by omega)
    have e : nxTick (T + n) 0 q = T + n := by unfold nxTick; rw [if_neg (by omega)]
    rw [e] at g3
    rw [hq2, show (j : Int) + 1 - 1 = (j : Int) by omega, hm] at g1
    omega
  · exact hpos
theorem read_filled {J : List S30} {fah : Bool} {n : Nat} (hJ : JOk J n) {t : Nat} (h : AllRead J (slRunTo J fah n t)) : AllFilled J (slRunTo J fah n t) := fun j hj => by
  rcases Int.lt_or_le (rd (slRunTo J fah n t).2.1 (j : Int)) 0 with hneg | hpos
  · have := (lv_run (fah := fah) hJ t).un j hj hneg
    have := h j hj
    omega
  · exact hpos
theorem slOne_still {J : List S30} {fah : Bool} {t : Int} {k : Nat} {a : Int} {s : SlSt} (hF : AllFilled J s) (hR : AllRead J s) (hv : rd s.1 (k : Int) ≤ J.length) : (slOne J fah t k a s).2 = s.2 := by
  have h1 : ¬ 0 ≤ slFill J fah t s.2.1 s.2.2 a (rd s.1 (k : Int)) := fun c => by
    obtain ⟨i, c1, c2, c3⟩ := slFill_in c
    unfold slWaits at c3
    simp only [Bool.and_eq_true, decide_eq_true_eq] at c3
    have := hF i c2
    omega
  have h2 : ¬ slHit J s.2.2 a (rd s.1 (k : Int)) = true := fun c => by
    obtain ⟨p1, p2, p3⟩ := slHit_pos' c
    obtain ⟨x, hx⟩ : ∃ x : Nat, rd s.1 (k : Int) - 1 = (x : Int) := ⟨(rd s.1 (k : Int) - 1).toNat, by omega⟩
    rw [hx] at p3
    have := hR x (by omega)
    omega
  refine Prod.ext ?_ ?_
  · show (if _ then _ else _ : List Int) = _
    rw [if_neg h1]
  · show (if _ then _ else _ : List Int) = _
    rw [if_neg h2]
theorem slTo_still {J : List S30} {fah : Bool} {n t : Nat} {s : SlSt} (hi : SlInv n J.length s) (hF : AllFilled J s) (hR : AllRead J s) : ∀ m, m ≤ n → (slTo J fah (t : Int) n s m).2 = s.2
  | 0, _ => rfl
  | m + 1, hm => by
    have ih := slTo_still (fah := fah) (t := t) hi hF hR m (by omega)
    have hi' := slTo_inv (fah := fah) (t := (t : Int)) (by omega) hi m (by omega)
    rw [slTo]
    rw [slOne_still (by unfold AllFilled; rw [ih]; exact hF) (by unfold AllRead; rw [ih]; exact hR) (hi'.2.2.2.1 m (by omega)).2]
    exact ih
theorem run_still {J : List S30} {fah : Bool} {n t : Nat} (hF : AllFilled J (slRunTo J fah n t)) (hR : AllRead J (slRunTo J fah n t)) : ∀ d, (slRunTo J fah n (t + d)).2 = (slRunTo J fah n t).2
  | 0 => rfl
  | d + 1 => by
    have ih := run_still hF hR d
    rw [← Nat.add_assoc, slRunTo, slTo_still (slRunTo_inv J fah n _) (by unfold AllFilled; rw [ih]; exact hF) (by unfold AllRead; rw [ih]; exact hR) n (Nat.le_refl _)]
    exact ih
end Go.Proofs.Ytgkbeejkbhhjkaa.X

/- Plain lemmas: whether a number is among others. -/
namespace Go.Proofs.Ytgkbeejkbhhjkaa.X
set_option linter.unusedSimpArgs false
set_option linter.unusedVariables false
open Go.RowKit Go.Proofs.YtgkbeejkbhhjkaaW.PrintWords
theorem index_ev (l : List Int) (n : Int) (hl : l.length ≤ 9223372036854775806) : ∃ r : Int, Ev (fun k => slices_Index_int_int.f k l n) r ∧ decide (r ≥ 0) = l.contains n := by
  cases hc : l.contains n with
  | false =>
    refine ⟨-1, ?_, rfl⟩
    have key := evUp0 l.length (fun k (_ : Unit) (i : Nat) => slices_Index_int_int.l0 k l n (l.length : Int) (i : Int)) (fun _ _ => True) (-1) () trivial
      (by
        intro i s hi _
        refine .inl ⟨(), trivial, fun h => evNext (fun k => ?_) h⟩
        show slices_Index_int_int.l0 (k + 1) l n (l.length : Int) (i : Int) = slices_Index_int_int.l0 k l n (l.length : Int) (i + 1 : Nat)
        have hne : ¬ n = l[i] := by
          intro e
          have : l.contains n = true := by rw [e]; simp
          rw [this] at hc
          cases hc
        simp only [slices_Index_int_int.l0]
        rw [if_pos (by omega), if_pos (by omega), if_pos (by omega), rd_at l i hi, if_neg hne, w64 (by omega) (by omega)]
        rfl)
      (by
        intro s _
        refine evEnd fun k => ?_
        show slices_Index_int_int.l0 (k + 1) l n (l.length : Int) (l.length : Int) = _
        simp only [slices_Index_int_int.l0]
        rw [if_neg (by omega)])
    exact key
  | true =>
    have hex : ∃ i : Nat, ∃ h : i < l.length, n = l[i] ∧ ∀ j (hj : j < i), ¬ n = l[j] := by
      clear hl
      induction l with
      | nil => simp at hc
      | cons x xs ih =>
        by_cases e : n = x
        · exact ⟨0, by simp, by simpa using e, fun j hj => absurd hj (by omega)⟩
        · have : xs.contains n = true := by
            rw [List.contains_cons] at hc
            have : (n == x) = false := by simpa using e
            rw [this] at hc
            simpa using hc
          obtain ⟨i, h, h1, h2⟩ := ih this
          refine ⟨i + 1, by simp; omega, by simpa using h1, fun j hj => ?_⟩
          cases j with
          | zero => simpa using e
          | succ j => simpa using h2 j (by omega)
    obtain ⟨m, hm, h1, h2⟩ := hex
    refine ⟨(m : Int), ?_, by simp⟩
    have key := evUp m (fun k (_ : Unit) (i : Nat) => slices_Index_int_int.l0 k l n (l.length : Int) (i : Int)) (fun _ _ => True) (m : Int)
      (by
        intro i s hi _
        refine .inl ⟨(), trivial, fun h => evNext (fun k => ?_) h⟩
        show slices_Index_int_int.l0 (k + 1) l n (l.length : Int) (i : Int) = slices_Index_int_int.l0 k l n (l.length : Int) (i + 1 : Nat)
        simp only [slices_Index_int_int.l0]
        rw [if_pos (by omega), if_pos (by omega), if_pos (by omega), rd_at l i (by omega), if_neg (h2 i hi), w64 (by omega) (by omega)]
        rfl)
      (by
        intro s _
        refine evEnd fun k => ?_
        show slices_Index_int_int.l0 (k + 1) l n (l.length : Int) (m : Int) = _
        simp only [slices_Index_int_int.l0]
        rw [if_pos (by omega), if_pos (by omega), if_pos (by omega), rd_at l m hm, if_pos h1]) 0 () (by omega) trivial
    exact key
theorem contains_ev (l : List Int) (n : Int) (hl : l.length ≤ 9223372036854775806) : Ev (fun k => slices_Contains_int_int.f k l n) (l.contains n) := by
  obtain ⟨r, h1, h2⟩ := index_ev l n hl
  exact evEq (Ev.bind h1 (Ev.now _)) h2
end Go.Proofs.Ytgkbeejkbhhjkaa.X

/- Slot rings: the program and the reference come to the same. -/
namespace Go.Proofs.Ytgkbeejkbhhjkaa.X
set_option linter.unusedSimpArgs false
set_option linter.unusedVariables false
open Go.RowKit Go.Proofs.YtgkbeejkbhhjkaaW.PrintWords
abbrev MSG := S30
theorem isSl_ok {n : Nat} {J : List MSG} (h : isSl (n : Int) J = true) : JOk J n ∧ (2 ≤ n ∧ n ≤ 12) ∧ J.length ≤ 20 := by
  obtain ⟨hn, hl, ha⟩ := isSl_at h
  refine ⟨⟨by omega, fun i hi => ?_⟩, by omega, hl⟩
  have := ha i hi
  exact ⟨this.2.2.1, by omega, this.2.2.2.2.1, by omega, this.2.2.2.2.2.2⟩
theorem last_tick {n : Int} {J : List MSG} (h : isSl n J = true) : ∀ (d i : Nat), i + d + 1 = J.length → (rd_T30 J (i : Int)).f0 ≤ (rd_T30 J ((J.length - 1 : Nat) : Int)).f0
  | 0, i, hi => by rw [show J.length - 1 = i by omega]; exact Int.le_refl _
  | d + 1, i, hi => Int.le_trans (isSl_sorted h i (by omega)) (last_tick h d (i + 1) (by omega))
/-- The reference's run is long enough. -/
theorem ticks_ok {n : Nat} {J : List MSG} (b : Bool) (h : isSl (n : Int) J = true) : ∃ B : Nat, spec_slTicks.f (n : Int) b J = some (B : Int) ∧ B ≤ 9000 ∧ AllRead J (slRunTo J b n B) := by
  obtain ⟨hJ, hn, hl⟩ := isSl_ok h
  by_cases h0 : J.length = 0
  · refine ⟨0, ?_, by omega, fun j hj => by omega⟩
    unfold spec_slTicks.f
    rw [if_pos (by omega)]
    rfl
  · obtain ⟨hn1, hl1, ha⟩ := isSl_at h
    have hlast := ha (J.length - 1) (by omega)
    obtain ⟨t, ht⟩ : ∃ t : Nat, (rd_T30 J ((J.length - 1 : Nat) : Int)).f0 = (t : Int) := ⟨(rd_T30 J ((J.length - 1 : Nat) : Int)).f0.toNat, by omega⟩
    have hm : 2 * n * (J.length + 1) ≤ 24 * 21 := Nat.mul_le_mul (by omega) (by omega)
    have hm2 : 2 * n * (J.length + 1) = 2 * n * J.length + 2 * n := by rw [Nat.mul_add, Nat.mul_one]
    refine ⟨t + 2 * n * (J.length + 1), ?_, by omega, ?_⟩
    · unfold spec_slTicks.f
      have e1 := Aside0.mk (show wrap64 ((J.length : Int) - 1) = ((J.length - 1 : Nat) : Int) by rw [w64 (by omega) (by omega)]; omega)
      have e2 := Aside0.mk (show wrap64 (2 * (n : Int)) = ((2 * n : Nat) : Int) by rw [w64 (by omega) (by omega)]; omega)
      have e3 := Aside0.mk (show wrap64 ((J.length : Int) + 1) = ((J.length + 1 : Nat) : Int) by rw [w64 (by omega) (by omega)]; omega)
      have e4 : ((2 * n : Nat) : Int) * ((J.length + 1 : Nat) : Int) = ((2 * n * (J.length + 1) : Nat) : Int) := (Int.natCast_mul _ _).symm
      obtain ⟨p, hp⟩ : ∃ p, 2 * n * (J.length + 1) = p := ⟨_, rfl⟩
      rw [hp] at hm e4 ⊢
      rw [if_neg (by omega), e1.out, e2.out, e3.out, e4, ht, if_pos (by omega), if_pos (by omega), w64 (x := (p : Int)) (by omega) (by omega), w64 (by omega) (by omega)]
      congr 1
    · have hR := all_read (fah := b) hJ (t := t) (fun j hj => by rw [← ht]; exact last_tick h (J.length - 1 - j) j (by omega))
      have hF := read_filled hJ hR
      have hs := run_still hF hR n
      rw [show t + 2 * n * J.length + n + n = t + 2 * n * (J.length + 1) by omega] at hs
      intro j hj
      rw [hs]
      exact hR j hj
theorem contains_read {n : Nat} {J : List MSG} {b : Bool} (hJ : JOk J n) (t : Nat) : (slRunTo J b n t).2.2.contains (-1) = false ↔ AllRead J (slRunTo J b n t) := by
  have hl := (slRunTo_inv J b n t).2.2.1
  constructor
  · intro h j hj
    rcases Int.lt_or_le (rd (slRunTo J b n t).2.2 (j : Int)) 0 with hneg | hpos
    · exfalso
      have hlow := (lv_run (fah := b) hJ t).low j hj
      have e : rd (slRunTo J b n t).2.2 (j : Int) = -1 := by omega
      rw [rd_at _ j (by omega)] at e
      have : (slRunTo J b n t).2.2.contains (-1) = true := by rw [List.contains_iff_mem, ← e]; exact List.getElem_mem _
      rw [this] at h
      cases h
    · exact hpos
  · intro h
    cases hc : (slRunTo J b n t).2.2.contains (-1) with
    | false => rfl
    | true =>
      exfalso
      rw [List.contains_iff_mem] at hc
      obtain ⟨i, hi, e⟩ := List.getElem_of_mem hc
      have h9 := h i (by omega)
      rw [rd_at _ i hi, e] at h9
      omega
theorem slotted_l0 {n : Nat} {J : List MSG} {b : Bool} (hJ : JOk J n) (hl : J.length ≤ 20) (B : Nat) (hB : B ≤ 9000) (hR : AllRead J (slRunTo J b n B)) : ∀ d t, t + d = B → Ev (fun k => impl_slotted.l0 J b n k t) (slRunTo J b n B).2 := by
  have hn := hJ.1
  have hfin : ∀ d t, t + d = B → AllRead J (slRunTo J b n t) → (slRunTo J b n B).2 = (slRunTo J b n t).2 := fun d t hd h => by rw [← hd]; exact run_still (read_filled hJ h) h d
  have hc : ∀ t, Ev (fun k => slices_Contains_int_int.f k (slImTo J b n t).2.2 (-1)) ((slRunTo J b n t).2.2.contains (-1)) := fun t => by
    rw [run_same J b n (by omega) t]
    exact contains_ev _ _ (by have := (slRunTo_inv J b n t).2.2.1; omega)
  intro d
  induction d with
  | zero =>
    intro t ht
    obtain rfl : t = B := by omega
    refine evCallEnd (hc t) (fun k hk => ?_)
    rw [impl_slotted.l0, hk, (contains_read hJ t).2 hR, run_same J b n (by omega) t]
    rfl
  | succ d ih =>
    intro t ht
    cases hct : (slRunTo J b n t).2.2.contains (-1) with
    | false =>
      have h9 := hfin (d + 1) t ht ((contains_read hJ t).1 hct)
      refine evCallEnd (hc t) (fun k hk => ?_)
      rw [impl_slotted.l0, hk, hct, run_same J b n (by omega) t, h9]
      rfl
    | true =>
      refine evCall (hc t) (fun k hk => ?_) (ih (t + 1) (by omega))
      rw [impl_slotted.l0, hk, hct]
      simp only [Option.bind_some, if_true]
      rw [if_pos (by omega)]
theorem slotted_ev {n : Nat} {J : List MSG} (b : Bool) (h : isSl (n : Int) J = true) (B : Nat) (hB : B ≤ 9000) (hR : AllRead J (slRunTo J b n B)) : Ev (fun k => impl_slotted.f k (n : Int) b J) (slRunTo J b n B).2 := by
  obtain ⟨hJ, hn, hl⟩ := isSl_ok h
  refine Ev.congr (fun k => ?_) (slotted_l0 hJ hl B hB hR B 0 (by omega))
  unfold impl_slotted.f
  rw [if_pos ⟨by omega, by omega, hl⟩, Int.toNat_natCast]
theorem filled_ev {n : Nat} {J : List MSG} (b : Bool) (h : isSl (n : Int) J = true) (hL : J.length ≤ 1048576) (B : Nat) (hB : B ≤ 9000) (hR : AllRead J (slRunTo J b n B)) : Ev (fun k => impl_FilledAt.f k (n : Int) b J) ((slRunTo J b n B).2.1, true) := by
  obtain ⟨K2, e2⟩ := implSlotted_ev (n : Int) b J hL
  obtain ⟨K3, e3⟩ := slotted_ev b h B hB hR
  dsimp only at e2 e3
  rw [h] at e2
  refine ⟨K2 + K3, fun k hk => ?_⟩
  simp (disch := omega) only [impl_FilledAt.f, e2, e3, Option.bind_some, if_true]
theorem isTick_eq (t : Int) : impl_isSlotTick.f t = some (inB 0 400 t) := by simp [impl_isSlotTick.f, within_eq]
/-- A message has not been filled in behind a tick: it is filled in later. -/
theorem later_iff {n : Nat} {J : List MSG} {b : Bool} (hJ : JOk J n) (B t : Nat) (hR : AllRead J (slRunTo J b n B)) (i : Nat) (hi : i < J.length) : rd (slRunTo J b n (t + 1)).2.1 (i : Int) < 0 ↔ (t : Int) < rd (slRunTo J b n B).2.1 (i : Int) := by
  have hF := read_filled hJ hR
  have hl1 := (slRunTo_inv J b n (t + 1)).2.1
  rcases Nat.le_total (t + 1) B with hle | hle
  · have hm := run_FM J b n (t + 1) (B - (t + 1))
    rw [show t + 1 + (B - (t + 1)) = B by omega] at hm
    constructor
    · intro h
      rcases hm.2.2.2 i (by omega) h with h9 | h9
      · have := hF i hi
        omega
      · omega
    · intro h
      rcases Int.lt_or_le (rd (slRunTo J b n (t + 1)).2.1 (i : Int)) 0 with hneg | hpos
      · exact hneg
      · exfalso
        have e := hm.2.2.1 i (by omega) hpos
        have hb := (lv_run (fah := b) hJ (t + 1)).bound i hi
        rw [if_pos rfl] at hb
        omega
  · have hs := run_still hF hR (t + 1 - B)
    rw [show B + (t + 1 - B) = t + 1 by omega] at hs
    rw [hs]
    have h9 := hF i hi
    have hb := (lv_run (fah := b) hJ B).bound i hi
    rw [if_pos rfl] at hb
    constructor <;> intro h <;> omega
theorem queue_ev {n : Nat} {J : List MSG} {b : Bool} (hJ : JOk J n) (hl : J.length ≤ 20) (B t : Nat) (s : Int) (hR : AllRead J (slRunTo J b n B)) : Ev (fun k => impl_QueueAt.l0 k s (t : Int) (slRunTo J b n B).2.1 [] J (J.length : Int) 0) (slQueue J (slRunTo J b n (t + 1)).2.1 s (t : Int) J.length, true) := by
  obtain ⟨fB, hfB⟩ : ∃ q, (slRunTo J b n B).2.1 = q := ⟨_, rfl⟩
  obtain ⟨f1, hf1⟩ : ∃ q, (slRunTo J b n (t + 1)).2.1 = q := ⟨_, rfl⟩
  have hlB : fB.length = J.length := by rw [← hfB]; exact (slRunTo_inv J b n B).2.1
  have hlat : ∀ i : Nat, i < J.length → (rd f1 (i : Int) < 0 ↔ (t : Int) < rd fB (i : Int)) := fun i hi => by rw [← hfB, ← hf1]; exact later_iff hJ B t hR i hi
  rw [hfB, hf1]
  have key := evUp0 J.length (fun k (q : List Int) (i : Nat) => impl_QueueAt.l0 k s (t : Int) fB q J (J.length : Int) (i : Int)) (fun i q => q = slQueue J f1 s (t : Int) i) (slQueue J f1 s (t : Int) J.length, true) [] rfl
    (by
      intro i q hi hI
      have hql := slQueue_len J f1 s (t : Int) i
      refine .inl ⟨slQueue J f1 s (t : Int) (i + 1), rfl, fun h => evNext (fun k => ?_) h⟩
      show impl_QueueAt.l0 (k + 1) s (t : Int) fB q J (J.length : Int) (i : Int) = impl_QueueAt.l0 k s (t : Int) fB (slQueue J f1 s (t : Int) (i + 1)) J (J.length : Int) ((i + 1 : Nat) : Int)
      rw [impl_QueueAt.l0.eq_2, if_pos (by omega), if_pos (by omega), if_pos (by omega), w64 (by omega) (by omega), slQueue, hI]
      have hL := hlat i hi
      have e9 : ((i : Int) + 1) = ((i + 1 : Nat) : Int) := by omega
      rw [e9]
      by_cases w1 : (rd_T30 J (i : Int)).f1 = s
      · rw [if_pos w1]
        by_cases w2 : (rd_T30 J (i : Int)).f0 ≤ (t : Int)
        · rw [if_pos w2, if_pos (by omega)]
          by_cases w3 : (t : Int) < rd fB (i : Int)
          · have hw : slWaits J (t : Int) f1 s i = true := by
              unfold slWaits
              rw [decide_eq_true w1, decide_eq_true w2, decide_eq_true (hL.2 w3)]
              rfl
            rw [if_pos w3, if_pos (by omega), if_pos hw]
          · have hw : slWaits J (t : Int) f1 s i = false := by
              unfold slWaits
              rw [decide_eq_true w1, decide_eq_true w2, decide_eq_false (fun e => w3 (hL.1 e))]
              rfl
            rw [if_neg w3, if_neg (by rw [hw]; simp)]
        · have hw : slWaits J (t : Int) f1 s i = false := by
            unfold slWaits
            rw [decide_eq_true w1, decide_eq_false w2]
            rfl
          rw [if_neg w2, if_neg (by rw [hw]; simp)]
      · have hw : slWaits J (t : Int) f1 s i = false := by
          unfold slWaits
          rw [decide_eq_false w1]
          rfl
        rw [if_neg w1, if_neg (by rw [hw]; simp)])
    (by
      intro q hI
      refine evEnd fun k => ?_
      show impl_QueueAt.l0 (k + 1) s (t : Int) fB q J (J.length : Int) (J.length : Int) = _
      rw [impl_QueueAt.l0.eq_2, if_neg (by omega), hI])
  exact key
theorem QueueAt_same (n : Int) (b : Bool) (L : List S25) (s t : Int) (h : (Lit.int .i64 n).wf = true ∧ L.length ≤ maxLen ∧ (∀ x ∈ L, (Lit.int .i64 x.f0).wf = true ∧ (Lit.int .i64 x.f1).wf = true ∧ (Lit.int .i64 x.f2).wf = true) ∧ (Lit.int .i64 s).wf = true ∧ (Lit.int .i64 t).wf = true ∧ L.length ≤ 1048576) :
    ∃ v, Ev (fun k => spec_QueueAt.f k n b (toL L) s t) v ∧ Ev (fun k => impl_QueueAt.f k n b (toL L) s t) v ∧ v.1.length ≤ 1000000 := by
  have htl := toL_length L
  generalize toL L = J at htl ⊢
  obtain ⟨K1, e1⟩ := specMsgs_ev n b J (by omega)
  obtain ⟨K2, e2⟩ := implSlotted_ev n b J (by omega)
  dsimp only at e1 e2
  have hj0 : ∀ x10 : List Int, Ev (fun k => impl_QueueAt.j0 k J s t x10 true) (([] : List Int), false) := fun x10 => evEnd fun k => by rw [impl_QueueAt.j0.eq_2, if_pos rfl]
  cases hs : isSl n J with
  | false =>
    rw [hs] at e1 e2
    obtain ⟨K3, e3⟩ := hj0 []
    dsimp only at e3
    exact ⟨([], false), ⟨K1, fun k hk => by simp (disch := omega) [spec_QueueAt.f, e1]⟩, ⟨K2 + K3, fun k hk => by simp (disch := omega) [impl_QueueAt.f, impl_FilledAt.f, e2, e3]⟩, by simp⟩
  | true =>
    rw [hs] at e1
    obtain ⟨hn, hl, ha⟩ := isSl_at hs
    obtain ⟨n, rfl⟩ : ∃ m : Nat, n = (m : Int) := ⟨n.toNat, by omega⟩
    obtain ⟨B, hB1, hB2, hB3⟩ := ticks_ok b hs
    obtain ⟨K3, e3⟩ := filled_ev b hs (by omega) B hB2 hB3
    dsimp only at e3
    cases hb1 : inB 0 (wrap64 ((n : Int) - 1)) s with
    | false =>
      obtain ⟨K4, e4⟩ := hj0 (slRunTo J b n B).2.1
      dsimp only at e4
      exact ⟨([], false), ⟨K1, fun k hk => by simp (disch := omega) [spec_QueueAt.f, e1, l1In_eq, hb1]⟩, ⟨K3 + K4, fun k hk => by simp (disch := omega) [impl_QueueAt.f, e3, e4, within_eq, hb1]⟩, by simp⟩
    | true =>
      cases hb : inB 0 400 t with
      | false =>
        obtain ⟨K4, e4⟩ := hj0 (slRunTo J b n B).2.1
        dsimp only at e4
        exact ⟨([], false), ⟨K1, fun k hk => by simp (disch := omega) [spec_QueueAt.f, e1, l1In_eq, hb1, hb]⟩, ⟨K3 + K4, fun k hk => by simp (disch := omega) [impl_QueueAt.f, e3, e4, within_eq, isTick_eq, hb1, hb]⟩, by simp⟩
      | true =>
        have ht := inB_iff.1 hb
        obtain ⟨t, rfl⟩ : ∃ m : Nat, t = (m : Int) := ⟨t.toNat, by omega⟩
        have hq := queue_ev (b := b) (isSl_ok hs).1 hl B t s hB3
        have hjq : Ev (fun k => impl_QueueAt.j0 k J s (t : Int) (slRunTo J b n B).2.1 false) (slQueue J (slRunTo J b n (t + 1)).2.1 s (t : Int) J.length, true) := evNext (fun k => by rw [impl_QueueAt.j0.eq_2, if_neg (by simp)]) hq
        obtain ⟨K4, e4⟩ := hjq
        dsimp only at e4
        refine ⟨(slQueue J (slRunTo J b n (t + 1)).2.1 s (t : Int) J.length, true), ⟨K1, fun k hk => ?_⟩, ⟨K3 + K4, fun k hk => ?_⟩, ?_⟩
        · dsimp only
          unfold spec_QueueAt.f
          rw [e1 k (by omega), l1In_eq, l1In_eq, hb, hb1]
          simp only [Option.bind_some, if_true]
          rw [if_pos ⟨by omega, by omega, hl, by omega, by omega⟩, Int.toNat_natCast, Int.toNat_natCast]
        · simp (disch := omega) only [impl_QueueAt.f, e3, within_eq, isTick_eq, hb, hb1, Option.bind_some, if_true, Bool.not_true, e4]
        · have := slQueue_len J (slRunTo J b n (t + 1)).2.1 s (t : Int) J.length
          show (slQueue J (slRunTo J b n (t + 1)).2.1 s (t : Int) J.length).length ≤ _
          omega
end Go.Proofs.Ytgkbeejkbhhjkaa.X

/- Plain lemmas: the laws' marks on slices of Messages. -/
namespace Go.Proofs.Ytgkbeejkbhhjkaa.X
set_option linter.unusedSimpArgs false
set_option linter.unusedVariables false
open Go.RowKit Go.Proofs.YtgkbeejkbhhjkaaW.PrintWords
def marksS (n : Nat) (a : Int) : List S30 := (List.range n).map (fun (j : Nat) => ⟨a + 3 * (j : Int), a + 3 * (j : Int) + 1, a + 3 * (j : Int) + 2⟩)
theorem marksS_length (n : Nat) (a : Int) : (marksS n a).length = n := by simp [marksS]
theorem markS_ev (l : List S30) (a : Int) (h0 : 0 ≤ a ∧ a ≤ 1000000) (h1 : l.length ≤ 1048576) : Ev (fun k => laws_markMessageS.f k l a) (a + 3 * (l.length : Int), marksS l.length a) := by
  have key := evUp0 l.length (fun k (s : List S30) (i : Nat) => laws_markMessageS.l0 k s (a + 3 * (i : Int)) (i : Int)) (fun i s => s = (marksS l.length a).take i ++ l.drop i) (a + 3 * (l.length : Int), marksS l.length a) l (by simp)
    (by
      intro i s hi hI
      have hsl : s.length = l.length := by rw [hI]; simp [marksS_length]; omega
      refine .inl ⟨(marksS l.length a).take (i + 1) ++ l.drop (i + 1), rfl, fun h => evNext (fun k => ?_) h⟩
      show laws_markMessageS.l0 (k + 1) s (a + 3 * (i : Int)) (i : Int) = laws_markMessageS.l0 k _ (a + 3 * ((i + 1 : Nat) : Int)) (i + 1 : Nat)
      simp only [laws_markMessageS.l0, Option.bind_some]
      rw [if_pos (by omega), if_pos (by omega)]
      simp (disch := omega) only [w64, Int.toNat_natCast]
      rw [rdS_at s i (by omega), rdS_at _ i (by simp; omega), rdS_at _ i (by simp; omega)]
      simp only [List.getElem_set_self, List.set_set]
      congr 1
      · subst hI
        have hm : i < (marksS l.length a).length := by rw [marksS_length]; exact hi
        rw [List.take_succ_eq_append_getElem hm, List.append_assoc, List.set_append_right _ _ (by simp; omega)]
        congr 1
        have e1 : (List.take i (marksS l.length a)).length = i := by simp [marksS_length]; omega
        rw [e1, Nat.sub_self, List.drop_eq_getElem_cons hi, List.set_cons_zero]
        simp only [marksS, List.getElem_map, List.getElem_range]
        show _ = [_] ++ _
        rw [List.singleton_append]
        congr 2
        omega
      · omega)
    (by
      intro s hI
      refine evEnd fun k => ?_
      show laws_markMessageS.l0 (k + 1) s (a + 3 * ((l.length : Nat) : Int)) ((l.length : Nat) : Int) = _
      have hsl : s.length = l.length := by rw [hI]; simp [marksS_length]
      simp only [laws_markMessageS.l0]
      rw [if_neg (by omega), hI, List.take_of_length_le (by rw [marksS_length]; exact Nat.le_refl _)]
      simp)
  refine Ev.congr (fun k => ?_) key
  unfold laws_markMessageS.f
  simp
end Go.Proofs.Ytgkbeejkbhhjkaa.X

/- QueueAt answers as the reference does, for every input: the pure statement. -/
namespace Go.Proofs.Ytgkbeejkbhhjkaa.Pure
set_option linter.unusedSimpArgs false
set_option linter.unusedVariables false
set_option linter.unusedSimpArgs false
open Go.RowKit Go.Proofs.Ytgkbeejkbhhjkaa.X Go.Proofs.YtgkbeejkbhhjkaaW.PrintWords Go.Proofs.YtgkbeejkbhhjkaaW.PrintLast
set_option maxHeartbeats 1000000 in
theorem FnExactQueueAt : ∀ (a0_0 : Int) (a0_1 : Bool) (l1 : List S25) (a2 : Int) (a3 : Int), (Lit.int .i64 a0_0).wf = true → l1.length ≤ maxLen → (∀ x ∈ l1, (Lit.int .i64 x.f0).wf = true ∧ (Lit.int .i64 x.f1).wf = true ∧ (Lit.int .i64 x.f2).wf = true) → (Lit.int .i64 a2).wf = true → (Lit.int .i64 a3).wf = true → ∃ k, laws_FnExactQueueAt.f k a0_0 a0_1 l1 a2 a3 = some true := by
  intro a0_0 a0_1 l1 a2 a3 h0_ h1_ h2_ h3_ h4_
  by_cases hs : 1048576 < l1.length
  · exact ⟨9, by simp [laws_FnExactQueueAt.f, sz_big l1 (by omega) (by unfold maxLen at *; omega)]⟩
  have hm : l1.length ≤ 1048576 := by omega
  obtain ⟨⟨r, b⟩, hS, hI, hr⟩ := QueueAt_same a0_0 a0_1 l1 a2 a3 (by first | exact ⟨h0_, h1_, h2_, h3_, h4_, hm⟩ | trivial)
  obtain ⟨K1, e1⟩ := hS
  obtain ⟨K2, e2⟩ := hI
  dsimp only at hr
  obtain ⟨K3, e3⟩ := eqIntS_ev r r (by omega)
  obtain ⟨K4, e4⟩ := markIntS_ev r 1 (by omega) (by omega)
  obtain ⟨K5, e5⟩ := heldIntS_ev r.length 1 (by omega) (by omega)
  have htl_l1 := toL_length l1
  obtain ⟨K6, e6⟩ := markS_ev (toL l1) (1) (by omega) (by omega)
  have n_k : ¬ (1 + 3 * ((toL l1).length : Int) < 0) := by omega
  have n_r : ¬ (1 + (r.length : Int) < 0) := by omega
  have es_l1 := sz_small l1 (by omega)
  have ns_l1 : ¬ (1048576 - (l1.length : Int) < 0) := by omega
  obtain ⟨K7, e7⟩ := toS_ev l1 (by omega)
  -- structs
  obtain ⟨K8, e8⟩ := eqS_ev (toL l1) (by rw [toL_length]; omega)
  dsimp only at e1 e2 e3 e4 e5 e6 e7 e8
  refine ⟨K1 + K2 + K3 + K4 + K5 + K6 + K7 + K8 + 9, ?_⟩
  simp (disch := omega) only [laws_FnExactQueueAt.f, laws_toSlotRing.f, e1, e2, e3, e4, e5, e6, e7, e8, es_l1, n_k, n_r, ns_l1, Option.bind_some, eq_self, decide_true, bne_self_eq_false, Bool.false_eq_true, Bool.not_true, Bool.not_false, ↓reduceIte]
  all_goals (try rw [laws_FnExactQueueAt.j0.eq_2])
  all_goals (try simp (disch := omega) only [laws_FnExactQueueAt.f, laws_toSlotRing.f, e1, e2, e3, e4, e5, e6, e7, e8, es_l1, n_k, n_r, ns_l1, Option.bind_some, eq_self, decide_true, bne_self_eq_false, Bool.false_eq_true, Bool.not_true, Bool.not_false, ↓reduceIte])
  all_goals (try rw [laws_FnExactQueueAt.j1.eq_2])
  all_goals (try simp (disch := omega) only [laws_FnExactQueueAt.f, laws_toSlotRing.f, e1, e2, e3, e4, e5, e6, e7, e8, es_l1, n_k, n_r, ns_l1, Option.bind_some, eq_self, decide_true, bne_self_eq_false, Bool.false_eq_true, Bool.not_true, Bool.not_false, ↓reduceIte])
  all_goals (try rw [laws_FnExactQueueAt.j2.eq_2])
  all_goals (try simp (disch := omega) only [laws_FnExactQueueAt.f, laws_toSlotRing.f, e1, e2, e3, e4, e5, e6, e7, e8, es_l1, n_k, n_r, ns_l1, Option.bind_some, eq_self, decide_true, bne_self_eq_false, Bool.false_eq_true, Bool.not_true, Bool.not_false, ↓reduceIte])
end Go.Proofs.Ytgkbeejkbhhjkaa.Pure

/- Plain lemmas for the rows: a slice of structs of three whole numbers that came in, opened to cells. -/
namespace Go.Proofs.Ytgkbeejkbhhjkaa.Rw
open Go.ChangeShapes Go.WideShapes Go.Deep Go.RowKit
section
variable {H : Type} {enc : TypeId × Value → H} {P : Program} {w : World} {base : Nat} {spare : Nat → Bool} {held : Bool}
theorem trod_int_mk {t : TypeId} {k : IntKind} {n : Int} (h : P.underlying t = some (.int k)) (hw : (Lit.int k n).wf = true) : ∃ m, DataW.trod enc P w base spare held m t [.int k n] = some (.lit (.int k n), []) := ⟨1, by simp [DataW.trod, h, hw]⟩
theorem trod_bool_mk {t : TypeId} {b : Bool} (h : P.underlying t = some .bool) : ∃ m, DataW.trod enc P w base spare held m t [.bool b] = some (.lit (.bool b), []) := ⟨1, by simp [DataW.trod, h]⟩
def numAt (w : World) (a : Addr) : Int := match w.cell? a with
  | some (.int _ n) => n
  | _ => 0
theorem open_rows3 {t e : TypeId} {f0 f1 f2 : Field} {fuel : Nat} {A : Option Addr} {len cap : Nat} {x : DataW H × List MemPlace} (ht : P.underlying t = some (.slice e)) (he : P.underlying e = some (.struct #[f0, f1, f2]))
    (hone : oneCellFields P #[f0, f1, f2] = true) (hC : P.cellsOf e = 3) (h0 : P.underlying f0.type = some (.int .i64)) (h1 : P.underlying f1.type = some (.int .i64)) (h2 : P.underlying f2.type = some (.int .i64))
    (h : DataW.trod enc P w base spare held fuel t [.slice A len cap] = some x) :
    len ≤ cap ∧ len ≤ 9223372036854775807 ∧ ∃ l : List (Int × Int × Int), l.length = len ∧ (∀ p ∈ l, (Lit.int .i64 p.1).wf = true ∧ (Lit.int .i64 p.2.1).wf = true ∧ (Lit.int .i64 p.2.2).wf = true) ∧
      (0 < len → ∃ ad, A = some ad ∧ ∀ j p, l[j]? = some p → w.cell? (ad.add (j * 3 + 0)) = some (.int .i64 p.1) ∧ w.cell? (ad.add (j * 3 + 1)) = some (.int .i64 p.2.1) ∧ w.cell? (ad.add (j * 3 + 2)) = some (.int .i64 p.2.2)) := by
  rcases open_slice ht h with ⟨hcs, _⟩ | ⟨a, len', cap', m, n, D, Pl, hcs, hb, hl, hm, hmm, hx, hi⟩
  · injection hcs with hcs
    injection hcs with ha hl hc
    subst ha hl hc
    exact ⟨Nat.le_refl _, by omega, [], rfl, by simp, fun h => absurd h (by omega)⟩
  · injection hcs with hcs
    injection hcs with ha hl' hc'
    subst ha hl' hc'
    have hml : len ≤ m := by rw [hmm]; split <;> omega
    have key : ∀ i, i < len → ∃ n0 n1 n2 : Int, w.cell? (a.add (i * 3 + 0)) = some (.int .i64 n0) ∧ w.cell? (a.add (i * 3 + 1)) = some (.int .i64 n1) ∧ w.cell? (a.add (i * 3 + 2)) = some (.int .i64 n2) ∧
        (Lit.int .i64 n0).wf = true ∧ (Lit.int .i64 n1).wf = true ∧ (Lit.int .i64 n2).wf = true := by
      intro i hil
      obtain ⟨cs', hc, ht'⟩ := hi i (by omega)
      rw [hC] at hc
      obtain ⟨ys, n', hn', hy, hlen, hyl, hf⟩ := DataW.trod_struct he ht'
      obtain ⟨_, hcl, hat⟩ := World.cells?_some hc
      have one : ∀ (j : Nat) (f : Field), j < 3 → (#[f0, f1, f2] : Array Field)[j]? = some f → P.underlying f.type = some (.int .i64) → ∃ n0 : Int, w.cell? (a.add (i * 3 + j)) = some (.int .i64 n0) ∧ (Lit.int .i64 n0).wf = true := by
        intro j f hj3 hj hu
        obtain ⟨ho, hk⟩ := hone_of hone j f hj
        have hcell := hat j hj3
        have hv : cs'[j]? = some (cs'[j]'(by omega)) := List.getElem?_eq_getElem (by omega)
        have g1 := hf j f hj
        rw [ho, hk] at g1
        have hone' : (cs'.drop j).take 1 = [cs'[j]'(by omega)] := by
          rw [List.drop_eq_getElem_cons (by omega)]
          rfl
        rw [hone'] at g1
        have hys : ys[j]? = some (ys[j]'(by simp at hyl; omega)) := List.getElem?_eq_getElem (by simp at hyl; omega)
        obtain ⟨n0, e0, _, wf0⟩ := DataW.trod_int hu (g1.trans hys)
        refine ⟨n0, ?_, wf0⟩
        rw [← Go.Deep.add_add, hcell, hv]
        injection e0 with e0
        rw [e0]
      obtain ⟨n0, c0, w0⟩ := one 0 f0 (by omega) rfl h0
      obtain ⟨n1, c1, w1⟩ := one 1 f1 (by omega) rfl h1
      obtain ⟨n2, c2, w2⟩ := one 2 f2 (by omega) rfl h2
      exact ⟨n0, n1, n2, c0, c1, c2, w0, w1, w2⟩
    refine ⟨hl, by unfold maxLen at hm; omega, (List.range len).map (fun i => (numAt w (a.add (i * 3 + 0)), numAt w (a.add (i * 3 + 1)), numAt w (a.add (i * 3 + 2)))), by simp, ?_, fun _ => ⟨a, rfl, ?_⟩⟩
    · intro p hp
      obtain ⟨i, hir, rfl⟩ := List.mem_map.1 hp
      obtain ⟨n0, n1, n2, c0, c1, c2, w0, w1, w2⟩ := key i (List.mem_range.1 hir)
      simp only [numAt, c0, c1, c2]
      exact ⟨w0, w1, w2⟩
    · intro j p hj
      obtain ⟨hjl, hp⟩ := List.getElem?_eq_some_iff.1 hj
      have hjl' : j < len := by simpa using hjl
      obtain ⟨n0, n1, n2, c0, c1, c2, w0, w1, w2⟩ := key j hjl'
      have : p = (n0, n1, n2) := by
        rw [← hp]
        simp only [List.getElem_map, List.getElem_range, numAt, c0, c1, c2]
      subst this
      exact ⟨c0, c1, c2⟩
end
end Go.Proofs.Ytgkbeejkbhhjkaa.Rw
