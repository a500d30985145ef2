/- Several texts of this session in one: PlEv, PlAll, PlHas, PlNames, PlWinner, PlReach, PlBoth, PlSent, PlBothSpec, PlBothImpl, PlBothSame, PlPassed, PlSurvDefs, PlHalf, PlBothVal, PlSurv, PlSurvSame, PlRanks, PlDraw, PlRoundsEnd, PureFnRoundsEnd, Rw. -/
import Derived.Test.YtbiiklkkfkipeaaMFnRoundsEndWWords
import Derived.Test.YtbiiklkkfkipeaaMFnRoundsEndWMore
import Derived.Test.YtbiiklkkfkipeaaMFnRoundsEnd0
import Derived.Test.YtbiiklkkfkipeaaMFnRoundsEnd1
import Derived.Laws.BitsLemmas
import Derived.Test.YtbiiklkkfkipeaaMFnRoundsEnd2
import Derived.Deep.Slices
import Derived.Deep.Fields
import Derived.ChangeSame
import Derived.Lib.SmallJoins
import Derived.SizedLaws
import Derived.ChangeSlices
/- Plain lemmas: what a function with rounds comes to. -/
namespace Go.Proofs.Ytbiiklkkfkipeaa.X
set_option linter.unusedSimpArgs false
set_option linter.unusedVariables false
open Go.RowKit Go.Proofs.YtbiiklkkfkipeaaW.PrintWords
theorem w64 {x : Int} (h1 : -9223372036854775808 ≤ x) (h2 : x ≤ 9223372036854775807) : wrap64 x = x := by unfold wrap64; omega
/-- One round: the next state's answer is this state's. -/
theorem evNext {α : Type} {g f : Nat → Option α} {r : α} (h : ∀ k, g (k + 1) = f k) (k : Ev f r) : Ev g r := Ev.step h k
theorem evEnd {α : Type} {g : Nat → Option α} {r : α} (h : ∀ k, g (k + 1) = some r) : Ev g r := Ev.step (f := fun _ => some r) h (Ev.now r)
/-- A round that calls: from some number of rounds on. -/
theorem evCall {α β : Type} {g f : Nat → Option α} {c : Nat → Option β} {v : β} {r : α} (hc : Ev c v) (h : ∀ k, c k = some v → g (k + 1) = f k) (k : Ev f r) : Ev g r := by
  obtain ⟨K, k⟩ := k
  obtain ⟨K', hc⟩ := hc
  refine ⟨K + K' + 1, fun n hn => ?_⟩
  obtain ⟨m, rfl⟩ : ∃ m, n = m + 1 := ⟨n - 1, by omega⟩
  rw [h m (hc m (by omega))]
  exact k m (by omega)
theorem evCallEnd {α β : Type} {g : Nat → Option α} {c : Nat → Option β} {v : β} {r : α} (hc : Ev c v) (h : ∀ k, c k = some v → g (k + 1) = some r) : Ev g r :=
  evCall hc h (Ev.now r)
/-- A counter that goes up: an invariant, and each round hands the answer on. -/
theorem evUp {σ ρ : Type} (n : Nat) (L : Nat → σ → Nat → Option ρ) (I : Nat → σ → Prop) (r : ρ)
    (hs : ∀ i s, i < n → I i s → (∃ s', I (i + 1) s' ∧ (Ev (fun k => L k s' (i + 1)) r → Ev (fun k => L k s i) r)) ∨ Ev (fun k => L k s i) r)
    (he : ∀ s, I n s → Ev (fun k => L k s n) r) : ∀ i s, i ≤ n → I i s → Ev (fun k => L k s i) r := by
  have key : ∀ d i s, i + d = n → I i s → Ev (fun k => L k s i) r := by
    intro d
    induction d with
    | zero =>
      intro i s hd hI
      obtain rfl : i = n := by omega
      exact he s hI
    | succ d ih =>
      intro i s hd hI
      rcases hs i s (by omega) hI with ⟨s', hI', hk⟩ | h
      · exact hk (ih (i + 1) s' (by omega) hI')
      · exact h
  intro i s hi hI
  exact key (n - i) i s (by omega) hI
/-- The same from zero on. -/
theorem evUp0 {σ ρ : Type} (n : Nat) (L : Nat → σ → Nat → Option ρ) (I : Nat → σ → Prop) (r : ρ) (s : σ) (h0 : I 0 s)
    (hs : ∀ i s, i < n → I i s → (∃ s', I (i + 1) s' ∧ (Ev (fun k => L k s' (i + 1)) r → Ev (fun k => L k s i) r)) ∨ Ev (fun k => L k s i) r)
    (he : ∀ s, I n s → Ev (fun k => L k s n) r) : Ev (fun k => L k s 0) r := evUp n L I r hs he 0 s (Nat.zero_le _) h0
theorem evEq {α : Type} {g : Nat → Option α} {r r' : α} (h : Ev g r) (e : r = r') : Ev g r' := e ▸ h
theorem rd_at (l : List Int) (i : Nat) (h : i < l.length) : rd l (i : Int) = l[i] := by
  simp [rd, List.getD_eq_getElem?_getD, List.getElem?_eq_getElem h]
end Go.Proofs.Ytbiiklkkfkipeaa.X

/- Plain lemmas: whether all numbers lie between two others; traffic; buckets. -/
namespace Go.Proofs.Ytbiiklkkfkipeaa.X
set_option linter.unusedSimpArgs false
set_option linter.unusedVariables false
open Go.RowKit Go.Proofs.YtbiiklkkfkipeaaW.PrintWords
theorem l1In_eq (n lo hi : Int) : spec_l1In.f n lo hi = some (inB lo hi n) := by
  unfold spec_l1In.f inB
  by_cases h : lo ≤ n
  · rw [if_pos (by omega), decide_eq_true h]; simp
  · rw [if_neg (by omega), decide_eq_false h]; simp
theorem within_eq (n lo hi : Int) : impl_within.f n lo hi = some (inB lo hi n) := by
  unfold impl_within.f inB
  by_cases h : lo ≤ n
  · rw [if_pos (by omega), decide_eq_true h]; simp
  · rw [if_neg (by omega), decide_eq_false h]; simp
theorem allWithin_eq (l : List Int) (lo hi : Int) : impl_allWithin.f l lo hi = some (l.all (inB lo hi)) := rfl
theorem inB_iff {lo hi n : Int} : inB lo hi n = true ↔ lo ≤ n ∧ n ≤ hi := by simp [inB]
theorem all_bound {l : List Int} {lo hi : Int} (h : l.all (inB lo hi) = true) : ∀ x ∈ l, lo ≤ x ∧ x ≤ hi := fun x hx => inB_iff.1 (List.all_eq_true.1 h x hx)
theorem l1All_ev (l : List Int) (lo hi : Int) (hn : l.length ≤ 9223372036854775806) : Ev (fun k => spec_l1All.f k l lo hi) (l.all (inB lo hi)) := by
  have key := evUp0 l.length (fun k (_ : Unit) (i : Nat) => spec_l1All.l0 k lo hi l (l.length : Int) (i : Int)) (fun i _ => (l.take i).all (inB lo hi) = true) (l.all (inB lo hi)) () (by simp)
    (by
      intro i s hlt hI
      cases hb : inB lo hi (rd l (i : Int)) with
      | true =>
        refine .inl ⟨(), ?_, fun h => evNext (fun k => ?_) h⟩
        · rw [List.take_succ_eq_append_getElem hlt, List.all_append, hI]
          rw [rd_at l i hlt] at hb
          simp [hb]
        · show spec_l1All.l0 (k + 1) lo hi l (l.length : Int) (i : Int) = spec_l1All.l0 k lo hi l (l.length : Int) (i + 1 : Nat)
          simp only [spec_l1All.l0]
          rw [if_pos (by omega), if_pos (by omega), if_pos (by omega), l1In_eq, hb]
          simp only [Option.bind_some, if_true]
          rw [w64 (by omega) (by omega)]
          rfl
      | false =>
        refine .inr (evEnd fun k => ?_)
        show spec_l1All.l0 (k + 1) lo hi l (l.length : Int) (i : Int) = _
        simp only [spec_l1All.l0]
        rw [if_pos (by omega), if_pos (by omega), if_pos (by omega), l1In_eq, hb]
        simp only [Option.bind_some]
        have hf : l.all (inB lo hi) = false := by
          rw [List.all_eq_false]
          refine ⟨rd l (i : Int), ?_, by simp [hb]⟩
          rw [rd_at l i hlt]
          exact List.getElem_mem hlt
        rw [hf]
        simp)
    (by
      intro s hI
      refine evEnd fun k => ?_
      show spec_l1All.l0 (k + 1) lo hi l (l.length : Int) (l.length : Int) = _
      simp only [spec_l1All.l0]
      rw [if_neg (by omega)]
      rw [List.take_length] at hI
      rw [hI])
  exact key
end Go.Proofs.Ytbiiklkkfkipeaa.X

/- Plain lemmas: whether a number is among others. -/
namespace Go.Proofs.Ytbiiklkkfkipeaa.X
set_option linter.unusedSimpArgs false
set_option linter.unusedVariables false
open Go.RowKit Go.Proofs.YtbiiklkkfkipeaaW.PrintWords
theorem index_ev (l : List Int) (n : Int) (hl : l.length ≤ 9223372036854775806) : ∃ r : Int, Ev (fun k => slices_Index_int_int.f k l n) r ∧ decide (r ≥ 0) = l.contains n := by
  cases hc : l.contains n with
  | false =>
    refine ⟨-1, ?_, rfl⟩
    have key := evUp0 l.length (fun k (_ : Unit) (i : Nat) => slices_Index_int_int.l0 k l n (l.length : Int) (i : Int)) (fun _ _ => True) (-1) () trivial
      (by
        intro i s hi _
        refine .inl ⟨(), trivial, fun h => evNext (fun k => ?_) h⟩
        show slices_Index_int_int.l0 (k + 1) l n (l.length : Int) (i : Int) = slices_Index_int_int.l0 k l n (l.length : Int) (i + 1 : Nat)
        have hne : ¬ n = l[i] := by
          intro e
          have : l.contains n = true := by rw [e]; simp
          rw [this] at hc
          cases hc
        simp only [slices_Index_int_int.l0]
        rw [if_pos (by omega), if_pos (by omega), if_pos (by omega), rd_at l i hi, if_neg hne, w64 (by omega) (by omega)]
        rfl)
      (by
        intro s _
        refine evEnd fun k => ?_
        show slices_Index_int_int.l0 (k + 1) l n (l.length : Int) (l.length : Int) = _
        simp only [slices_Index_int_int.l0]
        rw [if_neg (by omega)])
    exact key
  | true =>
    have hex : ∃ i : Nat, ∃ h : i < l.length, n = l[i] ∧ ∀ j (hj : j < i), ¬ n = l[j] := by
      clear hl
      induction l with
      | nil => simp at hc
      | cons x xs ih =>
        by_cases e : n = x
        · exact ⟨0, by simp, by simpa using e, fun j hj => absurd hj (by omega)⟩
        · have : xs.contains n = true := by
            rw [List.contains_cons] at hc
            have : (n == x) = false := by simpa using e
            rw [this] at hc
            simpa using hc
          obtain ⟨i, h, h1, h2⟩ := ih this
          refine ⟨i + 1, by simp; omega, by simpa using h1, fun j hj => ?_⟩
          cases j with
          | zero => simpa using e
          | succ j => simpa using h2 j (by omega)
    obtain ⟨m, hm, h1, h2⟩ := hex
    refine ⟨(m : Int), ?_, by simp⟩
    have key := evUp m (fun k (_ : Unit) (i : Nat) => slices_Index_int_int.l0 k l n (l.length : Int) (i : Int)) (fun _ _ => True) (m : Int)
      (by
        intro i s hi _
        refine .inl ⟨(), trivial, fun h => evNext (fun k => ?_) h⟩
        show slices_Index_int_int.l0 (k + 1) l n (l.length : Int) (i : Int) = slices_Index_int_int.l0 k l n (l.length : Int) (i + 1 : Nat)
        simp only [slices_Index_int_int.l0]
        rw [if_pos (by omega), if_pos (by omega), if_pos (by omega), rd_at l i (by omega), if_neg (h2 i hi), w64 (by omega) (by omega)]
        rfl)
      (by
        intro s _
        refine evEnd fun k => ?_
        show slices_Index_int_int.l0 (k + 1) l n (l.length : Int) (m : Int) = _
        simp only [slices_Index_int_int.l0]
        rw [if_pos (by omega), if_pos (by omega), if_pos (by omega), rd_at l m hm, if_pos h1]) 0 () (by omega) trivial
    exact key
theorem contains_ev (l : List Int) (n : Int) (hl : l.length ≤ 9223372036854775806) : Ev (fun k => slices_Contains_int_int.f k l n) (l.contains n) := by
  obtain ⟨r, h1, h2⟩ := index_ev l n hl
  exact evEq (Ev.bind h1 (Ev.now _)) h2
end Go.Proofs.Ytbiiklkkfkipeaa.X

/- Plain lemmas: names. AreNames: the program and the reference come to the same. -/
namespace Go.Proofs.Ytbiiklkkfkipeaa.X
set_option linter.unusedSimpArgs false
set_option linter.unusedVariables false
open Go.RowKit Go.Proofs.YtbiiklkkfkipeaaW.PrintWords
theorem l1Has_ev (l : List Int) (n : Int) (hl : l.length ≤ 9223372036854775806) : Ev (fun k => spec_l1Has.f k l n) (l.contains n) := by
  have key := evUp0 l.length (fun k (_ : Unit) (i : Nat) => spec_l1Has.l0 k n l (l.length : Int) (i : Int)) (fun i _ => (l.drop i).contains n = l.contains n) (l.contains n) () rfl
    (by
      intro i s hi hI
      rw [List.drop_eq_getElem_cons hi, List.contains_cons] at hI
      by_cases e : l[i] = n
      · refine .inr (evEnd fun k => ?_)
        show spec_l1Has.l0 (k + 1) n l (l.length : Int) (i : Int) = _
        simp only [spec_l1Has.l0]
        rw [if_pos (by omega), if_pos (by omega), if_pos (by omega), rd_at l i hi, if_pos e, ← hI, e]
        simp
      · refine .inl ⟨(), ?_, fun h => evNext (fun k => ?_) h⟩
        · have : (n == l[i]) = false := by simpa using fun h => e h.symm
          rw [this, Bool.false_or] at hI
          exact hI
        · show spec_l1Has.l0 (k + 1) n l (l.length : Int) (i : Int) = spec_l1Has.l0 k n l (l.length : Int) (i + 1 : Nat)
          simp only [spec_l1Has.l0]
          rw [if_pos (by omega), if_pos (by omega), if_pos (by omega), rd_at l i hi, if_neg e, w64 (by omega) (by omega)]
          rfl)
    (by
      intro s hI
      rw [List.drop_length] at hI
      refine evEnd fun k => ?_
      show spec_l1Has.l0 (k + 1) n l (l.length : Int) (l.length : Int) = _
      simp only [spec_l1Has.l0]
      rw [if_neg (by omega), ← hI]
      simp)
  exact key
/-- No number of l[i:n] stands before in l. -/
def fresh (l : List Int) : Nat → Bool
  | 0 => true
  | n + 1 => fresh l n && !((l.take n).contains (rd l (n : Int)))
theorem fresh_step (l : List Int) (n : Nat) (h : n < l.length) (hf : fresh l l.length = true) : (l.take n).contains (rd l (n : Int)) = false := by
  have : ∀ m, n < m → fresh l m = true → (l.take n).contains (rd l (n : Int)) = false := by
    intro m
    induction m with
    | zero => intro h; omega
    | succ m ih =>
      intro h1 h2
      simp only [fresh, Bool.and_eq_true] at h2
      by_cases e : n = m
      · subst e
        simpa using h2.2
      · exact ih (by omega) h2.1
  exact this l.length h hf
theorem fresh_false (l : List Int) (n m : Nat) (hm : n < m) (h : (l.take n).contains (rd l (n : Int)) = true) : fresh l m = false := by
  induction m with
  | zero => omega
  | succ m ih =>
    by_cases e : n = m
    · subst e
      show (fresh l n && !((l.take n).contains (rd l (n : Int)))) = false
      rw [h, Bool.not_true, Bool.and_false]
    · simp [fresh, ih (by omega)]
theorem fresh_ne {l : List Int} (hf : fresh l l.length = true) {i j : Nat} (hi : i < l.length) (hj : j < l.length) (hij : i ≠ j) : rd l (i : Int) ≠ rd l (j : Int) := by
  have key : ∀ a b : Nat, a < b → b < l.length → rd l (a : Int) ≠ rd l (b : Int) := by
    intro a b hab hb e
    have h1 := fresh_step l b hb hf
    have h2 : (l.take b).contains (rd l (b : Int)) = true := by
      rw [List.contains_iff_mem, ← e, rd_at l a (by omega)]
      rw [List.mem_take_iff_getElem]
      exact ⟨a, by omega, rfl⟩
    rw [h2] at h1
    cases h1
  rcases Nat.lt_or_ge i j with h | h
  · exact key i j h hj
  · exact fun e => key j i (by omega) hi e.symm
def isNm (l : List Int) : Bool := inB 2 12 (l.length : Int) && (l.all (inB 0 999) && fresh l l.length)
theorem isNm_iff {l : List Int} (h : isNm l = true) : 2 ≤ l.length ∧ l.length ≤ 12 ∧ (∀ x ∈ l, 0 ≤ x ∧ x ≤ 999) ∧ fresh l l.length = true := by
  unfold isNm at h
  simp only [Bool.and_eq_true] at h
  have h1 := inB_iff.1 h.1
  exact ⟨by omega, by omega, all_bound h.2.1, h.2.2⟩
theorem specNames_loop (l : List Int) (hl : l.length ≤ 1048576) : Ev (fun k => spec_elNames.l0 k l l (l.length : Int) ((0 : Nat) : Int)) (fresh l l.length) := by
  refine evUp0 l.length (fun k (_ : Unit) (i : Nat) => spec_elNames.l0 k l l (l.length : Int) (i : Int)) (fun i _ => fresh l i = true) _ () rfl ?_ ?_
  · intro i s hi hI
    have hh := l1Has_ev (l.take i) (rd l (i : Int)) (by simp; omega)
    cases hc : (l.take i).contains (rd l (i : Int)) with
    | true =>
      rw [hc] at hh
      refine .inr (evCallEnd hh fun k hk => ?_)
      show spec_elNames.l0 (k + 1) l l (l.length : Int) (i : Int) = _
      simp only [spec_elNames.l0]
      rw [if_pos (by omega), if_pos (by omega), if_pos (by omega), if_pos (by omega), Int.toNat_natCast, hk, fresh_false l i l.length hi hc]
      rfl
    | false =>
      rw [hc] at hh
      refine .inl ⟨(), by show (fresh l i && !((l.take i).contains (rd l (i : Int)))) = true; rw [hI, hc]; rfl, fun h => evCall hh (fun k hk => ?_) h⟩
      show spec_elNames.l0 (k + 1) l l (l.length : Int) (i : Int) = spec_elNames.l0 k l l (l.length : Int) (i + 1 : Nat)
      simp only [spec_elNames.l0]
      rw [if_pos (by omega), if_pos (by omega), if_pos (by omega), if_pos (by omega), Int.toNat_natCast, hk, w64 (by omega) (by omega)]
      simp only [Option.bind_some, Bool.false_eq_true, if_false]
      rfl
  · intro s hI
    refine evEnd fun k => ?_
    show spec_elNames.l0 (k + 1) l l (l.length : Int) (l.length : Int) = _
    simp only [spec_elNames.l0]
    rw [if_neg (by omega), hI]
theorem specNames_ev (l : List Int) (hl : l.length ≤ 1048576) : Ev (fun k => spec_elNames.f k l) (isNm l) := by
  unfold isNm
  cases h : inB 2 12 (l.length : Int) with
  | false =>
    refine Ev.congr (f := fun k => spec_elNames.j0 k l true) (fun k => by simp [spec_elNames.f, l1In_eq, h]) ?_
    refine evEnd fun k => ?_
    simp [spec_elNames.j0]
  | true =>
    cases ha : l.all (inB 0 999) with
    | false =>
      have h2 : Ev (fun k => spec_elNames.j0 k l true) false := evEnd fun k => by simp [spec_elNames.j0]
      have h1 := l1All_ev l 0 999 (by omega)
      rw [ha] at h1
      exact Ev.congr (f := fun k => (spec_l1All.f k l 0 999).bind fun t => spec_elNames.j0 k l (!t)) (fun k => by simp only [spec_elNames.f, l1In_eq, h, Option.bind_some, if_true]) (Ev.bind h1 h2)
    | true =>
      have h1 := l1All_ev l 0 999 (by omega)
      rw [ha] at h1
      have h2 : Ev (fun k => spec_elNames.j0 k l false) (fresh l l.length) := evNext (fun k => by simp [spec_elNames.j0]) (specNames_loop l hl)
      exact Ev.congr (f := fun k => (spec_l1All.f k l 0 999).bind fun t => spec_elNames.j0 k l (!t)) (fun k => by simp only [spec_elNames.f, l1In_eq, h, Option.bind_some, if_true]) (Ev.bind h1 h2)
theorem implNames_ev (l : List Int) (hl : l.length ≤ 1048576) : Ev (fun k => impl_AreNames.f k l) (isNm l) := by
  have key := evUp0 l.length (fun k (_ : Unit) (i : Nat) => impl_AreNames.l0 k l l (l.length : Int) (i : Int)) (fun i _ => fresh l i = true) (isNm l) () rfl
    (by
      intro i s hi hI
      have hh := contains_ev (l.take i) (rd l (i : Int)) (by simp; omega)
      cases hc : (l.take i).contains (rd l (i : Int)) with
      | true =>
        rw [hc] at hh
        refine .inr (evCallEnd hh fun k hk => ?_)
        show impl_AreNames.l0 (k + 1) l l (l.length : Int) (i : Int) = _
        simp only [impl_AreNames.l0]
        rw [if_pos (by omega), if_pos (by omega), if_pos (by omega), if_pos (by omega), Int.toNat_natCast, hk]
        simp [isNm, fresh_false l i l.length hi hc]
      | false =>
        rw [hc] at hh
        refine .inl ⟨(), by show (fresh l i && !((l.take i).contains (rd l (i : Int)))) = true; rw [hI, hc]; rfl, fun h => evCall hh (fun k hk => ?_) h⟩
        show impl_AreNames.l0 (k + 1) l l (l.length : Int) (i : Int) = impl_AreNames.l0 k l l (l.length : Int) (i + 1 : Nat)
        simp only [impl_AreNames.l0]
        rw [if_pos (by omega), if_pos (by omega), if_pos (by omega), if_pos (by omega), Int.toNat_natCast, hk, w64 (by omega) (by omega)]
        simp only [Option.bind_some, Bool.false_eq_true, if_false]
        rfl)
    (by
      intro s hI
      refine evEnd fun k => ?_
      show impl_AreNames.l0 (k + 1) l l (l.length : Int) (l.length : Int) = _
      simp only [impl_AreNames.l0]
      rw [if_neg (by omega)]
      unfold impl_isRingSize.f isNm
      simp only [within_eq, Option.bind_some, allWithin_eq]
      cases inB 2 12 (l.length : Int) <;> simp [hI])
  exact key
end Go.Proofs.Ytbiiklkkfkipeaa.X

/- WinnerOf: the program and the reference come to the same. -/
namespace Go.Proofs.Ytbiiklkkfkipeaa.X
set_option linter.unusedSimpArgs false
set_option linter.unusedVariables false
open Go.RowKit Go.Proofs.YtbiiklkkfkipeaaW.PrintWords
/-- The first of the first n stations with the greatest name. -/
def top (l : List Int) : Nat → Nat
  | 0 => 0
  | n + 1 => if rd l (n : Int) > rd l ((top l n : Nat) : Int) then n else top l n
theorem maxTo_top (l : List Int) : ∀ n, maxTo l n = rd l ((top l n : Nat) : Int)
  | 0 => rfl
  | n + 1 => by
    simp only [maxTo, top, maxTo_top l n]
    split <;> rfl
theorem top_lt (l : List Int) (h : 0 < l.length) : ∀ n, n ≤ l.length → top l n < l.length
  | 0, _ => h
  | n + 1, hn => by
    simp only [top]
    split
    · omega
    · exact top_lt l h n (by omega)
theorem top_ge (l : List Int) : ∀ n i : Nat, i < n → rd l (i : Int) ≤ rd l ((top l n : Nat) : Int)
  | 0, i, h => by omega
  | n + 1, i, h => by
    simp only [top]
    by_cases e : i = n
    · subst e
      split <;> omega
    · have := top_ge l n i (by omega)
      split <;> omega
theorem specWinner_ev (l : List Int) (h0 : 0 < l.length) (hl : l.length ≤ 1048576) : Ev (fun k => spec_elWinner.f k l) ((top l l.length : Nat) : Int) := by
  have key := evUp0 l.length (fun k (s : Nat) (i : Nat) => spec_elWinner.l0 k l (s : Int) l (l.length : Int) (i : Int)) (fun i s => s = top l i) ((top l l.length : Nat) : Int) 0 rfl
    (by
      intro i s hi hI
      have ht := top_lt l h0 i (by omega)
      rw [← hI] at ht
      refine .inl ⟨top l (i + 1), rfl, fun h => evNext (fun k => ?_) h⟩
      show spec_elWinner.l0 (k + 1) l (s : Int) l (l.length : Int) (i : Int) = spec_elWinner.l0 k l ((top l (i + 1) : Nat) : Int) l (l.length : Int) ((i + 1 : Nat) : Int)
      simp only [spec_elWinner.l0]
      rw [if_pos (by omega), if_pos (by omega), if_pos (by omega), if_pos (by omega), if_pos (by omega), w64 (by omega) (by omega)]
      simp only [top, ← hI]
      split <;> rfl)
    (by
      intro s hI
      refine evEnd fun k => ?_
      show spec_elWinner.l0 (k + 1) l (s : Int) l (l.length : Int) (l.length : Int) = _
      simp only [spec_elWinner.l0]
      rw [if_neg (by omega), hI])
  exact key
theorem indexAt_ev (l : List Int) (t : Nat) (ht : t < l.length) (hl : l.length ≤ 1048576) (hn : ∀ i : Nat, i < t → rd l (t : Int) ≠ rd l (i : Int)) : Ev (fun k => slices_Index_int_int.f k l (rd l (t : Int))) (t : Int) := by
  have key := evUp0 t (fun k (_ : Unit) (i : Nat) => slices_Index_int_int.l0 k l (rd l (t : Int)) (l.length : Int) (i : Int)) (fun _ _ => True) (t : Int) () trivial
    (by
      intro i s hi _
      refine .inl ⟨(), trivial, fun h => evNext (fun k => ?_) h⟩
      show slices_Index_int_int.l0 (k + 1) l (rd l (t : Int)) (l.length : Int) (i : Int) = slices_Index_int_int.l0 k l (rd l (t : Int)) (l.length : Int) ((i + 1 : Nat) : Int)
      simp only [slices_Index_int_int.l0]
      rw [if_pos (by omega), if_pos (by omega), if_pos (by omega), if_neg (hn i hi), w64 (by omega) (by omega)]
      rfl)
    (by
      intro s _
      refine evEnd fun k => ?_
      show slices_Index_int_int.l0 (k + 1) l (rd l (t : Int)) (l.length : Int) (t : Int) = _
      simp only [slices_Index_int_int.l0]
      rw [if_pos (by omega), if_pos (by omega), if_pos (by omega), if_pos trivial])
  exact key
theorem implWinner_ev (l : List Int) (h0 : 0 < l.length) (hl : l.length ≤ 1048576) (hf : fresh l l.length = true) : Ev (fun k => impl_winner.f k l) ((top l l.length : Nat) : Int) := by
  have ht := top_lt l h0 l.length (Nat.le_refl _)
  obtain ⟨K, e⟩ := indexAt_ev l (top l l.length) ht hl (fun i hi => fresh_ne hf ht (by omega) (by omega))
  dsimp only at e
  refine ⟨K, fun k hk => ?_⟩
  have hM : slices_Max_int_int.f l = some (rd l ((top l l.length : Nat) : Int)) := by
    unfold slices_Max_int_int.f
    rw [if_neg (by omega), maxTo_top]
  show impl_winner.f k l = _
  unfold impl_winner.f
  rw [hM]
  simp only [Option.bind_some]
  rw [e k hk]
  rfl
end Go.Proofs.Ytbiiklkkfkipeaa.X

/- Plain lemmas: how far a name is sent. -/
namespace Go.Proofs.Ytbiiklkkfkipeaa.X
set_option linter.unusedSimpArgs false
set_option linter.unusedVariables false
open Go.RowKit Go.Proofs.YtbiiklkkfkipeaaW.PrintWords
theorem tmod_shift (a n : Int) (hn : 0 < n) : Int.tmod (Int.tmod a n + n) n = a % n := by
  have h1 : 0 ≤ Int.tmod a n + n := by
    have := Int.lt_tmod_of_pos a hn
    omega
  rw [Int.tmod_eq_emod_of_nonneg h1]
  have h2 : Int.tmod a n = a - n * Int.tdiv a n := by
    have := Int.mul_tdiv_add_tmod a n
    omega
  rw [h2, show a - n * Int.tdiv a n + n = a + n * (1 - Int.tdiv a n) from by rw [Int.mul_sub]; omega, Int.add_mul_emod_self_left]
theorem tmod_bound (a n : Int) (hn : 0 < n) : -n < Int.tmod a n ∧ Int.tmod a n < n := ⟨Int.lt_tmod_of_pos a hn, Int.tmod_lt_of_pos a hn⟩
/-- The station that is k steps on. -/
def stn (l : List Int) (s step k : Int) : Int := (s + k * step) % (l.length : Int)
theorem stn_bound (l : List Int) (s step k : Int) (h : 0 < l.length) : 0 ≤ stn l s step k ∧ stn l s step k < l.length := by
  unfold stn
  exact ⟨Int.emod_nonneg _ (by omega), Int.emod_lt_of_pos _ (by omega)⟩
/-- At the k-th station from k on, at most n more: the first whose name is greater. -/
def rch (l : List Int) (s step most : Int) : Nat → Int → Int × Bool
  | 0, _ => (most, false)
  | n + 1, k => if rd l (stn l s step k) > rd l s then (k, true) else rch l s step most n (k + 1)
def far (l : List Int) (s step most : Int) : Int × Bool := rch l s step most most.toNat 1
theorem implReach_ev (l : List Int) (s step most : Int) (h0 : 0 ≤ s) (hs : s < l.length) (hl : l.length ≤ 1000) (hst : step = 1 ∨ step = -1) (h1 : 0 ≤ most) (h2 : most ≤ 1000) :
    Ev (fun k => impl_reach.f k l s step most) (far l s step most) := by
  have key := evUp0 most.toNat (fun k (_ : Unit) (i : Nat) => impl_reach.l0 k l s step most (l.length : Int) ((i : Int) + 1)) (fun i _ => rch l s step most (most.toNat - i) ((i : Int) + 1) = far l s step most) (far l s step most) () rfl
    (by
      intro i u hi hI
      have e : most.toNat - i = (most.toNat - (i + 1)) + 1 := by omega
      rw [e, rch] at hI
      have hb := stn_bound l s step ((i : Int) + 1) (by omega)
      have hm : wrap64 (((i : Int) + 1) * step) = ((i : Int) + 1) * step := by
        rcases hst with rfl | rfl
        · rw [Int.mul_one]; exact w64 (by omega) (by omega)
        · rw [show ((i : Int) + 1) * -1 = -((i : Int) + 1) from by omega]; exact w64 (by omega) (by omega)
      have hm2 : -2000 ≤ ((i : Int) + 1) * step ∧ ((i : Int) + 1) * step ≤ 2000 := by
        rcases hst with rfl | rfl <;> omega
      have hm3 : wrap64 (s + ((i : Int) + 1) * step) = s + ((i : Int) + 1) * step := w64 (by omega) (by omega)
      have ht := tmod_bound (s + ((i : Int) + 1) * step) (l.length : Int) (by omega)
      have hm4 : wrap64 (Int.tmod (s + ((i : Int) + 1) * step) (l.length : Int) + (l.length : Int)) = Int.tmod (s + ((i : Int) + 1) * step) (l.length : Int) + (l.length : Int) := w64 (by omega) (by omega)
      have hm5 := tmod_shift (s + ((i : Int) + 1) * step) (l.length : Int) (by omega)
      have hm6 : (s + ((i : Int) + 1) * step) % (l.length : Int) = stn l s step ((i : Int) + 1) := rfl
      by_cases hc : rd l (stn l s step ((i : Int) + 1)) > rd l s
      · rw [if_pos hc] at hI
        refine .inr (evEnd fun k => ?_)
        show impl_reach.l0 (k + 1) l s step most (l.length : Int) ((i : Int) + 1) = _
        simp only [impl_reach.l0]
        rw [hm, hm3, hm4, hm5, hm6, if_pos (by omega), if_neg (by omega), if_pos (by omega), if_pos (by omega), if_pos (by omega), if_pos (by omega), if_pos hc, hI]
      · rw [if_neg hc] at hI
        refine .inl ⟨(), hI, fun h => evNext (fun k => ?_) h⟩
        show impl_reach.l0 (k + 1) l s step most (l.length : Int) ((i : Int) + 1) = impl_reach.l0 k l s step most (l.length : Int) (((i + 1 : Nat) : Int) + 1)
        simp only [impl_reach.l0]
        rw [hm, hm3, hm4, hm5, hm6, if_pos (by omega), if_neg (by omega), if_pos (by omega), if_pos (by omega), if_pos (by omega), if_pos (by omega), if_neg hc, w64 (by omega) (by omega)]
        rfl)
    (by
      intro u hI
      refine evEnd fun k => ?_
      show impl_reach.l0 (k + 1) l s step most (l.length : Int) ((most.toNat : Int) + 1) = _
      simp only [impl_reach.l0]
      rw [if_neg (by omega), ← hI, Nat.sub_self]
      rfl)
  exact key
end Go.Proofs.Ytbiiklkkfkipeaa.X

/- Plain lemmas: the phases of the election both ways. -/
namespace Go.Proofs.Ytbiiklkkfkipeaa.X
set_option linter.unusedSimpArgs false
set_option linter.unusedVariables false
open Go.RowKit Go.Proofs.YtbiiklkkfkipeaaW.PrintWords
theorem rch_same (l : List Int) (s step p q : Int) : ∀ (j m m' : Nat) (k : Int), j < m → j < m' → rd l (stn l s step (k + j)) > rd l s → rch l s step p m k = rch l s step q m' k
  | j, 0, _, k, h, _, _ => by omega
  | j, _, 0, k, _, h, _ => by omega
  | 0, m + 1, m' + 1, k, _, _, h => by
    simp only [rch]
    rw [show k + ((0 : Nat) : Int) = k by omega] at h
    rw [if_pos h, if_pos h]
  | j + 1, m + 1, m' + 1, k, h1, h2, h => by
    simp only [rch]
    split
    · rfl
    · exact rch_same l s step p q j m m' (k + 1) (by omega) (by omega) (by rw [show k + 1 + (j : Int) = k + ((j + 1 : Nat) : Int) by omega]; exact h)
theorem far_same (l : List Int) (s step p q : Int) (j : Nat) (h : rd l (stn l s step ((j : Int) + 1)) > rd l s) (hp : (j : Int) < p) (hq : (j : Int) < q) : far l s step p = far l s step q := by
  unfold far
  exact rch_same l s step p q j p.toNat q.toNat 1 (by omega) (by omega) (by rw [show (1 : Int) + (j : Int) = (j : Int) + 1 by omega]; exact h)
/-- There is a step to any other station. -/
theorem stn_to (l : List Int) (s t : Nat) (hs : s < l.length) (ht : t < l.length) (hne : s ≠ t) (step : Int) (hst : step = 1 ∨ step = -1) : ∃ j : Nat, j + 1 < l.length ∧ stn l (s : Int) step ((j : Int) + 1) = (t : Int) := by
  have key : ∀ (d : Int), 0 < d → d < l.length → ((s : Int) + d * step = t ∨ (s : Int) + d * step = t + l.length ∨ (s : Int) + d * step = t - l.length) → ∃ j : Nat, j + 1 < l.length ∧ stn l (s : Int) step ((j : Int) + 1) = (t : Int) := by
    intro d h1 h2 h3
    refine ⟨(d - 1).toNat, by omega, ?_⟩
    rw [show (((d - 1).toNat : Nat) : Int) + 1 = d by omega]
    unfold stn
    have e : (t : Int) % (l.length : Int) = t := Int.emod_eq_of_lt (by omega) (by omega)
    rcases h3 with h3 | h3 | h3
    · rw [h3, e]
    · rw [h3, Int.add_emod_right, e]
    · rw [h3, Int.sub_emod_right, e]
  rcases hst with rfl | rfl
  · by_cases h : s < t
    · exact key (t - s) (by omega) (by omega) (.inl (by omega))
    · exact key (t - s + l.length) (by omega) (by omega) (.inr (.inl (by omega)))
  · by_cases h : s < t
    · exact key (s - t + l.length) (by omega) (by omega) (.inr (.inr (by omega)))
    · exact key (s - t) (by omega) (by omega) (.inl (by omega))
/-- A name that is not the greatest one is stopped, if sent far enough: then the greatest number of links does not matter. -/
theorem far_cut {l : List Int} (hf : fresh l l.length = true) (s : Nat) (hs : s < l.length) (step : Int) (hst : step = 1 ∨ step = -1) (f : Int) (h : ¬ (f ≥ (l.length : Int) ∧ s = top l l.length)) :
    far l (s : Int) step (if f < (l.length : Int) then f else (l.length : Int)) = far l (s : Int) step f := by
  by_cases hc : f < (l.length : Int)
  · rw [if_pos hc]
  · rw [if_neg hc]
    have ht := top_lt l (by omega) l.length (Nat.le_refl _)
    have hne : s ≠ top l l.length := fun e => h ⟨by omega, e⟩
    obtain ⟨j, hj, e⟩ := stn_to l s (top l l.length) hs ht hne step hst
    have hg := top_ge l l.length s hs
    have hn := fresh_ne hf hs ht hne
    refine far_same l (s : Int) step _ _ j ?_ (by omega) (by omega)
    rw [e]
    omega
def ow (A : Int × Bool) : Int := if A.2 then A.1 else A.1 + A.1
def oneWay (l : List Int) (s step f : Int) : Int := ow (far l s step f)
def stays (l : List Int) (s f : Int) : Bool := !(far l s 1 f).2 && !(far l s (-1) f).2
def bwStep (l : List Int) (f : Int) (x : Int × List Int) (s : Int) : Int × List Int :=
  if f ≥ (l.length : Int) ∧ s = ((top l l.length : Nat) : Int) then (x.1 + (l.length : Int), x.2) else (x.1 + (oneWay l s 1 f + oneWay l s (-1) f), if stays l s f then x.2 ++ [s] else x.2)
def bwTo (l L : List Int) (f c : Int) : Nat → Int × List Int
  | 0 => (c, [])
  | i + 1 => bwStep l f (bwTo l L f c i) (rd L (i : Int))
theorem rch_bnd (l : List Int) (s step most : Int) : ∀ (n : Nat) (k : Int), 1 ≤ k → (n : Int) + k - 1 ≤ most → 0 ≤ most → 0 ≤ (rch l s step most n k).1 ∧ (rch l s step most n k).1 ≤ most
  | 0, k, h1, h2, h3 => by simp [rch]; omega
  | n + 1, k, h1, h2, h3 => by
    simp only [rch]
    split
    · simp only
      omega
    · exact rch_bnd l s step most n (k + 1) (by omega) (by omega) h3
theorem far_bnd (l : List Int) (s step f : Int) (h : 0 ≤ f) : 0 ≤ (far l s step f).1 ∧ (far l s step f).1 ≤ f := by
  unfold far
  exact rch_bnd l s step f f.toNat 1 (by omega) (by omega) h
theorem oneWay_bnd (l : List Int) (s step f : Int) (h : 0 ≤ f) : 0 ≤ oneWay l s step f ∧ oneWay l s step f ≤ 2 * f := by
  have := far_bnd l s step f h
  unfold oneWay ow
  split <;> omega
theorem bwTo_bnd (l L : List Int) (f c : Int) (hf : 0 ≤ f ∧ f ≤ 24) (hl : l.length ≤ 12) (hc : 0 ≤ c) (n : Nat) (hL : ∀ i : Nat, i < L.length → 0 ≤ rd L (i : Int) ∧ rd L (i : Int) < n) : ∀ i : Nat, i ≤ L.length → 0 ≤ (bwTo l L f c i).1 ∧ (bwTo l L f c i).1 ≤ c + 100 * i ∧ (bwTo l L f c i).2.length ≤ i ∧ ∀ x ∈ (bwTo l L f c i).2, 0 ≤ x ∧ x < n
  | 0, _ => by simp [bwTo]; omega
  | i + 1, hi => by
    obtain ⟨h1, h2, h3, h4⟩ := bwTo_bnd l L f c hf hl hc n hL i (by omega)
    have hx := hL i (by omega)
    simp only [bwTo, bwStep]
    have a1 := oneWay_bnd l (rd L (i : Int)) 1 f hf.1
    have a2 := oneWay_bnd l (rd L (i : Int)) (-1) f hf.1
    split
    · simp only
      exact ⟨by omega, by omega, by omega, h4⟩
    · simp only
      split
      · refine ⟨by omega, by omega, by simp; omega, fun x hx' => ?_⟩
        rcases List.mem_append.1 hx' with hx' | hx'
        · exact h4 x hx'
        · rw [List.mem_singleton.1 hx']
          exact hx
      · exact ⟨by omega, by omega, by omega, h4⟩
end Go.Proofs.Ytbiiklkkfkipeaa.X

/- Plain lemmas: how far a name is sent in a phase. -/
namespace Go.Proofs.Ytbiiklkkfkipeaa.X
set_option linter.unusedSimpArgs false
set_option linter.unusedVariables false
open Go.RowKit Go.Proofs.YtbiiklkkfkipeaaW.PrintWords
theorem sent_idx (n : Nat) (s step k : Int) (hst : step = 1 ∨ step = -1) (h1 : 1 ≤ k) (h2 : k ≤ 1000) (h0 : 0 ≤ s) (hs : s < n) (hl : n ≤ 1000) :
    Int.tmod (wrap64 ((wrap64 (s + (wrap64 (k * step)))) + (wrap64 (k * (n : Int))))) (n : Int) = (s + k * step) % (n : Int) := by
  have hP : -k ≤ k * step ∧ k * step ≤ k := by
    rcases hst with rfl | rfl <;> omega
  have hQ : k ≤ k * (n : Int) ∧ k * (n : Int) ≤ 1000000 := by
    constructor
    · have := Int.mul_le_mul_of_nonneg_left (show (1 : Int) ≤ (n : Int) by omega) (show (0 : Int) ≤ k by omega)
      rw [Int.mul_one] at this
      exact this
    · have := Int.mul_le_mul h2 (show (n : Int) ≤ 1000 by omega) (by omega) (by omega)
      exact Int.le_trans this (by decide)
  have e : (s + k * step + k * (n : Int)) % (n : Int) = (s + k * step) % (n : Int) := Int.add_mul_emod_self_right _ _ _
  generalize k * step = P at *
  generalize k * (n : Int) = Q at *
  clear hst
  rw [w64 (x := P) (by omega) (by omega), w64 (x := Q) (by omega) (by omega), w64 (x := s + P) (by omega) (by omega), w64 (x := s + P + Q) (by omega) (by omega), Int.tmod_eq_emod_of_nonneg (by omega), e]
theorem specSent_ev (l : List Int) (s step most : Int) (h0 : 0 ≤ s) (hs : s < l.length) (hl : l.length ≤ 1000) (hst : step = 1 ∨ step = -1) (h1 : 0 ≤ most) (h2 : most ≤ 1000) :
    Ev (fun k => spec_elSent.f k l s step most) ((far l s step most).1, !(far l s step most).2) := by
  have key := evUp0 most.toNat (fun k (_ : Unit) (i : Nat) => spec_elSent.l0 k l s step most (l.length : Int) ((i : Int) + 1)) (fun i _ => rch l s step most (most.toNat - i) ((i : Int) + 1) = far l s step most) ((far l s step most).1, !(far l s step most).2) () rfl
    (by
      intro i u hi hI
      have e : most.toNat - i = (most.toNat - (i + 1)) + 1 := by omega
      rw [e, rch] at hI
      have hb := stn_bound l s step ((i : Int) + 1) (by omega)
      have hm7 := sent_idx l.length s step ((i : Int) + 1) hst (by omega) (by omega) h0 hs hl
      have hm6 : (s + ((i : Int) + 1) * step) % (l.length : Int) = stn l s step ((i : Int) + 1) := rfl
      rw [hm6] at hm7
      generalize stn l s step ((i : Int) + 1) = q at *
      by_cases hc : rd l q > rd l s
      · rw [if_pos hc] at hI
        refine .inr (evEnd fun k => ?_)
        show spec_elSent.l0 (k + 1) l s step most (l.length : Int) ((i : Int) + 1) = _
        simp only [spec_elSent.l0]
        rw [hm7, if_pos (by omega), if_neg (by omega), if_pos (by omega), if_pos (by omega), if_pos (by omega), if_pos (by omega), if_pos hc, ← hI]
        rfl
      · rw [if_neg hc] at hI
        refine .inl ⟨(), hI, fun h => evNext (fun k => ?_) h⟩
        show spec_elSent.l0 (k + 1) l s step most (l.length : Int) ((i : Int) + 1) = spec_elSent.l0 k l s step most (l.length : Int) (((i + 1 : Nat) : Int) + 1)
        simp only [spec_elSent.l0]
        rw [hm7, if_pos (by omega), if_neg (by omega), if_pos (by omega), if_pos (by omega), if_pos (by omega), if_pos (by omega), if_neg hc, w64 (by omega) (by omega)]
        rfl)
    (by
      intro u hI
      refine evEnd fun k => ?_
      show spec_elSent.l0 (k + 1) l s step most (l.length : Int) ((most.toNat : Int) + 1) = _
      simp only [spec_elSent.l0]
      rw [if_neg (by omega), ← hI, Nat.sub_self]
      rfl)
  exact key
end Go.Proofs.Ytbiiklkkfkipeaa.X

/- BothWays: the reference's side. -/
namespace Go.Proofs.Ytbiiklkkfkipeaa.X
set_option linter.unusedSimpArgs false
set_option linter.unusedVariables false
open Go.RowKit Go.Proofs.YtbiiklkkfkipeaaW.PrintWords
theorem specJ3 (l : List Int) (n c f : Int) (nx : List Int) (s : Int) (L : List Int) (ll i : Int) (A B : Int × Bool) (m : Nat) {mn : Int}
    (hle : spec_l1Least.f f n = some mn) (eB : spec_elSent.f (m + 1) l s (-1) mn = some (B.1, !B.2)) (eA : spec_elSent.f (m + 1) l s 1 mn = some (A.1, !A.2))
    (hc : 0 ≤ c ∧ c ≤ 1900000) (a1 : 0 ≤ A.1) (a2 : A.1 ≤ 24) (b1 : 0 ≤ B.1) (b2 : B.1 ≤ 24) (hn : nx.length ≤ 100) :
    spec_BothWays.j3 (m + 2) l n c f nx s L ll i false = spec_BothWays.l2 m l n (c + (ow A + ow B)) f (if (!A.2 && !B.2) = true then nx ++ [s] else nx) L ll (wrap64 (i + 1)) := by
  obtain ⟨A1, A2⟩ := A
  obtain ⟨B1, B2⟩ := B
  simp only at a1 a2 b1 b2 eA eB
  have w1 : wrap64 (B1 + A1) = B1 + A1 := w64 (by omega) (by omega)
  have w2 : wrap64 (c + (B1 + A1)) = c + (B1 + A1) := w64 (by omega) (by omega)
  have w3 : wrap64 (c + (B1 + A1) + B1) = c + (B1 + A1) + B1 := w64 (by omega) (by omega)
  have w4 : wrap64 (c + (B1 + A1) + A1) = c + (B1 + A1) + A1 := w64 (by omega) (by omega)
  have w5 : wrap64 (c + (B1 + A1) + B1 + A1) = c + (B1 + A1) + B1 + A1 := w64 (by omega) (by omega)
  have hn' : nx.length < 17592186044416 := by omega
  rw [show m + 2 = (m + 1) + 1 from rfl, spec_BothWays.j3.eq_2, if_neg (by simp), hle]
  simp only [Option.bind_some, eA, eB, w1, w2]
  cases A2 <;> cases B2 <;> simp only [Bool.not_true, Bool.not_false, Bool.false_eq_true, if_false, if_true, Bool.and_self, Bool.and_true, Bool.and_false, ow]
  · rw [spec_BothWays.j4.eq_2, if_pos rfl, if_pos rfl, if_pos hn', w3, w5]
    congr 1
    omega
  · rw [spec_BothWays.j4.eq_2, if_pos rfl, if_neg (by simp), w4]
    congr 1
    omega
  · rw [spec_BothWays.j4.eq_2, if_neg (by simp), if_pos rfl, w3]
    congr 1
    omega
  · rw [spec_BothWays.j4.eq_2, if_neg (by simp), if_neg (by simp)]
    congr 1
    omega
theorem specWays_in {l L : List Int} (hf : fresh l l.length = true) (h2 : 2 ≤ l.length) (hl : l.length ≤ 12) (f c : Int) (hff : 1 ≤ f ∧ f ≤ 24) (hc : 0 ≤ c ∧ c ≤ 1000000) (hL : L.length ≤ 12) (hLr : ∀ i : Nat, i < L.length → 0 ≤ rd L (i : Int) ∧ rd L (i : Int) < l.length) (v : Int × Bool)
    (h : Ev (fun k => spec_BothWays.l2 k l (l.length : Int) (bwTo l L f c L.length).1 f (bwTo l L f c L.length).2 L (L.length : Int) (L.length : Int)) v) :
    Ev (fun k => spec_BothWays.l2 k l (l.length : Int) c f [] L (L.length : Int) 0) v := by
  have key := evUp0 L.length (fun k (x : Int × List Int) (i : Nat) => spec_BothWays.l2 k l (l.length : Int) x.1 f x.2 L (L.length : Int) (i : Int)) (fun i x => x = bwTo l L f c i) v (c, []) rfl
    (by
      intro i x hi hI
      have hb := bwTo_bnd l L f c (by omega) hl hc.1 l.length hLr i (by omega)
      rw [← hI] at hb
      have hr := hLr i hi
      refine .inl ⟨bwTo l L f c (i + 1), rfl, fun h => ?_⟩
      obtain ⟨K, h⟩ := h
      obtain ⟨s, es⟩ : ∃ s : Nat, rd L (i : Int) = (s : Int) := ⟨(rd L (i : Int)).toNat, by omega⟩
      have hstep : bwTo l L f c (i + 1) = bwStep l f x (s : Int) := by rw [bwTo, ← hI, es]
      rw [hstep] at h
      rw [es] at hr
      have hs0 : (0 : Int) ≤ (s : Int) := hr.1
      have hs1 : (s : Int) < (l.length : Int) := hr.2
      have hl1 : l.length ≤ 1000 := by omega
      have hl2 : l.length ≤ 1048576 := by omega
      have hl3 : 0 < l.length := by omega
      have hxn : x.2.length ≤ 100 := by omega
      have hx1 : 0 ≤ x.1 ∧ x.1 ≤ 1900000 := by omega
      have hq1 : (i : Int) < (L.length : Int) := by omega
      have hq2 : (0 : Int) ≤ (i : Int) := by omega
      have hf0 : 0 ≤ f := by omega
      have hf1 : f ≤ 1000 := by omega
      have hwx := Aside0.mk (show wrap64 (x.1 + (l.length : Int)) = x.1 + (l.length : Int) from w64 (by omega) (by omega))
      have hw := Aside0.mk (show wrap64 ((i : Int) + 1) = ((i + 1 : Nat) : Int) from w64 (by omega) (by omega))
      obtain ⟨K1, e1⟩ := specWinner_ev l hl3 hl2
      have hmn : ∃ mn : Int, (0 ≤ mn ∧ mn ≤ 1000) ∧ spec_l1Least.f f (l.length : Int) = some mn ∧ (¬ (f ≥ (l.length : Int) ∧ s = top l l.length) → far l (s : Int) 1 mn = far l (s : Int) 1 f ∧ far l (s : Int) (-1) mn = far l (s : Int) (-1) f) := by
        refine ⟨(if f < (l.length : Int) then f else (l.length : Int)), by split <;> omega, by unfold spec_l1Least.f; split <;> rfl, fun hT => ⟨far_cut hf s (by omega) 1 (.inl rfl) f hT, far_cut hf s (by omega) (-1) (.inr rfl) f hT⟩⟩
      obtain ⟨mn, hmin, hle, hcut⟩ := hmn
      obtain ⟨K2, e2⟩ := specSent_ev l (s : Int) (-1) mn hs0 hs1 hl1 (.inr rfl) hmin.1 hmin.2
      obtain ⟨K3, e3⟩ := specSent_ev l (s : Int) 1 mn hs0 hs1 hl1 (.inl rfl) hmin.1 hmin.2
      dsimp only at e1 e2 e3 h
      have hgo : ∀ m, spec_BothWays.l2 (m + 1) l (l.length : Int) x.1 f x.2 L (L.length : Int) (i : Int) = if f ≥ (l.length : Int) then (spec_elWinner.f m l).bind fun t => spec_BothWays.j3 m l (l.length : Int) x.1 f x.2 (s : Int) L (L.length : Int) (i : Int) ((s : Int) == t) else spec_BothWays.j3 m l (l.length : Int) x.1 f x.2 (s : Int) L (L.length : Int) (i : Int) false := by
        intro m
        rw [spec_BothWays.l2.eq_2, if_pos hq1, if_pos hq2, if_pos hq1, es]
      refine ⟨K + K1 + K2 + K3 + 9, fun n hn => ?_⟩
      obtain ⟨m, rfl⟩ : ∃ m, n = m + 9 := ⟨n - 9, by omega⟩
      show spec_BothWays.l2 (m + 8 + 1) l (l.length : Int) x.1 f x.2 L (L.length : Int) (i : Int) = _
      rw [hgo]
      by_cases hT : f ≥ (l.length : Int) ∧ (s : Int) = ((top l l.length : Nat) : Int)
      · rw [if_pos hT.1, e1 _ (by omega)]
        simp only [Option.bind_some]
        rw [show ((s : Int) == ((top l l.length : Nat) : Int)) = true from by simp [hT.2], spec_BothWays.j3.eq_2, if_pos rfl, hwx.out, hw.out]
        have := h (m + 7) (by omega)
        unfold bwStep at this
        rw [if_pos hT] at this
        exact this
      · have hj : (if f ≥ (l.length : Int) then (spec_elWinner.f (m + 8) l).bind fun t => spec_BothWays.j3 (m + 8) l (l.length : Int) x.1 f x.2 (s : Int) L (L.length : Int) (i : Int) ((s : Int) == t) else spec_BothWays.j3 (m + 8) l (l.length : Int) x.1 f x.2 (s : Int) L (L.length : Int) (i : Int) false) = spec_BothWays.j3 (m + 8) l (l.length : Int) x.1 f x.2 (s : Int) L (L.length : Int) (i : Int) false := by
          split
          · rename_i hge
            rw [e1 _ (by omega)]
            simp only [Option.bind_some]
            rw [show ((s : Int) == ((top l l.length : Nat) : Int)) = false from by simp; exact fun e => hT ⟨hge, by omega⟩]
          · rfl
        have hT' : ¬ (f ≥ (l.length : Int) ∧ s = top l l.length) := fun e => hT ⟨e.1, by omega⟩
        obtain ⟨c1, c2⟩ := hcut hT'
        rw [c1] at e3
        rw [c2] at e2
        have b1 := far_bnd l (s : Int) 1 f hf0
        have b2 := far_bnd l (s : Int) (-1) f hf0
        have := h (m + 6) (by omega)
        unfold bwStep oneWay stays at this
        rw [if_neg hT] at this
        rw [hj, specJ3 l (l.length : Int) x.1 f x.2 (s : Int) L (L.length : Int) (i : Int) (far l (s : Int) 1 f) (far l (s : Int) (-1) f) (m + 6) hle (e2 _ (by omega)) (e3 _ (by omega)) hx1 b1.1 (Int.le_trans b1.2 hff.2) b2.1 (Int.le_trans b2.2 hff.2) hxn, hw.out]
        exact this)
    (by
      intro x hI
      rw [hI]
      exact h)
  exact key
end Go.Proofs.Ytbiiklkkfkipeaa.X

/- BothWays: the program's side. -/
namespace Go.Proofs.Ytbiiklkkfkipeaa.X
set_option linter.unusedSimpArgs false
set_option linter.unusedVariables false
open Go.RowKit Go.Proofs.YtbiiklkkfkipeaaW.PrintWords
theorem implL3 (l : List Int) (n c f : Int) (nx : List Int) (s t : Int) (L : List Int) (ll i : Int) (j : Nat) (hj : j < 2) (A : Int × Bool) (m : Nat)
    (eA : impl_reach.f m l s (rd [1, -1] (j : Int)) f = some A) (hc : 0 ≤ c ∧ c ≤ 2000000) (a1 : 0 ≤ A.1) (a2 : A.1 ≤ 24) (ht : 0 ≤ t ∧ t ≤ 2) :
    impl_BothWays.l3 (m + 1) l n c f nx s t L ll i [1, -1] 2 (j : Int) = impl_BothWays.l3 m l n (c + ow A) f nx s (if A.2 = true then t else t + 1) L ll i [1, -1] 2 ((j + 1 : Nat) : Int) := by
  have hlen : (([1, -1] : List Int).length : Int) = 2 := rfl
  obtain ⟨A1, A2⟩ := A
  simp only at a1 a2 eA
  have w1 : wrap64 (c + A1) = c + A1 := w64 (by omega) (by omega)
  have w2 : wrap64 (c + A1 + A1) = c + A1 + A1 := w64 (by omega) (by omega)
  have w3 : wrap64 (t + 1) = t + 1 := w64 (by omega) (by omega)
  have w4 : wrap64 ((j : Int) + 1) = ((j + 1 : Nat) : Int) := w64 (by omega) (by omega)
  rw [impl_BothWays.l3.eq_2, if_pos (by omega), if_pos (by omega), if_pos (by rw [hlen]; omega), eA]
  simp only [Option.bind_some, w1, w2, w3, w4]
  cases A2 <;> simp only [Bool.false_eq_true, if_false, if_true, ow]
  congr 1
  omega
theorem implJ3 (l : List Int) (n c f : Int) (nx : List Int) (s : Int) (L : List Int) (ll i : Int) (A B : Int × Bool) (m : Nat)
    (eB : impl_reach.f (m + 1) l s (-1) f = some B) (eA : impl_reach.f (m + 2) l s 1 f = some A)
    (hc : 0 ≤ c ∧ c ≤ 1900000) (a1 : 0 ≤ A.1) (a2 : A.1 ≤ 24) (b1 : 0 ≤ B.1) (b2 : B.1 ≤ 24) (hn : nx.length ≤ 100) :
    impl_BothWays.j3 (m + 4) l n c f nx s L ll i false = impl_BothWays.l2 m l n (c + (ow A + ow B)) f (if (!A.2 && !B.2) = true then nx ++ [s] else nx) L ll (wrap64 (i + 1)) := by
  have hlen : (([1, -1] : List Int).length : Int) = 2 := rfl
  have hn' : nx.length < 17592186044416 := by omega
  have hA : 0 ≤ ow A ∧ ow A ≤ 48 := by unfold ow; split <;> omega
  have e0 := implL3 l n c f nx s 0 L ll i 0 (by omega) A (m + 2) eA (by omega) a1 a2 (by omega)
  have e1 := implL3 l n (c + ow A) f nx s (if A.2 = true then 0 else 0 + 1) L ll i 1 (by omega) B (m + 1) eB (by omega) b1 b2 (by split <;> omega)
  rw [show m + 4 = (m + 3) + 1 from rfl, impl_BothWays.j3.eq_2, if_neg (by simp)]
  simp only [Option.bind_some]
  rw [hlen]
  have e0' : impl_BothWays.l3 (m + 3) l n c f nx s 0 L ll i [1, -1] 2 0 = _ := e0
  rw [e0']
  have e1' : impl_BothWays.l3 (m + 2) l n (c + ow A) f nx s (if A.2 = true then 0 else 0 + 1) L ll i [1, -1] 2 ((0 + 1 : Nat) : Int) = _ := e1
  rw [e1', impl_BothWays.l3.eq_2, if_neg (by omega)]
  obtain ⟨A1, A2⟩ := A
  obtain ⟨B1, B2⟩ := B
  have ec : c + ow (A1, A2) + ow (B1, B2) = c + (ow (A1, A2) + ow (B1, B2)) := by omega
  rw [ec]
  cases A2 <;> cases B2 <;> simp only [Bool.not_true, Bool.not_false, Bool.false_eq_true, if_false, if_true, Bool.and_self, Bool.and_true, Bool.and_false]
  · rw [if_pos (by omega), if_pos hn']
  · rw [if_neg (by omega)]
  · rw [if_neg (by omega)]
  · rw [if_neg (by omega)]
theorem implWays_in {l L : List Int} (hf : fresh l l.length = true) (h2 : 2 ≤ l.length) (hl : l.length ≤ 12) (f c : Int) (hff : 1 ≤ f ∧ f ≤ 24) (hc : 0 ≤ c ∧ c ≤ 1000000) (hL : L.length ≤ 12) (hLr : ∀ i : Nat, i < L.length → 0 ≤ rd L (i : Int) ∧ rd L (i : Int) < l.length) (v : Int × Bool)
    (h : Ev (fun k => impl_BothWays.l2 k l (l.length : Int) (bwTo l L f c L.length).1 f (bwTo l L f c L.length).2 L (L.length : Int) (L.length : Int)) v) :
    Ev (fun k => impl_BothWays.l2 k l (l.length : Int) c f [] L (L.length : Int) 0) v := by
  have key := evUp0 L.length (fun k (x : Int × List Int) (i : Nat) => impl_BothWays.l2 k l (l.length : Int) x.1 f x.2 L (L.length : Int) (i : Int)) (fun i x => x = bwTo l L f c i) v (c, []) rfl
    (by
      intro i x hi hI
      have hb := bwTo_bnd l L f c (by omega) hl hc.1 l.length hLr i (by omega)
      rw [← hI] at hb
      have hr := hLr i hi
      refine .inl ⟨bwTo l L f c (i + 1), rfl, fun h => ?_⟩
      obtain ⟨K, h⟩ := h
      obtain ⟨s, es⟩ : ∃ s : Nat, rd L (i : Int) = (s : Int) := ⟨(rd L (i : Int)).toNat, by omega⟩
      have hstep : bwTo l L f c (i + 1) = bwStep l f x (s : Int) := by rw [bwTo, ← hI, es]
      rw [hstep] at h
      rw [es] at hr
      have hs0 : (0 : Int) ≤ (s : Int) := hr.1
      have hs1 : (s : Int) < (l.length : Int) := hr.2
      have hl1 : l.length ≤ 1000 := by omega
      have hl2 : l.length ≤ 1048576 := by omega
      have hl3 : 0 < l.length := by omega
      have hxn : x.2.length ≤ 100 := by omega
      have hx1 : 0 ≤ x.1 ∧ x.1 ≤ 1900000 := by omega
      have hq1 : (i : Int) < (L.length : Int) := by omega
      have hq2 : (0 : Int) ≤ (i : Int) := by omega
      have hf0 : 0 ≤ f := by omega
      have hf1 : f ≤ 1000 := by omega
      have hwx := Aside0.mk (show wrap64 (x.1 + (l.length : Int)) = x.1 + (l.length : Int) from w64 (by omega) (by omega))
      have hw := Aside0.mk (show wrap64 ((i : Int) + 1) = ((i + 1 : Nat) : Int) from w64 (by omega) (by omega))
      obtain ⟨K1, e1⟩ := implWinner_ev l hl3 hl2 hf
      obtain ⟨K2, e2⟩ := implReach_ev l (s : Int) (-1) f hs0 hs1 hl1 (.inr rfl) hf0 hf1
      obtain ⟨K3, e3⟩ := implReach_ev l (s : Int) 1 f hs0 hs1 hl1 (.inl rfl) hf0 hf1
      dsimp only at e1 e2 e3 h
      have hgo : ∀ m, impl_BothWays.l2 (m + 1) l (l.length : Int) x.1 f x.2 L (L.length : Int) (i : Int) = if f ≥ (l.length : Int) then (impl_winner.f m l).bind fun t => impl_BothWays.j3 m l (l.length : Int) x.1 f x.2 (s : Int) L (L.length : Int) (i : Int) ((s : Int) == t) else impl_BothWays.j3 m l (l.length : Int) x.1 f x.2 (s : Int) L (L.length : Int) (i : Int) false := by
        intro m
        rw [impl_BothWays.l2.eq_2, if_pos hq1, if_pos hq2, if_pos hq1, es]
      refine ⟨K + K1 + K2 + K3 + 9, fun n hn => ?_⟩
      obtain ⟨m, rfl⟩ : ∃ m, n = m + 9 := ⟨n - 9, by omega⟩
      show impl_BothWays.l2 (m + 8 + 1) l (l.length : Int) x.1 f x.2 L (L.length : Int) (i : Int) = _
      rw [hgo]
      by_cases hT : f ≥ (l.length : Int) ∧ (s : Int) = ((top l l.length : Nat) : Int)
      · rw [if_pos hT.1, e1 _ (by omega)]
        simp only [Option.bind_some]
        rw [show ((s : Int) == ((top l l.length : Nat) : Int)) = true from by simp [hT.2], impl_BothWays.j3.eq_2, if_pos rfl, hwx.out, hw.out]
        have := h (m + 7) (by omega)
        unfold bwStep at this
        rw [if_pos hT] at this
        exact this
      · have hj : (if f ≥ (l.length : Int) then (impl_winner.f (m + 8) l).bind fun t => impl_BothWays.j3 (m + 8) l (l.length : Int) x.1 f x.2 (s : Int) L (L.length : Int) (i : Int) ((s : Int) == t) else impl_BothWays.j3 (m + 8) l (l.length : Int) x.1 f x.2 (s : Int) L (L.length : Int) (i : Int) false) = impl_BothWays.j3 (m + 8) l (l.length : Int) x.1 f x.2 (s : Int) L (L.length : Int) (i : Int) false := by
          split
          · rename_i hge
            rw [e1 _ (by omega)]
            simp only [Option.bind_some]
            rw [show ((s : Int) == ((top l l.length : Nat) : Int)) = false from by simp; exact fun e => hT ⟨hge, by omega⟩]
          · rfl
        have b1 := far_bnd l (s : Int) 1 f hf0
        have b2 := far_bnd l (s : Int) (-1) f hf0
        have := h (m + 4) (by omega)
        unfold bwStep oneWay stays at this
        rw [if_neg hT] at this
        rw [hj, implJ3 l (l.length : Int) x.1 f x.2 (s : Int) L (L.length : Int) (i : Int) (far l (s : Int) 1 f) (far l (s : Int) (-1) f) (m + 4) (e2 _ (by omega)) (e3 _ (by omega)) hx1 b1.1 (Int.le_trans b1.2 hff.2) b2.1 (Int.le_trans b2.2 hff.2) hxn, hw.out]
        exact this)
    (by
      intro x hI
      rw [hI]
      exact h)
  exact key
end Go.Proofs.Ytbiiklkkfkipeaa.X

/- BothWays: the program and the reference come to the same. -/
namespace Go.Proofs.Ytbiiklkkfkipeaa.X
set_option linter.unusedSimpArgs false
set_option linter.unusedVariables false
open Go.RowKit Go.Proofs.YtbiiklkkfkipeaaW.PrintWords
theorem bothOut {l : List Int} (hf : fresh l l.length = true) (h2 : 2 ≤ l.length) (hl : l.length ≤ 12) : ∀ (d : Nat) (f c : Int) (L : List Int), d ≤ 4 → (l.length : Int) ≤ f * 2 ^ d → (1 ≤ f ∧ f ≤ 24) → (0 ≤ c ∧ c ≤ 1000000 - 100000 * d) → L.length ≤ 12 → (∀ i : Nat, i < L.length → 0 ≤ rd L (i : Int) ∧ rd L (i : Int) < l.length) →
    ∃ v, Ev (fun k => spec_BothWays.l1 k l (l.length : Int) L c f) v ∧ Ev (fun k => impl_BothWays.l1 k l (l.length : Int) L c f) v := by
  intro d
  induction d with
  | zero =>
    intro f c L _ hd hff hc hL hLr
    have hge : f ≥ (l.length : Int) := by simp at hd; omega
    refine ⟨((bwTo l L f c L.length).1, true), ?_, ?_⟩
    · refine evNext (fun k => by rw [spec_BothWays.l1.eq_2]) (specWays_in hf h2 hl f c hff (by omega) hL hLr _ (evEnd fun k => ?_))
      rw [spec_BothWays.l2.eq_2, if_neg (by omega), if_pos hge]
    · refine evNext (fun k => by rw [impl_BothWays.l1.eq_2]) (implWays_in hf h2 hl f c hff (by omega) hL hLr _ (evEnd fun k => ?_))
      rw [impl_BothWays.l2.eq_2, if_neg (by omega), if_pos hge]
  | succ d ih =>
    intro f c L hdd hd hff hc hL hLr
    by_cases hge : f ≥ (l.length : Int)
    · refine ⟨((bwTo l L f c L.length).1, true), ?_, ?_⟩
      · refine evNext (fun k => by rw [spec_BothWays.l1.eq_2]) (specWays_in hf h2 hl f c hff (by omega) hL hLr _ (evEnd fun k => ?_))
        rw [spec_BothWays.l2.eq_2, if_neg (by omega), if_pos hge]
      · refine evNext (fun k => by rw [impl_BothWays.l1.eq_2]) (implWays_in hf h2 hl f c hff (by omega) hL hLr _ (evEnd fun k => ?_))
        rw [impl_BothWays.l2.eq_2, if_neg (by omega), if_pos hge]
    · have hb := bwTo_bnd l L f c (by omega) hl hc.1 l.length hLr L.length (Nat.le_refl _)
      obtain ⟨hb1, hb2, hb3, hb4⟩ := hb
      have hpow : (l.length : Int) ≤ f * 2 * 2 ^ d := by
        rw [Int.mul_assoc, Int.mul_comm 2, ← Int.pow_succ]
        exact hd
      obtain ⟨v, e1, e2⟩ := ih (f * 2) (bwTo l L f c L.length).1 (bwTo l L f c L.length).2 (by omega) hpow (by omega) (by omega) (by omega) (fun i hi => by
        rw [rd_at _ i hi]
        exact hb4 _ (List.getElem_mem hi))
      refine ⟨v, ?_, ?_⟩
      · refine evNext (fun k => by rw [spec_BothWays.l1.eq_2]) (specWays_in hf h2 hl f c hff (by omega) hL hLr v (evNext (fun k => ?_) e1))
        rw [spec_BothWays.l2.eq_2, if_neg (by omega), if_neg hge, w64 (by omega) (by omega)]
      · refine evNext (fun k => by rw [impl_BothWays.l1.eq_2]) (implWays_in hf h2 hl f c hff (by omega) hL hLr v (evNext (fun k => ?_) e2))
        rw [impl_BothWays.l2.eq_2, if_neg (by omega), if_neg hge, w64 (by omega) (by omega)]
def idxs (n : Nat) : List Int := (List.range n).map (fun (i : Nat) => (i : Int))
theorem idxs_len (n : Nat) : (idxs n).length = n := by simp [idxs]
theorem idxs_succ (n : Nat) : idxs (n + 1) = idxs n ++ [(n : Int)] := by simp [idxs, List.range_succ]
theorem idxs_rd (n i : Nat) (h : i < n) : rd (idxs n) (i : Int) = (i : Int) := by
  rw [rd_at _ i (by rw [idxs_len]; exact h)]
  simp [idxs]
theorem BothWays_same (l : List Int) (h : (l.length ≤ maxLen ∧ l.length * 8 ≤ 140737488351232 ∧ (∀ x ∈ l, (Lit.int .i64 x).wf = true) ∧ l.length ≤ 1048576)) :
    ∃ v, Ev (fun k => spec_BothWays.f k l) v ∧ Ev (fun k => impl_BothWays.f k l) v := by
  obtain ⟨K, e⟩ := specNames_ev l h.2.2.2
  obtain ⟨K', e'⟩ := implNames_ev l h.2.2.2
  dsimp only at e e'
  cases hk : isNm l with
  | true =>
    rw [hk] at e e'
    have hb := isNm_iff hk
    obtain ⟨v, g1, g2⟩ := bothOut hb.2.2.2 hb.1 hb.2.1 4 1 0 (idxs l.length) (by omega) (by have := hb.2.1; omega) (by omega) (by omega) (by rw [idxs_len]; exact hb.2.1) (fun i hi => by
      rw [idxs_len] at hi
      rw [idxs_rd _ i hi]
      omega)
    have k1 := evUp0 l.length (fun k (x : List Int) (i : Nat) => spec_BothWays.l0 k l (l.length : Int) x (l.length : Int) (i : Int)) (fun i x => x = idxs i) v [] rfl
      (by
        intro i x hi hI
        have hx := idxs_len i
        rw [← hI] at hx
        refine .inl ⟨idxs (i + 1), rfl, fun h => evNext (fun k => ?_) h⟩
        show spec_BothWays.l0 (k + 1) l (l.length : Int) x (l.length : Int) (i : Int) = spec_BothWays.l0 k l (l.length : Int) (idxs (i + 1)) (l.length : Int) ((i + 1 : Nat) : Int)
        rw [spec_BothWays.l0.eq_2, if_pos (by omega), if_pos (by omega), w64 (by omega) (by omega), idxs_succ, hI]
        rfl)
      (by
        intro x hI
        rw [hI]
        refine evNext (fun k => ?_) g1
        show spec_BothWays.l0 (k + 1) l (l.length : Int) (idxs l.length) (l.length : Int) (l.length : Int) = _
        rw [spec_BothWays.l0.eq_2, if_neg (by omega)])
    have k2 := evUp0 l.length (fun k (x : List Int) (i : Nat) => impl_BothWays.l0 k l (l.length : Int) x 0 (l.length : Int) (i : Int)) (fun i x => x = idxs i) v [] rfl
      (by
        intro i x hi hI
        have hx := idxs_len i
        rw [← hI] at hx
        refine .inl ⟨idxs (i + 1), rfl, fun h => evNext (fun k => ?_) h⟩
        show impl_BothWays.l0 (k + 1) l (l.length : Int) x 0 (l.length : Int) (i : Int) = impl_BothWays.l0 k l (l.length : Int) (idxs (i + 1)) 0 (l.length : Int) ((i + 1 : Nat) : Int)
        rw [impl_BothWays.l0.eq_2, if_pos (by omega), if_pos (by omega), w64 (by omega) (by omega), idxs_succ, hI]
        rfl)
      (by
        intro x hI
        rw [hI]
        refine evNext (fun k => ?_) g2
        show impl_BothWays.l0 (k + 1) l (l.length : Int) (idxs l.length) 0 (l.length : Int) (l.length : Int) = _
        rw [impl_BothWays.l0.eq_2, if_neg (by omega)])
    obtain ⟨K1, e1⟩ := k1
    obtain ⟨K2, e2⟩ := k2
    refine ⟨v, ⟨K + K1, fun n hn => ?_⟩, ⟨K' + K2, fun n hn => ?_⟩⟩
    · simp (disch := omega) only [spec_BothWays.f, e, Option.bind_some, if_true]
      exact e1 n (by omega)
    · simp (disch := omega) only [impl_BothWays.f, e', Option.bind_some, if_true]
      exact e2 n (by omega)
  | false =>
    rw [hk] at e e'
    refine ⟨(0, false), ⟨K + 9, fun n hn => ?_⟩, ⟨K' + 9, fun n hn => ?_⟩⟩
    · simp (disch := omega) [spec_BothWays.f, e]
    · simp (disch := omega) [impl_BothWays.f, e']
end Go.Proofs.Ytbiiklkkfkipeaa.X

/- PassedOn: the program and the reference come to the same. -/
namespace Go.Proofs.Ytbiiklkkfkipeaa.X
set_option linter.unusedSimpArgs false
set_option linter.unusedVariables false
open Go.RowKit Go.Proofs.YtbiiklkkfkipeaaW.PrintWords
theorem rch_bound (l : List Int) (s step most : Int) : ∀ (n : Nat) (k : Int), 1 ≤ k → (n : Int) + k - 1 ≤ most → 0 ≤ most → (1 ≤ (rch l s step most n k).1 ∨ (rch l s step most n k).1 = most) ∧ (rch l s step most n k).1 ≤ most
  | 0, k, h1, h2, h3 => by simp [rch]
  | n + 1, k, h1, h2, h3 => by
    simp only [rch]
    split
    · exact ⟨.inl h1, by simp only; omega⟩
    · exact rch_bound l s step most n (k + 1) (by omega) (by omega) h3
theorem far_bound (l : List Int) (s step most : Int) (h : 1 ≤ most) : 1 ≤ (far l s step most).1 ∧ (far l s step most).1 ≤ most := by
  have := rch_bound l s step most most.toNat 1 (by omega) (by omega) (by omega)
  unfold far
  omega
end Go.Proofs.Ytbiiklkkfkipeaa.X

/- Plain lemmas: the rounds of an election: who survives. -/
namespace Go.Proofs.Ytbiiklkkfkipeaa.X
set_option linter.unusedSimpArgs false
set_option linter.unusedVariables false
open Go.RowKit Go.Proofs.YtbiiklkkfkipeaaW.PrintWords
def prevI (n i : Nat) : Nat := if i = 0 then n - 1 else i - 1
def sNear (a : List Int) (i : Nat) : Int := rd a ((prevI a.length i : Nat) : Int)
def sFar (a : List Int) (i : Nat) : Int := rd a ((prevI a.length (prevI a.length i) : Nat) : Int)
def surv (a : List Int) (i : Nat) : Bool := decide (sFar a i < sNear a i) && decide (rd a (i : Int) < sNear a i)
def sIdx (a : List Int) (n : Nat) : List Nat := (List.range n).filter (surv a)
def nextS (l a : List Int) (n : Nat) : List Int := (sIdx a n).map (fun (i : Nat) => rd l (i : Int))
def nextN (a : List Int) (n : Nat) : List Int := (sIdx a n).map (sNear a)
def Dist (a : List Int) : Prop := ∀ i j : Nat, i < a.length → j < a.length → i ≠ j → rd a (i : Int) ≠ rd a (j : Int)
theorem prevI_lt {n i : Nat} (hi : i < n) : prevI n i < n := by unfold prevI; split <;> omega
theorem sIdx_succ (a : List Int) (n : Nat) : sIdx a (n + 1) = if surv a n = true then sIdx a n ++ [n] else sIdx a n := by
  unfold sIdx
  rw [List.range_succ, List.filter_append]
  cases h : surv a n <;> simp [List.filter_cons, h]
theorem nextS_succ (l a : List Int) (n : Nat) : nextS l a (n + 1) = if surv a n = true then nextS l a n ++ [rd l (n : Int)] else nextS l a n := by
  unfold nextS
  rw [sIdx_succ]
  split <;> simp
theorem nextN_succ (a : List Int) (n : Nat) : nextN a (n + 1) = if surv a n = true then nextN a n ++ [sNear a n] else nextN a n := by
  unfold nextN
  rw [sIdx_succ]
  split <;> simp
theorem sIdx_le (a : List Int) (n : Nat) : (sIdx a n).length ≤ n := by
  have := List.length_filter_le (surv a) (List.range n)
  rw [List.length_range] at this
  exact this
theorem nextS_len (l a : List Int) (n : Nat) : (nextS l a n).length = (sIdx a n).length := by simp [nextS]
theorem nextN_len (a : List Int) (n : Nat) : (nextN a n).length = (sIdx a n).length := by simp [nextN]
theorem sIdx_mem (a : List Int) (n q : Nat) (h : q < (sIdx a n).length) : (sIdx a n)[q] < n ∧ surv a (sIdx a n)[q] = true := by
  have : (sIdx a n)[q] ∈ sIdx a n := List.getElem_mem h
  unfold sIdx at this
  rw [List.mem_filter, List.mem_range] at this
  exact this
theorem sIdx_inc (a : List Int) (n p q : Nat) (hp : p < (sIdx a n).length) (hq : q < (sIdx a n).length) (h : p < q) : (sIdx a n)[p] < (sIdx a n)[q] := by
  have h1 : (sIdx a n).Pairwise (· < ·) := List.Pairwise.filter _ List.pairwise_lt_range
  exact (List.pairwise_iff_getElem.1 h1) p q hp hq h
theorem rd_nextS (l a : List Int) (n q : Nat) (h : q < (sIdx a n).length) : rd (nextS l a n) (q : Int) = rd l ((sIdx a n)[q] : Int) := by
  rw [rd_at _ q (by rw [nextS_len]; exact h)]
  simp [nextS]
theorem rd_nextN (a : List Int) (n q : Nat) (h : q < (sIdx a n).length) : rd (nextN a n) (q : Int) = sNear a (sIdx a n)[q] := by
  rw [rd_at _ q (by rw [nextN_len]; exact h)]
  simp [nextN]
theorem prevI_inj {n i j : Nat} (hi : i < n) (hj : j < n) (h : i ≠ j) : prevI n i ≠ prevI n j := by
  unfold prevI
  split <;> split <;> omega
theorem dist_nextN {a : List Int} (h : Dist a) : Dist (nextN a a.length) := by
  intro i j hi hj hij
  rw [nextN_len] at hi hj
  have m1 := sIdx_mem a a.length i hi
  have m2 := sIdx_mem a a.length j hj
  rw [rd_nextN a _ i hi, rd_nextN a _ j hj]
  unfold sNear
  refine h _ _ (prevI_lt m1.1) (prevI_lt m2.1) (prevI_inj m1.1 m2.1 ?_)
  rcases Nat.lt_or_gt_of_ne hij with hlt | hgt
  · have := sIdx_inc a a.length i j hi hj hlt
    omega
  · have := sIdx_inc a a.length j i hj hi hgt
    omega
theorem dist_nextS {l a : List Int} (hl : Dist l) (hla : a.length ≤ l.length) : Dist (nextS l a a.length) := by
  intro i j hi hj hij
  rw [nextS_len] at hi hj
  have m1 := sIdx_mem a a.length i hi
  have m2 := sIdx_mem a a.length j hj
  rw [rd_nextS l a _ i hi, rd_nextS l a _ j hj]
  refine hl _ _ (by omega) (by omega) ?_
  rcases Nat.lt_or_gt_of_ne hij with hlt | hgt
  · have := sIdx_inc a a.length i j hi hj hlt
    omega
  · have := sIdx_inc a a.length j i hj hi hgt
    omega
theorem exists_max (f : Nat → Int) : ∀ n : Nat, 0 < n → ∃ m, m < n ∧ ∀ j, j < n → f j ≤ f m := by
  intro n
  induction n with
  | zero => intro h; omega
  | succ n ih =>
    intro _
    by_cases h0 : n = 0
    · subst h0
      exact ⟨0, by omega, fun j hj => by obtain rfl : j = 0 := by omega
                                         exact Int.le_refl _⟩
    · obtain ⟨m, hm, hx⟩ := ih (by omega)
      by_cases hc : f n ≤ f m
      · exact ⟨m, by omega, fun j hj => by
          by_cases e : j = n
          · rw [e]; exact hc
          · exact hx j (by omega)⟩
      · exact ⟨n, by omega, fun j hj => by
          by_cases e : j = n
          · rw [e]; exact Int.le_refl _
          · have := hx j (by omega)
            omega⟩
theorem filter_lt {α : Type} (p : α → Bool) (l : List α) (x : α) (hx : x ∈ l) (hp : p x = false) : (l.filter p).length + 1 ≤ l.length := by
  induction l with
  | nil => cases hx
  | cons y ys ih =>
    have hle := List.length_filter_le p ys
    rcases List.mem_cons.1 hx with rfl | hx
    · simp only [List.filter_cons, hp, List.length_cons]
      simp only [Bool.false_eq_true, if_false]
      omega
    · have := ih hx
      simp only [List.filter_cons, List.length_cons]
      split
      · simp only [List.length_cons]; omega
      · omega
/-- Somebody survives, and somebody doesn't. -/
theorem surv_some {a : List Int} (h : Dist a) (h2 : 2 ≤ a.length) : 0 < (sIdx a a.length).length ∧ (sIdx a a.length).length + 1 ≤ a.length := by
  obtain ⟨m, hm, hx⟩ := exists_max (fun j => rd a (j : Int)) a.length (by omega)
  have hlt : ∀ j, j < a.length → j ≠ m → rd a (j : Int) < rd a (m : Int) := by
    intro j hj hjm
    have := hx j hj
    have := h j m hj hm hjm
    omega
  constructor
  · obtain ⟨i, hi, hpi⟩ : ∃ i, i < a.length ∧ prevI a.length i = m := by
      by_cases hc : m + 1 < a.length
      · exact ⟨m + 1, hc, by unfold prevI; rw [if_neg (by omega)]; omega⟩
      · exact ⟨0, by omega, by unfold prevI; rw [if_pos rfl]; omega⟩
    have hne : i ≠ m := by
      intro e
      subst e
      unfold prevI at hpi
      split at hpi <;> omega
    have hff : prevI a.length m ≠ m := by
      unfold prevI
      split <;> omega
    have hs : surv a i = true := by
      unfold surv sNear sFar
      rw [hpi]
      have e1 := hlt _ (prevI_lt hm) hff
      have e2 := hlt i hi hne
      simp [e1, e2]
    have : i ∈ sIdx a a.length := by
      unfold sIdx
      rw [List.mem_filter, List.mem_range]
      exact ⟨hi, hs⟩
    exact List.length_pos_of_mem this
  · have hs : surv a m = false := by
      unfold surv
      have : ¬ rd a (m : Int) < sNear a m := by
        unfold sNear
        have := hx _ (prevI_lt (n := a.length) hm)
        omega
      simp [this]
    have := filter_lt (surv a) (List.range a.length) m (List.mem_range.2 hm) hs
    rw [List.length_range] at this
    exact this
/-- What comes behind a list: the lists of the rounds. -/
def tailF : Nat → List Int → List Int → List (List Int)
  | 0, _, _ => []
  | f + 1, l, a => if l.length ≤ 1 then [] else nextS l a a.length :: tailF f (nextS l a a.length) (nextN a a.length)
theorem tailF_each : ∀ (f : Nat) (l a : List Int), l.length = a.length → ∀ r ∈ tailF f l a, r.length ≤ l.length := by
  intro f
  induction f with
  | zero => intro l a _ r hr; cases hr
  | succ f ih =>
    intro l a hl r hr
    simp only [tailF] at hr
    split at hr
    · cases hr
    · have h1 := sIdx_le a a.length
      rcases List.mem_cons.1 hr with rfl | hr
      · rw [nextS_len]; omega
      · have := ih _ _ (by rw [nextS_len, nextN_len]) r hr
        rw [nextS_len] at this
        omega
theorem tailF_len : ∀ (f : Nat) (l a : List Int), (tailF f l a).length ≤ f := by
  intro f
  induction f with
  | zero => intro l a; simp [tailF]
  | succ f ih =>
    intro l a
    simp only [tailF]
    split
    · simp
    · have := ih (nextS l a a.length) (nextN a a.length)
      simp only [List.length_cons]
      omega
theorem mod1 {i n : Nat} (hi : i < n) : Int.tmod ((i : Int) + (n : Int) - 1) (n : Int) = ((prevI n i : Nat) : Int) := by
  rw [Int.tmod_eq_emod_of_nonneg (by omega)]
  unfold prevI
  by_cases h : i = 0
  · rw [if_pos h, Int.emod_eq_of_lt (by omega) (by omega)]
    omega
  · rw [if_neg h, show (i : Int) + n - 1 = ((i : Int) - 1) + n from by omega, Int.add_emod_right, Int.emod_eq_of_lt (by omega) (by omega)]
    omega
theorem mod2 {i n : Nat} (hi : i < n) (h2 : 2 ≤ n) : Int.tmod ((i : Int) + (n : Int) - 2) (n : Int) = ((prevI n (prevI n i) : Nat) : Int) := by
  rw [Int.tmod_eq_emod_of_nonneg (by omega)]
  unfold prevI
  by_cases h : i = 0
  · rw [if_pos h, if_neg (by omega), Int.emod_eq_of_lt (by omega) (by omega)]
    omega
  · rw [if_neg h]
    by_cases h1 : i = 1
    · rw [if_pos (by omega), Int.emod_eq_of_lt (by omega) (by omega)]
      omega
    · rw [if_neg (by omega), show (i : Int) + n - 2 = ((i : Int) - 2) + n from by omega, Int.add_emod_right, Int.emod_eq_of_lt (by omega) (by omega)]
      omega
theorem mod3 {i n : Nat} (hi : i < n) (h2 : 2 ≤ n) : Int.tmod ((i : Int) + 2 * (n : Int) - 2) (n : Int) = ((prevI n (prevI n i) : Nat) : Int) := by
  rw [← mod2 hi h2, Int.tmod_eq_emod_of_nonneg (by omega), Int.tmod_eq_emod_of_nonneg (by omega), show (i : Int) + 2 * (n : Int) - 2 = ((i : Int) + n - 2) + n from by omega, Int.add_emod_right]
end Go.Proofs.Ytbiiklkkfkipeaa.X

/- Plain lemmas: the rounds of an election: half as many at most survive; the same order, the same rounds; turned names, as many rounds. -/
namespace Go.Proofs.Ytbiiklkkfkipeaa.X
set_option linter.unusedSimpArgs false
set_option linter.unusedVariables false
open Go.RowKit Go.Proofs.YtbiiklkkfkipeaaW.PrintWords
/-- Who is behind a survivor does not survive. -/
theorem surv_prev {a : List Int} {i : Nat} (h : surv a i = true) : surv a (prevI a.length i) = false := by
  unfold surv sNear sFar at *
  simp only [Bool.and_eq_true, decide_eq_true_eq] at h
  rw [Bool.and_eq_false_iff]
  right
  rw [decide_eq_false_iff_not]
  omega
theorem half_to (a : List Int) : ∀ m : Nat, m + 1 ≤ a.length → 2 * (sIdx a (m + 1)).length + (if surv a 0 = true then 0 else 1) ≤ (m + 1) + (if surv a m = true then 1 else 0) := by
  intro m
  induction m with
  | zero =>
    intro _
    rw [sIdx_succ]
    have h0 : sIdx a 0 = [] := rfl
    by_cases h : surv a 0 = true
    · rw [if_pos h, if_pos h, if_pos h, h0]; simp
    · rw [if_neg h, if_neg h, if_neg h, h0]; simp
  | succ m ih =>
    intro hm
    have ih := ih (by omega)
    rw [sIdx_succ]
    by_cases h : surv a (m + 1) = true
    · have hp := surv_prev h
      have e : prevI a.length (m + 1) = m := by unfold prevI; rw [if_neg (by omega)]; omega
      rw [e] at hp
      rw [hp] at ih
      simp only [Bool.false_eq_true, if_false] at ih
      rw [if_pos h, if_pos h, List.length_append, List.length_cons, List.length_nil]
      omega
    · rw [if_neg h, if_neg h]
      have : (if surv a m = true then 1 else 0) ≤ 1 := by split <;> omega
      omega
/-- Half as many at most survive. -/
theorem half {a : List Int} (h2 : 2 ≤ a.length) : 2 * (sIdx a a.length).length ≤ a.length := by
  have h := half_to a (a.length - 1) (by omega)
  rw [show a.length - 1 + 1 = a.length by omega] at h
  by_cases c : surv a (a.length - 1) = true
  · have h0 : surv a 0 = false := by
      cases e : surv a 0 with
      | false => rfl
      | true =>
        have := surv_prev e
        rw [show prevI a.length 0 = a.length - 1 from rfl, c] at this
        cases this
    rw [if_pos c, h0] at h
    simp only [Bool.false_eq_true, if_false] at h
    omega
  · rw [if_neg c] at h
    omega
theorem map_rd (l : List Int) : (List.range l.length).map (fun (i : Nat) => rd l (i : Int)) = l := by
  refine List.ext_getElem (by simp) (fun i h1 h2 => ?_)
  rw [List.getElem_map, List.getElem_range, rd_at l i h2]
theorem nextS_sub (l a : List Int) : (nextS l a l.length).Sublist l := by
  have h : (nextS l a l.length).Sublist ((List.range l.length).map (fun (i : Nat) => rd l (i : Int))) := List.Sublist.map _ List.filter_sublist
  rwa [map_rd] at h
/-- Each round: half as many at most, somebody, of those before, in order. -/
def Chain : List Int → List (List Int) → Prop
  | _, [] => True
  | l, r :: rs => 2 * r.length ≤ l.length ∧ 1 ≤ r.length ∧ (∀ s ∈ r, s ∈ l) ∧ r.Pairwise (· < ·) ∧ Chain r rs
theorem chain_tail : ∀ (f : Nat) (l a : List Int), l.length = a.length → Dist a → l.Pairwise (· < ·) → Chain l (tailF f l a)
  | 0, _, _, _, _, _ => trivial
  | f + 1, l, a, hl, hd, hp => by
    simp only [tailF]
    split
    · trivial
    · rename_i hn
      have h1 := surv_some hd (by omega)
      have h2 := half (a := a) (by omega)
      have hs := nextS_sub l a
      rw [hl] at hs
      refine ⟨by rw [nextS_len]; omega, by rw [nextS_len]; omega, fun s hs' => hs.subset hs', hp.sublist hs, chain_tail f _ _ (by rw [nextS_len, nextN_len]) (dist_nextN hd) (hp.sublist hs)⟩
theorem tail_last : ∀ (f : Nat) (l a : List Int), l.length = a.length → 1 ≤ l.length → l.length ≤ f + 1 → Dist a → ((l :: tailF f l a).getLast (by simp)).length = 1
  | 0, l, a, _, h1, h2, _ => by simp [tailF]; omega
  | f + 1, l, a, hl, h1, h2, hd => by
    by_cases hn : l.length ≤ 1
    · simp only [tailF, if_pos hn]
      simp
      omega
    · have h3 := surv_some hd (by omega)
      have ih := tail_last f (nextS l a a.length) (nextN a a.length) (by rw [nextS_len, nextN_len]) (by rw [nextS_len]; omega) (by rw [nextS_len]; omega) (dist_nextN hd)
      simp only [tailF, if_neg hn]
      rw [List.getLast_cons (by simp)]
      exact ih
theorem Chain.at_ : ∀ (rs : List (List Int)) (l : List Int), Chain l rs → ∀ k : Nat, (hk : k + 1 < (l :: rs).length) → 2 * ((l :: rs)[k + 1]).length ≤ ((l :: rs)[k]).length ∧ 1 ≤ ((l :: rs)[k + 1]).length ∧ (∀ s ∈ (l :: rs)[k + 1], s ∈ (l :: rs)[k]) ∧ ((l :: rs)[k + 1]).Pairwise (· < ·)
  | [], l, _, k, hk => by simp at hk
  | r :: rs, l, h, k, hk => by
    obtain ⟨h1, h2, h3, h4, h5⟩ := h
    cases k with
    | zero => exact ⟨h1, h2, h3, h4⟩
    | succ k => exact Chain.at_ rs r h5 k (by simpa using hk)
/-- The same order of names. -/
def Iso (a b : List Int) : Prop := a.length = b.length ∧ ∀ i j : Nat, i < a.length → j < a.length → (rd a (i : Int) < rd a (j : Int) ↔ rd b (i : Int) < rd b (j : Int))
theorem surv_iso {a b : List Int} (h : Iso a b) {i : Nat} (hi : i < a.length) : surv a i = surv b i := by
  have p1 := prevI_lt hi
  have p2 := prevI_lt p1
  unfold surv sNear sFar
  rw [← h.1]
  have e1 := h.2 _ _ p2 p1
  have e2 := h.2 _ _ hi p1
  simp only [e1, e2]
theorem sIdx_iso {a b : List Int} (h : Iso a b) {n : Nat} (hn : n ≤ a.length) : sIdx a n = sIdx b n := by
  unfold sIdx
  refine List.filter_congr (fun i hi => surv_iso h ?_)
  rw [List.mem_range] at hi
  omega
theorem nextN_iso {a b : List Int} (h : Iso a b) : Iso (nextN a a.length) (nextN b b.length) := by
  have e : sIdx b b.length = sIdx a a.length := by rw [← h.1]; exact (sIdx_iso h (Nat.le_refl _)).symm
  refine ⟨by rw [nextN_len, nextN_len, e], fun i j hi hj => ?_⟩
  rw [nextN_len] at hi hj
  have m1 := sIdx_mem a a.length i hi
  have m2 := sIdx_mem a a.length j hj
  rw [rd_nextN a _ i hi, rd_nextN a _ j hj, rd_nextN b _ i (by rw [e]; exact hi), rd_nextN b _ j (by rw [e]; exact hj)]
  simp only [e]
  unfold sNear
  have hh := h.2 _ _ (prevI_lt m1.1) (prevI_lt m2.1)
  have hb : ∀ q : Nat, prevI b.length q = prevI a.length q := fun q => by rw [h.1]
  rw [hb, hb]
  exact hh
theorem tailF_iso : ∀ (f : Nat) (l a b : List Int), Iso a b → l.length = a.length → tailF f l a = tailF f l b
  | 0, _, _, _, _, _ => rfl
  | f + 1, l, a, b, h, hl => by
    have e : sIdx a a.length = sIdx b b.length := by rw [← h.1]; exact sIdx_iso h (Nat.le_refl _)
    have e2 : nextS l a a.length = nextS l b b.length := by unfold nextS; rw [e]
    simp only [tailF]
    rw [← e2]
    split
    · rfl
    · rw [tailF_iso f (nextS l a a.length) _ _ (nextN_iso h) (by rw [nextS_len, nextN_len])]
/-- The names, turned by one station. -/
def rot (a : List Int) : List Int := a.drop 1 ++ [rd a 0]
theorem rot_len {a : List Int} (h : 1 ≤ a.length) : (rot a).length = a.length := by simp [rot]; omega
theorem rd_rot {a : List Int} {i : Nat} (hi : i < a.length) : rd (rot a) (i : Int) = rd a (((i + 1) % a.length : Nat) : Int) := by
  rw [rd_at _ i (by rw [rot_len (by omega)]; exact hi)]
  unfold rot
  by_cases h : i + 1 < a.length
  · rw [List.getElem_append_left (by simp; omega), List.getElem_drop, Nat.mod_eq_of_lt h, rd_at a _ h]
    simp only [Nat.add_comm]
  · rw [List.getElem_append_right (by simp; omega)]
    have e : (i + 1) % a.length = 0 := by rw [show i + 1 = a.length by omega, Nat.mod_self]
    simp only [e]
    simp
theorem prev_next {n i : Nat} (hi : i < n) : (prevI n i + 1) % n = i := by
  unfold prevI
  by_cases h : i = 0
  · rw [if_pos h, show n - 1 + 1 = n by omega, Nat.mod_self, h]
  · rw [if_neg h, show i - 1 + 1 = i by omega, Nat.mod_eq_of_lt hi]
theorem next_prev {n i : Nat} (hi : i < n) : prevI n ((i + 1) % n) = i := by
  unfold prevI
  by_cases h : i + 1 < n
  · rw [Nat.mod_eq_of_lt h, if_neg (by omega)]
    omega
  · rw [show i + 1 = n by omega, Nat.mod_self, if_pos rfl]
    omega
theorem near_rot {a : List Int} {i : Nat} (hi : i < a.length) : sNear (rot a) i = sNear a ((i + 1) % a.length) := by
  unfold sNear
  rw [rot_len (by omega), rd_rot (prevI_lt hi), prev_next hi, next_prev hi]
theorem surv_rot {a : List Int} {i : Nat} (hi : i < a.length) : surv (rot a) i = surv a ((i + 1) % a.length) := by
  have hp := prevI_lt hi
  have hf : sFar (rot a) i = sFar a ((i + 1) % a.length) := by
    unfold sFar
    rw [rot_len (by omega), rd_rot (prevI_lt hp), prev_next hp, next_prev hi]
  unfold surv
  rw [near_rot hi, rd_rot hi, hf]
theorem next_rot_aux {a : List Int} (L : List Nat) (hL : ∀ i ∈ L, i < a.length) : (L.filter (surv (rot a))).map (sNear (rot a)) = ((L.map (fun i => (i + 1) % a.length)).filter (surv a)).map (sNear a) := by
  induction L with
  | nil => rfl
  | cons x r ih =>
    have hx := hL x (by simp)
    have ih := ih (fun i hi => hL i (by simp [hi]))
    rw [List.map_cons, List.filter_cons, List.filter_cons, surv_rot hx]
    by_cases c : surv a ((x + 1) % a.length) = true
    · rw [if_pos c, if_pos c, List.map_cons, List.map_cons, near_rot hx, ih]
    · rw [if_neg c, if_neg c, ih]
theorem range_rot (m : Nat) : (List.range (m + 1)).map (fun i => (i + 1) % (m + 1)) = (List.range m).map (· + 1) ++ [0] := by
  rw [List.range_succ, List.map_append]
  congr 1
  · refine List.map_congr_left (fun i hi => ?_)
    rw [List.mem_range] at hi
    exact Nat.mod_eq_of_lt (by omega)
  · simp
theorem next_rot {a : List Int} (h : 1 ≤ a.length) : nextN (rot a) (rot a).length = nextN a a.length ∨ nextN (rot a) (rot a).length = rot (nextN a a.length) := by
  obtain ⟨m, hm⟩ : ∃ m, a.length = m + 1 := ⟨a.length - 1, by omega⟩
  have e1 : nextN (rot a) (rot a).length = ((((List.range m).map (· + 1)) ++ [0]).filter (surv a)).map (sNear a) := by
    unfold nextN sIdx
    rw [rot_len h, next_rot_aux _ (fun i hi => by rwa [List.mem_range] at hi), hm, range_rot]
  have e2 : nextN a a.length = ((0 :: (List.range m).map (· + 1)).filter (surv a)).map (sNear a) := by
    unfold nextN sIdx
    rw [hm, List.range_succ_eq_map]
  rw [e1, e2, List.filter_append, List.map_append]
  by_cases c : surv a 0 = true
  · right
    rw [List.filter_cons, if_pos c, List.filter_cons, if_pos c, List.filter_nil, List.map_cons]
    rfl
  · left
    rw [List.filter_cons, if_neg c, List.filter_cons, if_neg c, List.filter_nil, List.map_nil, List.append_nil]
/-- As many rounds when the names are turned. -/
theorem tail_rot : ∀ (f : Nat) (l l' a b : List Int), (b = a ∨ b = rot a) → l.length = a.length → l'.length = b.length → 1 ≤ a.length → Dist a → (tailF f l a).length = (tailF f l' b).length
  | 0, _, _, _, _, _, _, _, _, _ => rfl
  | f + 1, l, l', a, b, hab, hl, hl', h1, hd => by
    have hb : b.length = a.length := by
      rcases hab with e | e
      · rw [e]
      · rw [e, rot_len h1]
    simp only [tailF]
    by_cases c : l.length ≤ 1
    · rw [if_pos c, if_pos (by omega)]
    · have hs := surv_some hd (by omega)
      rw [if_neg c, if_neg (by omega), List.length_cons, List.length_cons]
      have hab' : nextN b b.length = nextN a a.length ∨ nextN b b.length = rot (nextN a a.length) := by
        rcases hab with e | e
        · rw [e]; exact .inl rfl
        · rw [e]; exact next_rot h1
      rw [tail_rot f (nextS l a a.length) (nextS l' b b.length) _ _ hab' (by rw [nextS_len, nextN_len]) (by rw [nextS_len, nextN_len]) (by rw [nextN_len]; omega) (dist_nextN hd)]
end Go.Proofs.Ytbiiklkkfkipeaa.X

/- BothWays: its value, told; the same for names in the same order, and for turned names. -/
namespace Go.Proofs.Ytbiiklkkfkipeaa.X
set_option linter.unusedSimpArgs false
set_option linter.unusedVariables false
open Go.RowKit Go.Proofs.YtbiiklkkfkipeaaW.PrintWords
def bothV (l : List Int) : Nat → Int → Int → List Int → Int
  | 0, f, c, L => (bwTo l L f c L.length).1
  | d + 1, f, c, L => if f ≥ (l.length : Int) then (bwTo l L f c L.length).1 else bothV l d (f * 2) (bwTo l L f c L.length).1 (bwTo l L f c L.length).2
theorem bothOutV {l : List Int} (hf : fresh l l.length = true) (h2 : 2 ≤ l.length) (hl : l.length ≤ 12) : ∀ (d : Nat) (f c : Int) (L : List Int), d ≤ 4 → (l.length : Int) ≤ f * 2 ^ d → (1 ≤ f ∧ f ≤ 24) → (0 ≤ c ∧ c ≤ 1000000 - 100000 * d) → L.length ≤ 12 → (∀ i : Nat, i < L.length → 0 ≤ rd L (i : Int) ∧ rd L (i : Int) < l.length) →
    Ev (fun k => impl_BothWays.l1 k l (l.length : Int) L c f) (bothV l d f c L, true) := by
  intro d
  induction d with
  | zero =>
    intro f c L _ hd hff hc hL hLr
    have hge : f ≥ (l.length : Int) := by simp at hd; omega
    refine evNext (fun k => by rw [impl_BothWays.l1.eq_2]) (implWays_in hf h2 hl f c hff (by omega) hL hLr _ (evEnd fun k => ?_))
    rw [impl_BothWays.l2.eq_2, if_neg (by omega), if_pos hge]
    rfl
  | succ d ih =>
    intro f c L hdd hd hff hc hL hLr
    by_cases hge : f ≥ (l.length : Int)
    · refine evNext (fun k => by rw [impl_BothWays.l1.eq_2]) (implWays_in hf h2 hl f c hff (by omega) hL hLr _ (evEnd fun k => ?_))
      rw [impl_BothWays.l2.eq_2, if_neg (by omega), if_pos hge]
      simp only [bothV, if_pos hge]
    · have hb := bwTo_bnd l L f c (by omega) hl hc.1 l.length hLr L.length (Nat.le_refl _)
      obtain ⟨hb1, hb2, hb3, hb4⟩ := hb
      have hpow : (l.length : Int) ≤ f * 2 * 2 ^ d := by
        rw [Int.mul_assoc, Int.mul_comm 2, ← Int.pow_succ]
        exact hd
      have e2 := ih (f * 2) (bwTo l L f c L.length).1 (bwTo l L f c L.length).2 (by omega) hpow (by omega) (by omega) (by omega) (fun i hi => by
        rw [rd_at _ i hi]
        exact hb4 _ (List.getElem_mem hi))
      have ev : bothV l (d + 1) f c L = bothV l d (f * 2) (bwTo l L f c L.length).1 (bwTo l L f c L.length).2 := by simp only [bothV, if_neg hge]
      rw [ev]
      refine evNext (fun k => by rw [impl_BothWays.l1.eq_2]) (implWays_in hf h2 hl f c hff (by omega) hL hLr _ (evNext (fun k => ?_) e2))
      rw [impl_BothWays.l2.eq_2, if_neg (by omega), if_neg hge, w64 (by omega) (by omega)]
/-- What the program tells of names. -/
def bothN (l : List Int) : Int := bothV l 4 1 0 (idxs l.length)
theorem implBoth_val {l : List Int} (hk : isNm l = true) : Ev (fun k => impl_BothWays.f k l) (bothN l, true) := by
  have hb := isNm_iff hk
  obtain ⟨K', e'⟩ := implNames_ev l (by have := hb.2.1; omega)
  dsimp only at e'
  rw [hk] at e'
  have g2 := bothOutV hb.2.2.2 hb.1 hb.2.1 4 1 0 (idxs l.length) (by omega) (by have := hb.2.1; omega) (by omega) (by omega) (by rw [idxs_len]; exact hb.2.1) (fun i hi => by
    rw [idxs_len] at hi
    rw [idxs_rd _ i hi]
    omega)
  have hl12 := hb.2.1
  have k2 := evUp0 l.length (fun k (x : List Int) (i : Nat) => impl_BothWays.l0 k l (l.length : Int) x 0 (l.length : Int) (i : Int)) (fun i x => x = idxs i) (bothN l, true) [] rfl
    (by
      intro i x hi hI
      have hx := idxs_len i
      rw [← hI] at hx
      refine .inl ⟨idxs (i + 1), rfl, fun h => evNext (fun k => ?_) h⟩
      show impl_BothWays.l0 (k + 1) l (l.length : Int) x 0 (l.length : Int) (i : Int) = impl_BothWays.l0 k l (l.length : Int) (idxs (i + 1)) 0 (l.length : Int) ((i + 1 : Nat) : Int)
      rw [impl_BothWays.l0.eq_2, if_pos (by omega), if_pos (by omega), w64 (by omega) (by omega), idxs_succ, hI]
      rfl)
    (by
      intro x hI
      rw [hI]
      refine evNext (fun k => ?_) g2
      show impl_BothWays.l0 (k + 1) l (l.length : Int) (idxs l.length) 0 (l.length : Int) (l.length : Int) = _
      rw [impl_BothWays.l0.eq_2, if_neg (by omega)])
  obtain ⟨K2, e2⟩ := k2
  refine ⟨K' + K2, fun n hn => ?_⟩
  simp (disch := omega) only [impl_BothWays.f, e', Option.bind_some, if_true]
  exact e2 n (by omega)
/-- A sum over a list. -/
def sm (g : Int → Int) : List Int → Int
  | [] => 0
  | x :: r => g x + sm g r
theorem sm_append (g : Int → Int) : ∀ a b : List Int, sm g (a ++ b) = sm g a + sm g b
  | [], b => by simp [sm]
  | x :: r, b => by
    simp only [List.cons_append, sm, sm_append g r b]
    omega
theorem sm_congr {g g' : Int → Int} : ∀ {L : List Int}, (∀ s ∈ L, g s = g' s) → sm g L = sm g' L
  | [], _ => rfl
  | x :: r, h => by
    simp only [sm, h x (by simp), sm_congr (L := r) (fun s hs => h s (by simp [hs]))]
theorem sm_map (g : Int → Int) (t : Int → Int) : ∀ L : List Int, sm g (L.map t) = sm (fun s => g (t s)) L
  | [] => rfl
  | x :: r => by simp only [List.map_cons, sm, sm_map g t r]
theorem sm_ge (g : Int → Int) (m : Int) : ∀ L : List Int, (∀ s ∈ L, m ≤ g s) → m * (L.length : Int) ≤ sm g L
  | [], _ => by simp [sm]
  | x :: r, h => by
    have h1 := h x (by simp)
    have h2 := sm_ge g m r (fun s hs => h s (by simp [hs]))
    simp only [sm, List.length_cons]
    have e : m * ((r.length + 1 : Nat) : Int) = m * (r.length : Int) + m := by
      rw [Int.natCast_add, Int.mul_add]
      simp
    omega
def cost (l : List Int) (f s : Int) : Int := if f ≥ (l.length : Int) ∧ s = ((top l l.length : Nat) : Int) then (l.length : Int) else oneWay l s 1 f + oneWay l s (-1) f
def keep (l : List Int) (f s : Int) : Bool := if f ≥ (l.length : Int) ∧ s = ((top l l.length : Nat) : Int) then false else stays l s f
theorem bwTo_closed (l L : List Int) (f c : Int) : ∀ i : Nat, i ≤ L.length → bwTo l L f c i = (c + sm (cost l f) (L.take i), (L.take i).filter (keep l f))
  | 0, _ => by simp [bwTo, sm]
  | i + 1, hi => by
    have ih := bwTo_closed l L f c i (by omega)
    rw [bwTo, ih, rd_at L i (by omega), List.take_succ_eq_append_getElem (by omega), sm_append, List.filter_append]
    unfold bwStep
    by_cases h : f ≥ (l.length : Int) ∧ L[i] = ((top l l.length : Nat) : Int)
    · rw [if_pos h]
      simp only [sm, List.filter_cons, List.filter_nil, cost, keep, if_pos h]
      simp
      omega
    · rw [if_neg h]
      simp only [sm, List.filter_cons, List.filter_nil, cost, keep, if_neg h]
      cases stays l L[i] f <;> simp <;> omega
theorem bothV_zero (l L : List Int) (f c : Int) : bothV l 0 f c L = c + sm (cost l f) L := by
  rw [bothV, bwTo_closed l L f c _ (Nat.le_refl _), List.take_length]
theorem bothV_succ (l L : List Int) (d : Nat) (f c : Int) : bothV l (d + 1) f c L = if f ≥ (l.length : Int) then c + sm (cost l f) L else bothV l d (f * 2) (c + sm (cost l f) L) (L.filter (keep l f)) := by
  rw [bothV, bwTo_closed l L f c _ (Nat.le_refl _), List.take_length]
/-! ### the same order -/
theorem top_iso {a b : List Int} (h : Iso a b) : ∀ n : Nat, n ≤ a.length → top a n = top b n
  | 0, _ => rfl
  | n + 1, hn => by
    have ih := top_iso h n (by omega)
    have ht := top_lt a (by omega) n (by omega)
    have hi := h.2 (top a n) n ht (by omega)
    simp only [top]
    rw [← ih]
    by_cases c : rd a (n : Int) > rd a ((top a n : Nat) : Int)
    · rw [if_pos c, if_pos (hi.1 c)]
    · rw [if_neg c, if_neg (fun h' => c (hi.2 h'))]
theorem rch_iso {a b : List Int} (h : Iso a b) (s : Nat) (hs : s < a.length) (step most : Int) : ∀ (n : Nat) (k : Int), rch a (s : Int) step most n k = rch b (s : Int) step most n k
  | 0, _ => rfl
  | n + 1, k => by
    have e : stn b (s : Int) step k = stn a (s : Int) step k := by unfold stn; rw [h.1]
    have hb := stn_bound a (s : Int) step k (by omega)
    obtain ⟨q, hq⟩ : ∃ q : Nat, stn a (s : Int) step k = (q : Int) := ⟨(stn a (s : Int) step k).toNat, by omega⟩
    have hi := h.2 s q hs (by omega)
    simp only [rch]
    rw [e, hq, rch_iso h s hs step most n (k + 1)]
    by_cases c : rd a (q : Int) > rd a (s : Int)
    · rw [if_pos c, if_pos (hi.1 c)]
    · rw [if_neg c, if_neg (fun h' => c (hi.2 h'))]
theorem cost_iso {a b : List Int} (h : Iso a b) {s : Int} (h0 : 0 ≤ s) (h1 : s < a.length) (f : Int) : cost a f s = cost b f s ∧ keep a f s = keep b f s := by
  obtain ⟨q, rfl⟩ : ∃ q : Nat, s = (q : Int) := ⟨s.toNat, by omega⟩
  have e1 : far a (q : Int) 1 f = far b (q : Int) 1 f := rch_iso h q (by omega) 1 f _ _
  have e2 : far a (q : Int) (-1) f = far b (q : Int) (-1) f := rch_iso h q (by omega) (-1) f _ _
  unfold cost keep oneWay stays
  rw [e1, e2, ← h.1, top_iso h _ (Nat.le_refl _), h.1]
  exact ⟨rfl, rfl⟩
theorem bothV_iso {a b : List Int} (h : Iso a b) : ∀ (d : Nat) (f c : Int) (L : List Int), (∀ s ∈ L, 0 ≤ s ∧ s < (a.length : Int)) → bothV a d f c L = bothV b d f c L
  | 0, f, c, L, hL => by
    rw [bothV_zero, bothV_zero, sm_congr (fun s hs => (cost_iso h (hL s hs).1 (hL s hs).2 f).1)]
  | d + 1, f, c, L, hL => by
    rw [bothV_succ, bothV_succ, sm_congr (fun s hs => (cost_iso h (hL s hs).1 (hL s hs).2 f).1), List.filter_congr (fun s hs => (cost_iso h (hL s hs).1 (hL s hs).2 f).2), ← h.1]
    split
    · rfl
    · refine bothV_iso h d _ _ _ (fun s hs => ?_)
      exact hL s ((List.mem_filter.1 hs).1)
theorem idxs_in (n : Nat) : ∀ s ∈ idxs n, 0 ≤ s ∧ s < (n : Int) := by
  intro s hs
  unfold idxs at hs
  obtain ⟨i, hi, rfl⟩ := List.mem_map.1 hs
  rw [List.mem_range] at hi
  omega
theorem bothN_iso {a b : List Int} (h : Iso a b) : bothN a = bothN b := by
  unfold bothN
  rw [bothV_iso h 4 1 0 _ (idxs_in _), h.1]
/-! ### turned names -/
def sg (n : Nat) (s : Int) : Int := (s + 1) % (n : Int)
theorem sg_nat (n q : Nat) : sg n (q : Int) = (((q + 1) % n : Nat) : Int) := by
  unfold sg
  norm_cast
theorem sg_bound {n : Nat} (h : 0 < n) (s : Int) : 0 ≤ sg n s ∧ sg n s < n := by
  unfold sg
  exact ⟨Int.emod_nonneg _ (by omega), Int.emod_lt_of_pos _ (by omega)⟩
theorem rd_sg {l : List Int} {s : Int} (h0 : 0 ≤ s) (h1 : s < l.length) : rd (rot l) s = rd l (sg l.length s) := by
  obtain ⟨q, rfl⟩ : ∃ q : Nat, s = (q : Int) := ⟨s.toNat, by omega⟩
  rw [sg_nat]
  exact rd_rot (by omega)
theorem stn_sg {l : List Int} (h : 0 < l.length) (s step k : Int) : sg l.length (stn (rot l) s step k) = stn l (sg l.length s) step k := by
  unfold stn sg
  rw [rot_len (by omega), Int.emod_add_emod, Int.emod_add_emod]
  congr 1
  omega
theorem rch_rot {l : List Int} (h : 0 < l.length) {s : Int} (h0 : 0 ≤ s) (h1 : s < l.length) (step most : Int) : ∀ (n : Nat) (k : Int), rch (rot l) s step most n k = rch l (sg l.length s) step most n k
  | 0, _ => rfl
  | n + 1, k => by
    have hb := stn_bound (rot l) s step k (by rw [rot_len (by omega)]; exact h)
    rw [rot_len (by omega)] at hb
    simp only [rch]
    rw [rd_sg hb.1 hb.2, rd_sg h0 h1, stn_sg h, rch_rot h h0 h1 step most n (k + 1)]
theorem sg_inj {n : Nat} {s t : Int} (h0 : 0 ≤ s) (h1 : s < n) (h2 : 0 ≤ t) (h3 : t < n) (h : sg n s = sg n t) : s = t := by
  unfold sg at h
  by_cases c1 : s + 1 < n
  · by_cases c2 : t + 1 < n
    · rw [Int.emod_eq_of_lt (by omega) c1, Int.emod_eq_of_lt (by omega) c2] at h
      omega
    · rw [Int.emod_eq_of_lt (by omega) c1, show t + 1 = (n : Int) by omega, Int.emod_self] at h
      omega
  · by_cases c2 : t + 1 < n
    · rw [Int.emod_eq_of_lt (a := t + 1) (by omega) c2, show s + 1 = (n : Int) by omega, Int.emod_self] at h
      omega
    · omega
theorem sg_surj {n : Nat} (i : Nat) (hi : i < n) : ∃ q : Nat, q < n ∧ sg n (q : Int) = (i : Int) := by
  refine ⟨prevI n i, prevI_lt hi, ?_⟩
  rw [sg_nat, prev_next hi]
theorem top_rot {l : List Int} (h : 0 < l.length) (hf : fresh l l.length = true) : sg l.length ((top (rot l) (rot l).length : Nat) : Int) = ((top l l.length : Nat) : Int) := by
  have hr := rot_len (a := l) (by omega)
  have ht := top_lt (rot l) (by omega) (rot l).length (Nat.le_refl _)
  have ht2 := top_lt l h l.length (Nat.le_refl _)
  have hb := sg_bound h ((top (rot l) (rot l).length : Nat) : Int)
  obtain ⟨q, hq⟩ : ∃ q : Nat, sg l.length ((top (rot l) (rot l).length : Nat) : Int) = (q : Int) := ⟨(sg l.length ((top (rot l) (rot l).length : Nat) : Int)).toNat, by omega⟩
  rw [hq] at hb ⊢
  obtain ⟨p, hp, hpe⟩ := sg_surj (n := l.length) (top l l.length) ht2
  have g1 := top_ge (rot l) (rot l).length p (by omega)
  rw [rd_sg (by omega) (by omega), rd_sg (by omega) (by omega), hpe, hq] at g1
  have g2 := top_ge l l.length q (by omega)
  by_cases e : q = top l l.length
  · rw [e]
  · exact absurd (fresh_ne hf (by omega) ht2 e) (by simp; omega)
theorem cost_rot {l : List Int} (h : 0 < l.length) (hf : fresh l l.length = true) {s : Int} (h0 : 0 ≤ s) (h1 : s < l.length) (f : Int) : cost (rot l) f s = cost l f (sg l.length s) ∧ keep (rot l) f s = keep l f (sg l.length s) := by
  have e1 : far (rot l) s 1 f = far l (sg l.length s) 1 f := rch_rot h h0 h1 1 f _ _
  have e2 : far (rot l) s (-1) f = far l (sg l.length s) (-1) f := rch_rot h h0 h1 (-1) f _ _
  have hr := rot_len (a := l) (by omega)
  have ht := top_lt (rot l) (by omega) (rot l).length (Nat.le_refl _)
  have hto := top_rot h hf
  have hiff : (f ≥ ((rot l).length : Int) ∧ s = ((top (rot l) (rot l).length : Nat) : Int)) ↔ (f ≥ (l.length : Int) ∧ sg l.length s = ((top l l.length : Nat) : Int)) := by
    rw [← hto]
    constructor
    · rintro ⟨g1, g2⟩
      exact ⟨by omega, by rw [← g2]⟩
    · rintro ⟨g1, g2⟩
      exact ⟨by omega, sg_inj h0 h1 (by omega) (by omega) g2⟩
  unfold cost keep oneWay stays
  rw [e1, e2]
  by_cases c : f ≥ (l.length : Int) ∧ sg l.length s = ((top l l.length : Nat) : Int)
  · rw [if_pos c, if_pos (hiff.2 c), if_pos c, if_pos (hiff.2 c), hr]
    exact ⟨rfl, rfl⟩
  · rw [if_neg c, if_neg (fun h' => c (hiff.1 h')), if_neg c, if_neg (fun h' => c (hiff.1 h'))]
    exact ⟨rfl, rfl⟩
theorem filter_sg {l : List Int} (h : 0 < l.length) (hf : fresh l l.length = true) (f : Int) : ∀ L : List Int, (∀ s ∈ L, 0 ≤ s ∧ s < (l.length : Int)) → (L.filter (keep (rot l) f)).map (sg l.length) = (L.map (sg l.length)).filter (keep l f)
  | [], _ => rfl
  | x :: r, hL => by
    have hx := hL x (by simp)
    have ih := filter_sg h hf f r (fun s hs => hL s (by simp [hs]))
    rw [List.map_cons, List.filter_cons, List.filter_cons, (cost_rot h hf hx.1 hx.2 f).2]
    split
    · rw [List.map_cons, ih]
    · exact ih
theorem bothV_rot {l : List Int} (h : 0 < l.length) (hf : fresh l l.length = true) : ∀ (d : Nat) (f c : Int) (X Y L' : List Int), (∀ s ∈ L', 0 ≤ s ∧ s < (l.length : Int)) → L'.map (sg l.length) = Y ++ X → bothV (rot l) d f c L' = bothV l d f c (X ++ Y)
  | 0, f, c, X, Y, L', hL, hm => by
    rw [bothV_zero, bothV_zero, sm_congr (fun s hs => (cost_rot h hf (hL s hs).1 (hL s hs).2 f).1), ← sm_map (cost l f) (sg l.length), hm, sm_append, sm_append]
    omega
  | d + 1, f, c, X, Y, L', hL, hm => by
    have e : sm (cost (rot l) f) L' = sm (cost l f) (X ++ Y) := by
      rw [sm_congr (fun s hs => (cost_rot h hf (hL s hs).1 (hL s hs).2 f).1), ← sm_map (cost l f) (sg l.length), hm, sm_append, sm_append]
      omega
    rw [bothV_succ, bothV_succ, e, rot_len (by omega)]
    split
    · rfl
    · rw [List.filter_append]
      refine bothV_rot h hf d _ _ _ _ _ (fun s hs => hL s ((List.mem_filter.1 hs).1)) ?_
      rw [filter_sg h hf f L' hL, hm, List.filter_append]
theorem bothN_rot {l : List Int} (h : 0 < l.length) (hf : fresh l l.length = true) : bothN (rot l) = bothN l := by
  obtain ⟨m, hm⟩ : ∃ m, l.length = m + 1 := ⟨l.length - 1, by omega⟩
  have e1 : idxs l.length = [0] ++ ((List.range m).map (· + 1)).map (fun (i : Nat) => (i : Int)) := by
    unfold idxs
    rw [hm, List.range_succ_eq_map]
    rfl
  unfold bothN
  rw [rot_len (by omega)]
  rw [show bothV l 4 1 0 (idxs l.length) = bothV l 4 1 0 ([0] ++ ((List.range m).map (· + 1)).map (fun (i : Nat) => (i : Int))) by rw [e1]]
  refine bothV_rot h hf 4 1 0 _ _ _ (idxs_in _) ?_
  have e2 := range_rot m
  rw [← hm] at e2
  have e3 : (idxs l.length).map (sg l.length) = ((List.range l.length).map (fun i => (i + 1) % l.length)).map (fun (i : Nat) => (i : Int)) := by
    unfold idxs
    rw [List.map_map, List.map_map]
    exact List.map_congr_left (fun i _ => sg_nat _ i)
  rw [e3, hm] at *
  rw [e2, List.map_append]
  rfl
/-! ### at least as many as names -/
theorem cost_ge (l : List Int) (f s : Int) (hf : 0 ≤ f) : 0 ≤ cost l f s := by
  have a1 := oneWay_bnd l s 1 f hf
  have a2 := oneWay_bnd l s (-1) f hf
  unfold cost
  split <;> omega
theorem bothV_ge (l : List Int) : ∀ (d : Nat) (f c : Int) (L : List Int), 0 ≤ f → c ≤ bothV l d f c L
  | 0, f, c, L, hf => by
    have := sm_ge (cost l f) 0 L (fun s _ => cost_ge l f s hf)
    rw [bothV_zero]
    omega
  | d + 1, f, c, L, hf => by
    have := sm_ge (cost l f) 0 L (fun s _ => cost_ge l f s hf)
    rw [bothV_succ]
    split
    · omega
    · have := bothV_ge l d (f * 2) (c + sm (cost l f) L) (L.filter (keep l f)) (by omega)
      omega
theorem bothN_ge {l : List Int} (h : 2 ≤ l.length) : (l.length : Int) ≤ bothN l := by
  have h1 : ∀ s ∈ idxs l.length, 1 ≤ cost l 1 s := by
    intro s _
    have a1 := far_bound l s 1 1 (by omega)
    have a2 := far_bound l s (-1) 1 (by omega)
    unfold cost oneWay ow
    rw [if_neg (by omega)]
    split <;> split <;> omega
  have h2 := sm_ge (cost l 1) 1 _ h1
  rw [idxs_len] at h2
  unfold bothN
  rw [bothV_succ, if_neg (by omega)]
  have h3 := bothV_ge l 3 (1 * 2) (0 + sm (cost l 1) (idxs l.length)) ((idxs l.length).filter (keep l 1)) (by omega)
  omega
end Go.Proofs.Ytbiiklkkfkipeaa.X

/- The survivors: the program and the reference come to the same lists. -/
namespace Go.Proofs.Ytbiiklkkfkipeaa.X
set_option linter.unusedSimpArgs false
set_option linter.unusedVariables false
open Go.RowKit Go.Proofs.YtbiiklkkfkipeaaW.PrintWords
theorem ownS_eq (l : List Int) (hl : l.length ≤ 100000) : spec_l1Own.f l = some l := by
  unfold spec_l1Own.f
  simp only [Option.bind_some, List.length_nil, List.nil_append]
  rw [if_pos (by omega)]
theorem cloneS_eq (l : List Int) (hl : l.length ≤ 100000) : slices_Clone_int_int.f l = some l := by
  unfold slices_Clone_int_int.f
  rw [if_pos (by omega)]
theorem spec_l3 (l a : List Int) (out : List (List Int)) (r : List (List Int)) (hl : l.length = 2) (ha : a.length = 2) (ho : out.length ≤ 1000)
    (h : Ev (fun k => spec_elSurvivors.l1 k (nextS l a a.length) (nextN a a.length) (out ++ [nextS l a a.length])) r) : Ev (fun k => spec_elSurvivors.l3 k a out [] [] l (l.length : Int) 0) r := by
  rw [ha] at h
  have key := evUp0 2 (fun k (s : List Int × List Int) (i : Nat) => spec_elSurvivors.l3 k a out s.1 s.2 l (l.length : Int) (i : Int)) (fun i s => s = (nextS l a i, nextN a i)) r ([], []) rfl
    (by
      intro i s hi hI
      obtain ⟨s1, s2⟩ := s
      injection hI with h1 h2
      have hs1 := sIdx_le a i
      have e1 : s1.length ≤ 2 := by rw [h1, nextS_len]; omega
      have e2 : s2.length ≤ 2 := by rw [h2, nextN_len]; omega
      refine .inl ⟨(nextS l a (i + 1), nextN a (i + 1)), rfl, fun h => evNext (fun k => ?_) h⟩
      show spec_elSurvivors.l3 (k + 1) a out s1 s2 l (l.length : Int) (i : Int) = spec_elSurvivors.l3 k a out (nextS l a (i + 1)) (nextN a (i + 1)) l (l.length : Int) (i + 1 : Nat)
      have hp : (1 : Int) - (i : Int) = ((prevI a.length i : Nat) : Int) := by
        rw [ha]
        unfold prevI
        split <;> omega
      have hpp : prevI a.length (prevI a.length i) = i := by
        rw [ha]
        unfold prevI
        split <;> split <;> omega
      have hpl := prevI_lt (n := a.length) (i := i) (by omega)
      have hsv : surv a i = decide (rd a (i : Int) < sNear a i) := by
        unfold surv sFar
        rw [hpp]
        simp
      simp only [spec_elSurvivors.l3]
      rw [if_pos (by omega), if_pos (by omega), if_pos (by omega), w64 (by omega) (by omega), hp, if_pos (by omega), if_pos (by omega), if_pos (by omega), w64 (by omega) (by omega), nextS_succ, nextN_succ, hsv]
      by_cases hc : rd a (i : Int) < sNear a i
      · rw [if_pos (show rd a ((prevI a.length i : Nat) : Int) > rd a (i : Int) from hc), if_pos (by omega), if_pos (by omega), decide_eq_true hc, if_pos rfl, if_pos rfl, h1, h2]
        rfl
      · rw [if_neg (show ¬ rd a ((prevI a.length i : Nat) : Int) > rd a (i : Int) from hc), decide_eq_false hc, if_neg (by simp), if_neg (by simp), h1, h2]
        rfl)
    (by
      intro s hI
      obtain ⟨s1, s2⟩ := s
      injection hI with h1 h2
      have hs1 := sIdx_le a 2
      have e1 : s1.length ≤ 2 := by rw [h1, nextS_len]; omega
      refine evNext (fun k => ?_) h
      show spec_elSurvivors.l3 (k + 1) a out s1 s2 l (l.length : Int) ((2 : Nat) : Int) = _
      simp only [spec_elSurvivors.l3]
      rw [if_neg (by omega), cloneS_eq s1 (by omega)]
      simp only [Option.bind_some]
      rw [if_pos (by omega), h1, h2])
  exact key
theorem spec_l2 (l a : List Int) (out : List (List Int)) (r : List (List Int)) (hl : l.length = a.length) (h2 : 2 ≤ a.length) (ha : a.length ≤ 12) (ho : out.length ≤ 1000)
    (h : Ev (fun k => spec_elSurvivors.l1 k (nextS l a a.length) (nextN a a.length) (out ++ [nextS l a a.length])) r) : Ev (fun k => spec_elSurvivors.l2 k l a out (l.length : Int) [] [] l (l.length : Int) 0) r := by
  have key := evUp0 a.length (fun k (s : List Int × List Int) (i : Nat) => spec_elSurvivors.l2 k l a out (l.length : Int) s.1 s.2 l (l.length : Int) (i : Int)) (fun i s => s = (nextS l a i, nextN a i)) r ([], []) rfl
    (by
      intro i s hi hI
      obtain ⟨s1, s2⟩ := s
      injection hI with h1 h2'
      have hs1 := sIdx_le a i
      have e1 : s1.length ≤ 12 := by rw [h1, nextS_len]; omega
      have e2 : s2.length ≤ 12 := by rw [h2', nextN_len]; omega
      refine .inl ⟨(nextS l a (i + 1), nextN a (i + 1)), rfl, fun h => evNext (fun k => ?_) h⟩
      show spec_elSurvivors.l2 (k + 1) l a out (l.length : Int) s1 s2 l (l.length : Int) (i : Int) = spec_elSurvivors.l2 k l a out (l.length : Int) (nextS l a (i + 1)) (nextN a (i + 1)) l (l.length : Int) (i + 1 : Nat)
      have hp1 := prevI_lt (n := a.length) (i := i) (by omega)
      have hp2 := prevI_lt (n := a.length) (i := prevI a.length i) (by omega)
      simp only [spec_elSurvivors.l2]
      rw [hl, w64 (x := (i : Int) + (a.length : Int)) (by omega) (by omega), w64 (x := (i : Int) + (a.length : Int) - 1) (by omega) (by omega), w64 (x := (i : Int) + (a.length : Int) - 2) (by omega) (by omega), mod1 hi, mod2 hi h2, w64 (x := (i : Int) + 1) (by omega) (by omega)]
      rw [if_pos (by omega), if_pos (by omega), if_pos (by omega), if_neg (by omega), if_pos (by omega), if_pos (by omega), if_pos (by omega), if_pos (by omega), nextS_succ, nextN_succ]
      by_cases hf : sFar a i < sNear a i
      · rw [if_pos (show rd a ((prevI a.length i : Nat) : Int) > rd a ((prevI a.length (prevI a.length i) : Nat) : Int) from hf), if_pos (by omega)]
        by_cases hc : rd a (i : Int) < sNear a i
        · have hsv : surv a i = true := by simp [surv, hf, hc]
          rw [if_pos (show rd a ((prevI a.length i : Nat) : Int) > rd a (i : Int) from hc), if_pos (by omega), if_pos (by omega), hsv, if_pos rfl, if_pos rfl, h1, h2']
          rfl
        · have hsv : surv a i = false := by simp [surv, hc]
          rw [if_neg (show ¬ rd a ((prevI a.length i : Nat) : Int) > rd a (i : Int) from hc), hsv, if_neg (by simp), if_neg (by simp), h1, h2']
          rfl
      · have hsv : surv a i = false := by simp [surv, hf]
        rw [if_neg (show ¬ rd a ((prevI a.length i : Nat) : Int) > rd a ((prevI a.length (prevI a.length i) : Nat) : Int) from hf), hsv, if_neg (by simp), if_neg (by simp), h1, h2']
        rfl)
    (by
      intro s hI
      obtain ⟨s1, s2⟩ := s
      injection hI with h1 h2'
      have hs1 := sIdx_le a a.length
      have e1 : s1.length ≤ 12 := by rw [h1, nextS_len]; omega
      by_cases hn : a.length = 2
      · refine evNext (fun k => ?_) (spec_l3 l a out r (by omega) hn ho h)
        show spec_elSurvivors.l2 (k + 1) l a out (l.length : Int) s1 s2 l (l.length : Int) (a.length : Int) = _
        simp only [spec_elSurvivors.l2]
        rw [if_neg (by omega), if_pos (by omega)]
      · refine evNext (fun k => ?_) h
        show spec_elSurvivors.l2 (k + 1) l a out (l.length : Int) s1 s2 l (l.length : Int) (a.length : Int) = _
        simp only [spec_elSurvivors.l2]
        rw [if_neg (by omega), if_neg (by omega), cloneS_eq s1 (by omega)]
        simp only [Option.bind_some]
        rw [if_pos (by omega), h1, h2'])
  exact key
theorem spec_l1_ev : ∀ (f : Nat) (l a : List Int) (out : List (List Int)), l.length ≤ f → l.length = a.length → 1 ≤ a.length → a.length ≤ 12 → Dist a → out.length + f ≤ 900 →
    Ev (fun k => spec_elSurvivors.l1 k l a out) (out ++ tailF f l a) := by
  intro f
  induction f with
  | zero => intro l a out h1 h2 h3; omega
  | succ f ih =>
    intro l a out hf hl h1 h12 hd ho
    by_cases hn : l.length ≤ 1
    · refine evEnd fun k => ?_
      show spec_elSurvivors.l1 (k + 1) l a out = _
      simp only [spec_elSurvivors.l1, tailF]
      rw [if_neg (by omega), if_pos hn, List.append_nil]
    · have hs := surv_some hd (by omega)
      have h := ih (nextS l a a.length) (nextN a a.length) (out ++ [nextS l a a.length]) (by rw [nextS_len]; omega) (by rw [nextS_len, nextN_len]) (by rw [nextN_len]; omega) (by rw [nextN_len]; omega) (dist_nextN hd) (by simp; omega)
      have e : out ++ tailF (f + 1) l a = out ++ [nextS l a a.length] ++ tailF f (nextS l a a.length) (nextN a a.length) := by
        simp only [tailF]
        rw [if_neg hn]
        simp
      rw [e]
      refine evNext (fun k => ?_) (spec_l2 l a out _ hl (by omega) h12 (by omega) h)
      show spec_elSurvivors.l1 (k + 1) l a out = _
      simp only [spec_elSurvivors.l1]
      rw [if_pos (by omega)]
/-- The names that the stations of a list have now. -/
def Holds (l own a : List Int) : Prop := ∀ i : Nat, i < l.length → ∃ s : Nat, rd l (i : Int) = (s : Int) ∧ s < own.length ∧ rd own (s : Int) = rd a (i : Int)
theorem rd_set (l : List Int) (i j : Nat) (v : Int) (hi : i < l.length) : rd (l.set i v) (j : Int) = if j = i then v else rd l (j : Int) := by
  simp only [rd, Int.toNat_natCast, List.getD_eq_getElem?_getD, List.getElem?_set]
  by_cases h : j = i
  · subst h
    simp [hi]
  · rw [if_neg h, if_neg (fun e => h e.symm)]
theorem impl_l2 (l own a : List Int) (out : List (List Int)) (r : List (List Int)) (hl : l.length = a.length) (h2 : 2 ≤ a.length) (ha : a.length ≤ 12) (ho : own.length ≤ 12) (hdl : Dist l) (hH : Holds l own a)
    (h : ∀ own', own'.length = own.length → Holds (nextS l a a.length) own' (nextN a a.length) → Ev (fun k => impl_survivors.l1 k (nextS l a a.length) own' out) r) : Ev (fun k => impl_survivors.l2 k l own out (l.length : Int) [] own l (l.length : Int) 0) r := by
  have key := evUp0 a.length (fun k (s : List Int × List Int) (i : Nat) => impl_survivors.l2 k l own out (l.length : Int) s.1 s.2 l (l.length : Int) (i : Int)) (fun i s => s.1 = nextS l a i ∧ s.2.length = own.length ∧ ∀ j : Nat, j < i → surv a j = true → rd s.2 (rd l (j : Int)) = sNear a j) r ([], own) ⟨rfl, rfl, fun j hj => by omega⟩
    (by
      intro i s hi hI
      obtain ⟨s1, s2⟩ := s
      obtain ⟨h1, hsl, hset⟩ := hI
      dsimp only at h1 hsl hset
      have hs1 := sIdx_le a i
      have e1 : s1.length ≤ 12 := by rw [h1, nextS_len]; omega
      have hp1 := prevI_lt (n := a.length) (i := i) (by omega)
      have hp2 := prevI_lt (n := a.length) (i := prevI a.length i) (by omega)
      obtain ⟨c, hc1, hc2, hc3⟩ := hH i (by omega)
      obtain ⟨d, hd1, hd2, hd3⟩ := hH (prevI a.length i) (by omega)
      obtain ⟨q, hq1, hq2, hq3⟩ := hH (prevI a.length (prevI a.length i)) (by omega)
      have eN : rd own (rd l ((prevI a.length i : Nat) : Int)) = sNear a i := by rw [hd1, hd3]; rfl
      have eF : rd own (rd l ((prevI a.length (prevI a.length i) : Nat) : Int)) = sFar a i := by rw [hq1, hq3]; rfl
      have eC : rd own (rd l (i : Int)) = rd a (i : Int) := by rw [hc1, hc3]
      have hw : wrap64 (2 * (a.length : Int)) = 2 * (a.length : Int) := w64 (by omega) (by omega)
      have step : ∀ k, impl_survivors.l2 (k + 1) l own out (l.length : Int) s1 s2 l (l.length : Int) (i : Int) = impl_survivors.l2 k l own out (l.length : Int) (nextS l a (i + 1)) (if surv a i = true then s2.set c (sNear a i) else s2) l (l.length : Int) (i + 1 : Nat) := by
        intro k
        simp only [impl_survivors.l2]
        rw [hl, w64 (x := (i : Int) + (a.length : Int)) (by omega) (by omega), w64 (x := (i : Int) + (a.length : Int) - 1) (by omega) (by omega), hw, w64 (x := (i : Int) + 2 * (a.length : Int)) (by omega) (by omega), w64 (x := (i : Int) + 2 * (a.length : Int) - 2) (by omega) (by omega), mod1 hi, mod3 hi h2, w64 (x := (i : Int) + 1) (by omega) (by omega), eN, eF, eC]
        rw [if_pos (by omega), if_pos (by omega), if_pos (by omega), if_neg (by omega), if_pos (by omega), if_pos (by omega), if_pos (by omega), if_pos (by omega), if_pos (by omega), if_pos (by omega), if_pos (by omega), if_pos (by omega), nextS_succ]
        by_cases hf : sFar a i < sNear a i
        · rw [if_pos (show sNear a i > sFar a i from hf), if_pos (by omega), if_pos (by omega)]
          by_cases hc : rd a (i : Int) < sNear a i
          · have hsv : surv a i = true := by simp [surv, hf, hc]
            rw [if_pos (show sNear a i > rd a (i : Int) from hc), if_pos (by omega), if_pos (by omega), hsv, if_pos rfl, if_pos rfl, h1, hc1, Int.toNat_natCast]
            rfl
          · have hsv : surv a i = false := by simp [surv, hc]
            rw [if_neg (show ¬ sNear a i > rd a (i : Int) from hc), hsv, if_neg (by simp), if_neg (by simp), h1]
            rfl
        · have hsv : surv a i = false := by simp [surv, hf]
          rw [if_neg (show ¬ sNear a i > sFar a i from hf), hsv, if_neg (by simp), if_neg (by simp), h1]
          rfl
      refine .inl ⟨(nextS l a (i + 1), if surv a i = true then s2.set c (sNear a i) else s2), ⟨rfl, ?_, ?_⟩, fun h => evNext step h⟩
      · dsimp only
        split
        · rw [List.length_set]; exact hsl
        · exact hsl
      · dsimp only
        intro j hj hsv
        obtain ⟨b, hb1, hb2, hb3⟩ := hH j (by omega)
        by_cases e : j = i
        · subst e
          rw [if_pos hsv, hc1, rd_set s2 c c _ (by omega), if_pos rfl]
        · have hne : b ≠ c := by
            intro hbc
            have := hdl j i (by omega) (by omega) e
            rw [hb1, hc1, hbc] at this
            exact this rfl
          have hold := hset j (by omega) hsv
          split
          · rw [hb1, rd_set s2 c b _ (by omega), if_neg hne, ← hb1]
            exact hold
          · exact hold)
    (by
      intro s hI
      obtain ⟨s1, s2⟩ := s
      obtain ⟨h1, hsl, hset⟩ := hI
      dsimp only at h1 hsl hset
      refine evNext (fun k => ?_) (h s2 hsl ?_)
      · show impl_survivors.l2 (k + 1) l own out (l.length : Int) s1 s2 l (l.length : Int) (a.length : Int) = _
        simp only [impl_survivors.l2]
        rw [if_neg (by omega), h1]
      · intro q hq
        rw [nextS_len] at hq
        have m := sIdx_mem a a.length q hq
        obtain ⟨b, hb1, hb2, hb3⟩ := hH (sIdx a a.length)[q] (by omega)
        refine ⟨b, by rw [rd_nextS l a _ q hq, hb1], by omega, ?_⟩
        rw [rd_nextN a _ q hq, ← hb1]
        exact hset _ m.1 m.2)
  exact key
theorem impl_l1_ev : ∀ (f : Nat) (l own a : List Int) (out : List (List Int)), l.length ≤ f → l.length = a.length → 1 ≤ a.length → a.length ≤ 12 → own.length ≤ 12 → Dist a → Dist l → Holds l own a → out.length + f ≤ 900 →
    Ev (fun k => impl_survivors.l1 k l own out) (out ++ l :: tailF f l a) := by
  intro f
  induction f with
  | zero => intro l own a out h1 h2 h3; omega
  | succ f ih =>
    intro l own a out hf hl h1 h12 how hd hdl hH ho
    by_cases hn : l.length ≤ 1
    · refine evEnd fun k => ?_
      show impl_survivors.l1 (k + 1) l own out = _
      simp only [impl_survivors.l1, tailF]
      rw [cloneS_eq l (by omega)]
      simp only [Option.bind_some]
      rw [if_pos (by omega), if_pos (by omega), if_pos hn]
    · have hs := surv_some hd (by omega)
      have e : out ++ l :: tailF (f + 1) l a = out ++ [l] ++ nextS l a a.length :: tailF f (nextS l a a.length) (nextN a a.length) := by
        simp only [tailF]
        rw [if_neg hn]
        simp
      rw [e]
      refine evNext (fun k => ?_) (impl_l2 l own a (out ++ [l]) _ hl (by omega) h12 how hdl hH (fun own' hlen hH' => ih (nextS l a a.length) own' (nextN a a.length) (out ++ [l]) (by rw [nextS_len]; omega) (by rw [nextS_len, nextN_len]) (by rw [nextN_len]; omega) (by rw [nextN_len]; omega) (by omega) (dist_nextN hd) (dist_nextS hdl (by omega)) hH' (by simp; omega)))
      show impl_survivors.l1 (k + 1) l own out = _
      simp only [impl_survivors.l1]
      rw [cloneS_eq l (by omega)]
      simp only [Option.bind_some]
      rw [if_pos (by omega), if_neg (by omega), cloneS_eq own (by omega)]
      simp only [Option.bind_some]
/-- All stations. -/
def iota (n : Nat) : List Int := (List.range n).map (fun (j : Nat) => (j : Int))
theorem iota_len (n : Nat) : (iota n).length = n := by simp [iota]
theorem iota_succ (n : Nat) : iota (n + 1) = iota n ++ [(n : Int)] := by simp [iota, List.range_succ]
theorem rd_iota (n i : Nat) (h : i < n) : rd (iota n) (i : Int) = (i : Int) := by
  rw [rd_at _ i (by rw [iota_len]; exact h)]
  simp [iota]
def rounds (names : List Int) : List (List Int) := iota names.length :: tailF names.length (iota names.length) names
theorem specSurv_ev (names : List Int) (h2 : 2 ≤ names.length) (h12 : names.length ≤ 12) (hd : Dist names) : Ev (fun k => spec_elSurvivors.f k names) (rounds names) :=
  evUp0 names.length (fun k (s : List Int) (i : Nat) => spec_elSurvivors.l0 k names s (names.length : Int) (i : Int)) (fun i s => s = iota i) (rounds names) [] rfl
    (by
      intro i s hi hI
      have hsl : s.length = i := by rw [hI, iota_len]
      refine .inl ⟨iota (i + 1), rfl, fun h => evNext (fun k => ?_) h⟩
      show spec_elSurvivors.l0 (k + 1) names s (names.length : Int) (i : Int) = spec_elSurvivors.l0 k names (iota (i + 1)) (names.length : Int) (i + 1 : Nat)
      simp only [spec_elSurvivors.l0]
      rw [if_pos (by omega), if_pos (by omega), w64 (by omega) (by omega), iota_succ, hI]
      rfl)
    (by
      intro s hI
      have hil := iota_len names.length
      have h := spec_l1_ev names.length (iota names.length) names [iota names.length] (by omega) (by omega) (by omega) h12 hd (by simp; omega)
      refine evNext (fun k => ?_) h
      show spec_elSurvivors.l0 (k + 1) names s (names.length : Int) (names.length : Int) = _
      simp only [spec_elSurvivors.l0]
      rw [if_neg (by omega), ownS_eq names (by omega), hI, cloneS_eq _ (by omega)]
      simp)
theorem implSurv_ev (names : List Int) (h2 : 2 ≤ names.length) (h12 : names.length ≤ 12) (hd : Dist names) : Ev (fun k => impl_survivors.f k names) (rounds names) := by
  have key := evUp0 names.length (fun k (s : List Int) (i : Nat) => impl_survivors.l0 k s names [] (names.length : Int) (i : Int)) (fun i s => s = iota i) (rounds names) [] rfl
    (by
      intro i s hi hI
      have hsl : s.length = i := by rw [hI, iota_len]
      refine .inl ⟨iota (i + 1), rfl, fun h => evNext (fun k => ?_) h⟩
      show impl_survivors.l0 (k + 1) s names [] (names.length : Int) (i : Int) = impl_survivors.l0 k (iota (i + 1)) names [] (names.length : Int) (i + 1 : Nat)
      simp only [impl_survivors.l0]
      rw [if_pos (by omega), if_pos (by omega), w64 (by omega) (by omega), iota_succ, hI]
      rfl)
    (by
      intro s hI
      have hil := iota_len names.length
      have h := impl_l1_ev names.length (iota names.length) names names [] (by omega) (by omega) (by omega) h12 h12 hd (fun i j hi hj hij => by
          rw [iota_len] at hi hj
          rw [rd_iota _ i hi, rd_iota _ j hj]
          omega) (fun i hi => by
          rw [iota_len] at hi
          exact ⟨i, rd_iota _ i hi, hi, rfl⟩) (by simp; omega)
      refine evNext (fun k => ?_) h
      show impl_survivors.l0 (k + 1) s names [] (names.length : Int) (names.length : Int) = _
      simp only [impl_survivors.l0]
      rw [if_neg (by omega), hI])
  refine Ev.congr (fun k => ?_) key
  unfold impl_survivors.f
  rw [cloneS_eq names (by omega)]
  rfl
theorem rounds_len (names : List Int) : (rounds names).length ≤ names.length + 1 := by
  have := tailF_len names.length (iota names.length) names
  simp only [rounds, List.length_cons]
  omega
theorem rounds_each (names : List Int) : ∀ r ∈ rounds names, r.length ≤ names.length := by
  intro r hr
  rcases List.mem_cons.1 hr with rfl | hr
  · rw [iota_len]; exact Nat.le_refl _
  · have := tailF_each names.length (iota names.length) names (iota_len _) r hr
    rw [iota_len] at this
    exact this
end Go.Proofs.Ytbiiklkkfkipeaa.X

/- SurvivorsOf, RoundMessages: the program and the reference come to the same. -/
namespace Go.Proofs.Ytbiiklkkfkipeaa.X
set_option linter.unusedSimpArgs false
set_option linter.unusedVariables false
open Go.RowKit Go.Proofs.YtbiiklkkfkipeaaW.PrintWords
theorem dist_fresh {l : List Int} (hf : fresh l l.length = true) : Dist l := fun _ _ hi hj hij => fresh_ne hf hi hj hij
end Go.Proofs.Ytbiiklkkfkipeaa.X

/- Names, their ranks and the turned names: all are names in the same order. -/
namespace Go.Proofs.Ytbiiklkkfkipeaa.X
set_option linter.unusedSimpArgs false
set_option linter.unusedVariables false
open Go.RowKit Go.Proofs.YtbiiklkkfkipeaaW.PrintWords
/-- How many of a list are less. -/
def cntL (L : List Int) (x : Int) : Int := ((L.filter (fun y => decide (y < x))).length : Int)
theorem cntL_le {x y : Int} (h : x ≤ y) : ∀ L : List Int, cntL L x ≤ cntL L y
  | [] => by simp [cntL]
  | z :: r => by
    have ih := cntL_le h r
    unfold cntL at *
    rw [List.filter_cons, List.filter_cons]
    by_cases c1 : z < x
    · rw [if_pos (by simpa using c1), if_pos (by simp; omega)]
      simp only [List.length_cons]
      omega
    · rw [if_neg (by simpa using c1)]
      split
      · simp only [List.length_cons]
        omega
      · exact ih
theorem cntL_lt {x y : Int} (h : x < y) : ∀ L : List Int, x ∈ L → cntL L x < cntL L y
  | [], hx => by cases hx
  | z :: r, hx => by
    have hle := cntL_le (Int.le_of_lt h) r
    by_cases e : z = x
    · subst e
      unfold cntL at *
      rw [List.filter_cons, List.filter_cons, if_neg (by simp), if_pos (by simpa using h)]
      simp only [List.length_cons]
      omega
    · have hr : x ∈ r := by
        rcases List.mem_cons.1 hx with h1 | h1
        · exact absurd h1.symm e
        · exact h1
      have ih := cntL_lt h r hr
      unfold cntL at *
      rw [List.filter_cons, List.filter_cons]
      by_cases c1 : z < x
      · rw [if_pos (by simpa using c1), if_pos (by simp; omega)]
        simp only [List.length_cons]
        omega
      · rw [if_neg (by simpa using c1)]
        split
        · simp only [List.length_cons]
          omega
        · exact ih
theorem cntL_bound (L : List Int) (x : Int) : 0 ≤ cntL L x ∧ cntL L x ≤ L.length := by
  have := List.length_filter_le (fun y => decide (y < x)) L
  unfold cntL
  omega
/-- The ranks of names. -/
def ranks (l : List Int) : List Int := l.map (cntL l)
theorem ranks_len (l : List Int) : (ranks l).length = l.length := by simp [ranks]
theorem rd_ranks (l : List Int) (i : Nat) (h : i < l.length) : rd (ranks l) (i : Int) = cntL l (rd l (i : Int)) := by
  rw [rd_at _ i (by rw [ranks_len]; exact h), rd_at l i h]
  simp [ranks]
theorem iso_ranks (l : List Int) : Iso l (ranks l) := by
  refine ⟨(ranks_len l).symm, fun i j hi hj => ?_⟩
  rw [rd_ranks l i hi, rd_ranks l j hj]
  constructor
  · intro h
    exact cntL_lt h l (by rw [rd_at l i hi]; exact List.getElem_mem hi)
  · intro h
    rcases Int.lt_or_le (rd l (i : Int)) (rd l (j : Int)) with h' | h'
    · exact h'
    · have := cntL_le h' l
      omega
theorem fresh_of {l : List Int} (h : Dist l) : ∀ n : Nat, n ≤ l.length → fresh l n = true
  | 0, _ => rfl
  | n + 1, hn => by
    have hc : (l.take n).contains (rd l (n : Int)) = false := by
      cases e : (l.take n).contains (rd l (n : Int)) with
      | false => rfl
      | true =>
        rw [List.contains_iff_mem, List.mem_take_iff_getElem] at e
        obtain ⟨i, hi, he⟩ := e
        have hi' : i < n := by omega
        exact absurd (by rw [rd_at l i (by omega)]; exact he) (h i n (by omega) (by omega) (by omega))
    simp only [fresh, fresh_of h n (by omega), hc, Bool.not_false, Bool.and_self]
theorem isNm_of {l : List Int} (h2 : 2 ≤ l.length) (h12 : l.length ≤ 12) (hv : ∀ x ∈ l, 0 ≤ x ∧ x ≤ 999) (hd : Dist l) : isNm l = true := by
  unfold isNm
  rw [inB_iff.2 (show (2 : Int) ≤ (l.length : Int) ∧ (l.length : Int) ≤ 12 by omega), fresh_of hd _ (Nat.le_refl _)]
  simp only [Bool.true_and, Bool.and_true]
  rw [List.all_eq_true]
  intro x hx
  exact inB_iff.2 (hv x hx)
theorem dist_iso {a b : List Int} (h : Iso a b) (hd : Dist a) : Dist b := by
  intro i j hi hj hij e
  rw [← h.1] at hi hj
  have h1 := h.2 i j hi hj
  have h2 := h.2 j i hj hi
  have h3 := hd i j hi hj hij
  omega
theorem isNm_ranks {l : List Int} (h : isNm l = true) : isNm (ranks l) = true := by
  have hb := isNm_iff h
  refine isNm_of (by rw [ranks_len]; exact hb.1) (by rw [ranks_len]; exact hb.2.1) (fun x hx => ?_) (dist_iso (iso_ranks l) (dist_fresh hb.2.2.2))
  unfold ranks at hx
  obtain ⟨y, _, rfl⟩ := List.mem_map.1 hx
  have := cntL_bound l y
  have := hb.2.1
  omega
theorem mem_rot {l : List Int} (h : 1 ≤ l.length) {x : Int} (hx : x ∈ rot l) : x ∈ l := by
  unfold rot at hx
  rcases List.mem_append.1 hx with h1 | h1
  · exact List.mem_of_mem_drop h1
  · rw [List.mem_singleton] at h1
    rw [h1, show rd l 0 = l[0] from rd_at l 0 (by omega)]
    exact List.getElem_mem _
theorem dist_rot {l : List Int} (h : 1 ≤ l.length) (hd : Dist l) : Dist (rot l) := by
  intro i j hi hj hij
  rw [rot_len h] at hi hj
  rw [rd_rot hi, rd_rot hj]
  refine hd _ _ (Nat.mod_lt _ (by omega)) (Nat.mod_lt _ (by omega)) (fun e => hij ?_)
  have h1 := next_prev hi
  rw [e, next_prev hj] at h1
  exact h1.symm
theorem isNm_rot {l : List Int} (h : isNm l = true) : isNm (rot l) = true := by
  have hb := isNm_iff h
  have hr := rot_len (a := l) (by omega)
  exact isNm_of (by omega) (by omega) (fun x hx => hb.2.2.1 x (mem_rot (by omega) hx)) (dist_rot (by omega) (dist_fresh hb.2.2.2))
theorem rounds_ranks {l : List Int} (h : isNm l = true) : rounds (ranks l) = rounds l := by
  unfold rounds
  rw [ranks_len, ← tailF_iso _ _ _ _ (iso_ranks l) (by rw [iota_len])]
theorem rounds_rot {l : List Int} (h : isNm l = true) : (rounds (rot l)).length = (rounds l).length := by
  have hb := isNm_iff h
  unfold rounds
  rw [List.length_cons, List.length_cons, rot_len (by omega)]
  rw [tail_rot l.length (iota l.length) (iota l.length) l (rot l) (.inr rfl) (iota_len _) (by rw [iota_len, rot_len (by omega)]) (by omega) (dist_fresh hb.2.2.2)]
theorem iota_inc (n : Nat) : (iota n).Pairwise (· < ·) := by
  unfold iota
  rw [List.pairwise_map]
  exact List.pairwise_lt_range.imp (fun h => by omega)
theorem rounds_chain {l : List Int} (h : isNm l = true) : Chain (iota l.length) (tailF l.length (iota l.length) l) :=
  chain_tail _ _ _ (iota_len _) (dist_fresh (isNm_iff h).2.2.2) (iota_inc _)
theorem rounds_last {l : List Int} (h : isNm l = true) : ((rounds l).getLast (by unfold rounds; simp)).length = 1 := by
  have hb := isNm_iff h
  exact tail_last l.length (iota l.length) l (iota_len _) (by rw [iota_len]; omega) (by rw [iota_len]; omega) (dist_fresh hb.2.2.2)
theorem mul_bound2 {a b A B : Int} (h0 : 0 ≤ a) (h1 : a ≤ A) (h2 : 0 ≤ b) (h3 : b ≤ B) : 0 ≤ a * b ∧ a * b ≤ A * B :=
  ⟨Int.mul_nonneg h0 h2, Int.mul_le_mul h1 h3 h2 (by omega)⟩
/-! What the program tells. -/
theorem implSurv_val {l : List Int} (h : isNm l = true) : Ev (fun n => impl_SurvivorsOf.f n l) (rounds l, true) ∧ Ev (fun n => spec_SurvivorsOf.f n l) (rounds l, true) := by
  have hb := isNm_iff h
  obtain ⟨K, e⟩ := specNames_ev l (by omega)
  obtain ⟨K', e'⟩ := implNames_ev l (by omega)
  obtain ⟨K1, e1⟩ := specSurv_ev l hb.1 hb.2.1 (dist_fresh hb.2.2.2)
  obtain ⟨K2, e2⟩ := implSurv_ev l hb.1 hb.2.1 (dist_fresh hb.2.2.2)
  dsimp only at e e' e1 e2
  rw [h] at e e'
  refine ⟨⟨K' + K2 + 9, fun n hn => ?_⟩, ⟨K + K1 + 9, fun n hn => ?_⟩⟩
  · simp (disch := omega) only [impl_SurvivorsOf.f, e', e2, Option.bind_some, if_true]
  · simp (disch := omega) only [spec_SurvivorsOf.f, e, e1, Option.bind_some, if_true]
def roundsN (l : List Int) : Int := 2 * (l.length : Int) * (((rounds l).length : Int) - 1)
theorem roundMsg_val {l : List Int} (h : isNm l = true) : Ev (fun n => impl_RoundMessages.f n l) (roundsN l, true) ∧ Ev (fun n => spec_RoundMessages.f n l) (roundsN l, true) := by
  have hb := isNm_iff h
  obtain ⟨K, e⟩ := specNames_ev l (by omega)
  obtain ⟨K', e'⟩ := implNames_ev l (by omega)
  obtain ⟨K1, e1⟩ := specSurv_ev l hb.1 hb.2.1 (dist_fresh hb.2.2.2)
  obtain ⟨K2, e2⟩ := implSurv_ev l hb.1 hb.2.1 (dist_fresh hb.2.2.2)
  dsimp only at e e' e1 e2
  rw [h] at e e'
  have hl := rounds_len l
  have hp : 1 ≤ (rounds l).length := by unfold rounds; simp
  have hw : wrap64 ((wrap64 (2 * (l.length : Int))) * (wrap64 (((rounds l).length : Int) - 1))) = roundsN l := by
    have h12 := hb.2.1
    have hm := mul_bound2 (a := 2 * (l.length : Int)) (b := ((rounds l).length : Int) - 1) (A := 24) (B := 12) (by omega) (by omega) (by omega) (by omega)
    unfold roundsN
    rw [w64 (x := 2 * (l.length : Int)) (by omega) (by omega), w64 (x := ((rounds l).length : Int) - 1) (by omega) (by omega), w64 (by omega) (by omega)]
  refine ⟨⟨K' + K2 + 9, fun n hn => ?_⟩, ⟨K + K1 + 9, fun n hn => ?_⟩⟩
  · simp (disch := omega) only [impl_RoundMessages.f, e', e2, Option.bind_some, if_true]
    rw [hw]
  · simp (disch := omega) only [spec_RoundMessages.f, e, e1, Option.bind_some, if_true]
    rw [hw]
theorem roundsN_rot {l : List Int} (h : isNm l = true) : roundsN (rot l) = roundsN l := by
  have hb := isNm_iff h
  unfold roundsN
  rw [rounds_rot h, rot_len (by omega)]
end Go.Proofs.Ytbiiklkkfkipeaa.X

/- Plain lemmas: drawing names from bytes comes to some names. -/
namespace Go.Proofs.Ytbiiklkkfkipeaa.X
set_option linter.unusedSimpArgs false
set_option linter.unusedVariables false
open Go.RowKit Go.Proofs.YtbiiklkkfkipeaaW.PrintWords
theorem wrap_u64_63 (n : Int) (h₀ : 0 ≤ n) (h₁ : n < 2 ^ 63) : IntKind.u64.wrap n = n := by rw [IntKind.wrap_u64]; omega
theorem byte_of (x : Int) : 0 ≤ wrap64 (Go.bits .and .u64 (IntKind.u64.wrap x / 1099511627776) 255) ∧ wrap64 (Go.bits .and .u64 (IntKind.u64.wrap x / 1099511627776) 255) ≤ 255 := by
  have hx : 0 ≤ IntKind.u64.wrap x ∧ IntKind.u64.wrap x < 18446744073709551616 := by rw [IntKind.wrap_u64]; omega
  have h := bits_mask .u64 63 (by decide) wrap_u64_63 8 (by decide) (IntKind.u64.wrap x / 1099511627776) (by omega) (by omega)
  have e : ((2 : Int) ^ 8 - 1) = 255 := by decide
  have e2 : ((2 : Int) ^ 8) = 256 := by decide
  rw [e, e2] at h
  rw [h, w64 (by omega) (by omega)]
  omega
def Bytes (c : List Int) : Prop := c.length ≤ 1048576 ∧ ∀ i : Nat, i < c.length → 0 ≤ rd c (i : Int) ∧ rd c (i : Int) ≤ 255
theorem next_ok {c : List Int} (hc : Bytes c) (a s : Int) (h0 : 0 ≤ a) (h1 : a ≤ 10000) : ∃ v s', spec_l1Cur_next.f c a s = some (v, a + 1, s') ∧ 0 ≤ v ∧ v ≤ 255 := by
  unfold spec_l1Cur_next.f
  have ew := Aside0.mk (show wrap64 (a + 1) = a + 1 from w64 (by omega) (by omega))
  rw [ew.out]
  by_cases h : a < (c.length : Int)
  · have hb := hc.2 a.toNat (by omega)
    rw [Int.toNat_of_nonneg h0] at hb
    rw [if_pos h, if_pos h0, if_pos (by omega)]
    have eb := Aside0.mk (show wrap64 (rd c a) = rd c a from w64 (by omega) (by omega))
    refine ⟨_, _, rfl, ?_, ?_⟩ <;> rw [eb.out] <;> omega
  · rw [if_neg h, if_neg (by omega)]
    have hb := byte_of ((IntKind.u64.wrap ((IntKind.u64.wrap (s * 6364136223846793005)) + 0)) + 1442695040888963407)
    exact ⟨_, _, rfl, hb.1, hb.2⟩
theorem pick_ok {c : List Int} (hc : Bytes c) (a s n : Int) (h0 : 0 ≤ a) (h1 : a ≤ 9000) : ∃ v a' s', spec_l1Cur_pick.f c a s n = some (v, a', s') ∧ a ≤ a' ∧ a' ≤ a + 2 ∧ 0 ≤ v ∧ (1 ≤ n → v < n) ∧ v ≤ 100000 := by
  unfold spec_l1Cur_pick.f
  by_cases h : n ≤ 1
  · rw [if_pos h]
    exact ⟨0, a, s, rfl, by omega, by omega, by omega, by omega, by omega⟩
  · rw [if_neg h]
    obtain ⟨v1, s1, e1, b1, b2⟩ := next_ok hc a s h0 (by omega)
    rw [e1]
    simp only [Option.bind_some]
    by_cases h2 : n > 200
    · rw [if_pos h2]
      obtain ⟨v2, s2, e2, b3, b4⟩ := next_ok hc (a + 1) s1 (by omega) (by omega)
      rw [e2]
      simp only [Option.bind_some]
      have ex := Aside0.mk (show wrap64 (wrap64 (v1 * 256) + v2) = v1 * 256 + v2 from by rw [w64 (x := v1 * 256) (by omega) (by omega), w64 (by omega) (by omega)])
      rw [if_neg (by omega), ex.out, Int.tmod_eq_emod_of_nonneg (by omega)]
      have hm := Int.emod_lt_of_pos (v1 * 256 + v2) (show 0 < n by omega)
      have hm0 := Int.emod_nonneg (v1 * 256 + v2) (show n ≠ 0 by omega)
      have hm1 : (v1 * 256 + v2) % n ≤ v1 * 256 + v2 := by
        by_cases hq : v1 * 256 + v2 < n
        · rw [Int.emod_eq_of_lt (by omega) hq]; omega
        · omega
      exact ⟨_, _, _, rfl, by omega, by omega, hm0, fun _ => hm, by omega⟩
    · rw [if_neg h2, if_neg (by omega), Int.tmod_eq_emod_of_nonneg (by omega)]
      have hm := Int.emod_lt_of_pos v1 (show 0 < n by omega)
      have hm0 := Int.emod_nonneg v1 (show n ≠ 0 by omega)
      exact ⟨_, _, _, rfl, by omega, by omega, hm0, fun _ => hm, by omega⟩
theorem among_ok {c : List Int} (hc : Bytes c) (a s : Int) (h0 : 0 ≤ a) (h1 : a ≤ 9000) (l : List Int) (hl : 1 ≤ l.length) : ∃ v a' s', spec_l1Cur_among.f c a s l = some (v, a', s') ∧ a ≤ a' ∧ a' ≤ a + 2 ∧ v ∈ l := by
  obtain ⟨v, a', s', e, b1, b2, b3, b4, _⟩ := pick_ok hc a s (l.length : Int) h0 h1
  unfold spec_l1Cur_among.f
  rw [e]
  simp only [Option.bind_some]
  have := b4 (by omega)
  rw [if_pos b3, if_pos this]
  refine ⟨_, _, _, rfl, b1, b2, ?_⟩
  obtain ⟨i, rfl⟩ := Int.eq_ofNat_of_zero_le b3
  rw [rd_at l i (by omega)]
  exact List.getElem_mem _
/-- Names as they may be drawn. -/
def Drawn (l : List Int) : Prop := 1 ≤ l.length ∧ l.length ≤ 13 ∧ ∀ x ∈ l, -1 ≤ x ∧ x ≤ 4611686018427387904
theorem own_ok (l : List Int) (h : l.length ≤ 1000) : spec_l1Own.f l = some l := by
  unfold spec_l1Own.f
  simp only [Option.bind_some, List.length_nil]
  rw [if_pos (by omega), List.nil_append]
theorem names_end {c : List Int} (hc : Bytes c) (n st : Int) (hn : n ≤ 12) (x : List Int) (a s : Int) (h0 : 0 ≤ a) (h1 : a ≤ 8000) (hx1 : 1 ≤ x.length) (hx2 : x.length ≤ 12) (hx3 : ∀ y ∈ x, -1 ≤ y ∧ y ≤ 4611686018427387904) (i : Int) (hi : ¬ i < n) : ∃ r a' s', Drawn r ∧ ∀ k, spec_l1Cur_names.l0 (k + 1) n x st i c a s = some (r, a', s') := by
  obtain ⟨v, a1, s1, e1, b1, b2, b3, b4, _⟩ := pick_ok hc a s 16 h0 (by omega)
  by_cases q0 : v = 0
  · obtain ⟨v2, a2, s2, e2, d1, d2, d3, d4, _⟩ := pick_ok hc a1 s1 (x.length : Int) (by omega) (by omega)
    obtain ⟨v3, a3, s3, e3, f1, f2, f3⟩ := among_ok hc a2 s2 (by omega) (by omega) [(-1), 999, 1000, 4611686018427387904] (by simp)
    refine ⟨x.set v2.toNat v3, a3, s3, ⟨by rw [List.length_set]; exact hx1, by rw [List.length_set]; omega, fun y hy => ?_⟩, fun k => ?_⟩
    · rcases List.mem_or_eq_of_mem_set hy with h | h
      · exact hx3 y h
      · subst h
        simp only [List.mem_cons, List.not_mem_nil, or_false] at f3
        rcases f3 with h | h | h | h <;> omega
    · rw [spec_l1Cur_names.l0, if_neg hi, e1]; simp only [Option.bind_some]; rw [if_pos q0, e2]
      simp only [Option.bind_some]
      rw [e3]
      simp only [Option.bind_some]
      rw [if_pos d3, if_pos (d4 (by omega))]
  · by_cases q1 : v = 1
    · refine ⟨x ++ [rd x 0], a1, s1, ⟨by simp, by simp; omega, fun y hy => ?_⟩, fun k => ?_⟩
      · rcases List.mem_append.1 hy with h | h
        · exact hx3 y h
        · rw [List.mem_singleton] at h
          have e : rd x 0 = x[0] := rd_at x 0 (by omega)
          rw [h, e]
          exact hx3 _ (List.getElem_mem _)
      · rw [spec_l1Cur_names.l0, if_neg hi, e1]; simp only [Option.bind_some]; rw [if_neg q0, if_pos q1, if_pos (by omega), if_pos (by omega)]
    · by_cases q2 : v = 2
      · refine ⟨x.take 1, a1, s1, ⟨by rw [List.length_take]; omega, by rw [List.length_take]; omega, fun y hy => hx3 y (List.mem_of_mem_take hy)⟩, fun k => ?_⟩
        rw [spec_l1Cur_names.l0, if_neg hi, e1]; simp only [Option.bind_some]; rw [if_neg q0, if_neg q1, if_pos q2, if_pos (by omega)]
        rfl
      · refine ⟨x, a1, s1, ⟨hx1, by omega, hx3⟩, fun k => ?_⟩
        rw [spec_l1Cur_names.l0, if_neg hi, e1]; simp only [Option.bind_some]; rw [if_neg q0, if_neg q1, if_neg q2]
theorem names_loop {c : List Int} (hc : Bytes c) (n st : Int) (hn0 : 1 ≤ n) (hn : n ≤ 12) (hst : 0 ≤ st ∧ st ≤ 40) : ∀ (d : Nat) (i : Nat) (x : List Int) (a s : Int), (i : Int) + d = n → x.length = i → (∀ y ∈ x, -1 ≤ y ∧ y ≤ 4611686018427387904) → 0 ≤ a → a ≤ 100 + 2 * i →
    ∃ r a' s', Drawn r ∧ Ev (fun k => spec_l1Cur_names.l0 k n x st (i : Int) c a s) (r, a', s')
  | 0, i, x, a, s, hd, hx, hy, h0, h1 => by
    obtain ⟨r, a', s', hr, hk⟩ := names_end hc n st hn x a s h0 (by omega) (by omega) (by omega) hy (i : Int) (by omega)
    exact ⟨r, a', s', hr, evEnd hk⟩
  | d + 1, i, x, a, s, hd, hx, hy, h0, h1 => by
    obtain ⟨v, a1, s1, e1, b1, b2, b3, b4, _⟩ := pick_ok hc a s ((i : Int) + 1) h0 (by omega)
    have b5 := b4 (by omega)
    have hmul : 0 ≤ (i : Int) * st ∧ (i : Int) * st ≤ 480 := by
      refine ⟨Int.mul_nonneg (by omega) hst.1, ?_⟩
      have := Int.mul_le_mul (show (i : Int) ≤ 12 by omega) hst.2 hst.1 (by omega)
      omega
    obtain ⟨y, hyy⟩ : ∃ y, (i : Int) * st = y := ⟨_, rfl⟩
    have ew := Aside0.mk (show wrap64 (wrap64 ((i : Int) * st) + (i : Int)) = y + (i : Int) from by rw [hyy, w64 (x := y) (by omega) (by omega), w64 (by omega) (by omega)])
    have ei := Aside0.mk (show wrap64 ((i : Int) + 1) = (i : Int) + 1 from w64 (by omega) (by omega))
    have hl1 : (x.take v.toNat ++ [y + (i : Int)] ++ x.drop v.toNat).length = i + 1 := by simp; omega
    obtain ⟨r, a', s', hr, hk⟩ := names_loop hc n st hn0 hn hst d (i + 1) (x.take v.toNat ++ [y + (i : Int)] ++ x.drop v.toNat) a1 s1 (by omega) hl1 (fun z hz => by
      rcases List.mem_append.1 hz with h | h
      · rcases List.mem_append.1 h with h | h
        · exact hy z (List.mem_of_mem_take h)
        · rw [List.mem_singleton] at h
          omega
      · exact hy z (List.mem_of_mem_drop h)) (by omega) (by omega)
    refine ⟨r, a', s', hr, evNext (fun k => ?_) hk⟩
    rw [spec_l1Cur_names.l0, if_pos (by omega), ei.out, e1]
    simp only [Option.bind_some]
    rw [if_pos b3, if_pos (by omega), own_ok _ (by rw [List.length_take]; omega)]
    simp only [Option.bind_some]
    rw [if_pos (by rw [List.length_take]; omega), ew.out, if_pos (by simp; omega)]
    rfl
theorem draw_names {c : List Int} (hc : Bytes c) : ∃ r, Drawn r ∧ Ev (fun k => spec_DrawAreNames.f k c) r := by
  obtain ⟨n, a1, s1, e1, b1, b2, b3⟩ := among_ok hc 0 0 (by omega) (by omega) [2, 3, 4, 5, 6, 7, 8, 12] (by simp)
  obtain ⟨st, a2, s2, e2, d1, d2, d3, d4, _⟩ := pick_ok hc a1 s1 40 (by omega) (by omega)
  have hn : 1 ≤ n ∧ n ≤ 12 := by
    simp only [List.mem_cons, List.not_mem_nil, or_false] at b3
    omega
  obtain ⟨r, a', s', hr, K, hk⟩ := names_loop hc n st hn.1 hn.2 ⟨d3, by have := d4 (by omega); omega⟩ n.toNat 0 [] a2 s2 (by omega) rfl (by simp) (by omega) (by omega)
  refine ⟨r, hr, K, fun k h => ?_⟩
  show spec_DrawAreNames.f k c = _
  unfold spec_DrawAreNames.f spec_l1Cur_names.f
  rw [e1]
  simp only [Option.bind_some]
  rw [e2]
  simp only [Option.bind_some]
  have hk' : spec_l1Cur_names.l0 k n [] st 0 c a2 s2 = some (r, a', s') := hk k h
  rw [hk']
  rfl
end Go.Proofs.Ytbiiklkkfkipeaa.X

/- The law of rounds' end: its loops. -/
namespace Go.Proofs.Ytbiiklkkfkipeaa.X
set_option linter.unusedSimpArgs false
set_option linter.unusedVariables false
open Go.RowKit Go.Proofs.YtbiiklkkfkipeaaW.PrintWords
set_option maxRecDepth 100000
theorem bigR (l0 l1 : List Int) : laws_big.f l0 l1 = some true ∨ (laws_big.f l0 l1 = some false ∧ l0.length ≤ 1048576 ∧ l1.length ≤ 1048576) := by
  unfold laws_big.f
  by_cases h : (l0.length : Int) > 1048576
  · exact .inl (by rw [if_pos h])
  · rw [if_neg h, w64 (by omega) (by omega)]
    by_cases h2 : (l1.length : Int) > 1048576 - (l0.length : Int)
    · exact .inl (by rw [decide_eq_true h2])
    · exact .inr ⟨by rw [decide_eq_false h2], by omega, by omega⟩
theorem rdL2_atR (l : List (List Int)) (i : Nat) (h : i < l.length) : rd_L2 l (i : Int) = l[i] := by
  simp [rd_L2, rdOf, List.getD_eq_getElem?_getD, List.getElem?_eq_getElem h]
theorem zSameR (l : List Int) (h : l.length ≤ 1000000) : Ev (fun k => laws_zSame.f k l l) true := by
  have key := evUp0 l.length (fun k (_ : Unit) (i : Nat) => laws_zSame.l0 k l l (l.length : Int) (i : Int)) (fun _ _ => True) true () trivial
    (by
      intro i _ hi _
      refine .inl ⟨(), trivial, fun h => evNext (fun k => ?_) h⟩
      show laws_zSame.l0 (k + 1) l l (l.length : Int) (i : Int) = _
      rw [laws_zSame.l0, if_pos (by omega), if_pos (by omega), if_pos (by omega), if_pos (by omega), if_pos rfl, w64 (by omega) (by omega)]
      rfl)
    (by
      intro _ _
      refine evEnd fun k => ?_
      show laws_zSame.l0 (k + 1) l l (l.length : Int) (l.length : Int) = _
      rw [laws_zSame.l0, if_neg (by omega)])
  refine Ev.congr (f := fun k => laws_zSame.l0 k l l (l.length : Int) 0) (fun k => ?_) key
  unfold laws_zSame.f
  rw [if_pos rfl]
theorem zRowsR (R : List (List Int)) (h : R.length ≤ 1000000) (hR : ∀ r ∈ R, r.length ≤ 1000000) : Ev (fun k => laws_zRows.f k R R) true := by
  have key := evUp0 R.length (fun k (_ : Unit) (i : Nat) => laws_zRows.l0 k R R (R.length : Int) (i : Int)) (fun _ _ => True) true () trivial
    (by
      intro i _ hi _
      have hs := zSameR R[i] (hR _ (List.getElem_mem hi))
      refine .inl ⟨(), trivial, fun h => evCall hs (fun k hk => ?_) h⟩
      show laws_zRows.l0 (k + 1) R R (R.length : Int) (i : Int) = _
      rw [laws_zRows.l0, if_pos (by omega), if_pos (by omega), if_pos (by omega), if_pos (by omega), rdL2_atR R i hi, hk]
      simp only [Option.bind_some, if_true]
      rw [w64 (by omega) (by omega)]
      rfl)
    (by
      intro _ _
      refine evEnd fun k => ?_
      show laws_zRows.l0 (k + 1) R R (R.length : Int) (R.length : Int) = _
      rw [laws_zRows.l0, if_neg (by omega)])
  refine Ev.congr (f := fun k => laws_zRows.l0 k R R (R.length : Int) 0) (fun k => ?_) key
  unfold laws_zRows.f
  rw [if_pos rfl]
theorem zHasR (l : List Int) (x : Int) (h : l.length ≤ 1000000) (hx : x ∈ l) : Ev (fun k => laws_zHas.f k l x) true := by
  refine evUp0 l.length (fun k (_ : Unit) (i : Nat) => laws_zHas.l0 k x l (l.length : Int) (i : Int)) (fun i _ => x ∉ l.take i) true () (by simp) ?_ ?_
  · intro i _ hi hI
    by_cases e : l[i] = x
    · refine .inr (evEnd fun k => ?_)
      show laws_zHas.l0 (k + 1) x l (l.length : Int) (i : Int) = _
      rw [laws_zHas.l0, if_pos (by omega), if_pos (by omega), if_pos (by omega), rd_at l i hi, if_pos e]
    · refine .inl ⟨(), ?_, fun h => evNext (fun k => ?_) h⟩
      · rw [List.take_succ_eq_append_getElem hi, List.mem_append, List.mem_singleton]
        rintro (h1 | h1)
        · exact hI h1
        · exact e h1.symm
      · show laws_zHas.l0 (k + 1) x l (l.length : Int) (i : Int) = _
        rw [laws_zHas.l0, if_pos (by omega), if_pos (by omega), if_pos (by omega), rd_at l i hi, if_neg e, w64 (by omega) (by omega)]
        rfl
  · intro _ hI
    rw [List.take_length] at hI
    exact absurd hx hI
/-- The turned names. -/
theorem nine_ev {l : List Int} (h : isNm l = true) : Ev (fun k => laws_FnRoundsEnd.j9 k l (roundsN l) (bothN l) false) true := by
  have hb := isNm_iff h
  have hr := rot_len (a := l) (by omega)
  have e1 := implBoth_val (isNm_rot h)
  have e2 := (roundMsg_val (isNm_rot h)).1
  rw [bothN_rot (by omega) hb.2.2.2] at e1
  rw [roundsN_rot h] at e2
  have e3 : Ev (fun k => laws_FnRoundsEnd.j10 k false) true := evEnd fun k => by rw [laws_FnRoundsEnd.j10, if_neg (by decide)]
  obtain ⟨K1, e1⟩ := e1
  obtain ⟨K2, e2⟩ := e2
  obtain ⟨K3, e3⟩ := e3
  dsimp only at e1 e2 e3
  have hc : slices_Clone_int_int.f (l.drop 1) = some (l.drop 1) := cloneS_eq _ (by simp; omega)
  have hrot : l.drop 1 ++ [rd l 0] = rot l := rfl
  have hd : (l.drop 1).length ≤ 100 := by simp; omega
  refine ⟨K1 + K2 + K3 + 1, fun n hn => ?_⟩
  obtain ⟨m, rfl⟩ : ∃ m, n = m + 1 := ⟨n - 1, by omega⟩
  show laws_FnRoundsEnd.j9 (m + 1) l (roundsN l) (bothN l) false = some true
  rw [laws_FnRoundsEnd.j9, if_neg (by decide), if_pos (by omega), hc]
  simp only [Option.bind_some]
  rw [if_pos (by omega), if_pos (by simp only [List.length_cons, List.length_nil]; omega), hrot, e1 m (by omega)]
  simp only [Option.bind_some]
  rw [e2 m (by omega)]
  simp only [Option.bind_some, if_true, bne_self_eq_false]
  exact e3 m (by omega)
/-- What the ranks come to in rounds. -/
structure Rk (l x : List Int) (i : Nat) (v : Int) : Prop where
  len : x.length = l.length
  lo : ∀ q : Nat, q < i → q < l.length → rd x (q : Int) = cntL l (rd l (q : Int))
  at_ : i < l.length → rd x (i : Int) = v
  hi : ∀ q : Nat, i < q → q < l.length → rd x (q : Int) = 0
theorem Rk.full {l x : List Int} {v : Int} (h : Rk l x l.length v) : x = ranks l := by
  refine List.ext_getElem (by rw [h.len, ranks_len]) (fun i h1 h2 => ?_)
  have hi : i < l.length := by rw [← h.len]; exact h1
  have := h.lo i hi hi
  rw [rd_at x i h1, ← rd_ranks l i hi, rd_at _ i h2] at this
  exact this
theorem cntL_take (l : List Int) (j : Nat) (hj : j < l.length) (x : Int) : cntL (l.take (j + 1)) x = cntL (l.take j) x + if l[j] < x then 1 else 0 := by
  unfold cntL
  rw [List.take_succ_eq_append_getElem hj, List.filter_append, List.length_append]
  by_cases c : l[j] < x
  · rw [if_pos c, List.filter_cons, if_pos (by simpa using c)]
    simp
  · rw [if_neg c, List.filter_cons, if_neg (by simpa using c)]
    simp
theorem ranks_inner {l : List Int} (h : isNm l = true) (R : List (List Int)) (c b : Int) (i : Nat) (hi : i < l.length) (x : List Int) (hx : Rk l x i 0)
    (hnext : ∀ y, Rk l y (i + 1) 0 → Ev (fun k => laws_FnRoundsEnd.l2 k l R c b y l (l.length : Int) ((i + 1 : Nat) : Int)) true) :
    Ev (fun k => laws_FnRoundsEnd.l3 k l R c b x (i : Int) (rd l (i : Int)) l (l.length : Int) (i : Int) l (l.length : Int) 0) true := by
  have hb := isNm_iff h
  have hn := hb.2.1
  refine evUp0 l.length (fun k (y : List Int) (j : Nat) => laws_FnRoundsEnd.l3 k l R c b y (i : Int) (rd l (i : Int)) l (l.length : Int) (i : Int) l (l.length : Int) (j : Int)) (fun j y => Rk l y i (cntL (l.take j) (rd l (i : Int)))) true x (by simpa [cntL] using hx) ?_ ?_
  · intro j y hj hI
    have hlen := hI.len
    have hc := cntL_bound (l.take j) (rd l (i : Int))
    have hv := hI.at_ hi
    have hct := cntL_take l j hj (rd l (i : Int))
    have htl : (l.take j).length = j := by rw [List.length_take]; omega
    by_cases cc : l[j] < rd l (i : Int)
    · rw [if_pos cc] at hct
      refine .inl ⟨y.set i (cntL (l.take (j + 1)) (rd l (i : Int))), ⟨by rw [List.length_set]; exact hlen, fun q hq hq2 => ?_, fun _ => ?_, fun q hq hq2 => ?_⟩, fun hk => evNext (fun k => ?_) hk⟩
      · rw [rd_set _ _ _ _ (by omega), if_neg (by omega)]
        exact hI.lo q hq hq2
      · rw [rd_set _ _ _ _ (by omega), if_pos rfl]
      · rw [rd_set _ _ _ _ (by omega), if_neg (by omega)]
        exact hI.hi q hq hq2
      · show laws_FnRoundsEnd.l3 (k + 1) l R c b y (i : Int) (rd l (i : Int)) l (l.length : Int) (i : Int) l (l.length : Int) (j : Int) = _
        rw [laws_FnRoundsEnd.l3, if_pos (by omega), if_pos (by omega), if_pos (by omega), rd_at l j hj, if_pos cc, if_pos (by omega), if_pos (by omega), hv, hct, w64 (x := cntL (l.take j) (rd l (i : Int)) + 1) (by omega) (by omega), w64 (x := (j : Int) + 1) (by omega) (by omega), Int.toNat_natCast]
        rfl
    · rw [if_neg cc] at hct
      refine .inl ⟨y, by rw [hct, Int.add_zero]; exact hI, fun hk => evNext (fun k => ?_) hk⟩
      show laws_FnRoundsEnd.l3 (k + 1) l R c b y (i : Int) (rd l (i : Int)) l (l.length : Int) (i : Int) l (l.length : Int) (j : Int) = _
      rw [laws_FnRoundsEnd.l3, if_pos (by omega), if_pos (by omega), if_pos (by omega), rd_at l j hj, if_neg cc, w64 (x := (j : Int) + 1) (by omega) (by omega)]
      rfl
  · intro y hI
    rw [List.take_length] at hI
    have hy : Rk l y (i + 1) 0 := by
      refine ⟨hI.len, fun q hq hq2 => ?_, fun hq => hI.hi (i + 1) (by omega) hq, fun q hq hq2 => hI.hi q (by omega) hq2⟩
      by_cases e : q = i
      · subst e
        exact hI.at_ hi
      · exact hI.lo q (by omega) hq2
    refine evNext (fun k => ?_) (hnext y hy)
    show laws_FnRoundsEnd.l3 (k + 1) l R c b y (i : Int) (rd l (i : Int)) l (l.length : Int) (i : Int) l (l.length : Int) (l.length : Int) = _
    rw [laws_FnRoundsEnd.l3, if_neg (by omega), w64 (by omega) (by omega)]
    rfl
theorem ranks_ev {l : List Int} (h : isNm l = true) : ∀ (d i : Nat) (x : List Int), i + d = l.length → Rk l x i 0 → Ev (fun k => laws_FnRoundsEnd.l2 k l (rounds l) (roundsN l) (bothN l) x l (l.length : Int) (i : Int)) true
  | 0, i, x, hd, hx => by
    have hb := isNm_iff h
    obtain rfl : i = l.length := by omega
    have ex := hx.full
    subst ex
    have e1 := (implSurv_val (isNm_ranks h)).1
    have e2 := implBoth_val (isNm_ranks h)
    rw [rounds_ranks h] at e1
    rw [← bothN_iso (iso_ranks l)] at e2
    have hrl := rounds_len l
    have e3 := zRowsR (rounds l) (by omega) (fun r hr => by have := rounds_each l r hr; omega)
    obtain ⟨K1, e1⟩ := e1
    obtain ⟨K2, e2⟩ := e2
    obtain ⟨K3, e3⟩ := e3
    obtain ⟨K4, e4⟩ := nine_ev h
    dsimp only at e1 e2 e3 e4
    refine ⟨K1 + K2 + K3 + K4 + 1, fun n hn => ?_⟩
    obtain ⟨m, rfl⟩ : ∃ m, n = m + 1 := ⟨n - 1, by omega⟩
    show laws_FnRoundsEnd.l2 (m + 1) l (rounds l) (roundsN l) (bothN l) (ranks l) l (l.length : Int) (l.length : Int) = some true
    rw [laws_FnRoundsEnd.l2, if_neg (by omega), e1 m (by omega)]
    simp only [Option.bind_some]
    rw [e2 m (by omega)]
    simp only [Option.bind_some, if_true]
    rw [e3 m (by omega)]
    simp only [Option.bind_some, if_true, bne_self_eq_false]
    exact e4 m (by omega)
  | d + 1, i, x, hd, hx => by
    have hb := isNm_iff h
    refine evNext (fun k => ?_) (ranks_inner h (rounds l) (roundsN l) (bothN l) i (by omega) x hx (fun y hy => ranks_ev h d (i + 1) y (by omega) hy))
    rw [laws_FnRoundsEnd.l2, if_pos (by omega), if_pos (by omega), if_pos (by omega)]
theorem implWinner_val {l : List Int} (h : isNm l = true) : Ev (fun k => impl_WinnerOf.f k l) (((top l l.length : Nat) : Int), true) := by
  have hb := isNm_iff h
  obtain ⟨K', e'⟩ := implNames_ev l (by omega)
  obtain ⟨K2, e2⟩ := implWinner_ev l (by omega) (by omega) hb.2.2.2
  dsimp only at e' e2
  rw [h] at e'
  refine ⟨K' + K2, fun n hn => ?_⟩
  simp (disch := omega) only [impl_WinnerOf.f, e', e2, Option.bind_some, if_true]
theorem six_ev {l : List Int} (h : isNm l = true) : Ev (fun k => laws_FnRoundsEnd.j6 k l (rounds l) (roundsN l) (bothN l) (l.length : Int) false) true := by
  have hb := isNm_iff h
  refine evNext (fun k => ?_) (ranks_ev h l.length 0 (List.replicate l.length 0) (by omega) ⟨by simp, fun q hq _ => by omega, fun hq => by rw [rd_at _ 0 (by simpa using hq)]; simp, fun q hq hq2 => by rw [rd_at _ q (by simpa using hq2)]; simp⟩)
  rw [laws_FnRoundsEnd.j6, if_neg (by decide), if_pos (by omega), if_pos (by omega), Int.toNat_natCast]
  rfl
/-- The rounds, one after the other. -/
theorem rounds_at {l : List Int} (h : isNm l = true) (k : Nat) (hk : k + 1 < (rounds l).length) : 2 * ((rounds l)[k + 1]).length ≤ ((rounds l)[k]).length ∧ 1 ≤ ((rounds l)[k + 1]).length ∧ (∀ s ∈ (rounds l)[k + 1], s ∈ (rounds l)[k]) ∧ ((rounds l)[k + 1]).Pairwise (· < ·) :=
  Chain.at_ _ _ (rounds_chain h) k hk
theorem round_inner {l : List Int} (h : isNm l = true) (q : Nat) (hq : q + 1 < (rounds l).length) (hnext : Ev (fun k => laws_FnRoundsEnd.l0 k l (rounds l) (roundsN l) (bothN l) (l.length : Int) ((q + 2 : Nat) : Int)) true) :
    Ev (fun k => laws_FnRoundsEnd.l1 k l (rounds l) (roundsN l) (bothN l) (l.length : Int) ((q + 1 : Nat) : Int) (rounds l)[q + 1] (((rounds l)[q + 1]).length : Int) 0) true := by
  have hb := isNm_iff h
  have hR := rounds_at h q hq
  have hrl := rounds_len l
  have hB := rounds_each l _ (List.getElem_mem (show q < (rounds l).length by omega))
  have hA := rounds_each l _ (List.getElem_mem hq)
  have eA := rdL2_atR (rounds l) (q + 1) hq
  have eB := rdL2_atR (rounds l) q (by omega)
  have ew : wrap64 (((q + 1 : Nat) : Int) - 1) = (q : Int) := by rw [w64 (by omega) (by omega)]; omega
  generalize eRA : (rounds l)[q + 1] = A at *
  generalize eRB : (rounds l)[q] = B at *
  refine evUp0 A.length (fun k (_ : Unit) (i : Nat) => laws_FnRoundsEnd.l1 k l (rounds l) (roundsN l) (bothN l) (l.length : Int) ((q + 1 : Nat) : Int) A (A.length : Int) (i : Int)) (fun _ _ => True) true () trivial ?_ ?_
  · intro i _ hi _
    have hz := zHasR B A[i] (by omega) (hR.2.2.1 _ (List.getElem_mem hi))
    refine .inl ⟨(), trivial, fun hk => evCall (g := fun k => laws_FnRoundsEnd.l1 k l (rounds l) (roundsN l) (bothN l) (l.length : Int) ((q + 1 : Nat) : Int) A (A.length : Int) (i : Int)) (f := fun k => laws_FnRoundsEnd.j5 k l (rounds l) (roundsN l) (bothN l) (l.length : Int) ((q + 1 : Nat) : Int) A (A.length : Int) (i : Int) false) hz (fun k hk => ?_) (evNext (fun k => ?_) hk)⟩
    · show laws_FnRoundsEnd.l1 (k + 1) l (rounds l) (roundsN l) (bothN l) (l.length : Int) ((q + 1 : Nat) : Int) A (A.length : Int) (i : Int) = _
      rw [laws_FnRoundsEnd.l1, if_pos (by omega), if_pos (by omega), if_pos (by omega), ew, if_pos (by omega), if_pos (by omega), eB, rd_at A i hi, hk]
      simp only [Option.bind_some, if_true]
      by_cases h0 : i = 0
      · subst h0
        rw [if_neg (by simp)]
      · have hlt := (List.pairwise_iff_getElem.1 hR.2.2.2) (i - 1) i (by omega) hi (by omega)
        have ei : wrap64 ((i : Int) - 1) = ((i - 1 : Nat) : Int) := by rw [w64 (by omega) (by omega)]; omega
        rw [if_pos (by omega), if_pos (by omega), if_pos (by omega), ei, if_pos (by omega), eA, if_pos (by omega), rd_at A (i - 1) (by omega), decide_eq_false (by omega)]
    · show laws_FnRoundsEnd.j5 (k + 1) l (rounds l) (roundsN l) (bothN l) (l.length : Int) ((q + 1 : Nat) : Int) A (A.length : Int) (i : Int) false = _
      rw [laws_FnRoundsEnd.j5, if_neg (by decide), w64 (by omega) (by omega)]
      rfl
  · intro _ _
    refine evNext (fun k => ?_) hnext
    show laws_FnRoundsEnd.l1 (k + 1) l (rounds l) (roundsN l) (bothN l) (l.length : Int) ((q + 1 : Nat) : Int) A (A.length : Int) (A.length : Int) = _
    rw [laws_FnRoundsEnd.l1, if_neg (by omega), w64 (by omega) (by omega)]
    rfl
theorem round_ev {l : List Int} (h : isNm l = true) : ∀ (d q : Nat), q + 1 + d = (rounds l).length → Ev (fun k => laws_FnRoundsEnd.l0 k l (rounds l) (roundsN l) (bothN l) (l.length : Int) ((q + 1 : Nat) : Int)) true
  | 0, q, hd => by
    have hb := isNm_iff h
    have hge := bothN_ge hb.1
    refine evCall (implWinner_val h) (fun k hk => ?_) (six_ev h)
    rw [laws_FnRoundsEnd.l0, if_neg (by omega), hk]
    simp only [Option.bind_some, if_true]
    rw [if_neg (by omega), decide_eq_false (by omega)]
  | d + 1, q, hd => by
    have hb := isNm_iff h
    have hq : q + 1 < (rounds l).length := by omega
    have hR := rounds_at h q hq
    have hrl := rounds_len l
    have hB := rounds_each l _ (List.getElem_mem (show q < (rounds l).length by omega))
    have eA := rdL2_atR (rounds l) (q + 1) hq
    have eB := rdL2_atR (rounds l) q (by omega)
    have ew : wrap64 (((q + 1 : Nat) : Int) - 1) = (q : Int) := by rw [w64 (by omega) (by omega)]; omega
    have hin := round_inner h q hq (round_ev h d (q + 1) (by omega))
    refine evNext (f := fun k => laws_FnRoundsEnd.j3 k l (rounds l) (roundsN l) (bothN l) (l.length : Int) ((q + 1 : Nat) : Int) false) (fun k => ?_) (evNext (fun k => ?_) hin)
    · rw [laws_FnRoundsEnd.l0, if_pos (by omega), if_pos (by omega), ew, if_pos (by omega), if_pos (by omega), eA, eB, w64 (by omega) (by omega), if_neg (by omega), decide_eq_false (by omega)]
    · rw [laws_FnRoundsEnd.j3, if_neg (by decide), if_pos (by omega), if_pos (by omega), eA]
theorem zero_ev {l : List Int} (h : isNm l = true) : Ev (fun k => laws_FnRoundsEnd.j0 k l (rounds l) true (roundsN l) (bothN l) false) true := by
  have hb := isNm_iff h
  have hrl := rounds_len l
  have hp : 1 ≤ (rounds l).length := by unfold rounds; simp
  have h0 : ((rounds l)[0]'(by omega)).length = l.length := by
    unfold rounds
    simp [iota_len]
  have hlast := rounds_last h
  rw [List.getLast_eq_getElem] at hlast
  have e0 := rdL2_atR (rounds l) 0 (by omega)
  have eL := rdL2_atR (rounds l) ((rounds l).length - 1) (by omega)
  have ew : wrap64 (((rounds l).length : Int) - 1) = (((rounds l).length - 1 : Nat) : Int) := by rw [w64 (by omega) (by omega)]; omega
  have hm := mul_bound2 (a := 2 * (l.length : Int)) (b := ((rounds l).length : Int) - 1) (A := 24) (B := 12) (by omega) (by omega) (by omega) (by omega)
  have hw : wrap64 ((wrap64 (2 * (l.length : Int))) * (wrap64 (((rounds l).length : Int) - 1))) = roundsN l := by
    unfold roundsN
    rw [w64 (x := 2 * (l.length : Int)) (by omega) (by omega), w64 (x := ((rounds l).length : Int) - 1) (by omega) (by omega), w64 (by omega) (by omega)]
  have h1 := round_ev h ((rounds l).length - 1) 0 (by omega)
  refine evNext (f := fun k => laws_FnRoundsEnd.j1 k l (rounds l) (roundsN l) (bothN l) (l.length : Int) false) (fun k => ?_) (evNext (fun k => ?_) h1)
  · rw [laws_FnRoundsEnd.j0, if_neg (by decide), if_pos rfl, if_pos (by omega), show (rd_L2 (rounds l) 0) = _ from e0, if_pos (by omega), hw, ew, if_pos (by omega), if_pos (by omega), eL, if_pos (by omega)]
    simp
  · rw [laws_FnRoundsEnd.j1, if_neg (by decide)]
    rfl
theorem law_rounds {c d : List Int} (hc : Bytes c) (hbig : laws_big.f c d = some false) : ∃ k, laws_FnRoundsEnd.f k c d = some true := by
  obtain ⟨r, hr, Kd, kd⟩ := draw_names hc
  have hlen : r.length ≤ 1048576 := by have := hr.2.1; omega
  dsimp only at kd
  cases hk : isNm r with
  | true =>
    obtain ⟨⟨K1, k1⟩, ⟨K2, k2⟩⟩ := implSurv_val hk
    obtain ⟨⟨K3, k3⟩, ⟨K4, k4⟩⟩ := roundMsg_val hk
    obtain ⟨K5, k5⟩ := implBoth_val hk
    obtain ⟨v, ⟨K6, k6⟩, ⟨K7, k7⟩⟩ := BothWays_same r ⟨by have := hr.2.1; unfold maxLen; omega, by have := hr.2.1; omega, fun x hx => by
      have := hr.2.2 x hx
      have e1 : IntKind.i64.min = -9223372036854775808 := by decide
      have e2 : IntKind.i64.max = 9223372036854775807 := by decide
      simp only [Lit.wf, e1, e2, Bool.and_eq_true, decide_eq_true_eq]
      omega, hlen⟩
    have hrl := rounds_len r
    have hb := isNm_iff hk
    obtain ⟨K8, k8⟩ := zRowsR (rounds r) (by omega) (fun q hq => by have := rounds_each r q hq; omega)
    obtain ⟨K9, k9⟩ := zero_ev hk
    dsimp only at k1 k2 k3 k4 k5 k6 k7 k8 k9
    have hv : v = (bothN r, true) := Option.some.inj ((k7 (K5 + K7) (by omega)).symm.trans (k5 (K5 + K7) (by omega)))
    subst hv
    refine ⟨Kd + K1 + K2 + K3 + K4 + K5 + K6 + K8 + K9, ?_⟩
    have kd := kd (Kd + K1 + K2 + K3 + K4 + K5 + K6 + K8 + K9) (by omega)
    have k1 := k1 (Kd + K1 + K2 + K3 + K4 + K5 + K6 + K8 + K9) (by omega)
    have k2 := k2 (Kd + K1 + K2 + K3 + K4 + K5 + K6 + K8 + K9) (by omega)
    have k3 := k3 (Kd + K1 + K2 + K3 + K4 + K5 + K6 + K8 + K9) (by omega)
    have k4 := k4 (Kd + K1 + K2 + K3 + K4 + K5 + K6 + K8 + K9) (by omega)
    have k5 := k5 (Kd + K1 + K2 + K3 + K4 + K5 + K6 + K8 + K9) (by omega)
    have k6 := k6 (Kd + K1 + K2 + K3 + K4 + K5 + K6 + K8 + K9) (by omega)
    have k8 := k8 (Kd + K1 + K2 + K3 + K4 + K5 + K6 + K8 + K9) (by omega)
    have k9 := k9 (Kd + K1 + K2 + K3 + K4 + K5 + K6 + K8 + K9) (by omega)
    clear k7
    generalize Kd + K1 + K2 + K3 + K4 + K5 + K6 + K8 + K9 = K at *
    unfold laws_FnRoundsEnd.f spec_DrawSurvivorsOf.f
    rw [hbig]
    simp only [Option.bind_some, Bool.false_eq_true, ↓reduceIte]
    rw [kd]
    simp only [Option.bind_some]
    rw [k1]
    simp only [Option.bind_some]
    rw [k2]
    simp only [Option.bind_some]
    rw [k3]
    simp only [Option.bind_some]
    rw [k4]
    simp only [Option.bind_some]
    rw [k5]
    simp only [Option.bind_some]
    rw [k6]
    simp only [Option.bind_some, bne_self_eq_false, Bool.false_eq_true, ↓reduceIte]
    rw [k8]
    simp only [Option.bind_some, ↓reduceIte]
    exact k9
  | false =>
    obtain ⟨K1, k1⟩ := specNames_ev r hlen
    obtain ⟨K2, k2⟩ := implNames_ev r hlen
    obtain ⟨K3, k3⟩ := zRowsR [] (by simp) (by simp)
    dsimp only at k1 k2 k3
    rw [hk] at k1 k2
    refine ⟨Kd + K1 + K2 + K3 + 2, ?_⟩
    have kd := kd (Kd + K1 + K2 + K3 + 2) (by omega)
    have k1 := k1 (Kd + K1 + K2 + K3 + 2) (by omega)
    have k2 := k2 (Kd + K1 + K2 + K3 + 2) (by omega)
    have k3 := k3 (Kd + K1 + K2 + K3 + 2) (by omega)
    have s1 : impl_SurvivorsOf.f (Kd + K1 + K2 + K3 + 2) r = some ([], false) := by simp [impl_SurvivorsOf.f, k2]
    have s2 : spec_SurvivorsOf.f (Kd + K1 + K2 + K3 + 2) r = some ([], false) := by simp [spec_SurvivorsOf.f, k1]
    have s3 : impl_RoundMessages.f (Kd + K1 + K2 + K3 + 2) r = some (0, false) := by simp [impl_RoundMessages.f, k2]
    have s4 : spec_RoundMessages.f (Kd + K1 + K2 + K3 + 2) r = some (0, false) := by simp [spec_RoundMessages.f, k1]
    have s5 : impl_BothWays.f (Kd + K1 + K2 + K3 + 2) r = some (0, false) := by simp [impl_BothWays.f, k2]
    have s6 : spec_BothWays.f (Kd + K1 + K2 + K3 + 2) r = some (0, false) := by simp [spec_BothWays.f, k1]
    have s7 : laws_FnRoundsEnd.j0 (Kd + K1 + K2 + K3 + 2) r [] false 0 0 false = some true := by
      show laws_FnRoundsEnd.j0 (Kd + K1 + K2 + K3 + 1 + 1) r [] false 0 0 false = some true
      rw [laws_FnRoundsEnd.j0]
      simp
    generalize Kd + K1 + K2 + K3 + 2 = K at *
    unfold laws_FnRoundsEnd.f spec_DrawSurvivorsOf.f
    rw [hbig]
    simp only [Option.bind_some, Bool.false_eq_true, ↓reduceIte]
    rw [kd]
    simp only [Option.bind_some]
    rw [s1]
    simp only [Option.bind_some]
    rw [s2]
    simp only [Option.bind_some]
    rw [s3]
    simp only [Option.bind_some]
    rw [s4]
    simp only [Option.bind_some]
    rw [s5]
    simp only [Option.bind_some]
    rw [s6]
    simp only [Option.bind_some, bne_self_eq_false, Bool.false_eq_true, ↓reduceIte]
    rw [k3]
    simp only [Option.bind_some, ↓reduceIte]
    exact s7
end Go.Proofs.Ytbiiklkkfkipeaa.X

/- Rounds end: the pure statement. -/
namespace Go.Proofs.Ytbiiklkkfkipeaa.Pure
set_option linter.unusedSimpArgs false
set_option linter.unusedVariables false
open Go.RowKit Go.Proofs.Ytbiiklkkfkipeaa.X Go.Proofs.YtbiiklkkfkipeaaW.PrintWords Go.Proofs.YtbiiklkkfkipeaaW.PrintLast
theorem bytes_ofR {c : List Int} (hl : c.length ≤ 1048576) (h : ∀ x ∈ c, (Lit.int .u8 x).wf = true) : Bytes c := by
  refine ⟨hl, fun i hi => ?_⟩
  have hx := h _ (List.getElem_mem hi)
  rw [rd_at c i hi]
  have hh : IntKind.u8.min ≤ c[i] ∧ c[i] ≤ IntKind.u8.max := by simpa [Lit.wf] using hx
  have e1 : IntKind.u8.min = 0 := by decide
  have e2 : IntKind.u8.max = 255 := by decide
  omega
theorem FnRoundsEnd : ∀ (l0 : List Int) (l1 : List Int), l0.length ≤ maxLen → l0.length * 1 ≤ 140737488351232 → (∀ x ∈ l0, (Lit.int .u8 x).wf = true) → l1.length ≤ maxLen → l1.length * 1 ≤ 140737488351232 → (∀ x ∈ l1, (Lit.int .u8 x).wf = true) → ∃ k, laws_FnRoundsEnd.f k l0 l1 = some true := by
  intro l0 l1 _ _ h0 _ _ h1
  rcases bigR l0 l1 with hb | ⟨hb, b0, b1⟩
  · refine ⟨0, ?_⟩
    unfold laws_FnRoundsEnd.f
    rw [hb]
    rfl
  · exact law_rounds (bytes_ofR b0 h0) hb
end Go.Proofs.Ytbiiklkkfkipeaa.Pure

/- Plain lemmas for the rows: a slice of structs of three whole numbers that came in, opened to cells. -/
namespace Go.Proofs.Ytbiiklkkfkipeaa.Rw
open Go.ChangeShapes Go.WideShapes Go.Deep Go.RowKit
section
variable {H : Type} {enc : TypeId × Value → H} {P : Program} {w : World} {base : Nat} {spare : Nat → Bool} {held : Bool}
end
end Go.Proofs.Ytbiiklkkfkipeaa.Rw
