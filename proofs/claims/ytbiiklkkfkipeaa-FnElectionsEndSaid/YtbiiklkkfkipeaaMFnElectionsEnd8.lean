/- Several texts of this session in one: PlEv, PlAll, PlHas, PlNames, PlReach, PlPassed, PlPassedSame, PlSum, PlSimple, PlWinner, PlBestNamesVals, PlWorstNamesVals, PlElect, PlDraw, PlElectEnd, PureFnElectionsEnd, Rw. -/
import Derived.Test.YtbiiklkkfkipeaaMFnElectionsEndWWords
import Derived.Test.YtbiiklkkfkipeaaMFnElectionsEndWMore
import Derived.Test.YtbiiklkkfkipeaaMFnElectionsEnd0
import Derived.Test.YtbiiklkkfkipeaaMFnElectionsEnd1
import Derived.Laws.BitsLemmas
import Derived.Test.YtbiiklkkfkipeaaMFnElectionsEnd2
import Derived.Deep.Slices
import Derived.Deep.Fields
import Derived.ChangeSame
import Derived.Lib.SmallJoins
import Derived.SizedLaws
import Derived.ChangeSlices
/- Plain lemmas: what a function with rounds comes to. -/
namespace Go.Proofs.Ytbiiklkkfkipeaa.X
set_option linter.unusedSimpArgs false
set_option linter.unusedVariables false
open Go.RowKit Go.Proofs.YtbiiklkkfkipeaaW.PrintWords
theorem w64 {x : Int} (h1 : -9223372036854775808 ≤ x) (h2 : x ≤ 9223372036854775807) : wrap64 x = x := by unfold wrap64; omega
/-- One round: the next state's answer is this state's. -/
theorem evNext {α : Type} {g f : Nat → Option α} {r : α} (h : ∀ k, g (k + 1) = f k) (k : Ev f r) : Ev g r := Ev.step h k
theorem evEnd {α : Type} {g : Nat → Option α} {r : α} (h : ∀ k, g (k + 1) = some r) : Ev g r := Ev.step (f := fun _ => some r) h (Ev.now r)
/-- A round that calls: from some number of rounds on. -/
theorem evCall {α β : Type} {g f : Nat → Option α} {c : Nat → Option β} {v : β} {r : α} (hc : Ev c v) (h : ∀ k, c k = some v → g (k + 1) = f k) (k : Ev f r) : Ev g r := by
  obtain ⟨K, k⟩ := k
  obtain ⟨K', hc⟩ := hc
  refine ⟨K + K' + 1, fun n hn => ?_⟩
  obtain ⟨m, rfl⟩ : ∃ m, n = m + 1 := ⟨n - 1, by omega⟩
  rw [h m (hc m (by omega))]
  exact k m (by omega)
theorem evCallEnd {α β : Type} {g : Nat → Option α} {c : Nat → Option β} {v : β} {r : α} (hc : Ev c v) (h : ∀ k, c k = some v → g (k + 1) = some r) : Ev g r :=
  evCall hc h (Ev.now r)
/-- A counter that goes up: an invariant, and each round hands the answer on. -/
theorem evUp {σ ρ : Type} (n : Nat) (L : Nat → σ → Nat → Option ρ) (I : Nat → σ → Prop) (r : ρ)
    (hs : ∀ i s, i < n → I i s → (∃ s', I (i + 1) s' ∧ (Ev (fun k => L k s' (i + 1)) r → Ev (fun k => L k s i) r)) ∨ Ev (fun k => L k s i) r)
    (he : ∀ s, I n s → Ev (fun k => L k s n) r) : ∀ i s, i ≤ n → I i s → Ev (fun k => L k s i) r := by
  have key : ∀ d i s, i + d = n → I i s → Ev (fun k => L k s i) r := by
    intro d
    induction d with
    | zero =>
      intro i s hd hI
      obtain rfl : i = n := by omega
      exact he s hI
    | succ d ih =>
      intro i s hd hI
      rcases hs i s (by omega) hI with ⟨s', hI', hk⟩ | h
      · exact hk (ih (i + 1) s' (by omega) hI')
      · exact h
  intro i s hi hI
  exact key (n - i) i s (by omega) hI
/-- The same from zero on. -/
theorem evUp0 {σ ρ : Type} (n : Nat) (L : Nat → σ → Nat → Option ρ) (I : Nat → σ → Prop) (r : ρ) (s : σ) (h0 : I 0 s)
    (hs : ∀ i s, i < n → I i s → (∃ s', I (i + 1) s' ∧ (Ev (fun k => L k s' (i + 1)) r → Ev (fun k => L k s i) r)) ∨ Ev (fun k => L k s i) r)
    (he : ∀ s, I n s → Ev (fun k => L k s n) r) : Ev (fun k => L k s 0) r := evUp n L I r hs he 0 s (Nat.zero_le _) h0
theorem evEq {α : Type} {g : Nat → Option α} {r r' : α} (h : Ev g r) (e : r = r') : Ev g r' := e ▸ h
theorem rd_at (l : List Int) (i : Nat) (h : i < l.length) : rd l (i : Int) = l[i] := by
  simp [rd, List.getD_eq_getElem?_getD, List.getElem?_eq_getElem h]
end Go.Proofs.Ytbiiklkkfkipeaa.X

/- Plain lemmas: whether all numbers lie between two others; traffic; buckets. -/
namespace Go.Proofs.Ytbiiklkkfkipeaa.X
set_option linter.unusedSimpArgs false
set_option linter.unusedVariables false
open Go.RowKit Go.Proofs.YtbiiklkkfkipeaaW.PrintWords
theorem l1In_eq (n lo hi : Int) : spec_l1In.f n lo hi = some (inB lo hi n) := by
  unfold spec_l1In.f inB
  by_cases h : lo ≤ n
  · rw [if_pos (by omega), decide_eq_true h]; simp
  · rw [if_neg (by omega), decide_eq_false h]; simp
theorem within_eq (n lo hi : Int) : impl_within.f n lo hi = some (inB lo hi n) := by
  unfold impl_within.f inB
  by_cases h : lo ≤ n
  · rw [if_pos (by omega), decide_eq_true h]; simp
  · rw [if_neg (by omega), decide_eq_false h]; simp
theorem allWithin_eq (l : List Int) (lo hi : Int) : impl_allWithin.f l lo hi = some (l.all (inB lo hi)) := rfl
theorem inB_iff {lo hi n : Int} : inB lo hi n = true ↔ lo ≤ n ∧ n ≤ hi := by simp [inB]
theorem all_bound {l : List Int} {lo hi : Int} (h : l.all (inB lo hi) = true) : ∀ x ∈ l, lo ≤ x ∧ x ≤ hi := fun x hx => inB_iff.1 (List.all_eq_true.1 h x hx)
theorem l1All_ev (l : List Int) (lo hi : Int) (hn : l.length ≤ 9223372036854775806) : Ev (fun k => spec_l1All.f k l lo hi) (l.all (inB lo hi)) := by
  have key := evUp0 l.length (fun k (_ : Unit) (i : Nat) => spec_l1All.l0 k lo hi l (l.length : Int) (i : Int)) (fun i _ => (l.take i).all (inB lo hi) = true) (l.all (inB lo hi)) () (by simp)
    (by
      intro i s hlt hI
      cases hb : inB lo hi (rd l (i : Int)) with
      | true =>
        refine .inl ⟨(), ?_, fun h => evNext (fun k => ?_) h⟩
        · rw [List.take_succ_eq_append_getElem hlt, List.all_append, hI]
          rw [rd_at l i hlt] at hb
          simp [hb]
        · show spec_l1All.l0 (k + 1) lo hi l (l.length : Int) (i : Int) = spec_l1All.l0 k lo hi l (l.length : Int) (i + 1 : Nat)
          simp only [spec_l1All.l0]
          rw [if_pos (by omega), if_pos (by omega), if_pos (by omega), l1In_eq, hb]
          simp only [Option.bind_some, if_true]
          rw [w64 (by omega) (by omega)]
          rfl
      | false =>
        refine .inr (evEnd fun k => ?_)
        show spec_l1All.l0 (k + 1) lo hi l (l.length : Int) (i : Int) = _
        simp only [spec_l1All.l0]
        rw [if_pos (by omega), if_pos (by omega), if_pos (by omega), l1In_eq, hb]
        simp only [Option.bind_some]
        have hf : l.all (inB lo hi) = false := by
          rw [List.all_eq_false]
          refine ⟨rd l (i : Int), ?_, by simp [hb]⟩
          rw [rd_at l i hlt]
          exact List.getElem_mem hlt
        rw [hf]
        simp)
    (by
      intro s hI
      refine evEnd fun k => ?_
      show spec_l1All.l0 (k + 1) lo hi l (l.length : Int) (l.length : Int) = _
      simp only [spec_l1All.l0]
      rw [if_neg (by omega)]
      rw [List.take_length] at hI
      rw [hI])
  exact key
end Go.Proofs.Ytbiiklkkfkipeaa.X

/- Plain lemmas: whether a number is among others. -/
namespace Go.Proofs.Ytbiiklkkfkipeaa.X
set_option linter.unusedSimpArgs false
set_option linter.unusedVariables false
open Go.RowKit Go.Proofs.YtbiiklkkfkipeaaW.PrintWords
theorem index_ev (l : List Int) (n : Int) (hl : l.length ≤ 9223372036854775806) : ∃ r : Int, Ev (fun k => slices_Index_int_int.f k l n) r ∧ decide (r ≥ 0) = l.contains n := by
  cases hc : l.contains n with
  | false =>
    refine ⟨-1, ?_, rfl⟩
    have key := evUp0 l.length (fun k (_ : Unit) (i : Nat) => slices_Index_int_int.l0 k l n (l.length : Int) (i : Int)) (fun _ _ => True) (-1) () trivial
      (by
        intro i s hi _
        refine .inl ⟨(), trivial, fun h => evNext (fun k => ?_) h⟩
        show slices_Index_int_int.l0 (k + 1) l n (l.length : Int) (i : Int) = slices_Index_int_int.l0 k l n (l.length : Int) (i + 1 : Nat)
        have hne : ¬ n = l[i] := by
          intro e
          have : l.contains n = true := by rw [e]; simp
          rw [this] at hc
          cases hc
        simp only [slices_Index_int_int.l0]
        rw [if_pos (by omega), if_pos (by omega), if_pos (by omega), rd_at l i hi, if_neg hne, w64 (by omega) (by omega)]
        rfl)
      (by
        intro s _
        refine evEnd fun k => ?_
        show slices_Index_int_int.l0 (k + 1) l n (l.length : Int) (l.length : Int) = _
        simp only [slices_Index_int_int.l0]
        rw [if_neg (by omega)])
    exact key
  | true =>
    have hex : ∃ i : Nat, ∃ h : i < l.length, n = l[i] ∧ ∀ j (hj : j < i), ¬ n = l[j] := by
      clear hl
      induction l with
      | nil => simp at hc
      | cons x xs ih =>
        by_cases e : n = x
        · exact ⟨0, by simp, by simpa using e, fun j hj => absurd hj (by omega)⟩
        · have : xs.contains n = true := by
            rw [List.contains_cons] at hc
            have : (n == x) = false := by simpa using e
            rw [this] at hc
            simpa using hc
          obtain ⟨i, h, h1, h2⟩ := ih this
          refine ⟨i + 1, by simp; omega, by simpa using h1, fun j hj => ?_⟩
          cases j with
          | zero => simpa using e
          | succ j => simpa using h2 j (by omega)
    obtain ⟨m, hm, h1, h2⟩ := hex
    refine ⟨(m : Int), ?_, by simp⟩
    have key := evUp m (fun k (_ : Unit) (i : Nat) => slices_Index_int_int.l0 k l n (l.length : Int) (i : Int)) (fun _ _ => True) (m : Int)
      (by
        intro i s hi _
        refine .inl ⟨(), trivial, fun h => evNext (fun k => ?_) h⟩
        show slices_Index_int_int.l0 (k + 1) l n (l.length : Int) (i : Int) = slices_Index_int_int.l0 k l n (l.length : Int) (i + 1 : Nat)
        simp only [slices_Index_int_int.l0]
        rw [if_pos (by omega), if_pos (by omega), if_pos (by omega), rd_at l i (by omega), if_neg (h2 i hi), w64 (by omega) (by omega)]
        rfl)
      (by
        intro s _
        refine evEnd fun k => ?_
        show slices_Index_int_int.l0 (k + 1) l n (l.length : Int) (m : Int) = _
        simp only [slices_Index_int_int.l0]
        rw [if_pos (by omega), if_pos (by omega), if_pos (by omega), rd_at l m hm, if_pos h1]) 0 () (by omega) trivial
    exact key
theorem contains_ev (l : List Int) (n : Int) (hl : l.length ≤ 9223372036854775806) : Ev (fun k => slices_Contains_int_int.f k l n) (l.contains n) := by
  obtain ⟨r, h1, h2⟩ := index_ev l n hl
  exact evEq (Ev.bind h1 (Ev.now _)) h2
end Go.Proofs.Ytbiiklkkfkipeaa.X

/- Plain lemmas: names. AreNames: the program and the reference come to the same. -/
namespace Go.Proofs.Ytbiiklkkfkipeaa.X
set_option linter.unusedSimpArgs false
set_option linter.unusedVariables false
open Go.RowKit Go.Proofs.YtbiiklkkfkipeaaW.PrintWords
theorem l1Has_ev (l : List Int) (n : Int) (hl : l.length ≤ 9223372036854775806) : Ev (fun k => spec_l1Has.f k l n) (l.contains n) := by
  have key := evUp0 l.length (fun k (_ : Unit) (i : Nat) => spec_l1Has.l0 k n l (l.length : Int) (i : Int)) (fun i _ => (l.drop i).contains n = l.contains n) (l.contains n) () rfl
    (by
      intro i s hi hI
      rw [List.drop_eq_getElem_cons hi, List.contains_cons] at hI
      by_cases e : l[i] = n
      · refine .inr (evEnd fun k => ?_)
        show spec_l1Has.l0 (k + 1) n l (l.length : Int) (i : Int) = _
        simp only [spec_l1Has.l0]
        rw [if_pos (by omega), if_pos (by omega), if_pos (by omega), rd_at l i hi, if_pos e, ← hI, e]
        simp
      · refine .inl ⟨(), ?_, fun h => evNext (fun k => ?_) h⟩
        · have : (n == l[i]) = false := by simpa using fun h => e h.symm
          rw [this, Bool.false_or] at hI
          exact hI
        · show spec_l1Has.l0 (k + 1) n l (l.length : Int) (i : Int) = spec_l1Has.l0 k n l (l.length : Int) (i + 1 : Nat)
          simp only [spec_l1Has.l0]
          rw [if_pos (by omega), if_pos (by omega), if_pos (by omega), rd_at l i hi, if_neg e, w64 (by omega) (by omega)]
          rfl)
    (by
      intro s hI
      rw [List.drop_length] at hI
      refine evEnd fun k => ?_
      show spec_l1Has.l0 (k + 1) n l (l.length : Int) (l.length : Int) = _
      simp only [spec_l1Has.l0]
      rw [if_neg (by omega), ← hI]
      simp)
  exact key
/-- No number of l[i:n] stands before in l. -/
def fresh (l : List Int) : Nat → Bool
  | 0 => true
  | n + 1 => fresh l n && !((l.take n).contains (rd l (n : Int)))
theorem fresh_step (l : List Int) (n : Nat) (h : n < l.length) (hf : fresh l l.length = true) : (l.take n).contains (rd l (n : Int)) = false := by
  have : ∀ m, n < m → fresh l m = true → (l.take n).contains (rd l (n : Int)) = false := by
    intro m
    induction m with
    | zero => intro h; omega
    | succ m ih =>
      intro h1 h2
      simp only [fresh, Bool.and_eq_true] at h2
      by_cases e : n = m
      · subst e
        simpa using h2.2
      · exact ih (by omega) h2.1
  exact this l.length h hf
theorem fresh_false (l : List Int) (n m : Nat) (hm : n < m) (h : (l.take n).contains (rd l (n : Int)) = true) : fresh l m = false := by
  induction m with
  | zero => omega
  | succ m ih =>
    by_cases e : n = m
    · subst e
      show (fresh l n && !((l.take n).contains (rd l (n : Int)))) = false
      rw [h, Bool.not_true, Bool.and_false]
    · simp [fresh, ih (by omega)]
theorem fresh_ne {l : List Int} (hf : fresh l l.length = true) {i j : Nat} (hi : i < l.length) (hj : j < l.length) (hij : i ≠ j) : rd l (i : Int) ≠ rd l (j : Int) := by
  have key : ∀ a b : Nat, a < b → b < l.length → rd l (a : Int) ≠ rd l (b : Int) := by
    intro a b hab hb e
    have h1 := fresh_step l b hb hf
    have h2 : (l.take b).contains (rd l (b : Int)) = true := by
      rw [List.contains_iff_mem, ← e, rd_at l a (by omega)]
      rw [List.mem_take_iff_getElem]
      exact ⟨a, by omega, rfl⟩
    rw [h2] at h1
    cases h1
  rcases Nat.lt_or_ge i j with h | h
  · exact key i j h hj
  · exact fun e => key j i (by omega) hi e.symm
def isNm (l : List Int) : Bool := inB 2 12 (l.length : Int) && (l.all (inB 0 999) && fresh l l.length)
theorem isNm_iff {l : List Int} (h : isNm l = true) : 2 ≤ l.length ∧ l.length ≤ 12 ∧ (∀ x ∈ l, 0 ≤ x ∧ x ≤ 999) ∧ fresh l l.length = true := by
  unfold isNm at h
  simp only [Bool.and_eq_true] at h
  have h1 := inB_iff.1 h.1
  exact ⟨by omega, by omega, all_bound h.2.1, h.2.2⟩
theorem specNames_loop (l : List Int) (hl : l.length ≤ 1048576) : Ev (fun k => spec_elNames.l0 k l l (l.length : Int) ((0 : Nat) : Int)) (fresh l l.length) := by
  refine evUp0 l.length (fun k (_ : Unit) (i : Nat) => spec_elNames.l0 k l l (l.length : Int) (i : Int)) (fun i _ => fresh l i = true) _ () rfl ?_ ?_
  · intro i s hi hI
    have hh := l1Has_ev (l.take i) (rd l (i : Int)) (by simp; omega)
    cases hc : (l.take i).contains (rd l (i : Int)) with
    | true =>
      rw [hc] at hh
      refine .inr (evCallEnd hh fun k hk => ?_)
      show spec_elNames.l0 (k + 1) l l (l.length : Int) (i : Int) = _
      simp only [spec_elNames.l0]
      rw [if_pos (by omega), if_pos (by omega), if_pos (by omega), if_pos (by omega), Int.toNat_natCast, hk, fresh_false l i l.length hi hc]
      rfl
    | false =>
      rw [hc] at hh
      refine .inl ⟨(), by show (fresh l i && !((l.take i).contains (rd l (i : Int)))) = true; rw [hI, hc]; rfl, fun h => evCall hh (fun k hk => ?_) h⟩
      show spec_elNames.l0 (k + 1) l l (l.length : Int) (i : Int) = spec_elNames.l0 k l l (l.length : Int) (i + 1 : Nat)
      simp only [spec_elNames.l0]
      rw [if_pos (by omega), if_pos (by omega), if_pos (by omega), if_pos (by omega), Int.toNat_natCast, hk, w64 (by omega) (by omega)]
      simp only [Option.bind_some, Bool.false_eq_true, if_false]
      rfl
  · intro s hI
    refine evEnd fun k => ?_
    show spec_elNames.l0 (k + 1) l l (l.length : Int) (l.length : Int) = _
    simp only [spec_elNames.l0]
    rw [if_neg (by omega), hI]
theorem specNames_ev (l : List Int) (hl : l.length ≤ 1048576) : Ev (fun k => spec_elNames.f k l) (isNm l) := by
  unfold isNm
  cases h : inB 2 12 (l.length : Int) with
  | false =>
    refine Ev.congr (f := fun k => spec_elNames.j0 k l true) (fun k => by simp [spec_elNames.f, l1In_eq, h]) ?_
    refine evEnd fun k => ?_
    simp [spec_elNames.j0]
  | true =>
    cases ha : l.all (inB 0 999) with
    | false =>
      have h2 : Ev (fun k => spec_elNames.j0 k l true) false := evEnd fun k => by simp [spec_elNames.j0]
      have h1 := l1All_ev l 0 999 (by omega)
      rw [ha] at h1
      exact Ev.congr (f := fun k => (spec_l1All.f k l 0 999).bind fun t => spec_elNames.j0 k l (!t)) (fun k => by simp only [spec_elNames.f, l1In_eq, h, Option.bind_some, if_true]) (Ev.bind h1 h2)
    | true =>
      have h1 := l1All_ev l 0 999 (by omega)
      rw [ha] at h1
      have h2 : Ev (fun k => spec_elNames.j0 k l false) (fresh l l.length) := evNext (fun k => by simp [spec_elNames.j0]) (specNames_loop l hl)
      exact Ev.congr (f := fun k => (spec_l1All.f k l 0 999).bind fun t => spec_elNames.j0 k l (!t)) (fun k => by simp only [spec_elNames.f, l1In_eq, h, Option.bind_some, if_true]) (Ev.bind h1 h2)
theorem implNames_ev (l : List Int) (hl : l.length ≤ 1048576) : Ev (fun k => impl_AreNames.f k l) (isNm l) := by
  have key := evUp0 l.length (fun k (_ : Unit) (i : Nat) => impl_AreNames.l0 k l l (l.length : Int) (i : Int)) (fun i _ => fresh l i = true) (isNm l) () rfl
    (by
      intro i s hi hI
      have hh := contains_ev (l.take i) (rd l (i : Int)) (by simp; omega)
      cases hc : (l.take i).contains (rd l (i : Int)) with
      | true =>
        rw [hc] at hh
        refine .inr (evCallEnd hh fun k hk => ?_)
        show impl_AreNames.l0 (k + 1) l l (l.length : Int) (i : Int) = _
        simp only [impl_AreNames.l0]
        rw [if_pos (by omega), if_pos (by omega), if_pos (by omega), if_pos (by omega), Int.toNat_natCast, hk]
        simp [isNm, fresh_false l i l.length hi hc]
      | false =>
        rw [hc] at hh
        refine .inl ⟨(), by show (fresh l i && !((l.take i).contains (rd l (i : Int)))) = true; rw [hI, hc]; rfl, fun h => evCall hh (fun k hk => ?_) h⟩
        show impl_AreNames.l0 (k + 1) l l (l.length : Int) (i : Int) = impl_AreNames.l0 k l l (l.length : Int) (i + 1 : Nat)
        simp only [impl_AreNames.l0]
        rw [if_pos (by omega), if_pos (by omega), if_pos (by omega), if_pos (by omega), Int.toNat_natCast, hk, w64 (by omega) (by omega)]
        simp only [Option.bind_some, Bool.false_eq_true, if_false]
        rfl)
    (by
      intro s hI
      refine evEnd fun k => ?_
      show impl_AreNames.l0 (k + 1) l l (l.length : Int) (l.length : Int) = _
      simp only [impl_AreNames.l0]
      rw [if_neg (by omega)]
      unfold impl_isRingSize.f isNm
      simp only [within_eq, Option.bind_some, allWithin_eq]
      cases inB 2 12 (l.length : Int) <;> simp [hI])
  exact key
end Go.Proofs.Ytbiiklkkfkipeaa.X

/- Plain lemmas: how far a name is sent. -/
namespace Go.Proofs.Ytbiiklkkfkipeaa.X
set_option linter.unusedSimpArgs false
set_option linter.unusedVariables false
open Go.RowKit Go.Proofs.YtbiiklkkfkipeaaW.PrintWords
theorem tmod_shift (a n : Int) (hn : 0 < n) : Int.tmod (Int.tmod a n + n) n = a % n := by
  have h1 : 0 ≤ Int.tmod a n + n := by
    have := Int.lt_tmod_of_pos a hn
    omega
  rw [Int.tmod_eq_emod_of_nonneg h1]
  have h2 : Int.tmod a n = a - n * Int.tdiv a n := by
    have := Int.mul_tdiv_add_tmod a n
    omega
  rw [h2, show a - n * Int.tdiv a n + n = a + n * (1 - Int.tdiv a n) from by rw [Int.mul_sub]; omega, Int.add_mul_emod_self_left]
theorem tmod_bound (a n : Int) (hn : 0 < n) : -n < Int.tmod a n ∧ Int.tmod a n < n := ⟨Int.lt_tmod_of_pos a hn, Int.tmod_lt_of_pos a hn⟩
/-- The station that is k steps on. -/
def stn (l : List Int) (s step k : Int) : Int := (s + k * step) % (l.length : Int)
theorem stn_bound (l : List Int) (s step k : Int) (h : 0 < l.length) : 0 ≤ stn l s step k ∧ stn l s step k < l.length := by
  unfold stn
  exact ⟨Int.emod_nonneg _ (by omega), Int.emod_lt_of_pos _ (by omega)⟩
/-- At the k-th station from k on, at most n more: the first whose name is greater. -/
def rch (l : List Int) (s step most : Int) : Nat → Int → Int × Bool
  | 0, _ => (most, false)
  | n + 1, k => if rd l (stn l s step k) > rd l s then (k, true) else rch l s step most n (k + 1)
def far (l : List Int) (s step most : Int) : Int × Bool := rch l s step most most.toNat 1
theorem implReach_ev (l : List Int) (s step most : Int) (h0 : 0 ≤ s) (hs : s < l.length) (hl : l.length ≤ 1000) (hst : step = 1 ∨ step = -1) (h1 : 0 ≤ most) (h2 : most ≤ 1000) :
    Ev (fun k => impl_reach.f k l s step most) (far l s step most) := by
  have key := evUp0 most.toNat (fun k (_ : Unit) (i : Nat) => impl_reach.l0 k l s step most (l.length : Int) ((i : Int) + 1)) (fun i _ => rch l s step most (most.toNat - i) ((i : Int) + 1) = far l s step most) (far l s step most) () rfl
    (by
      intro i u hi hI
      have e : most.toNat - i = (most.toNat - (i + 1)) + 1 := by omega
      rw [e, rch] at hI
      have hb := stn_bound l s step ((i : Int) + 1) (by omega)
      have hm : wrap64 (((i : Int) + 1) * step) = ((i : Int) + 1) * step := by
        rcases hst with rfl | rfl
        · rw [Int.mul_one]; exact w64 (by omega) (by omega)
        · rw [show ((i : Int) + 1) * -1 = -((i : Int) + 1) from by omega]; exact w64 (by omega) (by omega)
      have hm2 : -2000 ≤ ((i : Int) + 1) * step ∧ ((i : Int) + 1) * step ≤ 2000 := by
        rcases hst with rfl | rfl <;> omega
      have hm3 : wrap64 (s + ((i : Int) + 1) * step) = s + ((i : Int) + 1) * step := w64 (by omega) (by omega)
      have ht := tmod_bound (s + ((i : Int) + 1) * step) (l.length : Int) (by omega)
      have hm4 : wrap64 (Int.tmod (s + ((i : Int) + 1) * step) (l.length : Int) + (l.length : Int)) = Int.tmod (s + ((i : Int) + 1) * step) (l.length : Int) + (l.length : Int) := w64 (by omega) (by omega)
      have hm5 := tmod_shift (s + ((i : Int) + 1) * step) (l.length : Int) (by omega)
      have hm6 : (s + ((i : Int) + 1) * step) % (l.length : Int) = stn l s step ((i : Int) + 1) := rfl
      by_cases hc : rd l (stn l s step ((i : Int) + 1)) > rd l s
      · rw [if_pos hc] at hI
        refine .inr (evEnd fun k => ?_)
        show impl_reach.l0 (k + 1) l s step most (l.length : Int) ((i : Int) + 1) = _
        simp only [impl_reach.l0]
        rw [hm, hm3, hm4, hm5, hm6, if_pos (by omega), if_neg (by omega), if_pos (by omega), if_pos (by omega), if_pos (by omega), if_pos (by omega), if_pos hc, hI]
      · rw [if_neg hc] at hI
        refine .inl ⟨(), hI, fun h => evNext (fun k => ?_) h⟩
        show impl_reach.l0 (k + 1) l s step most (l.length : Int) ((i : Int) + 1) = impl_reach.l0 k l s step most (l.length : Int) (((i + 1 : Nat) : Int) + 1)
        simp only [impl_reach.l0]
        rw [hm, hm3, hm4, hm5, hm6, if_pos (by omega), if_neg (by omega), if_pos (by omega), if_pos (by omega), if_pos (by omega), if_pos (by omega), if_neg hc, w64 (by omega) (by omega)]
        rfl)
    (by
      intro u hI
      refine evEnd fun k => ?_
      show impl_reach.l0 (k + 1) l s step most (l.length : Int) ((most.toNat : Int) + 1) = _
      simp only [impl_reach.l0]
      rw [if_neg (by omega), ← hI, Nat.sub_self]
      rfl)
  exact key
end Go.Proofs.Ytbiiklkkfkipeaa.X

/- PassedOn: the program and the reference come to the same. -/
namespace Go.Proofs.Ytbiiklkkfkipeaa.X
set_option linter.unusedSimpArgs false
set_option linter.unusedVariables false
open Go.RowKit Go.Proofs.YtbiiklkkfkipeaaW.PrintWords
/-- Over how many links the names of the first n stations are sent. -/
def passed (l : List Int) (n : Nat) : List Int := (List.range n).map (fun (s : Nat) => (far l (s : Int) 1 (l.length : Int)).1)
theorem passed_succ (l : List Int) (n : Nat) : passed l (n + 1) = passed l n ++ [(far l (n : Int) 1 (l.length : Int)).1] := by simp [passed, List.range_succ]
theorem passed_len (l : List Int) (n : Nat) : (passed l n).length = n := by simp [passed]
theorem rch_bound (l : List Int) (s step most : Int) : ∀ (n : Nat) (k : Int), 1 ≤ k → (n : Int) + k - 1 ≤ most → 0 ≤ most → (1 ≤ (rch l s step most n k).1 ∨ (rch l s step most n k).1 = most) ∧ (rch l s step most n k).1 ≤ most
  | 0, k, h1, h2, h3 => by simp [rch]
  | n + 1, k, h1, h2, h3 => by
    simp only [rch]
    split
    · exact ⟨.inl h1, by simp only; omega⟩
    · exact rch_bound l s step most n (k + 1) (by omega) (by omega) h3
theorem far_bound (l : List Int) (s step most : Int) (h : 1 ≤ most) : 1 ≤ (far l s step most).1 ∧ (far l s step most).1 ≤ most := by
  have := rch_bound l s step most most.toNat 1 (by omega) (by omega) (by omega)
  unfold far
  omega
theorem passed_bound (l : List Int) (h : 1 ≤ l.length) (n : Nat) : ∀ x ∈ passed l n, 1 ≤ x ∧ x ≤ l.length := by
  intro x hx
  unfold passed at hx
  obtain ⟨s, _, rfl⟩ := List.mem_map.1 hx
  exact far_bound l (s : Int) 1 (l.length : Int) (by omega)
theorem implPassed_ev (l : List Int) (hl : l.length ≤ 1000) : Ev (fun k => impl_passedOn.f k l) (passed l l.length) := by
  have key := evUp0 l.length (fun k (x : List Int) (i : Nat) => impl_passedOn.l0 k l x (l.length : Int) (i : Int)) (fun i x => x = passed l i) (passed l l.length) [] rfl
    (by
      intro i x hi hI
      have hlen := passed_len l i
      rw [← hI] at hlen
      have hr := implReach_ev l (i : Int) 1 (l.length : Int) (by omega) (by omega) hl (.inl rfl) (by omega) (by omega)
      refine .inl ⟨passed l (i + 1), rfl, fun h => evCall hr (fun k hk => ?_) h⟩
      show impl_passedOn.l0 (k + 1) l x (l.length : Int) (i : Int) = impl_passedOn.l0 k l (passed l (i + 1)) (l.length : Int) (i + 1 : Nat)
      simp only [impl_passedOn.l0]
      rw [if_pos (by omega), hk]
      simp only [Option.bind_some]
      rw [if_pos (by omega), w64 (by omega) (by omega), passed_succ, hI]
      rfl)
    (by
      intro x hI
      refine evEnd fun k => ?_
      show impl_passedOn.l0 (k + 1) l x (l.length : Int) (l.length : Int) = _
      simp only [impl_passedOn.l0]
      rw [if_neg (by omega), hI])
  exact key
theorem stn_one (l : List Int) (s k : Nat) : stn l (s : Int) 1 (k : Int) = (((s + k) % l.length : Nat) : Int) := by
  unfold stn
  rw [Int.mul_one]
  norm_cast
theorem mod_ne (s k n : Nat) (hs : s < n) (h1 : 1 ≤ k) (h2 : k < n) : (s + k) % n ≠ s := by
  intro e
  by_cases h : s + k < n
  · rw [Nat.mod_eq_of_lt h] at e
    omega
  · rw [Nat.mod_eq_sub_mod (by omega), Nat.mod_eq_of_lt (by omega)] at e
    omega
theorem specPassed_inner {l : List Int} (hf : fresh l l.length = true) (hl : l.length ≤ 1000) (s : Nat) (hs : s < l.length) (out : List Int) (ho : out.length ≤ 1000) (v : List Int)
    (h : Ev (fun k => spec_elPassed.l0 k l (l.length : Int) (out ++ [(far l (s : Int) 1 (l.length : Int)).1]) l (l.length : Int) ((s + 1 : Nat) : Int)) v) :
    Ev (fun k => spec_elPassed.l1 k l (l.length : Int) out (s : Int) (rd l (s : Int)) 1 l (l.length : Int) (s : Int)) v := by
  have key := evUp0 (l.length - 1) (fun k (_ : Unit) (i : Nat) => spec_elPassed.l1 k l (l.length : Int) out (s : Int) (rd l (s : Int)) ((i : Int) + 1) l (l.length : Int) (s : Int))
    (fun i _ => (rch l (s : Int) 1 (l.length : Int) (l.length - i) ((i : Int) + 1)).1 = (far l (s : Int) 1 (l.length : Int)).1) v () (by unfold far; simp)
    (by
      intro i u hi hI
      have e : l.length - i = (l.length - (i + 1)) + 1 := by omega
      rw [e, rch] at hI
      have hst : stn l (s : Int) 1 ((i : Int) + 1) = (((s + (i + 1)) % l.length : Nat) : Int) := stn_one l s (i + 1)
      have hlt : (s + (i + 1)) % l.length < l.length := Nat.mod_lt _ (by omega)
      have hne := fresh_ne hf hlt hs (mod_ne s (i + 1) l.length hs (by omega) (by omega))
      have hm : Int.tmod (wrap64 ((s : Int) + ((i : Int) + 1))) (l.length : Int) = (((s + (i + 1)) % l.length : Nat) : Int) := by
        rw [w64 (by omega) (by omega), Int.tmod_eq_emod_of_nonneg (by omega)]
        norm_cast
      rw [hst] at hI
      clear hst
      generalize (s + (i + 1)) % l.length = q at hlt hne hm hI
      by_cases hc : rd l ((q : Nat) : Int) < rd l (s : Int)
      · rw [if_neg (by omega)] at hI
        refine .inl ⟨(), hI, fun h => evNext (fun k => ?_) h⟩
        show spec_elPassed.l1 (k + 1) l (l.length : Int) out (s : Int) (rd l (s : Int)) ((i : Int) + 1) l (l.length : Int) (s : Int) = spec_elPassed.l1 k l (l.length : Int) out (s : Int) (rd l (s : Int)) (((i + 1 : Nat) : Int) + 1) l (l.length : Int) (s : Int)
        simp only [spec_elPassed.l1]
        rw [hm, if_pos (by omega), if_neg (by omega), if_pos (by omega), if_pos (by omega), if_pos hc, w64 (by omega) (by omega)]
        rfl
      · rw [if_pos (by omega)] at hI
        refine .inr (evNext (fun k => ?_) h)
        show spec_elPassed.l1 (k + 1) l (l.length : Int) out (s : Int) (rd l (s : Int)) ((i : Int) + 1) l (l.length : Int) (s : Int) = _
        simp only [spec_elPassed.l1]
        rw [hm, if_pos (by omega), if_neg (by omega), if_pos (by omega), if_pos (by omega), if_neg hc, if_pos (by omega), w64 (by omega) (by omega), ← hI]
        rfl)
    (by
      intro u hI
      have e : l.length - (l.length - 1) = 1 := by omega
      have e2 : ((l.length - 1 : Nat) : Int) + 1 = (l.length : Int) := by omega
      rw [e, e2] at hI
      have hst : stn l (s : Int) 1 (l.length : Int) = (s : Int) := by
        rw [stn_one, Nat.add_mod_right, Nat.mod_eq_of_lt hs]
      simp only [rch] at hI
      rw [hst, if_neg (by omega)] at hI
      refine evNext (fun k => ?_) h
      show spec_elPassed.l1 (k + 1) l (l.length : Int) out (s : Int) (rd l (s : Int)) (((l.length - 1 : Nat) : Int) + 1) l (l.length : Int) (s : Int) = _
      rw [e2]
      simp only [spec_elPassed.l1]
      rw [if_neg (by omega), if_pos (by omega), w64 (by omega) (by omega), ← hI]
      rfl)
  exact key
theorem specPassed_ev {l : List Int} (hf : fresh l l.length = true) (hl : l.length ≤ 1000) : Ev (fun k => spec_elPassed.f k l) (passed l l.length) := by
  have key := evUp0 l.length (fun k (x : List Int) (i : Nat) => spec_elPassed.l0 k l (l.length : Int) x l (l.length : Int) (i : Int)) (fun i x => x = passed l i) (passed l l.length) [] rfl
    (by
      intro i x hi hI
      have hlen := passed_len l i
      rw [← hI] at hlen
      refine .inl ⟨passed l (i + 1), rfl, fun h => evNext (fun k => ?_) (specPassed_inner hf hl i hi x (by omega) _ (by rw [hI, ← passed_succ]; exact h))⟩
      show spec_elPassed.l0 (k + 1) l (l.length : Int) x l (l.length : Int) (i : Int) = _
      simp only [spec_elPassed.l0]
      rw [if_pos (by omega), if_pos (by omega), if_pos (by omega)])
    (by
      intro x hI
      refine evEnd fun k => ?_
      show spec_elPassed.l0 (k + 1) l (l.length : Int) x l (l.length : Int) (l.length : Int) = _
      simp only [spec_elPassed.l0]
      rw [if_neg (by omega), hI])
  exact key
end Go.Proofs.Ytbiiklkkfkipeaa.X

/- PassedOn: the program and the reference come to the same. -/
namespace Go.Proofs.Ytbiiklkkfkipeaa.X
set_option linter.unusedSimpArgs false
set_option linter.unusedVariables false
open Go.RowKit Go.Proofs.YtbiiklkkfkipeaaW.PrintWords
end Go.Proofs.Ytbiiklkkfkipeaa.X

/- Plain lemmas: the sum of a list. -/
namespace Go.Proofs.Ytbiiklkkfkipeaa.X
set_option linter.unusedSimpArgs false
set_option linter.unusedVariables false
open Go.RowKit Go.Proofs.YtbiiklkkfkipeaaW.PrintWords
theorem sum_bound (B : Int) (hB : 0 ≤ B) : ∀ l : List Int, (∀ x ∈ l, -B ≤ x ∧ x ≤ B) → -(B * l.length) ≤ l.sum ∧ l.sum ≤ B * l.length
  | [], _ => by simp
  | x :: xs, h => by
    have h1 := h x (by simp)
    have h2 := sum_bound B hB xs (fun y hy => h y (by simp [hy]))
    rw [List.sum_cons, List.length_cons]
    have e : B * ((xs.length + 1 : Nat) : Int) = B * xs.length + B := by
      rw [Int.natCast_add, Int.mul_add]; simp
    rw [e]
    omega
theorem sumOf_ev (l : List Int) (hl : l.length ≤ 100000) (ha : ∀ x ∈ l, -1000000 ≤ x ∧ x ≤ 1000000) : Ev (fun k => impl_sumOf.f k l) l.sum := by
  have key := evUp0 l.length (fun k (s : Int) (i : Nat) => impl_sumOf.l0 k s l (l.length : Int) (i : Int)) (fun i s => s = (l.take i).sum) l.sum 0 (by simp)
    (by
      intro i s hi hI
      have hx := ha _ (List.getElem_mem hi)
      have hb := sum_bound 1000000 (by omega) (l.take i) (fun x hx => ha x (List.mem_of_mem_take hx))
      have hlt : (l.take i).length ≤ 100000 := by simp; omega
      have hs1 : -100000000000 ≤ s ∧ s ≤ 100000000000 := by rw [hI]; omega
      refine .inl ⟨s + l[i], ?_, fun h => evNext (fun k => ?_) h⟩
      · rw [List.take_succ_eq_append_getElem hi, List.sum_append, hI]
        simp
      · show impl_sumOf.l0 (k + 1) s l (l.length : Int) (i : Int) = impl_sumOf.l0 k (s + l[i]) l (l.length : Int) (i + 1 : Nat)
        simp only [impl_sumOf.l0]
        rw [if_pos (by omega), if_pos (by omega), if_pos (by omega), rd_at l i hi, w64 (by omega) (by omega), w64 (by omega) (by omega)]
        rfl)
    (by
      intro s hI
      refine evEnd fun k => ?_
      show impl_sumOf.l0 (k + 1) s l (l.length : Int) (l.length : Int) = _
      simp only [impl_sumOf.l0]
      rw [if_neg (by omega), hI, List.take_length])
  exact key
end Go.Proofs.Ytbiiklkkfkipeaa.X

/- SimpleMessages: the program and the reference come to the same. -/
namespace Go.Proofs.Ytbiiklkkfkipeaa.X
set_option linter.unusedSimpArgs false
set_option linter.unusedVariables false
open Go.RowKit Go.Proofs.YtbiiklkkfkipeaaW.PrintWords
end Go.Proofs.Ytbiiklkkfkipeaa.X

/- WinnerOf: the program and the reference come to the same. -/
namespace Go.Proofs.Ytbiiklkkfkipeaa.X
set_option linter.unusedSimpArgs false
set_option linter.unusedVariables false
open Go.RowKit Go.Proofs.YtbiiklkkfkipeaaW.PrintWords
/-- The first of the first n stations with the greatest name. -/
def top (l : List Int) : Nat → Nat
  | 0 => 0
  | n + 1 => if rd l (n : Int) > rd l ((top l n : Nat) : Int) then n else top l n
theorem maxTo_top (l : List Int) : ∀ n, maxTo l n = rd l ((top l n : Nat) : Int)
  | 0 => rfl
  | n + 1 => by
    simp only [maxTo, top, maxTo_top l n]
    split <;> rfl
theorem top_lt (l : List Int) (h : 0 < l.length) : ∀ n, n ≤ l.length → top l n < l.length
  | 0, _ => h
  | n + 1, hn => by
    simp only [top]
    split
    · omega
    · exact top_lt l h n (by omega)
theorem top_ge (l : List Int) : ∀ n i : Nat, i < n → rd l (i : Int) ≤ rd l ((top l n : Nat) : Int)
  | 0, i, h => by omega
  | n + 1, i, h => by
    simp only [top]
    by_cases e : i = n
    · subst e
      split <;> omega
    · have := top_ge l n i (by omega)
      split <;> omega
theorem specWinner_ev (l : List Int) (h0 : 0 < l.length) (hl : l.length ≤ 1048576) : Ev (fun k => spec_elWinner.f k l) ((top l l.length : Nat) : Int) := by
  have key := evUp0 l.length (fun k (s : Nat) (i : Nat) => spec_elWinner.l0 k l (s : Int) l (l.length : Int) (i : Int)) (fun i s => s = top l i) ((top l l.length : Nat) : Int) 0 rfl
    (by
      intro i s hi hI
      have ht := top_lt l h0 i (by omega)
      rw [← hI] at ht
      refine .inl ⟨top l (i + 1), rfl, fun h => evNext (fun k => ?_) h⟩
      show spec_elWinner.l0 (k + 1) l (s : Int) l (l.length : Int) (i : Int) = spec_elWinner.l0 k l ((top l (i + 1) : Nat) : Int) l (l.length : Int) ((i + 1 : Nat) : Int)
      simp only [spec_elWinner.l0]
      rw [if_pos (by omega), if_pos (by omega), if_pos (by omega), if_pos (by omega), if_pos (by omega), w64 (by omega) (by omega)]
      simp only [top, ← hI]
      split <;> rfl)
    (by
      intro s hI
      refine evEnd fun k => ?_
      show spec_elWinner.l0 (k + 1) l (s : Int) l (l.length : Int) (l.length : Int) = _
      simp only [spec_elWinner.l0]
      rw [if_neg (by omega), hI])
  exact key
theorem indexAt_ev (l : List Int) (t : Nat) (ht : t < l.length) (hl : l.length ≤ 1048576) (hn : ∀ i : Nat, i < t → rd l (t : Int) ≠ rd l (i : Int)) : Ev (fun k => slices_Index_int_int.f k l (rd l (t : Int))) (t : Int) := by
  have key := evUp0 t (fun k (_ : Unit) (i : Nat) => slices_Index_int_int.l0 k l (rd l (t : Int)) (l.length : Int) (i : Int)) (fun _ _ => True) (t : Int) () trivial
    (by
      intro i s hi _
      refine .inl ⟨(), trivial, fun h => evNext (fun k => ?_) h⟩
      show slices_Index_int_int.l0 (k + 1) l (rd l (t : Int)) (l.length : Int) (i : Int) = slices_Index_int_int.l0 k l (rd l (t : Int)) (l.length : Int) ((i + 1 : Nat) : Int)
      simp only [slices_Index_int_int.l0]
      rw [if_pos (by omega), if_pos (by omega), if_pos (by omega), if_neg (hn i hi), w64 (by omega) (by omega)]
      rfl)
    (by
      intro s _
      refine evEnd fun k => ?_
      show slices_Index_int_int.l0 (k + 1) l (rd l (t : Int)) (l.length : Int) (t : Int) = _
      simp only [slices_Index_int_int.l0]
      rw [if_pos (by omega), if_pos (by omega), if_pos (by omega), if_pos trivial])
  exact key
theorem implWinner_ev (l : List Int) (h0 : 0 < l.length) (hl : l.length ≤ 1048576) (hf : fresh l l.length = true) : Ev (fun k => impl_winner.f k l) ((top l l.length : Nat) : Int) := by
  have ht := top_lt l h0 l.length (Nat.le_refl _)
  obtain ⟨K, e⟩ := indexAt_ev l (top l l.length) ht hl (fun i hi => fresh_ne hf ht (by omega) (by omega))
  dsimp only at e
  refine ⟨K, fun k hk => ?_⟩
  have hM : slices_Max_int_int.f l = some (rd l ((top l l.length : Nat) : Int)) := by
    unfold slices_Max_int_int.f
    rw [if_neg (by omega), maxTo_top]
  show impl_winner.f k l = _
  unfold impl_winner.f
  rw [hM]
  simp only [Option.bind_some]
  rw [e k hk]
  rfl
end Go.Proofs.Ytbiiklkkfkipeaa.X

/- BestNames: the answers at 2 to 6 stations, computed by the kernel. -/
namespace Go.Proofs.Ytbiiklkkfkipeaa.X
set_option linter.unusedSimpArgs false
set_option linter.unusedVariables false
open Go.RowKit Go.Proofs.YtbiiklkkfkipeaaW.PrintWords
set_option maxRecDepth 100000
theorem sBestNames2 : spec_BestNames.f 800 2 = some ([0, 1], true) := by decide +kernel
theorem iBestNames2 : impl_BestNames.f 100 2 = some ([0, 1], true) := by decide +kernel
theorem sBestNames3 : spec_BestNames.f 800 3 = some ([0, 1, 2], true) := by decide +kernel
theorem iBestNames3 : impl_BestNames.f 100 3 = some ([0, 1, 2], true) := by decide +kernel
theorem sBestNames4 : spec_BestNames.f 800 4 = some ([0, 1, 2, 3], true) := by decide +kernel
theorem iBestNames4 : impl_BestNames.f 100 4 = some ([0, 1, 2, 3], true) := by decide +kernel
theorem sBestNames5 : spec_BestNames.f 800 5 = some ([0, 1, 2, 3, 4], true) := by decide +kernel
theorem iBestNames5 : impl_BestNames.f 100 5 = some ([0, 1, 2, 3, 4], true) := by decide +kernel
theorem sBestNames6 : spec_BestNames.f 800 6 = some ([0, 1, 2, 3, 4, 5], true) := by decide +kernel
theorem iBestNames6 : impl_BestNames.f 100 6 = some ([0, 1, 2, 3, 4, 5], true) := by decide +kernel
end Go.Proofs.Ytbiiklkkfkipeaa.X

/- WorstNames: the answers at 2 to 6 stations, computed by the kernel. -/
namespace Go.Proofs.Ytbiiklkkfkipeaa.X
set_option linter.unusedSimpArgs false
set_option linter.unusedVariables false
open Go.RowKit Go.Proofs.YtbiiklkkfkipeaaW.PrintWords
set_option maxRecDepth 100000
/-- A function that tells once tells from there on. -/
theorem ev_mono {α : Type} {g : Nat → Option α} {r : α} (K : Nat) (h : g K = some r) (hm : ∀ k, LeO (g k) (g (k + 1))) : Ev g r := by
  refine ⟨K, fun n hn => ?_⟩
  induction n with
  | zero => obtain rfl : K = 0 := by omega
            exact h
  | succ n ih =>
    rcases Nat.lt_or_ge n K with h1 | h1
    · obtain rfl : K = n + 1 := by omega
      exact h
    · exact hm n _ (ih h1)
theorem sWorstNames2 : spec_WorstNames.f 800 2 = some ([0, 1], true) := by decide +kernel
theorem iWorstNames2 : impl_WorstNames.f 100 2 = some ([0, 1], true) := by decide +kernel
theorem sWorstNames3 : spec_WorstNames.f 800 3 = some ([0, 2, 1], true) := by decide +kernel
theorem iWorstNames3 : impl_WorstNames.f 100 3 = some ([0, 2, 1], true) := by decide +kernel
theorem sWorstNames4 : spec_WorstNames.f 800 4 = some ([0, 3, 2, 1], true) := by decide +kernel
theorem iWorstNames4 : impl_WorstNames.f 100 4 = some ([0, 3, 2, 1], true) := by decide +kernel
theorem sWorstNames5 : spec_WorstNames.f 800 5 = some ([0, 4, 3, 2, 1], true) := by decide +kernel
theorem iWorstNames5 : impl_WorstNames.f 100 5 = some ([0, 4, 3, 2, 1], true) := by decide +kernel
theorem sWorstNames6 : spec_WorstNames.f 800 6 = some ([0, 5, 4, 3, 2, 1], true) := by decide +kernel
theorem iWorstNames6 : impl_WorstNames.f 100 6 = some ([0, 5, 4, 3, 2, 1], true) := by decide +kernel
end Go.Proofs.Ytbiiklkkfkipeaa.X

/- Elections over drawn names: what the functions come to, and how the numbers of links lie. -/
namespace Go.Proofs.Ytbiiklkkfkipeaa.X
set_option linter.unusedSimpArgs false
set_option linter.unusedVariables false
open Go.RowKit Go.Proofs.YtbiiklkkfkipeaaW.PrintWords
theorem areNames_spec (l : List Int) (h : l.length ≤ 1048576) : Ev (fun k => spec_AreNames.f k l) (isNm l) := evEq (Ev.bind (specNames_ev l h) (Ev.now _)) rfl
def electV (l : List Int) : List Int × Bool := if isNm l then (passed l l.length, true) else ([], false)
def electS (l : List Int) : Int × Bool := if isNm l then ((passed l l.length).sum, true) else (0, false)
def electW (l : List Int) : Int × Bool := if isNm l then (((top l l.length : Nat) : Int), true) else (0, false)
theorem elect_passed (l : List Int) (h : l.length ≤ 1048576) : Ev (fun k => spec_PassedOn.f k l) (electV l) ∧ Ev (fun k => impl_PassedOn.f k l) (electV l) := by
  obtain ⟨K, e⟩ := specNames_ev l h
  obtain ⟨K', e'⟩ := implNames_ev l h
  dsimp only at e e'
  unfold electV
  cases hk : isNm l with
  | true =>
    rw [hk] at e e'
    have hb := isNm_iff hk
    obtain ⟨K1, e1⟩ := specPassed_ev hb.2.2.2 (by omega)
    obtain ⟨K2, e2⟩ := implPassed_ev l (by omega)
    dsimp only at e1 e2
    refine ⟨⟨K + K1 + 9, fun n hn => ?_⟩, ⟨K' + K2 + 9, fun n hn => ?_⟩⟩
    · simp (disch := omega) only [spec_PassedOn.f, e, e1, Option.bind_some, if_true]
    · simp (disch := omega) only [impl_PassedOn.f, e', e2, Option.bind_some, if_true]
  | false =>
    rw [hk] at e e'
    refine ⟨⟨K + 9, fun n hn => ?_⟩, ⟨K' + 9, fun n hn => ?_⟩⟩
    · simp (disch := omega) [spec_PassedOn.f, e]
    · simp (disch := omega) [impl_PassedOn.f, e']
theorem elect_sum (l : List Int) (h : l.length ≤ 1048576) : Ev (fun k => impl_SimpleMessages.f k l) (electS l) := by
  obtain ⟨K', e'⟩ := implNames_ev l h
  dsimp only at e'
  unfold electS
  cases hk : isNm l with
  | true =>
    rw [hk] at e'
    have hb := isNm_iff hk
    obtain ⟨K2, e2⟩ := implPassed_ev l (by omega)
    have hp := passed_bound l (by omega) l.length
    have hpl := passed_len l l.length
    obtain ⟨K4, e4⟩ := sumOf_ev (passed l l.length) (by omega) (fun x hx => by have := hp x hx; omega)
    dsimp only at e2 e4
    refine ⟨K' + K2 + K4 + 9, fun n hn => ?_⟩
    simp (disch := omega) only [impl_SimpleMessages.f, e', e2, e4, Option.bind_some, if_true]
  | false =>
    rw [hk] at e'
    refine ⟨K' + 9, fun n hn => ?_⟩
    simp (disch := omega) [impl_SimpleMessages.f, e']
theorem elect_winner (l : List Int) (h : l.length ≤ 1048576) : Ev (fun k => spec_WinnerOf.f k l) (electW l) ∧ Ev (fun k => impl_WinnerOf.f k l) (electW l) := by
  obtain ⟨K, e⟩ := specNames_ev l h
  obtain ⟨K', e'⟩ := implNames_ev l h
  dsimp only at e e'
  unfold electW
  cases hk : isNm l with
  | true =>
    rw [hk] at e e'
    have hb := isNm_iff hk
    obtain ⟨K1, e1⟩ := specWinner_ev l (by omega) (by omega)
    obtain ⟨K2, e2⟩ := implWinner_ev l (by omega) (by omega) hb.2.2.2
    dsimp only at e1 e2
    refine ⟨⟨K + K1, fun n hn => ?_⟩, ⟨K' + K2, fun n hn => ?_⟩⟩
    · simp (disch := omega) only [spec_WinnerOf.f, e, e1, Option.bind_some, if_true]
    · simp (disch := omega) only [impl_WinnerOf.f, e', e2, Option.bind_some, if_true]
  | false =>
    rw [hk] at e e'
    refine ⟨⟨K + 9, fun n hn => ?_⟩, ⟨K' + 9, fun n hn => ?_⟩⟩
    · simp (disch := omega) [spec_WinnerOf.f, e]
    · simp (disch := omega) [impl_WinnerOf.f, e']
/-! ## the number of links of each name -/
theorem rch_low (l : List Int) (s step most : Int) : ∀ (n : Nat) (k : Int), (n : Int) + k - 1 = most → ∀ j : Int, k ≤ j → j < (rch l s step most n k).1 → rd l (stn l s step j) ≤ rd l s
  | 0, k, hm, j, h1, h2 => by simp only [rch] at h2; omega
  | n + 1, k, hm, j, h1, h2 => by
    simp only [rch] at h2
    split at h2
    · simp only at h2; omega
    · by_cases e : j = k
      · subst e; omega
      · exact rch_low l s step most n (k + 1) (by omega) j (by omega) h2
theorem rch_at (l : List Int) (s step most : Int) : ∀ (n : Nat) (k : Int), (n : Int) + k - 1 = most → (rch l s step most n k).1 < most → rd l s < rd l (stn l s step (rch l s step most n k).1)
  | 0, k, hm, h => by simp only [rch] at h; omega
  | n + 1, k, hm, h => by
    simp only [rch] at h ⊢
    split at h
    · rename_i hc
      rw [if_pos hc]
      exact hc
    · rename_i hc
      rw [if_neg hc]
      exact rch_at l s step most n (k + 1) (by omega) h
/-- Over how many links the name of station i is sent. -/
def links (l : List Int) (i : Nat) : Int := (far l (i : Int) 1 (l.length : Int)).1
theorem links_le (l : List Int) (h : 1 ≤ l.length) (i : Nat) : 1 ≤ links l i ∧ links l i ≤ l.length := far_bound l (i : Int) 1 (l.length : Int) (by omega)
theorem links_low (l : List Int) (i j : Nat) (h1 : 1 ≤ j) (h2 : (j : Int) < links l i) : rd l (((i + j) % l.length : Nat) : Int) ≤ rd l (i : Int) := by
  have h := rch_low l (i : Int) 1 (l.length : Int) (l.length : Int).toNat 1 (by omega) (j : Int) (by omega) h2
  rwa [stn_one] at h
theorem links_at (l : List Int) (i : Nat) (h0 : 1 ≤ l.length) (h : links l i < l.length) : rd l (i : Int) < rd l (((i + (links l i).toNat) % l.length : Nat) : Int) := by
  have hb := links_le l h0 i
  have h := rch_at l (i : Int) 1 (l.length : Int) (l.length : Int).toNat 1 (by omega) h
  have e : (rch l (i : Int) 1 (l.length : Int) (l.length : Int).toNat 1).1 = (((links l i).toNat : Nat) : Int) := by
    show links l i = _
    omega
  rw [e, stn_one] at h
  exact h
theorem passed_rd (l : List Int) (i : Nat) (h : i < l.length) : rd (passed l l.length) (i : Int) = links l i := by
  rw [rd_at _ i (by rw [passed_len]; exact h)]
  unfold passed
  rw [List.getElem_map, List.getElem_range]
  rfl
theorem top_gt {l : List Int} (hf : fresh l l.length = true) (h0 : 0 < l.length) (i : Nat) (hi : i < l.length) (hne : i ≠ top l l.length) : rd l (i : Int) < rd l ((top l l.length : Nat) : Int) := by
  have h1 := top_ge l l.length i hi
  have h2 := fresh_ne hf hi (top_lt l h0 l.length (Nat.le_refl _)) hne
  omega
/-- The name with the most goes round; each other one is stopped at the latest there. -/
theorem links_top {l : List Int} (h0 : 0 < l.length) : links l (top l l.length) = l.length := by
  have hb := links_le l h0 (top l l.length)
  by_cases h : links l (top l l.length) < l.length
  · have h1 := links_at l _ h0 h
    have h2 := top_ge l l.length ((top l l.length + (links l (top l l.length)).toNat) % l.length) (Nat.mod_lt _ h0)
    omega
  · omega
/-- The distance from station i to the top. -/
def way (n t i : Nat) : Nat := if i = t then n else (t + n - i) % n
theorem way_lt (n t i : Nat) (ht : t < n) (hi : i < n) (hne : i ≠ t) : 1 ≤ way n t i ∧ way n t i < n ∧ (i + way n t i) % n = t := by
  unfold way
  rw [if_neg hne]
  by_cases h : i < t
  · have e : (t + n - i) % n = t - i := by
      rw [show t + n - i = (t - i) + n from by omega, Nat.add_mod_right, Nat.mod_eq_of_lt (by omega)]
    rw [e]
    exact ⟨by omega, by omega, by rw [show i + (t - i) = t from by omega, Nat.mod_eq_of_lt ht]⟩
  · have e : (t + n - i) % n = t + n - i := Nat.mod_eq_of_lt (by omega)
    rw [e]
    exact ⟨by omega, by omega, by rw [show i + (t + n - i) = t + n from by omega, Nat.add_mod_right, Nat.mod_eq_of_lt ht]⟩
theorem links_way {l : List Int} (hf : fresh l l.length = true) (h0 : 0 < l.length) (i : Nat) (hi : i < l.length) : links l i ≤ (way l.length (top l l.length) i : Nat) := by
  have ht := top_lt l h0 l.length (Nat.le_refl _)
  by_cases e : i = top l l.length
  · rw [e, links_top h0]
    unfold way
    rw [if_pos rfl]
    omega
  · have hw := way_lt l.length (top l l.length) i ht hi e
    have hg := top_gt hf h0 i hi e
    by_cases h : links l i ≤ ((way l.length (top l l.length) i : Nat) : Int)
    · exact h
    · have h1 := links_low l i (way l.length (top l l.length) i) hw.1 (by omega)
      rw [hw.2.2] at h1
      omega
theorem links_all {l : List Int} (hf : fresh l l.length = true) (h0 : 0 < l.length) (i : Nat) (hi : i < l.length) : (links l i = l.length ↔ i = top l l.length) := by
  constructor
  · intro h
    by_cases e : i = top l l.length
    · exact e
    · have hw := way_lt l.length (top l l.length) i (top_lt l h0 l.length (Nat.le_refl _)) hi e
      have := links_way hf h0 i hi
      omega
  · rintro rfl
    exact links_top h0
theorem sum_le {f g : Nat → Int} : ∀ n : Nat, (∀ i, i < n → f i ≤ g i) → ((List.range n).map f).sum ≤ ((List.range n).map g).sum
  | 0, _ => by simp
  | n + 1, h => by
    have h1 := sum_le n (fun i hi => h i (by omega))
    have h2 := h n (by omega)
    rw [List.range_succ, List.map_append, List.map_append, List.sum_append, List.sum_append]
    simp only [List.map_cons, List.map_nil, List.sum_cons, List.sum_nil]
    omega
theorem way_sum : ∀ n, n < 13 → ∀ t, t < n → ((List.range n).map (fun i => ((way n t i : Nat) : Int))).sum = (n : Int) * (n + 1) / 2 := by decide +kernel
theorem low_sum : ∀ n, n < 13 → ∀ t, t < n → ((List.range n).map (fun i => if i = t then (n : Int) else 1)).sum = 2 * (n : Int) - 1 := by decide +kernel
theorem passed_sum {l : List Int} (h : isNm l = true) : 2 * (l.length : Int) - 1 ≤ (passed l l.length).sum ∧ (passed l l.length).sum ≤ (l.length : Int) * (l.length + 1) / 2 := by
  have hb := isNm_iff h
  have h0 : 0 < l.length := by omega
  have ht := top_lt l h0 l.length (Nat.le_refl _)
  have e : passed l l.length = (List.range l.length).map (fun i => links l i) := rfl
  rw [e, ← way_sum l.length (by omega) _ ht, ← low_sum l.length (by omega) _ ht]
  refine ⟨sum_le _ fun i hi => ?_, sum_le _ fun i hi => links_way hb.2.2.2 h0 i hi⟩
  by_cases c : i = top l l.length
  · rw [if_pos c, c, links_top h0]
    exact Int.le_refl _
  · rw [if_neg c]
    exact (links_le l h0 i).1
/-! ## the law's own words -/
theorem zSame_ev (l : List Int) (hl : l.length ≤ 1048576) : Ev (fun k => laws_zSame.f k l l) true := by
  have key := evUp0 l.length (fun k (_ : Unit) (i : Nat) => laws_zSame.l0 k l l (l.length : Int) (i : Int)) (fun _ _ => True) true () trivial
    (by
      intro i s hi hI
      refine .inl ⟨(), trivial, fun h => evNext (fun k => ?_) h⟩
      show laws_zSame.l0 (k + 1) l l (l.length : Int) (i : Int) = laws_zSame.l0 k l l (l.length : Int) ((i + 1 : Nat) : Int)
      simp only [laws_zSame.l0]
      rw [if_pos (by omega), if_pos (by omega), if_pos (by omega), if_pos (by omega), if_pos trivial, w64 (by omega) (by omega)]
      rfl)
    (by
      intro s hI
      refine evEnd fun k => ?_
      show laws_zSame.l0 (k + 1) l l (l.length : Int) (l.length : Int) = _
      simp only [laws_zSame.l0]
      rw [if_neg (by omega)])
  exact Ev.congr (fun k => by unfold laws_zSame.f; rw [if_pos rfl]; rfl) key
theorem zSum_ev (l : List Int) (hl : l.length ≤ 100000) (ha : ∀ x ∈ l, -1000000 ≤ x ∧ x ≤ 1000000) : Ev (fun k => laws_zSum.f k l) l.sum := by
  have key := evUp0 l.length (fun k (s : Int) (i : Nat) => laws_zSum.l0 k s l (l.length : Int) (i : Int)) (fun i s => s = (l.take i).sum) l.sum 0 (by simp)
    (by
      intro i s hi hI
      have hx := ha _ (List.getElem_mem hi)
      have hb := sum_bound 1000000 (by omega) (l.take i) (fun x hx => ha x (List.mem_of_mem_take hx))
      have hlt : (l.take i).length ≤ 100000 := by simp; omega
      have hs1 : -100000000000 ≤ s ∧ s ≤ 100000000000 := by rw [hI]; omega
      refine .inl ⟨s + l[i], ?_, fun h => evNext (fun k => ?_) h⟩
      · rw [List.take_succ_eq_append_getElem hi, List.sum_append, hI]
        simp
      · show laws_zSum.l0 (k + 1) s l (l.length : Int) (i : Int) = laws_zSum.l0 k (s + l[i]) l (l.length : Int) (i + 1 : Nat)
        simp only [laws_zSum.l0]
        rw [if_pos (by omega), if_pos (by omega), if_pos (by omega), rd_at l i hi, w64 (by omega) (by omega), w64 (by omega) (by omega)]
        rfl)
    (by
      intro s hI
      refine evEnd fun k => ?_
      show laws_zSum.l0 (k + 1) s l (l.length : Int) (l.length : Int) = _
      simp only [laws_zSum.l0]
      rw [if_neg (by omega), hI, List.take_length])
  exact key
end Go.Proofs.Ytbiiklkkfkipeaa.X

/- Plain lemmas: drawing names from bytes comes to some names. -/
namespace Go.Proofs.Ytbiiklkkfkipeaa.X
set_option linter.unusedSimpArgs false
set_option linter.unusedVariables false
open Go.RowKit Go.Proofs.YtbiiklkkfkipeaaW.PrintWords
theorem wrap_u64_63 (n : Int) (h₀ : 0 ≤ n) (h₁ : n < 2 ^ 63) : IntKind.u64.wrap n = n := by rw [IntKind.wrap_u64]; omega
theorem byte_of (x : Int) : 0 ≤ wrap64 (Go.bits .and .u64 (IntKind.u64.wrap x / 1099511627776) 255) ∧ wrap64 (Go.bits .and .u64 (IntKind.u64.wrap x / 1099511627776) 255) ≤ 255 := by
  have hx : 0 ≤ IntKind.u64.wrap x ∧ IntKind.u64.wrap x < 18446744073709551616 := by rw [IntKind.wrap_u64]; omega
  have h := bits_mask .u64 63 (by decide) wrap_u64_63 8 (by decide) (IntKind.u64.wrap x / 1099511627776) (by omega) (by omega)
  have e : ((2 : Int) ^ 8 - 1) = 255 := by decide
  have e2 : ((2 : Int) ^ 8) = 256 := by decide
  rw [e, e2] at h
  rw [h, w64 (by omega) (by omega)]
  omega
def Bytes (c : List Int) : Prop := c.length ≤ 1048576 ∧ ∀ i : Nat, i < c.length → 0 ≤ rd c (i : Int) ∧ rd c (i : Int) ≤ 255
theorem next_ok {c : List Int} (hc : Bytes c) (a s : Int) (h0 : 0 ≤ a) (h1 : a ≤ 10000) : ∃ v s', spec_l1Cur_next.f c a s = some (v, a + 1, s') ∧ 0 ≤ v ∧ v ≤ 255 := by
  unfold spec_l1Cur_next.f
  have ew := Aside0.mk (show wrap64 (a + 1) = a + 1 from w64 (by omega) (by omega))
  rw [ew.out]
  by_cases h : a < (c.length : Int)
  · have hb := hc.2 a.toNat (by omega)
    rw [Int.toNat_of_nonneg h0] at hb
    rw [if_pos h, if_pos h0, if_pos (by omega)]
    have eb := Aside0.mk (show wrap64 (rd c a) = rd c a from w64 (by omega) (by omega))
    refine ⟨_, _, rfl, ?_, ?_⟩ <;> rw [eb.out] <;> omega
  · rw [if_neg h, if_neg (by omega)]
    have hb := byte_of ((IntKind.u64.wrap ((IntKind.u64.wrap (s * 6364136223846793005)) + 0)) + 1442695040888963407)
    exact ⟨_, _, rfl, hb.1, hb.2⟩
theorem pick_ok {c : List Int} (hc : Bytes c) (a s n : Int) (h0 : 0 ≤ a) (h1 : a ≤ 9000) : ∃ v a' s', spec_l1Cur_pick.f c a s n = some (v, a', s') ∧ a ≤ a' ∧ a' ≤ a + 2 ∧ 0 ≤ v ∧ (1 ≤ n → v < n) ∧ v ≤ 100000 := by
  unfold spec_l1Cur_pick.f
  by_cases h : n ≤ 1
  · rw [if_pos h]
    exact ⟨0, a, s, rfl, by omega, by omega, by omega, by omega, by omega⟩
  · rw [if_neg h]
    obtain ⟨v1, s1, e1, b1, b2⟩ := next_ok hc a s h0 (by omega)
    rw [e1]
    simp only [Option.bind_some]
    by_cases h2 : n > 200
    · rw [if_pos h2]
      obtain ⟨v2, s2, e2, b3, b4⟩ := next_ok hc (a + 1) s1 (by omega) (by omega)
      rw [e2]
      simp only [Option.bind_some]
      have ex := Aside0.mk (show wrap64 (wrap64 (v1 * 256) + v2) = v1 * 256 + v2 from by rw [w64 (x := v1 * 256) (by omega) (by omega), w64 (by omega) (by omega)])
      rw [if_neg (by omega), ex.out, Int.tmod_eq_emod_of_nonneg (by omega)]
      have hm := Int.emod_lt_of_pos (v1 * 256 + v2) (show 0 < n by omega)
      have hm0 := Int.emod_nonneg (v1 * 256 + v2) (show n ≠ 0 by omega)
      have hm1 : (v1 * 256 + v2) % n ≤ v1 * 256 + v2 := by
        by_cases hq : v1 * 256 + v2 < n
        · rw [Int.emod_eq_of_lt (by omega) hq]; omega
        · omega
      exact ⟨_, _, _, rfl, by omega, by omega, hm0, fun _ => hm, by omega⟩
    · rw [if_neg h2, if_neg (by omega), Int.tmod_eq_emod_of_nonneg (by omega)]
      have hm := Int.emod_lt_of_pos v1 (show 0 < n by omega)
      have hm0 := Int.emod_nonneg v1 (show n ≠ 0 by omega)
      exact ⟨_, _, _, rfl, by omega, by omega, hm0, fun _ => hm, by omega⟩
theorem among_ok {c : List Int} (hc : Bytes c) (a s : Int) (h0 : 0 ≤ a) (h1 : a ≤ 9000) (l : List Int) (hl : 1 ≤ l.length) : ∃ v a' s', spec_l1Cur_among.f c a s l = some (v, a', s') ∧ a ≤ a' ∧ a' ≤ a + 2 ∧ v ∈ l := by
  obtain ⟨v, a', s', e, b1, b2, b3, b4, _⟩ := pick_ok hc a s (l.length : Int) h0 h1
  unfold spec_l1Cur_among.f
  rw [e]
  simp only [Option.bind_some]
  have := b4 (by omega)
  rw [if_pos b3, if_pos this]
  refine ⟨_, _, _, rfl, b1, b2, ?_⟩
  obtain ⟨i, rfl⟩ := Int.eq_ofNat_of_zero_le b3
  rw [rd_at l i (by omega)]
  exact List.getElem_mem _
/-- Names as they may be drawn. -/
def Drawn (l : List Int) : Prop := 1 ≤ l.length ∧ l.length ≤ 13 ∧ ∀ x ∈ l, -1 ≤ x ∧ x ≤ 4611686018427387904
theorem own_ok (l : List Int) (h : l.length ≤ 1000) : spec_l1Own.f l = some l := by
  unfold spec_l1Own.f
  simp only [Option.bind_some, List.length_nil]
  rw [if_pos (by omega), List.nil_append]
theorem names_end {c : List Int} (hc : Bytes c) (n st : Int) (hn : n ≤ 12) (x : List Int) (a s : Int) (h0 : 0 ≤ a) (h1 : a ≤ 8000) (hx1 : 1 ≤ x.length) (hx2 : x.length ≤ 12) (hx3 : ∀ y ∈ x, -1 ≤ y ∧ y ≤ 4611686018427387904) (i : Int) (hi : ¬ i < n) : ∃ r a' s', Drawn r ∧ ∀ k, spec_l1Cur_names.l0 (k + 1) n x st i c a s = some (r, a', s') := by
  obtain ⟨v, a1, s1, e1, b1, b2, b3, b4, _⟩ := pick_ok hc a s 16 h0 (by omega)
  by_cases q0 : v = 0
  · obtain ⟨v2, a2, s2, e2, d1, d2, d3, d4, _⟩ := pick_ok hc a1 s1 (x.length : Int) (by omega) (by omega)
    obtain ⟨v3, a3, s3, e3, f1, f2, f3⟩ := among_ok hc a2 s2 (by omega) (by omega) [(-1), 999, 1000, 4611686018427387904] (by simp)
    refine ⟨x.set v2.toNat v3, a3, s3, ⟨by rw [List.length_set]; exact hx1, by rw [List.length_set]; omega, fun y hy => ?_⟩, fun k => ?_⟩
    · rcases List.mem_or_eq_of_mem_set hy with h | h
      · exact hx3 y h
      · subst h
        simp only [List.mem_cons, List.not_mem_nil, or_false] at f3
        rcases f3 with h | h | h | h <;> omega
    · rw [spec_l1Cur_names.l0, if_neg hi, e1]; simp only [Option.bind_some]; rw [if_pos q0, e2]
      simp only [Option.bind_some]
      rw [e3]
      simp only [Option.bind_some]
      rw [if_pos d3, if_pos (d4 (by omega))]
  · by_cases q1 : v = 1
    · refine ⟨x ++ [rd x 0], a1, s1, ⟨by simp, by simp; omega, fun y hy => ?_⟩, fun k => ?_⟩
      · rcases List.mem_append.1 hy with h | h
        · exact hx3 y h
        · rw [List.mem_singleton] at h
          have e : rd x 0 = x[0] := rd_at x 0 (by omega)
          rw [h, e]
          exact hx3 _ (List.getElem_mem _)
      · rw [spec_l1Cur_names.l0, if_neg hi, e1]; simp only [Option.bind_some]; rw [if_neg q0, if_pos q1, if_pos (by omega), if_pos (by omega)]
    · by_cases q2 : v = 2
      · refine ⟨x.take 1, a1, s1, ⟨by rw [List.length_take]; omega, by rw [List.length_take]; omega, fun y hy => hx3 y (List.mem_of_mem_take hy)⟩, fun k => ?_⟩
        rw [spec_l1Cur_names.l0, if_neg hi, e1]; simp only [Option.bind_some]; rw [if_neg q0, if_neg q1, if_pos q2, if_pos (by omega)]
        rfl
      · refine ⟨x, a1, s1, ⟨hx1, by omega, hx3⟩, fun k => ?_⟩
        rw [spec_l1Cur_names.l0, if_neg hi, e1]; simp only [Option.bind_some]; rw [if_neg q0, if_neg q1, if_neg q2]
theorem names_loop {c : List Int} (hc : Bytes c) (n st : Int) (hn0 : 1 ≤ n) (hn : n ≤ 12) (hst : 0 ≤ st ∧ st ≤ 40) : ∀ (d : Nat) (i : Nat) (x : List Int) (a s : Int), (i : Int) + d = n → x.length = i → (∀ y ∈ x, -1 ≤ y ∧ y ≤ 4611686018427387904) → 0 ≤ a → a ≤ 100 + 2 * i →
    ∃ r a' s', Drawn r ∧ Ev (fun k => spec_l1Cur_names.l0 k n x st (i : Int) c a s) (r, a', s')
  | 0, i, x, a, s, hd, hx, hy, h0, h1 => by
    obtain ⟨r, a', s', hr, hk⟩ := names_end hc n st hn x a s h0 (by omega) (by omega) (by omega) hy (i : Int) (by omega)
    exact ⟨r, a', s', hr, evEnd hk⟩
  | d + 1, i, x, a, s, hd, hx, hy, h0, h1 => by
    obtain ⟨v, a1, s1, e1, b1, b2, b3, b4, _⟩ := pick_ok hc a s ((i : Int) + 1) h0 (by omega)
    have b5 := b4 (by omega)
    have hmul : 0 ≤ (i : Int) * st ∧ (i : Int) * st ≤ 480 := by
      refine ⟨Int.mul_nonneg (by omega) hst.1, ?_⟩
      have := Int.mul_le_mul (show (i : Int) ≤ 12 by omega) hst.2 hst.1 (by omega)
      omega
    obtain ⟨y, hyy⟩ : ∃ y, (i : Int) * st = y := ⟨_, rfl⟩
    have ew := Aside0.mk (show wrap64 (wrap64 ((i : Int) * st) + (i : Int)) = y + (i : Int) from by rw [hyy, w64 (x := y) (by omega) (by omega), w64 (by omega) (by omega)])
    have ei := Aside0.mk (show wrap64 ((i : Int) + 1) = (i : Int) + 1 from w64 (by omega) (by omega))
    have hl1 : (x.take v.toNat ++ [y + (i : Int)] ++ x.drop v.toNat).length = i + 1 := by simp; omega
    obtain ⟨r, a', s', hr, hk⟩ := names_loop hc n st hn0 hn hst d (i + 1) (x.take v.toNat ++ [y + (i : Int)] ++ x.drop v.toNat) a1 s1 (by omega) hl1 (fun z hz => by
      rcases List.mem_append.1 hz with h | h
      · rcases List.mem_append.1 h with h | h
        · exact hy z (List.mem_of_mem_take h)
        · rw [List.mem_singleton] at h
          omega
      · exact hy z (List.mem_of_mem_drop h)) (by omega) (by omega)
    refine ⟨r, a', s', hr, evNext (fun k => ?_) hk⟩
    rw [spec_l1Cur_names.l0, if_pos (by omega), ei.out, e1]
    simp only [Option.bind_some]
    rw [if_pos b3, if_pos (by omega), own_ok _ (by rw [List.length_take]; omega)]
    simp only [Option.bind_some]
    rw [if_pos (by rw [List.length_take]; omega), ew.out, if_pos (by simp; omega)]
    rfl
theorem draw_names {c : List Int} (hc : Bytes c) : ∃ r, Drawn r ∧ Ev (fun k => spec_DrawAreNames.f k c) r := by
  obtain ⟨n, a1, s1, e1, b1, b2, b3⟩ := among_ok hc 0 0 (by omega) (by omega) [2, 3, 4, 5, 6, 7, 8, 12] (by simp)
  obtain ⟨st, a2, s2, e2, d1, d2, d3, d4, _⟩ := pick_ok hc a1 s1 40 (by omega) (by omega)
  have hn : 1 ≤ n ∧ n ≤ 12 := by
    simp only [List.mem_cons, List.not_mem_nil, or_false] at b3
    omega
  obtain ⟨r, a', s', hr, K, hk⟩ := names_loop hc n st hn.1 hn.2 ⟨d3, by have := d4 (by omega); omega⟩ n.toNat 0 [] a2 s2 (by omega) rfl (by simp) (by omega) (by omega)
  refine ⟨r, hr, K, fun k h => ?_⟩
  show spec_DrawAreNames.f k c = _
  unfold spec_DrawAreNames.f spec_l1Cur_names.f
  rw [e1]
  simp only [Option.bind_some]
  rw [e2]
  simp only [Option.bind_some]
  have hk' : spec_l1Cur_names.l0 k n [] st 0 c a2 s2 = some (r, a', s') := hk k h
  rw [hk']
  rfl
end Go.Proofs.Ytbiiklkkfkipeaa.X

/- The law of elections' end: its loops. -/
namespace Go.Proofs.Ytbiiklkkfkipeaa.X
set_option linter.unusedSimpArgs false
set_option linter.unusedVariables false
open Go.RowKit Go.Proofs.YtbiiklkkfkipeaaW.PrintWords
set_option maxRecDepth 100000
theorem big_cases (l0 l1 : List Int) : laws_big.f l0 l1 = some true ∨ (laws_big.f l0 l1 = some false ∧ l0.length ≤ 1048576 ∧ l1.length ≤ 1048576) := by
  unfold laws_big.f
  by_cases h : (l0.length : Int) > 1048576
  · exact .inl (by rw [if_pos h])
  · rw [if_neg h, w64 (by omega) (by omega)]
    by_cases h2 : (l1.length : Int) > 1048576 - (l0.length : Int)
    · exact .inl (by rw [decide_eq_true h2])
    · exact .inr ⟨by rw [decide_eq_false h2], by omega, by omega⟩
theorem seven_at (m : Int) (hm : m ∈ [2, 3, 4, 5, 6, 9, 12, 13, (1 : Int)]) :
    ((impl_SumOfMessages.f 2500 m).bind fun bt702 => ((spec_SumOfMessages.f 2500 m).bind fun bt704 => (if (bt702.2 != bt704.2) = true then (laws_FnElectionsEnd.j8 2500 m bt702.1 bt702.2 true) else (laws_FnElectionsEnd.j8 2500 m bt702.1 bt702.2 (bt702.1 != bt704.1))))) = some true := by
  simp only [List.mem_cons, List.not_mem_nil, or_false] at hm
  rcases hm with rfl | rfl | rfl | rfl | rfl | rfl | rfl | rfl | rfl <;> decide +kernel
theorem seven_ev {c : List Int} (hc : Bytes c) : Ev (fun k => laws_FnElectionsEnd.j7 k c) true := by
  obtain ⟨m, a', s', e, _, _, hm⟩ := among_ok hc 0 0 (by omega) (by omega) [2, 3, 4, 5, 6, 9, 12, 13, 1] (by simp)
  have eD : spec_DrawSumOfMessages.f c = some m := by
    unfold spec_DrawSumOfMessages.f
    rw [e]
    rfl
  refine ev_mono 2501 ?_ (fun k => (laws_FnElectionsEnd.mono_l k).2.2.2.1 c)
  rw [laws_FnElectionsEnd.j7, eD]
  simp only [Option.bind_some]
  exact seven_at m hm
theorem six_ev {c : List Int} (hc : Bytes c) (m : Int) (w b : List Int) (t : Bool) (hw : w.length ≤ 1000) (hb : b.length ≤ 1000)
    (h : t = true → electS w = (wrap64 (Int.tdiv (wrap64 (m * (wrap64 (m + 1)))) 2), true) ∧ electS b = (wrap64 ((wrap64 (2 * m)) - 1), true)) :
    Ev (fun k => laws_FnElectionsEnd.j6 k c m w t b false) true := by
  have h7 := seven_ev hc
  cases t with
  | false => exact evNext (fun k => by rw [laws_FnElectionsEnd.j6]; simp) h7
  | true =>
    obtain ⟨e1, e2⟩ := h rfl
    obtain ⟨K1, k1⟩ := elect_sum w (by omega)
    obtain ⟨K2, k2⟩ := elect_sum b (by omega)
    obtain ⟨K3, k3⟩ := h7
    refine ⟨K1 + K2 + K3 + 1, fun n hn => ?_⟩
    obtain ⟨n, rfl⟩ : ∃ q, n = q + 1 := ⟨n - 1, by omega⟩
    have k1 := k1 n (by omega)
    have k2 := k2 n (by omega)
    have k3 := k3 n (by omega)
    dsimp only at k1 k2 k3
    show laws_FnElectionsEnd.j6 (n + 1) c m w true b false = some true
    rw [laws_FnElectionsEnd.j6, if_neg (by simp), if_pos rfl, k1, e1]
    simp only [Option.bind_some]
    rw [k2, e2]
    simp only [Option.bind_some]
    rw [if_pos trivial, if_pos trivial, if_pos trivial, if_pos trivial, k3]
/-- Worst and best names of so many stations. -/
theorem worst_best (m : Int) (hm : m ∈ [2, 3, 4, 5, 6, 1, 7, (-1 : Int)]) : ∃ W B : List Int × Bool,
    Ev (fun k => impl_WorstNames.f k m) W ∧ Ev (fun k => spec_WorstNames.f k m) W ∧ Ev (fun k => impl_BestNames.f k m) B ∧ Ev (fun k => spec_BestNames.f k m) B ∧ W.1.length ≤ 1000 ∧ B.1.length ≤ 1000 ∧ 
    (W.2 = true → electS W.1 = (wrap64 (Int.tdiv (wrap64 (m * (wrap64 (m + 1)))) 2), true) ∧ electS B.1 = (wrap64 ((wrap64 (2 * m)) - 1), true)) := by
  have hno : inB 2 6 m = false → (∃ W B : List Int × Bool,
    Ev (fun k => impl_WorstNames.f k m) W ∧ Ev (fun k => spec_WorstNames.f k m) W ∧ Ev (fun k => impl_BestNames.f k m) B ∧ Ev (fun k => spec_BestNames.f k m) B ∧ W.1.length ≤ 1000 ∧ B.1.length ≤ 1000 ∧ 
    (W.2 = true → electS W.1 = (wrap64 (Int.tdiv (wrap64 (m * (wrap64 (m + 1)))) 2), true) ∧ electS B.1 = (wrap64 ((wrap64 (2 * m)) - 1), true))) := fun h => ⟨([], false), ([], false), ⟨9, fun n hn => by simp [impl_WorstNames.f, impl_bestNames.f, within_eq, h]⟩, ⟨9, fun n hn => by simp [spec_WorstNames.f, l1In_eq, h]⟩,
    ⟨9, fun n hn => by simp [impl_BestNames.f, impl_bestNames.f, within_eq, h]⟩, ⟨9, fun n hn => by simp [spec_BestNames.f, l1In_eq, h]⟩, by simp, by simp, by simp⟩
  simp only [List.mem_cons, List.not_mem_nil, or_false] at hm
  rcases hm with rfl | rfl | rfl | rfl | rfl | rfl | rfl | rfl
  · exact ⟨_, _, ev_mono 100 iWorstNames2 (impl_WorstNames.mono _), ev_mono 800 sWorstNames2 (spec_WorstNames.mono _), ev_mono 100 iBestNames2 (impl_BestNames.mono _), ev_mono 800 sBestNames2 (spec_BestNames.mono _), by simp, by simp, fun _ => by decide +kernel⟩
  · exact ⟨_, _, ev_mono 100 iWorstNames3 (impl_WorstNames.mono _), ev_mono 800 sWorstNames3 (spec_WorstNames.mono _), ev_mono 100 iBestNames3 (impl_BestNames.mono _), ev_mono 800 sBestNames3 (spec_BestNames.mono _), by simp, by simp, fun _ => by decide +kernel⟩
  · exact ⟨_, _, ev_mono 100 iWorstNames4 (impl_WorstNames.mono _), ev_mono 800 sWorstNames4 (spec_WorstNames.mono _), ev_mono 100 iBestNames4 (impl_BestNames.mono _), ev_mono 800 sBestNames4 (spec_BestNames.mono _), by simp, by simp, fun _ => by decide +kernel⟩
  · exact ⟨_, _, ev_mono 100 iWorstNames5 (impl_WorstNames.mono _), ev_mono 800 sWorstNames5 (spec_WorstNames.mono _), ev_mono 100 iBestNames5 (impl_BestNames.mono _), ev_mono 800 sBestNames5 (spec_BestNames.mono _), by simp, by simp, fun _ => by decide +kernel⟩
  · exact ⟨_, _, ev_mono 100 iWorstNames6 (impl_WorstNames.mono _), ev_mono 800 sWorstNames6 (spec_WorstNames.mono _), ev_mono 100 iBestNames6 (impl_BestNames.mono _), ev_mono 800 sBestNames6 (spec_BestNames.mono _), by simp, by simp, fun _ => by decide +kernel⟩
  · exact hno rfl
  · exact hno rfl
  · exact hno rfl
theorem five_ev {c : List Int} (hc : Bytes c) : Ev (fun k => laws_FnElectionsEnd.j5 k c) true := by
  obtain ⟨m, a', s', e, _, _, hm⟩ := among_ok hc 0 0 (by omega) (by omega) [2, 3, 4, 5, 6, 1, 7, -1] (by simp)
  have eD : spec_DrawWorstNames.f c = some m := by
    unfold spec_DrawWorstNames.f
    rw [e]
    rfl
  obtain ⟨⟨W, t⟩, ⟨B, u⟩, ⟨K1, k1⟩, ⟨K2, k2⟩, ⟨K3, k3⟩, ⟨K4, k4⟩, hw, hb, hs⟩ := worst_best m hm
  obtain ⟨K5, k5⟩ := zSame_ev W (by simp only at hw; omega)
  obtain ⟨K6, k6⟩ := zSame_ev B (by simp only at hb; omega)
  obtain ⟨K7, k7⟩ := six_ev hc m W B t hw hb hs
  refine ⟨K1 + K2 + K3 + K4 + K5 + K6 + K7 + 1, fun n hn => ?_⟩
  obtain ⟨n, rfl⟩ : ∃ q, n = q + 1 := ⟨n - 1, by omega⟩
  have k1 := k1 n (by omega)
  have k2 := k2 n (by omega)
  have k3 := k3 n (by omega)
  have k4 := k4 n (by omega)
  have k5 := k5 n (by omega)
  have k6 := k6 n (by omega)
  have k7 := k7 n (by omega)
  dsimp only at k1 k2 k3 k4 k5 k6 k7
  show laws_FnElectionsEnd.j5 (n + 1) c = some true
  rw [laws_FnElectionsEnd.j5, eD]
  simp only [Option.bind_some]
  rw [k1]
  simp only [Option.bind_some]
  rw [k2]
  simp only [Option.bind_some]
  rw [k3]
  simp only [Option.bind_some]
  rw [k4]
  simp only [Option.bind_some, bne_self_eq_false, Bool.false_eq_true, ↓reduceIte]
  rw [k5]
  simp only [Option.bind_some, ↓reduceIte]
  rw [k6]
  simp only [Option.bind_some, Bool.not_true]
  exact k7
/-- The numbers of links, one after the other. -/
theorem rounds_ev {c : List Int} (hc : Bytes c) {l : List Int} (h : isNm l = true) :
    Ev (fun k => laws_FnElectionsEnd.l0 k c l (passed l l.length).sum ((top l l.length : Nat) : Int) (l.length : Int) (passed l l.length) ((passed l l.length).length : Int) 0) true := by
  have hb := isNm_iff h
  have h0 : 0 < l.length := by omega
  have hs := passed_sum h
  rw [passed_len]
  have hw : wrap64 (Int.tdiv (wrap64 ((l.length : Int) * (wrap64 ((l.length : Int) + 1)))) 2) = (l.length : Int) * (l.length + 1) / 2 := by
    have h12 := hb.2.1
    generalize l.length = n at h12
    have key : ∀ n : Nat, n < 13 → wrap64 (Int.tdiv (wrap64 ((n : Int) * (wrap64 ((n : Int) + 1)))) 2) = (n : Int) * (n + 1) / 2 := by decide +kernel
    exact key n (by omega)
  have hl : wrap64 (wrap64 (2 * (l.length : Int)) - 1) = 2 * (l.length : Int) - 1 := by rw [w64 (x := 2 * (l.length : Int)) (by omega) (by omega), w64 (by omega) (by omega)]
  have hw := Aside0.mk hw
  have hl := Aside0.mk hl
  refine evUp0 l.length (fun k (_ : Unit) (i : Nat) => laws_FnElectionsEnd.l0 k c l (passed l l.length).sum ((top l l.length : Nat) : Int) (l.length : Int) (passed l l.length) (l.length : Int) (i : Int)) (fun _ _ => True) true () trivial ?_ ?_
  · intro i _ hi _
    have hp := links_le l (by omega) i
    have hall := links_all hb.2.2.2 h0 i hi
    refine .inl ⟨(), trivial, fun hk => ?_⟩
    have ei := Aside0.mk (show wrap64 ((i : Int) + 1) = ((i + 1 : Nat) : Int) from by rw [w64 (by omega) (by omega)]; rfl)
    have inner := evUp0 ((links l i).toNat - 1) (fun k (_ : Unit) (j : Nat) => laws_FnElectionsEnd.l1 k c l (passed l l.length).sum ((top l l.length : Nat) : Int) (l.length : Int) (i : Int) (links l i) ((j : Int) + 1) (passed l l.length) (l.length : Int) (i : Int)) (fun _ _ => True) true () trivial
      (by
        intro j _ hj _
        refine .inl ⟨(), trivial, fun hk => evNext (f := fun k => laws_FnElectionsEnd.j4 k c l (passed l l.length).sum ((top l l.length : Nat) : Int) (l.length : Int) (i : Int) (links l i) ((j : Int) + 1) (passed l l.length) (l.length : Int) (i : Int) true) (fun k => ?_) (evNext (fun k => ?_) hk)⟩
        · show laws_FnElectionsEnd.l1 (k + 1) c l (passed l l.length).sum ((top l l.length : Nat) : Int) (l.length : Int) (i : Int) (links l i) ((j : Int) + 1) (passed l l.length) (l.length : Int) (i : Int) = _
          rw [laws_FnElectionsEnd.l1, if_pos (by omega), decide_eq_true (by omega)]
        · show laws_FnElectionsEnd.j4 (k + 1) c l (passed l l.length).sum ((top l l.length : Nat) : Int) (l.length : Int) (i : Int) (links l i) ((j : Int) + 1) (passed l l.length) (l.length : Int) (i : Int) true = laws_FnElectionsEnd.l1 k c l (passed l l.length).sum ((top l l.length : Nat) : Int) (l.length : Int) (i : Int) (links l i) (((j + 1 : Nat) : Int) + 1) (passed l l.length) (l.length : Int) (i : Int)
          have hlow := links_low l i (j + 1) (by omega) (by omega)
          have hq : Int.tmod (wrap64 ((i : Int) + ((j : Int) + 1))) (l.length : Int) = (((i + (j + 1)) % l.length : Nat) : Int) := by
            rw [w64 (by omega) (by omega), Int.tmod_eq_emod_of_nonneg (by omega)]
            norm_cast
          have hlt : (i + (j + 1)) % l.length < l.length := Nat.mod_lt _ h0
          have ej := Aside0.mk (show wrap64 ((j : Int) + 1 + 1) = (((j + 1 : Nat) : Int) + 1) from by rw [w64 (by omega) (by omega)]; omega)
          rw [laws_FnElectionsEnd.j4, hq, ej.out]
          generalize (i + (j + 1)) % l.length = q at hlt hlow
          rw [if_pos rfl, if_neg (by omega), if_pos (by omega), if_pos (by omega), if_pos (by omega), if_pos (by omega), if_neg (by omega)])
      (by
        intro _ _
        refine evNext (f := fun k => laws_FnElectionsEnd.j4 k c l (passed l l.length).sum ((top l l.length : Nat) : Int) (l.length : Int) (i : Int) (links l i) ((((links l i).toNat - 1 : Nat) : Int) + 1) (passed l l.length) (l.length : Int) (i : Int) false) (fun k => ?_) (evNext (fun k => ?_) hk)
        · show laws_FnElectionsEnd.l1 (k + 1) c l (passed l l.length).sum ((top l l.length : Nat) : Int) (l.length : Int) (i : Int) (links l i) ((((links l i).toNat - 1 : Nat) : Int) + 1) (passed l l.length) (l.length : Int) (i : Int) = _
          rw [laws_FnElectionsEnd.l1, if_neg (by omega)]
        · show laws_FnElectionsEnd.j4 (k + 1) c l (passed l l.length).sum ((top l l.length : Nat) : Int) (l.length : Int) (i : Int) (links l i) ((((links l i).toNat - 1 : Nat) : Int) + 1) (passed l l.length) (l.length : Int) (i : Int) false = _
          rw [laws_FnElectionsEnd.j4, if_neg (by simp), ei.out])
    refine evNext (f := fun k => laws_FnElectionsEnd.j2 k c l (passed l l.length).sum ((top l l.length : Nat) : Int) (l.length : Int) (i : Int) (links l i) (passed l l.length) (l.length : Int) (i : Int) false) (fun k => ?_) (evNext (fun k => ?_) inner)
    · show laws_FnElectionsEnd.l0 (k + 1) c l (passed l l.length).sum ((top l l.length : Nat) : Int) (l.length : Int) (passed l l.length) (l.length : Int) (i : Int) = _
      have hpl := passed_len l l.length
      have hne : ((links l i == (l.length : Int)) != ((i : Int) == ((top l l.length : Nat) : Int))) = false := by
        by_cases e : i = top l l.length
        · rw [beq_iff_eq.mpr (hall.2 e), beq_iff_eq.mpr (by omega)]
          rfl
        · rw [beq_false_of_ne (fun h => e (hall.1 h)), beq_false_of_ne (by omega)]
          rfl
      rw [laws_FnElectionsEnd.l0, if_pos (by omega), if_pos (by omega), if_pos (by omega), passed_rd l i hi, hne, if_neg (by simp), if_neg (by omega)]
      by_cases hlt : links l i < (l.length : Int)
      · have hat := links_at l i (by omega) hlt
        have hq : Int.tmod (wrap64 ((i : Int) + links l i)) (l.length : Int) = (((i + (links l i).toNat) % l.length : Nat) : Int) := by
          rw [w64 (by omega) (by omega), Int.tmod_eq_emod_of_nonneg (by omega), show (i : Int) + links l i = ((i + (links l i).toNat : Nat) : Int) from by omega]
          norm_cast
        have hql : (i + (links l i).toNat) % l.length < l.length := Nat.mod_lt _ h0
        rw [if_pos hlt, hq]
        generalize (i + (links l i).toNat) % l.length = q at hql hat
        rw [if_neg (by omega), if_pos (by omega), if_pos (by omega), if_pos (by omega), decide_eq_false (by omega)]
      · rw [if_neg hlt]
    · show laws_FnElectionsEnd.j2 (k + 1) c l (passed l l.length).sum ((top l l.length : Nat) : Int) (l.length : Int) (i : Int) (links l i) (passed l l.length) (l.length : Int) (i : Int) false = _
      rw [laws_FnElectionsEnd.j2, if_neg (by simp)]
      rfl
  · intro _ _
    refine evNext (fun k => ?_) (five_ev hc)
    show laws_FnElectionsEnd.l0 (k + 1) c l (passed l l.length).sum ((top l l.length : Nat) : Int) (l.length : Int) (passed l l.length) (l.length : Int) (l.length : Int) = _
    rw [laws_FnElectionsEnd.l0, if_neg (by omega), hl.out, hw.out, if_neg (by omega), if_neg (by omega)]
theorem law_ev {c d : List Int} (hc : Bytes c) (hd : Bytes d) (hbig : laws_big.f c d = some false) : ∃ k, laws_FnElectionsEnd.f k c d = some true := by
  obtain ⟨r, hr, Kd, kd⟩ := draw_names hc
  have hlen : r.length ≤ 1048576 := by have := hr.2.1; omega
  obtain ⟨⟨K1, k1⟩, ⟨K2, k2⟩⟩ := elect_passed r hlen
  obtain ⟨K3, k3⟩ := elect_sum r hlen
  obtain ⟨⟨K4, k4⟩, ⟨K5, k5⟩⟩ := elect_winner r hlen
  obtain ⟨K6, k6⟩ := areNames_spec r hlen
  obtain ⟨K7, k7⟩ := implNames_ev r hlen
  have hVl : (electV r).1.length ≤ 1000 := by
    unfold electV
    split
    · simp only [passed_len]; have := hr.2.1; omega
    · simp
  have hVb : ∀ x ∈ (electV r).1, -1000000 ≤ x ∧ x ≤ 1000000 := by
    unfold electV
    split
    · intro x hx
      have := passed_bound r (by have := hr.1; omega) r.length x hx
      have := hr.2.1
      omega
    · simp
  obtain ⟨K8, k8⟩ := zSame_ev (electV r).1 (by omega)
  obtain ⟨K9, k9⟩ := zSum_ev (electV r).1 (by omega) hVb
  have h0 : Ev (fun k => laws_FnElectionsEnd.j0 k d r (electV r).1 (isNm r) (electV r).1.sum (electW r).1 false) true := by
    unfold electV electW
    cases hn : isNm r with
    | true => exact evNext (fun k => by rw [laws_FnElectionsEnd.j0]; simp) (rounds_ev hd hn)
    | false => exact evNext (fun k => by rw [laws_FnElectionsEnd.j0]; simp) (five_ev hd)
  obtain ⟨K0, k0⟩ := h0
  have hV2 : (electV r).2 = isNm r := by unfold electV; cases isNm r <;> rfl
  have hW2 : (electW r).2 = isNm r := by unfold electW; cases isNm r <;> rfl
  have hS : electS r = ((electV r).1.sum, isNm r) := by unfold electS electV; cases isNm r <;> rfl
  refine ⟨Kd + K0 + K1 + K2 + K3 + K4 + K5 + K6 + K7 + K8 + K9, ?_⟩
  have kd := kd (Kd + K0 + K1 + K2 + K3 + K4 + K5 + K6 + K7 + K8 + K9) (by omega)
  have k0 := k0 (Kd + K0 + K1 + K2 + K3 + K4 + K5 + K6 + K7 + K8 + K9) (by omega)
  have k1 := k1 (Kd + K0 + K1 + K2 + K3 + K4 + K5 + K6 + K7 + K8 + K9) (by omega)
  have k2 := k2 (Kd + K0 + K1 + K2 + K3 + K4 + K5 + K6 + K7 + K8 + K9) (by omega)
  have k3 := k3 (Kd + K0 + K1 + K2 + K3 + K4 + K5 + K6 + K7 + K8 + K9) (by omega)
  have k4 := k4 (Kd + K0 + K1 + K2 + K3 + K4 + K5 + K6 + K7 + K8 + K9) (by omega)
  have k5 := k5 (Kd + K0 + K1 + K2 + K3 + K4 + K5 + K6 + K7 + K8 + K9) (by omega)
  have k6 := k6 (Kd + K0 + K1 + K2 + K3 + K4 + K5 + K6 + K7 + K8 + K9) (by omega)
  have k7 := k7 (Kd + K0 + K1 + K2 + K3 + K4 + K5 + K6 + K7 + K8 + K9) (by omega)
  have k8 := k8 (Kd + K0 + K1 + K2 + K3 + K4 + K5 + K6 + K7 + K8 + K9) (by omega)
  have k9 := k9 (Kd + K0 + K1 + K2 + K3 + K4 + K5 + K6 + K7 + K8 + K9) (by omega)
  generalize Kd + K0 + K1 + K2 + K3 + K4 + K5 + K6 + K7 + K8 + K9 = K at *
  dsimp only at kd k0 k1 k2 k3 k4 k5 k6 k7 k8 k9
  rw [hS] at k3
  unfold laws_FnElectionsEnd.f spec_DrawPassedOn.f
  rw [hbig]
  simp only [Option.bind_some, Bool.false_eq_true, ↓reduceIte]
  rw [kd]
  simp only [Option.bind_some]
  rw [k2]
  simp only [Option.bind_some]
  rw [k1]
  simp only [Option.bind_some]
  rw [k3]
  simp only [Option.bind_some]
  rw [k5]
  simp only [Option.bind_some]
  rw [k4]
  simp only [Option.bind_some, hV2, hW2, bne_self_eq_false, Bool.false_eq_true, ↓reduceIte]
  rw [k8]
  simp only [Option.bind_some, ↓reduceIte]
  rw [k9]
  simp only [Option.bind_some, ↓reduceIte]
  rw [k7]
  simp only [Option.bind_some, bne_self_eq_false, Bool.false_eq_true, ↓reduceIte]
  rw [k6]
  simp only [Option.bind_some, bne_self_eq_false]
  exact k0
end Go.Proofs.Ytbiiklkkfkipeaa.X

/- Elections end: the pure statement. -/
namespace Go.Proofs.Ytbiiklkkfkipeaa.Pure
set_option linter.unusedSimpArgs false
set_option linter.unusedVariables false
open Go.RowKit Go.Proofs.Ytbiiklkkfkipeaa.X Go.Proofs.YtbiiklkkfkipeaaW.PrintWords Go.Proofs.YtbiiklkkfkipeaaW.PrintLast
theorem bytes_of {c : List Int} (hl : c.length ≤ 1048576) (h : ∀ x ∈ c, (Lit.int .u8 x).wf = true) : Bytes c := by
  refine ⟨hl, fun i hi => ?_⟩
  have hx := h _ (List.getElem_mem hi)
  rw [rd_at c i hi]
  have hh : IntKind.u8.min ≤ c[i] ∧ c[i] ≤ IntKind.u8.max := by simpa [Lit.wf] using hx
  have e1 : IntKind.u8.min = 0 := by decide
  have e2 : IntKind.u8.max = 255 := by decide
  omega
theorem FnElectionsEnd : ∀ (l0 : List Int) (l1 : List Int), l0.length ≤ maxLen → l0.length * 1 ≤ 140737488351232 → (∀ x ∈ l0, (Lit.int .u8 x).wf = true) → l1.length ≤ maxLen → l1.length * 1 ≤ 140737488351232 → (∀ x ∈ l1, (Lit.int .u8 x).wf = true) → ∃ k, laws_FnElectionsEnd.f k l0 l1 = some true := by
  intro l0 l1 _ _ h0 _ _ h1
  rcases big_cases l0 l1 with hb | ⟨hb, b0, b1⟩
  · refine ⟨0, ?_⟩
    unfold laws_FnElectionsEnd.f
    rw [hb]
    rfl
  · exact law_ev (bytes_of b0 h0) (bytes_of b1 h1) hb
end Go.Proofs.Ytbiiklkkfkipeaa.Pure

/- Plain lemmas for the rows: a slice of structs of three whole numbers that came in, opened to cells. -/
namespace Go.Proofs.Ytbiiklkkfkipeaa.Rw
open Go.ChangeShapes Go.WideShapes Go.Deep Go.RowKit
section
variable {H : Type} {enc : TypeId × Value → H} {P : Program} {w : World} {base : Nat} {spare : Nat → Bool} {held : Bool}
end
end Go.Proofs.Ytbiiklkkfkipeaa.Rw
