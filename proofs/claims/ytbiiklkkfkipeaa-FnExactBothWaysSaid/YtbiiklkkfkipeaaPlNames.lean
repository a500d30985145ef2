/- Plain lemmas: names. AreNames: the program and the reference come to the same. -/
import Derived.Test.YtbiiklkkfkipeaaPlAll
import Derived.Test.YtbiiklkkfkipeaaPlHas
import Derived.Test.YtbiiklkkfkipeaaX4
import Derived.Test.YtbiiklkkfkipeaaX3
import Derived.Test.YtbiiklkkfkipeaaX5
import Derived.Test.YtbiiklkkfkipeaaX8
import Derived.Test.YtbiiklkkfkipeaaX6
namespace Go.Proofs.Ytbiiklkkfkipeaa.X
set_option linter.unusedSimpArgs false
set_option linter.unusedVariables false
open Go.RowKit Go.Proofs.YtbiiklkkfkipeaaW.PrintWords
theorem l1Has_ev (l : List Int) (n : Int) (hl : l.length ≤ 9223372036854775806) : Ev (fun k => spec_l1Has.f k l n) (l.contains n) := by
  have key := evUp0 l.length (fun k (_ : Unit) (i : Nat) => spec_l1Has.l0 k n l (l.length : Int) (i : Int)) (fun i _ => (l.drop i).contains n = l.contains n) (l.contains n) () rfl
    (by
      intro i s hi hI
      rw [List.drop_eq_getElem_cons hi, List.contains_cons] at hI
      by_cases e : l[i] = n
      · refine .inr (evEnd fun k => ?_)
        show spec_l1Has.l0 (k + 1) n l (l.length : Int) (i : Int) = _
        simp only [spec_l1Has.l0]
        rw [if_pos (by omega), if_pos (by omega), if_pos (by omega), rd_at l i hi, if_pos e, ← hI, e]
        simp
      · refine .inl ⟨(), ?_, fun h => evNext (fun k => ?_) h⟩
        · have : (n == l[i]) = false := by simpa using fun h => e h.symm
          rw [this, Bool.false_or] at hI
          exact hI
        · show spec_l1Has.l0 (k + 1) n l (l.length : Int) (i : Int) = spec_l1Has.l0 k n l (l.length : Int) (i + 1 : Nat)
          simp only [spec_l1Has.l0]
          rw [if_pos (by omega), if_pos (by omega), if_pos (by omega), rd_at l i hi, if_neg e, w64 (by omega) (by omega)]
          rfl)
    (by
      intro s hI
      rw [List.drop_length] at hI
      refine evEnd fun k => ?_
      show spec_l1Has.l0 (k + 1) n l (l.length : Int) (l.length : Int) = _
      simp only [spec_l1Has.l0]
      rw [if_neg (by omega), ← hI]
      simp)
  exact key
/-- No number of l[i:n] stands before in l. -/
def fresh (l : List Int) : Nat → Bool
  | 0 => true
  | n + 1 => fresh l n && !((l.take n).contains (rd l (n : Int)))
theorem fresh_step (l : List Int) (n : Nat) (h : n < l.length) (hf : fresh l l.length = true) : (l.take n).contains (rd l (n : Int)) = false := by
  have : ∀ m, n < m → fresh l m = true → (l.take n).contains (rd l (n : Int)) = false := by
    intro m
    induction m with
    | zero => intro h; omega
    | succ m ih =>
      intro h1 h2
      simp only [fresh, Bool.and_eq_true] at h2
      by_cases e : n = m
      · subst e
        simpa using h2.2
      · exact ih (by omega) h2.1
  exact this l.length h hf
theorem fresh_false (l : List Int) (n m : Nat) (hm : n < m) (h : (l.take n).contains (rd l (n : Int)) = true) : fresh l m = false := by
  induction m with
  | zero => omega
  | succ m ih =>
    by_cases e : n = m
    · subst e
      show (fresh l n && !((l.take n).contains (rd l (n : Int)))) = false
      rw [h, Bool.not_true, Bool.and_false]
    · simp [fresh, ih (by omega)]
theorem fresh_ne {l : List Int} (hf : fresh l l.length = true) {i j : Nat} (hi : i < l.length) (hj : j < l.length) (hij : i ≠ j) : rd l (i : Int) ≠ rd l (j : Int) := by
  have key : ∀ a b : Nat, a < b → b < l.length → rd l (a : Int) ≠ rd l (b : Int) := by
    intro a b hab hb e
    have h1 := fresh_step l b hb hf
    have h2 : (l.take b).contains (rd l (b : Int)) = true := by
      rw [List.contains_iff_mem, ← e, rd_at l a (by omega)]
      rw [List.mem_take_iff_getElem]
      exact ⟨a, by omega, rfl⟩
    rw [h2] at h1
    cases h1
  rcases Nat.lt_or_ge i j with h | h
  · exact key i j h hj
  · exact fun e => key j i (by omega) hi e.symm
def isNm (l : List Int) : Bool := inB 2 12 (l.length : Int) && (l.all (inB 0 999) && fresh l l.length)
theorem isNm_iff {l : List Int} (h : isNm l = true) : 2 ≤ l.length ∧ l.length ≤ 12 ∧ (∀ x ∈ l, 0 ≤ x ∧ x ≤ 999) ∧ fresh l l.length = true := by
  unfold isNm at h
  simp only [Bool.and_eq_true] at h
  have h1 := inB_iff.1 h.1
  exact ⟨by omega, by omega, all_bound h.2.1, h.2.2⟩
theorem specNames_loop (l : List Int) (hl : l.length ≤ 1048576) : Ev (fun k => spec_elNames.l0 k l l (l.length : Int) ((0 : Nat) : Int)) (fresh l l.length) := by
  refine evUp0 l.length (fun k (_ : Unit) (i : Nat) => spec_elNames.l0 k l l (l.length : Int) (i : Int)) (fun i _ => fresh l i = true) _ () rfl ?_ ?_
  · intro i s hi hI
    have hh := l1Has_ev (l.take i) (rd l (i : Int)) (by simp; omega)
    cases hc : (l.take i).contains (rd l (i : Int)) with
    | true =>
      rw [hc] at hh
      refine .inr (evCallEnd hh fun k hk => ?_)
      show spec_elNames.l0 (k + 1) l l (l.length : Int) (i : Int) = _
      simp only [spec_elNames.l0]
      rw [if_pos (by omega), if_pos (by omega), if_pos (by omega), if_pos (by omega), Int.toNat_natCast, hk, fresh_false l i l.length hi hc]
      rfl
    | false =>
      rw [hc] at hh
      refine .inl ⟨(), by show (fresh l i && !((l.take i).contains (rd l (i : Int)))) = true; rw [hI, hc]; rfl, fun h => evCall hh (fun k hk => ?_) h⟩
      show spec_elNames.l0 (k + 1) l l (l.length : Int) (i : Int) = spec_elNames.l0 k l l (l.length : Int) (i + 1 : Nat)
      simp only [spec_elNames.l0]
      rw [if_pos (by omega), if_pos (by omega), if_pos (by omega), if_pos (by omega), Int.toNat_natCast, hk, w64 (by omega) (by omega)]
      simp only [Option.bind_some, Bool.false_eq_true, if_false]
      rfl
  · intro s hI
    refine evEnd fun k => ?_
    show spec_elNames.l0 (k + 1) l l (l.length : Int) (l.length : Int) = _
    simp only [spec_elNames.l0]
    rw [if_neg (by omega), hI]
theorem specNames_ev (l : List Int) (hl : l.length ≤ 1048576) : Ev (fun k => spec_elNames.f k l) (isNm l) := by
  unfold isNm
  cases h : inB 2 12 (l.length : Int) with
  | false =>
    refine Ev.congr (f := fun k => spec_elNames.j0 k l true) (fun k => by simp [spec_elNames.f, l1In_eq, h]) ?_
    refine evEnd fun k => ?_
    simp [spec_elNames.j0]
  | true =>
    cases ha : l.all (inB 0 999) with
    | false =>
      have h2 : Ev (fun k => spec_elNames.j0 k l true) false := evEnd fun k => by simp [spec_elNames.j0]
      have h1 := l1All_ev l 0 999 (by omega)
      rw [ha] at h1
      exact Ev.congr (f := fun k => (spec_l1All.f k l 0 999).bind fun t => spec_elNames.j0 k l (!t)) (fun k => by simp only [spec_elNames.f, l1In_eq, h, Option.bind_some, if_true]) (Ev.bind h1 h2)
    | true =>
      have h1 := l1All_ev l 0 999 (by omega)
      rw [ha] at h1
      have h2 : Ev (fun k => spec_elNames.j0 k l false) (fresh l l.length) := evNext (fun k => by simp [spec_elNames.j0]) (specNames_loop l hl)
      exact Ev.congr (f := fun k => (spec_l1All.f k l 0 999).bind fun t => spec_elNames.j0 k l (!t)) (fun k => by simp only [spec_elNames.f, l1In_eq, h, Option.bind_some, if_true]) (Ev.bind h1 h2)
theorem implNames_ev (l : List Int) (hl : l.length ≤ 1048576) : Ev (fun k => impl_AreNames.f k l) (isNm l) := by
  have key := evUp0 l.length (fun k (_ : Unit) (i : Nat) => impl_AreNames.l0 k l l (l.length : Int) (i : Int)) (fun i _ => fresh l i = true) (isNm l) () rfl
    (by
      intro i s hi hI
      have hh := contains_ev (l.take i) (rd l (i : Int)) (by simp; omega)
      cases hc : (l.take i).contains (rd l (i : Int)) with
      | true =>
        rw [hc] at hh
        refine .inr (evCallEnd hh fun k hk => ?_)
        show impl_AreNames.l0 (k + 1) l l (l.length : Int) (i : Int) = _
        simp only [impl_AreNames.l0]
        rw [if_pos (by omega), if_pos (by omega), if_pos (by omega), if_pos (by omega), Int.toNat_natCast, hk]
        simp [isNm, fresh_false l i l.length hi hc]
      | false =>
        rw [hc] at hh
        refine .inl ⟨(), by show (fresh l i && !((l.take i).contains (rd l (i : Int)))) = true; rw [hI, hc]; rfl, fun h => evCall hh (fun k hk => ?_) h⟩
        show impl_AreNames.l0 (k + 1) l l (l.length : Int) (i : Int) = impl_AreNames.l0 k l l (l.length : Int) (i + 1 : Nat)
        simp only [impl_AreNames.l0]
        rw [if_pos (by omega), if_pos (by omega), if_pos (by omega), if_pos (by omega), Int.toNat_natCast, hk, w64 (by omega) (by omega)]
        simp only [Option.bind_some, Bool.false_eq_true, if_false]
        rfl)
    (by
      intro s hI
      refine evEnd fun k => ?_
      show impl_AreNames.l0 (k + 1) l l (l.length : Int) (l.length : Int) = _
      simp only [impl_AreNames.l0]
      rw [if_neg (by omega)]
      unfold impl_isRingSize.f isNm
      simp only [within_eq, Option.bind_some, allWithin_eq]
      cases inB 2 12 (l.length : Int) <;> simp [hI])
  exact key
theorem AreNames_same (l : List Int) (h : (l.length ≤ maxLen ∧ l.length * 8 ≤ 140737488351232 ∧ (∀ x ∈ l, (Lit.int .i64 x).wf = true) ∧ l.length ≤ 1048576)) :
    ∃ v, Ev (fun k => spec_AreNames.f k l) v ∧ Ev (fun k => impl_AreNames.f k l) v :=
  ⟨isNm l, evEq (Ev.bind (specNames_ev l h.2.2.2) (Ev.now _)) rfl, implNames_ev l h.2.2.2⟩
end Go.Proofs.Ytbiiklkkfkipeaa.X
