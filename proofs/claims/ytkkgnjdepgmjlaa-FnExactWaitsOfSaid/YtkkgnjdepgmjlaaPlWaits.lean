/- WaitsOf: the program and the reference come to the same. -/
import Derived.Test.YtkkgnjdepgmjlaaPlSched
import Derived.Test.YtkkgnjdepgmjlaaX20
import Derived.Test.YtkkgnjdepgmjlaaX21
namespace Go.Proofs.Ytkkgnjdepgmjlaa.X
set_option linter.unusedSimpArgs false
set_option linter.unusedVariables false
open Go.RowKit Go.Proofs.YtkkgnjdepgmjlaaW.PrintWords
def waits (J : List S43) (st : List Int) (n : Nat) : List Int := (List.range n).map (fun (i : Nat) => rd st (i : Int) - (rd_T43 J (i : Int)).f0)
theorem waits_succ (J : List S43) (st : List Int) (n : Nat) : waits J st (n + 1) = waits J st n ++ [rd st (n : Int) - (rd_T43 J (n : Int)).f0] := by simp [waits, List.range_succ]
theorem waits_len (J : List S43) (st : List Int) (n : Nat) : (waits J st n).length = n := by simp [waits]
theorem waits_loops {J : List S43} {st : List Int} (hg : isGiven J st = true) :
    Ev (fun k => spec_WaitsOf.l0 k J [] st (st.length : Int) 0) (waits J st st.length, true) ∧ Ev (fun k => impl_WaitsOf.l0 k st [] J (J.length : Int) 0) (waits J st st.length, true) := by
  obtain ⟨hJ, hlen, hst⟩ := isGiven_at hg
  obtain ⟨hJl, hJa⟩ := isJobs_at hJ
  constructor
  · have key := evUp0 st.length (fun k (s : List Int) (i : Nat) => spec_WaitsOf.l0 k J s st (st.length : Int) (i : Int)) (fun i s => s = waits J st i) (waits J st st.length, true) [] rfl
      (by
        intro i s hi hI
        have a1 := hst i hi
        have a2 := hJa i (by omega)
        have hl := waits_len J st i
        rw [← hI] at hl
        refine .inl ⟨waits J st (i + 1), rfl, fun h => evNext (fun k => ?_) h⟩
        show spec_WaitsOf.l0 (k + 1) J s st (st.length : Int) (i : Int) = spec_WaitsOf.l0 k J (waits J st (i + 1)) st (st.length : Int) (i + 1 : Nat)
        simp only [spec_WaitsOf.l0]
        rw [if_pos (by omega), if_pos (by omega), if_pos (by omega), if_pos (by omega), if_pos (by omega), w64 (by omega) (by omega), w64 (by omega) (by omega), waits_succ, hI]
        rfl)
      (by
        intro s hI
        refine evEnd fun k => ?_
        show spec_WaitsOf.l0 (k + 1) J s st (st.length : Int) (st.length : Int) = _
        simp only [spec_WaitsOf.l0]
        rw [if_neg (by omega), hI])
    exact key
  · have key := evUp0 J.length (fun k (s : List Int) (i : Nat) => impl_WaitsOf.l0 k st s J (J.length : Int) (i : Int)) (fun i s => s = waits J st i) (waits J st st.length, true) [] rfl
      (by
        intro i s hi hI
        have a1 := hst i (by omega)
        have a2 := hJa i (by omega)
        have hl := waits_len J st i
        rw [← hI] at hl
        refine .inl ⟨waits J st (i + 1), rfl, fun h => evNext (fun k => ?_) h⟩
        show impl_WaitsOf.l0 (k + 1) st s J (J.length : Int) (i : Int) = impl_WaitsOf.l0 k st (waits J st (i + 1)) J (J.length : Int) (i + 1 : Nat)
        simp only [impl_WaitsOf.l0]
        rw [if_pos (by omega), if_pos (by omega), if_pos (by omega), if_pos (by omega), if_pos (by omega), w64 (by omega) (by omega), w64 (by omega) (by omega), waits_succ, hI]
        rfl)
      (by
        intro s hI
        refine evEnd fun k => ?_
        show impl_WaitsOf.l0 (k + 1) st s J (J.length : Int) (J.length : Int) = _
        simp only [impl_WaitsOf.l0]
        rw [if_neg (by omega), hI, hlen])
    exact key
theorem WaitsOf_same (L : List S45) (st : List Int) (h : (L.length ≤ maxLen ∧ (∀ x ∈ L, (Lit.int .i64 x.f0).wf = true ∧ (Lit.int .i64 x.f1).wf = true ∧ (Lit.int .i64 x.f2).wf = true) ∧ st.length ≤ maxLen ∧ st.length * 8 ≤ 140737488351232 ∧ (∀ x ∈ st, (Lit.int .i64 x).wf = true) ∧ (st.length ≤ 1048576 ∧ L.length ≤ 1048576))) :
    ∃ v, Ev (fun k => spec_WaitsOf.f k (toL L) st) v ∧ Ev (fun k => impl_WaitsOf.f k (toL L) st) v ∧ v.1.length ≤ 1000000 := by
  have htl := toL_length L
  generalize toL L = J at htl ⊢
  obtain ⟨K1, e1⟩ := specGiven_ev J st (by omega) h.2.2.2.2.2.1
  obtain ⟨K2, e2⟩ := implGiven_ev J st (by omega)
  dsimp only at e1 e2
  cases hg : isGiven J st with
  | false =>
    rw [hg] at e1 e2
    refine ⟨([], false), ⟨K1 + 9, fun n hn => ?_⟩, ⟨K2 + 9, fun n hn => ?_⟩, by simp⟩
    · obtain ⟨m, rfl⟩ : ∃ m, n = m + 9 := ⟨n - 9, by omega⟩
      simp (disch := omega) [spec_WaitsOf.f, e1, spec_WaitsOf.j0]
    · obtain ⟨m, rfl⟩ : ∃ m, n = m + 9 := ⟨n - 9, by omega⟩
      simp (disch := omega) [impl_WaitsOf.f, e2, impl_WaitsOf.j0]
  | true =>
    rw [hg] at e1 e2
    obtain ⟨hJ, hlen, hst⟩ := isGiven_at hg
    obtain ⟨hJl, hJa⟩ := isJobs_at hJ
    obtain ⟨K3, e3⟩ := specSched_ev hg
    obtain ⟨K4, e4⟩ := implSched_ev hg
    dsimp only at e3 e4
    cases hs : schedTo J st st.length with
    | false =>
      rw [hs] at e3 e4
      refine ⟨([], false), ⟨K1 + K3 + 9, fun n hn => ?_⟩, ⟨K2 + K4 + 9, fun n hn => ?_⟩, by simp⟩
      · obtain ⟨m, rfl⟩ : ∃ m, n = m + 9 := ⟨n - 9, by omega⟩
        simp (disch := omega) [spec_WaitsOf.f, e1, e3, spec_WaitsOf.j0]
      · obtain ⟨m, rfl⟩ : ∃ m, n = m + 9 := ⟨n - 9, by omega⟩
        simp (disch := omega) [impl_WaitsOf.f, e2, e4, impl_WaitsOf.j0]
    | true =>
      rw [hs] at e3 e4
      obtain ⟨⟨K5, e5⟩, ⟨K6, e6⟩⟩ := waits_loops hg
      dsimp only at e5 e6
      refine ⟨(waits J st st.length, true), ⟨K1 + K3 + K5 + 9, fun n hn => ?_⟩, ⟨K2 + K4 + K6 + 9, fun n hn => ?_⟩, by simp only [waits_len]; omega⟩
      · obtain ⟨m, rfl⟩ : ∃ m, n = m + 9 := ⟨n - 9, by omega⟩
        simp (disch := omega) only [spec_WaitsOf.f, e1, e3, e5, spec_WaitsOf.j0, Option.bind_some, if_true, Bool.not_true, Bool.false_eq_true, if_false]
      · obtain ⟨m, rfl⟩ : ∃ m, n = m + 9 := ⟨n - 9, by omega⟩
        simp (disch := omega) only [impl_WaitsOf.f, e2, e4, e6, impl_WaitsOf.j0, Option.bind_some, if_true, Bool.not_true, Bool.false_eq_true, if_false]
end Go.Proofs.Ytkkgnjdepgmjlaa.X
