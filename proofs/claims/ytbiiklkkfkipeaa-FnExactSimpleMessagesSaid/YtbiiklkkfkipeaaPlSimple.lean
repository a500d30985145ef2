/- SimpleMessages: the program and the reference come to the same. -/
import Derived.Test.YtbiiklkkfkipeaaPlPassed
import Derived.Test.YtbiiklkkfkipeaaPlSum
import Derived.Test.YtbiiklkkfkipeaaX17
import Derived.Test.YtbiiklkkfkipeaaX18
namespace Go.Proofs.Ytbiiklkkfkipeaa.X
set_option linter.unusedSimpArgs false
set_option linter.unusedVariables false
open Go.RowKit Go.Proofs.YtbiiklkkfkipeaaW.PrintWords
theorem elSum_ev (l : List Int) (hl : l.length ≤ 100000) (ha : ∀ x ∈ l, -1000000 ≤ x ∧ x ≤ 1000000) : Ev (fun k => spec_elSum.f k l) l.sum := by
  have key := evUp0 l.length (fun k (s : Int) (i : Nat) => spec_elSum.l0 k s l (l.length : Int) (i : Int)) (fun i s => s = (l.take i).sum) l.sum 0 (by simp)
    (by
      intro i s hi hI
      have hx := ha _ (List.getElem_mem hi)
      have hb := sum_bound 1000000 (by omega) (l.take i) (fun x hx => ha x (List.mem_of_mem_take hx))
      have hlt : (l.take i).length ≤ 100000 := by simp; omega
      have hs1 : -100000000000 ≤ s ∧ s ≤ 100000000000 := by rw [hI]; omega
      refine .inl ⟨s + l[i], ?_, fun h => evNext (fun k => ?_) h⟩
      · rw [List.take_succ_eq_append_getElem hi, List.sum_append, hI]
        simp
      · show spec_elSum.l0 (k + 1) s l (l.length : Int) (i : Int) = spec_elSum.l0 k (s + l[i]) l (l.length : Int) (i + 1 : Nat)
        simp only [spec_elSum.l0]
        rw [if_pos (by omega), if_pos (by omega), if_pos (by omega), rd_at l i hi, w64 (by omega) (by omega), w64 (by omega) (by omega)]
        rfl)
    (by
      intro s hI
      refine evEnd fun k => ?_
      show spec_elSum.l0 (k + 1) s l (l.length : Int) (l.length : Int) = _
      simp only [spec_elSum.l0]
      rw [if_neg (by omega), hI, List.take_length])
  exact key
theorem SimpleMessages_same (l : List Int) (h : (l.length ≤ maxLen ∧ l.length * 8 ≤ 140737488351232 ∧ (∀ x ∈ l, (Lit.int .i64 x).wf = true) ∧ l.length ≤ 1048576)) :
    ∃ v, Ev (fun k => spec_SimpleMessages.f k l) v ∧ Ev (fun k => impl_SimpleMessages.f k l) v := by
  obtain ⟨K, e⟩ := specNames_ev l h.2.2.2
  obtain ⟨K', e'⟩ := implNames_ev l h.2.2.2
  dsimp only at e e'
  cases hk : isNm l with
  | true =>
    rw [hk] at e e'
    have hb := isNm_iff hk
    obtain ⟨K1, e1⟩ := specPassed_ev hb.2.2.2 (by omega)
    obtain ⟨K2, e2⟩ := implPassed_ev l (by omega)
    have hp := passed_bound l (by omega) l.length
    have hpl := passed_len l l.length
    obtain ⟨K3, e3⟩ := elSum_ev (passed l l.length) (by omega) (fun x hx => by have := hp x hx; omega)
    obtain ⟨K4, e4⟩ := sumOf_ev (passed l l.length) (by omega) (fun x hx => by have := hp x hx; omega)
    dsimp only at e1 e2 e3 e4
    refine ⟨((passed l l.length).sum, true), ⟨K + K1 + K3 + 9, fun n hn => ?_⟩, ⟨K' + K2 + K4 + 9, fun n hn => ?_⟩⟩
    · simp (disch := omega) only [spec_SimpleMessages.f, e, e1, e3, Option.bind_some, if_true]
    · simp (disch := omega) only [impl_SimpleMessages.f, e', e2, e4, Option.bind_some, if_true]
  | false =>
    rw [hk] at e e'
    refine ⟨(0, false), ⟨K + 9, fun n hn => ?_⟩, ⟨K' + 9, fun n hn => ?_⟩⟩
    · simp (disch := omega) [spec_SimpleMessages.f, e]
    · simp (disch := omega) [impl_SimpleMessages.f, e']
end Go.Proofs.Ytbiiklkkfkipeaa.X
