/- Plain lemmas: the sum of a list. -/
import Derived.Test.YtbiiklkkfkipeaaPlEv
import Derived.Test.YtbiiklkkfkipeaaX18
namespace Go.Proofs.Ytbiiklkkfkipeaa.X
set_option linter.unusedSimpArgs false
set_option linter.unusedVariables false
open Go.RowKit Go.Proofs.YtbiiklkkfkipeaaW.PrintWords
theorem sum_bound (B : Int) (hB : 0 ≤ B) : ∀ l : List Int, (∀ x ∈ l, -B ≤ x ∧ x ≤ B) → -(B * l.length) ≤ l.sum ∧ l.sum ≤ B * l.length
  | [], _ => by simp
  | x :: xs, h => by
    have h1 := h x (by simp)
    have h2 := sum_bound B hB xs (fun y hy => h y (by simp [hy]))
    rw [List.sum_cons, List.length_cons]
    have e : B * ((xs.length + 1 : Nat) : Int) = B * xs.length + B := by
      rw [Int.natCast_add, Int.mul_add]; simp
    rw [e]
    omega
theorem sumOf_ev (l : List Int) (hl : l.length ≤ 100000) (ha : ∀ x ∈ l, -1000000 ≤ x ∧ x ≤ 1000000) : Ev (fun k => impl_sumOf.f k l) l.sum := by
  have key := evUp0 l.length (fun k (s : Int) (i : Nat) => impl_sumOf.l0 k s l (l.length : Int) (i : Int)) (fun i s => s = (l.take i).sum) l.sum 0 (by simp)
    (by
      intro i s hi hI
      have hx := ha _ (List.getElem_mem hi)
      have hb := sum_bound 1000000 (by omega) (l.take i) (fun x hx => ha x (List.mem_of_mem_take hx))
      have hlt : (l.take i).length ≤ 100000 := by simp; omega
      have hs1 : -100000000000 ≤ s ∧ s ≤ 100000000000 := by rw [hI]; omega
      refine .inl ⟨s + l[i], ?_, fun h => evNext (fun k => ?_) h⟩
      · rw [List.take_succ_eq_append_getElem hi, List.sum_append, hI]
        simp
      · show impl_sumOf.l0 (k + 1) s l (l.length : Int) (i : Int) = impl_sumOf.l0 k (s + l[i]) l (l.length : Int) (i + 1 : Nat)
        simp only [impl_sumOf.l0]
        rw [if_pos (by omega), if_pos (by omega), if_pos (by omega), rd_at l i hi, w64 (by omega) (by omega), w64 (by omega) (by omega)]
        rfl)
    (by
      intro s hI
      refine evEnd fun k => ?_
      show impl_sumOf.l0 (k + 1) s l (l.length : Int) (l.length : Int) = _
      simp only [impl_sumOf.l0]
      rw [if_neg (by omega), hI, List.take_length])
  exact key
end Go.Proofs.Ytbiiklkkfkipeaa.X
