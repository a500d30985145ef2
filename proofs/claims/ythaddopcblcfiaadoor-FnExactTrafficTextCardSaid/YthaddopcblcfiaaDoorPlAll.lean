/- Plain lemmas: whether all numbers lie between two others; traffic; buckets. -/
import Derived.Test.YthaddopcblcfiaaDoorPlEv
import Derived.Test.YthaddopcblcfiaaDoorX1
import Derived.Test.YthaddopcblcfiaaDoorX4
namespace Go.Proofs.YthaddopcblcfiaaDoor.X
set_option linter.unusedSimpArgs false
set_option linter.unusedVariables false
open Go.RowKit Go.Proofs.YthaddopcblcfiaaDoorW.PrintWords
theorem l1In_eq (n lo hi : Int) : spec_l1In.f n lo hi = some (inB lo hi n) := by
  unfold spec_l1In.f inB
  by_cases h : lo ≤ n
  · rw [if_pos (by omega), decide_eq_true h]; simp
  · rw [if_neg (by omega), decide_eq_false h]; simp
theorem allWithin_eq (l : List Int) (lo hi : Int) : impl_allWithin.f l lo hi = some (l.all (inB lo hi)) := rfl
theorem inB_iff {lo hi n : Int} : inB lo hi n = true ↔ lo ≤ n ∧ n ≤ hi := by simp [inB]
theorem all_bound {l : List Int} {lo hi : Int} (h : l.all (inB lo hi) = true) : ∀ x ∈ l, lo ≤ x ∧ x ≤ hi := fun x hx => inB_iff.1 (List.all_eq_true.1 h x hx)
theorem all_rd {l : List Int} {lo hi : Int} (h : l.all (inB lo hi) = true) (i : Nat) (hi' : i < l.length) : lo ≤ rd l (i : Int) ∧ rd l (i : Int) ≤ hi := by
  rw [rd_at l i hi']
  exact all_bound h _ (List.getElem_mem hi')
theorem l1All_ev (l : List Int) (lo hi : Int) (hn : l.length ≤ 9223372036854775806) : Ev (fun k => spec_l1All.f k l lo hi) (l.all (inB lo hi)) := by
  have key := evUp0 l.length (fun k (_ : Unit) (i : Nat) => spec_l1All.l0 k lo hi l (l.length : Int) (i : Int)) (fun i _ => (l.take i).all (inB lo hi) = true) (l.all (inB lo hi)) () (by simp)
    (by
      intro i s hlt hI
      cases hb : inB lo hi (rd l (i : Int)) with
      | true =>
        refine .inl ⟨(), ?_, fun h => evNext (fun k => ?_) h⟩
        · rw [List.take_succ_eq_append_getElem hlt, List.all_append, hI]
          rw [rd_at l i hlt] at hb
          simp [hb]
        · show spec_l1All.l0 (k + 1) lo hi l (l.length : Int) (i : Int) = spec_l1All.l0 k lo hi l (l.length : Int) (i + 1 : Nat)
          simp only [spec_l1All.l0]
          rw [if_pos (by omega), if_pos (by omega), if_pos (by omega), l1In_eq, hb]
          simp only [Option.bind_some, if_true]
          rw [w64 (by omega) (by omega)]
          rfl
      | false =>
        refine .inr (evEnd fun k => ?_)
        show spec_l1All.l0 (k + 1) lo hi l (l.length : Int) (i : Int) = _
        simp only [spec_l1All.l0]
        rw [if_pos (by omega), if_pos (by omega), if_pos (by omega), l1In_eq, hb]
        simp only [Option.bind_some]
        have hf : l.all (inB lo hi) = false := by
          rw [List.all_eq_false]
          refine ⟨rd l (i : Int), ?_, by simp [hb]⟩
          rw [rd_at l i hlt]
          exact List.getElem_mem hlt
        rw [hf]
        simp)
    (by
      intro s hI
      refine evEnd fun k => ?_
      show spec_l1All.l0 (k + 1) lo hi l (l.length : Int) (l.length : Int) = _
      simp only [spec_l1All.l0]
      rw [if_neg (by omega)]
      rw [List.take_length] at hI
      rw [hI])
  exact key
end Go.Proofs.YthaddopcblcfiaaDoor.X
