/- Plain lemmas: traffic. -/
import Derived.Test.YthaddopcblcfiaaDoorPlAll
import Derived.Test.YthaddopcblcfiaaDoorX1
import Derived.Test.YthaddopcblcfiaaDoorX5
namespace Go.Proofs.YthaddopcblcfiaaDoor.X
set_option linter.unusedSimpArgs false
set_option linter.unusedVariables false
open Go.RowKit Go.Proofs.YthaddopcblcfiaaDoorW.PrintWords
def isTr (l : List Int) : Bool := decide (l.length ≤ 40) && l.all (inB 0 1000)
theorem isTr_len {l : List Int} (h : isTr l = true) : l.length ≤ 40 := by
  unfold isTr at h
  simp only [Bool.and_eq_true, decide_eq_true_eq] at h
  exact h.1
theorem isTr_all {l : List Int} (h : isTr l = true) : l.all (inB 0 1000) = true := by
  unfold isTr at h
  simp only [Bool.and_eq_true, decide_eq_true_eq] at h
  exact h.2
theorem implTraffic_eq (l : List Int) : impl_IsTraffic.f l = some (isTr l) := by
  unfold impl_IsTraffic.f isTr
  rw [allWithin_eq]
  by_cases h : l.length ≤ 40
  · rw [if_pos (by omega), decide_eq_true h]; simp
  · rw [if_neg (by omega), decide_eq_false h]; simp
theorem specTraffic_ev (l : List Int) (hn : l.length ≤ 9223372036854775806) : Ev (fun k => spec_shTraffic.f k l) (isTr l) := by
  unfold isTr
  by_cases h : l.length ≤ 40
  · rw [decide_eq_true h]
    refine Ev.congr (f := fun k => (spec_l1All.f k l 0 1000).bind fun t => some t) (fun k => ?_) (evEq (Ev.bind (l1All_ev l 0 1000 hn) (Ev.now _)) (by simp))
    unfold spec_shTraffic.f
    rw [if_pos (by omega)]
  · rw [decide_eq_false h]
    refine Ev.congr (f := fun k => some false) (fun k => ?_) (Ev.now _)
    unfold spec_shTraffic.f
    rw [if_neg (by omega)]
end Go.Proofs.YthaddopcblcfiaaDoor.X
