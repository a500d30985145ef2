/- Plain lemmas: states of a token ring, and who holds a token. -/
import Derived.Test.YtjfjpfgnclnehaaPlAll
import Derived.Test.YtjfjpfgnclnehaaX1
import Derived.Test.YtjfjpfgnclnehaaX3
namespace Go.Proofs.Ytjfjpfgnclnehaa.X
set_option linter.unusedSimpArgs false
set_option linter.unusedVariables false
open Go.RowKit Go.Proofs.YtjfjpfgnclnehaaW.PrintWords
def isSt (l : List Int) (k : Int) : Bool := inB 2 9 k && (inB 2 12 (l.length : Int) && l.all (inB 0 (k - 1)))
theorem isSt_iff {l : List Int} {k : Int} (h : isSt l k = true) : 2 ≤ k ∧ k ≤ 9 ∧ 2 ≤ l.length ∧ l.length ≤ 12 ∧ ∀ x ∈ l, 0 ≤ x ∧ x ≤ k - 1 := by
  unfold isSt at h
  simp only [Bool.and_eq_true] at h
  have h1 := inB_iff.1 h.1
  have h2 := inB_iff.1 h.2.1
  exact ⟨h1.1, h1.2, by omega, by omega, all_bound h.2.2⟩
theorem implStates_eq (l : List Int) (k : Int) : impl_areStates.f l k = some (isSt l k) := by
  unfold impl_areStates.f impl_isModulus.f impl_isRingSize.f isSt
  simp only [within_eq, Option.bind_some, allWithin_eq]
  cases h : inB 2 9 k with
  | false => simp
  | true =>
    have := inB_iff.1 h
    rw [w64 (by omega) (by omega)]
    cases inB 2 12 (l.length : Int) <;> simp
theorem specStates_ev (l : List Int) (k : Int) (hn : l.length ≤ 9223372036854775806) : Ev (fun n => spec_elStates.f n l k) (isSt l k) := by
  unfold isSt
  cases h : inB 2 9 k with
  | false =>
    refine Ev.congr (f := fun _ => some false) (fun n => ?_) (Ev.now _)
    unfold spec_elStates.f spec_elK.f
    simp [l1In_eq, h]
  | true =>
    have := inB_iff.1 h
    cases h2 : inB 2 12 (l.length : Int) with
    | false =>
      refine Ev.congr (f := fun _ => some false) (fun n => ?_) (Ev.now _)
      unfold spec_elStates.f spec_elK.f
      simp [l1In_eq, h, h2]
    | true =>
      refine Ev.congr (f := fun n => (spec_l1All.f n l 0 (k - 1)).bind fun t => some t) (fun n => ?_) (evEq (Ev.bind (l1All_ev l 0 (k - 1) hn) (Ev.now _)) (by simp))
      unfold spec_elStates.f spec_elK.f
      simp only [l1In_eq, h, h2, Option.bind_some, if_true]
      rw [w64 (by omega) (by omega)]
end Go.Proofs.Ytjfjpfgnclnehaa.X
