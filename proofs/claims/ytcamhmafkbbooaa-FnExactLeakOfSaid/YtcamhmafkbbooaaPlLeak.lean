/- LeakOf: the program and the reference come to the same. -/
import Derived.Test.YtcamhmafkbbooaaPlSentLeak
import Derived.Test.YtcamhmafkbbooaaX13
import Derived.Test.YtcamhmafkbbooaaX14
namespace Go.Proofs.Ytcamhmafkbbooaa.X
set_option linter.unusedSimpArgs false
set_option linter.unusedVariables false
open Go.RowKit Go.Proofs.YtcamhmafkbbooaaW.PrintWords
theorem end_le {r d : Int} {l : List Int} {t : Nat} (h : endOf r d l = some t) : t ≤ 100 := by
  have := fin_some r d l 100 0 t h
  omega
theorem LeakOf_same (r : Int) (l : List Int) (h : (Lit.int .i64 r).wf = true ∧ l.length ≤ maxLen ∧ l.length * 8 ≤ 140737488351232 ∧ (∀ x ∈ l, (Lit.int .i64 x).wf = true) ∧ l.length ≤ 1048576) :
    ∃ v, Ev (fun k => spec_LeakOf.f k r l) v ∧ Ev (fun k => impl_LeakOf.f k r l) v ∧ v.1.length ≤ 1000000 := by
  obtain ⟨K1, e1⟩ := specTraffic_ev l (by omega)
  dsimp only at e1
  have s1 : spec_shRate.f r = some (inB 1 100 r) := by simp [spec_shRate.f, l1In_eq]
  have s2 : impl_isRate.f r = some (inB 1 100 r) := by simp [impl_isRate.f, within_eq]
  have s3 := implTraffic_eq l
  cases hr : inB 1 100 r with
  | false =>
    rw [hr] at s1 s2
    exact ⟨([], false), ⟨0, fun k _ => by simp [spec_LeakOf.f, s1]⟩, ⟨0, fun k _ => by simp [impl_LeakOf.f, s2]⟩, by simp⟩
  | true =>
    rw [hr] at s1 s2
    have hr' := inB_iff.1 hr
    cases ht : isTr l with
    | false =>
      rw [ht] at e1 s3
      exact ⟨([], false), ⟨K1, fun k hk => by simp (disch := omega) [spec_LeakOf.f, s1, e1]⟩, ⟨0, fun k _ => by simp [impl_LeakOf.f, s2, s3]⟩, by simp⟩
    | true =>
      rw [ht] at e1 s3
      obtain ⟨K2, e2⟩ := specSend_ev (r := r) (d := r) hr' (by omega) ht
      obtain ⟨K3, e3⟩ := leak_ev (r := r) (d := r) hr' (by omega) rfl ht
      dsimp only at e2 e3
      cases he : endOf r r l with
      | none =>
        simp only [he] at e2 e3
        refine ⟨([], false), ⟨K1 + K2, fun k hk => ?_⟩, ⟨K3, fun k hk => ?_⟩, by simp⟩
        · simp (disch := omega) only [spec_LeakOf.f, s1, e1, e2, Option.bind_some, if_true]
        · simp (disch := omega) only [impl_LeakOf.f, s2, s3, e3, Option.bind_some, if_true]
      | some t =>
        simp only [he] at e2 e3
        have hte := end_le he
        have hol := outs_len r r l t
        refine ⟨(outs r r l t, true), ⟨K1 + K2, fun k hk => ?_⟩, ⟨K3, fun k hk => ?_⟩, by simp only; omega⟩
        · simp (disch := omega) only [spec_LeakOf.f, s1, e1, e2, Option.bind_some, if_true]
        · simp (disch := omega) only [impl_LeakOf.f, s2, s3, e3, Option.bind_some, if_true]
end Go.Proofs.Ytcamhmafkbbooaa.X
