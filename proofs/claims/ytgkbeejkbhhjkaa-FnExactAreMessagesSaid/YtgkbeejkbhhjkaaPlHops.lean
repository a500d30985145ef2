/- HopsOfMessage, AreMessages: the program and the reference come to the same. -/
import Derived.Test.YtgkbeejkbhhjkaaPlMsgs
import Derived.Test.YtgkbeejkbhhjkaaX1
import Derived.Test.YtgkbeejkbhhjkaaX4
import Derived.Test.YtgkbeejkbhhjkaaX8
import Derived.Test.YtgkbeejkbhhjkaaX9
namespace Go.Proofs.Ytgkbeejkbhhjkaa.X
set_option linter.unusedSimpArgs false
set_option linter.unusedVariables false
open Go.RowKit Go.Proofs.YtgkbeejkbhhjkaaW.PrintWords
theorem isSl_one (n : Int) (x : S30) : isSl n [x] = (inB 2 12 n && okMsg n x) := by
  simp [isSl, areMsgs, msgsTo, msgAt, rd_T30]
theorem HopsOfMessage_same (n : Int) (b : Bool) (x y z : Int) (h : (Lit.int .i64 n).wf = true ∧ (Lit.int .i64 x).wf = true ∧ (Lit.int .i64 y).wf = true ∧ (Lit.int .i64 z).wf = true ∧ True) :
    ∃ v, spec_HopsOfMessage.f n b x y z = some v ∧ Ev (fun k => impl_HopsOfMessage.f k n b x y z) v := by
  obtain ⟨K, e⟩ := implSlotted_ev n b [⟨x, y, z⟩] (by simp)
  dsimp only at e
  rw [isSl_one] at e
  cases hg : inB 2 12 n with
  | false =>
    rw [hg] at e
    refine ⟨(0, false), by simp [spec_HopsOfMessage.f, slGood_eq, hg], ⟨K, fun k hk => ?_⟩⟩
    simp (disch := omega) [impl_HopsOfMessage.f, e]
  | true =>
    have hn := inB_iff.1 hg
    have hm := slMessage_eq n b hn ⟨x, y, z⟩
    dsimp only at hm
    rw [hg] at e
    cases ho : okMsg n ⟨x, y, z⟩ with
    | false =>
      rw [ho] at e hm
      refine ⟨(0, false), by simp [spec_HopsOfMessage.f, slGood_eq, hg, hm], ⟨K, fun k hk => ?_⟩⟩
      simp (disch := omega) [impl_HopsOfMessage.f, e]
    | true =>
      rw [ho] at e hm
      have hz : ¬ n = 0 := by omega
      refine ⟨(Int.tmod (wrap64 ((wrap64 (z - y)) + n)) n, true), by simp [spec_HopsOfMessage.f, slGood_eq, hg, hm, hz], ⟨K, fun k hk => ?_⟩⟩
      simp (disch := omega) [impl_HopsOfMessage.f, e, impl_hops.f, hz]
theorem AreMessages_same (n : Int) (b : Bool) (L : List S25) (h : (Lit.int .i64 n).wf = true ∧ L.length ≤ maxLen ∧ (∀ x ∈ L, (Lit.int .i64 x.f0).wf = true ∧ (Lit.int .i64 x.f1).wf = true ∧ (Lit.int .i64 x.f2).wf = true) ∧ L.length ≤ 1048576) :
    ∃ v, Ev (fun k => spec_AreMessages.f k n b (toL L)) v ∧ Ev (fun k => impl_AreMessages.f k n b (toL L)) v := by
  have htl := toL_length L
  generalize toL L = J at htl ⊢
  cases hg : inB 2 12 n with
  | false =>
    exact ⟨(false, false), ⟨0, fun k _ => by simp [spec_AreMessages.f, slGood_eq, hg]⟩, ⟨0, fun k _ => by simp [impl_AreMessages.f, isSlotRing_eq, hg]⟩⟩
  | true =>
    obtain ⟨K1, e1⟩ := specMsgs_ev n b J (by omega)
    obtain ⟨K2, e2⟩ := implMsgs_ev n (inB_iff.1 hg) J (by omega)
    dsimp only at e1 e2
    have es : isSl n J = areMsgs n J := by simp [isSl, hg]
    rw [es] at e1
    refine ⟨(areMsgs n J, true), ⟨K1, fun k hk => ?_⟩, ⟨K2, fun k hk => ?_⟩⟩
    · simp (disch := omega) [spec_AreMessages.f, slGood_eq, hg, e1]
    · simp (disch := omega) [impl_AreMessages.f, isSlotRing_eq, hg, e2]
end Go.Proofs.Ytgkbeejkbhhjkaa.X
