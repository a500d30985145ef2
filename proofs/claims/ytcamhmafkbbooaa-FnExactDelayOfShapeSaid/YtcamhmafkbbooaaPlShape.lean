/- ShapeOf, BacklogOfShape: the program and the reference come to the same. -/
import Derived.Test.YtcamhmafkbbooaaPlSentShape
import Derived.Test.YtcamhmafkbbooaaX20
import Derived.Test.YtcamhmafkbbooaaX16
import Derived.Test.YtcamhmafkbbooaaX18
namespace Go.Proofs.Ytcamhmafkbbooaa.X
set_option linter.unusedSimpArgs false
set_option linter.unusedVariables false
open Go.RowKit Go.Proofs.YtcamhmafkbbooaaW.PrintWords
theorem end_le' {r d : Int} {l : List Int} {t : Nat} (h : endOf r d l = some t) : t ≤ 100 := by
  have := fin_some r d l 100 0 t h
  omega
/-- What the program's and the reference's runs come to. -/
theorem shaped_runs (r d : Int) (l : List Int) (hl : l.length ≤ 1048576) :
    (isBk r d = true ∧ isTr l = true ∧ Ev (fun k => spec_shAsked.f k r d l) true ∧ ∃ o, o = endOf r d l ∧ Ev (fun k => spec_shSend.f k r d l) (match o with | some t => (outs r d l t, lefts r d l t, true) | none => ([], [], false)) ∧ Ev (fun k => impl_shaped.f k r d l) (match o with | some t => (outs r d l t, mst r d l t, dly r d l t, true) | none => ([], 0, 0, false))) ∨
    (Ev (fun k => spec_shAsked.f k r d l) false ∧ Ev (fun k => impl_shaped.f k r d l) ([], 0, 0, false)) := by
  have e1 := specAsked_ev r d l (by omega)
  have s1 := implShaped_eq r d l
  cases hb : isBk r d with
  | false =>
    rw [hb] at e1 s1
    exact .inr ⟨e1, ⟨0, fun k _ => by simp [impl_shaped.f, s1]⟩⟩
  | true =>
    cases ht : isTr l with
    | false =>
      rw [hb, ht] at e1 s1
      exact .inr ⟨e1, ⟨0, fun k _ => by simp [impl_shaped.f, s1]⟩⟩
    | true =>
      rw [hb, ht] at e1 s1
      have hB := isBk_iff hb
      have e2 := specSend_ev (r := r) (d := d) ⟨hB.1, hB.2.1⟩ hB.2.2 ht
      obtain ⟨K3, e3⟩ := shape_ev (r := r) (d := d) ⟨hB.1, hB.2.1⟩ hB.2.2 ht
      refine .inl ⟨rfl, rfl, e1, _, rfl, e2, ⟨K3, fun k hk => ?_⟩⟩
      have := e3 k hk
      dsimp only at this
      simp only [impl_shaped.f, s1, impl_Bucket_shape.f, this, Option.bind_some, Bool.and_self, if_true]
      rfl
theorem ShapeOf_same (r d : Int) (l : List Int) (h : (Lit.int .i64 r).wf = true ∧ (Lit.int .i64 d).wf = true ∧ l.length ≤ maxLen ∧ l.length * 8 ≤ 140737488351232 ∧ (∀ x ∈ l, (Lit.int .i64 x).wf = true) ∧ l.length ≤ 1048576) :
    ∃ v, Ev (fun k => spec_ShapeOf.f k r d l) v ∧ Ev (fun k => impl_ShapeOf.f k r d l) v ∧ v.1.length ≤ 1000000 := by
  rcases shaped_runs r d l h.2.2.2.2.2 with ⟨_, _, ⟨K1, e1⟩, o, ho, ⟨K2, e2⟩, ⟨K3, e3⟩⟩ | ⟨⟨K1, e1⟩, ⟨K3, e3⟩⟩
  · dsimp only at e1 e2 e3
    cases o with
    | none =>
      simp only at e2 e3
      refine ⟨([], false), ⟨K1 + K2, fun k hk => ?_⟩, ⟨K3, fun k hk => ?_⟩, by simp⟩
      · simp (disch := omega) only [spec_ShapeOf.f, e1, e2, Option.bind_some, if_true]
      · simp (disch := omega) only [impl_ShapeOf.f, e3, Option.bind_some]
    | some t =>
      simp only at e2 e3
      have hte := end_le' ho.symm
      have hol := outs_len r d l t
      refine ⟨(outs r d l t, true), ⟨K1 + K2, fun k hk => ?_⟩, ⟨K3, fun k hk => ?_⟩, by simp only; omega⟩
      · simp (disch := omega) only [spec_ShapeOf.f, e1, e2, Option.bind_some, if_true]
      · simp (disch := omega) only [impl_ShapeOf.f, e3, Option.bind_some]
  · dsimp only at e1 e3
    refine ⟨([], false), ⟨K1, fun k hk => ?_⟩, ⟨K3, fun k hk => ?_⟩, by simp⟩
    · simp (disch := omega) [spec_ShapeOf.f, e1]
    · simp (disch := omega) [impl_ShapeOf.f, e3]
theorem specBack_ev (r d : Int) (l : List Int) (b : Bool) (t : Nat) (ht : t ≤ 100) : Ev (fun k => spec_BacklogOfShape.l0 k b 0 (lefts r d l t) ((lefts r d l t).length : Int) 0) (mst r d l t, b) := by
  have hlen := lefts_len r d l t
  rw [hlen]
  have key := evUp0 t (fun k (x : Int) (i : Nat) => spec_BacklogOfShape.l0 k b x (lefts r d l t) (t : Int) (i : Int)) (fun i x => x = mst r d l i) (mst r d l t, b) 0 rfl
    (by
      intro i x hi hI
      refine .inl ⟨mst r d l (i + 1), rfl, fun h => evNext (fun k => ?_) h⟩
      show spec_BacklogOfShape.l0 (k + 1) b x (lefts r d l t) (t : Int) (i : Int) = spec_BacklogOfShape.l0 k b (mst r d l (i + 1)) (lefts r d l t) (t : Int) ((i + 1 : Nat) : Int)
      have hrd : rd (lefts r d l t) (i : Int) = (st r d l (i + 1)).1 := by
        rw [rd_at _ i (by omega)]
        simp [lefts]
      have hm : spec_l1Most.f x (rd (lefts r d l t) (i : Int)) = some (mst r d l (i + 1)) := by
        rw [hrd, hI]
        unfold spec_l1Most.f
        simp only [mst]
        split <;> (congr 1; omega)
      simp only [spec_BacklogOfShape.l0]
      rw [if_pos (by omega), if_pos (by omega), if_pos (by omega), hm, w64 (by omega) (by omega)]
      rfl)
    (by
      intro x hI
      refine evEnd fun k => ?_
      show spec_BacklogOfShape.l0 (k + 1) b x (lefts r d l t) (t : Int) (t : Int) = _
      simp only [spec_BacklogOfShape.l0]
      rw [if_neg (by omega), hI])
  exact key
theorem BacklogOfShape_same (r d : Int) (l : List Int) (h : (Lit.int .i64 r).wf = true ∧ (Lit.int .i64 d).wf = true ∧ l.length ≤ maxLen ∧ l.length * 8 ≤ 140737488351232 ∧ (∀ x ∈ l, (Lit.int .i64 x).wf = true) ∧ l.length ≤ 1048576) :
    ∃ v, Ev (fun k => spec_BacklogOfShape.f k r d l) v ∧ Ev (fun k => impl_BacklogOfShape.f k r d l) v := by
  rcases shaped_runs r d l h.2.2.2.2.2 with ⟨_, _, ⟨K1, e1⟩, o, ho, ⟨K2, e2⟩, ⟨K3, e3⟩⟩ | ⟨⟨K1, e1⟩, ⟨K3, e3⟩⟩
  · dsimp only at e1 e2 e3
    cases o with
    | none =>
      simp only at e2 e3
      refine ⟨(0, false), ⟨K1 + K2 + 9, fun k hk => ?_⟩, ⟨K3, fun k hk => ?_⟩⟩
      · obtain ⟨m, rfl⟩ : ∃ m, k = m + 9 := ⟨k - 9, by omega⟩
        simp (disch := omega) only [spec_BacklogOfShape.f, e1, e2, Option.bind_some, if_true]
        simp [spec_BacklogOfShape.l0]
      · simp (disch := omega) only [impl_BacklogOfShape.f, e3, Option.bind_some]
    | some t =>
      simp only at e2 e3
      have hte := end_le' ho.symm
      obtain ⟨K4, e4⟩ := specBack_ev r d l true t hte
      dsimp only at e4
      refine ⟨(mst r d l t, true), ⟨K1 + K2 + K4, fun k hk => ?_⟩, ⟨K3, fun k hk => ?_⟩⟩
      · simp (disch := omega) only [spec_BacklogOfShape.f, e1, e2, e4, Option.bind_some, if_true]
      · simp (disch := omega) only [impl_BacklogOfShape.f, e3, Option.bind_some]
  · dsimp only at e1 e3
    refine ⟨(0, false), ⟨K1, fun k hk => ?_⟩, ⟨K3, fun k hk => ?_⟩⟩
    · simp (disch := omega) [spec_BacklogOfShape.f, e1]
    · simp (disch := omega) [impl_BacklogOfShape.f, e3]
end Go.Proofs.Ytcamhmafkbbooaa.X
