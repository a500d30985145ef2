/- LeastRate: the program and the reference come to the same. -/
import Derived.Test.YthaddopcblcfiaaPlKeeps
import Derived.Test.YthaddopcblcfiaaX9
import Derived.Test.YthaddopcblcfiaaX10
namespace Go.Proofs.Ythaddopcblcfiaa.X
open Go.RowKit Go.Proofs.YthaddopcblcfiaaW.PrintWords
/-- The least rate from x on, among n of them. -/
def lrate (d : Int) (l : List Int) : Nat → Int → Int × Bool
  | 0, _ => (0, false)
  | n + 1, x => if (lev x d d [] l).2 = true then (x, true) else lrate d l n (x + 1)
theorem specRate_loop (d : Int) (l : List Int) (hd : inB 1 1000 d = true) (ht : isTr l = true) : Ev (fun k => spec_LeastRate.l0 k d l (1 : Int)) (lrate d l 100 1) := by
  have key := evUp0 100 (fun k (_ : Unit) (i : Nat) => spec_LeastRate.l0 k d l ((i : Int) + 1)) (fun i _ => lrate d l (100 - i) ((i : Int) + 1) = lrate d l 100 1) (lrate d l 100 1) () rfl
    (by
      intro i s hi hI
      have hb : isBk ((i : Int) + 1) d = true := by unfold isBk; rw [hd, inB_iff.2 (by omega)]; rfl
      obtain ⟨hS, _⟩ := bk_levels hb ht
      have e : 100 - i = (100 - (i + 1)) + 1 := by omega
      rw [e, lrate] at hI
      have hS' : Ev (fun k => spec_shKeeps.f k ((i : Int) + 1) d l) (lev ((i : Int) + 1) d d [] l).2 := Ev.bind hS (Ev.now _)
      by_cases hc : (lev ((i : Int) + 1) d d [] l).2 = true
      · rw [if_pos hc] at hI
        refine .inr (evCallEnd hS' fun k hk => ?_)
        show spec_LeastRate.l0 (k + 1) d l ((i : Int) + 1) = _
        simp only [spec_LeastRate.l0]
        rw [if_pos (by omega), hk]
        simp only [Option.bind_some, hc, if_true, hI]
      · rw [if_neg hc] at hI
        refine .inl ⟨(), hI, fun h => evCall hS' (fun k hk => ?_) h⟩
        show spec_LeastRate.l0 (k + 1) d l ((i : Int) + 1) = spec_LeastRate.l0 k d l (((i + 1 : Nat) : Int) + 1)
        simp only [spec_LeastRate.l0]
        rw [if_pos (by omega), hk]
        simp (disch := omega) only [Option.bind_some, hc, w64]
        rfl)
    (by
      intro s hI
      refine evEnd fun k => ?_
      show spec_LeastRate.l0 (k + 1) d l (((100 : Nat) : Int) + 1) = _
      rw [← hI]
      simp [spec_LeastRate.l0, lrate])
  exact key
theorem implRate_loop (d : Int) (l : List Int) (hd : inB 1 1000 d = true) (ht : isTr l = true) : Ev (fun k => impl_LeastRate.l0 k d l (1 : Int)) (lrate d l 100 1) := by
  have key := evUp0 100 (fun k (_ : Unit) (i : Nat) => impl_LeastRate.l0 k d l ((i : Int) + 1)) (fun i _ => lrate d l (100 - i) ((i : Int) + 1) = lrate d l 100 1) (lrate d l 100 1) () rfl
    (by
      intro i s hi hI
      have hb : isBk ((i : Int) + 1) d = true := by unfold isBk; rw [hd, inB_iff.2 (by omega)]; rfl
      obtain ⟨_, hS'⟩ := bk_levels hb ht
      have e : 100 - i = (100 - (i + 1)) + 1 := by omega
      rw [e, lrate] at hI
      by_cases hc : (lev ((i : Int) + 1) d d [] l).2 = true
      · rw [if_pos hc] at hI
        refine .inr (evCallEnd hS' fun k hk => ?_)
        show impl_LeastRate.l0 (k + 1) d l ((i : Int) + 1) = _
        simp only [impl_LeastRate.l0]
        rw [if_pos (by omega), hk]
        simp only [Option.bind_some, hc, if_true, hI]
      · rw [if_neg hc] at hI
        refine .inl ⟨(), hI, fun h => evCall hS' (fun k hk => ?_) h⟩
        show impl_LeastRate.l0 (k + 1) d l ((i : Int) + 1) = impl_LeastRate.l0 k d l (((i + 1 : Nat) : Int) + 1)
        simp only [impl_LeastRate.l0]
        rw [if_pos (by omega), hk]
        simp (disch := omega) only [Option.bind_some, hc, w64]
        rfl)
    (by
      intro s hI
      refine evEnd fun k => ?_
      show impl_LeastRate.l0 (k + 1) d l (((100 : Nat) : Int) + 1) = _
      rw [← hI]
      simp [impl_LeastRate.l0, lrate])
  exact key
theorem LeastRate_same (d : Int) (l : List Int) (h : ((Lit.int .i64 d).wf = true ∧ l.length ≤ maxLen ∧ l.length * 8 ≤ 140737488351232 ∧ (∀ x ∈ l, (Lit.int .i64 x).wf = true) ∧ l.length ≤ 1048576)) :
    ∃ v, Ev (fun k => spec_LeastRate.f k d l) v ∧ Ev (fun k => impl_LeastRate.f k d l) v := by
  obtain ⟨K3, e3⟩ := specTraffic_ev l (by omega)
  dsimp only at e3
  by_cases hd : inB 1 1000 d = true
  · by_cases ht : isTr l = true
    · rw [ht] at e3
      obtain ⟨K1, e1⟩ := specRate_loop d l hd ht
      obtain ⟨K2, e2⟩ := implRate_loop d l hd ht
      dsimp only at e1 e2
      refine ⟨lrate d l 100 1, ⟨K1 + K3 + 9, fun k hk => ?_⟩, ⟨K2 + 9, fun k hk => ?_⟩⟩
      · obtain ⟨m, rfl⟩ : ∃ m, k = m + 9 := ⟨k - 9, by omega⟩
        simp (disch := omega) only [spec_LeastRate.f, spec_LeastRate.j0, l1In_eq, hd, e1, e3, Option.bind_some, if_true, Bool.not_true, Bool.false_eq_true, if_false]
      · obtain ⟨m, rfl⟩ : ∃ m, k = m + 9 := ⟨k - 9, by omega⟩
        simp (disch := omega) only [impl_LeastRate.f, impl_LeastRate.j0, impl_isDepth.f, within_eq, implTraffic_eq, hd, ht, e2, Option.bind_some, if_true, Bool.not_true, Bool.false_eq_true, if_false]
    · have ht' : isTr l = false := by simpa using ht
      rw [ht'] at e3
      refine ⟨(0, false), ⟨K3 + 9, fun k hk => ?_⟩, ⟨9, fun k hk => ?_⟩⟩
      · obtain ⟨m, rfl⟩ : ∃ m, k = m + 9 := ⟨k - 9, by omega⟩
        simp (disch := omega) [spec_LeastRate.f, spec_LeastRate.j0, l1In_eq, hd, e3]
      · obtain ⟨m, rfl⟩ : ∃ m, k = m + 9 := ⟨k - 9, by omega⟩
        simp [impl_LeastRate.f, impl_LeastRate.j0, impl_isDepth.f, within_eq, implTraffic_eq, hd, ht']
  · have hd' : inB 1 1000 d = false := by simpa using hd
    refine ⟨(0, false), ⟨9, fun k hk => ?_⟩, ⟨9, fun k hk => ?_⟩⟩
    · obtain ⟨m, rfl⟩ : ∃ m, k = m + 9 := ⟨k - 9, by omega⟩
      simp [spec_LeastRate.f, spec_LeastRate.j0, l1In_eq, hd']
    · obtain ⟨m, rfl⟩ : ∃ m, k = m + 9 := ⟨k - 9, by omega⟩
      simp [impl_LeastRate.f, impl_LeastRate.j0, impl_isDepth.f, within_eq, hd']
end Go.Proofs.Ythaddopcblcfiaa.X
