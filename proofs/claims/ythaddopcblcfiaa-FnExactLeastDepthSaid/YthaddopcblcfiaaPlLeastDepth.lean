/- LeastDepth: the program and the reference come to the same. -/
import Derived.Test.YthaddopcblcfiaaPlWin
import Derived.Test.YthaddopcblcfiaaPlTraffic
import Derived.Test.YthaddopcblcfiaaX5
import Derived.Test.YthaddopcblcfiaaX6
namespace Go.Proofs.Ythaddopcblcfiaa.X
open Go.RowKit Go.Proofs.YthaddopcblcfiaaW.PrintWords
theorem l1Most_eq (a b : Int) : spec_l1Most.f a b = some (max a b) := by
  unfold spec_l1Most.f
  split <;> (congr 1; omega)
/-- What the stretch s, .., t asks of the depth. -/
def need (rate : Int) (l : List Int) (t s : Nat) : Int := win l s (t + 1) - rate * ((t : Int) - s)
def needs (rate : Int) (l : List Int) : Nat → Int
  | 0 => 1
  | n + 1 => mxTo (need rate l n) (needs rate l n) (n + 1)
theorem specDepth_inner (rate : Int) (l : List Int) (hr : 0 ≤ rate ∧ rate ≤ 100) (hl : l.length ≤ 40) (ha : ∀ x ∈ l, 0 ≤ x ∧ x ≤ 1000) (t : Nat) (ht : t < l.length) (a : Int) (r : Int × Bool)
    (h : Ev (fun k => spec_LeastDepth.l0 k rate l (mxTo (need rate l t) a (t + 1)) (l.length : Int) ((t + 1 : Nat) : Int)) r) :
    Ev (fun k => spec_LeastDepth.l1 k rate l a (t : Int) 0 (t : Int) (l.length : Int) (t : Int)) r := by
  have key := evUp0 (t + 1) (fun k (s : Int) (i : Nat) => spec_LeastDepth.l1 k rate l s (t : Int) (win l (t + 1 - i) (t + 1)) ((t : Int) - i) (l.length : Int) (t : Int))
    (fun i s => mxTo (need rate l t) s (t + 1 - i) = mxTo (need rate l t) a (t + 1)) r a rfl
    (by
      intro i s hi hI
      have e1 : t + 1 - i = (t - i) + 1 := by omega
      have e2 : t + 1 - (i + 1) = t - i := by omega
      have hw1 := win_bound l (t - i) (t + 1) hl ha
      have hw2 := win_bound l (t + 1 - i) (t + 1) hl ha
      have hb := mul_bound hr.1 hr.2 (show (0 : Int) ≤ i by omega) (show (i : Int) ≤ 40 by omega)
      have hwin := win_cons l (t - i) (t + 1) (by omega) (by omega)
      rw [← e1] at hwin
      rw [e1, ← mxTo_pull] at hI
      refine .inl ⟨max s (need rate l t (t - i)), by rw [e2]; exact hI, fun h => evNext (fun k => ?_) h⟩
      show spec_LeastDepth.l1 (k + 1) rate l s (t : Int) (win l (t + 1 - i) (t + 1)) ((t : Int) - i) (l.length : Int) (t : Int) = spec_LeastDepth.l1 k rate l (max s (need rate l t (t - i))) (t : Int) (win l (t + 1 - (i + 1)) (t + 1)) ((t : Int) - (i + 1 : Nat)) (l.length : Int) (t : Int)
      simp only [spec_LeastDepth.l1]
      have e3 : (t : Int) - i = ((t - i : Nat) : Int) := by omega
      have e4 : (t : Int) - ((t - i : Nat) : Int) = i := by omega
      rw [if_pos (by omega), if_pos (by omega), if_pos (by omega), e3, rd_at l (t - i) (by omega), e4, l1Most_eq, Int.add_comm (win l (t + 1 - i) (t + 1)), ← hwin]
      simp (disch := omega) only [w64, Option.bind_some]
      rw [e2]
      congr 1
      · unfold need
        rw [e4]
      · omega)
    (by
      intro s hI
      rw [Nat.sub_self] at hI
      have hI' : s = mxTo (need rate l t) a (t + 1) := hI
      refine evNext (fun k => ?_) h
      show spec_LeastDepth.l1 (k + 1) rate l s (t : Int) (win l (t + 1 - (t + 1)) (t + 1)) ((t : Int) - (t + 1 : Nat)) (l.length : Int) (t : Int) = _
      simp only [spec_LeastDepth.l1]
      rw [if_neg (by omega), hI', w64 (by omega) (by omega)]
      rfl)
  refine Ev.congr (fun k => ?_) key
  show _ = spec_LeastDepth.l1 k rate l a (t : Int) (win l (t + 1) (t + 1)) ((t : Int) - (0 : Nat)) (l.length : Int) (t : Int)
  rw [win_end]
  simp
theorem implDepth_inner (rate : Int) (l : List Int) (hr : 0 ≤ rate ∧ rate ≤ 100) (hl : l.length ≤ 40) (ha : ∀ x ∈ l, 0 ≤ x ∧ x ≤ 1000) (t : Nat) (ht : t < l.length) (a : Int) (r : Int × Bool)
    (h : Ev (fun k => impl_LeastDepth.l0 k rate l (mxTo (need rate l t) a (t + 1)) (l.length : Int) ((t + 1 : Nat) : Int)) r) :
    Ev (fun k => impl_LeastDepth.l1 k rate l a (t : Int) (l.length : Int) (t : Int) ((t : Int) + 1) 0) r := by
  have key := evUp0 (t + 1) (fun k (s : Int) (i : Nat) => impl_LeastDepth.l1 k rate l s (t : Int) (l.length : Int) (t : Int) ((t : Int) + 1) (i : Int))
    (fun i s => s = mxTo (need rate l t) a i) r a rfl
    (by
      intro i s hi hI
      have hw1 := win_bound l i (t + 1) hl ha
      have hb := mul_bound hr.1 hr.2 (show (0 : Int) ≤ (t : Int) - i by omega) (show (t : Int) - i ≤ 40 by omega)
      have hS : Ev (fun k => impl_sumOf.f k ((l.take (t + 1)).drop i)) (win l i (t + 1)) :=
        sumOf_ev _ (by have := win_len l i (t + 1); omega) (fun x hx => by have := ha x (win_mem l i (t + 1) x hx); omega)
      refine .inl ⟨mxTo (need rate l t) a (i + 1), rfl, fun h => evCall hS (fun k hk => ?_) h⟩
      show impl_LeastDepth.l1 (k + 1) rate l s (t : Int) (l.length : Int) (t : Int) ((t : Int) + 1) (i : Int) = impl_LeastDepth.l1 k rate l (mxTo (need rate l t) a (i + 1)) (t : Int) (l.length : Int) (t : Int) ((t : Int) + 1) (i + 1 : Nat)
      simp only [impl_LeastDepth.l1]
      have e1 : ((t : Int) + 1).toNat = t + 1 := by omega
      rw [w64 (x := (t : Int) + 1) (by omega) (by omega), if_pos (by omega), if_pos (by omega), if_pos (by omega), if_pos (by omega), e1, Int.toNat_natCast, hk]
      simp (disch := omega) only [w64, Option.bind_some]
      rw [mx_max', hI]
      rfl)
    (by
      intro s hI
      have hI' : s = mxTo (need rate l t) a (t + 1) := hI
      refine evNext (fun k => ?_) h
      show impl_LeastDepth.l1 (k + 1) rate l s (t : Int) (l.length : Int) (t : Int) ((t : Int) + 1) ((t + 1 : Nat) : Int) = _
      simp only [impl_LeastDepth.l1]
      rw [if_neg (by omega), hI', w64 (by omega) (by omega)]
      rfl)
  exact key
def depthOut (x : Int) : Int × Bool := if x > 1000 then (0, false) else (x, true)
theorem specDepth_loop (rate : Int) (l : List Int) (hr : 0 ≤ rate ∧ rate ≤ 100) (hl : l.length ≤ 40) (ha : ∀ x ∈ l, 0 ≤ x ∧ x ≤ 1000) : Ev (fun k => spec_LeastDepth.l0 k rate l 1 (l.length : Int) 0) (depthOut (needs rate l l.length)) := by
  have key := evUp0 l.length (fun k (s : Int) (i : Nat) => spec_LeastDepth.l0 k rate l s (l.length : Int) (i : Int)) (fun i s => s = needs rate l i) (depthOut (needs rate l l.length)) 1 rfl
    (by
      intro i s hi hI
      refine .inl ⟨needs rate l (i + 1), rfl, fun h => evNext (fun k => ?_) (specDepth_inner rate l hr hl ha i hi s _ (by rw [hI]; exact h))⟩
      show spec_LeastDepth.l0 (k + 1) rate l s (l.length : Int) (i : Int) = _
      simp only [spec_LeastDepth.l0]
      rw [if_pos (by omega)])
    (by
      intro s hI
      refine evEnd fun k => ?_
      show spec_LeastDepth.l0 (k + 1) rate l s (l.length : Int) (l.length : Int) = _
      simp only [spec_LeastDepth.l0]
      rw [if_neg (by omega), hI]
      unfold depthOut
      split <;> rfl)
  exact key
theorem implDepth_loop (rate : Int) (l : List Int) (hr : 0 ≤ rate ∧ rate ≤ 100) (hl : l.length ≤ 40) (ha : ∀ x ∈ l, 0 ≤ x ∧ x ≤ 1000) : Ev (fun k => impl_LeastDepth.l0 k rate l 1 (l.length : Int) 0) (depthOut (needs rate l l.length)) := by
  have key := evUp0 l.length (fun k (s : Int) (i : Nat) => impl_LeastDepth.l0 k rate l s (l.length : Int) (i : Int)) (fun i s => s = needs rate l i) (depthOut (needs rate l l.length)) 1 rfl
    (by
      intro i s hi hI
      refine .inl ⟨needs rate l (i + 1), rfl, fun h => evNext (fun k => ?_) (implDepth_inner rate l hr hl ha i hi s _ (by rw [hI]; exact h))⟩
      show impl_LeastDepth.l0 (k + 1) rate l s (l.length : Int) (i : Int) = _
      simp only [impl_LeastDepth.l0]
      rw [if_pos (by omega), w64 (by omega) (by omega)])
    (by
      intro s hI
      refine evEnd fun k => ?_
      show impl_LeastDepth.l0 (k + 1) rate l s (l.length : Int) (l.length : Int) = _
      simp only [impl_LeastDepth.l0]
      rw [if_neg (by omega), hI]
      unfold depthOut
      split <;> rfl)
  exact key
theorem LeastDepth_same (rate : Int) (l : List Int) (h : ((Lit.int .i64 rate).wf = true ∧ l.length ≤ maxLen ∧ l.length * 8 ≤ 140737488351232 ∧ (∀ x ∈ l, (Lit.int .i64 x).wf = true) ∧ l.length ≤ 1048576)) :
    ∃ v, Ev (fun k => spec_LeastDepth.f k rate l) v ∧ Ev (fun k => impl_LeastDepth.f k rate l) v := by
  obtain ⟨K3, e3⟩ := specTraffic_ev l (by omega)
  dsimp only at e3
  by_cases hd : inB 1 100 rate = true
  · by_cases ht : isTr l = true
    · rw [ht] at e3
      have h1 := inB_iff.1 hd
      obtain ⟨K1, e1⟩ := specDepth_loop rate l (by omega) (isTr_len ht) (all_bound (isTr_all ht))
      obtain ⟨K2, e2⟩ := implDepth_loop rate l (by omega) (isTr_len ht) (all_bound (isTr_all ht))
      dsimp only at e1 e2
      refine ⟨depthOut (needs rate l l.length), ⟨K1 + K3 + 9, fun k hk => ?_⟩, ⟨K2 + 9, fun k hk => ?_⟩⟩
      · obtain ⟨m, rfl⟩ : ∃ m, k = m + 9 := ⟨k - 9, by omega⟩
        simp (disch := omega) only [spec_LeastDepth.f, spec_LeastDepth.j0, spec_shRate.f, l1In_eq, hd, e1, e3, Option.bind_some, if_true, Bool.not_true, Bool.false_eq_true, if_false]
      · obtain ⟨m, rfl⟩ : ∃ m, k = m + 9 := ⟨k - 9, by omega⟩
        simp (disch := omega) only [impl_LeastDepth.f, impl_LeastDepth.j0, impl_isRate.f, within_eq, implTraffic_eq, hd, ht, e2, Option.bind_some, if_true, Bool.not_true, Bool.false_eq_true, if_false]
    · have ht' : isTr l = false := by simpa using ht
      rw [ht'] at e3
      refine ⟨(0, false), ⟨K3 + 9, fun k hk => ?_⟩, ⟨9, fun k hk => ?_⟩⟩
      · obtain ⟨m, rfl⟩ : ∃ m, k = m + 9 := ⟨k - 9, by omega⟩
        simp (disch := omega) [spec_LeastDepth.f, spec_LeastDepth.j0, spec_shRate.f, l1In_eq, hd, e3]
      · obtain ⟨m, rfl⟩ : ∃ m, k = m + 9 := ⟨k - 9, by omega⟩
        simp [impl_LeastDepth.f, impl_LeastDepth.j0, impl_isRate.f, within_eq, implTraffic_eq, hd, ht']
  · have hd' : inB 1 100 rate = false := by simpa using hd
    refine ⟨(0, false), ⟨9, fun k hk => ?_⟩, ⟨9, fun k hk => ?_⟩⟩
    · obtain ⟨m, rfl⟩ : ∃ m, k = m + 9 := ⟨k - 9, by omega⟩
      simp [spec_LeastDepth.f, spec_LeastDepth.j0, spec_shRate.f, l1In_eq, hd']
    · obtain ⟨m, rfl⟩ : ∃ m, k = m + 9 := ⟨k - 9, by omega⟩
      simp [impl_LeastDepth.f, impl_LeastDepth.j0, impl_isRate.f, within_eq, hd']
end Go.Proofs.Ythaddopcblcfiaa.X
