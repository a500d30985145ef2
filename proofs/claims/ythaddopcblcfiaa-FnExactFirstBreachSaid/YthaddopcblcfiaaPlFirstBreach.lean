/- FirstBreach: the program and the reference come to the same. -/
import Derived.Test.YthaddopcblcfiaaPlWin
import Derived.Test.YthaddopcblcfiaaPlBucket
import Derived.Test.YthaddopcblcfiaaX18
namespace Go.Proofs.Ythaddopcblcfiaa.X
open Go.RowKit Go.Proofs.YthaddopcblcfiaaW.PrintWords
/-- The greatest s below n such that the stretch s, .., t is too great. -/
def brk (r d : Int) (l : List Int) (t : Nat) : Nat → Option Nat
  | 0 => none
  | n + 1 => if win l n (t + 1) > d + r * ((t : Int) - n) then some n else brk r d l t n
def fbOut (r d : Int) (l : List Int) : Nat → Nat → List Int × Bool
  | 0, _ => ([], false)
  | m + 1, t => match brk r d l t (t + 1) with
    | some s => ([(s : Int), (t : Int)], true)
    | none => fbOut r d l m (t + 1)
theorem fbOut_len (r d : Int) (l : List Int) : ∀ m t, (fbOut r d l m t).1.length ≤ 2
  | 0, _ => by simp [fbOut]
  | m + 1, t => by
    simp only [fbOut]
    split
    · simp
    · exact fbOut_len r d l m (t + 1)
theorem specBreach_inner (r d : Int) (l : List Int) (hr : 0 ≤ r ∧ r ≤ 100) (hd : 0 ≤ d ∧ d ≤ 1000) (hl : l.length ≤ 40) (ha : ∀ x ∈ l, 0 ≤ x ∧ x ≤ 1000) (t : Nat) (ht : t < l.length) (v : List Int × Bool)
    (h1 : ∀ s, brk r d l t (t + 1) = some s → v = ([(s : Int), (t : Int)], true))
    (h2 : brk r d l t (t + 1) = none → Ev (fun k => spec_FirstBreach.l0 k l (l.length : Int) ((t + 1 : Nat) : Int) r d) v) :
    Ev (fun k => spec_FirstBreach.l1 k l (t : Int) 0 (t : Int) (l.length : Int) (t : Int) r d) v := by
  have key := evUp0 (t + 1) (fun k (_ : Unit) (i : Nat) => spec_FirstBreach.l1 k l (t : Int) (win l (t + 1 - i) (t + 1)) ((t : Int) - i) (l.length : Int) (t : Int) r d)
    (fun i _ => brk r d l t (t + 1 - i) = brk r d l t (t + 1)) v () rfl
    (by
      intro i s hi hI
      have e1 : t + 1 - i = (t - i) + 1 := by omega
      have e2 : t + 1 - (i + 1) = t - i := by omega
      have hw1 := win_bound l (t - i) (t + 1) hl ha
      have hw2 := win_bound l (t + 1 - i) (t + 1) hl ha
      have hb := mul_bound hr.1 hr.2 (show (0 : Int) ≤ i by omega) (show (i : Int) ≤ 40 by omega)
      have hwin := win_cons l (t - i) (t + 1) (by omega) (by omega)
      rw [← e1] at hwin
      have e3 : (t : Int) - i = ((t - i : Nat) : Int) := by omega
      have e4 : (t : Int) - ((t - i : Nat) : Int) = i := by omega
      rw [e1] at hI
      simp only [brk] at hI
      rw [e4] at hI
      by_cases hc : win l (t - i) (t + 1) > d + r * (i : Int)
      · rw [if_pos hc] at hI
        refine .inr (evEnd fun k => ?_)
        show spec_FirstBreach.l1 (k + 1) l (t : Int) (win l (t + 1 - i) (t + 1)) ((t : Int) - i) (l.length : Int) (t : Int) r d = some v
        simp only [spec_FirstBreach.l1]
        rw [if_pos (by omega), if_pos (by omega), if_pos (by omega), e3, rd_at l (t - i) (by omega), e4, Int.add_comm (win l (t + 1 - i) (t + 1)), ← hwin]
        simp (disch := omega) only [w64]
        rw [if_pos hc, h1 _ hI.symm]
      · rw [if_neg hc] at hI
        refine .inl ⟨(), by rw [e2]; exact hI, fun h => evNext (fun k => ?_) h⟩
        show spec_FirstBreach.l1 (k + 1) l (t : Int) (win l (t + 1 - i) (t + 1)) ((t : Int) - i) (l.length : Int) (t : Int) r d = spec_FirstBreach.l1 k l (t : Int) (win l (t + 1 - (i + 1)) (t + 1)) ((t : Int) - (i + 1 : Nat)) (l.length : Int) (t : Int) r d
        simp only [spec_FirstBreach.l1]
        rw [if_pos (by omega), if_pos (by omega), if_pos (by omega), e3, rd_at l (t - i) (by omega), e4, Int.add_comm (win l (t + 1 - i) (t + 1)), ← hwin]
        simp (disch := omega) only [w64]
        rw [if_neg hc, e2]
        congr 1
        omega)
    (by
      intro s hI
      rw [Nat.sub_self] at hI
      refine evNext (fun k => ?_) (h2 hI.symm)
      show spec_FirstBreach.l1 (k + 1) l (t : Int) (win l (t + 1 - (t + 1)) (t + 1)) ((t : Int) - (t + 1 : Nat)) (l.length : Int) (t : Int) r d = _
      simp only [spec_FirstBreach.l1]
      rw [if_neg (by omega), w64 (by omega) (by omega)]
      rfl)
  refine Ev.congr (fun k => ?_) key
  show _ = spec_FirstBreach.l1 k l (t : Int) (win l (t + 1) (t + 1)) ((t : Int) - (0 : Nat)) (l.length : Int) (t : Int) r d
  rw [win_end]
  simp
theorem implBreach_inner (r d : Int) (l : List Int) (hr : 0 ≤ r ∧ r ≤ 100) (hd : 0 ≤ d ∧ d ≤ 1000) (hl : l.length ≤ 40) (ha : ∀ x ∈ l, 0 ≤ x ∧ x ≤ 1000) (t : Nat) (ht : t < l.length) (v : List Int × Bool)
    (h1 : ∀ s, brk r d l t (t + 1) = some s → v = ([(s : Int), (t : Int)], true))
    (h2 : brk r d l t (t + 1) = none → Ev (fun k => impl_FirstBreach.l0 k l (l.length : Int) ((t + 1 : Nat) : Int) r d) v) :
    Ev (fun k => impl_FirstBreach.l1 k l (t : Int) (t : Int) (l.length : Int) (t : Int) r d) v := by
  have key := evUp0 (t + 1) (fun k (_ : Unit) (i : Nat) => impl_FirstBreach.l1 k l (t : Int) ((t : Int) - i) (l.length : Int) (t : Int) r d)
    (fun i _ => brk r d l t (t + 1 - i) = brk r d l t (t + 1)) v () rfl
    (by
      intro i s hi hI
      have e1 : t + 1 - i = (t - i) + 1 := by omega
      have e2 : t + 1 - (i + 1) = t - i := by omega
      have hw1 := win_bound l (t - i) (t + 1) hl ha
      have hb := mul_bound hr.1 hr.2 (show (0 : Int) ≤ i by omega) (show (i : Int) ≤ 40 by omega)
      have hS : Ev (fun k => impl_sumOf.f k ((l.take (t + 1)).drop (t - i))) (win l (t - i) (t + 1)) :=
        sumOf_ev _ (by have := win_len l (t - i) (t + 1); omega) (fun x hx => by have := ha x (win_mem l (t - i) (t + 1) x hx); omega)
      have e3 : (t : Int) - i = ((t - i : Nat) : Int) := by omega
      have e4 : (t : Int) - ((t - i : Nat) : Int) = i := by omega
      have e5 : ((t : Int) + 1).toNat = t + 1 := by omega
      rw [e1] at hI
      simp only [brk] at hI
      rw [e4] at hI
      by_cases hc : win l (t - i) (t + 1) > d + r * (i : Int)
      · rw [if_pos hc] at hI
        refine .inr (evCallEnd hS fun k hk => ?_)
        show impl_FirstBreach.l1 (k + 1) l (t : Int) ((t : Int) - i) (l.length : Int) (t : Int) r d = some v
        simp only [impl_FirstBreach.l1]
        rw [w64 (x := (t : Int) + 1) (by omega) (by omega), if_pos (by omega), if_pos (by omega), if_pos (by omega), if_pos (by omega), e3, e4, e5, Int.toNat_natCast, hk]
        simp (disch := omega) only [w64, Option.bind_some]
        rw [if_pos hc, h1 _ hI.symm]
      · rw [if_neg hc] at hI
        refine .inl ⟨(), by rw [e2]; exact hI, fun h => evCall hS (fun k hk => ?_) h⟩
        show impl_FirstBreach.l1 (k + 1) l (t : Int) ((t : Int) - i) (l.length : Int) (t : Int) r d = impl_FirstBreach.l1 k l (t : Int) ((t : Int) - (i + 1 : Nat)) (l.length : Int) (t : Int) r d
        simp only [impl_FirstBreach.l1]
        rw [w64 (x := (t : Int) + 1) (by omega) (by omega), if_pos (by omega), if_pos (by omega), if_pos (by omega), if_pos (by omega), e3, e4, e5, Int.toNat_natCast, hk]
        simp (disch := omega) only [w64, Option.bind_some]
        rw [if_neg hc]
        congr 1
        omega)
    (by
      intro s hI
      rw [Nat.sub_self] at hI
      refine evNext (fun k => ?_) (h2 hI.symm)
      show impl_FirstBreach.l1 (k + 1) l (t : Int) ((t : Int) - (t + 1 : Nat)) (l.length : Int) (t : Int) r d = _
      simp only [impl_FirstBreach.l1]
      rw [if_neg (by omega), w64 (by omega) (by omega)]
      rfl)
  refine Ev.congr (fun k => ?_) key
  show _ = impl_FirstBreach.l1 k l (t : Int) ((t : Int) - (0 : Nat)) (l.length : Int) (t : Int) r d
  simp
theorem breach_loops (r d : Int) (l : List Int) (hr : 0 ≤ r ∧ r ≤ 100) (hd : 0 ≤ d ∧ d ≤ 1000) (hl : l.length ≤ 40) (ha : ∀ x ∈ l, 0 ≤ x ∧ x ≤ 1000) :
    Ev (fun k => spec_FirstBreach.l0 k l (l.length : Int) 0 r d) (fbOut r d l l.length 0) ∧ Ev (fun k => impl_FirstBreach.l0 k l (l.length : Int) 0 r d) (fbOut r d l l.length 0) := by
  constructor
  · have key := evUp0 l.length (fun k (_ : Unit) (i : Nat) => spec_FirstBreach.l0 k l (l.length : Int) (i : Int) r d) (fun i _ => fbOut r d l (l.length - i) i = fbOut r d l l.length 0) (fbOut r d l l.length 0) () rfl
      (by
        intro i s hi hI
        have e : l.length - i = (l.length - (i + 1)) + 1 := by omega
        rw [e] at hI
        simp only [fbOut] at hI
        have step : ∀ k, spec_FirstBreach.l0 (k + 1) l (l.length : Int) (i : Int) r d = spec_FirstBreach.l1 k l (i : Int) 0 (i : Int) (l.length : Int) (i : Int) r d := fun k => by
          simp only [spec_FirstBreach.l0]
          rw [if_pos (by omega)]
        cases hb : brk r d l i (i + 1) with
        | none =>
          rw [hb] at hI
          exact .inl ⟨(), hI, fun h => evNext step (specBreach_inner r d l hr hd hl ha i hi _ (by rw [hb]; simp) (fun _ => h))⟩
        | some s' =>
          rw [hb] at hI
          exact .inr (evNext step (specBreach_inner r d l hr hd hl ha i hi _ (by rw [hb]; intro s hs; injection hs with hs; subst hs; exact hI.symm) (by rw [hb]; simp))))
      (by
        intro s hI
        refine evEnd fun k => ?_
        show spec_FirstBreach.l0 (k + 1) l (l.length : Int) (l.length : Int) r d = _
        simp only [spec_FirstBreach.l0]
        rw [if_neg (by omega), ← hI, Nat.sub_self]
        rfl)
    exact key
  · have key := evUp0 l.length (fun k (_ : Unit) (i : Nat) => impl_FirstBreach.l0 k l (l.length : Int) (i : Int) r d) (fun i _ => fbOut r d l (l.length - i) i = fbOut r d l l.length 0) (fbOut r d l l.length 0) () rfl
      (by
        intro i s hi hI
        have e : l.length - i = (l.length - (i + 1)) + 1 := by omega
        rw [e] at hI
        simp only [fbOut] at hI
        have step : ∀ k, impl_FirstBreach.l0 (k + 1) l (l.length : Int) (i : Int) r d = impl_FirstBreach.l1 k l (i : Int) (i : Int) (l.length : Int) (i : Int) r d := fun k => by
          simp only [impl_FirstBreach.l0]
          rw [if_pos (by omega)]
        cases hb : brk r d l i (i + 1) with
        | none =>
          rw [hb] at hI
          exact .inl ⟨(), hI, fun h => evNext step (implBreach_inner r d l hr hd hl ha i hi _ (by rw [hb]; simp) (fun _ => h))⟩
        | some s' =>
          rw [hb] at hI
          exact .inr (evNext step (implBreach_inner r d l hr hd hl ha i hi _ (by rw [hb]; intro s hs; injection hs with hs; subst hs; exact hI.symm) (by rw [hb]; simp))))
      (by
        intro s hI
        refine evEnd fun k => ?_
        show impl_FirstBreach.l0 (k + 1) l (l.length : Int) (l.length : Int) r d = _
        simp only [impl_FirstBreach.l0]
        rw [if_neg (by omega), ← hI, Nat.sub_self]
        rfl)
    exact key
theorem FirstBreach_same (r d : Int) (l : List Int) (h : ((Lit.int .i64 r).wf = true ∧ (Lit.int .i64 d).wf = true ∧ l.length ≤ maxLen ∧ l.length * 8 ≤ 140737488351232 ∧ (∀ x ∈ l, (Lit.int .i64 x).wf = true) ∧ l.length ≤ 1048576)) :
    ∃ v, Ev (fun k => spec_FirstBreach.f k r d l) v ∧ Ev (fun k => impl_FirstBreach.f k r d l) v ∧ v.1.length ≤ 1000000 := by
  obtain ⟨K3, e3⟩ := specAsked_ev r d l (by omega)
  dsimp only at e3
  by_cases hg : (isBk r d && isTr l) = true
  · rw [hg] at e3
    have hg' := hg
    simp only [Bool.and_eq_true] at hg'
    have h1 := isBk_iff hg'.1
    obtain ⟨⟨K1, e1⟩, ⟨K2, e2⟩⟩ := breach_loops r d l (by omega) (by omega) (isTr_len hg'.2) (all_bound (isTr_all hg'.2))
    dsimp only at e1 e2
    refine ⟨fbOut r d l l.length 0, ⟨K1 + K3 + 9, fun k hk => ?_⟩, ⟨K2 + 9, fun k hk => ?_⟩, ?_⟩
    · simp (disch := omega) only [spec_FirstBreach.f, e1, e3, Option.bind_some, if_true]
    · simp (disch := omega) only [impl_FirstBreach.f, implShaped_eq, hg, e2, Option.bind_some, if_true]
    · have := fbOut_len r d l l.length 0
      omega
  · have hf : (isBk r d && isTr l) = false := by simpa using hg
    rw [hf] at e3
    refine ⟨([], false), ⟨K3 + 9, fun k hk => ?_⟩, ⟨9, fun k hk => ?_⟩, by simp⟩
    · simp (disch := omega) [spec_FirstBreach.f, e3]
    · simp (disch := omega) [impl_FirstBreach.f, implShaped_eq, hf]
end Go.Proofs.Ythaddopcblcfiaa.X
