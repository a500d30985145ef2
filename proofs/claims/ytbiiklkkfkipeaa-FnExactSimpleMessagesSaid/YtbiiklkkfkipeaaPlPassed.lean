/- PassedOn: the program and the reference come to the same. -/
import Derived.Test.YtbiiklkkfkipeaaPlReach
import Derived.Test.YtbiiklkkfkipeaaX14
import Derived.Test.YtbiiklkkfkipeaaX12
namespace Go.Proofs.Ytbiiklkkfkipeaa.X
set_option linter.unusedSimpArgs false
set_option linter.unusedVariables false
open Go.RowKit Go.Proofs.YtbiiklkkfkipeaaW.PrintWords
/-- Over how many links the names of the first n stations are sent. -/
def passed (l : List Int) (n : Nat) : List Int := (List.range n).map (fun (s : Nat) => (far l (s : Int) 1 (l.length : Int)).1)
theorem passed_succ (l : List Int) (n : Nat) : passed l (n + 1) = passed l n ++ [(far l (n : Int) 1 (l.length : Int)).1] := by simp [passed, List.range_succ]
theorem passed_len (l : List Int) (n : Nat) : (passed l n).length = n := by simp [passed]
theorem rch_bound (l : List Int) (s step most : Int) : ∀ (n : Nat) (k : Int), 1 ≤ k → (n : Int) + k - 1 ≤ most → 0 ≤ most → (1 ≤ (rch l s step most n k).1 ∨ (rch l s step most n k).1 = most) ∧ (rch l s step most n k).1 ≤ most
  | 0, k, h1, h2, h3 => by simp [rch]
  | n + 1, k, h1, h2, h3 => by
    simp only [rch]
    split
    · exact ⟨.inl h1, by simp only; omega⟩
    · exact rch_bound l s step most n (k + 1) (by omega) (by omega) h3
theorem far_bound (l : List Int) (s step most : Int) (h : 1 ≤ most) : 1 ≤ (far l s step most).1 ∧ (far l s step most).1 ≤ most := by
  have := rch_bound l s step most most.toNat 1 (by omega) (by omega) (by omega)
  unfold far
  omega
theorem passed_bound (l : List Int) (h : 1 ≤ l.length) (n : Nat) : ∀ x ∈ passed l n, 1 ≤ x ∧ x ≤ l.length := by
  intro x hx
  unfold passed at hx
  obtain ⟨s, _, rfl⟩ := List.mem_map.1 hx
  exact far_bound l (s : Int) 1 (l.length : Int) (by omega)
theorem implPassed_ev (l : List Int) (hl : l.length ≤ 1000) : Ev (fun k => impl_passedOn.f k l) (passed l l.length) := by
  have key := evUp0 l.length (fun k (x : List Int) (i : Nat) => impl_passedOn.l0 k l x (l.length : Int) (i : Int)) (fun i x => x = passed l i) (passed l l.length) [] rfl
    (by
      intro i x hi hI
      have hlen := passed_len l i
      rw [← hI] at hlen
      have hr := implReach_ev l (i : Int) 1 (l.length : Int) (by omega) (by omega) hl (.inl rfl) (by omega) (by omega)
      refine .inl ⟨passed l (i + 1), rfl, fun h => evCall hr (fun k hk => ?_) h⟩
      show impl_passedOn.l0 (k + 1) l x (l.length : Int) (i : Int) = impl_passedOn.l0 k l (passed l (i + 1)) (l.length : Int) (i + 1 : Nat)
      simp only [impl_passedOn.l0]
      rw [if_pos (by omega), hk]
      simp only [Option.bind_some]
      rw [if_pos (by omega), w64 (by omega) (by omega), passed_succ, hI]
      rfl)
    (by
      intro x hI
      refine evEnd fun k => ?_
      show impl_passedOn.l0 (k + 1) l x (l.length : Int) (l.length : Int) = _
      simp only [impl_passedOn.l0]
      rw [if_neg (by omega), hI])
  exact key
theorem stn_one (l : List Int) (s k : Nat) : stn l (s : Int) 1 (k : Int) = (((s + k) % l.length : Nat) : Int) := by
  unfold stn
  rw [Int.mul_one]
  norm_cast
theorem mod_ne (s k n : Nat) (hs : s < n) (h1 : 1 ≤ k) (h2 : k < n) : (s + k) % n ≠ s := by
  intro e
  by_cases h : s + k < n
  · rw [Nat.mod_eq_of_lt h] at e
    omega
  · rw [Nat.mod_eq_sub_mod (by omega), Nat.mod_eq_of_lt (by omega)] at e
    omega
theorem specPassed_inner {l : List Int} (hf : fresh l l.length = true) (hl : l.length ≤ 1000) (s : Nat) (hs : s < l.length) (out : List Int) (ho : out.length ≤ 1000) (v : List Int)
    (h : Ev (fun k => spec_elPassed.l0 k l (l.length : Int) (out ++ [(far l (s : Int) 1 (l.length : Int)).1]) l (l.length : Int) ((s + 1 : Nat) : Int)) v) :
    Ev (fun k => spec_elPassed.l1 k l (l.length : Int) out (s : Int) (rd l (s : Int)) 1 l (l.length : Int) (s : Int)) v := by
  have key := evUp0 (l.length - 1) (fun k (_ : Unit) (i : Nat) => spec_elPassed.l1 k l (l.length : Int) out (s : Int) (rd l (s : Int)) ((i : Int) + 1) l (l.length : Int) (s : Int))
    (fun i _ => (rch l (s : Int) 1 (l.length : Int) (l.length - i) ((i : Int) + 1)).1 = (far l (s : Int) 1 (l.length : Int)).1) v () (by unfold far; simp)
    (by
      intro i u hi hI
      have e : l.length - i = (l.length - (i + 1)) + 1 := by omega
      rw [e, rch] at hI
      have hst : stn l (s : Int) 1 ((i : Int) + 1) = (((s + (i + 1)) % l.length : Nat) : Int) := stn_one l s (i + 1)
      have hlt : (s + (i + 1)) % l.length < l.length := Nat.mod_lt _ (by omega)
      have hne := fresh_ne hf hlt hs (mod_ne s (i + 1) l.length hs (by omega) (by omega))
      have hm : Int.tmod (wrap64 ((s : Int) + ((i : Int) + 1))) (l.length : Int) = (((s + (i + 1)) % l.length : Nat) : Int) := by
        rw [w64 (by omega) (by omega), Int.tmod_eq_emod_of_nonneg (by omega)]
        norm_cast
      rw [hst] at hI
      clear hst
      generalize (s + (i + 1)) % l.length = q at hlt hne hm hI
      by_cases hc : rd l ((q : Nat) : Int) < rd l (s : Int)
      · rw [if_neg (by omega)] at hI
        refine .inl ⟨(), hI, fun h => evNext (fun k => ?_) h⟩
        show spec_elPassed.l1 (k + 1) l (l.length : Int) out (s : Int) (rd l (s : Int)) ((i : Int) + 1) l (l.length : Int) (s : Int) = spec_elPassed.l1 k l (l.length : Int) out (s : Int) (rd l (s : Int)) (((i + 1 : Nat) : Int) + 1) l (l.length : Int) (s : Int)
        simp only [spec_elPassed.l1]
        rw [hm, if_pos (by omega), if_neg (by omega), if_pos (by omega), if_pos (by omega), if_pos hc, w64 (by omega) (by omega)]
        rfl
      · rw [if_pos (by omega)] at hI
        refine .inr (evNext (fun k => ?_) h)
        show spec_elPassed.l1 (k + 1) l (l.length : Int) out (s : Int) (rd l (s : Int)) ((i : Int) + 1) l (l.length : Int) (s : Int) = _
        simp only [spec_elPassed.l1]
        rw [hm, if_pos (by omega), if_neg (by omega), if_pos (by omega), if_pos (by omega), if_neg hc, if_pos (by omega), w64 (by omega) (by omega), ← hI]
        rfl)
    (by
      intro u hI
      have e : l.length - (l.length - 1) = 1 := by omega
      have e2 : ((l.length - 1 : Nat) : Int) + 1 = (l.length : Int) := by omega
      rw [e, e2] at hI
      have hst : stn l (s : Int) 1 (l.length : Int) = (s : Int) := by
        rw [stn_one, Nat.add_mod_right, Nat.mod_eq_of_lt hs]
      simp only [rch] at hI
      rw [hst, if_neg (by omega)] at hI
      refine evNext (fun k => ?_) h
      show spec_elPassed.l1 (k + 1) l (l.length : Int) out (s : Int) (rd l (s : Int)) (((l.length - 1 : Nat) : Int) + 1) l (l.length : Int) (s : Int) = _
      rw [e2]
      simp only [spec_elPassed.l1]
      rw [if_neg (by omega), if_pos (by omega), w64 (by omega) (by omega), ← hI]
      rfl)
  exact key
theorem specPassed_ev {l : List Int} (hf : fresh l l.length = true) (hl : l.length ≤ 1000) : Ev (fun k => spec_elPassed.f k l) (passed l l.length) := by
  have key := evUp0 l.length (fun k (x : List Int) (i : Nat) => spec_elPassed.l0 k l (l.length : Int) x l (l.length : Int) (i : Int)) (fun i x => x = passed l i) (passed l l.length) [] rfl
    (by
      intro i x hi hI
      have hlen := passed_len l i
      rw [← hI] at hlen
      refine .inl ⟨passed l (i + 1), rfl, fun h => evNext (fun k => ?_) (specPassed_inner hf hl i hi x (by omega) _ (by rw [hI, ← passed_succ]; exact h))⟩
      show spec_elPassed.l0 (k + 1) l (l.length : Int) x l (l.length : Int) (i : Int) = _
      simp only [spec_elPassed.l0]
      rw [if_pos (by omega), if_pos (by omega), if_pos (by omega)])
    (by
      intro x hI
      refine evEnd fun k => ?_
      show spec_elPassed.l0 (k + 1) l (l.length : Int) x l (l.length : Int) (l.length : Int) = _
      simp only [spec_elPassed.l0]
      rw [if_neg (by omega), hI])
  exact key
end Go.Proofs.Ytbiiklkkfkipeaa.X
