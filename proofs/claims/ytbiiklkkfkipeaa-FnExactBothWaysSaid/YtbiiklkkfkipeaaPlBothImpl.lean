/- BothWays: the program's side. -/
import Derived.Test.YtbiiklkkfkipeaaPlBoth
import Derived.Test.YtbiiklkkfkipeaaX27
namespace Go.Proofs.Ytbiiklkkfkipeaa.X
set_option linter.unusedSimpArgs false
set_option linter.unusedVariables false
open Go.RowKit Go.Proofs.YtbiiklkkfkipeaaW.PrintWords
theorem implL3 (l : List Int) (n c f : Int) (nx : List Int) (s t : Int) (L : List Int) (ll i : Int) (j : Nat) (hj : j < 2) (A : Int × Bool) (m : Nat)
    (eA : impl_reach.f m l s (rd [1, -1] (j : Int)) f = some A) (hc : 0 ≤ c ∧ c ≤ 2000000) (a1 : 0 ≤ A.1) (a2 : A.1 ≤ 24) (ht : 0 ≤ t ∧ t ≤ 2) :
    impl_BothWays.l3 (m + 1) l n c f nx s t L ll i [1, -1] 2 (j : Int) = impl_BothWays.l3 m l n (c + ow A) f nx s (if A.2 = true then t else t + 1) L ll i [1, -1] 2 ((j + 1 : Nat) : Int) := by
  have hlen : (([1, -1] : List Int).length : Int) = 2 := rfl
  obtain ⟨A1, A2⟩ := A
  simp only at a1 a2 eA
  have w1 : wrap64 (c + A1) = c + A1 := w64 (by omega) (by omega)
  have w2 : wrap64 (c + A1 + A1) = c + A1 + A1 := w64 (by omega) (by omega)
  have w3 : wrap64 (t + 1) = t + 1 := w64 (by omega) (by omega)
  have w4 : wrap64 ((j : Int) + 1) = ((j + 1 : Nat) : Int) := w64 (by omega) (by omega)
  rw [impl_BothWays.l3.eq_2, if_pos (by omega), if_pos (by omega), if_pos (by rw [hlen]; omega), eA]
  simp only [Option.bind_some, w1, w2, w3, w4]
  cases A2 <;> simp only [Bool.false_eq_true, if_false, if_true, ow]
  congr 1
  omega
theorem implJ3 (l : List Int) (n c f : Int) (nx : List Int) (s : Int) (L : List Int) (ll i : Int) (A B : Int × Bool) (m : Nat)
    (eB : impl_reach.f (m + 1) l s (-1) f = some B) (eA : impl_reach.f (m + 2) l s 1 f = some A)
    (hc : 0 ≤ c ∧ c ≤ 1900000) (a1 : 0 ≤ A.1) (a2 : A.1 ≤ 24) (b1 : 0 ≤ B.1) (b2 : B.1 ≤ 24) (hn : nx.length ≤ 100) :
    impl_BothWays.j3 (m + 4) l n c f nx s L ll i false = impl_BothWays.l2 m l n (c + (ow A + ow B)) f (if (!A.2 && !B.2) = true then nx ++ [s] else nx) L ll (wrap64 (i + 1)) := by
  have hlen : (([1, -1] : List Int).length : Int) = 2 := rfl
  have hn' : nx.length < 17592186044416 := by omega
  have hA : 0 ≤ ow A ∧ ow A ≤ 48 := by unfold ow; split <;> omega
  have e0 := implL3 l n c f nx s 0 L ll i 0 (by omega) A (m + 2) eA (by omega) a1 a2 (by omega)
  have e1 := implL3 l n (c + ow A) f nx s (if A.2 = true then 0 else 0 + 1) L ll i 1 (by omega) B (m + 1) eB (by omega) b1 b2 (by split <;> omega)
  rw [show m + 4 = (m + 3) + 1 from rfl, impl_BothWays.j3.eq_2, if_neg (by simp)]
  simp only [Option.bind_some]
  rw [hlen]
  have e0' : impl_BothWays.l3 (m + 3) l n c f nx s 0 L ll i [1, -1] 2 0 = _ := e0
  rw [e0']
  have e1' : impl_BothWays.l3 (m + 2) l n (c + ow A) f nx s (if A.2 = true then 0 else 0 + 1) L ll i [1, -1] 2 ((0 + 1 : Nat) : Int) = _ := e1
  rw [e1', impl_BothWays.l3.eq_2, if_neg (by omega)]
  obtain ⟨A1, A2⟩ := A
  obtain ⟨B1, B2⟩ := B
  have ec : c + ow (A1, A2) + ow (B1, B2) = c + (ow (A1, A2) + ow (B1, B2)) := by omega
  rw [ec]
  cases A2 <;> cases B2 <;> simp only [Bool.not_true, Bool.not_false, Bool.false_eq_true, if_false, if_true, Bool.and_self, Bool.and_true, Bool.and_false]
  · rw [if_pos (by omega), if_pos hn']
  · rw [if_neg (by omega)]
  · rw [if_neg (by omega)]
  · rw [if_neg (by omega)]
theorem implWays_in {l L : List Int} (hf : fresh l l.length = true) (h2 : 2 ≤ l.length) (hl : l.length ≤ 12) (f c : Int) (hff : 1 ≤ f ∧ f ≤ 24) (hc : 0 ≤ c ∧ c ≤ 1000000) (hL : L.length ≤ 12) (hLr : ∀ i : Nat, i < L.length → 0 ≤ rd L (i : Int) ∧ rd L (i : Int) < l.length) (v : Int × Bool)
    (h : Ev (fun k => impl_BothWays.l2 k l (l.length : Int) (bwTo l L f c L.length).1 f (bwTo l L f c L.length).2 L (L.length : Int) (L.length : Int)) v) :
    Ev (fun k => impl_BothWays.l2 k l (l.length : Int) c f [] L (L.length : Int) 0) v := by
  have key := evUp0 L.length (fun k (x : Int × List Int) (i : Nat) => impl_BothWays.l2 k l (l.length : Int) x.1 f x.2 L (L.length : Int) (i : Int)) (fun i x => x = bwTo l L f c i) v (c, []) rfl
    (by
      intro i x hi hI
      have hb := bwTo_bnd l L f c (by omega) hl hc.1 l.length hLr i (by omega)
      rw [← hI] at hb
      have hr := hLr i hi
      refine .inl ⟨bwTo l L f c (i + 1), rfl, fun h => ?_⟩
      obtain ⟨K, h⟩ := h
      obtain ⟨s, es⟩ : ∃ s : Nat, rd L (i : Int) = (s : Int) := ⟨(rd L (i : Int)).toNat, by omega⟩
      have hstep : bwTo l L f c (i + 1) = bwStep l f x (s : Int) := by rw [bwTo, ← hI, es]
      rw [hstep] at h
      rw [es] at hr
      have hs0 : (0 : Int) ≤ (s : Int) := hr.1
      have hs1 : (s : Int) < (l.length : Int) := hr.2
      have hl1 : l.length ≤ 1000 := by omega
      have hl2 : l.length ≤ 1048576 := by omega
      have hl3 : 0 < l.length := by omega
      have hxn : x.2.length ≤ 100 := by omega
      have hx1 : 0 ≤ x.1 ∧ x.1 ≤ 1900000 := by omega
      have hq1 : (i : Int) < (L.length : Int) := by omega
      have hq2 : (0 : Int) ≤ (i : Int) := by omega
      have hf0 : 0 ≤ f := by omega
      have hf1 : f ≤ 1000 := by omega
      have hwx := Aside0.mk (show wrap64 (x.1 + (l.length : Int)) = x.1 + (l.length : Int) from w64 (by omega) (by omega))
      have hw := Aside0.mk (show wrap64 ((i : Int) + 1) = ((i + 1 : Nat) : Int) from w64 (by omega) (by omega))
      obtain ⟨K1, e1⟩ := implWinner_ev l hl3 hl2 hf
      obtain ⟨K2, e2⟩ := implReach_ev l (s : Int) (-1) f hs0 hs1 hl1 (.inr rfl) hf0 hf1
      obtain ⟨K3, e3⟩ := implReach_ev l (s : Int) 1 f hs0 hs1 hl1 (.inl rfl) hf0 hf1
      dsimp only at e1 e2 e3 h
      have hgo : ∀ m, impl_BothWays.l2 (m + 1) l (l.length : Int) x.1 f x.2 L (L.length : Int) (i : Int) = if f ≥ (l.length : Int) then (impl_winner.f m l).bind fun t => impl_BothWays.j3 m l (l.length : Int) x.1 f x.2 (s : Int) L (L.length : Int) (i : Int) ((s : Int) == t) else impl_BothWays.j3 m l (l.length : Int) x.1 f x.2 (s : Int) L (L.length : Int) (i : Int) false := by
        intro m
        rw [impl_BothWays.l2.eq_2, if_pos hq1, if_pos hq2, if_pos hq1, es]
      refine ⟨K + K1 + K2 + K3 + 9, fun n hn => ?_⟩
      obtain ⟨m, rfl⟩ : ∃ m, n = m + 9 := ⟨n - 9, by omega⟩
      show impl_BothWays.l2 (m + 8 + 1) l (l.length : Int) x.1 f x.2 L (L.length : Int) (i : Int) = _
      rw [hgo]
      by_cases hT : f ≥ (l.length : Int) ∧ (s : Int) = ((top l l.length : Nat) : Int)
      · rw [if_pos hT.1, e1 _ (by omega)]
        simp only [Option.bind_some]
        rw [show ((s : Int) == ((top l l.length : Nat) : Int)) = true from by simp [hT.2], impl_BothWays.j3.eq_2, if_pos rfl, hwx.out, hw.out]
        have := h (m + 7) (by omega)
        unfold bwStep at this
        rw [if_pos hT] at this
        exact this
      · have hj : (if f ≥ (l.length : Int) then (impl_winner.f (m + 8) l).bind fun t => impl_BothWays.j3 (m + 8) l (l.length : Int) x.1 f x.2 (s : Int) L (L.length : Int) (i : Int) ((s : Int) == t) else impl_BothWays.j3 (m + 8) l (l.length : Int) x.1 f x.2 (s : Int) L (L.length : Int) (i : Int) false) = impl_BothWays.j3 (m + 8) l (l.length : Int) x.1 f x.2 (s : Int) L (L.length : Int) (i : Int) false := by
          split
          · rename_i hge
            rw [e1 _ (by omega)]
            simp only [Option.bind_some]
            rw [show ((s : Int) == ((top l l.length : Nat) : Int)) = false from by simp; exact fun e => hT ⟨hge, by omega⟩]
          · rfl
        have b1 := far_bnd l (s : Int) 1 f hf0
        have b2 := far_bnd l (s : Int) (-1) f hf0
        have := h (m + 4) (by omega)
        unfold bwStep oneWay stays at this
        rw [if_neg hT] at this
        rw [hj, implJ3 l (l.length : Int) x.1 f x.2 (s : Int) L (L.length : Int) (i : Int) (far l (s : Int) 1 f) (far l (s : Int) (-1) f) (m + 4) (e2 _ (by omega)) (e3 _ (by omega)) hx1 b1.1 (Int.le_trans b1.2 hff.2) b2.1 (Int.le_trans b2.2 hff.2) hxn, hw.out]
        exact this)
    (by
      intro x hI
      rw [hI]
      exact h)
  exact key
end Go.Proofs.Ytbiiklkkfkipeaa.X
