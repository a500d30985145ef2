/- BothWays: the reference's side. -/
import Derived.Test.YtbiiklkkfkipeaaPlBoth
import Derived.Test.YtbiiklkkfkipeaaPlSent
import Derived.Test.YtbiiklkkfkipeaaX26
namespace Go.Proofs.Ytbiiklkkfkipeaa.X
set_option linter.unusedSimpArgs false
set_option linter.unusedVariables false
open Go.RowKit Go.Proofs.YtbiiklkkfkipeaaW.PrintWords
theorem specJ3 (l : List Int) (n c f : Int) (nx : List Int) (s : Int) (L : List Int) (ll i : Int) (A B : Int × Bool) (m : Nat) {mn : Int}
    (hle : spec_l1Least.f f n = some mn) (eB : spec_elSent.f (m + 1) l s (-1) mn = some (B.1, !B.2)) (eA : spec_elSent.f (m + 1) l s 1 mn = some (A.1, !A.2))
    (hc : 0 ≤ c ∧ c ≤ 1900000) (a1 : 0 ≤ A.1) (a2 : A.1 ≤ 24) (b1 : 0 ≤ B.1) (b2 : B.1 ≤ 24) (hn : nx.length ≤ 100) :
    spec_BothWays.j3 (m + 2) l n c f nx s L ll i false = spec_BothWays.l2 m l n (c + (ow A + ow B)) f (if (!A.2 && !B.2) = true then nx ++ [s] else nx) L ll (wrap64 (i + 1)) := by
  obtain ⟨A1, A2⟩ := A
  obtain ⟨B1, B2⟩ := B
  simp only at a1 a2 b1 b2 eA eB
  have w1 : wrap64 (B1 + A1) = B1 + A1 := w64 (by omega) (by omega)
  have w2 : wrap64 (c + (B1 + A1)) = c + (B1 + A1) := w64 (by omega) (by omega)
  have w3 : wrap64 (c + (B1 + A1) + B1) = c + (B1 + A1) + B1 := w64 (by omega) (by omega)
  have w4 : wrap64 (c + (B1 + A1) + A1) = c + (B1 + A1) + A1 := w64 (by omega) (by omega)
  have w5 : wrap64 (c + (B1 + A1) + B1 + A1) = c + (B1 + A1) + B1 + A1 := w64 (by omega) (by omega)
  have hn' : nx.length < 17592186044416 := by omega
  rw [show m + 2 = (m + 1) + 1 from rfl, spec_BothWays.j3.eq_2, if_neg (by simp), hle]
  simp only [Option.bind_some, eA, eB, w1, w2]
  cases A2 <;> cases B2 <;> simp only [Bool.not_true, Bool.not_false, Bool.false_eq_true, if_false, if_true, Bool.and_self, Bool.and_true, Bool.and_false, ow]
  · rw [spec_BothWays.j4.eq_2, if_pos rfl, if_pos rfl, if_pos hn', w3, w5]
    congr 1
    omega
  · rw [spec_BothWays.j4.eq_2, if_pos rfl, if_neg (by simp), w4]
    congr 1
    omega
  · rw [spec_BothWays.j4.eq_2, if_neg (by simp), if_pos rfl, w3]
    congr 1
    omega
  · rw [spec_BothWays.j4.eq_2, if_neg (by simp), if_neg (by simp)]
    congr 1
    omega
theorem specWays_in {l L : List Int} (hf : fresh l l.length = true) (h2 : 2 ≤ l.length) (hl : l.length ≤ 12) (f c : Int) (hff : 1 ≤ f ∧ f ≤ 24) (hc : 0 ≤ c ∧ c ≤ 1000000) (hL : L.length ≤ 12) (hLr : ∀ i : Nat, i < L.length → 0 ≤ rd L (i : Int) ∧ rd L (i : Int) < l.length) (v : Int × Bool)
    (h : Ev (fun k => spec_BothWays.l2 k l (l.length : Int) (bwTo l L f c L.length).1 f (bwTo l L f c L.length).2 L (L.length : Int) (L.length : Int)) v) :
    Ev (fun k => spec_BothWays.l2 k l (l.length : Int) c f [] L (L.length : Int) 0) v := by
  have key := evUp0 L.length (fun k (x : Int × List Int) (i : Nat) => spec_BothWays.l2 k l (l.length : Int) x.1 f x.2 L (L.length : Int) (i : Int)) (fun i x => x = bwTo l L f c i) v (c, []) rfl
    (by
      intro i x hi hI
      have hb := bwTo_bnd l L f c (by omega) hl hc.1 l.length hLr i (by omega)
      rw [← hI] at hb
      have hr := hLr i hi
      refine .inl ⟨bwTo l L f c (i + 1), rfl, fun h => ?_⟩
      obtain ⟨K, h⟩ := h
      obtain ⟨s, es⟩ : ∃ s : Nat, rd L (i : Int) = (s : Int) := ⟨(rd L (i : Int)).toNat, by omega⟩
      have hstep : bwTo l L f c (i + 1) = bwStep l f x (s : Int) := by rw [bwTo, ← hI, es]
      rw [hstep] at h
      rw [es] at hr
      have hs0 : (0 : Int) ≤ (s : Int) := hr.1
      have hs1 : (s : Int) < (l.length : Int) := hr.2
      have hl1 : l.length ≤ 1000 := by omega
      have hl2 : l.length ≤ 1048576 := by omega
      have hl3 : 0 < l.length := by omega
      have hxn : x.2.length ≤ 100 := by omega
      have hx1 : 0 ≤ x.1 ∧ x.1 ≤ 1900000 := by omega
      have hq1 : (i : Int) < (L.length : Int) := by omega
      have hq2 : (0 : Int) ≤ (i : Int) := by omega
      have hf0 : 0 ≤ f := by omega
      have hf1 : f ≤ 1000 := by omega
      have hwx := Aside0.mk (show wrap64 (x.1 + (l.length : Int)) = x.1 + (l.length : Int) from w64 (by omega) (by omega))
      have hw := Aside0.mk (show wrap64 ((i : Int) + 1) = ((i + 1 : Nat) : Int) from w64 (by omega) (by omega))
      obtain ⟨K1, e1⟩ := specWinner_ev l hl3 hl2
      have hmn : ∃ mn : Int, (0 ≤ mn ∧ mn ≤ 1000) ∧ spec_l1Least.f f (l.length : Int) = some mn ∧ (¬ (f ≥ (l.length : Int) ∧ s = top l l.length) → far l (s : Int) 1 mn = far l (s : Int) 1 f ∧ far l (s : Int) (-1) mn = far l (s : Int) (-1) f) := by
        refine ⟨(if f < (l.length : Int) then f else (l.length : Int)), by split <;> omega, by unfold spec_l1Least.f; split <;> rfl, fun hT => ⟨far_cut hf s (by omega) 1 (.inl rfl) f hT, far_cut hf s (by omega) (-1) (.inr rfl) f hT⟩⟩
      obtain ⟨mn, hmin, hle, hcut⟩ := hmn
      obtain ⟨K2, e2⟩ := specSent_ev l (s : Int) (-1) mn hs0 hs1 hl1 (.inr rfl) hmin.1 hmin.2
      obtain ⟨K3, e3⟩ := specSent_ev l (s : Int) 1 mn hs0 hs1 hl1 (.inl rfl) hmin.1 hmin.2
      dsimp only at e1 e2 e3 h
      have hgo : ∀ m, spec_BothWays.l2 (m + 1) l (l.length : Int) x.1 f x.2 L (L.length : Int) (i : Int) = if f ≥ (l.length : Int) then (spec_elWinner.f m l).bind fun t => spec_BothWays.j3 m l (l.length : Int) x.1 f x.2 (s : Int) L (L.length : Int) (i : Int) ((s : Int) == t) else spec_BothWays.j3 m l (l.length : Int) x.1 f x.2 (s : Int) L (L.length : Int) (i : Int) false := by
        intro m
        rw [spec_BothWays.l2.eq_2, if_pos hq1, if_pos hq2, if_pos hq1, es]
      refine ⟨K + K1 + K2 + K3 + 9, fun n hn => ?_⟩
      obtain ⟨m, rfl⟩ : ∃ m, n = m + 9 := ⟨n - 9, by omega⟩
      show spec_BothWays.l2 (m + 8 + 1) l (l.length : Int) x.1 f x.2 L (L.length : Int) (i : Int) = _
      rw [hgo]
      by_cases hT : f ≥ (l.length : Int) ∧ (s : Int) = ((top l l.length : Nat) : Int)
      · rw [if_pos hT.1, e1 _ (by omega)]
        simp only [Option.bind_some]
        rw [show ((s : Int) == ((top l l.length : Nat) : Int)) = true from by simp [hT.2], spec_BothWays.j3.eq_2, if_pos rfl, hwx.out, hw.out]
        have := h (m + 7) (by omega)
        unfold bwStep at this
        rw [if_pos hT] at this
        exact this
      · have hj : (if f ≥ (l.length : Int) then (spec_elWinner.f (m + 8) l).bind fun t => spec_BothWays.j3 (m + 8) l (l.length : Int) x.1 f x.2 (s : Int) L (L.length : Int) (i : Int) ((s : Int) == t) else spec_BothWays.j3 (m + 8) l (l.length : Int) x.1 f x.2 (s : Int) L (L.length : Int) (i : Int) false) = spec_BothWays.j3 (m + 8) l (l.length : Int) x.1 f x.2 (s : Int) L (L.length : Int) (i : Int) false := by
          split
          · rename_i hge
            rw [e1 _ (by omega)]
            simp only [Option.bind_some]
            rw [show ((s : Int) == ((top l l.length : Nat) : Int)) = false from by simp; exact fun e => hT ⟨hge, by omega⟩]
          · rfl
        have hT' : ¬ (f ≥ (l.length : Int) ∧ s = top l l.length) := fun e => hT ⟨e.1, by omega⟩
        obtain ⟨c1, c2⟩ := hcut hT'
        rw [c1] at e3
        rw [c2] at e2
        have b1 := far_bnd l (s : Int) 1 f hf0
        have b2 := far_bnd l (s : Int) (-1) f hf0
        have := h (m + 6) (by omega)
        unfold bwStep oneWay stays at this
        rw [if_neg hT] at this
        rw [hj, specJ3 l (l.length : Int) x.1 f x.2 (s : Int) L (L.length : Int) (i : Int) (far l (s : Int) 1 f) (far l (s : Int) (-1) f) (m + 6) hle (e2 _ (by omega)) (e3 _ (by omega)) hx1 b1.1 (Int.le_trans b1.2 hff.2) b2.1 (Int.le_trans b2.2 hff.2) hxn, hw.out]
        exact this)
    (by
      intro x hI
      rw [hI]
      exact h)
  exact key
end Go.Proofs.Ytbiiklkkfkipeaa.X
