/- BothWays: the program and the reference come to the same. -/
import Derived.Test.YtbiiklkkfkipeaaPlBothSpec
import Derived.Test.YtbiiklkkfkipeaaPlBothImpl
namespace Go.Proofs.Ytbiiklkkfkipeaa.X
set_option linter.unusedSimpArgs false
set_option linter.unusedVariables false
open Go.RowKit Go.Proofs.YtbiiklkkfkipeaaW.PrintWords
theorem bothOut {l : List Int} (hf : fresh l l.length = true) (h2 : 2 ≤ l.length) (hl : l.length ≤ 12) : ∀ (d : Nat) (f c : Int) (L : List Int), d ≤ 4 → (l.length : Int) ≤ f * 2 ^ d → (1 ≤ f ∧ f ≤ 24) → (0 ≤ c ∧ c ≤ 1000000 - 100000 * d) → L.length ≤ 12 → (∀ i : Nat, i < L.length → 0 ≤ rd L (i : Int) ∧ rd L (i : Int) < l.length) →
    ∃ v, Ev (fun k => spec_BothWays.l1 k l (l.length : Int) L c f) v ∧ Ev (fun k => impl_BothWays.l1 k l (l.length : Int) L c f) v := by
  intro d
  induction d with
  | zero =>
    intro f c L _ hd hff hc hL hLr
    have hge : f ≥ (l.length : Int) := by simp at hd; omega
    refine ⟨((bwTo l L f c L.length).1, true), ?_, ?_⟩
    · refine evNext (fun k => by rw [spec_BothWays.l1.eq_2]) (specWays_in hf h2 hl f c hff (by omega) hL hLr _ (evEnd fun k => ?_))
      rw [spec_BothWays.l2.eq_2, if_neg (by omega), if_pos hge]
    · refine evNext (fun k => by rw [impl_BothWays.l1.eq_2]) (implWays_in hf h2 hl f c hff (by omega) hL hLr _ (evEnd fun k => ?_))
      rw [impl_BothWays.l2.eq_2, if_neg (by omega), if_pos hge]
  | succ d ih =>
    intro f c L hdd hd hff hc hL hLr
    by_cases hge : f ≥ (l.length : Int)
    · refine ⟨((bwTo l L f c L.length).1, true), ?_, ?_⟩
      · refine evNext (fun k => by rw [spec_BothWays.l1.eq_2]) (specWays_in hf h2 hl f c hff (by omega) hL hLr _ (evEnd fun k => ?_))
        rw [spec_BothWays.l2.eq_2, if_neg (by omega), if_pos hge]
      · refine evNext (fun k => by rw [impl_BothWays.l1.eq_2]) (implWays_in hf h2 hl f c hff (by omega) hL hLr _ (evEnd fun k => ?_))
        rw [impl_BothWays.l2.eq_2, if_neg (by omega), if_pos hge]
    · have hb := bwTo_bnd l L f c (by omega) hl hc.1 l.length hLr L.length (Nat.le_refl _)
      obtain ⟨hb1, hb2, hb3, hb4⟩ := hb
      have hpow : (l.length : Int) ≤ f * 2 * 2 ^ d := by
        rw [Int.mul_assoc, Int.mul_comm 2, ← Int.pow_succ]
        exact hd
      obtain ⟨v, e1, e2⟩ := ih (f * 2) (bwTo l L f c L.length).1 (bwTo l L f c L.length).2 (by omega) hpow (by omega) (by omega) (by omega) (fun i hi => by
        rw [rd_at _ i hi]
        exact hb4 _ (List.getElem_mem hi))
      refine ⟨v, ?_, ?_⟩
      · refine evNext (fun k => by rw [spec_BothWays.l1.eq_2]) (specWays_in hf h2 hl f c hff (by omega) hL hLr v (evNext (fun k => ?_) e1))
        rw [spec_BothWays.l2.eq_2, if_neg (by omega), if_neg hge, w64 (by omega) (by omega)]
      · refine evNext (fun k => by rw [impl_BothWays.l1.eq_2]) (implWays_in hf h2 hl f c hff (by omega) hL hLr v (evNext (fun k => ?_) e2))
        rw [impl_BothWays.l2.eq_2, if_neg (by omega), if_neg hge, w64 (by omega) (by omega)]
def idxs (n : Nat) : List Int := (List.range n).map (fun (i : Nat) => (i : Int))
theorem idxs_len (n : Nat) : (idxs n).length = n := by simp [idxs]
theorem idxs_succ (n : Nat) : idxs (n + 1) = idxs n ++ [(n : Int)] := by simp [idxs, List.range_succ]
theorem idxs_rd (n i : Nat) (h : i < n) : rd (idxs n) (i : Int) = (i : Int) := by
  rw [rd_at _ i (by rw [idxs_len]; exact h)]
  simp [idxs]
theorem BothWays_same (l : List Int) (h : (l.length ≤ maxLen ∧ l.length * 8 ≤ 140737488351232 ∧ (∀ x ∈ l, (Lit.int .i64 x).wf = true) ∧ l.length ≤ 1048576)) :
    ∃ v, Ev (fun k => spec_BothWays.f k l) v ∧ Ev (fun k => impl_BothWays.f k l) v := by
  obtain ⟨K, e⟩ := specNames_ev l h.2.2.2
  obtain ⟨K', e'⟩ := implNames_ev l h.2.2.2
  dsimp only at e e'
  cases hk : isNm l with
  | true =>
    rw [hk] at e e'
    have hb := isNm_iff hk
    obtain ⟨v, g1, g2⟩ := bothOut hb.2.2.2 hb.1 hb.2.1 4 1 0 (idxs l.length) (by omega) (by have := hb.2.1; omega) (by omega) (by omega) (by rw [idxs_len]; exact hb.2.1) (fun i hi => by
      rw [idxs_len] at hi
      rw [idxs_rd _ i hi]
      omega)
    have k1 := evUp0 l.length (fun k (x : List Int) (i : Nat) => spec_BothWays.l0 k l (l.length : Int) x (l.length : Int) (i : Int)) (fun i x => x = idxs i) v [] rfl
      (by
        intro i x hi hI
        have hx := idxs_len i
        rw [← hI] at hx
        refine .inl ⟨idxs (i + 1), rfl, fun h => evNext (fun k => ?_) h⟩
        show spec_BothWays.l0 (k + 1) l (l.length : Int) x (l.length : Int) (i : Int) = spec_BothWays.l0 k l (l.length : Int) (idxs (i + 1)) (l.length : Int) ((i + 1 : Nat) : Int)
        rw [spec_BothWays.l0.eq_2, if_pos (by omega), if_pos (by omega), w64 (by omega) (by omega), idxs_succ, hI]
        rfl)
      (by
        intro x hI
        rw [hI]
        refine evNext (fun k => ?_) g1
        show spec_BothWays.l0 (k + 1) l (l.length : Int) (idxs l.length) (l.length : Int) (l.length : Int) = _
        rw [spec_BothWays.l0.eq_2, if_neg (by omega)])
    have k2 := evUp0 l.length (fun k (x : List Int) (i : Nat) => impl_BothWays.l0 k l (l.length : Int) x 0 (l.length : Int) (i : Int)) (fun i x => x = idxs i) v [] rfl
      (by
        intro i x hi hI
        have hx := idxs_len i
        rw [← hI] at hx
        refine .inl ⟨idxs (i + 1), rfl, fun h => evNext (fun k => ?_) h⟩
        show impl_BothWays.l0 (k + 1) l (l.length : Int) x 0 (l.length : Int) (i : Int) = impl_BothWays.l0 k l (l.length : Int) (idxs (i + 1)) 0 (l.length : Int) ((i + 1 : Nat) : Int)
        rw [impl_BothWays.l0.eq_2, if_pos (by omega), if_pos (by omega), w64 (by omega) (by omega), idxs_succ, hI]
        rfl)
      (by
        intro x hI
        rw [hI]
        refine evNext (fun k => ?_) g2
        show impl_BothWays.l0 (k + 1) l (l.length : Int) (idxs l.length) 0 (l.length : Int) (l.length : Int) = _
        rw [impl_BothWays.l0.eq_2, if_neg (by omega)])
    obtain ⟨K1, e1⟩ := k1
    obtain ⟨K2, e2⟩ := k2
    refine ⟨v, ⟨K + K1, fun n hn => ?_⟩, ⟨K' + K2, fun n hn => ?_⟩⟩
    · simp (disch := omega) only [spec_BothWays.f, e, Option.bind_some, if_true]
      exact e1 n (by omega)
    · simp (disch := omega) only [impl_BothWays.f, e', Option.bind_some, if_true]
      exact e2 n (by omega)
  | false =>
    rw [hk] at e e'
    refine ⟨(0, false), ⟨K + 9, fun n hn => ?_⟩, ⟨K' + 9, fun n hn => ?_⟩⟩
    · simp (disch := omega) [spec_BothWays.f, e]
    · simp (disch := omega) [impl_BothWays.f, e']
end Go.Proofs.Ytbiiklkkfkipeaa.X
