/- CountOneToken: the program and the reference come to the same. -/
import Derived.Test.YtjfjpfgnclnehaaPlHolders
import Derived.Test.YtjfjpfgnclnehaaPlLists
import Derived.Test.YtjfjpfgnclnehaaX11
import Derived.Test.YtjfjpfgnclnehaaX13
namespace Go.Proofs.Ytjfjpfgnclnehaa.X
set_option linter.unusedSimpArgs false
set_option linter.unusedVariables false
open Go.RowKit Go.Proofs.YtjfjpfgnclnehaaW.PrintWords Go.Proofs.YtjfjpfgnclnehaaW.PrintLast
/-- Just one holder. -/
def one (l : List Int) : Bool := ((hs l l.length).length : Int) == 1
def cnt (L : List (List Int)) : Int := ((L.filter one).length : Int)
theorem cnt_append (a b : List (List Int)) : cnt (a ++ b) = cnt a + cnt b := by simp [cnt]
theorem cnt_bound (a : List (List Int)) : 0 ≤ cnt a ∧ cnt a ≤ a.length := by
  have := List.length_filter_le one a
  unfold cnt
  omega
theorem cnt_one (s : List Int) : cnt [s] = if one s = true then 1 else 0 := by
  unfold cnt
  cases h : one s <;> simp [List.filter_cons, h]
theorem spec_count_l0 (L : List (List Int)) (hL : L.length ≤ 100000) (hs : ∀ s ∈ L, s.length ≤ 900) : Ev (fun K => spec_CountOneToken.l0 K 0 L (L.length : Int) 0) (cnt L, true) :=
  evUp0 L.length (fun K (c : Int) (i : Nat) => spec_CountOneToken.l0 K c L (L.length : Int) (i : Int)) (fun i c => c = cnt (L.take i)) (cnt L, true) 0 rfl
    (by
      intro i c hi hI
      have hb := cnt_bound (L.take i)
      rw [List.length_take] at hb
      have hci : c ≤ 100000 := by omega
      have hc0 : 0 ≤ c := by omega
      refine .inl ⟨cnt (L.take (i + 1)), rfl, fun h => ?_⟩
      refine evCall (specHolders_ev L[i] (by have := hs _ (List.getElem_mem hi); omega)) (fun K hK => ?_) h
      show spec_CountOneToken.l0 (K + 1) c L (L.length : Int) (i : Int) = spec_CountOneToken.l0 K (cnt (L.take (i + 1))) L (L.length : Int) (i + 1 : Nat)
      simp only [spec_CountOneToken.l0]
      rw [if_pos (by omega), if_pos (by omega), if_pos (by omega), rdL2_at L i hi, hK]
      simp only [Option.bind_some]
      have e1 : cnt (L.take (i + 1)) = c + if one L[i] = true then 1 else 0 := by
        rw [List.take_succ_eq_append_getElem hi, cnt_append, cnt_one, hI]
      rw [e1, w64 (by omega) (by omega), w64 (by omega) (by omega)]
      by_cases h1 : one L[i] = true
      · rw [if_pos h1, if_pos (by simpa [one] using h1)]
        rfl
      · rw [if_neg h1, if_neg (by simpa [one] using h1), Int.add_zero]
        rfl)
    (by
      intro c hI
      refine evEnd fun K => ?_
      show spec_CountOneToken.l0 (K + 1) c L (L.length : Int) (L.length : Int) = _
      simp only [spec_CountOneToken.l0]
      rw [if_neg (by omega), hI, List.take_length])
theorem visit_ev (l : List Int) (hl : l.length ≤ 900) (c : Int) (h0 : 0 ≤ c) (h1 : c ≤ 1000000) : Ev (fun K => impl_CountOneToken_1.f K l c) (c + cnt [l]) := by
  obtain ⟨K, e⟩ := implHolders_ev l (by omega)
  dsimp only at e
  refine ⟨K, fun n hn => ?_⟩
  show impl_CountOneToken_1.f n l c = _
  simp only [impl_CountOneToken_1.f]
  rw [e n hn, cnt_one]
  simp only [Option.bind_some]
  by_cases h : one l = true
  · rw [if_pos h, if_pos (by simpa [one] using h), w64 (by omega) (by omega)]
  · rw [if_neg h, if_neg (by simpa [one] using h), Int.add_zero]
theorem app_eq (l : List Int) (x : Int) (h : l.length ≤ 900) : appFull.f l x = some (l ++ [x]) := by
  unfold appFull.f
  rw [if_pos (by omega)]
/-- All states that go on s: each is visited once. -/
theorem allStates_ev (n kn : Nat) (hn : n ≤ 900) (hk : kn ≤ 900) : ∀ (m : Nat) (s : List Int) (c : Int), s.length + m = n → 0 ≤ c → c + (kn : Int) ^ m ≤ 1000000 →
    Ev (fun K => impl_allStatesC.f K (n : Int) (kn : Int) s c) (c + cnt (exts kn m s)) := by
  intro m
  induction m with
  | zero =>
    intro s c hs h0 h1
    simp only [Int.pow_zero] at h1
    refine evCallEnd (visit_ev s (by omega) c h0 (by omega)) (fun K hK => ?_)
    show impl_allStatesC.f (K + 1) (n : Int) (kn : Int) s c = _
    simp only [impl_allStatesC.f]
    rw [if_pos (by omega), hK]
    rfl
  | succ m ih =>
    intro s c hs h0 h1
    have hP : (0 : Int) ≤ (kn : Int) ^ m := Int.pow_nonneg (by omega)
    have hpe : (kn : Int) ^ (m + 1) = (kn : Int) * (kn : Int) ^ m := by rw [Int.pow_succ, Int.mul_comm]
    rw [hpe] at h1
    have key := evUp0 kn (fun K (d : Int) (i : Nat) => impl_allStatesC.l0 K (n : Int) (kn : Int) s (kn : Int) (i : Int) d) (fun i d => d = c + cnt ((List.range i).flatMap (fun (x : Nat) => exts kn m (s ++ [(x : Int)])))) (c + cnt (exts kn (m + 1) s)) c (by simp [cnt])
      (by
        intro i d hi hI
        have hb := cnt_bound ((List.range i).flatMap (fun (x : Nat) => exts kn m (s ++ [(x : Int)])))
        have hlen : ((List.range i).flatMap (fun (x : Nat) => exts kn m (s ++ [(x : Int)]))).length = i * kn ^ m := by
          simp only [List.length_flatMap, exts_len]
          rw [sum_const, List.length_range]
        rw [hlen] at hb
        have hcast : ((i * kn ^ m : Nat) : Int) = (i : Int) * (kn : Int) ^ m := by simp
        rw [hcast] at hb
        have hle : ((i : Int) + 1) * (kn : Int) ^ m ≤ (kn : Int) * (kn : Int) ^ m := Int.mul_le_mul_of_nonneg_right (by omega) hP
        rw [Int.add_mul, Int.one_mul] at hle
        have hx := ih (s ++ [(i : Int)]) d (by simp; omega) (by omega) (by omega)
        refine .inl ⟨d + cnt (exts kn m (s ++ [(i : Int)])), ?_, fun h => ?_⟩
        · rw [List.range_succ, List.flatMap_append, cnt_append, hI]
          simp only [List.flatMap_cons, List.flatMap_nil, List.append_nil]
          omega
        · refine evCall hx (fun K hK => ?_) h
          show impl_allStatesC.l0 (K + 1) (n : Int) (kn : Int) s (kn : Int) (i : Int) d = impl_allStatesC.l0 K (n : Int) (kn : Int) s (kn : Int) (i + 1 : Nat) (d + cnt (exts kn m (s ++ [(i : Int)])))
          simp only [impl_allStatesC.l0]
          rw [if_pos (by omega), app_eq s _ (by omega)]
          simp only [Option.bind_some]
          rw [hK, w64 (by omega) (by omega)]
          rfl)
      (by
        intro d hI
        refine evEnd fun K => ?_
        show impl_allStatesC.l0 (K + 1) (n : Int) (kn : Int) s (kn : Int) (kn : Int) d = _
        simp only [impl_allStatesC.l0]
        rw [if_neg (by omega), hI]
        rfl)
    refine evNext (fun K => ?_) key
    show impl_allStatesC.f (K + 1) (n : Int) (kn : Int) s c = _
    simp only [impl_allStatesC.f]
    rw [if_neg (by omega)]
    rfl
theorem CountOneToken_same (n k : Int) : ∃ v, Ev (fun K => spec_CountOneToken.f K n k) v ∧ Ev (fun K => impl_CountOneToken.f K n k) v := by
  by_cases hn : inB 2 5 n = true
  · by_cases hk : inB 2 5 k = true
    · have bn := inB_iff.1 hn
      have bk := inB_iff.1 hk
      obtain ⟨nn, rfl⟩ : ∃ m : Nat, n = (m : Int) := ⟨n.toNat, by omega⟩
      obtain ⟨kn, rfl⟩ : ∃ m : Nat, k = (m : Int) := ⟨k.toNat, by omega⟩
      have hp : kn ^ nn ≤ 3125 := by
        have h1 : kn ^ nn ≤ 5 ^ nn := Nat.pow_le_pow_left (by omega) nn
        have h2 : 5 ^ nn ≤ 5 ^ 5 := Nat.pow_le_pow_right (by omega) (by omega)
        omega
      have hp' : (kn : Int) ^ nn ≤ 3125 := by
        have : ((kn ^ nn : Nat) : Int) = (kn : Int) ^ nn := by simp
        omega
      obtain ⟨K1, e1⟩ := elAll_ev nn kn (by omega) (by omega)
      obtain ⟨K2, e2⟩ := spec_count_l0 (exts kn nn []) (by rw [exts_len]; omega) (by
        intro s hs
        have := exts_each kn nn [] s hs
        simp at this
        omega)
      obtain ⟨K3, e3⟩ := allStates_ev nn kn (by omega) (by omega) nn [] 0 (by simp) (by omega) (by omega)
      dsimp only at e1 e2 e3
      refine ⟨(cnt (exts kn nn []), true), ⟨K1 + K2 + 9, fun m hm => ?_⟩, ⟨K3 + 9, fun m hm => ?_⟩⟩
      · obtain ⟨q, rfl⟩ : ∃ q, m = q + 1 := ⟨m - 1, by omega⟩
        simp only [spec_CountOneToken.f, l1In_eq, hn, hk, Option.bind_some, if_true, Bool.not_true]
        rw [spec_CountOneToken.j0.eq_2]
        simp (disch := omega) only [e1, Option.bind_some, Bool.false_eq_true, if_false]
        rw [e2 q (by omega)]
      · simp only [impl_CountOneToken.f, within_eq, hn, hk, Option.bind_some, if_true]
        show (Option.bind (impl_allStatesC.f m _ _ _ _) _) = _
        rw [e3 m (by omega)]
        simp
    · refine ⟨(0, false), ⟨9, fun m hm => ?_⟩, ⟨9, fun m hm => ?_⟩⟩
      · obtain ⟨q, rfl⟩ : ∃ q, m = q + 1 := ⟨m - 1, by omega⟩
        simp only [spec_CountOneToken.f, l1In_eq, hn, Option.bind_some, if_true, Bool.eq_false_iff.mpr hk, Bool.not_false]
        rw [spec_CountOneToken.j0.eq_2]
        simp
      · simp [impl_CountOneToken.f, within_eq, hn, hk]
  · refine ⟨(0, false), ⟨9, fun m hm => ?_⟩, ⟨9, fun m hm => ?_⟩⟩
    · obtain ⟨q, rfl⟩ : ∃ q, m = q + 1 := ⟨m - 1, by omega⟩
      simp only [spec_CountOneToken.f, l1In_eq, Option.bind_some, Bool.eq_false_iff.mpr hn, Bool.false_eq_true, if_false]
      rw [spec_CountOneToken.j0.eq_2]
      simp
    · simp [impl_CountOneToken.f, within_eq, hn]
end Go.Proofs.Ytjfjpfgnclnehaa.X
