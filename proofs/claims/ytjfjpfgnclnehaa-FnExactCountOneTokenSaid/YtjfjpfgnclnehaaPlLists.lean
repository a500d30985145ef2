/- Plain lemmas: all lists of n numbers below k, in order, made in two ways. -/
import Derived.Test.YtjfjpfgnclnehaaPlEv
import Derived.Test.YtjfjpfgnclnehaaX10
import Derived.Test.YtjfjpfgnclnehaaX9
namespace Go.Proofs.Ytjfjpfgnclnehaa.X
set_option linter.unusedSimpArgs false
set_option linter.unusedVariables false
open Go.RowKit Go.Proofs.YtjfjpfgnclnehaaW.PrintWords Go.Proofs.YtjfjpfgnclnehaaW.PrintLast
/-- A list with each number below k behind it. -/
def grow (k : Nat) (s : List Int) : List (List Int) := (List.range k).map (fun (x : Nat) => s ++ [(x : Int)])
/-- All lists that go on s by m numbers below k. -/
def exts (k : Nat) : Nat → List Int → List (List Int)
  | 0, s => [s]
  | m + 1, s => (List.range k).flatMap (fun (x : Nat) => exts k m (s ++ [(x : Int)]))
theorem exts_grow (k : Nat) : ∀ (m : Nat) (s : List Int), (exts k m s).flatMap (grow k) = exts k (m + 1) s := by
  intro m
  induction m with
  | zero =>
    intro s
    simp only [exts, List.flatMap_cons, List.flatMap_nil, List.append_nil, grow]
    induction (List.range k) with
    | nil => rfl
    | cons a l ih => simp [ih]
  | succ m ih =>
    intro s
    show ((List.range k).flatMap (fun (x : Nat) => exts k m (s ++ [(x : Int)]))).flatMap (grow k) = (List.range k).flatMap (fun (x : Nat) => exts k (m + 1) (s ++ [(x : Int)]))
    rw [List.flatMap_assoc]
    congr 1
    funext x
    exact ih _
theorem sum_const {α : Type} (c : Nat) (l : List α) : (l.map (fun _ => c)).sum = l.length * c := by
  induction l with
  | nil => simp
  | cons a l ih => simp only [List.map_cons, List.sum_cons, ih, List.length_cons, Nat.succ_mul]; omega
theorem exts_len (k : Nat) : ∀ (m : Nat) (s : List Int), (exts k m s).length = k ^ m := by
  intro m
  induction m with
  | zero => intro s; rfl
  | succ m ih =>
    intro s
    simp only [exts, List.length_flatMap, ih]
    rw [sum_const, List.length_range, Nat.pow_succ, Nat.mul_comm]
theorem exts_each (k : Nat) : ∀ (m : Nat) (s x : List Int), x ∈ exts k m s → x.length = s.length + m := by
  intro m
  induction m with
  | zero => intro s x h; simp only [exts, List.mem_singleton] at h; subst h; rfl
  | succ m ih =>
    intro s x h
    simp only [exts, List.mem_flatMap] at h
    obtain ⟨y, _, h⟩ := h
    have := ih _ _ h
    simp at this
    omega
theorem exts_within (k : Nat) : ∀ (m : Nat) (s x : List Int), x ∈ exts k m s → (∀ v ∈ s, 0 ≤ v ∧ v < k) → ∀ v ∈ x, 0 ≤ v ∧ v < k := by
  intro m
  induction m with
  | zero => intro s x h; simp only [exts, List.mem_singleton] at h; subst h; exact id
  | succ m ih =>
    intro s x h hs
    simp only [exts, List.mem_flatMap] at h
    obtain ⟨y, hy, h⟩ := h
    refine ih _ _ h ?_
    intro v hv
    rcases List.mem_append.1 hv with hv | hv
    · exact hs v hv
    · simp only [List.mem_singleton] at hv
      have := List.mem_range.1 hy
      omega
theorem own_eq (l : List Int) (h : l.length < 1000) : spec_l1Own.f l = some l := by
  unfold spec_l1Own.f
  simp only [Option.bind_some]
  rw [if_pos (by simp; omega)]
  simp
theorem rdL2_at (l : List (List Int)) (i : Nat) (h : i < l.length) : rd_L2 l (i : Int) = l[i] := by
  simp [rd_L2, List.getD_eq_getElem?_getD, List.getElem?_eq_getElem h]
theorem grow_range (k : Nat) (s : List Int) (i : Nat) : (List.range (i + 1)).map (fun (x : Nat) => s ++ [(x : Int)]) = (List.range i).map (fun (x : Nat) => s ++ [(x : Int)]) ++ [s ++ [(i : Int)]] := by
  rw [List.range_succ, List.map_append]
  rfl
/-- The inner loop: one list's followers. -/
theorem elAll_l2 (n k : Int) (kn : Nat) (hk : k = (kn : Int)) (hkb : kn ≤ 9) (x6 : Int) (acc : List (List Int)) (s : List Int) (hs : s.length < 900) (x17 : List (List Int)) (x18 x19 : Int) (r : List (List Int)) (ha : acc.length ≤ 1000000)
    (h : Ev (fun K => spec_elAll.l1 K n k x6 (acc ++ grow kn s) x17 x18 (wrap64 (x19 + 1))) r) : Ev (fun K => spec_elAll.l2 K n k x6 acc s 0 x17 x18 x19) r := by
  subst hk
  exact evUp0 kn (fun K (a : List (List Int)) (i : Nat) => spec_elAll.l2 K n (kn : Int) x6 a s (i : Int) x17 x18 x19) (fun i a => a = acc ++ (List.range i).map (fun (x : Nat) => s ++ [(x : Int)])) r acc (by simp)
    (by
      intro i a hi hI
      refine .inl ⟨a ++ [s ++ [(i : Int)]], by rw [hI, grow_range kn, List.append_assoc], fun h => evNext (fun K => ?_) h⟩
      show spec_elAll.l2 (K + 1) n (kn : Int) x6 a s (i : Int) x17 x18 x19 = spec_elAll.l2 K n (kn : Int) x6 (a ++ [s ++ [(i : Int)]]) s (i + 1 : Nat) x17 x18 x19
      have hal : a.length ≤ 1000000 + 9 := by rw [hI]; simp; omega
      simp only [spec_elAll.l2]
      rw [if_pos (by omega), own_eq s (by omega)]
      simp only [Option.bind_some]
      rw [if_pos (by omega), if_pos (by omega), w64 (by omega) (by omega)]
      rfl)
    (by
      intro a hI
      refine evNext (fun K => ?_) h
      show spec_elAll.l2 (K + 1) n (kn : Int) x6 a s (kn : Int) x17 x18 x19 = _
      simp only [spec_elAll.l2]
      rw [if_neg (by omega), hI]
      rfl)
theorem take_flat (k : Nat) (L : List (List Int)) (i : Nat) (h : i < L.length) : (L.take (i + 1)).flatMap (grow k) = (L.take i).flatMap (grow k) ++ grow k L[i] := by
  rw [List.take_succ_eq_append_getElem h, List.flatMap_append]
  simp
theorem flat_len (k : Nat) (L : List (List Int)) : (L.flatMap (grow k)).length = L.length * k := by
  induction L with
  | nil => simp
  | cons a l ih => simp [ih, grow, Nat.succ_mul, Nat.add_comm]
/-- The middle loop: all lists' followers. -/
theorem elAll_l1 (n k : Int) (kn : Nat) (hk : k = (kn : Int)) (hkb : kn ≤ 9) (x6 : Int) (L : List (List Int)) (hL : L.length ≤ 100000) (hs : ∀ s ∈ L, s.length < 900) (r : List (List Int))
    (h : Ev (fun K => spec_elAll.l0 K n k (L.flatMap (grow kn)) (wrap64 (x6 + 1))) r) : Ev (fun K => spec_elAll.l1 K n k x6 [] L (L.length : Int) 0) r :=
  evUp0 L.length (fun K (a : List (List Int)) (i : Nat) => spec_elAll.l1 K n k x6 a L (L.length : Int) (i : Int)) (fun i a => a = (L.take i).flatMap (grow kn)) r [] (by simp)
    (by
      intro i a hi hI
      have hal : a.length ≤ 1000000 := by
        rw [hI, flat_len, List.length_take]
        have : min i L.length * kn ≤ 100000 * 9 := Nat.mul_le_mul (by omega) hkb
        omega
      refine .inl ⟨a ++ grow kn L[i], by rw [take_flat _ _ _ hi, hI], fun h => ?_⟩
      have h2 := elAll_l2 n k kn hk hkb x6 a L[i] (hs _ (List.getElem_mem hi)) L (L.length : Int) (i : Int) r hal (by rw [w64 (by omega) (by omega)]; exact h)
      refine evNext (fun K => ?_) h2
      show spec_elAll.l1 (K + 1) n k x6 a L (L.length : Int) (i : Int) = _
      simp only [spec_elAll.l1]
      rw [if_pos (by omega), if_pos (by omega), if_pos (by omega), rdL2_at L i hi])
    (by
      intro a hI
      refine evNext (fun K => ?_) h
      show spec_elAll.l1 (K + 1) n k x6 a L (L.length : Int) (L.length : Int) = _
      simp only [spec_elAll.l1]
      rw [if_neg (by omega), hI, List.take_length])
/-- elAll: all lists of n numbers below k. -/
theorem elAll_ev (nn kn : Nat) (hn : nn ≤ 5) (hkb : kn ≤ 5) : Ev (fun K => spec_elAll.f K (nn : Int) (kn : Int)) (exts kn nn []) := by
  have hp : ∀ i, i ≤ nn → kn ^ i ≤ 3125 := by
    intro i hi
    have h1 : kn ^ i ≤ 5 ^ i := Nat.pow_le_pow_left hkb i
    have h2 : 5 ^ i ≤ 5 ^ 5 := Nat.pow_le_pow_right (by omega) (by omega)
    omega
  exact evUp0 nn (fun K (a : List (List Int)) (i : Nat) => spec_elAll.l0 K (nn : Int) (kn : Int) a (i : Int)) (fun i a => a = exts kn i []) (exts kn nn []) [[]] rfl
    (by
      intro i a hi hI
      have hl := exts_len kn i []
      have := hp i (by omega)
      refine .inl ⟨exts kn (i + 1) [], rfl, fun h => ?_⟩
      have h1 := elAll_l1 (nn : Int) (kn : Int) kn rfl (by omega) (i : Int) a (by rw [hI]; omega) (by
        intro s hs
        rw [hI] at hs
        have := exts_each kn i [] s hs
        simp at this
        omega) (exts kn nn []) (by rw [hI, exts_grow, w64 (by omega) (by omega)]; exact h)
      refine evNext (fun K => ?_) h1
      show spec_elAll.l0 (K + 1) (nn : Int) (kn : Int) a (i : Int) = _
      simp only [spec_elAll.l0]
      rw [if_pos (by omega)])
    (by
      intro a hI
      refine evEnd fun K => ?_
      show spec_elAll.l0 (K + 1) (nn : Int) (kn : Int) a (nn : Int) = _
      simp only [spec_elAll.l0]
      rw [if_neg (by omega), hI])
end Go.Proofs.Ytjfjpfgnclnehaa.X
