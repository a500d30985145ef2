/- Several texts of this session in one: PlHolders, PlHas, PlFire, PlLists, PlRepTab, PlRepair, PlSweep, PureFnExactLongestRepair, Rw. -/
import Derived.Test.YtjfjpfgnclnehaaMFnExactLongestRepair0
import Derived.Deep.Slices
import Derived.Deep.Fields
import Derived.ChangeSame
import Derived.Lib.SmallJoins
import Derived.SizedLaws
import Derived.ChangeSlices
/- Plain lemmas: the holders of a token. -/
namespace Go.Proofs.Ytjfjpfgnclnehaa.X
set_option linter.unusedSimpArgs false
set_option linter.unusedVariables false
open Go.RowKit Go.Proofs.YtjfjpfgnclnehaaW.PrintWords
/-- Does station s hold a token? -/
def hold (l : List Int) (s : Nat) : Bool := if s = 0 then rd l 0 == rd l ((l.length : Int) - 1) else rd l (s : Int) != rd l ((s : Int) - 1)
/-- The holders below n. -/
def hs (l : List Int) (n : Nat) : List Int := ((List.range n).filter (hold l)).map (fun (j : Nat) => (j : Int))
theorem hs_succ (l : List Int) (n : Nat) : hs l (n + 1) = if hold l n = true then hs l n ++ [(n : Int)] else hs l n := by
  unfold hs
  rw [List.range_succ, List.filter_append]
  cases h : hold l n <;> simp [List.filter_cons, h]
theorem hs_len (l : List Int) (n : Nat) : (hs l n).length ≤ n := by
  unfold hs
  rw [List.length_map]
  have := List.length_filter_le (hold l) (List.range n)
  rw [List.length_range] at this
  exact this
theorem mod_prev (s n : Int) (h0 : 0 ≤ s) (h1 : s < n) : Int.tmod (s + n - 1) n = if s = 0 then n - 1 else s - 1 := by
  rw [Int.tmod_eq_emod_of_nonneg (by omega)]
  by_cases h : s = 0
  · rw [if_pos h, Int.emod_eq_of_lt (by omega) (by omega)]
    omega
  · rw [if_neg h, show s + n - 1 = (s - 1) + n from by omega, Int.add_emod_right, Int.emod_eq_of_lt (by omega) (by omega)]
theorem specHolds_eq (l : List Int) (s : Nat) (hs : s < l.length) (hl : l.length ≤ 100000) : spec_elHolds.f l (s : Int) = some (hold l s) := by
  unfold spec_elHolds.f hold
  by_cases h : s = 0
  · subst h
    rw [if_pos (by omega), if_pos (by omega), w64 (by omega) (by omega), if_pos (by omega), if_pos (by omega)]
    rfl
  · rw [if_neg (by omega), if_pos (by omega), if_pos (by omega), w64 (by omega) (by omega), if_pos (by omega), if_pos (by omega), if_neg h]
theorem specHolders_ev (l : List Int) (hl : l.length ≤ 100000) : Ev (fun k => spec_elHolders.f k l) (hs l l.length) := by
  have key := evUp0 l.length (fun k (s : List Int) (i : Nat) => spec_elHolders.l0 k l s (l.length : Int) (i : Int)) (fun i s => s = hs l i) (hs l l.length) [] rfl
    (by
      intro i s hi hI
      have hlen := hs_len l i
      rw [← hI] at hlen
      refine .inl ⟨hs l (i + 1), rfl, fun h => evNext (fun k => ?_) h⟩
      show spec_elHolders.l0 (k + 1) l s (l.length : Int) (i : Int) = spec_elHolders.l0 k l (hs l (i + 1)) (l.length : Int) (i + 1 : Nat)
      simp only [spec_elHolders.l0]
      rw [if_pos (by omega), specHolds_eq l i hi hl, w64 (by omega) (by omega), hs_succ]
      simp only [Option.bind_some]
      by_cases hh : hold l i = true
      · rw [if_pos hh, if_pos hh, if_pos (by omega), hI]
        rfl
      · rw [if_neg hh, if_neg hh, hI]
        rfl)
    (by
      intro s hI
      refine evEnd fun k => ?_
      show spec_elHolders.l0 (k + 1) l s (l.length : Int) (l.length : Int) = _
      simp only [spec_elHolders.l0]
      rw [if_neg (by omega), hI])
  exact key
theorem implHolders_ev (l : List Int) (hl : l.length ≤ 100000) : Ev (fun k => impl_holders.f k l) (hs l l.length) := by
  have key := evUp0 l.length (fun k (s : List Int) (i : Nat) => impl_holders.l0 k l s l (l.length : Int) (i : Int)) (fun i s => s = hs l i) (hs l l.length) [] rfl
    (by
      intro i s hi hI
      have hlen := hs_len l i
      rw [← hI] at hlen
      refine .inl ⟨hs l (i + 1), rfl, fun h => evNext (fun k => ?_) h⟩
      show impl_holders.l0 (k + 1) l s l (l.length : Int) (i : Int) = impl_holders.l0 k l (hs l (i + 1)) l (l.length : Int) (i + 1 : Nat)
      have hm := mod_prev (i : Int) (l.length : Int) (by omega) (by omega)
      have e1 : wrap64 ((i : Int) + l.length) = (i : Int) + l.length := w64 (by omega) (by omega)
      have e2 : wrap64 ((i : Int) + l.length - 1) = (i : Int) + l.length - 1 := w64 (by omega) (by omega)
      have hc : (((i : Int) == 0) == ((rd l (i : Int)) == (rd l (if (i : Int) = 0 then (l.length : Int) - 1 else (i : Int) - 1)))) = hold l i := by
        unfold hold
        by_cases h0 : i = 0
        · subst h0
          simp
        · rw [if_neg h0, if_neg (show ¬ (i : Int) = 0 by omega)]
          have : ((i : Int) == 0) = false := by simpa using h0
          rw [this]
          simp [bne]
      simp only [impl_holders.l0]
      rw [e1, e2, hm, if_pos (by omega), if_pos (by omega), if_pos (by omega), if_neg (by omega), if_pos (by split <;> omega), if_pos (by split <;> omega), hc, w64 (by omega) (by omega), hs_succ]
      by_cases hh : hold l i = true
      · rw [if_pos hh, if_pos hh, if_pos (by omega), hI]
        rfl
      · rw [if_neg hh, if_neg hh, hI]
        rfl)
    (by
      intro s hI
      refine evEnd fun k => ?_
      show impl_holders.l0 (k + 1) l s l (l.length : Int) (l.length : Int) = _
      simp only [impl_holders.l0]
      rw [if_neg (by omega), hI])
  exact key
end Go.Proofs.Ytjfjpfgnclnehaa.X

/- Plain lemmas: whether a number is among others. -/
namespace Go.Proofs.Ytjfjpfgnclnehaa.X
set_option linter.unusedSimpArgs false
set_option linter.unusedVariables false
open Go.RowKit Go.Proofs.YtjfjpfgnclnehaaW.PrintWords
end Go.Proofs.Ytjfjpfgnclnehaa.X

/- FireStation: the program and the reference come to the same. -/
namespace Go.Proofs.Ytjfjpfgnclnehaa.X
set_option linter.unusedSimpArgs false
set_option linter.unusedVariables false
open Go.RowKit Go.Proofs.YtjfjpfgnclnehaaW.PrintWords
/-- The states behind the firing of station s. -/
def fire (l : List Int) (k : Int) (s : Nat) : List Int := if s = 0 then l.set 0 ((rd l 0 + 1) % k) else l.set s (rd l ((s : Int) - 1))
theorem fire_len (l : List Int) (k : Int) (s : Nat) : (fire l k s).length = l.length := by
  unfold fire
  split <;> simp
theorem fire_ok {l : List Int} {k : Int} (h : isSt l k = true) (s : Nat) (hs : s < l.length) : isSt (fire l k s) k = true := by
  have hb := isSt_iff h
  have e := h
  unfold isSt at e ⊢
  simp only [Bool.and_eq_true] at e ⊢
  rw [fire_len]
  refine ⟨e.1, e.2.1, ?_⟩
  rw [List.all_eq_true]
  intro x hx
  have h0 := hb.2.2.2.2
  unfold fire at hx
  by_cases hs0 : s = 0
  · rw [if_pos hs0] at hx
    rcases List.mem_or_eq_of_mem_set hx with hx | hx
    · exact inB_iff.2 (h0 x hx)
    · rw [hx]
      have h1 := Int.emod_nonneg (rd l 0 + 1) (show k ≠ 0 by omega)
      have h2 := Int.emod_lt_of_pos (rd l 0 + 1) (show 0 < k by omega)
      exact inB_iff.2 (by omega)
  · rw [if_neg hs0] at hx
    rcases List.mem_or_eq_of_mem_set hx with hx | hx
    · exact inB_iff.2 (h0 x hx)
    · rw [hx, show (s : Int) - 1 = ((s - 1 : Nat) : Int) from by omega, rd_at l (s - 1) (by omega)]
      exact inB_iff.2 (h0 _ (List.getElem_mem _))
theorem own_eq (l : List Int) (hl : l.length ≤ 100000) : spec_l1Own.f l = some l := by
  unfold spec_l1Own.f
  simp only [Option.bind_some, List.length_nil, List.nil_append]
  rw [if_pos (by omega)]
theorem clone_eq (l : List Int) (hl : l.length ≤ 100000) : slices_Clone_int_int.f l = some l := by
  unfold slices_Clone_int_int.f
  rw [if_pos (by omega)]
theorem specFire_eq {l : List Int} {k : Int} (h : isSt l k = true) (s : Nat) (hs : s < l.length) : spec_elFire.f l k (s : Int) = some (fire l k s) := by
  have hb := isSt_iff h
  have h0 := hb.2.2.2.2 _ (List.getElem_mem (show 0 < l.length by omega))
  have e0 : rd l 0 = l[0] := rd_at l 0 (by omega)
  unfold spec_elFire.f fire
  rw [own_eq l (by omega)]
  simp only [Option.bind_some]
  by_cases hs0 : s = 0
  · subst hs0
    rw [if_pos (by omega), if_pos (by omega), if_neg (by omega), w64 (by omega) (by omega), Int.tmod_eq_emod_of_nonneg (by omega)]
    rfl
  · rw [if_neg (by omega), w64 (by omega) (by omega), if_pos (by omega), if_pos (by omega), if_pos (by omega), if_pos (by omega), if_neg hs0, Int.toNat_natCast]
theorem implFire_eq {l : List Int} {k : Int} (h : isSt l k = true) (s : Nat) (hs : s < l.length) : impl_fired.f l k (s : Int) = some (fire l k s) := by
  have hb := isSt_iff h
  have h0 := hb.2.2.2.2 _ (List.getElem_mem (show 0 < l.length by omega))
  have e0 : rd l 0 = l[0] := rd_at l 0 (by omega)
  unfold impl_fired.f fire
  rw [clone_eq l (by omega)]
  simp only [Option.bind_some]
  by_cases hs0 : s = 0
  · subst hs0
    rw [if_pos (by omega), if_pos (by omega), if_neg (by omega), w64 (by omega) (by omega), Int.tmod_eq_emod_of_nonneg (by omega)]
    rfl
  · rw [if_neg (by omega), w64 (by omega) (by omega), if_pos (by omega), if_pos (by omega), if_pos (by omega), if_pos (by omega), if_neg hs0, Int.toNat_natCast]
theorem hs_mem (l : List Int) (n : Nat) (x : Int) : x ∈ hs l n ↔ ∃ j : Nat, j < n ∧ hold l j = true ∧ (j : Int) = x := by
  unfold hs
  simp [List.mem_map, List.mem_filter, and_assoc]
end Go.Proofs.Ytjfjpfgnclnehaa.X

/- Plain lemmas: all lists of n numbers below k, in order, made in two ways. -/
namespace Go.Proofs.Ytjfjpfgnclnehaa.X
set_option linter.unusedSimpArgs false
set_option linter.unusedVariables false
open Go.RowKit Go.Proofs.YtjfjpfgnclnehaaW.PrintWords Go.Proofs.YtjfjpfgnclnehaaW.PrintLast
/-- A list with each number below k behind it. -/
def grow (k : Nat) (s : List Int) : List (List Int) := (List.range k).map (fun (x : Nat) => s ++ [(x : Int)])
/-- All lists that go on s by m numbers below k. -/
def exts (k : Nat) : Nat → List Int → List (List Int)
  | 0, s => [s]
  | m + 1, s => (List.range k).flatMap (fun (x : Nat) => exts k m (s ++ [(x : Int)]))
theorem exts_grow (k : Nat) : ∀ (m : Nat) (s : List Int), (exts k m s).flatMap (grow k) = exts k (m + 1) s := by
  intro m
  induction m with
  | zero =>
    intro s
    simp only [exts, List.flatMap_cons, List.flatMap_nil, List.append_nil, grow]
    induction (List.range k) with
    | nil => rfl
    | cons a l ih => simp [ih]
  | succ m ih =>
    intro s
    show ((List.range k).flatMap (fun (x : Nat) => exts k m (s ++ [(x : Int)]))).flatMap (grow k) = (List.range k).flatMap (fun (x : Nat) => exts k (m + 1) (s ++ [(x : Int)]))
    rw [List.flatMap_assoc]
    congr 1
    funext x
    exact ih _
theorem sum_const {α : Type} (c : Nat) (l : List α) : (l.map (fun _ => c)).sum = l.length * c := by
  induction l with
  | nil => simp
  | cons a l ih => simp only [List.map_cons, List.sum_cons, ih, List.length_cons, Nat.succ_mul]; omega
theorem exts_len (k : Nat) : ∀ (m : Nat) (s : List Int), (exts k m s).length = k ^ m := by
  intro m
  induction m with
  | zero => intro s; rfl
  | succ m ih =>
    intro s
    simp only [exts, List.length_flatMap, ih]
    rw [sum_const, List.length_range, Nat.pow_succ, Nat.mul_comm]
theorem exts_each (k : Nat) : ∀ (m : Nat) (s x : List Int), x ∈ exts k m s → x.length = s.length + m := by
  intro m
  induction m with
  | zero => intro s x h; simp only [exts, List.mem_singleton] at h; subst h; rfl
  | succ m ih =>
    intro s x h
    simp only [exts, List.mem_flatMap] at h
    obtain ⟨y, _, h⟩ := h
    have := ih _ _ h
    simp at this
    omega
theorem exts_within (k : Nat) : ∀ (m : Nat) (s x : List Int), x ∈ exts k m s → (∀ v ∈ s, 0 ≤ v ∧ v < k) → ∀ v ∈ x, 0 ≤ v ∧ v < k := by
  intro m
  induction m with
  | zero => intro s x h; simp only [exts, List.mem_singleton] at h; subst h; exact id
  | succ m ih =>
    intro s x h hs
    simp only [exts, List.mem_flatMap] at h
    obtain ⟨y, hy, h⟩ := h
    refine ih _ _ h ?_
    intro v hv
    rcases List.mem_append.1 hv with hv | hv
    · exact hs v hv
    · simp only [List.mem_singleton] at hv
      have := List.mem_range.1 hy
      omega
theorem own_eqL (l : List Int) (h : l.length < 1000) : spec_l1Own.f l = some l := by
  unfold spec_l1Own.f
  simp only [Option.bind_some]
  rw [if_pos (by simp; omega)]
  simp
theorem rdL2_at (l : List (List Int)) (i : Nat) (h : i < l.length) : rd_L2 l (i : Int) = l[i] := by
  simp [rd_L2, List.getD_eq_getElem?_getD, List.getElem?_eq_getElem h]
theorem grow_range (k : Nat) (s : List Int) (i : Nat) : (List.range (i + 1)).map (fun (x : Nat) => s ++ [(x : Int)]) = (List.range i).map (fun (x : Nat) => s ++ [(x : Int)]) ++ [s ++ [(i : Int)]] := by
  rw [List.range_succ, List.map_append]
  rfl
/-- The inner loop: one list's followers. -/
theorem elAll_l2 (n k : Int) (kn : Nat) (hk : k = (kn : Int)) (hkb : kn ≤ 9) (x6 : Int) (acc : List (List Int)) (s : List Int) (hs : s.length < 900) (x17 : List (List Int)) (x18 x19 : Int) (r : List (List Int)) (ha : acc.length ≤ 1000000)
    (h : Ev (fun K => spec_elAll.l1 K n k x6 (acc ++ grow kn s) x17 x18 (wrap64 (x19 + 1))) r) : Ev (fun K => spec_elAll.l2 K n k x6 acc s 0 x17 x18 x19) r := by
  subst hk
  exact evUp0 kn (fun K (a : List (List Int)) (i : Nat) => spec_elAll.l2 K n (kn : Int) x6 a s (i : Int) x17 x18 x19) (fun i a => a = acc ++ (List.range i).map (fun (x : Nat) => s ++ [(x : Int)])) r acc (by simp)
    (by
      intro i a hi hI
      refine .inl ⟨a ++ [s ++ [(i : Int)]], by rw [hI, grow_range kn, List.append_assoc], fun h => evNext (fun K => ?_) h⟩
      show spec_elAll.l2 (K + 1) n (kn : Int) x6 a s (i : Int) x17 x18 x19 = spec_elAll.l2 K n (kn : Int) x6 (a ++ [s ++ [(i : Int)]]) s (i + 1 : Nat) x17 x18 x19
      have hal : a.length ≤ 1000000 + 9 := by rw [hI]; simp; omega
      simp only [spec_elAll.l2]
      rw [if_pos (by omega), own_eqL s (by omega)]
      simp only [Option.bind_some]
      rw [if_pos (by omega), if_pos (by omega), w64 (by omega) (by omega)]
      rfl)
    (by
      intro a hI
      refine evNext (fun K => ?_) h
      show spec_elAll.l2 (K + 1) n (kn : Int) x6 a s (kn : Int) x17 x18 x19 = _
      simp only [spec_elAll.l2]
      rw [if_neg (by omega), hI]
      rfl)
theorem take_flat (k : Nat) (L : List (List Int)) (i : Nat) (h : i < L.length) : (L.take (i + 1)).flatMap (grow k) = (L.take i).flatMap (grow k) ++ grow k L[i] := by
  rw [List.take_succ_eq_append_getElem h, List.flatMap_append]
  simp
theorem flat_len (k : Nat) (L : List (List Int)) : (L.flatMap (grow k)).length = L.length * k := by
  induction L with
  | nil => simp
  | cons a l ih => simp [ih, grow, Nat.succ_mul, Nat.add_comm]
/-- The middle loop: all lists' followers. -/
theorem elAll_l1 (n k : Int) (kn : Nat) (hk : k = (kn : Int)) (hkb : kn ≤ 9) (x6 : Int) (L : List (List Int)) (hL : L.length ≤ 100000) (hs : ∀ s ∈ L, s.length < 900) (r : List (List Int))
    (h : Ev (fun K => spec_elAll.l0 K n k (L.flatMap (grow kn)) (wrap64 (x6 + 1))) r) : Ev (fun K => spec_elAll.l1 K n k x6 [] L (L.length : Int) 0) r :=
  evUp0 L.length (fun K (a : List (List Int)) (i : Nat) => spec_elAll.l1 K n k x6 a L (L.length : Int) (i : Int)) (fun i a => a = (L.take i).flatMap (grow kn)) r [] (by simp)
    (by
      intro i a hi hI
      have hal : a.length ≤ 1000000 := by
        rw [hI, flat_len, List.length_take]
        have : min i L.length * kn ≤ 100000 * 9 := Nat.mul_le_mul (by omega) hkb
        omega
      refine .inl ⟨a ++ grow kn L[i], by rw [take_flat _ _ _ hi, hI], fun h => ?_⟩
      have h2 := elAll_l2 n k kn hk hkb x6 a L[i] (hs _ (List.getElem_mem hi)) L (L.length : Int) (i : Int) r hal (by rw [w64 (by omega) (by omega)]; exact h)
      refine evNext (fun K => ?_) h2
      show spec_elAll.l1 (K + 1) n k x6 a L (L.length : Int) (i : Int) = _
      simp only [spec_elAll.l1]
      rw [if_pos (by omega), if_pos (by omega), if_pos (by omega), rdL2_at L i hi])
    (by
      intro a hI
      refine evNext (fun K => ?_) h
      show spec_elAll.l1 (K + 1) n k x6 a L (L.length : Int) (L.length : Int) = _
      simp only [spec_elAll.l1]
      rw [if_neg (by omega), hI, List.take_length])
/-- elAll: all lists of n numbers below k. -/
theorem elAll_ev (nn kn : Nat) (hn : nn ≤ 5) (hkb : kn ≤ 5) : Ev (fun K => spec_elAll.f K (nn : Int) (kn : Int)) (exts kn nn []) := by
  have hp : ∀ i, i ≤ nn → kn ^ i ≤ 3125 := by
    intro i hi
    have h1 : kn ^ i ≤ 5 ^ i := Nat.pow_le_pow_left hkb i
    have h2 : 5 ^ i ≤ 5 ^ 5 := Nat.pow_le_pow_right (by omega) (by omega)
    omega
  exact evUp0 nn (fun K (a : List (List Int)) (i : Nat) => spec_elAll.l0 K (nn : Int) (kn : Int) a (i : Int)) (fun i a => a = exts kn i []) (exts kn nn []) [[]] rfl
    (by
      intro i a hi hI
      have hl := exts_len kn i []
      have := hp i (by omega)
      refine .inl ⟨exts kn (i + 1) [], rfl, fun h => ?_⟩
      have h1 := elAll_l1 (nn : Int) (kn : Int) kn rfl (by omega) (i : Int) a (by rw [hI]; omega) (by
        intro s hs
        rw [hI] at hs
        have := exts_each kn i [] s hs
        simp at this
        omega) (exts kn nn []) (by rw [hI, exts_grow, w64 (by omega) (by omega)]; exact h)
      refine evNext (fun K => ?_) h1
      show spec_elAll.l0 (K + 1) (nn : Int) (kn : Int) a (i : Int) = _
      simp only [spec_elAll.l0]
      rw [if_pos (by omega)])
    (by
      intro a hI
      refine evEnd fun K => ?_
      show spec_elAll.l0 (K + 1) (nn : Int) (kn : Int) a (nn : Int) = _
      simp only [spec_elAll.l0]
      rw [if_neg (by omega), hI])
end Go.Proofs.Ytjfjpfgnclnehaa.X

/- The longest repair of all states of n stations, k numbers each: tables, and that they are right (kernel). -/
namespace Go.Proofs.Ytjfjpfgnclnehaa.X
set_option linter.unusedSimpArgs false
set_option linter.unusedVariables false
open Go.RowKit Go.Proofs.YtjfjpfgnclnehaaW.PrintWords
set_option maxRecDepth 100000
def tab22 : List Int := [0,0,0,0]
def tab23 : List Int := [0,0,0,0,0,0,0,0,0]
def tab24 : List Int := [0,0,0,0,0,0,0,0,0,0,0,0,0,0,0,0]
def tab25 : List Int := [0,0,0,0,0,0,0,0,0,0,0,0,0,0,0,0,0,0,0,0,0,0,0,0,0]
def tab33 : List Int := [0,0,0,1,0,1,2,1,0,0,2,1,0,0,0,1,1,0,0,1,1,1,0,2,0,0,0]
def tab34 : List Int := [0,0,0,0,1,0,1,1,2,1,0,1,2,1,1,0,0,2,1,1,0,0,0,0,1,1,0,1,1,2,1,0,0,1,2,1,1,0,2,1,0,0,0,0,1,1,1,0,0,1,1,1,1,0,1,2,1,1,0,2,0,0,0,0]
def tab35 : List Int := [0,0,0,0,0,1,0,1,1,1,2,1,0,1,1,2,1,1,0,1,2,1,1,1,0,0,2,1,1,1,0,0,0,0,0,1,1,0,1,1,1,2,1,0,1,1,2,1,1,0,0,1,2,1,1,1,0,2,1,1,0,0,0,0,0,1,1,1,0,1,1,1,2,1,0,0,1,1,2,1,1,0,1,2,1,1,1,0,2,1,0,0,0,0,0,1,1,1,1,0,0,1,1,1,1,1,0,1,1,2,1,1,0,1,2,1,1,1,0,2,0,0,0,0,0]
def tab44 : List Int := [0,0,0,0,9,0,1,1,5,1,0,1,5,1,1,0,11,12,12,12,10,0,2,2,11,4,3,4,11,4,4,3,7,8,8,8,13,3,4,4,6,2,0,2,7,4,4,3,7,8,8,8,10,3,4,4,7,4,3,4,6,2,2,0,0,6,2,2,8,7,8,8,4,10,3,4,4,7,4,3,0,5,1,1,0,0,0,0,1,9,0,1,1,5,1,0,3,11,4,4,12,11,12,12,2,10,0,2,4,11,4,3,3,7,4,4,8,7,8,8,4,13,3,4,2,6,2,0,0,2,6,2,4,3,7,4,8,8,7,8,4,4,13,3,3,4,7,4,2,0,6,2,8,8,7,8,4,4,10,3,0,1,5,1,1,0,5,1,0,0,0,0,1,1,9,0,3,4,11,4,4,3,11,4,12,12,11,12,2,2,10,0,0,2,2,10,4,3,4,11,4,4,3,11,12,12,12,11,3,4,4,13,2,0,2,6,4,4,3,7,8,8,8,7,3,4,4,10,4,3,4,7,2,2,0,6,8,8,8,7,0,1,1,9,1,0,1,5,1,1,0,5,0,0,0,0]
def tab45 : List Int := [0,0,0,0,0,9,0,1,1,1,5,1,0,1,1,5,1,1,0,1,5,1,1,1,0,11,12,12,12,12,10,0,2,2,2,11,4,3,4,4,11,4,4,3,4,11,4,4,4,3,7,8,8,8,8,13,3,4,4,4,6,2,0,2,2,7,4,4,3,4,7,4,4,4,3,7,8,8,8,8,10,3,4,4,4,7,4,3,4,4,6,2,2,0,2,7,4,4,4,3,7,8,8,8,8,10,3,4,4,4,7,4,3,4,4,7,4,4,3,4,6,2,2,2,0,0,6,2,2,2,8,7,8,8,8,4,10,3,4,4,4,7,4,3,4,4,7,4,4,3,0,5,1,1,1,0,0,0,0,0,1,9,0,1,1,1,5,1,0,1,1,5,1,1,0,3,11,4,4,4,12,11,12,12,12,2,10,0,2,2,4,11,4,3,4,4,11,4,4,3,3,7,4,4,4,8,7,8,8,8,4,13,3,4,4,2,6,2,0,2,4,7,4,4,3,3,7,4,4,4,8,7,8,8,8,4,10,3,4,4,4,7,4,3,4,2,6,2,2,0,0,2,6,2,2,4,3,7,4,4,8,8,7,8,8,4,4,10,3,4,4,4,7,4,3,3,4,7,4,4,2,0,6,2,2,8,8,7,8,8,4,4,10,3,4,4,4,7,4,3,0,1,5,1,1,1,0,5,1,1,0,0,0,0,0,1,1,9,0,1,1,1,5,1,0,3,4,11,4,4,4,3,11,4,4,12,12,11,12,12,2,2,10,0,2,4,4,11,4,3,3,4,7,4,4,4,3,7,4,4,8,8,7,8,8,4,4,13,3,4,2,2,6,2,0,0,2,2,6,2,4,3,4,7,4,4,4,3,7,4,8,8,8,7,8,4,4,4,13,3,3,4,4,7,4,2,0,2,6,2,4,4,3,7,4,8,8,8,7,8,4,4,4,10,3,3,4,4,7,4,4,3,4,7,4,2,2,0,6,2,8,8,8,7,8,4,4,4,10,3,0,1,1,5,1,1,0,1,5,1,1,1,0,5,1,0,0,0,0,0,1,1,1,9,0,3,4,4,11,4,4,3,4,11,4,4,4,3,11,4,12,12,12,11,12,2,2,2,10,0,0,2,2,2,10,4,3,4,4,11,4,4,3,4,11,4,4,4,3,11,12,12,12,12,11,3,4,4,4,13,2,0,2,2,6,4,4,3,4,7,4,4,4,3,7,8,8,8,8,7,3,4,4,4,10,4,3,4,4,7,2,2,0,2,6,4,4,4,3,7,8,8,8,8,7,3,4,4,4,10,4,3,4,4,7,4,4,3,4,7,2,2,2,0,6,8,8,8,8,7,0,1,1,1,9,1,0,1,1,5,1,1,0,1,5,1,1,1,0,5,0,0,0,0,0]
def tabR (n k : Nat) : List Int := match n, k with
  | 2, 2 => tab22
  | 2, 3 => tab23
  | 2, 4 => tab24
  | 2, 5 => tab25
  | 3, 3 => tab33
  | 3, 4 => tab34
  | 3, 5 => tab35
  | 4, 4 => tab44
  | 4, 5 => tab45
  | _, _ => []
/-- The number of the states. -/
def ixR (k : Nat) (l : List Int) : Nat := l.foldl (fun a x => a * k + x.toNat) 0
/-- The longest repair of the states. -/
def tv (n k : Nat) (l : List Int) : Int := (tabR n k).getD (ixR k l) 0
/-- The table is right at these states. -/
def okAt (n k : Nat) (l : List Int) : Bool := decide (0 ≤ tv n k l) && decide (tv n k l ≤ 20) &&
  (if (hs l n).length = 1 then tv n k l == 0 else (hs l n).all (fun s => decide (tv n k (fire l (k : Int) s.toNat) + 1 ≤ tv n k l)) && (hs l n).any (fun s => tv n k (fire l (k : Int) s.toNat) + 1 == tv n k l))
theorem okT22 : ((exts 2 2 []).all (okAt 2 2)) = true := by decide +kernel
theorem okT23 : ((exts 3 2 []).all (okAt 2 3)) = true := by decide +kernel
theorem okT24 : ((exts 4 2 []).all (okAt 2 4)) = true := by decide +kernel
theorem okT25 : ((exts 5 2 []).all (okAt 2 5)) = true := by decide +kernel
theorem okT33 : ((exts 3 3 []).all (okAt 3 3)) = true := by decide +kernel
theorem okT34 : ((exts 4 3 []).all (okAt 3 4)) = true := by decide +kernel
theorem okT35 : ((exts 5 3 []).all (okAt 3 5)) = true := by decide +kernel
theorem okT44 : ((exts 4 4 []).all (okAt 4 4)) = true := by decide +kernel
theorem okT45 : ((exts 5 4 []).all (okAt 4 5)) = true := by decide +kernel
/-- The states of number i are the i-th, and their repair is no longer than there are states. -/
def okN (n k : Nat) : Bool := (exts k n []).map (ixR k) == List.range (k ^ n) && (exts k n []).all (fun l => decide (tv n k l ≤ ((k ^ n : Nat) : Int)))
theorem okN22 : okN 2 2 = true := by decide +kernel
theorem okN23 : okN 2 3 = true := by decide +kernel
theorem okN24 : okN 2 4 = true := by decide +kernel
theorem okN25 : okN 2 5 = true := by decide +kernel
theorem okN33 : okN 3 3 = true := by decide +kernel
theorem okN34 : okN 3 4 = true := by decide +kernel
theorem okN35 : okN 3 5 = true := by decide +kernel
theorem okN44 : okN 4 4 = true := by decide +kernel
theorem okN45 : okN 4 5 = true := by decide +kernel
end Go.Proofs.Ytjfjpfgnclnehaa.X

/- LongestRepair, the program's side: what repair comes to, and the greatest of all. -/
namespace Go.Proofs.Ytjfjpfgnclnehaa.X
set_option linter.unusedSimpArgs false
set_option linter.unusedVariables false
open Go.RowKit Go.Proofs.YtjfjpfgnclnehaaW.PrintWords Go.Proofs.YtjfjpfgnclnehaaW.PrintLast
/-- The greatest of f over a list, from a on. -/
def mxF {α : Type} (f : α → Int) (a : Int) (L : List α) : Int := L.foldl (fun a s => if a < f s then f s else a) a
theorem mxF_one {α : Type} (f : α → Int) (a : Int) (L : List α) (s : α) : mxF f a (L ++ [s]) = if mxF f a L < f s then f s else mxF f a L := by
  unfold mxF
  rw [List.foldl_append]
  rfl
theorem mxF_ge {α : Type} (f : α → Int) : ∀ (L : List α) (a : Int), a ≤ mxF f a L ∧ ∀ s ∈ L, f s ≤ mxF f a L
  | [], a => ⟨Int.le_refl _, by simp⟩
  | x :: L, a => by
    have h := mxF_ge f L (if a < f x then f x else a)
    have e : mxF f a (x :: L) = mxF f (if a < f x then f x else a) L := rfl
    rw [e]
    refine ⟨by have := h.1; split at this <;> omega, fun s hs => ?_⟩
    rcases List.mem_cons.1 hs with rfl | hs
    · have := h.1
      split at this <;> omega
    · exact h.2 s hs
theorem mxF_le {α : Type} (f : α → Int) (M : Int) : ∀ (L : List α) (a : Int), a ≤ M → (∀ s ∈ L, f s ≤ M) → mxF f a L ≤ M
  | [], a, h, _ => h
  | x :: L, a, h, hs => by
    have e : mxF f a (x :: L) = mxF f (if a < f x then f x else a) L := rfl
    rw [e]
    refine mxF_le f M L _ ?_ (fun s h2 => hs s (List.mem_cons_of_mem _ h2))
    have := hs x List.mem_cons_self
    split <;> omega
theorem mem_exts (k : Nat) : ∀ (m : Nat) (s x : List Int), x.length = s.length + m → x.take s.length = s → (∀ v ∈ x, 0 ≤ v ∧ v < k) → x ∈ exts k m s := by
  intro m
  induction m with
  | zero =>
    intro s x hl ht _
    simp only [exts, List.mem_singleton]
    rw [← ht, List.take_of_length_le (by omega)]
  | succ m ih =>
    intro s x hl ht hv
    have hlt : s.length < x.length := by omega
    have hb := hv _ (List.getElem_mem hlt)
    simp only [exts, List.mem_flatMap]
    refine ⟨x[s.length].toNat, List.mem_range.2 (by omega), ih _ x (by simp; omega) ?_ hv⟩
    rw [List.length_append, List.length_singleton, List.take_succ_eq_append_getElem hlt, ht]
    congr 1
    simp only [List.cons.injEq, and_true]
    omega
theorem at_ok {n k : Nat} (hT : (exts k n []).all (okAt n k) = true) {l : List Int} (hl : l.length = n) (hv : ∀ v ∈ l, 0 ≤ v ∧ v < (k : Int)) : 0 ≤ tv n k l ∧ tv n k l ≤ 20 ∧
    ((hs l n).length = 1 → tv n k l = 0) ∧ ((hs l n).length ≠ 1 → (∀ s ∈ hs l n, tv n k (fire l (k : Int) s.toNat) + 1 ≤ tv n k l) ∧ ∃ s ∈ hs l n, tv n k (fire l (k : Int) s.toNat) + 1 = tv n k l) := by
  have h := List.all_eq_true.1 hT l (mem_exts k n [] l (by simpa using hl) (by simp) hv)
  unfold okAt at h
  simp only [Bool.and_eq_true, decide_eq_true_eq] at h
  obtain ⟨⟨h1, h2⟩, h3⟩ := h
  refine ⟨h1, h2, fun e => ?_, fun e => ?_⟩
  · rw [if_pos e] at h3
    exact beq_iff_eq.mp h3
  · rw [if_neg e] at h3
    simp only [Bool.and_eq_true, List.all_eq_true, List.any_eq_true, decide_eq_true_eq, beq_iff_eq] at h3
    exact h3
theorem isSt_of {n k : Nat} {l : List Int} (hn : 2 ≤ n) (hn4 : n ≤ 4) (hk : 2 ≤ k) (hk5 : k ≤ 5) (hl : l.length = n) (hv : ∀ v ∈ l, 0 ≤ v ∧ v < (k : Int)) : isSt l (k : Int) = true := by
  unfold isSt
  simp only [Bool.and_eq_true, List.all_eq_true, inB_iff]
  exact ⟨by omega, by omega, fun x hx => by have := hv x hx; omega⟩
theorem okS_of {n k : Nat} {l : List Int} (hn : 2 ≤ n) (hn4 : n ≤ 4) (hk5 : k ≤ 5) (hl : l.length = n) (hv : ∀ v ∈ l, 0 ≤ v ∧ v < (k : Int)) : okS l = true := by
  unfold okS
  simp only [Bool.and_eq_true, decide_eq_true_eq, List.all_eq_true]
  exact ⟨⟨by omega, by omega⟩, fun x hx => by have := hv x hx; omega⟩
theorem fire_within {n k : Nat} {l : List Int} (hn : 2 ≤ n) (hn4 : n ≤ 4) (hk : 2 ≤ k) (hk5 : k ≤ 5) (hl : l.length = n) (hv : ∀ v ∈ l, 0 ≤ v ∧ v < (k : Int)) (j : Nat) (hj : j < n) : ∀ v ∈ fire l (k : Int) j, 0 ≤ v ∧ v < (k : Int) := by
  have h := isSt_iff (fire_ok (isSt_of hn hn4 hk hk5 hl hv) j (by omega))
  intro v hvv
  have := h.2.2.2.2 v hvv
  omega
theorem repair_val {n k : Nat} (hn : 2 ≤ n) (hn4 : n ≤ 4) (hk : 2 ≤ k) (hk5 : k ≤ 5) (hT : (exts k n []).all (okAt n k) = true) : ∀ (d : Nat) (l : List Int), l.length = n → (∀ v ∈ l, 0 ≤ v ∧ v < (k : Int)) → tv n k l < d → Ev (fun K => impl_repair.f K l (k : Int)) (tv n k l) := by
  intro d
  induction d with
  | zero =>
    intro l hl hv h
    have := (at_ok hT hl hv).1
    omega
  | succ d ih =>
    intro l hl hv hd
    obtain ⟨b1, b2, b3, b4⟩ := at_ok hT hl hv
    have hH := implHolders_ev l (by omega)
    rw [hl] at hH
    have hst := isSt_of hn hn4 hk hk5 hl hv
    have hok := okS_of hn hn4 hk5 hl hv
    have hlen := hs_len l n
    by_cases c1 : (hs l n).length = 1
    · refine evCallEnd hH (fun K hK => ?_)
      show impl_repair.f (K + 1) l (k : Int) = _
      rw [impl_repair.f, if_pos hok, hK]
      simp only [Option.bind_some]
      rw [if_pos (by omega), b3 c1]
    · obtain ⟨c2, c3⟩ := b4 c1
      obtain ⟨G, hG⟩ : ∃ G : Int → Int, ∀ s, G s = tv n k (fire l (k : Int) s.toNat) + 1 := ⟨_, fun _ => rfl⟩
      simp only [← hG] at c2 c3
      have hbound : ∀ i : Nat, 0 ≤ mxF G 0 ((hs l n).take i) ∧ mxF G 0 ((hs l n).take i) ≤ 20 := fun i =>
        ⟨(mxF_ge _ _ 0).1, Int.le_trans (mxF_le _ (tv n k l) _ 0 b1 (fun s h => c2 s (List.mem_of_mem_take h))) b2⟩
      have hend : mxF G 0 (hs l n) = tv n k l := by
        obtain ⟨s, h1, h2⟩ := c3
        have h3 := (mxF_ge G (hs l n) 0).2 s h1
        have h4 := mxF_le G (tv n k l) (hs l n) 0 b1 c2
        omega
      have key := evUp0 (hs l n).length (fun K (o : Int) (i : Nat) => impl_repair.l0 K l (k : Int) (hs l n) ((hs l n).length : Int) (i : Int) o) (fun i o => o = mxF G 0 ((hs l n).take i)) (tv n k l) 0 (by rw [List.take_zero]; rfl)
        (by
          intro i o hi hI
          obtain ⟨j, hj, _, hje⟩ := (hs_mem l n (hs l n)[i]).1 (List.getElem_mem hi)
          have hjn : ((hs l n)[i]).toNat = j := by omega
          have hfl := fire_len l (k : Int) j
          have hfv := fire_within hn hn4 hk hk5 hl hv j hj
          have hfo := at_ok hT (hfl.trans hl) hfv
          have hle := c2 _ (List.getElem_mem hi)
          rw [hG, hjn] at hle
          have hx := ih (fire l (k : Int) j) (hfl.trans hl) hfv (by omega)
          refine .inl ⟨mxF G 0 ((hs l n).take (i + 1)), rfl, fun h => evCall hx (fun K hK => ?_) h⟩
          show impl_repair.l0 (K + 1) l (k : Int) (hs l n) ((hs l n).length : Int) (i : Int) o = impl_repair.l0 K l (k : Int) (hs l n) ((hs l n).length : Int) ((i + 1 : Nat) : Int) (mxF G 0 ((hs l n).take (i + 1)))
          rw [impl_repair.l0, if_pos (by omega), if_pos (by omega), if_pos (by omega), rd_at _ i hi, ← hje, implFire_eq hst j (by omega)]
          simp only [Option.bind_some]
          rw [hK]
          simp only [Option.bind_some]
          rw [if_pos ⟨hfl, hfo.1, by omega⟩, List.take_succ_eq_append_getElem hi, mxF_one, hI, hG, hjn, w64 (by omega) (by omega)]
          rfl)
        (by
          intro o hI
          refine evEnd fun K => ?_
          show impl_repair.l0 (K + 1) l (k : Int) (hs l n) ((hs l n).length : Int) ((hs l n).length : Int) o = _
          rw [impl_repair.l0, if_neg (by omega), hI, List.take_length, hend])
      refine evCall hH (fun K hK => ?_) key
      show impl_repair.f (K + 1) l (k : Int) = _
      rw [impl_repair.f, if_pos hok, hK]
      simp only [Option.bind_some]
      rw [if_neg (by omega), if_pos (by omega)]
      rfl
theorem mxF_append {α : Type} (f : α → Int) (a : Int) (L M : List α) : mxF f a (L ++ M) = mxF f (mxF f a L) M := by
  unfold mxF
  rw [List.foldl_append]
theorem appR_eq (l : List Int) (x : Int) (h : l.length ≤ 900) : appFullR.f l x = some (l ++ [x]) := by
  unfold appFullR.f
  rw [if_pos (by omega)]
theorem allR_ev {n k : Nat} (hn : 2 ≤ n) (hn4 : n ≤ 4) (hk : 2 ≤ k) (hk5 : k ≤ 5) (hT : (exts k n []).all (okAt n k) = true) : ∀ (m : Nat) (s : List Int) (x : Int) (c : Nat), s.length + m = n → (∀ v ∈ s, 0 ≤ v ∧ v < (k : Int)) → c + k ^ m ≤ 1000 →
    Ev (fun K => impl_allStatesR.f K (n : Int) (k : Int) s x c) (mxF (tv n k) x (exts k m s), c + k ^ m) := by
  intro m
  induction m with
  | zero =>
    intro s x c hs hv hc
    rw [Nat.pow_zero] at hc ⊢
    have ha := at_ok hT (by omega) hv
    have hr := repair_val hn hn4 hk hk5 hT 21 s (by omega) hv (by omega)
    refine evCallEnd hr (fun K hK => ?_)
    show impl_allStatesR.f (K + 1) (n : Int) (k : Int) s x c = _
    rw [impl_allStatesR.f, if_pos (by omega)]
    unfold repairStep.f
    rw [hK]
    simp only [Option.bind_some]
    rw [if_pos ⟨by omega, ha.1, ha.2.1, hc⟩]
    rfl
  | succ m ih =>
    intro s x c hs hv hc
    have hpe : k ^ (m + 1) = k * k ^ m := by rw [Nat.pow_succ, Nat.mul_comm]
    rw [hpe] at hc ⊢
    have key := evUp0 k (fun K (d : Int × Nat) (i : Nat) => impl_allStatesR.l0 K (n : Int) (k : Int) s (i : Int) d.1 d.2) (fun i d => d = (mxF (tv n k) x ((List.range i).flatMap (fun (y : Nat) => exts k m (s ++ [(y : Int)]))), c + i * k ^ m))
      (mxF (tv n k) x (exts k (m + 1) s), c + k * k ^ m) (x, c) (by simp [mxF])
      (by
        intro i d hi hI
        subst hI
        have hle : (i + 1) * k ^ m ≤ k * k ^ m := Nat.mul_le_mul_right _ (by omega)
        have e1 : (i + 1) * k ^ m = i * k ^ m + k ^ m := by rw [Nat.add_mul, Nat.one_mul]
        have hx := ih (s ++ [(i : Int)]) (mxF (tv n k) x ((List.range i).flatMap (fun (y : Nat) => exts k m (s ++ [(y : Int)])))) (c + i * k ^ m) (by simp; omega) (by
          intro v hvv
          rcases List.mem_append.1 hvv with h | h
          · exact hv v h
          · rw [List.mem_singleton] at h
            omega) (by omega)
        refine .inl ⟨_, rfl, fun h => evCall hx (fun K hK => ?_) h⟩
        show impl_allStatesR.l0 (K + 1) (n : Int) (k : Int) s (i : Int) _ _ = impl_allStatesR.l0 K (n : Int) (k : Int) s ((i + 1 : Nat) : Int) _ _
        rw [impl_allStatesR.l0, if_pos (by omega), appR_eq s _ (by omega)]
        simp only [Option.bind_some]
        rw [hK, w64 (by omega) (by omega), List.range_succ, List.flatMap_append, mxF_append, e1]
        simp only [Option.bind_some, List.flatMap_cons, List.flatMap_nil, List.append_nil, Nat.add_assoc]
        rfl)
      (by
        intro d hI
        refine evEnd fun K => ?_
        show impl_allStatesR.l0 (K + 1) (n : Int) (k : Int) s (k : Int) d.1 d.2 = _
        rw [impl_allStatesR.l0, if_neg (by omega), hI]
        rfl)
    refine evNext (fun K => ?_) key
    show impl_allStatesR.f (K + 1) (n : Int) (k : Int) s x c = _
    rw [impl_allStatesR.f, if_neg (by omega)]
    rfl
theorem implLongest_ev {n k : Nat} (hn : 2 ≤ n) (hn4 : n ≤ 4) (hk : n ≤ k) (hk5 : k ≤ 5) (hT : (exts k n []).all (okAt n k) = true) : Ev (fun K => impl_LongestRepair.f K (n : Int) (k : Int)) (mxF (tv n k) 0 (exts k n []), true) := by
  have hp : k ^ n ≤ 1000 := by
    have h1 : k ^ n ≤ 5 ^ n := Nat.pow_le_pow_left hk5 n
    have h2 : 5 ^ n ≤ 5 ^ 4 := Nat.pow_le_pow_right (by omega) hn4
    omega
  obtain ⟨K1, e1⟩ := allR_ev hn hn4 (by omega) hk5 hT n [] 0 0 (by simp) (by simp) (by omega)
  dsimp only at e1
  have t1 : inB 2 4 (n : Int) = true := inB_iff.2 (by omega)
  have t2 : inB (n : Int) 5 (k : Int) = true := inB_iff.2 (by omega)
  refine ⟨K1, fun m hm => ?_⟩
  show impl_LongestRepair.f m (n : Int) (k : Int) = _
  unfold impl_LongestRepair.f
  rw [within_eq, t1]
  simp only [Option.bind_some, if_true]
  rw [within_eq, t2]
  simp only [Option.bind_some, if_true]
  rw [e1 m hm]
  rfl
theorem implLongest_no {a b : Int} (h : ¬ (2 ≤ a ∧ a ≤ 4 ∧ a ≤ b ∧ b ≤ 5)) : Ev (fun K => impl_LongestRepair.f K a b) (0, false) := by
  refine ⟨0, fun m _ => ?_⟩
  show impl_LongestRepair.f m a b = _
  unfold impl_LongestRepair.f
  rw [within_eq]
  cases t1 : inB 2 4 a with
  | false => rfl
  | true =>
    have h1 := inB_iff.1 t1
    simp only [Option.bind_some, if_true]
    rw [within_eq]
    cases t2 : inB a 5 b with
    | false => rfl
    | true =>
      have h2 := inB_iff.1 t2
      omega
end Go.Proofs.Ytjfjpfgnclnehaa.X

/- LongestRepair, the reference's side: sweeps until nothing changes. -/
namespace Go.Proofs.Ytjfjpfgnclnehaa.X
set_option linter.unusedSimpArgs false
set_option linter.unusedVariables false
open Go.RowKit Go.Proofs.YtjfjpfgnclnehaaW.PrintWords Go.Proofs.YtjfjpfgnclnehaaW.PrintLast
/-- What is known of n stations with k numbers. -/
structure Tab (n k : Nat) : Prop where
  hn : 2 ≤ n
  hn4 : n ≤ 4
  hk : n ≤ k
  hk5 : k ≤ 5
  hT : (exts k n []).all (okAt n k) = true
  hN : okN n k = true
theorem Tab.size {n k : Nat} (h : Tab n k) : k ^ n ≤ 625 := by
  have h1 : k ^ n ≤ 5 ^ n := Nat.pow_le_pow_left h.hk5 n
  have h2 : 5 ^ n ≤ 5 ^ 4 := Nat.pow_le_pow_right (by omega) h.hn4
  omega
theorem Tab.at_ {n k : Nat} (h : Tab n k) (i : Nat) (hi : i < (exts k n []).length) : (exts k n [])[i].length = n ∧ (∀ v ∈ (exts k n [])[i], 0 ≤ v ∧ v < (k : Int)) ∧ ixR k (exts k n [])[i] = i ∧ tv n k (exts k n [])[i] ≤ ((k ^ n : Nat) : Int) := by
  have hm := List.getElem_mem hi
  have h1 := exts_each k n [] _ hm
  have h2 := exts_within k n [] _ hm (by simp)
  have h3 := h.hN
  unfold okN at h3
  simp only [Bool.and_eq_true, beq_iff_eq, List.all_eq_true, decide_eq_true_eq] at h3
  have h4 : ((exts k n []).map (ixR k))[i]'(by simpa using hi) = (List.range (k ^ n))[i]'(by rw [List.length_range, ← exts_len k n []]; exact hi) := by
    simp only [h3.1]
  rw [List.getElem_map, List.getElem_range] at h4
  exact ⟨by simpa using h1, h2, h4, h3.2 _ hm⟩
/-- States of n numbers below k are the ones at their number. -/
theorem Tab.of {n k : Nat} (h : Tab n k) {l : List Int} (hl : l.length = n) (hv : ∀ v ∈ l, 0 ≤ v ∧ v < (k : Int)) : ∃ hi : ixR k l < (exts k n []).length, (exts k n [])[ixR k l] = l := by
  obtain ⟨i, hi, e⟩ := List.getElem_of_mem (mem_exts k n [] l (by simpa using hl) (by simp) hv)
  have h1 := (h.at_ i hi).2.2.1
  rw [e] at h1
  subst h1
  exact ⟨hi, e⟩
/-- The reference's number of states. -/
theorem elIndex_ev {k : Nat} (hk5 : k ≤ 5) (l : List Int) (hl : l.length ≤ 4) (hv : ∀ v ∈ l, 0 ≤ v ∧ v < (k : Int)) : Ev (fun K => spec_elIndex.f K l (k : Int)) (ixR k l : Nat) := by
  have hb : ∀ i : Nat, i ≤ l.length → (l.take i).foldl (fun a x => a * k + x.toNat) 0 < 6 ^ i := by
    intro i
    induction i with
    | zero => intro _; simp
    | succ i ih =>
      intro hi
      have h1 := ih (by omega)
      have hx := hv _ (List.getElem_mem (show i < l.length by omega))
      rw [List.take_succ_eq_append_getElem (by omega), List.foldl_append]
      simp only [List.foldl_cons, List.foldl_nil]
      generalize (l.take i).foldl (fun a x => a * k + x.toNat) 0 = a at h1
      have h2 : a * k ≤ a * 5 := Nat.mul_le_mul_left _ hk5
      rw [Nat.pow_succ]
      omega
  have key := evUp0 l.length (fun K (a : Int) (i : Nat) => spec_elIndex.l0 K (k : Int) a l (l.length : Int) (i : Int)) (fun i a => a = (((l.take i).foldl (fun a x => a * k + x.toNat) 0 : Nat) : Int)) ((ixR k l : Nat) : Int) 0 (by simp)
    (by
      intro i a hi hI
      have h1 := hb i (by omega)
      have h6 : 6 ^ i ≤ 6 ^ 4 := Nat.pow_le_pow_right (by omega) (by omega)
      have hx := hv _ (List.getElem_mem hi)
      refine .inl ⟨_, rfl, fun h => evNext (fun K => ?_) h⟩
      show spec_elIndex.l0 (K + 1) (k : Int) a l (l.length : Int) (i : Int) = _
      rw [spec_elIndex.l0, if_pos (by omega), if_pos (by omega), if_pos (by omega), rd_at l i hi, List.take_succ_eq_append_getElem hi, List.foldl_append, hI]
      simp only [List.foldl_cons, List.foldl_nil]
      generalize (l.take i).foldl (fun a x => a * k + x.toNat) 0 = b at h1
      have h2 : b * k ≤ b * 5 := Nat.mul_le_mul_left _ hk5
      have h3 : ((b * k : Nat) : Int) = (b : Int) * (k : Int) := by simp
      have h4 : ((b * k + (l[i]).toNat : Nat) : Int) = (b : Int) * (k : Int) + l[i] := by omega
      rw [h4, w64 (x := (b : Int) * (k : Int)) (by omega) (by omega), w64 (by omega) (by omega), w64 (by omega) (by omega)]
      rfl)
    (by
      intro a hI
      refine evEnd fun K => ?_
      show spec_elIndex.l0 (K + 1) (k : Int) a l (l.length : Int) (l.length : Int) = _
      rw [spec_elIndex.l0, if_neg (by omega), hI, List.take_length]
      rfl)
  exact key
/-- A sweep from v0 has come to node i, where the first holders of S are done. -/
structure Inv (n k : Nat) (v0 v : List Int) (c : Bool) (i : Nat) (S : List Int) : Prop where
  len : v.length = (exts k n []).length
  up : ∀ (q : Nat) (hq : q < (exts k n []).length), 0 ≤ rd v (q : Int) ∧ rd v (q : Int) ≤ tv n k (exts k n [])[q]
  mono : ∀ q : Nat, q < (exts k n []).length → rd v0 (q : Int) ≤ rd v (q : Int)
  same : c = false → v = v0
  done : ∀ (q : Nat) (hq : q < (exts k n []).length), q < i → (hs (exts k n [])[q] n).length ≠ 1 → ∀ s ∈ hs (exts k n [])[q] n, rd v0 ((ixR k (fire (exts k n [])[q] (k : Int) s.toNat) : Nat) : Int) + 1 ≤ rd v (q : Int)
  here : ∀ hi : i < (exts k n []).length, ∀ s ∈ S, rd v0 ((ixR k (fire (exts k n [])[i] (k : Int) s.toNat) : Nat) : Int) + 1 ≤ rd v (i : Int)
theorem rd_set_eq (v : List Int) (i : Nat) (x : Int) (h : i < v.length) : rd (v.set i x) (i : Int) = x := by
  rw [rd_at _ i (by rw [List.length_set]; exact h), List.getElem_set_self]
theorem rd_set_ne (v : List Int) (i q : Nat) (x : Int) (hq : q < v.length) (hne : i ≠ q) : rd (v.set i x) (q : Int) = rd v (q : Int) := by
  rw [rd_at _ q (by rw [List.length_set]; exact hq), rd_at _ q hq, List.getElem_set_ne hne]
/-- One holder: the longer run is kept. -/
theorem Inv.relax {n k : Nat} (T : Tab n k) {v0 v : List Int} {c : Bool} {i : Nat} {S : List Int} (h : Inv n k v0 v c i S) (hi : i < (exts k n []).length) (hone : (hs (exts k n [])[i] n).length ≠ 1) (s : Int) (hs_ : s ∈ hs (exts k n [])[i] n) :
    if rd v ((ixR k (fire (exts k n [])[i] (k : Int) s.toNat) : Nat) : Int) + 1 > rd v (i : Int) then Inv n k v0 (v.set i (rd v ((ixR k (fire (exts k n [])[i] (k : Int) s.toNat) : Nat) : Int) + 1)) true i (S ++ [s]) else Inv n k v0 v c i (S ++ [s]) := by
  have hA := T.at_ i hi
  obtain ⟨j, hj, _, hje⟩ := (hs_mem (exts k n [])[i] n s).1 hs_
  have hjs : s.toNat = j := by omega
  have hfl : (fire (exts k n [])[i] (k : Int) s.toNat).length = n := (fire_len _ _ _).trans hA.1
  have hfv := fire_within T.hn T.hn4 (by have := T.hn; have := T.hk; omega) T.hk5 hA.1 hA.2.1 s.toNat (by omega)
  obtain ⟨ht, het⟩ := T.of hfl hfv
  have hle := ((at_ok T.hT hA.1 hA.2.1).2.2.2 hone).1 s hs_
  have hu := h.up _ ht
  rw [het] at hu
  have hm := h.mono _ ht
  have hui := h.up i hi
  generalize hx : rd v ((ixR k (fire (exts k n [])[i] (k : Int) s.toNat) : Nat) : Int) + 1 = x at *
  split
  · rename_i hgt
    have hiv : i < v.length := by rw [h.len]; exact hi
    refine ⟨by rw [List.length_set]; exact h.len, fun q hq => ?_, fun q hq => ?_, (fun e => by cases e), fun q hq hqi h1 s' hs' => ?_, fun _ s' hs' => ?_⟩
    · by_cases e : i = q
      · subst e
        rw [rd_set_eq v i x hiv]
        omega
      · rw [rd_set_ne v i q x (by rw [h.len]; exact hq) e]
        exact h.up q hq
    · by_cases e : i = q
      · subst e
        rw [rd_set_eq v i x hiv]
        have := h.mono i hq
        omega
      · rw [rd_set_ne v i q x (by rw [h.len]; exact hq) e]
        exact h.mono q hq
    · rw [rd_set_ne v i q x (by rw [h.len]; exact hq) (by omega)]
      exact h.done q hq hqi h1 s' hs'
    · rw [rd_set_eq v i x hiv]
      rcases List.mem_append.1 hs' with h2 | h2
      · have := h.here hi s' h2
        omega
      · rw [List.mem_singleton] at h2
        subst h2
        omega
  · refine ⟨h.len, h.up, h.mono, h.same, h.done, fun _ s' hs' => ?_⟩
    rcases List.mem_append.1 hs' with h2 | h2
    · exact h.here hi s' h2
    · rw [List.mem_singleton] at h2
      subst h2
      omega
theorem Inv.next {n k : Nat} {v0 v : List Int} {c : Bool} {i : Nat} {S : List Int} (h : Inv n k v0 v c i S) (hS : ∀ hi : i < (exts k n []).length, (hs (exts k n [])[i] n).length ≠ 1 → S = hs (exts k n [])[i] n) : Inv n k v0 v c (i + 1) [] := by
  refine ⟨h.len, h.up, h.mono, h.same, fun q hq hqi h1 s hs' => ?_, fun _ s hs' => by cases hs'⟩
  by_cases e : q = i
  · subst e
    exact h.here hq s (by rw [hS hq h1]; exact hs')
  · exact h.done q hq (by omega) h1 s hs'
theorem sweep_l2 {n k : Nat} (T : Tab n k) {v0 : List Int} (r : Int) {i : Nat} (hi : i < (exts k n []).length) (hone : (hs (exts k n [])[i] n).length ≠ 1) {R : Int × Bool}
    (hnext : ∀ (v : List Int) (c : Bool), Inv n k v0 v c (i + 1) [] → Ev (fun K => spec_LongestRepair.l1 K (k : Int) (exts k n []) v r c (exts k n []) ((exts k n []).length : Int) ((i + 1 : Nat) : Int)) R)
    (v : List Int) (c : Bool) (h : Inv n k v0 v c i []) : Ev (fun K => spec_LongestRepair.l2 K (k : Int) (exts k n []) v r c (i : Int) (exts k n [])[i] (exts k n []) ((exts k n []).length : Int) (i : Int) (hs (exts k n [])[i] n) ((hs (exts k n [])[i] n).length : Int) 0) R := by
  have hA := T.at_ i hi
  have hsz := T.size
  have hel := exts_len k n []
  have hst := isSt_of T.hn T.hn4 (by have := T.hn; have := T.hk; omega) T.hk5 hA.1 hA.2.1
  have hhl := hs_len (exts k n [])[i] n
  have hn4 := T.hn4
  exact evUp0 (hs (exts k n [])[i] n).length (fun K (d : List Int × Bool) (t : Nat) => spec_LongestRepair.l2 K (k : Int) (exts k n []) d.1 r d.2 (i : Int) (exts k n [])[i] (exts k n []) ((exts k n []).length : Int) (i : Int) (hs (exts k n [])[i] n) ((hs (exts k n [])[i] n).length : Int) (t : Int))
    (fun t d => Inv n k v0 d.1 d.2 i ((hs (exts k n [])[i] n).take t)) R (v, c) (by simpa using h)
    (by
      intro t d ht hI
      obtain ⟨v, c⟩ := d
      simp only at hI
      have hmem := List.getElem_mem ht
      obtain ⟨j, hj, _, hje⟩ := (hs_mem (exts k n [])[i] n (hs (exts k n [])[i] n)[t]).1 hmem
      have hjs : ((hs (exts k n [])[i] n)[t]).toNat = j := by omega
      have hr := hI.relax T hi hone _ hmem
      rw [← List.take_succ_eq_append_getElem ht, hjs] at hr
      have hfl : (fire (exts k n [])[i] (k : Int) j).length = n := (fire_len _ _ _).trans hA.1
      have hfv := fire_within T.hn T.hn4 (by have := T.hn; have := T.hk; omega) T.hk5 hA.1 hA.2.1 j hj
      obtain ⟨hx, het⟩ := T.of hfl hfv
      have hu := hI.up _ hx
      rw [het] at hu
      have hb := at_ok T.hT hfl hfv
      have hix := elIndex_ev T.hk5 (fire (exts k n [])[i] (k : Int) j) (by omega) hfv
      have hlen := hI.len
      generalize hq : ixR k (fire (exts k n [])[i] (k : Int) j) = q at *
      have hw : wrap64 (rd v (q : Int) + 1) = rd v (q : Int) + 1 := w64 (by omega) (by omega)
      by_cases hgt : rd v (q : Int) + 1 > rd v (i : Int)
      · rw [if_pos hgt] at hr
        refine .inl ⟨(v.set i (rd v (q : Int) + 1), true), hr, fun hk => evCall hix (fun K hK => ?_) hk⟩
        show spec_LongestRepair.l2 (K + 1) (k : Int) (exts k n []) v r c (i : Int) (exts k n [])[i] (exts k n []) ((exts k n []).length : Int) (i : Int) (hs (exts k n [])[i] n) ((hs (exts k n [])[i] n).length : Int) (t : Int) = _
        rw [spec_LongestRepair.l2, if_pos (by omega), if_pos (by omega), if_pos (by omega), rd_at _ t ht, ← hje, specFire_eq hst j (by omega)]
        simp only [Option.bind_some]
        rw [hK]
        simp only [Option.bind_some]
        rw [if_pos (by omega), if_pos (by omega), if_pos (by omega), if_pos (by omega), hw, if_pos hgt, w64 (x := (t : Int) + 1) (by omega) (by omega)]
        rfl
      · rw [if_neg hgt] at hr
        refine .inl ⟨(v, c), hr, fun hk => evCall hix (fun K hK => ?_) hk⟩
        show spec_LongestRepair.l2 (K + 1) (k : Int) (exts k n []) v r c (i : Int) (exts k n [])[i] (exts k n []) ((exts k n []).length : Int) (i : Int) (hs (exts k n [])[i] n) ((hs (exts k n [])[i] n).length : Int) (t : Int) = _
        rw [spec_LongestRepair.l2, if_pos (by omega), if_pos (by omega), if_pos (by omega), rd_at _ t ht, ← hje, specFire_eq hst j (by omega)]
        simp only [Option.bind_some]
        rw [hK]
        simp only [Option.bind_some]
        rw [if_pos (by omega), if_pos (by omega), if_pos (by omega), if_pos (by omega), hw, if_neg hgt, w64 (x := (t : Int) + 1) (by omega) (by omega)]
        rfl)
    (by
      intro d hI
      obtain ⟨v, c⟩ := d
      simp only [List.take_length] at hI
      refine evNext (fun K => ?_) (hnext v c (hI.next fun _ _ => rfl))
      show spec_LongestRepair.l2 (K + 1) (k : Int) (exts k n []) v r c (i : Int) (exts k n [])[i] (exts k n []) ((exts k n []).length : Int) (i : Int) (hs (exts k n [])[i] n) ((hs (exts k n [])[i] n).length : Int) ((hs (exts k n [])[i] n).length : Int) = _
      rw [spec_LongestRepair.l2, if_neg (by omega), w64 (by omega) (by omega)]
      rfl)
theorem sweep_l1 {n k : Nat} (T : Tab n k) {v0 : List Int} (r : Int) {R : Int × Bool}
    (hend : ∀ (v : List Int) (c : Bool), Inv n k v0 v c (exts k n []).length [] → Ev (fun K => if c = true then spec_LongestRepair.l0 K (k : Int) (exts k n []) v (wrap64 (r + 1)) else spec_LongestRepair.j4 K v) R) :
    ∀ (d i : Nat) (v : List Int) (c : Bool), i + d = (exts k n []).length → Inv n k v0 v c i [] → Ev (fun K => spec_LongestRepair.l1 K (k : Int) (exts k n []) v r c (exts k n []) ((exts k n []).length : Int) (i : Int)) R
  | 0, i, v, c, hd, h => by
    obtain rfl : i = (exts k n []).length := by omega
    refine evNext (fun K => ?_) (hend v c h)
    rw [spec_LongestRepair.l1, if_neg (by omega)]
  | d + 1, i, v, c, hd, h => by
    have hi : i < (exts k n []).length := by omega
    have hA := T.at_ i hi
    have hsz := T.size
    have hel := exts_len k n []
    have hn4 := T.hn4
    have hH := specHolders_ev (exts k n [])[i] (by omega)
    rw [hA.1] at hH
    have ew : wrap64 ((i : Int) + 1) = ((i + 1 : Nat) : Int) := by rw [w64 (by omega) (by omega)]; rfl
    by_cases h1 : (hs (exts k n [])[i] n).length = 1
    · refine evCall hH (fun K hK => ?_) (sweep_l1 T r hend d (i + 1) v c (by omega) (h.next fun _ h2 => absurd h1 h2))
      rw [spec_LongestRepair.l1, if_pos (by omega), if_pos (by omega), if_pos (by omega), rdL2_at _ i hi, hK]
      simp only [Option.bind_some]
      rw [if_pos (by omega), ew]
    · refine evCall hH (fun K hK => ?_) (sweep_l2 T r hi h1 (fun v' c' h' => sweep_l1 T r hend d (i + 1) v' c' (by omega) h') v c h)
      rw [spec_LongestRepair.l1, if_pos (by omega), if_pos (by omega), if_pos (by omega), rdL2_at _ i hi, hK]
      simp only [Option.bind_some]
      rw [if_neg (by omega)]
/-- After r sweeps the runs are told up to r. -/
def Lo (n k : Nat) (v : List Int) (r : Int) : Prop := ∀ (q : Nat) (hq : q < (exts k n []).length), tv n k (exts k n [])[q] ≤ rd v (q : Int) ∨ r ≤ rd v (q : Int)
def Up (n k : Nat) (v : List Int) : Prop := v.length = (exts k n []).length ∧ ∀ (q : Nat) (hq : q < (exts k n []).length), 0 ≤ rd v (q : Int) ∧ rd v (q : Int) ≤ tv n k (exts k n [])[q]
theorem Inv.lo {n k : Nat} (T : Tab n k) {v0 v : List Int} {c : Bool} (h : Inv n k v0 v c (exts k n []).length []) {r : Int} (hr : 0 ≤ r) (hl : Lo n k v0 r) : Lo n k v (r + 1) := by
  intro q hq
  have hA := T.at_ q hq
  have ha := at_ok T.hT hA.1 hA.2.1
  have hu := h.up q hq
  by_cases h1 : (hs (exts k n [])[q] n).length = 1
  · have := ha.2.2.1 h1
    omega
  · obtain ⟨s, hs1, hs2⟩ := (ha.2.2.2 h1).2
    have hd := h.done q hq hq h1 s hs1
    obtain ⟨j, hj, _, hje⟩ := (hs_mem (exts k n [])[q] n s).1 hs1
    have hfl : (fire (exts k n [])[q] (k : Int) s.toNat).length = n := (fire_len _ _ _).trans hA.1
    have hfv := fire_within T.hn T.hn4 (by have := T.hn; have := T.hk; omega) T.hk5 hA.1 hA.2.1 s.toNat (by omega)
    obtain ⟨ht, het⟩ := T.of hfl hfv
    have hlo := hl _ ht
    rw [het] at hlo
    omega
theorem Inv.start {n k : Nat} {v : List Int} (h : Up n k v) : Inv n k v v false 0 [] :=
  ⟨h.1, h.2, fun _ _ => Int.le_refl _, fun _ => rfl, fun q _ hq => by omega, fun _ s hs' => by cases hs'⟩
/-- The greatest of the runs. -/
theorem sweep_j4 {n k : Nat} (T : Tab n k) {v : List Int} (hv : v.length = (exts k n []).length) (h : ∀ (q : Nat) (hq : q < (exts k n []).length), rd v (q : Int) = tv n k (exts k n [])[q]) : Ev (fun K => spec_LongestRepair.j4 K v) (mxF (tv n k) 0 (exts k n []), true) := by
  have hsz := T.size
  have hel := exts_len k n []
  have key := evUp0 v.length (fun K (a : Int) (i : Nat) => spec_LongestRepair.l3 K a v (v.length : Int) (i : Int)) (fun i a => a = mxF (tv n k) 0 ((exts k n []).take i)) (mxF (tv n k) 0 (exts k n []), true) 0 (by simp [mxF])
    (by
      intro i a hi hI
      have hx := h i (by omega)
      have hm : spec_l1Most.f a (rd v (i : Int)) = some (mxF (tv n k) 0 ((exts k n []).take (i + 1))) := by
        rw [List.take_succ_eq_append_getElem (by omega), mxF_one, ← hI, hx]
        unfold spec_l1Most.f
        by_cases c : a < tv n k (exts k n [])[i]
        · rw [if_neg (by omega), if_pos c]
        · by_cases c2 : a > tv n k (exts k n [])[i]
          · rw [if_pos c2, if_neg c]
          · rw [if_neg c2, if_neg c, show tv n k (exts k n [])[i] = a by omega]
      refine .inl ⟨_, rfl, fun h => evNext (fun K => ?_) h⟩
      show spec_LongestRepair.l3 (K + 1) a v (v.length : Int) (i : Int) = _
      rw [spec_LongestRepair.l3, if_pos (by omega), if_pos (by omega), if_pos (by omega), hm]
      simp only [Option.bind_some]
      rw [w64 (by omega) (by omega)]
      rfl)
    (by
      intro a hI
      refine evEnd fun K => ?_
      show spec_LongestRepair.l3 (K + 1) a v (v.length : Int) (v.length : Int) = _
      rw [spec_LongestRepair.l3, if_neg (by omega), hI, hv, List.take_length])
  refine evNext (fun K => ?_) key
  rw [spec_LongestRepair.j4]
  rfl
theorem Lo.full {n k : Nat} (T : Tab n k) {v : List Int} (hu : Up n k v) {r : Int} (hr : ((k ^ n : Nat) : Int) < r) (hl : Lo n k v r) : ∀ (q : Nat) (hq : q < (exts k n []).length), rd v (q : Int) = tv n k (exts k n [])[q] := by
  intro q hq
  have h1 := (T.at_ q hq).2.2.2
  have h2 := hu.2 q hq
  have h3 := hl q hq
  omega
theorem sweep_l0 {n k : Nat} (T : Tab n k) : ∀ (d r : Nat) (v : List Int), r + d = (exts k n []).length + 1 → Up n k v → Lo n k v (r : Int) → Ev (fun K => spec_LongestRepair.l0 K (k : Int) (exts k n []) v (r : Int)) (mxF (tv n k) 0 (exts k n []), true)
  | 0, r, v, hd, hu, hl => by
    have hsz := T.size
    have hel := exts_len k n []
    refine evNext (fun K => ?_) (sweep_j4 T hu.1 (hl.full T hu (by omega)))
    rw [spec_LongestRepair.l0, if_neg (by omega)]
  | d + 1, r, v, hd, hu, hl => by
    have hsz := T.size
    have hel := exts_len k n []
    have key := sweep_l1 T (v0 := v) (r : Int) (R := (mxF (tv n k) 0 (exts k n []), true)) (by
      intro v' c hI
      have hu' : Up n k v' := ⟨hI.len, hI.up⟩
      by_cases hc : c = true
      · refine evPos hc ?_
        have h1 := sweep_l0 T d (r + 1) v' (by omega) hu' (hI.lo T (by omega) hl)
        have ew : wrap64 ((r : Int) + 1) = ((r + 1 : Nat) : Int) := by rw [w64 (by omega) (by omega)]; rfl
        rw [ew]
        exact h1
      · refine evNeg hc ?_
        have hc' : c = false := by simpa using hc
        have e := hI.same hc'
        subst e
        have hall : ∀ m : Nat, Lo n k v' ((r + m : Nat) : Int) := by
          intro m
          induction m with
          | zero => exact hl
          | succ m ih => exact hI.lo T (by omega) ih
        exact sweep_j4 T hI.len ((hall (k ^ n + 1)).full T hu' (by omega))) (exts k n []).length 0 v false (by omega) (Inv.start hu)
    refine evNext (fun K => ?_) key
    rw [spec_LongestRepair.l0, if_pos (by omega)]
    rfl
theorem specLongest_ev {n k : Nat} (T : Tab n k) : Ev (fun K => spec_LongestRepair.f K (n : Int) (k : Int)) (mxF (tv n k) 0 (exts k n []), true) := by
  have hsz := T.size
  have hel := exts_len k n []
  have t1 : inB 2 4 (n : Int) = true := inB_iff.2 ⟨by have := T.hn; omega, by have := T.hn4; omega⟩
  have t2 : inB (n : Int) 5 (k : Int) = true := inB_iff.2 ⟨by have := T.hk; omega, by have := T.hk5; omega⟩
  have hu : Up n k (List.replicate (exts k n []).length 0) := by
    refine ⟨by simp, fun q hq => ?_⟩
    have hA := T.at_ q hq
    have ha := at_ok T.hT hA.1 hA.2.1
    rw [rd_at _ q (by simpa using hq)]
    simp only [List.getElem_replicate]
    exact ⟨Int.le_refl _, ha.1⟩
  have hl : Lo n k (List.replicate (exts k n []).length 0) ((0 : Nat) : Int) := by
    intro q hq
    rw [rd_at _ q (by simpa using hq)]
    simp
  have k1 := sweep_l0 T ((exts k n []).length + 1) 0 _ (by omega) hu hl
  have k2 : Ev (fun K => spec_LongestRepair.j0 K (n : Int) (k : Int) false) (mxF (tv n k) 0 (exts k n []), true) := by
    refine evCall (elAll_ev n k (by have := T.hn4; omega) T.hk5) (fun K hK => ?_) k1
    rw [spec_LongestRepair.j0, if_neg (by decide), hK]
    simp only [Option.bind_some]
    rw [if_pos (by omega), if_pos (by omega), Int.toNat_natCast]
    rfl
  obtain ⟨K1, e1⟩ := k2
  refine ⟨K1, fun m hm => ?_⟩
  show spec_LongestRepair.f m (n : Int) (k : Int) = _
  unfold spec_LongestRepair.f
  rw [l1In_eq, t1]
  simp only [Option.bind_some, if_true]
  rw [l1In_eq, t2]
  simp only [Option.bind_some, Bool.not_true]
  exact e1 m hm
theorem specLongest_no {a b : Int} (h : ¬ (2 ≤ a ∧ a ≤ 4 ∧ a ≤ b ∧ b ≤ 5)) : Ev (fun K => spec_LongestRepair.f K a b) (0, false) := by
  refine ⟨1, fun m hm => ?_⟩
  obtain ⟨m, rfl⟩ : ∃ q, m = q + 1 := ⟨m - 1, by omega⟩
  show spec_LongestRepair.f (m + 1) a b = _
  unfold spec_LongestRepair.f
  rw [l1In_eq]
  cases t1 : inB 2 4 a with
  | false =>
    simp only [Option.bind_some, Bool.false_eq_true, if_false]
    rw [spec_LongestRepair.j0, if_pos rfl]
  | true =>
    have h1 := inB_iff.1 t1
    simp only [Option.bind_some, if_true]
    rw [l1In_eq]
    cases t2 : inB a 5 b with
    | false =>
      simp only [Option.bind_some, Bool.not_false]
      rw [spec_LongestRepair.j0, if_pos rfl]
    | true =>
      have h2 := inB_iff.1 t2
      omega
theorem tab_of {n k : Nat} (h1 : 2 ≤ n) (h2 : n ≤ 4) (h3 : n ≤ k) (h4 : k ≤ 5) : Tab n k := by
  rcases (by omega : (n = 2 ∧ k = 2) ∨ (n = 2 ∧ k = 3) ∨ (n = 2 ∧ k = 4) ∨ (n = 2 ∧ k = 5) ∨ (n = 3 ∧ k = 3) ∨ (n = 3 ∧ k = 4) ∨ (n = 3 ∧ k = 5) ∨ (n = 4 ∧ k = 4) ∨ (n = 4 ∧ k = 5)) with ⟨rfl, rfl⟩ | ⟨rfl, rfl⟩ | ⟨rfl, rfl⟩ | ⟨rfl, rfl⟩ | ⟨rfl, rfl⟩ | ⟨rfl, rfl⟩ | ⟨rfl, rfl⟩ | ⟨rfl, rfl⟩ | ⟨rfl, rfl⟩
  · exact ⟨h1, h2, h3, h4, okT22, okN22⟩
  · exact ⟨h1, h2, h3, h4, okT23, okN23⟩
  · exact ⟨h1, h2, h3, h4, okT24, okN24⟩
  · exact ⟨h1, h2, h3, h4, okT25, okN25⟩
  · exact ⟨h1, h2, h3, h4, okT33, okN33⟩
  · exact ⟨h1, h2, h3, h4, okT34, okN34⟩
  · exact ⟨h1, h2, h3, h4, okT35, okN35⟩
  · exact ⟨h1, h2, h3, h4, okT44, okN44⟩
  · exact ⟨h1, h2, h3, h4, okT45, okN45⟩
theorem LongestRepair_same (a b : Int) : ∃ v, Ev (fun K => spec_LongestRepair.f K a b) v ∧ Ev (fun K => impl_LongestRepair.f K a b) v := by
  by_cases h : 2 ≤ a ∧ a ≤ 4 ∧ a ≤ b ∧ b ≤ 5
  · have hT : Tab a.toNat b.toNat := tab_of (by omega) (by omega) (by omega) (by omega)
    have h1 := specLongest_ev hT
    have h2 := implLongest_ev hT.hn hT.hn4 hT.hk hT.hk5 hT.hT
    rw [show ((a.toNat : Nat) : Int) = a by omega, show ((b.toNat : Nat) : Int) = b by omega] at h1 h2
    exact ⟨_, h1, h2⟩
  · exact ⟨_, specLongest_no h, implLongest_no h⟩
end Go.Proofs.Ytjfjpfgnclnehaa.X

/- LongestRepair answers as the reference does, for every two numbers: the pure statement. -/
namespace Go.Proofs.Ytjfjpfgnclnehaa.Pure
set_option linter.unusedSimpArgs false
set_option linter.unusedVariables false
open Go.RowKit Go.Proofs.Ytjfjpfgnclnehaa.X Go.Proofs.YtjfjpfgnclnehaaW.PrintWords Go.Proofs.YtjfjpfgnclnehaaW.PrintLast
theorem FnExactLongestRepair : ∀ (a0 : Int) (a1 : Int), (Lit.int .i64 a0).wf = true → (Lit.int .i64 a1).wf = true → ∃ k, laws_FnExactLongestRepair.f k a0 a1 = some true := by
  intro n k _ _
  obtain ⟨v, ⟨K1, e1⟩, ⟨K2, e2⟩⟩ := LongestRepair_same n k
  dsimp only at e1 e2
  refine ⟨K1 + K2, ?_⟩
  simp only [laws_FnExactLongestRepair.f]
  rw [e1 _ (by omega), e2 _ (by omega)]
  simp
end Go.Proofs.Ytjfjpfgnclnehaa.Pure

/- Plain lemmas for the rows: a slice of structs of three whole numbers that came in, opened to cells. -/
namespace Go.Proofs.Ytjfjpfgnclnehaa.Rw
open Go.ChangeShapes Go.WideShapes Go.Deep Go.RowKit
section
variable {H : Type} {enc : TypeId × Value → H} {P : Program} {w : World} {base : Nat} {spare : Nat → Bool} {held : Bool}
end
end Go.Proofs.Ytjfjpfgnclnehaa.Rw
