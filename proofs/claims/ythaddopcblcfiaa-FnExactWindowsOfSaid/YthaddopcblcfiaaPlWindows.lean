/- WindowsOf: the program and the reference come to the same. -/
import Derived.Test.YthaddopcblcfiaaPlWin
import Derived.Test.YthaddopcblcfiaaPlTraffic
import Derived.Test.YthaddopcblcfiaaX15
import Derived.Test.YthaddopcblcfiaaX5
import Derived.Test.YthaddopcblcfiaaX16
namespace Go.Proofs.Ythaddopcblcfiaa.X
open Go.RowKit Go.Proofs.YthaddopcblcfiaaW.PrintWords
theorem l1Most_eq' (a b : Int) : spec_l1Most.f a b = some (max a b) := by
  unfold spec_l1Most.f
  split <;> (congr 1; omega)
/-- The greatest sum of windows of k ticks. -/
def most (l : List Int) (k : Nat) : Int := mxTo (fun s => win l s (s + k)) 0 (l.length + 1 - k)
def mosts (l : List Int) (n : Nat) : List Int := (List.range n).map (fun (j : Nat) => most l (j + 1))
theorem mosts_succ (l : List Int) (n : Nat) : mosts l (n + 1) = mosts l n ++ [most l (n + 1)] := by simp [mosts, List.range_succ]
theorem mosts_len (l : List Int) (n : Nat) : (mosts l n).length = n := by simp [mosts]
theorem sum_take (l : List Int) (i : Nat) (h : i < l.length) : (l.take (i + 1)).sum = (l.take i).sum + l[i] := by
  rw [List.take_succ_eq_append_getElem h, List.sum_append]
  simp
theorem specWin_sum (l out w : List Int) (a : Int) (k s : Int) (hl : w.length ≤ 40) (ha : ∀ x ∈ w, 0 ≤ x ∧ x ≤ 1000) (v : List Int)
    (h : Ev (fun k0 => spec_shWindows.l1 k0 l out k (max a w.sum) (wrap64 (s + 1))) v) :
    Ev (fun k0 => spec_shWindows.l2 k0 l out k a s 0 w (w.length : Int) 0) v := by
  have key := evUp0 w.length (fun k0 (x : Int) (i : Nat) => spec_shWindows.l2 k0 l out k a s x w (w.length : Int) (i : Int)) (fun i x => x = (w.take i).sum) v 0 (by simp)
    (by
      intro i x hi hI
      have hb := sum_bound 1000 (by omega) (w.take i) (fun y hy => by have := ha y (List.mem_of_mem_take hy); omega)
      have hlt : (w.take i).length ≤ 40 := by simp; omega
      have hx := ha _ (List.getElem_mem hi)
      refine .inl ⟨x + w[i], by rw [sum_take w i hi, hI], fun h => evNext (fun k0 => ?_) h⟩
      show spec_shWindows.l2 (k0 + 1) l out k a s x w (w.length : Int) (i : Int) = spec_shWindows.l2 k0 l out k a s (x + w[i]) w (w.length : Int) (i + 1 : Nat)
      simp only [spec_shWindows.l2]
      rw [if_pos (by omega), if_pos (by omega), if_pos (by omega), rd_at w i hi]
      simp (disch := omega) only [w64]
      rfl)
    (by
      intro x hI
      rw [List.take_length] at hI
      refine evNext (fun k0 => ?_) h
      show spec_shWindows.l2 (k0 + 1) l out k a s x w (w.length : Int) (w.length : Int) = _
      simp only [spec_shWindows.l2]
      rw [if_neg (by omega), l1Most_eq', hI]
      rfl)
  exact key
theorem specWin_inner (l out : List Int) (hl : l.length ≤ 40) (ha : ∀ x ∈ l, 0 ≤ x ∧ x ≤ 1000) (k : Nat) (h1 : 1 ≤ k) (hk : k ≤ l.length) (ho : out.length ≤ 100) (v : List Int)
    (h : Ev (fun k0 => spec_shWindows.l0 k0 l (out ++ [most l k]) ((k + 1 : Nat) : Int)) v) :
    Ev (fun k0 => spec_shWindows.l1 k0 l out (k : Int) 0 0) v := by
  have key := evUp0 (l.length + 1 - k) (fun k0 (x : Int) (i : Nat) => spec_shWindows.l1 k0 l out (k : Int) x (i : Int)) (fun i x => x = mxTo (fun s => win l s (s + k)) 0 i) v 0 rfl
    (by
      intro i x hi hI
      refine .inl ⟨max x (win l i (i + k)), by rw [hI]; rfl, fun h => ?_⟩
      have e1 : ((i : Int) + k).toNat = i + k := by omega
      have hw := win_len l i (i + k)
      have h2 := specWin_sum l out ((l.take (i + k)).drop i) x (k : Int) (i : Int) (by omega) (fun y hy => ha y (win_mem l i (i + k) y hy)) v (by rw [w64 (by omega) (by omega)]; exact h)
      refine evNext (fun k0 => ?_) h2
      show spec_shWindows.l1 (k0 + 1) l out (k : Int) x (i : Int) = _
      simp only [spec_shWindows.l1]
      rw [w64 (x := (i : Int) + k) (by omega) (by omega), if_pos (by omega), if_pos (by omega), if_pos (by omega), e1, Int.toNat_natCast])
    (by
      intro x hI
      have hI' : x = most l k := hI
      refine evNext (fun k0 => ?_) h
      show spec_shWindows.l1 (k0 + 1) l out (k : Int) x ((l.length + 1 - k : Nat) : Int) = _
      simp only [spec_shWindows.l1]
      rw [w64 (by omega) (by omega), if_neg (by omega), if_pos (by omega), w64 (by omega) (by omega), hI']
      rfl)
  exact key
theorem implWin_inner (l out : List Int) (hl : l.length ≤ 40) (ha : ∀ x ∈ l, 0 ≤ x ∧ x ≤ 1000) (k : Nat) (h1 : 1 ≤ k) (hk : k ≤ l.length) (ho : out.length ≤ 100) (v : List Int × Bool)
    (h : Ev (fun k0 => impl_WindowsOf.l0 k0 l (out ++ [most l k]) ((k + 1 : Nat) : Int)) v) :
    Ev (fun k0 => impl_WindowsOf.l1 k0 l out (k : Int) 0 0) v := by
  have key := evUp0 (l.length + 1 - k) (fun k0 (x : Int) (i : Nat) => impl_WindowsOf.l1 k0 l out (k : Int) x (i : Int)) (fun i x => x = mxTo (fun s => win l s (s + k)) 0 i) v 0 rfl
    (by
      intro i x hi hI
      have e1 : ((i : Int) + k).toNat = i + k := by omega
      refine .inl ⟨max x (win l i (i + k)), by rw [hI]; rfl, fun h => ?_⟩
      have hwl := win_len l i (i + k)
      have hS' : Ev (fun k0 => impl_sumOf.f k0 ((l.take (i + k)).drop i)) (win l i (i + k)) := sumOf_ev ((l.take (i + k)).drop i) (by omega) (fun y hy => by have := ha y (win_mem l i (i + k) y hy); omega)
      refine evCall hS' (fun k0 hk0 => ?_) h
      show impl_WindowsOf.l1 (k0 + 1) l out (k : Int) x (i : Int) = impl_WindowsOf.l1 k0 l out (k : Int) (max x (win l i (i + k))) (i + 1 : Nat)
      simp only [impl_WindowsOf.l1]
      rw [w64 (x := (i : Int) + k) (by omega) (by omega), if_pos (by omega), if_pos (by omega), if_pos (by omega), e1, Int.toNat_natCast, hk0, w64 (by omega) (by omega)]
      simp only [Option.bind_some, mx_max']
      rfl)
    (by
      intro x hI
      have hI' : x = most l k := hI
      refine evNext (fun k0 => ?_) h
      show impl_WindowsOf.l1 (k0 + 1) l out (k : Int) x ((l.length + 1 - k : Nat) : Int) = _
      simp only [impl_WindowsOf.l1]
      rw [w64 (by omega) (by omega), if_neg (by omega), if_pos (by omega), w64 (by omega) (by omega), hI']
      rfl)
  exact key
theorem win_loops (l : List Int) (hl : l.length ≤ 40) (ha : ∀ x ∈ l, 0 ≤ x ∧ x ≤ 1000) :
    Ev (fun k => spec_shWindows.f k l) (mosts l l.length) ∧ Ev (fun k => impl_WindowsOf.l0 k l [] 1) (mosts l l.length, true) := by
  constructor
  · have key := evUp0 l.length (fun k (s : List Int) (i : Nat) => spec_shWindows.l0 k l s ((i : Int) + 1)) (fun i s => s = mosts l i) (mosts l l.length) [] rfl
      (by
        intro i s hi hI
        have hsl : s.length = i := by rw [hI, mosts_len]
        refine .inl ⟨mosts l (i + 1), rfl, fun h => evNext (fun k => ?_) (specWin_inner l s hl ha (i + 1) (by omega) (by omega) (by omega) _ (by rw [hI, ← mosts_succ]; exact h))⟩
        show spec_shWindows.l0 (k + 1) l s ((i : Int) + 1) = spec_shWindows.l1 k l s ((i + 1 : Nat) : Int) 0 0
        simp only [spec_shWindows.l0]
        rw [if_pos (by omega)]
        rfl)
      (by
        intro s hI
        refine evEnd fun k => ?_
        show spec_shWindows.l0 (k + 1) l s ((l.length : Int) + 1) = _
        simp only [spec_shWindows.l0]
        rw [if_neg (by omega), hI])
    exact key
  · have key := evUp0 l.length (fun k (s : List Int) (i : Nat) => impl_WindowsOf.l0 k l s ((i : Int) + 1)) (fun i s => s = mosts l i) (mosts l l.length, true) [] rfl
      (by
        intro i s hi hI
        have hsl : s.length = i := by rw [hI, mosts_len]
        refine .inl ⟨mosts l (i + 1), rfl, fun h => evNext (fun k => ?_) (implWin_inner l s hl ha (i + 1) (by omega) (by omega) (by omega) _ (by rw [hI, ← mosts_succ]; exact h))⟩
        show impl_WindowsOf.l0 (k + 1) l s ((i : Int) + 1) = impl_WindowsOf.l1 k l s ((i + 1 : Nat) : Int) 0 0
        simp only [impl_WindowsOf.l0]
        rw [if_pos (by omega)]
        rfl)
      (by
        intro s hI
        refine evEnd fun k => ?_
        show impl_WindowsOf.l0 (k + 1) l s ((l.length : Int) + 1) = _
        simp only [impl_WindowsOf.l0]
        rw [if_neg (by omega), hI])
    exact key
theorem WindowsOf_same (l : List Int) (h : (l.length ≤ maxLen ∧ l.length * 8 ≤ 140737488351232 ∧ (∀ x ∈ l, (Lit.int .i64 x).wf = true) ∧ l.length ≤ 1048576)) :
    ∃ v, Ev (fun k => spec_WindowsOf.f k l) v ∧ Ev (fun k => impl_WindowsOf.f k l) v ∧ v.1.length ≤ 1000000 := by
  obtain ⟨K3, e3⟩ := specTraffic_ev l (by omega)
  dsimp only at e3
  by_cases ht : isTr l = true
  · rw [ht] at e3
    obtain ⟨⟨K1, e1⟩, ⟨K2, e2⟩⟩ := win_loops l (isTr_len ht) (all_bound (isTr_all ht))
    dsimp only at e1 e2
    refine ⟨(mosts l l.length, true), ⟨K1 + K3 + 9, fun k hk => ?_⟩, ⟨K2 + 9, fun k hk => ?_⟩, by rw [mosts_len]; have := isTr_len ht; omega⟩
    · simp (disch := omega) only [spec_WindowsOf.f, e1, e3, Option.bind_some, if_true]
    · simp (disch := omega) only [impl_WindowsOf.f, implTraffic_eq, ht, e2, Option.bind_some, if_true]
  · have hf : isTr l = false := by simpa using ht
    rw [hf] at e3
    refine ⟨([], false), ⟨K3 + 9, fun k hk => ?_⟩, ⟨9, fun k hk => ?_⟩, by simp⟩
    · simp (disch := omega) [spec_WindowsOf.f, e3]
    · simp (disch := omega) [impl_WindowsOf.f, implTraffic_eq, hf]
end Go.Proofs.Ythaddopcblcfiaa.X
