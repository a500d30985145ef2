/- Plain lemmas: sums of windows, and greatest numbers. -/
import Derived.Test.YthaddopcblcfiaaPlSum
namespace Go.Proofs.Ythaddopcblcfiaa.X
open Go.RowKit Go.Proofs.YthaddopcblcfiaaW.PrintWords
/-- The sum of l[s:e]. -/
def win (l : List Int) (s e : Nat) : Int := ((l.take e).drop s).sum
theorem win_end (l : List Int) (e : Nat) : win l e e = 0 := by
  unfold win
  rw [List.drop_eq_nil_of_le (by simp; omega)]
  rfl
theorem win_cons (l : List Int) (s e : Nat) (h : s < e) (he : e ≤ l.length) : win l s e = l[s] + win l (s + 1) e := by
  unfold win
  rw [List.drop_eq_getElem_cons (by simp; omega), List.sum_cons]
  simp
theorem win_len (l : List Int) (s e : Nat) : ((l.take e).drop s).length ≤ l.length := by simp; omega
theorem win_mem (l : List Int) (s e : Nat) : ∀ x ∈ (l.take e).drop s, x ∈ l := fun _ hx => List.mem_of_mem_take (List.mem_of_mem_drop hx)
theorem win_bound (l : List Int) (s e : Nat) (hl : l.length ≤ 40) (h : ∀ x ∈ l, 0 ≤ x ∧ x ≤ 1000) : -40000 ≤ win l s e ∧ win l s e ≤ 40000 := by
  have h1 := sum_bound 1000 (by omega) ((l.take e).drop s) (fun x hx => by have := h x (win_mem l s e x hx); omega)
  have h2 := win_len l s e
  unfold win
  omega
/-- The greatest of a and g 0, .., g (n - 1). -/
def mxTo (g : Nat → Int) (a : Int) : Nat → Int
  | 0 => a
  | n + 1 => max (mxTo g a n) (g n)
theorem mxTo_max (g : Nat → Int) (a b : Int) : ∀ n, mxTo g (max a b) n = max (mxTo g a n) b
  | 0 => rfl
  | n + 1 => by
    simp only [mxTo, mxTo_max g a b n]
    omega
theorem mxTo_pull (g : Nat → Int) (a : Int) (n : Nat) : mxTo g (max a (g n)) n = mxTo g a (n + 1) := by rw [mxTo_max]; rfl
theorem mx_max' (a b : Int) : mx a b = max a b := by unfold mx; omega
theorem mul_bound {a b A B : Int} (h0 : 0 ≤ a) (h1 : a ≤ A) (h2 : 0 ≤ b) (h3 : b ≤ B) : 0 ≤ a * b ∧ a * b ≤ A * B := by
  refine ⟨Int.mul_nonneg h0 h2, ?_⟩
  exact Int.le_trans (Int.mul_le_mul_of_nonneg_right h1 h2) (Int.mul_le_mul_of_nonneg_left h3 (by omega))
end Go.Proofs.Ythaddopcblcfiaa.X
