/- Plain lemmas: the laws' marks on, and equality of, rows of rows of whole numbers. -/
import Derived.Test.YtjfjpfgnclnehaaPlEqInt
import Derived.Test.YtjfjpfgnclnehaaPlMarks
import Derived.Test.YtjfjpfgnclnehaaX23
import Derived.Test.YtjfjpfgnclnehaaX24
namespace Go.Proofs.Ytjfjpfgnclnehaa.X
set_option linter.unusedSimpArgs false
set_option linter.unusedVariables false
open Go.RowKit Go.Proofs.YtjfjpfgnclnehaaW.PrintWords Go.Proofs.YtjfjpfgnclnehaaW.PrintLast
theorem rdRows_at (l : List (List Int)) (i : Nat) (h : i < l.length) : rd_L2 l (i : Int) = l[i] := by
  simp [rd_L2, List.getD_eq_getElem?_getD, List.getElem?_eq_getElem h]
/-- How many numbers there are. -/
def tot (L : List (List Int)) : Nat := (L.map List.length).sum
theorem tot_append (a b : List (List Int)) : tot (a ++ b) = tot a + tot b := by simp [tot]
theorem tot_le (L : List (List Int)) (m : Nat) (h : ∀ l ∈ L, l.length ≤ m) : tot L ≤ L.length * m := by
  induction L with
  | nil => simp [tot]
  | cons a l ih =>
    have h1 := h a (by simp)
    have h2 := ih (fun x hx => h x (by simp [hx]))
    simp only [tot, List.map_cons, List.sum_cons, List.length_cons, Nat.succ_mul] at *
    omega
theorem tot_take (L : List (List Int)) (i : Nat) : tot (L.take i) ≤ tot L := by
  have h := tot_append (L.take i) (L.drop i)
  rw [List.take_append_drop] at h
  omega
theorem tot_take_succ (L : List (List Int)) (i : Nat) (h : i < L.length) : tot (L.take (i + 1)) = tot (L.take i) + L[i].length := by
  rw [List.take_succ_eq_append_getElem h, tot_append]
  simp [tot]
def marksRows : List (List Int) → Int → List (List Int)
  | [], _ => []
  | l :: L, a => marks l.length a :: marksRows L (a + l.length)
theorem marksRows_length (L : List (List Int)) : ∀ a, (marksRows L a).length = L.length := by
  induction L with
  | nil => intro a; rfl
  | cons l L ih => intro a; simp [marksRows, ih]
theorem marksRows_at (L : List (List Int)) : ∀ (a : Int) (i : Nat) (h : i < L.length), (marksRows L a)[i]'(by rw [marksRows_length]; exact h) = marks L[i].length (a + (tot (L.take i) : Int)) := by
  induction L with
  | nil => intro a i h; simp at h
  | cons l L ih =>
    intro a i h
    cases i with
    | zero => simp [marksRows, tot]
    | succ i =>
      have := ih (a + l.length) i (by simpa using h)
      simp only [marksRows, List.getElem_cons_succ, List.take_succ_cons]
      rw [this]
      congr 1
      simp only [tot, List.map_cons, List.sum_cons]
      omega
theorem markIntSS_ev (L : List (List Int)) (a : Int) (h0 : 0 ≤ a) (h1 : a + (tot L : Int) ≤ 4611686018427387904) (hL : L.length ≤ 4611686018427387904) : Ev (fun k => laws_markIntSS.f k L a) (a + (tot L : Int), marksRows L a) := by
  have hml := marksRows_length L a
  have key := evUp0 L.length (fun k (s : List (List Int)) (i : Nat) => laws_markIntSS.l0 k s (a + (tot (L.take i) : Int)) (i : Int)) (fun i s => s = (marksRows L a).take i ++ L.drop i) (a + (tot L : Int), marksRows L a) L (by simp)
    (by
      intro i s hi hI
      have hsl : s.length = L.length := by rw [hI]; simp [hml]; omega
      have ht := tot_take L (i + 1)
      have ht1 := tot_take_succ L i hi
      have hsi : rd_L2 s (i : Int) = L[i] := by
        rw [rdRows_at s i (by omega)]
        subst hI
        rw [List.getElem_append_right (by simp; omega)]
        simp [hml, Nat.min_eq_left (Nat.le_of_lt hi)]
      refine .inl ⟨(marksRows L a).take (i + 1) ++ L.drop (i + 1), rfl, fun h => evCall (markIntS_ev L[i] (a + (tot (L.take i) : Int)) (by omega) (by omega)) (fun k hk => ?_) h⟩
      show laws_markIntSS.l0 (k + 1) s (a + (tot (L.take i) : Int)) (i : Int) = laws_markIntSS.l0 k ((marksRows L a).take (i + 1) ++ L.drop (i + 1)) (a + (tot (L.take (i + 1)) : Int)) (i + 1 : Nat)
      simp only [laws_markIntSS.l0]
      rw [if_pos (by omega), if_pos (by omega), hsi, hk]
      simp only [Option.bind_some]
      rw [w64 (by omega) (by omega), Int.toNat_natCast]
      congr 1
      · subst hI
        have hm : i < (marksRows L a).length := by omega
        rw [List.take_succ_eq_append_getElem hm, List.append_assoc, List.set_append_right _ _ (by simp; omega)]
        congr 1
        have e1 : (List.take i (marksRows L a)).length = i := by simp [hml]; omega
        rw [e1, Nat.sub_self, List.drop_eq_getElem_cons hi, List.set_cons_zero, marksRows_at L a i hi]
        rfl
      · omega)
    (by
      intro s hI
      refine evEnd fun k => ?_
      show laws_markIntSS.l0 (k + 1) s (a + (tot (L.take L.length) : Int)) ((L.length : Nat) : Int) = _
      have hsl : s.length = L.length := by rw [hI]; simp [hml]
      simp only [laws_markIntSS.l0]
      rw [if_neg (by omega), hI, List.take_length]
      congr 2
      rw [List.take_of_length_le (by omega)]
      simp)
  refine Ev.congr (fun k => ?_) key
  unfold laws_markIntSS.f
  simp [tot]
theorem heldIntSS_ev (L : List (List Int)) (a : Int) (h0 : 0 ≤ a) (h1 : a + (tot L : Int) ≤ 4611686018427387904) (hL : L.length ≤ 4611686018427387904) : Ev (fun k => laws_heldIntSS.f k (marksRows L a) a) (a + (tot L : Int)) := by
  have hml := marksRows_length L a
  have key := evUp0 L.length (fun k (_ : Unit) (i : Nat) => laws_heldIntSS.l0 k (marksRows L a) (a + (tot (L.take i) : Int)) (i : Int)) (fun _ _ => True) (a + (tot L : Int)) () trivial
    (by
      intro i s hi _
      have ht := tot_take L (i + 1)
      have ht1 := tot_take_succ L i hi
      have hsi : rd_L2 (marksRows L a) (i : Int) = marks L[i].length (a + (tot (L.take i) : Int)) := by
        rw [rdRows_at _ i (by omega), marksRows_at L a i hi]
      refine .inl ⟨(), trivial, fun h => evCall (heldIntS_ev L[i].length (a + (tot (L.take i) : Int)) (by omega) (by omega)) (fun k hk => ?_) h⟩
      show laws_heldIntSS.l0 (k + 1) (marksRows L a) (a + (tot (L.take i) : Int)) (i : Int) = laws_heldIntSS.l0 k (marksRows L a) (a + (tot (L.take (i + 1)) : Int)) (i + 1 : Nat)
      simp only [laws_heldIntSS.l0]
      rw [if_pos (by omega), if_pos (by omega), hsi, hk]
      simp only [Option.bind_some]
      rw [if_neg (by omega), w64 (by omega) (by omega)]
      congr 1
      omega)
    (by
      intro s _
      refine evEnd fun k => ?_
      show laws_heldIntSS.l0 (k + 1) (marksRows L a) (a + (tot (L.take L.length) : Int)) ((L.length : Nat) : Int) = _
      simp only [laws_heldIntSS.l0]
      rw [if_neg (by omega), List.take_length])
  refine Ev.congr (fun k => ?_) key
  unfold laws_heldIntSS.f
  simp [tot]
theorem eqIntSS_ev (L : List (List Int)) (hL : L.length ≤ 4611686018427387904) (hl : ∀ l ∈ L, l.length ≤ 4611686018427387904) : Ev (fun k => laws_eqIntSS.f k L L) true := by
  have key := evUp0 L.length (fun k (_ : Unit) (i : Nat) => laws_eqIntSS.l0 k L L (i : Int)) (fun _ _ => True) true () trivial
    (by
      intro i s hi _
      refine .inl ⟨(), trivial, fun h => evCall (eqIntS_ev L[i] L[i] (by have := hl _ (List.getElem_mem hi); omega)) (fun k hk => ?_) h⟩
      show laws_eqIntSS.l0 (k + 1) L L (i : Int) = laws_eqIntSS.l0 k L L (i + 1 : Nat)
      simp only [laws_eqIntSS.l0]
      rw [if_pos (by omega), if_pos (by omega), if_pos (by omega), rdRows_at L i hi, hk, w64 (by omega) (by omega)]
      simp)
    (by
      intro s _
      refine evEnd fun k => ?_
      show laws_eqIntSS.l0 (k + 1) L L (L.length : Int) = _
      simp only [laws_eqIntSS.l0]
      rw [if_neg (by omega)])
  refine Ev.congr (fun k => ?_) key
  unfold laws_eqIntSS.f
  rw [if_pos rfl]
  rfl
end Go.Proofs.Ytjfjpfgnclnehaa.X
