/- LoadOfLinks: the program and the reference come to the same. -/
import Derived.Test.YtgkbeejkbhhjkaaPlMsgs
import Derived.Test.YtgkbeejkbhhjkaaX19
import Derived.Test.YtgkbeejkbhhjkaaX20
namespace Go.Proofs.Ytgkbeejkbhhjkaa.X
set_option linter.unusedSimpArgs false
set_option linter.unusedVariables false
open Go.RowKit Go.Proofs.YtgkbeejkbhhjkaaW.PrintWords
theorem load_eq : ∀ k : Nat, (∀ a b c d e f, spec_LoadOfLinks.l0 k a b c d e f = impl_LoadOfLinks.l0 k a b c d e f) ∧ (∀ a b c d e f g h i j, spec_LoadOfLinks.l1 k a b c d e f g h i j = impl_LoadOfLinks.l1 k a b c d e f g h i j)
  | 0 => ⟨fun a b c d e f => by rw [spec_LoadOfLinks.l0.eq_1, impl_LoadOfLinks.l0.eq_1], fun a b c d e f g h i j => by rw [spec_LoadOfLinks.l1.eq_1, impl_LoadOfLinks.l1.eq_1]⟩
  | k + 1 => by
    obtain ⟨i0, i1⟩ := load_eq k
    exact ⟨fun a b c d e f => by rw [spec_LoadOfLinks.l0.eq_2, impl_LoadOfLinks.l0.eq_2]; simp only [i1], fun a b c d e f g h i j => by rw [spec_LoadOfLinks.l1.eq_2, impl_LoadOfLinks.l1.eq_2]; simp only [i0, i1]⟩
theorem loadIn (n : Int) (hn : 2 ≤ n ∧ n ≤ 12) (b : Bool) (l : List S30) (i : Int) (p q dst : Int) (ht : 0 ≤ dst ∧ dst ≤ n - 1)
    (hk : ∀ s : List Int, (s.length : Int) = n → ∃ v : List Int × Bool, Ev (fun k => impl_LoadOfLinks.l0 k s l (l.length : Int) (wrap64 (i + 1)) n b) v ∧ (v.1.length : Int) = n) :
    ∀ (d : Nat) (s : List Int) (x : Int), (s.length : Int) = n → 0 ≤ x ∧ x ≤ n - 1 → (d : Int) = (if x ≤ dst then dst - x else dst - x + n) → ∃ v : List Int × Bool, Ev (fun k => impl_LoadOfLinks.l1 k s x l (l.length : Int) i n b p q dst) v ∧ (v.1.length : Int) = n := by
  intro d
  induction d with
  | zero =>
    intro s x hs hx hd
    have e : x = dst := by split at hd <;> omega
    obtain ⟨v, hv, hl⟩ := hk s hs
    refine ⟨v, evNext (fun k => ?_) hv, hl⟩
    rw [impl_LoadOfLinks.l1.eq_2, if_pos e]
  | succ d ih =>
    intro s x hs hx hd
    have ne : ¬ x = dst := by
      intro e
      rw [if_pos (by omega)] at hd
      omega
    have hw : wrap64 (x + 1) = x + 1 := w64 (by omega) (by omega)
    have hm : Int.tmod (x + 1) n = if x + 1 = n then 0 else x + 1 := by
      by_cases e : x + 1 = n
      · rw [if_pos e, e, Int.tmod_self]
      · rw [if_neg e, Int.tmod_eq_of_lt (by omega) (by omega)]
    obtain ⟨v, hv, hl⟩ := ih (s.set (x : Int).toNat (wrap64 ((rd s x) + 1))) (if x + 1 = n then 0 else x + 1) (by rw [List.length_set]; exact hs) (by split <;> omega) (by
      by_cases e : x + 1 = n
      · rw [if_pos e, if_pos (by omega)]
        rw [if_neg (by omega)] at hd
        omega
      · rw [if_neg e]
        split at hd
        · rw [if_pos (by omega)]
          omega
        · rw [if_neg (by omega)]
          omega)
    refine ⟨v, evNext (fun k => ?_) hv, hl⟩
    rw [impl_LoadOfLinks.l1.eq_2, if_neg ne, if_pos (by omega), if_pos (by omega), if_neg (by omega), hw, hm]
theorem loadOut {n : Int} {b : Bool} {l : List S30} (h : isSl n l = true) : ∀ (d i : Nat), i + d = l.length → ∀ s : List Int, (s.length : Int) = n → ∃ v : List Int × Bool, Ev (fun k => impl_LoadOfLinks.l0 k s l (l.length : Int) (i : Int) n b) v ∧ (v.1.length : Int) = n := by
  obtain ⟨hn, hl, ha⟩ := isSl_at h
  intro d
  induction d with
  | zero =>
    intro i hi s hs
    refine ⟨(s, true), evEnd fun k => ?_, hs⟩
    rw [impl_LoadOfLinks.l0.eq_2, if_neg (by omega)]
  | succ d ih =>
    intro i hi s hs
    have h1 := ha i (by omega)
    have hd : ∃ d' : Nat, (d' : Int) = (if (rd_T30 l (i : Int)).f1 ≤ (rd_T30 l (i : Int)).f2 then (rd_T30 l (i : Int)).f2 - (rd_T30 l (i : Int)).f1 else (rd_T30 l (i : Int)).f2 - (rd_T30 l (i : Int)).f1 + n) := by
      refine ⟨Int.toNat (if (rd_T30 l (i : Int)).f1 ≤ (rd_T30 l (i : Int)).f2 then (rd_T30 l (i : Int)).f2 - (rd_T30 l (i : Int)).f1 else (rd_T30 l (i : Int)).f2 - (rd_T30 l (i : Int)).f1 + n), ?_⟩
      rw [Int.toNat_of_nonneg]
      split <;> omega
    obtain ⟨d', hd'⟩ := hd
    obtain ⟨v, hv, hlv⟩ := loadIn n hn b l (i : Int) (rd_T30 l (i : Int)).f0 (rd_T30 l (i : Int)).f1 (rd_T30 l (i : Int)).f2 (by omega)
      (fun s' hs' => by
        rw [w64 (by omega) (by omega)]
        exact ih (i + 1) (by omega) s' hs') d' s (rd_T30 l (i : Int)).f1 hs (by omega) hd'
    refine ⟨v, evNext (fun k => ?_) hv, hlv⟩
    rw [impl_LoadOfLinks.l0.eq_2, if_pos (by omega), if_pos (by omega), if_pos (by omega)]
theorem LoadOfLinks_same (n : Int) (b : Bool) (L : List S25) (h : (Lit.int .i64 n).wf = true ∧ L.length ≤ maxLen ∧ (∀ x ∈ L, (Lit.int .i64 x.f0).wf = true ∧ (Lit.int .i64 x.f1).wf = true ∧ (Lit.int .i64 x.f2).wf = true) ∧ L.length ≤ 1048576) :
    ∃ v, Ev (fun k => spec_LoadOfLinks.f k n b (toL L)) v ∧ Ev (fun k => impl_LoadOfLinks.f k n b (toL L)) v ∧ v.1.length ≤ 1000000 := by
  have htl := toL_length L
  generalize toL L = J at htl ⊢
  obtain ⟨K1, e1⟩ := specMsgs_ev n b J (by omega)
  obtain ⟨K2, e2⟩ := implSlotted_ev n b J (by omega)
  dsimp only at e1 e2
  cases hs : isSl n J with
  | false =>
    rw [hs] at e1 e2
    exact ⟨([], false), ⟨K1, fun k hk => by simp (disch := omega) [spec_LoadOfLinks.f, e1]⟩, ⟨K2, fun k hk => by simp (disch := omega) [impl_LoadOfLinks.f, e2]⟩, by simp⟩
  | true =>
    rw [hs] at e1 e2
    obtain ⟨hn, hl, ha⟩ := isSl_at hs
    obtain ⟨v, ⟨K3, e3⟩, hv⟩ := loadOut (b := b) hs J.length 0 (by omega) (List.replicate n.toNat 0) (by rw [List.length_replicate]; omega)
    dsimp only at e3
    refine ⟨v, ⟨K1 + K3, fun k hk => ?_⟩, ⟨K2 + K3, fun k hk => ?_⟩, by omega⟩
    · dsimp only
      unfold spec_LoadOfLinks.f
      rw [e1 k (by omega)]
      simp only [Option.bind_some, if_true]
      rw [if_pos (by omega), if_pos (by omega), (load_eq k).1]
      exact e3 k (by omega)
    · dsimp only
      unfold impl_LoadOfLinks.f
      rw [e2 k (by omega)]
      simp only [Option.bind_some, if_true]
      rw [if_pos (by omega), if_pos (by omega)]
      exact e3 k (by omega)
end Go.Proofs.Ytgkbeejkbhhjkaa.X
