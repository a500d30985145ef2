/- DelayOfShape: the program and the reference come to the same. -/
import Derived.Test.YtcamhmafkbbooaaPlShape
import Derived.Test.YtcamhmafkbbooaaX22
import Derived.Test.YtcamhmafkbbooaaX23
namespace Go.Proofs.Ytcamhmafkbbooaa.X
set_option linter.unusedSimpArgs false
set_option linter.unusedVariables false
open Go.RowKit Go.Proofs.YtcamhmafkbbooaaW.PrintWords
/-- x is the greatest delay of the numbers before s that go before te. -/
def IsDly (r d : Int) (l : List Int) (te s : Nat) (x : Int) : Prop :=
  0 ≤ x ∧ (x = 0 ∨ ∃ t k : Nat, t < te ∧ k < s ∧ goes r d l t k ∧ x = (t : Int) - (k : Int)) ∧ ∀ t k : Nat, t < te → k < s → goes r d l t k → (t : Int) - (k : Int) ≤ x
theorem IsDly.same {r d : Int} {l : List Int} {te s : Nat} {x y : Int} (h : IsDly r d l te s x) (h' : IsDly r d l te s y) : x = y := by
  obtain ⟨a1, a2, a3⟩ := h
  obtain ⟨b1, b2, b3⟩ := h'
  rcases a2 with a2 | ⟨t, k, c1, c2, c3, c4⟩
  · rcases b2 with b2 | ⟨t, k, c1, c2, c3, c4⟩
    · omega
    · have := a3 t k c1 c2 c3
      omega
  · have := b3 t k c1 c2 c3
    rcases b2 with b2 | ⟨t', k', d1, d2, d3, d4⟩
    · omega
    · have := a3 t' k' d1 d2 d3
      omega
theorem ps_mono {l : List Int} (h : isTr l = true) : ∀ i j : Nat, i ≤ j → j ≤ l.length → ps l i ≤ ps l j
  | i, 0, hij, _ => by
    have : i = 0 := by omega
    subst this
    exact Int.le_refl _
  | i, j + 1, hij, hj => by
    by_cases e : i = j + 1
    · subst e
      exact Int.le_refl _
    · have := ps_mono h i j (by omega) (by omega)
      have hx := all_rd (isTr_all h) j (by omega)
      simp only [ps]
      omega
theorem gn_mono {r d : Int} {l : List Int} (hr : 1 ≤ r ∧ r ≤ 100) (hd : 1 ≤ d ∧ d ≤ 1000) (h : isTr l = true) : ∀ i j : Nat, i ≤ j → gn r d l i ≤ gn r d l j
  | i, 0, hij => by
    have : i = 0 := by omega
    subst this
    exact Int.le_refl _
  | i, j + 1, hij => by
    by_cases e : i = j + 1
    · subst e
      exact Int.le_refl _
    · have := gn_mono hr hd h i j (by omega)
      have ha := amt_bound hr hd h j
      simp only [gn]
      omega
/-- What goes at tick t has come by then. -/
theorem goes_nd {r d : Int} {l : List Int} (hr : 1 ≤ r ∧ r ≤ 100) (hd : 1 ≤ d ∧ d ≤ 1000) (h : isTr l = true) {t k : Nat} (hk : k < l.length) (hg : goes r d l t k) : k < nd l (t + 1) := by
  rcases Nat.lt_or_ge k (nd l (t + 1)) with h1 | h1
  · exact h1
  · exfalso
    obtain ⟨g1, g2, g3⟩ := hg
    have a := gn_left r d l (t + 1)
    have b := st_bound hr hd h (t + 1)
    have c := ps_mono h (nd l (t + 1)) k h1 (by omega)
    have e : ps l (k + 1) = ps l k + rd l (k : Int) := rfl
    omega
theorem goes_one {r d : Int} {l : List Int} (hr : 1 ≤ r ∧ r ≤ 100) (hd : 1 ≤ d ∧ d ≤ 1000) (h : isTr l = true) {t t' k : Nat} (hg : goes r d l t k) (hg' : goes r d l t' k) : t = t' := by
  have key : ∀ a b : Nat, a < b → goes r d l a k → goes r d l b k → False := by
    intro a b hab ⟨_, g2, _⟩ ⟨_, _, g3⟩
    have := gn_mono hr hd h (a + 1) b (by omega)
    have e : gn r d l (b + 1) = gn r d l b + amt r d l b := rfl
    omega
  rcases Nat.lt_trichotomy t t' with c | c | c
  · exact (key t t' c hg hg').elim
  · exact c
  · exact (key t' t c hg' hg).elim
theorem dIn_ge (r d : Int) (l : List Int) (t : Nat) : ∀ m x, x ≤ dIn r d l t m x
  | 0, x => Int.le_refl _
  | m + 1, x => by
    have := dIn_ge r d l t m x
    simp only [dIn]
    split <;> omega
theorem dIn_up (r d : Int) (l : List Int) (t : Nat) : ∀ m x k, k < m → goes r d l t k → (t : Int) - (k : Int) ≤ dIn r d l t m x
  | 0, x, k, h, _ => by omega
  | m + 1, x, k, h, hg => by
    simp only [dIn]
    by_cases e : k = m
    · subst e
      rw [if_pos hg]
      omega
    · have := dIn_up r d l t m x k (by omega) hg
      split <;> omega
theorem dIn_at (r d : Int) (l : List Int) (t : Nat) : ∀ m x, dIn r d l t m x = x ∨ ∃ k, k < m ∧ goes r d l t k ∧ dIn r d l t m x = (t : Int) - (k : Int)
  | 0, x => .inl rfl
  | m + 1, x => by
    have := dIn_at r d l t m x
    simp only [dIn]
    split
    · rename_i hg
      rcases Int.le_total (dIn r d l t m x) ((t : Int) - (m : Int)) with c | c
      · exact .inr ⟨m, by omega, hg, by omega⟩
      · rcases this with this | ⟨k, h1, h2, h3⟩
        · exact .inl (by omega)
        · exact .inr ⟨k, by omega, h2, by omega⟩
    · rcases this with this | ⟨k, h1, h2, h3⟩
      · exact .inl this
      · exact .inr ⟨k, by omega, h2, h3⟩
theorem dly_is {r d : Int} {l : List Int} (hr : 1 ≤ r ∧ r ≤ 100) (hd : 1 ≤ d ∧ d ≤ 1000) (h : isTr l = true) : ∀ te, IsDly r d l te l.length (dly r d l te)
  | 0 => ⟨Int.le_refl _, .inl rfl, fun t k ht _ _ => by omega⟩
  | te + 1 => by
    obtain ⟨a1, a2, a3⟩ := dly_is hr hd h te
    have g1 := dIn_ge r d l te (nd l (te + 1)) (dly r d l te)
    refine ⟨by simp only [dly]; omega, ?_, ?_⟩
    · rcases dIn_at r d l te (nd l (te + 1)) (dly r d l te) with c | ⟨k, c1, c2, c3⟩
      · rcases a2 with a2 | ⟨t, k, b1, b2, b3, b4⟩
        · exact .inl (by simp only [dly]; omega)
        · exact .inr ⟨t, k, by omega, b2, b3, by simp only [dly]; omega⟩
      · have := nd_le l (te + 1)
        exact .inr ⟨te, k, by omega, by omega, c2, by simp only [dly]; exact c3⟩
    · intro t k ht hk hg
      simp only [dly]
      by_cases e : t = te
      · subst e
        exact dIn_up r d l t _ _ k (goes_nd hr hd h hk hg) hg
      · have := a3 t k (by omega) hk hg
        omega
theorem outs_rd (r d : Int) (l : List Int) (te t : Nat) (h : t < te) : rd (outs r d l te) (t : Int) = amt r d l t := by
  rw [rd_at _ t (by rw [outs_len]; exact h)]
  simp [outs]
/-- The reference looks for the tick at which the last of a number goes. -/
theorem specDelay_in {r d : Int} {l : List Int} (hr : 1 ≤ r ∧ r ≤ 100) (hd : 1 ≤ d ∧ d ≤ 1000) (h : isTr l = true) (te : Nat) (hte : te ≤ 100) (hend : gn r d l te = ps l l.length) (s : Nat) (hs : s < l.length) (hx : 0 < rd l (s : Int)) (m : Int) (hm : 0 ≤ m ∧ m ≤ 100) (v : Int) :
    ∀ (n t : Nat), t + n = te → (∀ t' : Nat, t' < t → gn r d l (t' + 1) < ps l (s + 1)) →
      (∀ t : Nat, t < te → goes r d l t s → (∀ t' : Nat, t' < t → gn r d l (t' + 1) < ps l (s + 1)) → Ev (fun k => spec_shDelay.l0 k (outs r d l te) (max m ((t : Int) - (s : Int))) (ps l (s + 1)) (gn r d l t) (t : Int) l (l.length : Int) ((s + 1 : Nat) : Int)) v) →
      Ev (fun k => spec_shDelay.l1 k (outs r d l te) m (ps l (s + 1)) (gn r d l t) (t : Int) (s : Int) l (l.length : Int) (s : Int)) v := by
  have hlen := outs_len r d l te
  have hl := isTr_len h
  have hps := ps_bound h (s + 1) (by omega)
  have hpm := ps_mono h (s + 1) l.length (by omega) (Nat.le_refl _)
  have hp0 := ps_bound h s (by omega)
  have epS : ps l (s + 1) = ps l s + rd l (s : Int) := rfl
  intro n
  induction n with
  | zero =>
    intro t ht hlow _
    exfalso
    have e : t = te := by omega
    subst e
    rcases Nat.eq_zero_or_pos t with h0 | h0
    · subst h0
      have : gn r d l 0 = 0 := rfl
      omega
    · have := hlow (t - 1) (by omega)
      rw [show t - 1 + 1 = t by omega] at this
      omega
  | succ n ih =>
    intro t ht hlow hk
    have ha := amt_bound hr hd h t
    have hg := gn_bound hr hd h t
    have egn : gn r d l (t + 1) = gn r d l t + amt r d l t := rfl
    have hrd := outs_rd r d l te t (by omega)
    have hw1 : ∀ a b : Int, 0 ≤ a → a ≤ 100000 → 0 ≤ b → b ≤ 100000 → wrap64 (a + b) = a + b := fun a b _ _ _ _ => w64 (by omega) (by omega)
    by_cases hc : gn r d l (t + 1) < ps l (s + 1)
    · have := ih (t + 1) (by omega) (by
        intro t' ht'
        by_cases e : t' = t
        · subst e
          exact hc
        · exact hlow t' (by omega)) hk
      refine evNext (fun k => ?_) this
      rw [spec_shDelay.l1.eq_2, if_pos (by omega), if_pos (by omega), hrd, hw1 (gn r d l t) (amt r d l t) (by omega) (by omega) (by omega) (by omega), if_pos (by omega), hw1 (t : Int) 1 (by omega) (by omega) (by omega) (by omega), egn]
      rfl
    · have hlast : ps l (s + 1) > gn r d l t := by
        rcases Nat.eq_zero_or_pos t with h0 | h0
        · subst h0
          have : gn r d l 0 = 0 := rfl
          omega
        · have := hlow (t - 1) (by omega)
          rw [show t - 1 + 1 = t by omega] at this
          omega
      have := hk t (by omega) ⟨hx, by omega, by omega⟩ hlow
      refine evNext (fun k => ?_) this
      have hmost : spec_l1Most.f m ((t : Int) - (s : Int)) = some (max m ((t : Int) - (s : Int))) := by
        unfold spec_l1Most.f
        split <;> (congr 1; omega)
      have hw2 : wrap64 ((t : Int) - (s : Int)) = (t : Int) - (s : Int) := w64 (by omega) (by omega)
      have hw3 : wrap64 ((s : Int) + 1) = ((s + 1 : Nat) : Int) := hw1 (s : Int) 1 (by omega) (by omega) (by omega) (by omega)
      rw [spec_shDelay.l1.eq_2, if_pos (by clear hw2 hw3; omega), if_pos (by clear hw2 hw3; omega), hrd, hw1 (gn r d l t) (amt r d l t) (by clear hw2 hw3; omega) (by clear hw2 hw3; omega) (by clear hw2 hw3; omega) (by clear hw2 hw3; omega), if_neg (by clear hw2 hw3; omega), hw2, hmost, hw3]
      rfl
theorem specDelay_ev {r d : Int} {l : List Int} (hr : 1 ≤ r ∧ r ≤ 100) (hd : 1 ≤ d ∧ d ≤ 1000) (h : isTr l = true) (te : Nat) (hte : te ≤ 100) (hend : gn r d l te = ps l l.length) :
    Ev (fun k => spec_shDelay.f k l (outs r d l te)) (dly r d l te) := by
  have hlen := outs_len r d l te
  have hl := isTr_len h
  have key : ∀ (n s : Nat) (m : Int) (t : Nat), s + n = l.length → IsDly r d l te s m → m ≤ 100 → t ≤ te → (∀ t' : Nat, t' < t → gn r d l (t' + 1) < ps l s) → Ev (fun k => spec_shDelay.l0 k (outs r d l te) m (ps l s) (gn r d l t) (t : Int) l (l.length : Int) (s : Int)) (dly r d l te) := by
    intro n
    induction n with
    | zero =>
      intro s m t hn hm _ _ _
      have e : s = l.length := by omega
      subst e
      refine evEnd fun k => ?_
      rw [spec_shDelay.l0.eq_2, if_neg (by omega), hm.same (dly_is hr hd h te)]
    | succ n ih =>
      intro s m t hn hm hm100 htt hlow
      have hs : s < l.length := by omega
      have hx := all_rd (isTr_all h) s hs
      have hps := ps_bound h s (by omega)
      have epS : ps l (s + 1) = ps l s + rd l (s : Int) := rfl
      have hw1 : ∀ a b : Int, 0 ≤ a → a ≤ 100000 → 0 ≤ b → b ≤ 100000 → wrap64 (a + b) = a + b := fun a b _ _ _ _ => w64 (by omega) (by omega)
      by_cases h0 : rd l (s : Int) = 0
      · have := ih (s + 1) m t (by omega) ⟨hm.1, (by
          rcases hm.2.1 with c | ⟨t', k', c1, c2, c3, c4⟩
          · exact .inl c
          · exact .inr ⟨t', k', c1, by omega, c3, c4⟩), (by
          intro t' k' c1 c2 c3
          by_cases e : k' = s
          · subst e
            exfalso
            have := c3.1
            omega
          · exact hm.2.2 t' k' c1 (by omega) c3)⟩ hm100 htt (by
          intro t' ht'
          have := hlow t' ht'
          omega)
        refine evNext (fun k => ?_) this
        rw [spec_shDelay.l0.eq_2, if_pos (by omega), if_pos (by omega), if_pos (by omega), if_pos h0, hw1 (ps l s) (rd l (s : Int)) (by omega) (by omega) (by omega) (by omega), hw1 (s : Int) 1 (by omega) (by omega) (by omega) (by omega), epS]
        rfl
      · have := specDelay_in hr hd h te hte hend s hs (by omega) m ⟨hm.1, hm100⟩ (dly r d l te) (te - t) t (by omega) (by
          intro t' ht'
          have := hlow t' ht'
          omega) (by
          intro t1 ht1 hg hlow1
          exact ih (s + 1) (max m ((t1 : Int) - (s : Int))) t1 (by omega) ⟨by have := hm.1; omega, (by
            rcases Int.le_total m ((t1 : Int) - (s : Int)) with c | c
            · exact .inr ⟨t1, s, ht1, by omega, hg, by omega⟩
            · rcases hm.2.1 with c' | ⟨t', k', c1, c2, c3, c4⟩
              · exact .inl (by omega)
              · exact .inr ⟨t', k', c1, by omega, c3, by omega⟩), (by
            intro t' k' c1 c2 c3
            by_cases e : k' = s
            · subst e
              have := goes_one hr hd h c3 hg
              subst this
              omega
            · have := hm.2.2 t' k' c1 (by omega) c3
              omega)⟩ (by omega) (by omega) hlow1)
        refine evNext (fun k => ?_) this
        rw [spec_shDelay.l0.eq_2, if_pos (by omega), if_pos (by omega), if_pos (by omega), if_neg h0, hw1 (ps l s) (rd l (s : Int)) (by omega) (by omega) (by omega) (by omega), epS]
  exact key l.length 0 0 0 (by omega) ⟨Int.le_refl _, .inl rfl, fun t k _ hk _ => by omega⟩ (by omega) (by omega) (fun t' ht' => by omega)
theorem DelayOfShape_same (r d : Int) (l : List Int) (h : (Lit.int .i64 r).wf = true ∧ (Lit.int .i64 d).wf = true ∧ l.length ≤ maxLen ∧ l.length * 8 ≤ 140737488351232 ∧ (∀ x ∈ l, (Lit.int .i64 x).wf = true) ∧ l.length ≤ 1048576) :
    ∃ v, Ev (fun k => spec_DelayOfShape.f k r d l) v ∧ Ev (fun k => impl_DelayOfShape.f k r d l) v := by
  rcases shaped_runs r d l h.2.2.2.2.2 with ⟨hb, ht, ⟨K1, e1⟩, o, ho, ⟨K2, e2⟩, ⟨K3, e3⟩⟩ | ⟨⟨K1, e1⟩, ⟨K3, e3⟩⟩
  · dsimp only at e1 e2 e3
    have hB := isBk_iff hb
    cases o with
    | none =>
      simp only at e2 e3
      refine ⟨(0, false), ⟨K1 + K2 + 9, fun k hk => ?_⟩, ⟨K3, fun k hk => ?_⟩⟩
      · simp (disch := omega) only [spec_DelayOfShape.f, e1, e2, Option.bind_some, if_true, Bool.false_eq_true, if_false]
      · simp (disch := omega) only [impl_DelayOfShape.f, e3, Option.bind_some]
    | some t =>
      simp only at e2 e3
      have hte := end_le' ho.symm
      have hoff := (fin_some r d l 100 0 t ho.symm).1
      have hend : gn r d l t = ps l l.length := by
        have g := gn_left r d l t
        have b := st_bound ⟨hB.1, hB.2.1⟩ hB.2.2 ht t
        unfold on at hoff
        have e : nd l t = l.length := by unfold nd; omega
        rw [e] at g
        omega
      obtain ⟨K4, e4⟩ := specDelay_ev ⟨hB.1, hB.2.1⟩ hB.2.2 ht t hte hend
      dsimp only at e4
      refine ⟨(dly r d l t, true), ⟨K1 + K2 + K4, fun k hk => ?_⟩, ⟨K3, fun k hk => ?_⟩⟩
      · simp (disch := omega) only [spec_DelayOfShape.f, e1, e2, e4, Option.bind_some, if_true]
      · simp (disch := omega) only [impl_DelayOfShape.f, e3, Option.bind_some]
  · dsimp only at e1 e3
    refine ⟨(0, false), ⟨K1, fun k hk => ?_⟩, ⟨K3, fun k hk => ?_⟩⟩
    · simp (disch := omega) [spec_DelayOfShape.f, e1]
    · simp (disch := omega) [impl_DelayOfShape.f, e3]
end Go.Proofs.Ytcamhmafkbbooaa.X
