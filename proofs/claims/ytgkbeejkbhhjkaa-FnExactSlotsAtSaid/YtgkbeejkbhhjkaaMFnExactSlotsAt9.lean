/- Several texts of this session in one: PlSlots, PlStructs, PlIn, PlMsgs, PlLive, PlHas, PlSlotRuns, PlStructMarks, PureFnExactSlotsAt, Rw. -/
import Derived.Test.YtgkbeejkbhhjkaaMFnExactSlotsAt8
import Derived.Test.YtgkbeejkbhhjkaaMFnExactSlotsAt3
import Derived.Test.YtgkbeejkbhhjkaaMFnExactSlotsAt2
import Derived.Test.YtgkbeejkbhhjkaaMFnExactSlotsAt0
import Derived.Test.YtgkbeejkbhhjkaaMFnExactSlotsAt1
import Derived.Test.YtgkbeejkbhhjkaaMFnExactSlotsAt6
import Derived.Deep.Slices
import Derived.Deep.Fields
import Derived.ChangeSame
import Derived.Lib.SmallJoins
import Derived.SizedLaws
import Derived.ChangeSlices
/- Plain lemmas of slot rings: the order of the stations within a tick does not matter; the program's ring is the reference's. -/
namespace Go.Proofs.Ytgkbeejkbhhjkaa.X
set_option linter.unusedSimpArgs false
set_option linter.unusedVariables false
open Go.RowKit Go.Proofs.YtgkbeejkbhhjkaaW.PrintWords
section
variable {J : List S30} {fah : Bool} {t : Int}
/-- One after the other. -/
def slFold (J : List S30) (fah : Bool) (t : Int) (ops : List (Nat × Int)) (s : SlSt) : SlSt := ops.foldl (fun s p => slOne J fah t p.1 p.2 s) s
theorem slFold_inv {n : Nat} (ht : 0 ≤ t) : ∀ (A : List (Nat × Int)) (s : SlSt), SlInv n J.length s → (∀ p ∈ A, p.1 < n) → SlInv n J.length (slFold J fah t A s)
  | [], _, h, _ => h
  | p :: A, s, h, hA => slFold_inv ht A _ (slOne_inv ht h (hA p (by simp))) (fun q hq => hA q (by simp [hq]))
theorem slFold_past {n : Nat} (ht : 0 ≤ t) (b : Nat × Int) (hb : b.1 < n) : ∀ (A : List (Nat × Int)) (s : SlSt), SlInv n J.length s → (∀ p ∈ A, p.1 < n ∧ p.1 ≠ b.1 ∧ p.2 ≠ b.2) → slFold J fah t A (slOne J fah t b.1 b.2 s) = slOne J fah t b.1 b.2 (slFold J fah t A s)
  | [], _, _, _ => rfl
  | p :: A, s, h, hA => by
    obtain ⟨h1, h2, h3⟩ := hA p (by simp)
    show slFold J fah t A (slOne J fah t p.1 p.2 (slOne J fah t b.1 b.2 s)) = slOne J fah t b.1 b.2 (slFold J fah t A (slOne J fah t p.1 p.2 s))
    rw [slOne_comm (J := J) (fah := fah) (t := t) h hb h1 (Ne.symm h2) (Ne.symm h3)]
    exact slFold_past ht b hb A _ (slOne_inv ht h h1) (fun q hq => hA q (by simp [hq]))
theorem slFold_swap {n : Nat} (ht : 0 ≤ t) (A : List (Nat × Int)) (hA : ∀ p ∈ A, p.1 < n) : ∀ (B : List (Nat × Int)) (s : SlSt), SlInv n J.length s → (∀ b ∈ B, b.1 < n ∧ ∀ p ∈ A, p.1 ≠ b.1 ∧ p.2 ≠ b.2) → slFold J fah t (A ++ B) s = slFold J fah t (B ++ A) s
  | [], s, _, _ => by rw [List.append_nil]; rfl
  | b :: B, s, h, hB => by
    obtain ⟨h1, h2⟩ := hB b (by simp)
    have ih := slFold_swap ht A hA B (slOne J fah t b.1 b.2 s) (slOne_inv ht h h1) (fun q hq => hB q (by simp [hq]))
    have hp := slFold_past (J := J) (fah := fah) (t := t) ht b h1 A s h (fun p hp => ⟨hA p hp, (h2 p hp).1, (h2 p hp).2⟩)
    show List.foldl _ s (A ++ b :: B) = slFold J fah t (B ++ A) (slOne J fah t b.1 b.2 s)
    rw [← ih]
    unfold slFold at hp ⊢
    rw [List.foldl_append, List.foldl_append, List.foldl_cons, hp]
/-- The reference goes by slots, the program by stations. -/
def opsSpec (n t : Nat) : List (Nat × Int) := (List.range n).map (fun k => (k, (((k + t) % n : Nat) : Int)))
def opsImpl (n t : Nat) : List (Nat × Int) := (List.range n).map (fun o => ((o + (n - t % n)) % n, (o : Int)))
theorem range_split (a b : Nat) : List.range (a + b) = List.range a ++ (List.range b).map (fun i => a + i) := by
  induction b with
  | zero => simp
  | succ b ih => rw [← Nat.add_assoc, List.range_succ, ih, List.range_succ, List.map_append, List.append_assoc]; rfl
theorem ops_split (n t : Nat) (hn : 0 < n) : ∃ X Y : List (Nat × Int), opsSpec n t = X ++ Y ∧ opsImpl n t = Y ++ X ∧ (∀ p ∈ X, p.1 < n) ∧ ∀ b ∈ Y, b.1 < n ∧ ∀ p ∈ X, p.1 ≠ b.1 ∧ p.2 ≠ b.2 := by
  have hs : t % n < n := Nat.mod_lt _ hn
  obtain ⟨s0, hs0⟩ : ∃ s0, t % n = s0 := ⟨_, rfl⟩
  rw [hs0] at hs
  refine ⟨(List.range (n - s0)).map (fun k => (k, ((k + s0 : Nat) : Int))), (List.range s0).map (fun i => (n - s0 + i, (i : Int))), ?_, ?_, ?_, ?_⟩
  · unfold opsSpec
    rw [show List.range n = List.range ((n - s0) + s0) by rw [Nat.sub_add_cancel (by omega)], range_split, List.map_append, List.map_map]
    congr 1
    · refine List.map_congr_left fun k hk => ?_
      have hk2 := List.mem_range.1 hk
      rw [Nat.add_mod, hs0, Nat.mod_eq_of_lt (show k < n by omega), Nat.mod_eq_of_lt (by omega)]
    · refine List.map_congr_left fun i hi => ?_
      have hi2 := List.mem_range.1 hi
      show (n - s0 + i, (((n - s0 + i + t) % n : Nat) : Int)) = _
      rw [Nat.add_mod, hs0, Nat.mod_eq_of_lt (show n - s0 + i < n by omega), show n - s0 + i + s0 = i + n by omega, Nat.add_mod_right, Nat.mod_eq_of_lt (by omega)]
  · unfold opsImpl
    rw [show List.range n = List.range (s0 + (n - s0)) by rw [Nat.add_sub_cancel' (by omega)], range_split, List.map_append, List.map_map, hs0]
    congr 1
    · refine List.map_congr_left fun i hi => ?_
      have hi2 := List.mem_range.1 hi
      rw [Nat.mod_eq_of_lt (by omega), Nat.add_comm]
    · refine List.map_congr_left fun k hk => ?_
      have hk2 := List.mem_range.1 hk
      show ((s0 + k + (n - s0)) % n, ((s0 + k : Nat) : Int)) = _
      rw [show s0 + k + (n - s0) = k + n by omega, Nat.add_mod_right, Nat.mod_eq_of_lt (by omega), Nat.add_comm s0 k]
  · intro p hp
    obtain ⟨k, hk, rfl⟩ := List.mem_map.1 hp
    have := List.mem_range.1 hk
    show k < n
    omega
  · intro b hb
    obtain ⟨i, hi, rfl⟩ := List.mem_map.1 hb
    have hi2 := List.mem_range.1 hi
    refine ⟨by show n - s0 + i < n; omega, fun p hp => ?_⟩
    obtain ⟨k, hk, rfl⟩ := List.mem_map.1 hp
    have hk2 := List.mem_range.1 hk
    exact ⟨by show k ≠ n - s0 + i; omega, by show ((k + s0 : Nat) : Int) ≠ (i : Int); omega⟩
/-- A tick by slots is a tick by stations. -/
theorem tick_same {n : Nat} (hn : 0 < n) (tn : Nat) (s : SlSt) (h : SlInv n J.length s) : slFold J fah (tn : Int) (opsSpec n tn) s = slFold J fah (tn : Int) (opsImpl n tn) s ∧ SlInv n J.length (slFold J fah (tn : Int) (opsSpec n tn) s) := by
  obtain ⟨X, Y, h1, h2, h3, h4⟩ := ops_split n tn hn
  refine ⟨?_, slFold_inv (by omega) _ _ h (fun p hp => ?_)⟩
  · rw [h1, h2]
    exact slFold_swap (by omega) X h3 Y s h h4
  · rw [h1] at hp
    rcases List.mem_append.1 hp with hp | hp
    · exact h3 p hp
    · exact (h4 p hp).1
end
theorem slTo_fold (J : List S30) (fah : Bool) (t n : Nat) (s : SlSt) : ∀ m, slTo J fah (t : Int) n s m = slFold J fah (t : Int) ((List.range m).map (fun k => (k, (((k + t) % n : Nat) : Int)))) s
  | 0 => rfl
  | m + 1 => by
    rw [slTo, slTo_fold J fah t n s m, List.range_succ, List.map_append]
    unfold slFold
    rw [List.foldl_append]
    have e : Int.tmod ((m : Int) + (t : Int)) (n : Int) = (((m + t) % n : Nat) : Int) := by
      rw [Int.tmod_eq_emod_of_nonneg (by omega), Int.natCast_emod]
      rfl
    rw [e]
    rfl
theorem slIm_fold (J : List S30) (fah : Bool) (n t : Nat) (s : SlSt) : ∀ o, slIm J fah n t s o = slFold J fah (t : Int) ((List.range o).map (fun o => ((o + (n - t % n)) % n, (o : Int)))) s
  | 0 => rfl
  | o + 1 => by
    rw [slIm, slIm_fold J fah n t s o, List.range_succ, List.map_append]
    unfold slFold
    rw [List.foldl_append]
    rfl
/-- The program's ring is the reference's. -/
theorem run_same (J : List S30) (fah : Bool) (n : Nat) (hn : 0 < n) : ∀ t, slImTo J fah n t = slRunTo J fah n t
  | 0 => rfl
  | t + 1 => by
    rw [slImTo, slRunTo, run_same J fah n hn t, slTo_fold, slIm_fold]
    exact (tick_same (fah := fah) hn t _ (slRunTo_inv J fah n t)).1.symm
end Go.Proofs.Ytgkbeejkbhhjkaa.X

/- Plain lemmas: the laws' own helpers over slices of Messages. -/
namespace Go.Proofs.Ytgkbeejkbhhjkaa.X
set_option linter.unusedSimpArgs false
set_option linter.unusedVariables false
open Go.RowKit Go.Proofs.YtgkbeejkbhhjkaaW.PrintWords
theorem rdS_at (l : List S30) (i : Nat) (h : i < l.length) : rd_T30 l (i : Int) = l[i] := by
  simp [rd_T30, List.getD_eq_getElem?_getD, List.getElem?_eq_getElem h]
theorem rdL_at (l : List S25) (i : Nat) (h : i < l.length) : rd_T25 l (i : Int) = l[i] := by
  simp [rd_T25, List.getD_eq_getElem?_getD, List.getElem?_eq_getElem h]
def toL (l : List S25) : List S30 := l.map (fun x => ⟨x.f0, x.f1, x.f2⟩)
theorem toL_length (l : List S25) : (toL l).length = l.length := by simp [toL]
theorem sz_big (l : List S25) (h : 1048576 < l.length) (h2 : l.length ≤ 9223372036854775807) : laws_szMessageS.f l 1048576 = some (-1) := by
  unfold laws_szMessageS.f
  rw [w64 (by omega) (by omega), if_pos (by omega)]
theorem sz_small (l : List S25) (h : l.length ≤ 1048576) : laws_szMessageS.f l 1048576 = some (1048576 - (l.length : Int)) := by
  unfold laws_szMessageS.f
  rw [w64 (by omega) (by omega), if_neg (by omega)]
theorem toS_ev (l : List S25) (hn : l.length ≤ 1048576) : Ev (fun k => laws_toMessageS.f k l) (toL l) := by
  have key := evUp l.length (fun k (s : List S30) (i : Nat) => laws_toMessageS.l0 k l s (i : Int)) (fun i s => s = (toL l).take i ++ List.replicate (l.length - i) z30) (toL l)
    (by
      intro i s hi hI
      have hsl : s.length = l.length := by rw [hI]; simp [toL_length]; omega
      refine .inl ⟨(toL l).take (i + 1) ++ List.replicate (l.length - (i + 1)) z30, rfl, fun h => evNext (fun k => ?_) h⟩
      show laws_toMessageS.l0 (k + 1) l s (i : Int) = laws_toMessageS.l0 k l _ (i + 1 : Nat)
      simp only [laws_toMessageS.l0, laws_toMessage.f, Option.bind_some]
      rw [if_pos (by omega), if_pos (by omega), if_pos (by omega), w64 (by omega) (by omega), rdL_at l i hi]
      congr 1
      subst hI
      rw [Int.toNat_natCast]
      have htl := toL_length l
      apply List.ext_getElem
      · simp [toL_length]; omega
      · intro j h1 h2
        rw [List.getElem_set]
        by_cases e : i = j
        · subst e
          rw [if_pos rfl, List.getElem_append_left (by simp [toL_length]; omega)]
          simp [toL]
        · rw [if_neg e]
          by_cases hj : j < i
          · rw [List.getElem_append_left (by simp [toL_length]; omega), List.getElem_append_left (by simp [toL_length]; omega)]
            simp
          · rw [List.getElem_append_right (by simp [toL_length]; omega), List.getElem_append_right (by simp [toL_length]; omega)]
            simp)
    (by
      intro s hI
      refine evEnd fun k => ?_
      show laws_toMessageS.l0 (k + 1) l s (l.length : Int) = some (toL l)
      simp only [laws_toMessageS.l0]
      rw [if_neg (by omega), hI, List.take_of_length_le (by rw [toL_length]; exact Nat.le_refl _)]
      simp) 0 (List.replicate l.length z30) (by omega) (by simp)
  refine Ev.congr (fun k => ?_) key
  unfold laws_toMessageS.f
  rw [if_pos (by omega), if_pos (by omega), Int.toNat_natCast]
  rfl
theorem eqOne (x : S30) : laws_eqMessage.f x.f0 x.f1 x.f2 x.f0 x.f1 x.f2 = some true := by simp [laws_eqMessage.f]
theorem eqS_ev (l : List S30) (hn : l.length ≤ 1048576) : Ev (fun k => laws_eqMessageS.f k l l) true := by
  have key := evUp0 l.length (fun k (_ : Unit) (i : Nat) => laws_eqMessageS.l0 k l l (i : Int)) (fun _ _ => True) true () trivial
    (by
      intro i s hi _
      refine .inl ⟨(), trivial, fun h => evNext (fun k => ?_) h⟩
      show laws_eqMessageS.l0 (k + 1) l l (i : Int) = laws_eqMessageS.l0 k l l (i + 1 : Nat)
      simp only [laws_eqMessageS.l0]
      rw [if_pos (by omega), if_pos (by omega), if_pos (by omega), eqOne, w64 (by omega) (by omega)]
      simp only [Option.bind_some, if_true]
      rfl)
    (by
      intro s _
      refine evEnd fun k => ?_
      show laws_eqMessageS.l0 (k + 1) l l (l.length : Int) = _
      simp only [laws_eqMessageS.l0]
      rw [if_neg (by omega)])
  refine Ev.congr (fun k => ?_) key
  unfold laws_eqMessageS.f
  rw [if_pos rfl]
  rfl
end Go.Proofs.Ytgkbeejkbhhjkaa.X

/- Plain lemmas: a number between two others. -/
namespace Go.Proofs.Ytgkbeejkbhhjkaa.X
set_option linter.unusedSimpArgs false
set_option linter.unusedVariables false
open Go.RowKit Go.Proofs.YtgkbeejkbhhjkaaW.PrintWords
theorem l1In_eq (n lo hi : Int) : spec_l1In.f n lo hi = some (inB lo hi n) := by
  unfold spec_l1In.f inB
  by_cases h : lo ≤ n
  · rw [if_pos (by omega), decide_eq_true h]; simp
  · rw [if_neg (by omega), decide_eq_false h]; simp
theorem within_eq (n lo hi : Int) : impl_within.f n lo hi = some (inB lo hi n) := by
  unfold impl_within.f inB
  by_cases h : lo ≤ n
  · rw [if_pos (by omega), decide_eq_true h]; simp
  · rw [if_neg (by omega), decide_eq_false h]; simp
theorem allWithin_eq (l : List Int) (lo hi : Int) : impl_allWithin.f l lo hi = some (l.all (inB lo hi)) := rfl
theorem inB_iff {lo hi n : Int} : inB lo hi n = true ↔ lo ≤ n ∧ n ≤ hi := by simp [inB]
end Go.Proofs.Ytgkbeejkbhhjkaa.X

/- Plain lemmas: messages on a slotted ring. -/
namespace Go.Proofs.Ytgkbeejkbhhjkaa.X
set_option linter.unusedSimpArgs false
set_option linter.unusedVariables false
open Go.RowKit Go.Proofs.YtgkbeejkbhhjkaaW.PrintWords
def okMsg (n : Int) (x : S30) : Bool := inB 0 100 x.f0 && (inB 0 (n - 1) x.f1 && (inB 0 (n - 1) x.f2 && (x.f1 != x.f2)))
def msgAt (n : Int) (l : List S30) (i : Nat) : Bool := okMsg n (rd_T30 l (i : Int)) && (decide (i = 0) || decide ((rd_T30 l ((i : Int) - 1)).f0 ≤ (rd_T30 l (i : Int)).f0))
def msgsTo (n : Int) (l : List S30) : Nat → Bool
  | 0 => true
  | m + 1 => msgsTo n l m && msgAt n l m
def areMsgs (n : Int) (l : List S30) : Bool := decide (l.length ≤ 20) && msgsTo n l l.length
def isSl (n : Int) (l : List S30) : Bool := inB 2 12 n && areMsgs n l
theorem msgsTo_false (n : Int) (l : List S30) (j : Nat) (h : msgAt n l j = false) : ∀ m, j < m → msgsTo n l m = false
  | 0, hm => by omega
  | m + 1, hm => by
    by_cases e : j = m
    · subst e
      simp [msgsTo, h]
    · simp [msgsTo, msgsTo_false n l j h m (by omega)]
theorem msgsTo_at {n : Int} {l : List S30} (m : Nat) (h : msgsTo n l m = true) (i : Nat) (hi : i < m) : msgAt n l i = true := by
  cases hj : msgAt n l i with
  | true => rfl
  | false =>
    have := msgsTo_false n l i hj m hi
    rw [this] at h
    cases h
theorem slGood_eq (n : Int) (b : Bool) : spec_slGood.f n b = some (inB 2 12 n) := by simp [spec_slGood.f, l1In_eq]
theorem isSlotRing_eq (n : Int) (b : Bool) : impl_IsSlotRing.f n b = some (inB 2 12 n) := by simp [impl_IsSlotRing.f, impl_isRingSize.f, within_eq]
theorem slMessage_eq (n : Int) (b : Bool) (hn : 2 ≤ n ∧ n ≤ 12) (x : S30) : spec_slMessage.f n b x.f0 x.f1 x.f2 = some (okMsg n x) := by
  unfold spec_slMessage.f okMsg
  simp only [l1In_eq, Option.bind_some]
  rw [w64 (by omega) (by omega)]
  cases inB 0 100 x.f0 <;> cases inB 0 (n - 1) x.f1 <;> cases inB 0 (n - 1) x.f2 <;> simp
theorem specMsgs_step (n : Int) (b : Bool) (hn : 2 ≤ n ∧ n ≤ 12) (l : List S30) (i : Nat) (hi : i < l.length) (hl : l.length ≤ 1048576) (k : Nat) :
    spec_slAll.l0 (k + 1) l l (l.length : Int) (i : Int) n b = if msgAt n l i = true then spec_slAll.l0 k l l (l.length : Int) ((i + 1 : Nat) : Int) n b else some false := by
  rw [spec_slAll.l0.eq_2]
  rw [if_pos (by omega), if_pos (by omega), if_pos (by omega)]
  simp only [slMessage_eq n b hn, Option.bind_some]
  unfold msgAt
  rw [w64 (x := (i : Int) + 1) (by omega) (by omega)]
  cases okMsg n (rd_T30 l (i : Int)) <;> simp
  by_cases h0 : i = 0
  · subst h0
    simp
  · rw [if_pos (by omega), w64 (by omega) (by omega), if_pos (by omega), if_pos (by omega)]
    by_cases hc : (rd_T30 l ((i : Int) - 1)).f0 ≤ (rd_T30 l (i : Int)).f0
    · rw [if_neg (by omega), if_pos (.inr hc)]
    · rw [if_pos (by omega), if_neg (by omega)]
theorem implMsgs_step (n : Int) (hn : 2 ≤ n ∧ n ≤ 12) (l : List S30) (i : Nat) (hi : i < l.length) (hl : l.length ≤ 1048576) (k : Nat) :
    impl_areMessages.l0 (k + 1) n l l (l.length : Int) (i : Int) = if msgAt n l i = true then impl_areMessages.l0 k n l l (l.length : Int) ((i + 1 : Nat) : Int) else some false := by
  simp only [impl_areMessages.l0]
  rw [if_pos (by omega), if_pos (by omega), if_pos (by omega)]
  simp only [within_eq, allWithin_eq, Option.bind_some, List.all_cons, List.all_nil, Bool.and_true]
  unfold msgAt okMsg
  rw [w64 (x := (i : Int) + 1) (by omega) (by omega), w64 (x := n - 1) (by omega) (by omega)]
  cases inB 0 100 (rd_T30 l (i : Int)).f0 <;> cases inB 0 (n - 1) (rd_T30 l (i : Int)).f1 <;> cases inB 0 (n - 1) (rd_T30 l (i : Int)).f2 <;> simp
  by_cases he : (rd_T30 l (i : Int)).f1 = (rd_T30 l (i : Int)).f2
  · simp [he]
  · rw [if_neg he]
    by_cases h0 : i = 0
    · subst h0
      rw [if_neg (by omega), if_pos ⟨he, .inl rfl⟩]
    · rw [if_pos (by omega), w64 (by omega) (by omega), if_pos (by omega), if_pos (by omega)]
      by_cases hc : (rd_T30 l ((i : Int) - 1)).f0 ≤ (rd_T30 l (i : Int)).f0
      · rw [if_neg (by omega), if_pos ⟨he, .inr hc⟩]
      · rw [if_pos (by omega), if_neg (by omega)]
theorem specMsgs_ev (n : Int) (b : Bool) (l : List S30) (hl : l.length ≤ 1048576) : Ev (fun k => spec_slAll.f k n b l) (isSl n l) := by
  unfold isSl
  cases hg : inB 2 12 n with
  | false =>
    refine ⟨9, fun k hk => ?_⟩
    obtain ⟨m, rfl⟩ : ∃ m, k = m + 9 := ⟨k - 9, by omega⟩
    simp [spec_slAll.f, slGood_eq, hg, spec_slAll.j0]
  | true =>
    have hn := inB_iff.1 hg
    unfold areMsgs
    by_cases hc : l.length ≤ 20
    · rw [decide_eq_true hc, Bool.true_and, Bool.true_and]
      have key := evUp0 l.length (fun k (_ : Unit) (i : Nat) => spec_slAll.l0 k l l (l.length : Int) (i : Int) n b) (fun i _ => msgsTo n l i = true) (msgsTo n l l.length) () rfl
        (by
          intro i s hi hI
          cases hj : msgAt n l i with
          | true => exact .inl ⟨(), by simp [msgsTo, hI, hj], fun h => evNext (fun k => by rw [specMsgs_step n b hn l i hi hl k, if_pos hj]) h⟩
          | false => exact .inr (evEnd fun k => by rw [specMsgs_step n b hn l i hi hl k, hj, msgsTo_false n l i hj l.length hi]; simp))
        (by
          intro s hI
          refine evEnd fun k => ?_
          show spec_slAll.l0 (k + 1) l l (l.length : Int) (l.length : Int) n b = _
          rw [spec_slAll.l0.eq_2, if_neg (by omega), hI])
      refine Ev.step (f := fun k => spec_slAll.l0 k l l (l.length : Int) 0 n b) (g := fun k => spec_slAll.f k n b l) (fun k => ?_) key
      show spec_slAll.f (k + 1) n b l = _
      unfold spec_slAll.f
      rw [slGood_eq, hg]
      simp only [Option.bind_some, if_true]
      rw [spec_slAll.j0.eq_2, decide_eq_false (by omega)]
      simp
    · refine ⟨9, fun k hk => ?_⟩
      obtain ⟨m, rfl⟩ : ∃ m, k = m + 9 := ⟨k - 9, by omega⟩
      have hd : decide ((l.length : Int) > 20) = true := decide_eq_true (by omega)
      show spec_slAll.f (m + 9) n b l = _
      unfold spec_slAll.f
      rw [slGood_eq, hg]
      simp only [Option.bind_some, if_true]
      rw [spec_slAll.j0.eq_2, hd, decide_eq_false hc]
      simp
theorem implMsgs_ev (n : Int) (hn : 2 ≤ n ∧ n ≤ 12) (l : List S30) (hl : l.length ≤ 1048576) : Ev (fun k => impl_areMessages.f k n l) (areMsgs n l) := by
  have key := evUp0 l.length (fun k (_ : Unit) (i : Nat) => impl_areMessages.l0 k n l l (l.length : Int) (i : Int)) (fun i _ => msgsTo n l i = true) (areMsgs n l) () rfl
    (by
      intro i s hi hI
      cases hj : msgAt n l i with
      | true => exact .inl ⟨(), by simp [msgsTo, hI, hj], fun h => evNext (fun k => by rw [implMsgs_step n hn l i hi hl k, if_pos hj]) h⟩
      | false => exact .inr (evEnd fun k => by rw [implMsgs_step n hn l i hi hl k, hj]; simp [areMsgs, msgsTo_false n l i hj l.length hi]))
    (by
      intro s hI
      refine evEnd fun k => ?_
      show impl_areMessages.l0 (k + 1) n l l (l.length : Int) (l.length : Int) = _
      simp only [impl_areMessages.l0]
      rw [if_neg (by omega)]
      unfold areMsgs
      rw [hI, Bool.and_true]
      congr 1
      by_cases h : l.length ≤ 20
      · rw [decide_eq_true h, decide_eq_true (by omega)]
      · rw [decide_eq_false h, decide_eq_false (by omega)])
  exact key
theorem implSlotted_ev (n : Int) (b : Bool) (l : List S30) (hl : l.length ≤ 1048576) : Ev (fun k => impl_isSlotted.f k n b l) (isSl n l) := by
  unfold isSl
  cases hg : inB 2 12 n with
  | false =>
    refine Ev.congr (f := fun _ => some false) (fun k => ?_) (Ev.now _)
    simp [impl_isSlotted.f, isSlotRing_eq, hg]
  | true =>
    obtain ⟨K, e⟩ := implMsgs_ev n (inB_iff.1 hg) l hl
    dsimp only at e
    refine ⟨K, fun k hk => ?_⟩
    simp (disch := omega) only [impl_isSlotted.f, isSlotRing_eq, hg, e, Option.bind_some, if_true, Bool.true_and]
/-- What is known of messages. -/
theorem isSl_at {n : Int} {l : List S30} (h : isSl n l = true) : (2 ≤ n ∧ n ≤ 12) ∧ l.length ≤ 20 ∧ ∀ i : Nat, i < l.length → 0 ≤ (rd_T30 l (i : Int)).f0 ∧ (rd_T30 l (i : Int)).f0 ≤ 100 ∧ 0 ≤ (rd_T30 l (i : Int)).f1 ∧ (rd_T30 l (i : Int)).f1 ≤ n - 1 ∧ 0 ≤ (rd_T30 l (i : Int)).f2 ∧ (rd_T30 l (i : Int)).f2 ≤ n - 1 ∧ (rd_T30 l (i : Int)).f1 ≠ (rd_T30 l (i : Int)).f2 := by
  unfold isSl areMsgs at h
  simp only [Bool.and_eq_true, decide_eq_true_eq] at h
  refine ⟨inB_iff.1 h.1, h.2.1, fun i hi => ?_⟩
  have := msgsTo_at l.length h.2.2 i hi
  unfold msgAt okMsg at this
  simp only [Bool.and_eq_true, bne_iff_ne] at this
  have h1 := inB_iff.1 this.1.1
  have h2 := inB_iff.1 this.1.2.1
  have h3 := inB_iff.1 this.1.2.2.1
  exact ⟨h1.1, h1.2, h2.1, h2.2, h3.1, h3.2, this.1.2.2.2⟩
end Go.Proofs.Ytgkbeejkbhhjkaa.X

/- Plain lemmas of slot rings: all messages are read in time. -/
namespace Go.Proofs.Ytgkbeejkbhhjkaa.X
set_option linter.unusedSimpArgs false
set_option linter.unusedVariables false
open Go.RowKit Go.Proofs.YtgkbeejkbhhjkaaW.PrintWords
/-- Which tick slot q comes to next. -/
def nxTick (t k q : Nat) : Nat := if q < k then t + 1 else t
def LvSlot (J : List S30) (fah : Bool) (n : Nat) (fi re : List Int) (q tq : Nat) (v : Int) : Prop :=
  0 < v → ∃ u : Nat, rd fi (v - 1) = (u : Int) ∧ u < tq ∧ tq ≤ u + n ∧ (((q + u) % n : Nat) : Int) = (rd_T30 J (v - 1)).f1 ∧ (rd re (v - 1) < 0 → ∀ w : Nat, u < w → w < tq → (((q + w) % n : Nat) : Int) ≠ (rd_T30 J (v - 1)).f2) ∧ (fah = false → rd re (v - 1) < 0)
/-- What is known in the midst of tick t, the slots ahead of k seen to. -/
structure LvInv (J : List S30) (fah : Bool) (n : Nat) (s : SlSt) (t k : Nat) : Prop where
  inv : SlInv n J.length s
  slot : ∀ q : Nat, q < n → LvSlot J fah n s.2.1 s.2.2 q (nxTick t k q) (rd s.1 (q : Int))
  un : ∀ j : Nat, j < J.length → rd s.2.1 (j : Int) < 0 → rd s.2.2 (j : Int) < 0
  lies : ∀ j : Nat, j < J.length → 0 ≤ rd s.2.1 (j : Int) → rd s.2.2 (j : Int) < 0 → ∃ q : Nat, q < n ∧ rd s.1 (q : Int) = (j : Int) + 1
  bound : ∀ j : Nat, j < J.length → rd s.2.1 (j : Int) < (t : Int) + (if k = 0 then 0 else 1)
  low : ∀ j : Nat, j < J.length → -1 ≤ rd s.2.2 (j : Int)
/-- How many messages have not been filled in. -/
def slCnt (l : List Int) : Nat := l.countP (fun x => decide (x < 0))
/-- The ticks of filling stay as they are, or one message less waits; what has been told stays told. -/
def FM (t : Nat) (l l' : List Int) : Prop := l'.length = l.length ∧ (l' = l ∨ slCnt l' < slCnt l) ∧ (∀ j : Nat, j < l.length → 0 ≤ rd l (j : Int) → rd l' (j : Int) = rd l (j : Int)) ∧ ∀ j : Nat, j < l.length → rd l (j : Int) < 0 → rd l' (j : Int) < 0 ∨ (t : Int) ≤ rd l' (j : Int)
theorem FM.refl (t : Nat) (l : List Int) : FM t l l := ⟨rfl, .inl rfl, fun _ _ _ => rfl, fun _ _ h => .inl h⟩
theorem FM.trans {t t' : Nat} (ht : t ≤ t') {a b c : List Int} (h : FM t a b) (k : FM t' b c) : FM t a c := by
  obtain ⟨h1, h2, h3, h4⟩ := h
  obtain ⟨k1, k2, k3, k4⟩ := k
  refine ⟨k1.trans h1, ?_, fun j hj hp => ?_, fun j hj hn => ?_⟩
  · rcases k2 with rfl | k2
    · exact h2
    · rcases h2 with rfl | h2
      · exact .inr k2
      · exact .inr (by omega)
  · have e := h3 j hj hp
    rw [k3 j (by omega) (by omega)]
    exact e
  · rcases h4 j hj hn with q | q
    · rcases k4 j (by omega) q with p | p
      · exact .inl p
      · exact .inr (by omega)
    · rw [k3 j (by omega) (by omega)]
      exact .inr q
end Go.Proofs.Ytgkbeejkbhhjkaa.X

/- Plain lemmas: whether a number is among others. -/
namespace Go.Proofs.Ytgkbeejkbhhjkaa.X
set_option linter.unusedSimpArgs false
set_option linter.unusedVariables false
open Go.RowKit Go.Proofs.YtgkbeejkbhhjkaaW.PrintWords
end Go.Proofs.Ytgkbeejkbhhjkaa.X

/- Slot rings: the program and the reference come to the same. -/
namespace Go.Proofs.Ytgkbeejkbhhjkaa.X
set_option linter.unusedSimpArgs false
set_option linter.unusedVariables false
open Go.RowKit Go.Proofs.YtgkbeejkbhhjkaaW.PrintWords
theorem isTick_eq (t : Int) : impl_isSlotTick.f t = some (inB 0 400 t) := by simp [impl_isSlotTick.f, within_eq]
theorem SlotsAt_same (n : Int) (b : Bool) (L : List S25) (t : Int) (h : (Lit.int .i64 n).wf = true ∧ L.length ≤ maxLen ∧ (∀ x ∈ L, (Lit.int .i64 x.f0).wf = true ∧ (Lit.int .i64 x.f1).wf = true ∧ (Lit.int .i64 x.f2).wf = true) ∧ (Lit.int .i64 t).wf = true ∧ L.length ≤ 1048576) :
    ∃ v, Ev (fun k => spec_SlotsAt.f k n b (toL L) t) v ∧ Ev (fun k => impl_SlotsAt.f k n b (toL L) t) v ∧ v.1.length ≤ 1000000 := by
  have htl := toL_length L
  generalize toL L = J at htl ⊢
  obtain ⟨K1, e1⟩ := specMsgs_ev n b J (by omega)
  obtain ⟨K2, e2⟩ := implSlotted_ev n b J (by omega)
  dsimp only at e1 e2
  cases hs : isSl n J with
  | false =>
    rw [hs] at e1 e2
    exact ⟨([], false), ⟨K1, fun k hk => by simp (disch := omega) [spec_SlotsAt.f, e1]⟩, ⟨K2, fun k hk => by simp (disch := omega) [impl_SlotsAt.f, e2]⟩, by simp⟩
  | true =>
    rw [hs] at e1 e2
    cases hb : inB 0 400 t with
    | false => exact ⟨([], false), ⟨K1, fun k hk => by simp (disch := omega) [spec_SlotsAt.f, e1, l1In_eq, hb]⟩, ⟨K2, fun k hk => by simp (disch := omega) [impl_SlotsAt.f, e2, isTick_eq, hb]⟩, by simp⟩
    | true =>
      have ht := inB_iff.1 hb
      obtain ⟨hn, hl, ha⟩ := isSl_at hs
      obtain ⟨n, rfl⟩ : ∃ m : Nat, n = (m : Int) := ⟨n.toNat, by omega⟩
      refine ⟨((slRunTo J b n (t.toNat + 1)).1, true), ⟨K1, fun k hk => ?_⟩, ⟨K2, fun k hk => ?_⟩, ?_⟩
      · dsimp only
        unfold spec_SlotsAt.f
        rw [e1 k (by omega), l1In_eq, hb]
        simp only [Option.bind_some, if_true]
        rw [if_pos ⟨by omega, by omega, hl, by omega, by omega⟩, Int.toNat_natCast]
      · dsimp only
        unfold impl_SlotsAt.f
        rw [e2 k (by omega), isTick_eq, hb]
        simp only [Option.bind_some, if_true]
        rw [if_pos ⟨by omega, by omega, hl, by omega, by omega⟩, Int.toNat_natCast, run_same J b n (by omega)]
      · have := (slRunTo_inv J b n (t.toNat + 1)).1
        show (slRunTo J b n (t.toNat + 1)).1.length ≤ _
        omega
end Go.Proofs.Ytgkbeejkbhhjkaa.X

/- Plain lemmas: the laws' marks on slices of Messages. -/
namespace Go.Proofs.Ytgkbeejkbhhjkaa.X
set_option linter.unusedSimpArgs false
set_option linter.unusedVariables false
open Go.RowKit Go.Proofs.YtgkbeejkbhhjkaaW.PrintWords
def marksS (n : Nat) (a : Int) : List S30 := (List.range n).map (fun (j : Nat) => ⟨a + 3 * (j : Int), a + 3 * (j : Int) + 1, a + 3 * (j : Int) + 2⟩)
theorem marksS_length (n : Nat) (a : Int) : (marksS n a).length = n := by simp [marksS]
theorem markS_ev (l : List S30) (a : Int) (h0 : 0 ≤ a ∧ a ≤ 1000000) (h1 : l.length ≤ 1048576) : Ev (fun k => laws_markMessageS.f k l a) (a + 3 * (l.length : Int), marksS l.length a) := by
  have key := evUp0 l.length (fun k (s : List S30) (i : Nat) => laws_markMessageS.l0 k s (a + 3 * (i : Int)) (i : Int)) (fun i s => s = (marksS l.length a).take i ++ l.drop i) (a + 3 * (l.length : Int), marksS l.length a) l (by simp)
    (by
      intro i s hi hI
      have hsl : s.length = l.length := by rw [hI]; simp [marksS_length]; omega
      refine .inl ⟨(marksS l.length a).take (i + 1) ++ l.drop (i + 1), rfl, fun h => evNext (fun k => ?_) h⟩
      show laws_markMessageS.l0 (k + 1) s (a + 3 * (i : Int)) (i : Int) = laws_markMessageS.l0 k _ (a + 3 * ((i + 1 : Nat) : Int)) (i + 1 : Nat)
      simp only [laws_markMessageS.l0, Option.bind_some]
      rw [if_pos (by omega), if_pos (by omega)]
      simp (disch := omega) only [w64, Int.toNat_natCast]
      rw [rdS_at s i (by omega), rdS_at _ i (by simp; omega), rdS_at _ i (by simp; omega)]
      simp only [List.getElem_set_self, List.set_set]
      congr 1
      · subst hI
        have hm : i < (marksS l.length a).length := by rw [marksS_length]; exact hi
        rw [List.take_succ_eq_append_getElem hm, List.append_assoc, List.set_append_right _ _ (by simp; omega)]
        congr 1
        have e1 : (List.take i (marksS l.length a)).length = i := by simp [marksS_length]; omega
        rw [e1, Nat.sub_self, List.drop_eq_getElem_cons hi, List.set_cons_zero]
        simp only [marksS, List.getElem_map, List.getElem_range]
        show _ = [_] ++ _
        rw [List.singleton_append]
        congr 2
        omega
      · omega)
    (by
      intro s hI
      refine evEnd fun k => ?_
      show laws_markMessageS.l0 (k + 1) s (a + 3 * ((l.length : Nat) : Int)) ((l.length : Nat) : Int) = _
      have hsl : s.length = l.length := by rw [hI]; simp [marksS_length]
      simp only [laws_markMessageS.l0]
      rw [if_neg (by omega), hI, List.take_of_length_le (by rw [marksS_length]; exact Nat.le_refl _)]
      simp)
  refine Ev.congr (fun k => ?_) key
  unfold laws_markMessageS.f
  simp
end Go.Proofs.Ytgkbeejkbhhjkaa.X

/- SlotsAt answers as the reference does, for every input: the pure statement. -/
namespace Go.Proofs.Ytgkbeejkbhhjkaa.Pure
set_option linter.unusedSimpArgs false
set_option linter.unusedVariables false
set_option linter.unusedSimpArgs false
open Go.RowKit Go.Proofs.Ytgkbeejkbhhjkaa.X Go.Proofs.YtgkbeejkbhhjkaaW.PrintWords Go.Proofs.YtgkbeejkbhhjkaaW.PrintLast
set_option maxHeartbeats 1000000 in
theorem FnExactSlotsAt : ∀ (a0_0 : Int) (a0_1 : Bool) (l1 : List S25) (a2 : Int), (Lit.int .i64 a0_0).wf = true → l1.length ≤ maxLen → (∀ x ∈ l1, (Lit.int .i64 x.f0).wf = true ∧ (Lit.int .i64 x.f1).wf = true ∧ (Lit.int .i64 x.f2).wf = true) → (Lit.int .i64 a2).wf = true → ∃ k, laws_FnExactSlotsAt.f k a0_0 a0_1 l1 a2 = some true := by
  intro a0_0 a0_1 l1 a2 h0_ h1_ h2_ h3_
  by_cases hs : 1048576 < l1.length
  · exact ⟨9, by simp [laws_FnExactSlotsAt.f, sz_big l1 (by omega) (by unfold maxLen at *; omega)]⟩
  have hm : l1.length ≤ 1048576 := by omega
  obtain ⟨⟨r, b⟩, hS, hI, hr⟩ := SlotsAt_same a0_0 a0_1 l1 a2 (by first | exact ⟨h0_, h1_, h2_, h3_, hm⟩ | trivial)
  obtain ⟨K1, e1⟩ := hS
  obtain ⟨K2, e2⟩ := hI
  dsimp only at hr
  obtain ⟨K3, e3⟩ := eqIntS_ev r r (by omega)
  obtain ⟨K4, e4⟩ := markIntS_ev r 1 (by omega) (by omega)
  obtain ⟨K5, e5⟩ := heldIntS_ev r.length 1 (by omega) (by omega)
  have htl_l1 := toL_length l1
  obtain ⟨K6, e6⟩ := markS_ev (toL l1) (1) (by omega) (by omega)
  have n_k : ¬ (1 + 3 * ((toL l1).length : Int) < 0) := by omega
  have n_r : ¬ (1 + (r.length : Int) < 0) := by omega
  have es_l1 := sz_small l1 (by omega)
  have ns_l1 : ¬ (1048576 - (l1.length : Int) < 0) := by omega
  obtain ⟨K7, e7⟩ := toS_ev l1 (by omega)
  -- structs
  obtain ⟨K8, e8⟩ := eqS_ev (toL l1) (by rw [toL_length]; omega)
  dsimp only at e1 e2 e3 e4 e5 e6 e7 e8
  refine ⟨K1 + K2 + K3 + K4 + K5 + K6 + K7 + K8 + 9, ?_⟩
  simp (disch := omega) only [laws_FnExactSlotsAt.f, laws_toSlotRing.f, e1, e2, e3, e4, e5, e6, e7, e8, es_l1, n_k, n_r, ns_l1, Option.bind_some, eq_self, decide_true, bne_self_eq_false, Bool.false_eq_true, Bool.not_true, Bool.not_false, ↓reduceIte]
  all_goals (try rw [laws_FnExactSlotsAt.j0.eq_2])
  all_goals (try simp (disch := omega) only [laws_FnExactSlotsAt.f, laws_toSlotRing.f, e1, e2, e3, e4, e5, e6, e7, e8, es_l1, n_k, n_r, ns_l1, Option.bind_some, eq_self, decide_true, bne_self_eq_false, Bool.false_eq_true, Bool.not_true, Bool.not_false, ↓reduceIte])
  all_goals (try rw [laws_FnExactSlotsAt.j1.eq_2])
  all_goals (try simp (disch := omega) only [laws_FnExactSlotsAt.f, laws_toSlotRing.f, e1, e2, e3, e4, e5, e6, e7, e8, es_l1, n_k, n_r, ns_l1, Option.bind_some, eq_self, decide_true, bne_self_eq_false, Bool.false_eq_true, Bool.not_true, Bool.not_false, ↓reduceIte])
  all_goals (try rw [laws_FnExactSlotsAt.j2.eq_2])
  all_goals (try simp (disch := omega) only [laws_FnExactSlotsAt.f, laws_toSlotRing.f, e1, e2, e3, e4, e5, e6, e7, e8, es_l1, n_k, n_r, ns_l1, Option.bind_some, eq_self, decide_true, bne_self_eq_false, Bool.false_eq_true, Bool.not_true, Bool.not_false, ↓reduceIte])
end Go.Proofs.Ytgkbeejkbhhjkaa.Pure

/- Plain lemmas for the rows: a slice of structs of three whole numbers that came in, opened to cells. -/
namespace Go.Proofs.Ytgkbeejkbhhjkaa.Rw
open Go.ChangeShapes Go.WideShapes Go.Deep Go.RowKit
section
variable {H : Type} {enc : TypeId × Value → H} {P : Program} {w : World} {base : Nat} {spare : Nat → Bool} {held : Bool}
theorem trod_int_mk {t : TypeId} {k : IntKind} {n : Int} (h : P.underlying t = some (.int k)) (hw : (Lit.int k n).wf = true) : ∃ m, DataW.trod enc P w base spare held m t [.int k n] = some (.lit (.int k n), []) := ⟨1, by simp [DataW.trod, h, hw]⟩
theorem trod_bool_mk {t : TypeId} {b : Bool} (h : P.underlying t = some .bool) : ∃ m, DataW.trod enc P w base spare held m t [.bool b] = some (.lit (.bool b), []) := ⟨1, by simp [DataW.trod, h]⟩
def numAt (w : World) (a : Addr) : Int := match w.cell? a with
  | some (.int _ n) => n
  | _ => 0
theorem open_rows3 {t e : TypeId} {f0 f1 f2 : Field} {fuel : Nat} {A : Option Addr} {len cap : Nat} {x : DataW H × List MemPlace} (ht : P.underlying t = some (.slice e)) (he : P.underlying e = some (.struct #[f0, f1, f2]))
    (hone : oneCellFields P #[f0, f1, f2] = true) (hC : P.cellsOf e = 3) (h0 : P.underlying f0.type = some (.int .i64)) (h1 : P.underlying f1.type = some (.int .i64)) (h2 : P.underlying f2.type = some (.int .i64))
    (h : DataW.trod enc P w base spare held fuel t [.slice A len cap] = some x) :
    len ≤ cap ∧ len ≤ 9223372036854775807 ∧ ∃ l : List (Int × Int × Int), l.length = len ∧ (∀ p ∈ l, (Lit.int .i64 p.1).wf = true ∧ (Lit.int .i64 p.2.1).wf = true ∧ (Lit.int .i64 p.2.2).wf = true) ∧
      (0 < len → ∃ ad, A = some ad ∧ ∀ j p, l[j]? = some p → w.cell? (ad.add (j * 3 + 0)) = some (.int .i64 p.1) ∧ w.cell? (ad.add (j * 3 + 1)) = some (.int .i64 p.2.1) ∧ w.cell? (ad.add (j * 3 + 2)) = some (.int .i64 p.2.2)) := by
  rcases open_slice ht h with ⟨hcs, _⟩ | ⟨a, len', cap', m, n, D, Pl, hcs, hb, hl, hm, hmm, hx, hi⟩
  · injection hcs with hcs
    injection hcs with ha hl hc
    subst ha hl hc
    exact ⟨Nat.le_refl _, by omega, [], rfl, by simp, fun h => absurd h (by omega)⟩
  · injection hcs with hcs
    injection hcs with ha hl' hc'
    subst ha hl' hc'
    have hml : len ≤ m := by rw [hmm]; split <;> omega
    have key : ∀ i, i < len → ∃ n0 n1 n2 : Int, w.cell? (a.add (i * 3 + 0)) = some (.int .i64 n0) ∧ w.cell? (a.add (i * 3 + 1)) = some (.int .i64 n1) ∧ w.cell? (a.add (i * 3 + 2)) = some (.int .i64 n2) ∧
        (Lit.int .i64 n0).wf = true ∧ (Lit.int .i64 n1).wf = true ∧ (Lit.int .i64 n2).wf = true := by
      intro i hil
      obtain ⟨cs', hc, ht'⟩ := hi i (by omega)
      rw [hC] at hc
      obtain ⟨ys, n', hn', hy, hlen, hyl, hf⟩ := DataW.trod_struct he ht'
      obtain ⟨_, hcl, hat⟩ := World.cells?_some hc
      have one : ∀ (j : Nat) (f : Field), j < 3 → (#[f0, f1, f2] : Array Field)[j]? = some f → P.underlying f.type = some (.int .i64) → ∃ n0 : Int, w.cell? (a.add (i * 3 + j)) = some (.int .i64 n0) ∧ (Lit.int .i64 n0).wf = true := by
        intro j f hj3 hj hu
        obtain ⟨ho, hk⟩ := hone_of hone j f hj
        have hcell := hat j hj3
        have hv : cs'[j]? = some (cs'[j]'(by omega)) := List.getElem?_eq_getElem (by omega)
        have g1 := hf j f hj
        rw [ho, hk] at g1
        have hone' : (cs'.drop j).take 1 = [cs'[j]'(by omega)] := by
          rw [List.drop_eq_getElem_cons (by omega)]
          rfl
        rw [hone'] at g1
        have hys : ys[j]? = some (ys[j]'(by simp at hyl; omega)) := List.getElem?_eq_getElem (by simp at hyl; omega)
        obtain ⟨n0, e0, _, wf0⟩ := DataW.trod_int hu (g1.trans hys)
        refine ⟨n0, ?_, wf0⟩
        rw [← Go.Deep.add_add, hcell, hv]
        injection e0 with e0
        rw [e0]
      obtain ⟨n0, c0, w0⟩ := one 0 f0 (by omega) rfl h0
      obtain ⟨n1, c1, w1⟩ := one 1 f1 (by omega) rfl h1
      obtain ⟨n2, c2, w2⟩ := one 2 f2 (by omega) rfl h2
      exact ⟨n0, n1, n2, c0, c1, c2, w0, w1, w2⟩
    refine ⟨hl, by unfold maxLen at hm; omega, (List.range len).map (fun i => (numAt w (a.add (i * 3 + 0)), numAt w (a.add (i * 3 + 1)), numAt w (a.add (i * 3 + 2)))), by simp, ?_, fun _ => ⟨a, rfl, ?_⟩⟩
    · intro p hp
      obtain ⟨i, hir, rfl⟩ := List.mem_map.1 hp
      obtain ⟨n0, n1, n2, c0, c1, c2, w0, w1, w2⟩ := key i (List.mem_range.1 hir)
      simp only [numAt, c0, c1, c2]
      exact ⟨w0, w1, w2⟩
    · intro j p hj
      obtain ⟨hjl, hp⟩ := List.getElem?_eq_some_iff.1 hj
      have hjl' : j < len := by simpa using hjl
      obtain ⟨n0, n1, n2, c0, c1, c2, w0, w1, w2⟩ := key j hjl'
      have : p = (n0, n1, n2) := by
        rw [← hp]
        simp only [List.getElem_map, List.getElem_range, numAt, c0, c1, c2]
      subst this
      exact ⟨c0, c1, c2⟩
end
end Go.Proofs.Ytgkbeejkbhhjkaa.Rw
