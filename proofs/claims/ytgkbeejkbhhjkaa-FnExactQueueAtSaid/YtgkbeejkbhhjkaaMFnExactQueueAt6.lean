/- Several texts of this session in one: X27, X28, X29, X30. -/
import Derived.Test.YtgkbeejkbhhjkaaMFnExactQueueAt0
import Derived.Test.YtgkbeejkbhhjkaaMFnExactQueueAt2
import Derived.Test.YtgkbeejkbhhjkaaMFnExactQueueAt3
import Derived.Test.YtgkbeejkbhhjkaaMFnExactQueueAt5
/- What the functions of the program come to, and that they do: written by this session's program wip/xprint.py out of the translation; parts named extern are typed by hand. -/
namespace Go.Proofs.Ytgkbeejkbhhjkaa.X
open Go.RowKit Go.Proofs.YtgkbeejkbhhjkaaW.PrintWords Go.Proofs.YtgkbeejkbhhjkaaW.PrintLast Go.Proofs.YtgkbeejkbhhjkaaW.PrintMore
attribute [local go_sem] max2_int min2_int max_two min_two max_three min_three max_four min_four   -- for this text's walks alone
set_option linter.unusedVariables false
set_option linter.unusedSimpArgs false

/-! ### spec_l1Has: function 59 -/
/-! ### spec_FullTicks: function 34 -/
/- EXTERN, by hand (wip/hand/slotall.py): the ticks at which all slots are full. -/
end Go.Proofs.Ytgkbeejkbhhjkaa.X

/- What the functions of the program come to, and that they do: written by this session's program wip/xprint.py out of the translation; parts named extern are typed by hand. -/
namespace Go.Proofs.Ytgkbeejkbhhjkaa.X
open Go.RowKit Go.Proofs.YtgkbeejkbhhjkaaW.PrintWords Go.Proofs.YtgkbeejkbhhjkaaW.PrintLast Go.Proofs.YtgkbeejkbhhjkaaW.PrintMore
attribute [local go_sem] max2_int min2_int max_two min_two max_three min_three max_four min_four   -- for this text's walks alone
set_option linter.unusedVariables false
set_option linter.unusedSimpArgs false

/-! ### impl_isSlotTick: function 60 -/
def impl_isSlotTick.f (a0 : Int) : Option (Bool) := (impl_within.f a0 0 400).bind fun t366 => (some t366)
set_option maxHeartbeats 8000000 in
set_option maxRecDepth 100000 in
theorem impl_isSlotTick.calls (a0 : Int) (r : Bool) (w : World) (h : impl_isSlotTick.f a0 = some r) :
    Calls Try.prog 60 #[.int .i64 a0] w fun e w' => e = .returned (.bool r) ∧ Drawn0 w w' := by
  have H : ((impl_within.f a0 0 400).bind fun t366 => (some t366)) = some r := h
  clear h
  replace H := Option.bind_eq_some_iff.mp H
  obtain ⟨t366, A20, H⟩ := H
  replace H : (some t366) = some r := H
  have A2 := Aside0.mk A20
  clear A20
  obtain rfl := Option.some.inj H
  go_enter Try.func60, Try.ntmps60
  go_wp2_with (first | ((with_reducible refine gate_callee (f := 55) rfl ?_); refine goesL_ (some 4) rfl rfl Try.func55 (by kernel_rfl) rfl #[.int .i64 a0, .int .i64 0, .int .i64 400] rfl (by (try simp only [List.map_toArray, List.map_cons, List.map_nil]); first | done | rfl | (simp only [List.length_drop, List.length_take]; rfl)) ?_; (with_reducible refine (impl_within.calls a0 0 400 t366 _ A2.out).mono ?_); rintro e w' ⟨rfl, ⟨nd, rfl⟩⟩; refine ⟨_, rfl, ?_⟩))
  go_ret
  exact ⟨by first | rfl | (simp; done) | (simp [*]; done), by repeat (first | exact Drawn0.refl _ | apply Drawn0.step)⟩

/-! ### bits_Mul64: function 82 -/
def bits_Mul64.f (a0 : Int) (a1 : Int) : Option (Int × Int) := some (IntKind.u64.wrap ((IntKind.u64.wrap ((IntKind.u64.wrap ((a0 / 4294967296) * (a1 / 4294967296))) + ((IntKind.u64.wrap ((IntKind.u64.wrap ((a0 / 4294967296) * (Go.bits .and .u64 a1 4294967295))) + ((IntKind.u64.wrap ((Go.bits .and .u64 a0 4294967295) * (Go.bits .and .u64 a1 4294967295))) / 4294967296))) / 4294967296))) + ((IntKind.u64.wrap ((Go.bits .and .u64 (IntKind.u64.wrap ((IntKind.u64.wrap ((a0 / 4294967296) * (Go.bits .and .u64 a1 4294967295))) + ((IntKind.u64.wrap ((Go.bits .and .u64 a0 4294967295) * (Go.bits .and .u64 a1 4294967295))) / 4294967296))) 4294967295) + (IntKind.u64.wrap ((Go.bits .and .u64 a0 4294967295) * (a1 / 4294967296))))) / 4294967296)), IntKind.u64.wrap (a0 * a1))
set_option maxHeartbeats 8000000 in
set_option maxRecDepth 100000 in
theorem bits_Mul64.calls (a0 : Int) (a1 : Int) (r1 : Int) (r2 : Int) (w : World) (h : bits_Mul64.f a0 a1 = some (r1, r2)) :
    Calls Try.prog 82 #[.int .u64 a0, .int .u64 a1] w fun e w' => e = .returned (.tuple #[.int .u64 r1, .int .u64 r2]) ∧ Drawn0 w w' := by
  have H : (some (IntKind.u64.wrap ((IntKind.u64.wrap ((IntKind.u64.wrap ((a0 / 4294967296) * (a1 / 4294967296))) + ((IntKind.u64.wrap ((IntKind.u64.wrap ((a0 / 4294967296) * (Go.bits .and .u64 a1 4294967295))) + ((IntKind.u64.wrap ((Go.bits .and .u64 a0 4294967295) * (Go.bits .and .u64 a1 4294967295))) / 4294967296))) / 4294967296))) + ((IntKind.u64.wrap ((Go.bits .and .u64 (IntKind.u64.wrap ((IntKind.u64.wrap ((a0 / 4294967296) * (Go.bits .and .u64 a1 4294967295))) + ((IntKind.u64.wrap ((Go.bits .and .u64 a0 4294967295) * (Go.bits .and .u64 a1 4294967295))) / 4294967296))) 4294967295) + (IntKind.u64.wrap ((Go.bits .and .u64 a0 4294967295) * (a1 / 4294967296))))) / 4294967296)), IntKind.u64.wrap (a0 * a1))) = some (r1, r2) := h
  clear h
  simp only [Option.some.injEq, Prod.mk.injEq] at H
  obtain ⟨rfl, rfl⟩ := H
  go_enter Try.func82, Try.ntmps82
  go_wp2
  go_ret2
  exact ⟨by first | rfl | (simp; done) | (simp [*]; done), by repeat (first | exact Drawn0.refl _ | apply Drawn0.step)⟩

/-! ### bits_Mul: function 79 -/
def bits_Mul.f (a0 : Int) (a1 : Int) : Option (Int × Int) := (bits_Mul64.f a0 a1).bind fun bt367 => (some (bt367.1, bt367.2))
set_option maxHeartbeats 8000000 in
set_option maxRecDepth 100000 in
theorem bits_Mul.calls (a0 : Int) (a1 : Int) (r1 : Int) (r2 : Int) (w : World) (h : bits_Mul.f a0 a1 = some (r1, r2)) :
    Calls Try.prog 79 #[.int .u64 a0, .int .u64 a1] w fun e w' => e = .returned (.tuple #[.int .u64 r1, .int .u64 r2]) ∧ Drawn0 w w' := by
  have H : ((bits_Mul64.f a0 a1).bind fun bt367 => (some (bt367.1, bt367.2))) = some (r1, r2) := h
  clear h
  replace H := Option.bind_eq_some_iff.mp H
  obtain ⟨⟨t367, t368⟩, A30, H⟩ := H
  replace H : (some (t367, t368)) = some (r1, r2) := H
  have A3 := Aside0.mk A30
  clear A30
  simp only [Option.some.injEq, Prod.mk.injEq] at H
  obtain ⟨rfl, rfl⟩ := H
  go_enter Try.func79, Try.ntmps79
  go_wp2_with (first | ((with_reducible refine gate_callee (f := 82) rfl ?_); refine goesL_ (some 25) rfl rfl Try.func82 (by kernel_rfl) rfl #[.int .u64 a0, .int .u64 a1] rfl (by (try simp only [List.map_toArray, List.map_cons, List.map_nil]); first | done | rfl | (simp only [List.length_drop, List.length_take]; rfl)) ?_; (with_reducible refine (bits_Mul64.calls a0 a1 t367 t368 _ A3.out).mono ?_); rintro e w' ⟨rfl, ⟨nd, rfl⟩⟩; refine ⟨_, rfl, ?_⟩))
  go_ret2
  exact ⟨by first | rfl | (simp; done) | (simp [*]; done), by repeat (first | exact Drawn0.refl _ | apply Drawn0.step)⟩

end Go.Proofs.Ytgkbeejkbhhjkaa.X

/- What the functions of the program come to, and that they do: written by this session's program wip/xprint.py out of the translation; parts named extern are typed by hand. -/
namespace Go.Proofs.Ytgkbeejkbhhjkaa.X
open Go.RowKit Go.Proofs.YtgkbeejkbhhjkaaW.PrintWords Go.Proofs.YtgkbeejkbhhjkaaW.PrintLast Go.Proofs.YtgkbeejkbhhjkaaW.PrintMore
attribute [local go_sem] max2_int min2_int max_two min_two max_three min_three max_four min_four   -- for this text's walks alone
set_option linter.unusedVariables false
set_option linter.unusedSimpArgs false

/-! ### slices_Repeat_int_int: function 72 -/
/- EXTERN, by hand: slices.Repeat of one whole number, at most 20 times. -/
/-- Of a row of one's own the first m elements are laid behind themselves, as many as fit. -/
theorem step_copy_self {P : Program} {w0 W : World} {ops : Array Oper} {o : Oper} {a : Act} {K : Act → World → Prop} {Q : Exit → Act → World → Prop} {E : Prop} (base e : Nat) (hgd : o.guard = none) (d s : Operand) (t : TypeId)
    (ho : o.op = .call { callee := .builtin .copy, args := #[d, s], argTypes := #[t, t] }) (ht : P.underlying t = some (.slice e)) (hsz : (P.info? e).map (·.size) = some 1)
    (g n c m q : Nat) (xs : List Int) (ok : Nat → Prop) (hd : a.eval d = .slice (some ⟨g, m, none⟩) (n - m) (c - m)) (hs : a.eval s = .slice (some ⟨g, 0, none⟩) m c)
    (HO : (Kd.int .i64).R e W base ok (.slice (some ⟨g, 0, none⟩) n c) xs) (hn : xs.length = n) (hm : m ≤ n) (hq : q = Nat.min m (n - m)) (HB : Below base w0 W)
    (h : ∀ w1, (Kd.int .i64).R e w1 base ok (.slice (some ⟨g, 0, none⟩) n c) (splice xs m (xs.take q)) → Below base w0 w1 → K (a.put o.dst (goInt q)) w1) : if Region.wanted o (yielded ops a.tmps) = true then Oper.wp P o a W K Q else E := by
  have HR := (Kd.R_reads' HO).2.2
  obtain ⟨hok, inner, ⟨h1, h2⟩, hreps⟩ := HO
  have hin : inner = nums .i64 xs := by
    obtain ⟨hl, hr⟩ := hreps
    apply List.ext_getElem?
    intro j
    by_cases hj : j < xs.length
    · have := hr j xs[j] (by rw [List.getElem?_eq_getElem hj])
      have h3 : (List.take (Kd.int .i64).sz (List.drop (j * (Kd.int .i64).sz) inner)) = [.int .i64 xs[j]] := this
      have h4 : inner[j]? = (List.take 1 (List.drop (j * 1) inner))[0]? := by simp
      rw [h4]
      have h5 : List.take 1 (List.drop (j * 1) inner) = [.int .i64 xs[j]] := h3
      rw [h5]
      simp [nums, hj]
    · have e1 : (Kd.int .i64).sz = 1 := rfl
      rw [List.getElem?_eq_none (by rw [hl, e1]; omega), List.getElem?_eq_none (by simp [nums]; omega)]
  subst hin
  have e1 : (Kd.int .i64).sz = 1 := rfl
  rw [e1] at h1 h2
  rcases h2 with ⟨hf, h0⟩ | ⟨g2, cap, cur, hv, hbg, hh, hnc, hcm, hcs, htk⟩
  · cases hf
  · obtain ⟨rfl, rfl, rfl⟩ : g2 = g ∧ n = xs.length ∧ cap = c := by
      simp only [Value.slice.injEq, Option.some.injEq, Addr.mk.injEq] at hv
      exact ⟨hv.1.1.symm, hv.2.1, hv.2.2.symm⟩
    clear hv
    rw [Nat.mul_one] at hcs htk
    have hcur : cur = (cur.toList).toArray := by simp
    rw [hcur] at hh
    have hcl : cur.toList.length = cur.size := by simp
    have hql : q ≤ xs.length - m := by rw [hq]; exact Nat.min_le_right _ _
    have hqm : q ≤ m := by rw [hq]; exact Nat.min_le_left _ _
    have hlt : (xs.take q).length = q := by rw [List.length_take]; omega
    have hle2 : m + (nums .i64 (xs.take q)).length ≤ cur.toList.length := by rw [hcl, nums_length, hlt]; omega
    refine step_copy_splice hgd d s t t ho e ht hsz (some ⟨g2, m, none⟩) (some ⟨g2, 0, none⟩) (xs.length - m) (cap - m) m cap hd hs g2 m cur.toList e hh (nums .i64 (xs.take q)) (by rw [nums_length, hlt]; exact hq)
      (by
        intro hp
        refine ⟨rfl, _, rfl, fun j u hu => ?_⟩
        have hj : j < q := by
          rcases Nat.lt_or_ge j q with h | h
          · exact h
          · rw [List.getElem?_eq_none (by rw [nums_length, hlt]; exact h)] at hu
            cases hu
        obtain ⟨ad', e', hc⟩ := Kd.at_int HR (j : Int) (by omega) (by omega)
        cases e'
        rw [Int.toNat_natCast] at hc
        rw [hc]
        have h4 : (xs.take q)[j]? = xs[j]? := by rw [List.getElem?_take, if_pos hj]
        unfold nums at hu
        rw [List.getElem?_map, h4, List.getElem?_eq_getElem (show j < xs.length by omega)] at hu
        simp at hu
        rw [← hu]
        simp [rd, List.getD_eq_getElem?_getD, List.getElem?_eq_getElem (show j < xs.length by omega)])
      hle2 (by intro u hu; simp only [nums, List.mem_map] at hu; obtain ⟨z, _, rfl⟩ := hu; rfl) base w0 HB hbg ?_
    intro w' hH hB
    have hH' : w'.heap[g2]? = some (.cells (splice cur.toList m (nums .i64 (xs.take q))).toArray e (0, 0)) := hH
    have hsl : (splice cur.toList m (nums .i64 (xs.take q))).length = cur.toList.length := length_splice _ _ _ hle2
    have hlen : (splice xs m (xs.take q)).length = xs.length := length_splice _ _ _ (by rw [hlt]; omega)
    have hfin : List.take xs.length (splice cur.toList m (nums .i64 (xs.take q))) = nums .i64 (splice xs m (xs.take q)) := by
      obtain ⟨tl, h0⟩ : ∃ tl, cur.toList = nums .i64 xs ++ tl := ⟨cur.toList.drop xs.length, by rw [← htk, List.take_append_drop]⟩
      have hnl : (nums .i64 xs).length = xs.length := nums_length _ _
      have ht1 : List.take m (nums .i64 xs ++ tl) = List.take m (nums .i64 xs) := List.take_append_of_le_length (by rw [hnl]; omega)
      have ht2 : List.drop (m + q) (nums .i64 xs ++ tl) = List.drop (m + q) (nums .i64 xs) ++ tl := List.drop_append_of_le_length (by rw [hnl]; omega)
      rw [h0]
      unfold splice
      rw [nums_length, hlt, ht1, ht2]
      have h5 : nums .i64 (List.take m xs ++ (List.take q xs ++ List.drop (m + q) xs)) = List.take m (nums .i64 xs) ++ (nums .i64 (List.take q xs) ++ List.drop (m + q) (nums .i64 xs)) := by
        simp [nums, List.map_take, List.map_drop]
      have h6 : (List.take m (nums .i64 xs) ++ (nums .i64 (List.take q xs) ++ List.drop (m + q) (nums .i64 xs))).length = xs.length := by
        rw [List.length_append, List.length_append, List.length_take, List.length_drop, nums_length, nums_length, hlt]
        omega
      rw [h5, ← List.append_assoc (nums .i64 (List.take q xs)), ← List.append_assoc (List.take m (nums .i64 xs)), List.take_append_of_le_length (by rw [h6]; exact Nat.le_refl _), List.take_of_length_le (by rw [h6]; exact Nat.le_refl _)]
    have hput := h w' ⟨fun k hk => hok k hk, nums .i64 (splice xs m (xs.take q)), ⟨by rw [nums_length, e1, Nat.mul_one], .inr ⟨g2, cap, (splice cur.toList m (nums .i64 (xs.take q))).toArray, by rw [hlen], hbg, hH', by rw [hlen]; exact hnc, hcm, by rw [e1, Nat.mul_one, List.size_toArray, hsl, hcl]; exact hcs, (by
      rw [e1, Nat.mul_one, hlen]
      exact hfin)⟩⟩, (show Reps _ _ _ (encs (Value.int .i64) (splice xs m (xs.take q))) from Kd.reps_scalar _)⟩ hB
    rw [nums_length, hlt]
    exact hput
theorem R_copy1 {P : Program} {w0 W : World} {ops : Array Oper} {rest : List Oper} {o : Oper} {a : Act} {Q : Exit → Act → World → Prop} (base e : Nat) (hgd : o.guard = none) (d s : Operand) (t : TypeId)
    (ho : o.op = .call { callee := .builtin .copy, args := #[d, s], argTypes := #[t, t] }) (ht : P.underlying t = some (.slice e)) (hsz : (P.info? e).map (·.size) = some 1)
    (v : Value) (xs ys : List Int) (A : Option Addr) (c : Nat) (ok : Nat → Prop) (hd : a.eval d = v) (hs : a.eval s = .slice A ys.length c) (HO : (Kd.int .i64).R e W base ok v xs) (HR : (Kd.int .i64).C W A ys.length ys) (HB : Below base w0 W) (hle : ys.length ≤ xs.length)
    (h : ∀ w1, (Kd.int .i64).R e w1 base ok v (ys ++ xs.drop ys.length) → Below base w0 w1 → wpList P ops Q rest (a.put o.dst (goInt ys.length)) w1) : wpList P ops Q (o :: rest) a W := by
  obtain ⟨hok, inner, ⟨h1, h2⟩, hreps⟩ := HO
  have hin : inner = nums .i64 xs := by
    obtain ⟨hl, hr⟩ := hreps
    apply List.ext_getElem?
    intro j
    by_cases hj : j < xs.length
    · have := hr j xs[j] (by rw [List.getElem?_eq_getElem hj])
      have h3 : (List.take (Kd.int .i64).sz (List.drop (j * (Kd.int .i64).sz) inner)) = [.int .i64 xs[j]] := this
      have h4 : inner[j]? = (List.take 1 (List.drop (j * 1) inner))[0]? := by simp
      rw [h4]
      have h5 : List.take 1 (List.drop (j * 1) inner) = [.int .i64 xs[j]] := h3
      rw [h5]
      simp [nums, hj]
    · have e1 : (Kd.int .i64).sz = 1 := rfl
      rw [List.getElem?_eq_none (by rw [hl, e1]; omega), List.getElem?_eq_none (by simp [nums]; omega)]
  subst hin
  have e1 : (Kd.int .i64).sz = 1 := rfl
  rw [e1] at h1 h2
  rcases h2 with ⟨rfl, h0⟩ | ⟨g, cap, cur, rfl, hbg, hh, hnc, hcm, hcs, htk⟩
  · have hy : ys = [] := List.eq_nil_of_length_eq_zero (by omega)
    have hx : xs = [] := List.eq_nil_of_length_eq_zero h0
    subst hy
    subst hx
    refine wpList_copy_nothing hgd d s t t ho e ht hsz none A 0 0 0 c hd hs rfl ?_
    exact h W ⟨hok, [], ⟨by simp, .inl ⟨rfl, rfl⟩⟩, Reps.none _ _⟩ HB
  · have hcur : cur = (cur.toList).toArray := by simp
    rw [Nat.mul_one] at hcs htk
    rw [hcur] at hh
    have hcl : cur.toList.length = cur.size := by simp
    have hle2 : 0 + (nums .i64 ys).length ≤ cur.toList.length := by rw [hcl, nums_length]; omega
    refine wpList_copy_splice hgd d s t t ho e ht hsz (some ⟨g, 0, none⟩) A xs.length cap ys.length c hd hs g 0 cur.toList e hh (nums .i64 ys) (by rw [nums_length]; exact (Nat.min_eq_left hle).symm)
      (by
        intro hp
        rw [nums_length] at hp
        refine ⟨rfl, ?_⟩
        obtain ⟨ad, e, _⟩ := Kd.at_int HR 0 (by omega) (by omega)
        refine ⟨ad, e, fun j u hu => ?_⟩
        have hj : j < ys.length := by
          rcases Nat.lt_or_ge j ys.length with h | h
          · exact h
          · simp [nums, List.getElem?_eq_none h] at hu
        obtain ⟨ad', e', hc⟩ := Kd.at_int HR (j : Int) (by omega) (by omega)
        rw [e] at e'
        cases e'
        rw [Int.toNat_natCast] at hc
        rw [hc]
        simp [nums, List.getElem?_eq_getElem hj] at hu
        rw [← hu]
        simp [rd, List.getD_eq_getElem?_getD, List.getElem?_eq_getElem hj])
      hle2 (by intro u hu; simp only [nums, List.mem_map] at hu; obtain ⟨q, _, rfl⟩ := hu; rfl) base w0 HB hbg ?_
    intro w' hH hB
    have hH' : w'.heap[g]? = some (.cells (splice cur.toList 0 (nums .i64 ys)).toArray e (0, 0)) := hH
    have hsl : (splice cur.toList 0 (nums .i64 ys)).length = cur.toList.length := length_splice _ _ _ hle2
    have hlen : (ys ++ xs.drop ys.length).length = xs.length := by simp; omega
    have hput := h w' ⟨fun k hk => hok k hk, nums .i64 (ys ++ xs.drop ys.length), ⟨by rw [nums_length, e1, Nat.mul_one], .inr ⟨g, cap, (splice cur.toList 0 (nums .i64 ys)).toArray, by rw [hlen], hbg, hH', by rw [hlen]; exact hnc, hcm, by rw [e1, Nat.mul_one, List.size_toArray, hsl, hcl]; exact hcs, (by
      rw [e1, Nat.mul_one, hlen]
      have hX : xs.length = ys.length + (xs.length - ys.length) := by omega
      have hdr : (cur.toList.drop ys.length).take (xs.length - ys.length) = nums .i64 (xs.drop ys.length) := by
        have : nums .i64 (xs.drop ys.length) = (nums .i64 xs).drop ys.length := by simp [nums, List.map_drop]
        rw [this, ← htk, List.drop_take]
      show List.take xs.length (splice cur.toList 0 (nums .i64 ys)).toArray.toList = _
      unfold splice
      simp only [List.take_zero, List.nil_append, Nat.zero_add, nums_length]
      rw [nums_append, List.take_append, nums_length, ← hdr]
      rw [List.take_of_length_le (by rw [nums_length]; exact hle)])⟩⟩, (show Reps _ _ _ (encs (Value.int .i64) (ys ++ xs.drop ys.length)) from Kd.reps_scalar _)⟩ hB
    rw [nums_length] 
    exact hput
/-- A number, again and again. -/
def slices_Repeat_int_int.f (l : List Int) (n : Int) : Option (List Int) := match l with
  | [v] => if 0 ≤ n ∧ n ≤ 20 then some (List.replicate n.toNat v) else none
  | _ => none
theorem mul1 : ∀ n : Nat, n ≤ 20 → bits_Mul.f 1 (n : Int) = some (0, (n : Int)) := by
  intro n hn
  have h : ∀ k : Fin 21, bits_Mul.f 1 ((k.val : Nat) : Int) = some (0, ((k.val : Nat) : Int)) := by decide +kernel
  exact h ⟨n, by omega⟩
theorem rep_splice (v : Int) (n m : Nat) (hm : m ≤ n) (h1 : 1 ≤ m) : splice (List.replicate m v ++ List.replicate (n - m) 0) m ((List.replicate m v ++ List.replicate (n - m) 0).take (Nat.min m (n - m))) = List.replicate (m + Nat.min m (n - m)) v ++ List.replicate (n - (m + Nat.min m (n - m))) 0 := by
  have hq : Nat.min m (n - m) ≤ m := Nat.min_le_left _ _
  have hq2 : Nat.min m (n - m) ≤ n - m := Nat.min_le_right _ _
  generalize Nat.min m (n - m) = q at hq hq2
  have e1 : (List.replicate m v ++ List.replicate (n - m) (0 : Int)).take q = List.replicate q v := by
    rw [List.take_append_of_le_length (by simp; omega), List.take_replicate, Nat.min_eq_left hq]
  rw [e1]
  unfold splice
  rw [List.take_append_of_le_length (by simp), List.take_replicate, Nat.min_self, List.length_replicate, List.drop_append, List.drop_replicate, List.length_replicate, List.drop_replicate]
  rw [show m - (m + q) = 0 by omega, show n - m - (m + q - m) = n - (m + q) by omega]
  simp only [List.replicate_zero, List.nil_append]
  rw [← List.append_assoc, List.replicate_append_replicate]
theorem rp_cut_from {P : Program} (t e : TypeId) (ht : P.underlying t = some (.slice e)) (hinfo : (P.info? e).map (fun i => (i.zero, i.size, i.bytes)) = some (some (.int .i64 0), 1, 8)) (g n c m : Nat) (hm : m < n) (hc : n ≤ c) (W : World) :
    (Instr.slice t (.slice (some ⟨g, 0, none⟩) n c) (some (.int .i64 (m : Int))) none none).run P W = .ok (.slice (some ⟨g, m, none⟩) (n - m) (c - m)) W := by
  obtain ⟨i0, hi, hzz⟩ := Option.map_eq_some_iff.1 hinfo
  simp only [Prod.mk.injEq] at hzz
  have hel : P.elem t = e := by simp [Program.elem, ht]
  have hm1 : m ≤ n := by omega
  have hm2 : ¬ c = m := by omega
  simp [Instr.slice, run_underlying ht, Instr.sliceBounds, run_sliceBound, sizeOf, typeInfo, hi, Result.andThen, hm1, hm2, hc, Addr.add, hzz.2.1]
  intro h0
  rw [h0]
theorem rp_cut_to {P : Program} (t e : TypeId) (ht : P.underlying t = some (.slice e)) (hinfo : (P.info? e).map (fun i => (i.zero, i.size, i.bytes)) = some (some (.int .i64 0), 1, 8)) (g n c m : Nat) (hm : m ≤ n) (hc : n ≤ c) (W : World) :
    (Instr.slice t (.slice (some ⟨g, 0, none⟩) n c) none (some (.int .i64 (m : Int))) none).run P W = .ok (.slice (some ⟨g, 0, none⟩) m c) W := by
  obtain ⟨i0, hi, hzz⟩ := Option.map_eq_some_iff.1 hinfo
  simp only [Prod.mk.injEq] at hzz
  have hel : P.elem t = e := by simp [Program.elem, ht]
  have hmc : m ≤ c := by omega
  simp [Instr.slice, run_underlying ht, Instr.sliceBounds, run_sliceBound, sizeOf, typeInfo, hi, Result.andThen, hmc, Addr.add]
set_option maxHeartbeats 8000000 in
set_option maxRecDepth 100000 in
theorem repeat_some (A0 : Option Addr) (c0 : Nat) (v : Int) (n : Nat) (w : World) (hr0 : Kd.C (Kd.int .i64) w A0 1 [v]) (h0 : 0 < n) (h20 : n ≤ 20) :
    Calls Try.prog 72 #[.slice A0 1 c0, .int .i64 (n : Int)] w fun e w' => ∃ v0_ : Value, e = .returned (v0_) ∧ Kd.R (Kd.int .i64) 3 w' w.heap.size (fun _ => True) v0_ (List.replicate n v) ∧ Below w.heap.size w w' := by
  have HN := Aside0.mk h20
  have HP := Aside0.mk h0
  have hn0 : decide ((n : Int) < 0) = false := decide_eq_false (by omega)
  have HM := Aside0.mk (mul1 n (by omega))
  have hw1 : IntKind.u64.wrap (n : Int) = (n : Int) := by simp [IntKind.wrap, IntKind.bits, IntKind.signed]; omega
  have hw2 : IntKind.i64.wrap (n : Int) = (n : Int) := by simp [IntKind.wrap_i64]; omega
  have HR0 := Aside0.mk hr0
  have HB := Aside0.mk (Below.refl w.heap.size w)
  clear hr0
  have hgt : decide ((n : Int) > 9223372036854775807) = false := decide_eq_false (by omega)
  have hgt2 : decide ((9223372036854775807 : Int) < n) = false := decide_eq_false (by omega)
  go_enter Try.func72, Try.ntmps72
  go_wp2_with (first | (go_at_call 79; (with_reducible refine (bits_Mul.calls 1 (n : Int) 0 (n : Int) _ HM.out).mono ?_); rintro e w' ⟨rfl, ⟨nd, rfl⟩⟩) | ((with_reducible refine gate_dst (N := 30) rfl ?_); refine Kd.R_make (Kd.int .i64) _ 3 rfl (N := 30) rfl 46 _ _ rfl (n : Int) rfl rfl Try.underlying46 (.int .i64 0) 8 info3 rfl (by decide) (by omega) 0 (ok := fun _ => True) (okp := fun _ => True) rfl (fun _ hk => hk) trivial (by omega) (by have := HN.out; omega) (Below.refl _ _) (Nat.le_refl _) ?_; intro v30 w4 ho hb hg_ hnew_; clear hg_ hnew_; have HO := Aside0.mk (Kd.R_lower ho (below_size (by repeat (first | (with_reducible first | exact HB.out | apply below_alloc | apply pw_below_drewN | apply below_drew1) | exact HB.out)))); have HB4 := Aside0.mk (below_step (by repeat (first | (with_reducible first | exact HB.out | apply below_alloc | apply pw_below_drewN | apply below_drew1) | exact HB.out)) hb); have HRS := Aside0.mk (Kd.C_below HR0.out HB4.out); rw [Int.toNat_natCast] at HO; clear HB ho hb; have HB := HB4; clear HB4; obtain ⟨g30, c30, e30, _, _, _⟩ := Kd.R_form HO.out (by rw [List.length_replicate]; omega); subst e30; rw [List.length_replicate] at *) | ((with_reducible refine gate_dst (N := 33) rfl ?_); refine R_copy1 (w0 := w) w.heap.size 3 rfl (.tmp 31) (.tmp 32) 46 rfl Try.underlying46 (by kernel_rfl) _ (List.replicate n 0) [v] A0 c0 (fun _ => True) rfl rfl HO.out (by repeat (first | exact HRS.out | (with_reducible refine Kd.C_alloc ?_ _) | (with_reducible refine Kd.C_drewN ?_ _) | (with_reducible refine Kd.C_drew ?_))) (by repeat (first | (with_reducible first | exact HB.out | apply below_alloc | apply pw_below_drewN | apply below_drew1) | exact HB.out)) (by simp; omega) ?_; intro w5 ho5 hb5; have HO5 := Aside0.mk ho5; have HB5 := Aside0.mk hb5; clear ho5 hb5))
  have HOm := Aside0.mk (show Kd.R (Kd.int .i64) 3 w5 w.heap.size (fun _ => True) (.slice (some ⟨g30, 0, none⟩) n c30) (List.replicate 1 v ++ List.replicate (n - 1) 0) from by
    have := HO5.out
    rw [List.drop_replicate] at this
    exact this)
  go_loopg [8] (n + 1) (fun kq v8 w' => ∃ m : Nat, v8 = .int .i64 (m : Int) ∧ Aside0 (1 ≤ m ∧ m ≤ n ∧ n - m + 1 ≤ kq) ∧ Aside0 (Kd.R (Kd.int .i64) 3 w' w.heap.size (fun _ => True) (.slice (some ⟨g30, 0, none⟩) n c30) (List.replicate m v ++ List.replicate (n - m) 0)) ∧ Aside0 (Below w.heap.size w w'))
  case atStart => exact ⟨1, rfl, ⟨Nat.le_refl _, HP.out, by omega⟩, HOm, HB5⟩
  case round =>
    clear HO HB HO5 HB5 HOm HRS
    obtain ⟨m, rfl, HML0, HO, HB⟩ := hrel
    have HC := Aside0.mk (Kd.R_reads' HO.out).2.1
    have hlen : (List.replicate m v ++ List.replicate (n - m) (0 : Int)).length = n := by
      have := HML0.out
      simp
      omega
    have HNL := Aside0.mk hlen
    clear hlen
    by_cases hm : (m : Int) < n
    · have hmb : decide ((m : Int) < n) = true := decide_eq_true hm
      have hmb2 : decide (m < n) = true := decide_eq_true (by omega)
      have HML := Aside0.mk (show m ≤ n by omega)
      have HMi := Aside0.mk (show m < n by omega)
      clear hm
      obtain ⟨q, hq⟩ : ∃ q, q = Nat.min m (n - m) := ⟨_, rfl⟩
      have HSP := Aside0.mk (rep_splice v n m HML.out HML0.out.1)
      rw [← hq] at HSP
      have HQ := Aside0.mk hq
      have hw3 : IntKind.i64.wrap ((m : Int) + (q : Int)) = ((m + q : Nat) : Int) := by
        have := HN.out
        have : q ≤ n - m := by rw [hq]; exact Nat.min_le_right m (n - m)
        have := HML.out
        clear hq
        simp [IntKind.wrap_i64]
        omega
      clear hq
      have hc1 := fun W => rp_cut_from (P := Try.prog) 46 3 Try.underlying46 info3 g30 n c30 m HMi.out HC.out W
      have hc2 := fun W => rp_cut_to (P := Try.prog) 46 3 Try.underlying46 info3 g30 n c30 m HML.out HC.out W
      go_wp2
      go_region_law (refine step_copy_self (w0 := w) w.heap.size 3 rfl (.tmp 41) (.tmp 44) 46 rfl Try.underlying46 (by kernel_rfl) g30 n c30 m q _ (fun _ => True) (by first | (go_simp; done) | (go_simp; rfl)) (by first | (go_simp; done) | (go_simp; rfl)) (by (with_reducible repeat (first | apply Kd.R_alloc | apply Kd.R_drewN | apply Kd.R_drew)); exact HO.out) HNL.out HML.out HQ.out (by repeat (first | (with_reducible first | exact HB.out | apply below_alloc | apply pw_below_drewN | apply below_drew1) | exact HB.out)) ?_; intro w7 ho7 hb7; rw [HSP.out] at ho7; have HO7 := Aside0.mk ho7; have HB7 := Aside0.mk hb7; clear ho7 hb7)
      all_goals go_wp2
      have hmin : 1 ≤ q := by
        have h1 := HML0.out.1
        have h2 := HMi.out
        rw [HQ.out]
        exact Nat.le_min.2 ⟨h1, by omega⟩
      have hmin2 : q ≤ n - m := by rw [HQ.out]; exact Nat.min_le_right _ _
      go_roundg (n - (m + q) + 1)
      case measure => have := HML0.out; omega
      case rel => exact ⟨m + q, (by first | rfl | rw [Int.natCast_add]), ⟨by omega, by have := HML.out; omega, Nat.le_refl _⟩, HO7, HB7⟩
    · obtain rfl : m = n := by have := HML0.out; omega
      have hmb : decide ((m : Int) < m) = false := decide_eq_false hm
      have hmb2 : decide (m < m) = false := decide_eq_false (by omega)
      clear hm
      go_wp2
      go_ret
      refine ⟨_, rfl, ?_, HB.out⟩
      have := HO.out
      rw [Nat.sub_self, List.replicate_zero, List.append_nil] at this
      exact this
set_option maxHeartbeats 8000000 in
set_option maxRecDepth 100000 in
theorem repeat_none (A0 : Option Addr) (c0 : Nat) (v : Int) (w : World) (hr0 : Kd.C (Kd.int .i64) w A0 1 [v]) :
    Calls Try.prog 72 #[.slice A0 1 c0, .int .i64 0] w fun e w' => ∃ v0_ : Value, e = .returned (v0_) ∧ Kd.R (Kd.int .i64) 3 w' w.heap.size (fun _ => True) v0_ [] ∧ Below w.heap.size w w' := by
  have HM := Aside0.mk (show bits_Mul.f 1 0 = some (0, 0) from mul1 0 (by omega))
  have HN := Aside0.mk (show (0 : Nat) ≤ 20 by omega)
  have HR0 := Aside0.mk hr0
  have HB := Aside0.mk (Below.refl w.heap.size w)
  clear hr0
  have hw1 : IntKind.u64.wrap 0 = 0 := by decide
  have hw2 : IntKind.i64.wrap 0 = 0 := by decide
  go_enter Try.func72, Try.ntmps72
  go_wp2_with (first | (go_at_call 79; (with_reducible refine (bits_Mul.calls 1 0 0 0 _ HM.out).mono ?_); rintro e w' ⟨rfl, ⟨nd, rfl⟩⟩) | ((with_reducible refine gate_dst (N := 30) rfl ?_); refine Kd.R_make (Kd.int .i64) _ 3 rfl (N := 30) rfl 46 _ _ rfl (0 : Int) rfl rfl Try.underlying46 (.int .i64 0) 8 info3 rfl (by decide) (by omega) 0 (ok := fun _ => True) (okp := fun _ => True) rfl (fun _ hk => hk) trivial (by omega) (by have := HN.out; omega) (Below.refl _ _) (Nat.le_refl _) ?_; intro v30 w4 ho hb hg_ hnew_; clear hg_ hnew_; have HO := Aside0.mk (Kd.R_lower ho (below_size (by repeat (first | (with_reducible first | exact HB.out | apply below_alloc | apply pw_below_drewN | apply below_drew1) | exact HB.out)))); have HB4 := Aside0.mk (below_step (by repeat (first | (with_reducible first | exact HB.out | apply below_alloc | apply pw_below_drewN | apply below_drew1) | exact HB.out)) hb); have HRS := Aside0.mk (Kd.C_below HR0.out HB4.out); (rw [show List.replicate (Int.toNat 0) (0 : Int) = [] from rfl] at HO); clear HB ho hb; have HB := HB4; clear HB4; obtain ⟨A30, c30, e30⟩ := Kd.R_slice HO.out; subst e30) | ((with_reducible refine gate_dst (N := 33) rfl ?_); refine wpList_copy_nothing rfl (.tmp 31) (.tmp 32) 46 46 rfl 3 Try.underlying46 (by kernel_rfl) A30 A0 0 c30 1 c0 rfl rfl rfl ?_))
  go_loopg [8] 1 (fun kq v8 w' => v8 = .int .i64 0 ∧ Aside0 (Below w4.heap.size w4 w'))
  case atStart => exact ⟨rfl, ⟨by repeat (first | (with_reducible exact Below.refl _ _) | apply pw_below_drewN | apply below_drew1)⟩⟩
  case round =>
    obtain ⟨rfl, HBL⟩ := hrel
    go_wp2
    go_ret
    exact ⟨_, rfl, Kd.R_below HO.out HBL.out, below_step HB.out HBL.out⟩
theorem slices_Repeat_int_int.calls (A0 : Option Addr) (c0 : Nat) (l0 : List Int) (a1 : Int) (r : List Int) (w : World) (hr0 : Kd.C (Kd.int .i64) w A0 l0.length l0) (_hc0 : l0.length ≤ c0) (h : slices_Repeat_int_int.f l0 a1 = some r) :
    Calls Try.prog 72 #[.slice A0 l0.length c0, .int .i64 a1] w fun e w' => ∃ v0_ : Value, e = .returned (v0_) ∧ Kd.R (Kd.int .i64) 3 w' w.heap.size (fun _ => True) v0_ r ∧ Below w.heap.size w w' := by
  obtain ⟨v, rfl⟩ : ∃ v, l0 = [v] := by
    unfold slices_Repeat_int_int.f at h
    split at h
    · exact ⟨_, rfl⟩
    · cases h
  simp only [slices_Repeat_int_int.f] at h
  by_cases hb : 0 ≤ a1 ∧ a1 ≤ 20
  case neg => rw [if_neg hb] at h; cases h
  rw [if_pos hb] at h
  obtain ⟨n, rfl⟩ := Int.eq_ofNat_of_zero_le hb.1
  obtain rfl := Option.some.inj h
  rw [Int.toNat_natCast]
  rcases Nat.eq_zero_or_pos n with rfl | hp
  · exact repeat_none A0 c0 v w hr0
  · exact repeat_some A0 c0 v n w hr0 hp (by omega)

end Go.Proofs.Ytgkbeejkbhhjkaa.X

/- What the functions of the program come to, and that they do: written by this session's program wip/xprint.py out of the translation; parts named extern are typed by hand. -/
namespace Go.Proofs.Ytgkbeejkbhhjkaa.X
open Go.RowKit Go.Proofs.YtgkbeejkbhhjkaaW.PrintWords Go.Proofs.YtgkbeejkbhhjkaaW.PrintLast Go.Proofs.YtgkbeejkbhhjkaaW.PrintMore
attribute [local go_sem] max2_int min2_int max_two min_two max_three min_three max_four min_four   -- for this text's walks alone
set_option linter.unusedVariables false
set_option linter.unusedSimpArgs false

/-! ### slices_Clone_int_int: function 73 -/
/- EXTERN, by hand: slices.Clone of a slice of ints. -/
def slices_Clone_int_int.f (l0 : List Int) : Option (List Int) := if l0.length < 17592186044416 then some l0 else none
theorem clone_tail (A0 : Option Addr) (c0 : Nat) (l0 : List Int) (w : World) (hr0 : Kd.C (Kd.int .i64) w A0 l0.length l0) (h : l0.length < 17592186044416) (ad : Addr) (hA : A0 = some ad) :
    Calls Try.prog 73 #[.slice A0 l0.length c0] w fun e w' => ∃ v0_ : Value, e = .returned (v0_) ∧ Kd.R (Kd.int .i64) 3 w' w.heap.size (fun _ => True) v0_ l0 ∧ Below w.heap.size w w' := by
  subst hA
  have hnil : ∀ W : World, (binOp .eql 46 (.slice (some ad) l0.length c0) (.slice none 0 0)).run Try.prog W = .ok (.bool false) W := fun W => Lib.run_eql_slice_nil W 46 3 (some ad) l0.length c0 0 0 Try.underlying46
  have HR0 := Aside0.mk hr0
  clear hr0
  have HB := Aside0.mk (Below.refl w.heap.size w)
  have LM := Aside0.mk h
  clear h
  go_enter Try.func73, Try.ntmps73
  go_wp2_with (first | ((with_reducible refine gate_dst (N := 5) rfl ?_); refine Kd.R_lit (Kd.int .i64) _ 3 ?hg (N := 5) ?hd (xs := ([] : List Int)) (inner := []) (ok := fun _ => True) (okp := fun _ => True) ?hr ?hp (fun _ hk => hk) trivial (Below.refl _ _) (Nat.le_refl _) (by simp) ?_; (case hd => rfl); (case hg => rfl); (case hr => first | (go_simp; done) | (go_simp; rfl)); (case hp => exact (Reps.none _ _)); intro v176 w3 ho4 hb hg_ hnew_; clear hg_ hnew_; have n0_ := Aside0.mk (Kd.R_lower ho4 (below_size (by repeat (first | (with_reducible first | exact HB.out | apply below_alloc | apply pw_below_drewN | apply below_drew1) | exact HB.out)))); have n1_ := Aside0.mk (below_step (by repeat (first | (with_reducible first | exact HB.out | apply below_alloc | apply pw_below_drewN | apply below_drew1) | exact HB.out)) hb); clear HB; have HO177 := n0_; have HB := n1_; clear n0_ n1_; clear hb ho4) | ((with_reducible refine gate_builtin (b := .append) (xs := #[.tmp 5, .tmp 6]) rfl ?_); at_builtin; refine Kd.R_append_rows (Kd.int .i64) (w0 := w) w.heap.size rfl (.tmp 5) (.tmp 6) 46 3 (.int .i64 0) 8 rfl Try.underlying46 info3 rfl (by decide) (by omega) v176 [] l0 _ _ _ (fun _ => True) (fun _ => False) rfl rfl ?aO ?aR (fun _ _ h => h) (fun _ h => h.elim) ?aF ?aB ?aS ?aL ?_; (case aR => repeat (first | exact (Kd.C_below HR0.out HB.out) | (with_reducible refine Kd.C_alloc ?_ _) | (with_reducible refine Kd.C_drewN ?_ _) | (with_reducible refine Kd.C_drew ?_))); (case aB => exact (by repeat (first | (with_reducible first | exact HB.out | apply below_alloc | apply pw_below_drewN | apply below_drew1) | exact HB.out))); (case aF => exact (fun _ _ => trivial)); (case aO => exact (by (with_reducible repeat (first | apply Kd.R_alloc | apply Kd.R_drewN | apply Kd.R_drew)); exact HO177.out)); (case aS => exact (below_size (by repeat (first | (with_reducible first | exact HB.out | apply below_alloc | apply pw_below_drewN | apply below_drew1) | exact HB.out)))); (case aL => have := LM.out; simp only [List.length_nil]; omega); intro v179 w5 ho hb hg hat; rw [List.nil_append] at ho; have n0_ := Aside0.mk (hb); have n1_ := Aside0.mk (ho); clear HB; clear HO177; have HB := n0_; have HO180 := n1_; clear n0_ n1_; clear ho hb hg hat))
  go_ret
  exact ⟨_, rfl, HO180.out, HB.out⟩
theorem clone_nil (c0 : Nat) (l0 : List Int) (w : World) (h : l0 = []) :
    Calls Try.prog 73 #[.slice none l0.length c0] w fun e w' => ∃ v0_ : Value, e = .returned (v0_) ∧ Kd.R (Kd.int .i64) 3 w' w.heap.size (fun _ => True) v0_ l0 ∧ Below w.heap.size w w' := by
  subst h
  have hnil : ∀ W : World, (binOp .eql 46 (.slice none 0 c0) (.slice none 0 0)).run Try.prog W = .ok (.bool true) W := fun W => Lib.run_eql_slice_nil W 46 3 none 0 c0 0 0 Try.underlying46
  go_enter Try.func73, Try.ntmps73
  go_wp2
  go_ret
  exact ⟨_, rfl, Kd.R_nil _ _ _ _ _, Below.refl _ _⟩
theorem slices_Clone_int_int.calls (A0 : Option Addr) (c0 : Nat) (l0 : List Int) (r : List Int) (w : World) (hr0 : Kd.C (Kd.int .i64) w A0 l0.length l0) (_hc0 : l0.length ≤ c0) (h : slices_Clone_int_int.f l0 = some r) :
    Calls Try.prog 73 #[.slice A0 l0.length c0] w fun e w' => ∃ v0_ : Value, e = .returned (v0_) ∧ Kd.R (Kd.int .i64) 3 w' w.heap.size (fun _ => True) v0_ r ∧ Below w.heap.size w w' := by
  unfold slices_Clone_int_int.f at h
  by_cases hl : l0.length < 17592186044416
  · rw [if_pos hl] at h
    obtain rfl := Option.some.inj h
    cases A0 with
    | some ad => exact clone_tail (some ad) c0 l0 w hr0 hl ad rfl
    | none =>
      refine clone_nil c0 l0 w ?_
      rcases Nat.eq_zero_or_pos l0.length with h0 | h0
      · exact List.eq_nil_of_length_eq_zero h0
      · obtain ⟨ad, e, _⟩ := hr0.2.2 h0
        cases e
  · rw [if_neg hl] at h
    exact absurd h (by simp)

/-! ### impl_newSlotter: function 61 -/
/- EXTERN, by hand (wip/hand/slotall.py): the program's ring at first. -/
theorem IsT.new {w0 W : World} {A0 : Option Addr} {c0 : Nat} {n tick : Int} {fah : Bool} {J : List (S30)} {v1 v2 v3 : Value} {sl fi re : List Int} (hC : Kd.C k30 w0 A0 J.length J) (hB : Below w0.heap.size w0 W)
    (h1 : Kd.R (Kd.int .i64) 3 W w0.heap.size (fun _ => True) v1 sl) (h2 : Kd.R (Kd.int .i64) 3 W w0.heap.size (fun _ => True) v2 fi) (h3 : Kd.R (Kd.int .i64) 3 W w0.heap.size (fun _ => True) v3 re)
    (d12 : ∀ k, v1.ownBlock = some k → v2.ownBlock ≠ some k) (d13 : ∀ k, v1.ownBlock = some k → v3.ownBlock ≠ some k) (d23 : ∀ k, v2.ownBlock = some k → v3.ownBlock ≠ some k) :
    IsT w0 (W.alloc (.cells #[.int .i64 n, .bool fah, .slice A0 J.length c0, .int .i64 tick, v1, v2, v3] 73)) W.heap.size n fah tick J sl fi re := by
  have o1 := Kd.own_of_R h1
  have o2 := Kd.own_of_R h2
  have o3 := Kd.own_of_R h3
  have lt : ∀ {v : Value} {xs : List Int}, W.ownsRow w0.heap.size 3 1 v xs.length (encs (Value.int .i64) xs) → ∀ k, v.ownBlock = some k → k ≠ W.heap.size := fun ho k hk => Nat.ne_of_lt (own_lt ho k hk)
  have fin : ∀ {v : Value} {xs : List Int} {ok : Nat → Prop}, W.ownsRow w0.heap.size 3 1 v xs.length (encs (Value.int .i64) xs) → (∀ k, v.ownBlock = some k → ok k) → Kd.R (Kd.int .i64) 3 (W.alloc (.cells #[.int .i64 n, .bool fah, .slice A0 J.length c0, .int .i64 tick, v1, v2, v3] 73)) w0.heap.size ok v xs := fun ho hok => Kd.R_alloc (Kd.R_of_own (h1 := fun _ => rfl) ho hok) _
  exact ⟨A0, c0, v1, v2, v3, heap_alloc_new W _, below_size hB, hC, fin o1 (fun k hk => ⟨lt o1 k hk, fun e => d12 k hk e.symm, fun e => d13 k hk e.symm⟩), fin o2 (fun k hk => ⟨lt o2 k hk, fun e => d12 k e.symm hk, fun e => d23 k hk e.symm⟩), fin o3 (fun k hk => ⟨lt o3 k hk, fun e => d13 k e.symm hk, fun e => d23 k e.symm hk⟩)⟩
theorem clone_rep (A : Option Addr) (c m : Nat) (x : Int) (W : World) (hC : Kd.C (Kd.int .i64) W A m (List.replicate m x)) (hm : m ≤ 20) (hc : m ≤ c) :
    Calls Try.prog 73 #[.slice A m c] W fun e w' => ∃ v0_ : Value, e = .returned v0_ ∧ Kd.R (Kd.int .i64) 3 w' W.heap.size (fun _ => True) v0_ (List.replicate m x) ∧ Below W.heap.size W w' := by
  have h := slices_Clone_int_int.calls A c (List.replicate m x) (List.replicate m x) W
  rw [List.length_replicate] at h
  exact h hC hc (by unfold slices_Clone_int_int.f; rw [if_pos (by rw [List.length_replicate]; omega)])
theorem own_base_ne {e : Nat} {W : World} {b : Nat} {ok : Nat → Prop} {v : Value} {xs : List Int} (h : Kd.R (Kd.int .i64) e W b ok v xs) (k : Nat) (hk : v.ownBlock = some k) : b ≤ k ∧ k < W.heap.size := ⟨own_base (Kd.own_of_R h) k hk, own_lt (Kd.own_of_R h) k hk⟩
theorem IsT.newA {w0 W W9 : World} {A0 : Option Addr} {c0 n : Nat} {fah : Bool} {J : List (S30)} {v2 v9 : Value} {fi re : List Int} (hC : Kd.C k30 w0 A0 J.length J) (hB : Below w0.heap.size w0 W) (hn : n ≤ 100) (h2 : Kd.R (Kd.int .i64) 3 W w0.heap.size (fun _ => True) v2 fi)
    (h9 : Kd.R (Kd.int .i64) 3 W9 (W.alloc (.cells (madeCells #[.int .i64 0] n) 3)).drew.heap.size (fun _ => True) v9 re) (hb : Below (W.alloc (.cells (madeCells #[.int .i64 0] n) 3)).drew.heap.size (W.alloc (.cells (madeCells #[.int .i64 0] n) 3)).drew W9) :
    IsT w0 (W9.alloc (.cells #[.int .i64 (n : Int), .bool fah, .slice A0 J.length c0, .int .i64 0, .slice (some ⟨W.heap.size, 0, none⟩) n n, v2, v9] 73)) W9.heap.size (n : Int) fah 0 J (List.replicate n 0) fi re := by
  have hsz : (W.alloc (.cells (madeCells #[.int .i64 0] n) 3)).heap.size = W.heap.size + 1 := by simp
  have ho := own_made W w0.heap.size 3 .i64 n (below_size hB) (by omega)
  have r1 : Kd.R (Kd.int .i64) 3 (W.alloc (.cells (madeCells #[.int .i64 0] n) 3)) w0.heap.size (fun _ => True) (.slice (some ⟨W.heap.size, 0, none⟩) n n) (List.replicate n 0) := Kd.R_of_own (h1 := fun _ => rfl) (by rw [List.length_replicate]; exact ho) (fun _ _ => trivial)
  have hsd : (W.alloc (.cells (madeCells #[.int .i64 0] n) 3)).drew.heap.size = W.heap.size + 1 := hsz
  rw [hsd] at h9
  have l0 := below_size hB
  refine IsT.new hC (below_step (below_drew1 (below_alloc hB _)) hb) (Kd.R_below (Kd.R_drew r1) hb) (Kd.R_below (Kd.R_drew (Kd.R_alloc h2 _)) hb) (Kd.R_lower h9 (by omega)) ?_ ?_ ?_
  · intro k hk e
    cases hk
    have h7 : W.heap.size < W.heap.size := (own_base_ne h2 _ e).2
    omega
  · intro k hk e
    cases hk
    have := (own_base_ne h9 _ e).1
    have h7 : (W.heap.size + 1) ≤ W.heap.size := this
    omega
  · intro k hk e
    have p := (own_base_ne h2 _ hk).2
    have q := (own_base_ne h9 _ e).1
    omega
theorem IsT.newB {w0 W W9 : World} {A0 : Option Addr} {c0 n : Nat} {fah : Bool} {J : List (S30)} {v2 v9 : Value} {fi re : List Int} (hC : Kd.C k30 w0 A0 J.length J) (hB : Below w0.heap.size w0 W) (hn : n ≤ 100) (h2 : Kd.R (Kd.int .i64) 3 W w0.heap.size (fun _ => True) v2 fi)
    (h9 : Kd.R (Kd.int .i64) 3 W9 W.drew.heap.size (fun _ => True) v9 re) (hb : Below W.drew.heap.size W.drew W9) :
    IsT w0 ((W9.alloc (.cells (madeCells #[.int .i64 0] n) 3)).alloc (.cells #[.int .i64 (n : Int), .bool fah, .slice A0 J.length c0, .int .i64 0, .slice (some ⟨W9.heap.size, 0, none⟩) n n, v2, v9] 73)) (W9.heap.size + 1) (n : Int) fah 0 J (List.replicate n 0) fi re := by
  have hsz : (W9.alloc (.cells (madeCells #[.int .i64 0] n) 3)).heap.size = W9.heap.size + 1 := by simp
  have hB9 := below_step (below_drew1 hB) hb
  have hsd : W.drew.heap.size = W.heap.size := rfl
  rw [hsd] at h9
  have ho := own_made W9 w0.heap.size 3 .i64 n (below_size hB9) (by omega)
  have r1 : Kd.R (Kd.int .i64) 3 (W9.alloc (.cells (madeCells #[.int .i64 0] n) 3)) w0.heap.size (fun _ => True) (.slice (some ⟨W9.heap.size, 0, none⟩) n n) (List.replicate n 0) := Kd.R_of_own (h1 := fun _ => rfl) (by rw [List.length_replicate]; exact ho) (fun _ _ => trivial)
  have l9 : W.heap.size ≤ W9.heap.size := hb.size
  have l0 := below_size hB
  have h := IsT.new (tick := 0) (n := (n : Int)) (fah := fah) (c0 := c0) hC (below_alloc hB9 (.cells (madeCells #[.int .i64 0] n) 3)) r1 (Kd.R_alloc (Kd.R_below (Kd.R_drew h2) hb) _) (Kd.R_alloc (Kd.R_lower h9 l0) _) ?_ ?_ ?_
  · rw [hsz] at h
    exact h
  · intro k hk e
    cases hk
    have h7 := (own_base_ne h2 _ e).2
    have h8 : W9.heap.size < W.heap.size := h7
    omega
  · intro k hk e
    cases hk
    have h7 := (own_base_ne h9 _ e).2
    have h8 : W9.heap.size < W9.heap.size := h7
    omega
  · intro k hk e
    have p := (own_base_ne h2 _ hk).2
    have q := (own_base_ne h9 _ e).1
    omega
set_option maxHeartbeats 16000000 in
set_option maxRecDepth 100000 in
theorem newSlotter_calls (A0 : Option Addr) (c0 n : Nat) (fah : Bool) (J : List (S30)) (w0 w : World) (hC : Kd.C k30 w0 A0 J.length J) (hB : Below w0.heap.size w0 w) (hn : 2 ≤ n ∧ n ≤ 12) (hj : J.length ≤ 20) :
    Calls Try.prog 61 #[.agg #[.int .i64 (n : Int), .bool fah], .slice A0 J.length c0] w fun e w' => ∃ g, e = .returned (.pointer (some ⟨g, 0, none⟩)) ∧ IsT w0 w' g (n : Int) fah 0 J (slInit n J.length).1 (slInit n J.length).2.1 (slInit n J.length).2.2 ∧ Below w0.heap.size w0 w' := by
  have HC := Aside0.mk hC
  have HB := Aside0.mk hB
  have HN := Aside0.mk hn
  have HJ := Aside0.mk hj
  have HREP := Aside0.mk (show slices_Repeat_int_int.f [-1] (J.length : Int) = some (List.replicate J.length (-1)) by unfold slices_Repeat_int_int.f; simp only; rw [if_pos (by omega), Int.toNat_natCast])
  have HCL := Aside0.mk (show slices_Clone_int_int.f (List.replicate J.length (-1)) = some (List.replicate J.length (-1)) by unfold slices_Clone_int_int.f; rw [if_pos (by rw [List.length_replicate]; omega)])
  have hmk := print_make (P := Try.prog) 46 3 .i64 8 Try.underlying46 info3 (by omega) n (by omega)
  clear hC hB hn hj
  go_enter Try.func61, Try.ntmps61
  go_upto_region 1 with (first | ((with_reducible refine gate_dst (N := 2) rfl ?_); refine box_event ?hg (N := 2) ?hd (cs := #[.int .i64 (n : Int), .bool fah]) (t := 28) ?hr ?_; (case hd => rfl); (case hg => rfl); (case hr => first | (go_simp; done) | (go_simp; rfl)); intro b hg w3 hbox hb; have HB3 := Aside0.mk (below_step (by repeat (first | (with_reducible first | exact HB.out | apply below_alloc | apply pw_below_drewN | apply below_drew1) | exact HB.out)) hb); clear HB; have HB := HB3; clear HB3; have hk0 : w3.cell? ⟨b, 0, none⟩ = some (.int .i64 (n : Int)) := (blk_cell hbox 0).trans rfl; have hk1 : w3.cell? ⟨b, 1, none⟩ = some (.bool fah) := (blk_cell hbox 1).trans rfl; clear hg hb hbox))
  have HK0 := Aside0.mk hk0
  have HK1 := Aside0.mk hk1
  have HB1 := Aside0.mk (below_alloc HB.out (.cells #[.int .i64 (-1)] 3))
  have HC1 := Aside0.mk (show Kd.C (Kd.int .i64) (w3.alloc (.cells #[.int .i64 (-1)] 3)) (some ⟨w3.heap.size, 0, none⟩) [(-1 : Int)].length [-1] from (Kd.R_reads' (Kd.R_of_own (h1 := fun _ => rfl) (ok := fun _ => True) (own_lit w3 0 3 .i64 [-1] (Nat.zero_le _) (by simp)) (fun _ _ => trivial))).2.2)
  have HK0b := Aside0.mk (pw_cell_below (below_alloc (Below.refl _ _) (.cells #[.int .i64 (-1)] 3)) hk0)
  have HK1b := Aside0.mk (pw_cell_below (below_alloc (Below.refl _ _) (.cells #[.int .i64 (-1)] 3)) hk1)
  clear hk0 hk1
  go_upto_region 2 with (first | (go_at_call 72; (with_reducible refine (slices_Repeat_int_int.calls (some ⟨w3.heap.size, 0, none⟩) 1 [-1] (J.length : Int) (List.replicate J.length (-1)) _ ?s1 (Nat.le_refl _) HREP.out).mono ?_); (case s1 => repeat (first | exact HC1.out | (with_reducible refine Kd.C_alloc ?_ _) | (with_reducible refine Kd.C_drewN ?_ _) | (with_reducible refine Kd.C_drew ?_))); rintro e w6 ⟨v5, rfl, ho, hb⟩; have HR5 := Aside0.mk (Kd.R_lower ho (below_size (by repeat (first | (with_reducible first | exact HB1.out | apply below_alloc | apply pw_below_drewN | apply below_drew1) | exact HB1.out)))); have HB6 := Aside0.mk (below_step (by repeat (first | (with_reducible first | exact HB1.out | apply below_alloc | apply pw_below_drewN | apply below_drew1) | exact HB1.out)) hb); have hk0 := pw_cell_below hb HK0b.out; have hk1 := pw_cell_below hb HK1b.out; clear HB HB1 HK0b HK1b HC1 ho hb; have HB := HB6; clear HB6; obtain ⟨A5, c5, e5⟩ := Kd.R_slice HR5.out; rw [List.length_replicate] at e5; subst e5) | ((with_reducible refine gate_callee (f := 72) rfl ?_); refine goesL_ (some 9) rfl rfl Try.func72 (by kernel_rfl) rfl #[.slice (some ⟨w3.heap.size, 0, none⟩) [(-1 : Int)].length 1, .int .i64 (J.length : Int)] rfl (by (try simp only [List.map_toArray, List.map_cons, List.map_nil]); first | done | rfl) ?_; (with_reducible refine (slices_Repeat_int_int.calls (some ⟨w3.heap.size, 0, none⟩) 1 [-1] (J.length : Int) (List.replicate J.length (-1)) _ ?s1 (Nat.le_refl _) HREP.out).mono ?_); (case s1 => repeat (first | exact HC1.out | (with_reducible refine Kd.C_alloc ?_ _) | (with_reducible refine Kd.C_drewN ?_ _) | (with_reducible refine Kd.C_drew ?_))); rintro e w6 ⟨v5, rfl, ho, hb⟩; have HR5 := Aside0.mk (Kd.R_lower ho (below_size (by repeat (first | (with_reducible first | exact HB1.out | apply below_alloc | apply pw_below_drewN | apply below_drew1) | exact HB1.out)))); have HB6 := Aside0.mk (below_step (by repeat (first | (with_reducible first | exact HB1.out | apply below_alloc | apply pw_below_drewN | apply below_drew1) | exact HB1.out)) hb); have hk0 := pw_cell_below hb HK0b.out; have hk1 := pw_cell_below hb HK1b.out; clear HB HB1 HK0b HK1b HC1 ho hb; have HB := HB6; clear HB6; obtain ⟨A5, c5, e5⟩ := Kd.R_slice HR5.out; rw [List.length_replicate] at e5; subst e5; refine ⟨_, rfl, ?_⟩))
  have HC5 := Aside0.mk (show Kd.C (Kd.int .i64) w6 A5 J.length (List.replicate J.length (-1)) from by have h9 := (Kd.R_reads' HR5.out).2.2; rw [List.length_replicate] at h9; exact h9)
  have HC6 := Aside0.mk (show J.length ≤ c5 from by have h9 := (Kd.R_reads' HR5.out).2.1; first | exact h9 | (rw [List.length_replicate] at h9; exact h9) | (simp at h9; exact h9))
  have hn0 := World.new_ne w6 ⟨b, 0, none⟩ hk0
  have hn1 := World.new_ne w6 ⟨b, 1, none⟩ hk1
  clear HK0 HK1
  go_cut [4] (fun v4 wc => ∃ g, v4 = .pointer (some ⟨g, 0, none⟩) ∧ Aside0 (IsT w0 wc g (n : Int) fah 0 J (List.replicate n 0) (List.replicate J.length (-1)) (List.replicate J.length (-1))) ∧ Aside0 (Below w0.heap.size w0 wc))
  case first =>
    go_region_held3 (fun w' => w'.cell? ⟨b, 0, none⟩ = some (.int .i64 (n : Int)) ∧ w'.cell? ⟨b, 1, none⟩ = some (.bool fah)) (first | go_keep | (go_split_ands; exact ⟨HKA.out, HKB.out⟩)) ((first | (go_at_call 73; refine (clone_rep A5 c5 J.length (-1) _ ?c1 HJ.out HC6.out).mono ?_; (case c1 => repeat (first | exact HC5.out | (with_reducible refine Kd.C_alloc ?_ _) | (with_reducible refine Kd.C_drewN ?_ _) | (with_reducible refine Kd.C_drew ?_))); rintro e w9 ⟨v9, rfl, ho9, hb9⟩; obtain ⟨A9, c9, e9⟩ := Kd.R_slice ho9; rw [List.length_replicate] at e9; subst e9; have HO9 := Aside0.mk ho9; have HB9 := Aside0.mk hb9; have HBW := Aside0.mk (below_step (show Below w6.heap.size w6 _ from by repeat (first | (with_reducible exact Below.refl _ _) | apply below_alloc | apply pw_below_drewN | apply below_drew1)) hb9); have HKA := Aside0.mk (pw_cell_below HBW.out hk0); have HKB := Aside0.mk (pw_cell_below HBW.out hk1); clear ho9 hb9)))
    all_goals (try go_wp2_with fail)
    all_goals go_meet
    · exact ⟨_, rfl, ⟨IsT.newA HC.out HB.out (by have := HN.out; omega) HR5.out HO9.out HB9.out⟩, ⟨below_alloc (below_step (below_drew1 (below_alloc HB.out _)) HB9.out) _⟩⟩
    · exact ⟨_, rfl, ⟨IsT.newB HC.out HB.out (by have := HN.out; omega) HR5.out HO9.out HB9.out⟩, ⟨below_alloc (below_alloc (below_step (below_drew1 HB.out) HB9.out) _) _⟩⟩
  case rest =>
    clear hk0 hk1 hn0 hn1 HB hmk
    obtain ⟨g, rfl, HI, HB⟩ := hcut
    go_wp2
    go_ret
    exact ⟨g, rfl, HI.out, HB.out⟩

end Go.Proofs.Ytgkbeejkbhhjkaa.X
