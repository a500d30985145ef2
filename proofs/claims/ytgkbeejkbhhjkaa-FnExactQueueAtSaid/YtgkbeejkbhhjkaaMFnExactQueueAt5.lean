/- Several texts of this session in one: X26. -/
import Derived.Test.YtgkbeejkbhhjkaaMFnExactQueueAt0
import Derived.Test.YtgkbeejkbhhjkaaMFnExactQueueAt3
import Derived.Test.YtgkbeejkbhhjkaaMFnExactQueueAt4
/- What the functions of the program come to, and that they do: written by this session's program wip/xprint.py out of the translation; parts named extern are typed by hand. -/
namespace Go.Proofs.Ytgkbeejkbhhjkaa.X
open Go.RowKit Go.Proofs.YtgkbeejkbhhjkaaW.PrintWords Go.Proofs.YtgkbeejkbhhjkaaW.PrintLast Go.Proofs.YtgkbeejkbhhjkaaW.PrintMore
attribute [local go_sem] max2_int min2_int max_two min_two max_three min_three max_four min_four   -- for this text's walks alone
set_option linter.unusedVariables false
set_option linter.unusedSimpArgs false

/-! ### spec_slRun_tick: function 58 -/
/- EXTERN, by hand (wip/hand/slotall.py): a tick of the reference's ring. -/
theorem IsR.q {w0 W : World} {g : Nat} {n : Int} {fah : Bool} {msgs : List (S30)} {sl fi re : List Int} (h : IsR w0 W g n fah msgs sl fi re) (hb : Below w0.heap.size w0 W) : IsS68 W W g n fah msgs sl fi re := by
  obtain ⟨A0, c0, v1, v2, v3, h1, h2, h3, h4, h5, h6⟩ := h
  obtain ⟨A1, c1, e1⟩ := Kd.R_slice h4
  obtain ⟨A2, c2, e2⟩ := Kd.R_slice h5
  obtain ⟨A3, c3, e3⟩ := Kd.R_slice h6
  subst e1 e2 e3
  exact ⟨A0, c0, A1, c1, A2, c2, A3, c3, h1, trivial, Kd.C_below h3 hb, (Kd.R_reads' h4).2.2, (Kd.R_reads' h5).2.2, (Kd.R_reads' h6).2.2⟩
theorem IsR.job {w0 W : World} {g : Nat} {n : Int} {fah : Bool} {msgs : List (S30)} {sl fi re : List Int} (h : IsR w0 W g n fah msgs sl fi re) {b : Nat} {cs : Array Value} (hb : W.heap[b]? = some (.cells cs 30 (0, 0))) (i : Nat) (x : Value) : IsR w0 (W.setCell ⟨b, i, none⟩ x) g n fah msgs sl fi re := by
  obtain ⟨A0, c0, v1, v2, v3, h1, h2, h3, h4, h5, h6⟩ := h
  have nb : b ≠ g := fun e => by rw [e] at hb; rw [h1] at hb; cases hb
  have f1 := Kd.R_types h4 hb (fun q hq => by simp [Kd.int, Kd.scalar] at hq; omega)
  have f2 := Kd.R_types h5 hb (fun q hq => by simp [Kd.int, Kd.scalar] at hq; omega)
  have f3 := Kd.R_types h6 hb (fun q hq => by simp [Kd.int, Kd.scalar] at hq; omega)
  exact ⟨A0, c0, v1, v2, v3, blk_far h1 (Ne.symm nb) _, h2, h3, Kd.R_mono (Kd.R_far (p := ⟨b, i, none⟩) f1 (fun k hk => hk.2) _) (fun k hk => hk.1), Kd.R_mono (Kd.R_far (p := ⟨b, i, none⟩) f2 (fun k hk => hk.2) _) (fun k hk => hk.1), Kd.R_mono (Kd.R_far (p := ⟨b, i, none⟩) f3 (fun k hk => hk.2) _) (fun k hk => hk.1)⟩
/-- What the printed 'next' comes to. -/
theorem next_from (J : List (S30)) (n : Int) (fah : Bool) (sl fi re : List Int) (a t : Int) (hJ : J.length ≤ 20) (hf : fi.length = J.length) : ∀ d m : Nat, m + d = J.length → slNext J t fi a m = -1 → ∀ k, d < k → spec_slRun_next.l0 k a t J (J.length : Int) (m : Int) n fah J sl fi re = some (slNext J t fi a J.length, n, fah)
  | 0, m, hm, h0, k, hk => by
    obtain ⟨k, rfl⟩ : ∃ x, k = x + 1 := ⟨k - 1, by omega⟩
    obtain rfl : m = J.length := by omega
    simp only [spec_slRun_next.l0]
    rw [if_neg (by omega), h0]
  | d + 1, m, hm, h0, k, hk => by
    obtain ⟨k, rfl⟩ : ∃ x, k = x + 1 := ⟨k - 1, by omega⟩
    have ih := next_from J n fah sl fi re a t hJ hf d (m + 1) (by omega)
    simp only [spec_slRun_next.l0]
    rw [if_pos (by omega), if_pos (by omega), if_pos (by omega), wrapS (by omega) (by omega), if_pos (show (m : Int) < (fi.length : Int) by omega)]
    have e1 : slNext J t fi a (m + 1) = if slWaits J t fi a m = true then (m : Int) else -1 := by rw [slNext, h0, if_neg (by omega)]
    by_cases w : slWaits J t fi a m = true
    · rw [if_pos w] at e1
      have e2 : slNext J t fi a J.length = (m : Int) := by
        have : ∀ e, slNext J t fi a (m + 1 + e) = (m : Int) := by
          intro e
          induction e with
          | zero => exact e1
          | succ e ih => rw [← Nat.add_assoc, slNext, ih, if_pos (by omega)]
        have h9 := this d
        rwa [show m + 1 + d = J.length by omega] at h9
      unfold slWaits at w
      simp only [Bool.and_eq_true, decide_eq_true_eq] at w
      rw [if_pos w.1, if_pos w.2.1, if_pos w.2.2, e2]
    · rw [if_neg w] at e1
      have h9 := ih e1 k (by omega)
      rw [show ((m + 1 : Nat) : Int) = (m : Int) + 1 by omega] at h9
      unfold slWaits at w
      simp only [Bool.and_eq_true, decide_eq_true_eq] at w
      by_cases w1 : (rd_T30 J (m : Int)).f1 = a
      · rw [if_pos w1]
        by_cases w2 : (rd_T30 J (m : Int)).f0 ≤ t
        · rw [if_pos w2, if_neg (fun e => w ⟨w1, w2, e⟩)]
          exact h9
        · rw [if_neg w2]
          exact h9
      · rw [if_neg w1]
        exact h9
theorem next_q (g : Nat) (n : Int) (fah : Bool) (J : List (S30)) (sl fi re : List Int) (a t : Int) (w0 w : World) (hI : IsR w0 w g n fah J sl fi re) (hB : Below w0.heap.size w0 w) (hj : J.length ≤ 20) (hf : fi.length = J.length) :
    Calls Try.prog 71 #[.pointer (some ⟨g, 0, none⟩), .int .i64 a, .int .i64 t] w fun e w' => e = .returned (.int .i64 (slNext J t fi a J.length)) ∧ IsR w0 w' g n fah J sl fi re ∧ Below w0.heap.size w0 w' :=
  (spec_slRun_next.calls 30 g n fah J sl fi re a t _ _ _ w w (hI.q hB) (Below.refl _ _) (next_from J n fah sl fi re a t hj hf J.length 0 (by omega) rfl 30 (by omega))).mono (by rintro e w' ⟨rfl, _, hb, _⟩; exact ⟨rfl, hI.below hb, below_step hB hb⟩)
set_option maxHeartbeats 16000000 in
set_option maxRecDepth 100000 in
theorem tick_calls (g n : Nat) (fah : Bool) (J : List (S30)) (s : SlSt) (t : Int) (w0 w : World) (hI : IsR w0 w g (n : Int) fah J s.1 s.2.1 s.2.2) (hB : Below w0.heap.size w0 w) (hn : 0 < n ∧ n ≤ 100) (hj : J.length ≤ 20) (ht : 0 ≤ t ∧ t ≤ 100000) (hinv0 : SlInv n J.length s) :
    Calls Try.prog 58 #[.pointer (some ⟨g, 0, none⟩), .int .i64 t] w fun e w' => e = .returned (.tuple #[]) ∧ IsR w0 w' g (n : Int) fah J (slTo J fah t n s n).1 (slTo J fah t n s n).2.1 (slTo J fah t n s n).2.2 ∧ Below w0.heap.size w0 w' := by
  have hu30 := Try.underlying30
  have HI := Aside0.mk hI
  have HB := Aside0.mk hB
  have HN := Aside0.mk hn
  have HT := Aside0.mk ht
  have HJ := Aside0.mk hj
  have HV := Aside0.mk (fun m (hm : m ≤ n) => slTo_inv (J := J) (fah := fah) ht.1 hinv0 m hm)
  have HL := Aside0.mk hinv0.1
  have hl : s.1.length = n := hinv0.1
  obtain ⟨A0, c0, v1, v2, v3, r, c, e1, h1, _⟩ := hI.row1 (by omega)
  have hc0 : w.cell? ⟨g, 0, none⟩ = some (.int .i64 (n : Int)) := (blk_cell h1 0).trans rfl
  have hc3 : w.cell? ⟨g, 3, none⟩ = some (.slice (some ⟨r, 0, none⟩) s.1.length c) := by rw [← e1]; exact (blk_cell h1 3).trans rfl
  clear h1 hI hB hn hj ht hl e1 hinv0
  go_enter Try.func58, Try.ntmps58
  go_wp2
  go_loopg [21] (n + 1) (fun kq v21 w' => ∃ m : Nat, kq + m = n + 1 ∧ m ≤ n ∧ v21 = .int .i64 (m : Int) ∧ Aside0 (IsR w0 w' g (n : Int) fah J (slTo J fah t n s m).1 (slTo J fah t n s m).2.1 (slTo J fah t n s m).2.2) ∧ Aside0 (Below w0.heap.size w0 w'))
  case atStart => exact ⟨0, by omega, by omega, rfl, HI, HB⟩
  case round =>
    clear HI HB hc0 hc3
    obtain ⟨m, hkm, hmn, rfl, HI, HB⟩ := hrel
    obtain ⟨⟨sl, fi, re⟩, hs⟩ : ∃ x, slTo J fah t n s m = x := ⟨_, rfl⟩
    rw [hs] at HI
    dsimp only at HI
    by_cases hm : m < n
    · have hlen : sl.length = n := by have h9 := slTo_len J fah t n s m; rw [hs] at h9; have := HL.out; dsimp only at h9; omega
      obtain ⟨A0, c0, v1, v2, v3, r, c, e1, h1, hJC, hr, _, hx1, hf1, hset1⟩ := HI.out.row1 (by omega)
      have HJC := Aside0.mk hJC
      have hk1 := hx1 m (by omega)
      have hc0 : wr.cell? ⟨g, 0, none⟩ = some (.int .i64 (n : Int)) := (blk_cell h1 0).trans rfl
      have hc1 : wr.cell? ⟨g, 1, none⟩ = some (.bool fah) := (blk_cell h1 1).trans rfl
      have hc2 : wr.cell? ⟨g, 2, none⟩ = some (.slice A0 J.length c0) := (blk_cell h1 2).trans rfl
      have hc3 : wr.cell? ⟨g, 3, none⟩ = some (.slice (some ⟨r, 0, none⟩) n c) := by rw [← hlen, ← e1]; exact (blk_cell h1 3).trans rfl
      have hb1 : decide ((m : Int) < (s.1.length : Int)) = true := decide_eq_true (by have := HL.out; omega)
      have hb2 : decide (m < s.1.length) = true := decide_eq_true (by have := HL.out; omega)
      have hw1 : wrap64 ((m : Int) + t) = (m : Int) + t := wrapS (by have := HT.out; omega) (by have := HT.out; have := HN.out; omega)
      have hz1 : ((n : Int) == 0) = false := beq_eq_false_iff_ne.mpr (by have := HN.out; omega)
      have hz2 : ((n : Int) = 0) = False := eq_false (by have := HN.out; omega)
      have hz3 : (n = 0) = False := eq_false (by have := HN.out; omega)
      have hm1 : ((0 : Int) ≤ (m : Int)) = True := eq_true (by omega)
      have hm2 : ((m : Int) < (n : Int)) = True := eq_true (by omega)
      have hm3 : (m < n) = True := eq_true hm
      clear h1 hx1 hf1 hset1 hr e1 hJC
      obtain ⟨v, hv⟩ : ∃ v, rd sl (m : Int) = v := ⟨_, rfl⟩
      rw [hv] at hk1
      have hinv := HV.out m hmn
      rw [hs] at hinv
      obtain ⟨hi1, hi2, hi3, hi4, _, _⟩ := hinv
      dsimp only at hi1 hi2 hi3 hi4
      have hvr := hi4 m hm
      rw [hv] at hvr
      obtain ⟨a, ha⟩ : ∃ a, Int.tmod ((m : Int) + t) (n : Int) = a := ⟨_, rfl⟩
      obtain ⟨x, hxe⟩ : ∃ x, slNext J t fi a J.length = x := ⟨_, rfl⟩
      have hone : slTo J fah t n s (m + 1) = slOne J fah t m a (sl, fi, re) := by show slOne J fah t m _ (slTo J fah t n s m) = _; rw [hs, ha]
      clear hi4
      obtain ⟨y, hy⟩ : ∃ y, v - 1 = y := ⟨_, rfl⟩
      have hw8 : IntKind.i64.wrap (v - 1) = y := by rw [IntKind.wrap_i64, ← hy]; have := HJ.out; omega
      have HY := Aside0.mk hy
      have HSI := Aside0.mk (And.intro hi1 (And.intro hi2 hi3))
      have HVR := Aside0.mk hvr
      have HONE := Aside0.mk hone
      have HV0 := Aside0.mk hv
      have HXE := Aside0.mk hxe
      have HA := Aside0.mk ha
      have HMN := Aside0.mk hm
      have HKM := Aside0.mk hkm
      have HLEN := Aside0.mk hlen
      clear hy hone hv hxe ha hm hkm hlen hi1 hi2 hi3 hvr hmn
      go_upto_region 6 with (fail)
      rw [HA.out]
      go_upto_if 38 with (fail)
      clear hw1 hw8
      go_cut [7] (fun v7 wc => v7 = .bool (slFreed J fah re a v) ∧ Aside0 (IsR w0 wc g (n : Int) fah J (sl.set m (slLeft J fah re a v)) fi (slRe J t re a v)) ∧ Aside0 (Below w0.heap.size w0 wc))
      case first =>
        by_cases cv : 1 ≤ v
        · have hvb : decide (0 ≤ y) = true := decide_eq_true (by have := HY.out; omega)
          obtain ⟨j, hj⟩ : ∃ j : Nat, v = (j : Int) + 1 := ⟨(v - 1).toNat, by omega⟩
          obtain rfl : y = (j : Int) := by have := HY.out; omega
          have hjl : j < J.length := by have := HVR.out; omega
          have HJL := Aside0.mk hjl
          have HVJ := Aside0.mk hj
          have hp : 0 ≤ (j : Int) := by omega
          have hq : (j : Int) < (J.length : Int) := by omega
          obtain ⟨ad, e1, hx0, hx1, hx2⟩ := at_T30 HJC.out (j : Int) hp hq
          cases e1
          simp only [Int.toNat_natCast] at hx0 hx1 hx2
          replace hx0 := pw_cell_below HB.out hx0
          replace hx1 := pw_cell_below HB.out hx1
          replace hx2 := pw_cell_below HB.out hx2
          replace hp := eq_true hp
          replace hq := eq_true hq
          have hq2 := eq_true hjl
          clear cv hj hjl
          go_upto_region 8 with (fail)
          go_cut [9] (fun v9 wc => ∃ b, v9 = .pointer (some ⟨b, 0, none⟩) ∧ Aside0 (wc.heap[b]? = some (.cells #[.int .i64 (rd_T30 J (j : Int)).f0, .int .i64 (rd_T30 J (j : Int)).f1, .int .i64 (rd_T30 J (j : Int)).f2] 30 (0, 0))) ∧ Aside0 (IsR w0 wc g (n : Int) fah J sl fi re) ∧ Aside0 (Below w0.heap.size w0 wc) ∧ Aside0 (w0.heap.size ≤ b))
          case first =>
            go_wp2_with (first | ((with_reducible refine gate_dst (N := 9) rfl ?_); refine box_event ?hg (N := 9) ?hd (cs := #[.int .i64 0, .int .i64 0, .int .i64 0]) (t := 30) ?hr ?_; (case hd => rfl); (case hg => rfl); (case hr => first | (go_simp; done) | (go_simp; rfl)); intro b hg w13 hbox hb; have HI3 := Aside0.mk (IsR.below (by repeat (first | exact HI.out | apply IsR.drewN | apply IsR.drew)) hb); have HB3 := Aside0.mk (below_step (by repeat (first | exact HB.out | apply pw_below_drewN | apply below_drew1)) hb); have HBX := Aside0.mk hbox; have HGE := Aside0.mk (show w0.heap.size ≤ b by rw [hg]; exact (below_size (by repeat (first | exact HB.out | apply pw_below_drewN | apply below_drew1)))); clear hg hbox hb; have hk0 : w13.cell? ⟨b, 0, none⟩ = some (.int .i64 0) := (blk_cell HBX.out 0).trans rfl; have hk1 : w13.cell? ⟨b, 1, none⟩ = some (.int .i64 0) := (blk_cell HBX.out 1).trans rfl; have hk2 : w13.cell? ⟨b, 2, none⟩ = some (.int .i64 0) := (blk_cell HBX.out 2).trans rfl; have hf0 := blk_frozen HBX.out 0; have hf1 := blk_frozen HBX.out 1; have hf2 := blk_frozen HBX.out 2))
            go_meet
            refine ⟨b, rfl, ⟨?_⟩, ⟨?_⟩, ⟨?_⟩, HGE⟩
            · have h9 := blk_set (blk_set (blk_set HBX.out 0 (.int .i64 (rd_T30 J (j : Int)).f0)) 1 (.int .i64 (rd_T30 J (j : Int)).f1)) 2 (.int .i64 (rd_T30 J (j : Int)).f2)
              first | exact h9 | simpa using h9
            · have h9 := ((HI3.out.job HBX.out 0 (.int .i64 (rd_T30 J (j : Int)).f0)).job (blk_set HBX.out 0 (.int .i64 (rd_T30 J (j : Int)).f0)) 1 (.int .i64 (rd_T30 J (j : Int)).f1)).job (blk_set (blk_set HBX.out 0 (.int .i64 (rd_T30 J (j : Int)).f0)) 1 (.int .i64 (rd_T30 J (j : Int)).f1)) 2 (.int .i64 (rd_T30 J (j : Int)).f2)
              first | exact h9 | simpa using h9
            · exact ((HB3.out.setCell (p := ⟨b, 0, none⟩) HGE.out _).setCell (p := ⟨b, 1, none⟩) HGE.out _).setCell (p := ⟨b, 2, none⟩) HGE.out _
          case rest =>
            clear HI HB hx0 hx1 hx2 hk1 hc0 hc1 hc2 hc3
            obtain ⟨b, rfl, HBX, HI, HB, HGE⟩ := hcut
            have hk1 : wc.cell? ⟨b, 1, none⟩ = some (.int .i64 (rd_T30 J (j : Int)).f1) := (blk_cell HBX.out 1).trans rfl
            have hk2 : wc.cell? ⟨b, 2, none⟩ = some (.int .i64 (rd_T30 J (j : Int)).f2) := (blk_cell HBX.out 2).trans rfl
            have hjr : j < re.length := by have := HSI.out; have := HJL.out; omega
            obtain ⟨_, _, v1b, v2b, v3b, r3, c3, e1, h1, _, hr3, ⟨_, hty3⟩, hx3, hf3, hset3⟩ := HI.out.row3 (by omega)
            have hc1 : wc.cell? ⟨g, 1, none⟩ = some (.bool fah) := (blk_cell h1 1).trans rfl
            have hc5 : wc.cell? ⟨g, 5, none⟩ = some (.slice (some ⟨r3, 0, none⟩) re.length c3) := by rw [← e1]; exact (blk_cell h1 5).trans rfl
            have hk5 := hx3 j hjr
            have hfz := hf3 j
            have hp : (0 ≤ (j : Int)) = True := eq_true (by omega)
            have hq : ((j : Int) < (re.length : Int)) = True := eq_true (by omega)
            have hq2 : (j < re.length) = True := eq_true hjr
            have HS3 := Aside0.mk hset3
            have HR3 := Aside0.mk hr3
            have HNB := Aside0.mk (show b ≠ r3 from blk_ne HBX.out hty3 (by decide))
            have HJR := Aside0.mk hjr
            have hng1 : (g = r3) = False := eq_false (blk_ne h1 hty3 (by decide))
            have hng2 : (r3 = g) = False := eq_false (Ne.symm (blk_ne h1 hty3 (by decide)))
            clear h1 hx3 hf3 hset3 hr3 e1 hjr hty3
            obtain ⟨hit, hhit⟩ : ∃ q, slHit J re a v = q := ⟨_, rfl⟩
            have HHIT := Aside0.mk hhit
            have HHIT2 := Aside0.mk (show (decide ((rd_T30 J (j : Int)).f2 = a) && decide (rd re (j : Int) < 0)) = hit by rw [← slHit_at, ← HVJ.out, hhit])
            clear hhit
            go_upto_region 9 with (fail)
            go_cut [59] (fun v59 wd => v59 = .bool hit ∧ Aside0 (wd = wc))
            case first =>
              by_cases c1 : (rd_T30 J (j : Int)).f2 = a
              · have c1b : ((rd_T30 J (j : Int)).f2 == a) = true := beq_iff_eq.mpr c1
                have HC1 := Aside0.mk c1
                by_cases c2 : rd re (j : Int) < 0
                · have c2b : decide (rd re (j : Int) < 0) = true := decide_eq_true c2
                  clear c1
                  go_wp2
                  go_meet
                  exact ⟨by rw [← HHIT2.out, HC1.out, c2b]; simp, ⟨rfl⟩⟩
                · have c2b : decide (rd re (j : Int) < 0) = false := decide_eq_false c2
                  clear c1
                  go_wp2
                  go_meet
                  exact ⟨by rw [← HHIT2.out, HC1.out, c2b]; simp, ⟨rfl⟩⟩
              · have c1b : ((rd_T30 J (j : Int)).f2 == a) = false := beq_eq_false_iff_ne.mpr c1
                have HC1 := Aside0.mk c1
                clear c1
                go_wp2
                go_meet
                exact ⟨by rw [← HHIT2.out, decide_eq_false HC1.out]; simp, ⟨rfl⟩⟩
            case rest =>
              obtain ⟨rfl, HWD⟩ := hcut
              obtain rfl := HWD.out
              clear HWD
              have HRE := Aside0.mk (show slRe J t re a v = if hit = true then re.set j t else re by unfold slRe; rw [HHIT.out, HVJ.out, show (j : Int) + 1 - 1 = (j : Int) by omega, Int.toNat_natCast])
              obtain ⟨fr1, hfr1⟩ : ∃ q, (hit && !fah) = q := ⟨_, rfl⟩
              have HFR1 := Aside0.mk hfr1
              clear hfr1
              go_upto_if 59 with (fail)
              go_cut [7] (fun v7 we => v7 = .bool fr1 ∧ Aside0 (IsR w0 we g (n : Int) fah J sl fi (slRe J t re a v)) ∧ Aside0 (Below w0.heap.size w0 we) ∧ Aside0 (we.heap[b]? = some (.cells #[.int .i64 (rd_T30 J (j : Int)).f0, .int .i64 (rd_T30 J (j : Int)).f1, .int .i64 (rd_T30 J (j : Int)).f2] 30 (0, 0))))
              case first =>
                cases hit with
                | true =>
                  rw [if_pos rfl] at HRE
                  go_wp2
                  go_meet
                  exact ⟨by rw [← HFR1.out]; simp, ⟨by rw [HRE.out]; exact HS3.out j t⟩, ⟨HB.out.setCell (p := ⟨r3, j, none⟩) HR3.out _⟩, ⟨blk_far HBX.out HNB.out _⟩⟩
                | false =>
                  rw [if_neg (by simp)] at HRE
                  go_wp2
                  go_meet
                  exact ⟨by rw [← HFR1.out]; simp, ⟨by rw [HRE.out]; exact HI.out⟩, HB, HBX⟩
              case rest =>
                clear HS3 HBX HI HB hk5 hfz hc1 hc5 hk1 hk2 hp hq hng1 hng2
                obtain ⟨rfl, HI, HB, HBX⟩ := hcut
                have hk1 : wc.cell? ⟨b, 1, none⟩ = some (.int .i64 (rd_T30 J (j : Int)).f1) := (blk_cell HBX.out 1).trans rfl
                have hlr : (slRe J t re a v).length = re.length := by unfold slRe; split <;> simp
                have hjr : j < (slRe J t re a v).length := by rw [hlr]; exact HJR.out
                obtain ⟨re1, hre1⟩ : ∃ y, slRe J t re a v = y := ⟨_, rfl⟩
                rw [hre1] at HI hjr
                obtain ⟨_, _, v1c, v2c, v3c, r4, c4, e1, h1, _, hr4, ⟨_, hty4⟩, hx4, hf4, hset4⟩ := HI.out.row3 (by omega)
                have hc1 : wc.cell? ⟨g, 1, none⟩ = some (.bool fah) := (blk_cell h1 1).trans rfl
                have hc5 : wc.cell? ⟨g, 5, none⟩ = some (.slice (some ⟨r4, 0, none⟩) re1.length c4) := by rw [← e1]; exact (blk_cell h1 5).trans rfl
                have hk5 := hx4 j hjr
                have hp : (0 ≤ (j : Int)) = True := eq_true (by omega)
                have hq : ((j : Int) < (re1.length : Int)) = True := eq_true (by omega)
                have hq2 : (j < re1.length) = True := eq_true hjr
                obtain ⟨hom, hhom⟩ : ∃ q, slHome J fah re a v = q := ⟨_, rfl⟩
                have HHOM := Aside0.mk hhom
                have HRE1 := Aside0.mk hre1
                have HHOM2 := Aside0.mk (show (fah && (decide ((rd_T30 J (j : Int)).f1 = a) && decide (0 ≤ rd re1 (j : Int)))) = hom by rw [← hre1, HVJ.out, ← slHome_at J fah t HT.out.1 re a j HJR.out, ← HVJ.out, hhom])
                clear h1 hx4 hf4 hset4 hr4 e1 hjr hty4 hlr hre1 hhom
                go_upto_region 12 with (fail)
                go_cut [93] (fun v93 wf => v93 = .bool hom ∧ Aside0 (wf = wc))
                case first =>
                  cases fah with
                  | false =>
                    go_wp2
                    go_meet
                    exact ⟨by rw [← HHOM2.out]; simp, ⟨rfl⟩⟩
                  | true =>
                    by_cases c1 : (rd_T30 J (j : Int)).f1 = a
                    · have c1b : ((rd_T30 J (j : Int)).f1 == a) = true := beq_iff_eq.mpr c1
                      have HC1 := Aside0.mk c1
                      by_cases c2 : 0 ≤ rd re1 (j : Int)
                      · have c2b : decide (0 ≤ rd re1 (j : Int)) = true := decide_eq_true c2
                        clear c1
                        go_wp2
                        go_meet
                        exact ⟨by rw [← HHOM2.out, HC1.out, c2b]; simp, ⟨rfl⟩⟩
                      · have c2b : decide (0 ≤ rd re1 (j : Int)) = false := decide_eq_false c2
                        clear c1
                        go_wp2
                        go_meet
                        exact ⟨by rw [← HHOM2.out, HC1.out, c2b]; simp, ⟨rfl⟩⟩
                    · have c1b : ((rd_T30 J (j : Int)).f1 == a) = false := beq_eq_false_iff_ne.mpr c1
                      have HC1 := Aside0.mk c1
                      clear c1
                      go_wp2
                      go_meet
                      exact ⟨by rw [← HHOM2.out, decide_eq_false HC1.out]; simp, ⟨rfl⟩⟩
                case rest =>
                  obtain ⟨rfl, HWF⟩ := hcut
                  obtain rfl := HWF.out
                  clear HWF hk5 hc5 hc1 hk1 hp hq hq2 HBX
                  obtain ⟨_, _, v1d, v2d, v3d, r5, c5, e1, h1, _, hr5, _, hx5, hf5, hset5⟩ := HI.out.row1 (by have := HLEN.out; have := HMN.out; omega)
                  have hc3 : wc.cell? ⟨g, 3, none⟩ = some (.slice (some ⟨r5, 0, none⟩) n c5) := by rw [← HLEN.out, ← e1]; exact (blk_cell h1 3).trans rfl
                  have hk3 := hx5 m (by have := HLEN.out; have := HMN.out; omega)
                  have hfz := hf5 m
                  have HS5 := Aside0.mk (hset5 m 0)
                  have HR5 := Aside0.mk hr5
                  have HFR := Aside0.mk (show slFreed J fah re a v = (hom || fr1) by unfold slFreed; rw [HHOM.out, HHIT.out, HFR1.out])
                  have HLE := Aside0.mk (slLeft_eq J fah re a v)
                  have hself : sl.set m v = sl := by
                    rw [← HV0.out]
                    have hm9 : m < sl.length := by have := HLEN.out; have := HMN.out; omega
                    have : rd sl (m : Int) = sl[m] := by simp [rd, List.getD_eq_getElem?_getD, List.getElem?_eq_getElem hm9]
                    rw [this, List.set_getElem_self]
                  have HSF := Aside0.mk hself
                  clear h1 hx5 hf5 hset5 hr5 e1 hself
                  cases hom with
                  | true =>
                    rw [Bool.true_or] at HFR
                    rw [HFR.out, if_pos rfl] at HLE
                    go_wp2
                    go_meet
                    rw [HFR.out, HLE.out, HRE1.out]
                    exact ⟨rfl, HS5, ⟨HB.out.setCell (p := ⟨r5, m, none⟩) HR5.out _⟩⟩
                  | false =>
                    rw [Bool.false_or] at HFR
                    cases fr1 with
                    | true =>
                      rw [HFR.out, if_pos rfl] at HLE
                      go_wp2
                      go_meet
                      rw [HFR.out, HLE.out, HRE1.out]
                      exact ⟨rfl, HS5, ⟨HB.out.setCell (p := ⟨r5, m, none⟩) HR5.out _⟩⟩
                    | false =>
                      rw [HFR.out, if_neg (by simp)] at HLE
                      go_wp2
                      go_meet
                      rw [HFR.out, HLE.out, HRE1.out, HSF.out]
                      exact ⟨rfl, HI, HB⟩
        · have hv0 : v = 0 := by have := HVR.out; omega
          obtain rfl : y = -1 := by have := HY.out; omega
          clear cv
          go_wp2
          go_meet
          subst hv0
          have e1 : slHit J re a 0 = false := rfl
          have e2 : slHome J fah re a 0 = false := rfl
          have e3 : slFreed J fah re a 0 = false := by unfold slFreed; rw [e1, e2]; rfl
          have e4 : slRe J t re a 0 = re := by unfold slRe; rw [e1]; rfl
          have e5 : slLeft J fah re a 0 = 0 := by rw [slLeft_eq, e3]; rfl
          have hself : sl.set m 0 = sl := by
            rw [← HV0.out]
            have hm9 : m < sl.length := by have := HLEN.out; have := HMN.out; omega
            have : rd sl (m : Int) = sl[m] := by simp [rd, List.getD_eq_getElem?_getD, List.getElem?_eq_getElem hm9]
            rw [this, List.set_getElem_self]
          rw [e3, e4, e5, hself]
          exact ⟨rfl, HI, HB⟩
      case rest =>
        clear hk1 hc0 hc1 hc2 hc3 HI HB
        obtain ⟨rfl, HI, HB⟩ := hcut
        have hlfr : 0 ≤ slLeft J fah re a v ∧ slLeft J fah re a v ≤ 20 := by rw [slLeft_eq]; have := HVR.out; have := HJ.out; split <;> omega
        have HFH := Aside0.mk (slFreed_home J fah re a v)
        have HCT := Aside0.mk (fun h => slOne_cont (J := J) (fah := fah) (t := t) (m := m) (a := a) (fi := fi) (re := re) HV0.out (show slFill J fah t fi re a v < 0 by rw [slFill_cont h]; omega))
        have HFL := Aside0.mk (fun h (i : Nat) (hx : slNext J t fi a J.length = (i : Int)) => slOne_fill (J := J) (fah := fah) (t := t) (m := m) (a := a) (fi := fi) (re := re) HV0.out ((slFill_next h).trans hx))
        have HNF := Aside0.mk (fun h (hx : slNext J t fi a J.length < 0) => slOne_cont (J := J) (fah := fah) (t := t) (m := m) (a := a) (fi := fi) (re := re) HV0.out (show slFill J fah t fi re a v < 0 by rw [slFill_next h]; exact hx))
        obtain ⟨fr, hfr⟩ : ∃ q, slFreed J fah re a v = q := ⟨_, rfl⟩
        obtain ⟨lf, hlf⟩ : ∃ q, slLeft J fah re a v = q := ⟨_, rfl⟩
        obtain ⟨hom, hhom⟩ : ∃ q, slHome J fah re a v = q := ⟨_, rfl⟩
        obtain ⟨re1, hre1⟩ : ∃ q, slRe J t re a v = q := ⟨_, rfl⟩
        have hl1 : re1.length = re.length := by rw [← hre1]; exact slRe_len J t re a v
        rw [hfr]
        rw [hfr, hhom] at HFH
        rw [hlf] at hlfr HI
        rw [hre1] at HI
        rw [hlf, hhom, hre1] at HCT HFL HNF
        obtain ⟨sl2, hsl2⟩ : ∃ q, sl.set m lf = q := ⟨_, rfl⟩
        have hl2 : sl2.length = n := by rw [← hsl2, List.length_set]; exact HLEN.out
        have hr2 : rd sl2 (m : Int) = lf := by rw [← hsl2]; exact rd_set_eq _ _ _ (by have := HLEN.out; have := HMN.out; omega)
        rw [hsl2] at HI HCT HFL HNF
        have HL2 := Aside0.mk hl2
        have HL1 := Aside0.mk hl1
        have HLF := Aside0.mk hlfr
        obtain ⟨_, _, v1b, v2b, v3b, r1, c1, e1, h1, _, hr1, _, hx1, hf1, hset1⟩ := HI.out.row1 (by have := HMN.out; omega)
        have hc1 : wc.cell? ⟨g, 1, none⟩ = some (.bool fah) := (blk_cell h1 1).trans rfl
        have hc3 : wc.cell? ⟨g, 3, none⟩ = some (.slice (some ⟨r1, 0, none⟩) n c1) := by rw [← hl2, ← e1]; exact (blk_cell h1 3).trans rfl
        have hk1 := hx1 m (by have := HMN.out; omega)
        rw [hr2] at hk1
        clear hfr hlf hhom hre1 hsl2 hl1 hl2 hr2 hlfr h1 e1 hr1 hx1 hf1 hset1
        obtain ⟨cc, hcc⟩ : ∃ q, (decide (0 < lf) || hom) = q := ⟨_, rfl⟩
        rw [hcc] at HCT HFL HNF
        have HCC := Aside0.mk hcc
        clear hcc
        go_upto_region 16 with (fail)
        go_cut [118] (fun v118 wd => v118 = .bool cc ∧ Aside0 (wd = wc))
        case first =>
          by_cases c1 : 0 < lf
          · have c1b : decide (0 < lf) = true := decide_eq_true c1
            have c1c := eq_true c1
            clear c1
            go_wp2
            go_meet
            exact ⟨by rw [← HCC.out, c1b]; simp, ⟨rfl⟩⟩
          · have c1b : decide (0 < lf) = false := decide_eq_false c1
            have c1c := eq_false c1
            clear c1
            cases fr with
            | false =>
              go_wp2
              go_meet
              exact ⟨by rw [← HCC.out, c1b, ← HFH.out]; simp, ⟨rfl⟩⟩
            | true =>
              cases fah with
              | true =>
                go_wp2
                go_meet
                exact ⟨by rw [← HCC.out, c1b, ← HFH.out]; simp, ⟨rfl⟩⟩
              | false =>
                go_wp2
                go_meet
                exact ⟨by rw [← HCC.out, c1b, ← HFH.out]; simp, ⟨rfl⟩⟩
        case rest =>
          obtain ⟨rfl, HWD⟩ := hcut
          obtain rfl := HWD.out
          clear HWD
          cases cc with
          | true =>
            have HO2 := Aside0.mk (HONE.out.trans (HCT.out rfl))
            go_wp2
            go_roundg (n - m)
            case measure => have := HKM.out; have := HMN.out; omega
            case rel => exact ⟨m + 1, by have := HKM.out; have := HMN.out; omega, by have := HMN.out; omega, by first | rfl | (rw [wrapS (by omega) (by have := HMN.out; have := HN.out; omega)]; rfl), by rw [HO2.out]; exact HI, HB⟩
          | false =>
            by_cases cx : 0 ≤ x
            · have cxb : decide (x ≥ 0) = true := decide_eq_true cx
              have cxb2 : decide (0 ≤ x) = true := decide_eq_true cx
              obtain ⟨i, rfl, hil⟩ : ∃ i : Nat, x = (i : Int) ∧ i < J.length := by
                have h9 := slNext_lt J t fi a J.length (by rw [HXE.out]; exact cx)
                rw [HXE.out] at h9
                exact ⟨x.toNat, by omega, by omega⟩
              have HIL := Aside0.mk hil
              have HO2 := Aside0.mk (HONE.out.trans (HFL.out rfl i HXE.out))
              clear hc1 hc3 hk1 cx hil
              go_upto_region 18 with (first | (go_at_call 71; (with_reducible refine (next_q g (n : Int) fah J sl2 fi re1 a t w0 _ ?s1 ?s2 HJ.out HSI.out.2.1).mono ?_); (case s1 => exact HI.out); (case s2 => exact HB.out); rintro e w6 ⟨rfl, hi, hb⟩; have HI5 := Aside0.mk hi; have HB5 := Aside0.mk hb; clear HI HB hi hb; have HI := HI5; have HB := HB5; clear HI5 HB5; rw [HXE.out]) | ((with_reducible refine gate_callee (f := 71) rfl ?_); refine goesL_ (some 122) rfl rfl Try.func71 (by kernel_rfl) rfl #[.pointer (some ⟨g, 0, none⟩), .int .i64 a, .int .i64 t] rfl (by (try simp only [List.map_toArray, List.map_cons, List.map_nil]); first | done | rfl) ?_; (with_reducible refine (next_q g (n : Int) fah J sl2 fi re1 a t w0 _ ?s1 ?s2 HJ.out HSI.out.2.1).mono ?_); (case s1 => exact HI.out); (case s2 => exact HB.out); rintro e w6 ⟨rfl, hi, hb⟩; have HI5 := Aside0.mk hi; have HB5 := Aside0.mk hb; clear HI HB hi hb; have HI := HI5; have HB := HB5; clear HI5 HB5; refine ⟨_, rfl, ?_⟩; rw [HXE.out]))
              obtain ⟨_, _, v1b, v2b, v3b, r1, c1, e1, h1, _, hr1, _, hx1, hf1, hset1⟩ := HI.out.row1 (by have := HL2.out; have := HMN.out; omega)
              have hc3 : w6.cell? ⟨g, 3, none⟩ = some (.slice (some ⟨r1, 0, none⟩) n c1) := by rw [← HL2.out, ← e1]; exact (blk_cell h1 3).trans rfl
              have hk1 := hx1 m (by have := HL2.out; have := HMN.out; omega)
              have hfz := hf1 m
              have hw2 : wrap64 ((i : Int) + 1) = (i : Int) + 1 := wrapS (by omega) (by have := HIL.out; have := HJ.out; omega)
              have HS1 := Aside0.mk (hset1 m ((i : Int) + 1))
              have HR1 := Aside0.mk hr1
              clear h1 hx1 hf1 e1 hset1 hr1
              go_upto_region 20 with (fail)
              obtain ⟨wz, hwz⟩ : ∃ y, w6.setCell ⟨r1, m, none⟩ (.int .i64 ((i : Int) + 1)) = y := ⟨_, rfl⟩
              have HI2 := Aside0.mk (show IsR w0 wz g (n : Int) fah J (sl2.set m ((i : Int) + 1)) fi re1 from by rw [← hwz]; exact HS1.out)
              have HB2 := Aside0.mk (show Below w0.heap.size w0 wz from by rw [← hwz]; exact HB.out.setCell (p := ⟨r1, m, none⟩) HR1.out _)
              (first | rw [hwz] | (rw [hw2, hwz]))
              clear hwz HI HB HS1 HR1 hc3 hk1 hfz hw2
              obtain ⟨_, _, v1c, v2c, v3c, r2, c2, e2, h2, _, hr2, _, hx2, hf2, hset2⟩ := HI2.out.row2 (by have := HSI.out; have := HIL.out; omega)
              have hc4 : wz.cell? ⟨g, 4, none⟩ = some (.slice (some ⟨r2, 0, none⟩) fi.length c2) := by rw [← e2]; exact (blk_cell h2 4).trans rfl
              have hk2 : wz.cell? ⟨r2, i, none⟩ = some (.int .i64 (rd fi (i : Int))) := hx2 i (by have := HSI.out; have := HIL.out; omega)
              have hfz := hf2 i
              have hxa : (0 ≤ (i : Int)) = True := eq_true (by omega)
              have hxb : ((i : Int) < (fi.length : Int)) = True := eq_true (by have := HSI.out; have := HIL.out; omega)
              have hxc : (i < fi.length) = True := eq_true (by have := HSI.out; have := HIL.out; omega)
              have HS2 := Aside0.mk (hset2 i t)
              have HR2 := Aside0.mk hr2
              clear h2 hx2 hf2 e2 hset2 hr2
              go_wp2
              go_roundg (n - m)
              case measure => have := HKM.out; have := HMN.out; omega
              case rel => exact ⟨m + 1, by have := HKM.out; have := HMN.out; omega, by have := HMN.out; omega, by first | rfl | (rw [wrapS (by omega) (by have := HMN.out; have := HN.out; omega)]; rfl), by rw [HO2.out]; exact HS2, ⟨HB2.out.setCell (p := ⟨r2, i, none⟩) HR2.out _⟩⟩
            · have cxb : decide (x ≥ 0) = false := decide_eq_false cx
              have cxb2 : decide (0 ≤ x) = false := decide_eq_false cx
              have HO2 := Aside0.mk (HONE.out.trans (HNF.out rfl (by rw [HXE.out]; omega)))
              clear hc1 hc3 hk1 cx
              go_wp2_with (first | (go_at_call 71; (with_reducible refine (next_q g (n : Int) fah J sl2 fi re1 a t w0 _ ?s1 ?s2 HJ.out HSI.out.2.1).mono ?_); (case s1 => exact HI.out); (case s2 => exact HB.out); rintro e w6 ⟨rfl, hi, hb⟩; have HI5 := Aside0.mk hi; have HB5 := Aside0.mk hb; clear HI HB hi hb; have HI := HI5; have HB := HB5; clear HI5 HB5; rw [HXE.out]) | ((with_reducible refine gate_callee (f := 71) rfl ?_); refine goesL_ (some 122) rfl rfl Try.func71 (by kernel_rfl) rfl #[.pointer (some ⟨g, 0, none⟩), .int .i64 a, .int .i64 t] rfl (by (try simp only [List.map_toArray, List.map_cons, List.map_nil]); first | done | rfl) ?_; (with_reducible refine (next_q g (n : Int) fah J sl2 fi re1 a t w0 _ ?s1 ?s2 HJ.out HSI.out.2.1).mono ?_); (case s1 => exact HI.out); (case s2 => exact HB.out); rintro e w6 ⟨rfl, hi, hb⟩; have HI5 := Aside0.mk hi; have HB5 := Aside0.mk hb; clear HI HB hi hb; have HI := HI5; have HB := HB5; clear HI5 HB5; refine ⟨_, rfl, ?_⟩; rw [HXE.out]))
              go_roundg (n - m)
              case measure => have := HKM.out; have := HMN.out; omega
              case rel => exact ⟨m + 1, by have := HKM.out; have := HMN.out; omega, by have := HMN.out; omega, by first | rfl | (rw [wrapS (by omega) (by have := HMN.out; have := HN.out; omega)]; rfl), by rw [HO2.out]; exact HI, HB⟩
    · obtain rfl : m = n := by omega
      have hb1 : decide ((m : Int) < (s.1.length : Int)) = false := decide_eq_false (by have := HL.out; omega)
      have hb2 : decide (m < s.1.length) = false := decide_eq_false (by have := HL.out; omega)
      clear hm
      go_wp2
      exact ⟨rfl, .tuple #[], by first | rfl | kernel_rfl, rfl, by rw [hs]; exact HI.out, HB.out⟩

end Go.Proofs.Ytgkbeejkbhhjkaa.X
