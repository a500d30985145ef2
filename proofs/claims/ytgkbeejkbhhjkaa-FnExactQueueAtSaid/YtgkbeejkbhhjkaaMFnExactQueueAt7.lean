/- Several texts of this session in one: X31. -/
import Derived.Test.YtgkbeejkbhhjkaaMFnExactQueueAt0
import Derived.Test.YtgkbeejkbhhjkaaMFnExactQueueAt3
/- What the functions of the program come to, and that they do: written by this session's program wip/xprint.py out of the translation; parts named extern are typed by hand. -/
namespace Go.Proofs.Ytgkbeejkbhhjkaa.X
open Go.RowKit Go.Proofs.YtgkbeejkbhhjkaaW.PrintWords Go.Proofs.YtgkbeejkbhhjkaaW.PrintLast Go.Proofs.YtgkbeejkbhhjkaaW.PrintMore
attribute [local go_sem] max2_int min2_int max_two min_two max_three min_three max_four min_four   -- for this text's walks alone
set_option linter.unusedVariables false
set_option linter.unusedSimpArgs false

/-! ### impl_slotter_station: function 74 -/
/- EXTERN, by hand (wip/hand/slotall.py): what a station of the program does. -/
/-- The ring's state, and where the row of its slots lies. -/
def IsU (w0 W : World) (g : Nat) (n : Int) (fah : Bool) (tick : Int) (msgs : List (S30)) (sl fi re : List Int) (r c : Nat) : Prop := IsT w0 W g n fah tick msgs sl fi re ∧ W.cell? ⟨g, 4, none⟩ = some (.slice (some ⟨r, 0, none⟩) sl.length c)
theorem IsT.job {w0 W : World} {g : Nat} {n : Int} {fah : Bool} {tick : Int} {msgs : List (S30)} {sl fi re : List Int} (h : IsT w0 W g n fah tick msgs sl fi re) {b : Nat} {cs : Array Value} (hb : W.heap[b]? = some (.cells cs 30 (0, 0))) (i : Nat) (x : Value) : IsT w0 (W.setCell ⟨b, i, none⟩ x) g n fah tick msgs sl fi re := by
  obtain ⟨A0, c0, v1, v2, v3, h1, h2, h3, h4, h5, h6⟩ := h
  have nb : b ≠ g := fun e => by rw [e] at hb; rw [h1] at hb; cases hb
  have f1 := Kd.R_types h4 hb (fun q hq => by simp [Kd.int, Kd.scalar] at hq; omega)
  have f2 := Kd.R_types h5 hb (fun q hq => by simp [Kd.int, Kd.scalar] at hq; omega)
  have f3 := Kd.R_types h6 hb (fun q hq => by simp [Kd.int, Kd.scalar] at hq; omega)
  exact ⟨A0, c0, v1, v2, v3, blk_far h1 (Ne.symm nb) _, h2, h3, Kd.R_mono (Kd.R_far (p := ⟨b, i, none⟩) f1 (fun k hk => hk.2) _) (fun k hk => hk.1), Kd.R_mono (Kd.R_far (p := ⟨b, i, none⟩) f2 (fun k hk => hk.2) _) (fun k hk => hk.1), Kd.R_mono (Kd.R_far (p := ⟨b, i, none⟩) f3 (fun k hk => hk.2) _) (fun k hk => hk.1)⟩
theorem IsU.below {w0 W : World} {g : Nat} {n : Int} {fah : Bool} {tick : Int} {msgs : List (S30)} {sl fi re : List Int} {r c : Nat} (h : IsU w0 W g n fah tick msgs sl fi re r c) {w1 : World} (hb : Below W.heap.size W w1) : IsU w0 w1 g n fah tick msgs sl fi re r c := ⟨h.1.below hb, pw_cell_below hb h.2⟩
theorem IsU.drewN {w0 W : World} {g : Nat} {n : Int} {fah : Bool} {tick : Int} {msgs : List (S30)} {sl fi re : List Int} {r c : Nat} (h : IsU w0 W g n fah tick msgs sl fi re r c) (m : Nat) : IsU w0 (W.drewN m) g n fah tick msgs sl fi re r c := h
theorem IsU.drew {w0 W : World} {g : Nat} {n : Int} {fah : Bool} {tick : Int} {msgs : List (S30)} {sl fi re : List Int} {r c : Nat} (h : IsU w0 W g n fah tick msgs sl fi re r c) : IsU w0 W.drew g n fah tick msgs sl fi re r c := h
theorem far_cell {W : World} {g b i j : Nat} {cs : Array Value} {t : TypeId} {v : Value} (hg : W.heap[g]? = some (.cells cs t (0, 0))) (hn : g ≠ b) (h : W.cell? ⟨g, j, none⟩ = some v) (x : Value) : (W.setCell ⟨b, i, none⟩ x).cell? ⟨g, j, none⟩ = some v := by
  rw [blk_cell (blk_far (p := ⟨b, i, none⟩) hg hn x) j, ← blk_cell hg j]
  exact h
theorem IsT.blk {w0 W : World} {g : Nat} {n : Int} {fah : Bool} {tick : Int} {msgs : List (S30)} {sl fi re : List Int} (h : IsT w0 W g n fah tick msgs sl fi re) : ∃ cs, W.heap[g]? = some (.cells cs 73 (0, 0)) ∧ w0.heap.size ≤ g := by
  obtain ⟨A0, c0, v1, v2, v3, h1, h2, _⟩ := h
  exact ⟨_, h1, h2⟩
theorem IsU.job {w0 W : World} {g : Nat} {n : Int} {fah : Bool} {tick : Int} {msgs : List (S30)} {sl fi re : List Int} {r c : Nat} (h : IsU w0 W g n fah tick msgs sl fi re r c) {b : Nat} {cs : Array Value} (hb : W.heap[b]? = some (.cells cs 30 (0, 0))) (i : Nat) (x : Value) : IsU w0 (W.setCell ⟨b, i, none⟩ x) g n fah tick msgs sl fi re r c := by
  obtain ⟨cg, hg, _⟩ := h.1.blk
  exact ⟨h.1.job hb i x, far_cell hg (blk_ne hg hb (by decide)) h.2 x⟩
theorem IsU.cells {w0 W : World} {g : Nat} {n : Int} {fah : Bool} {tick : Int} {msgs : List (S30)} {sl fi re : List Int} {r c : Nat} (h : IsU w0 W g n fah tick msgs sl fi re r c) : ∃ A0 c0, W.cell? ⟨g, 0, none⟩ = some (.int .i64 n) ∧ W.cell? ⟨g, 1, none⟩ = some (.bool fah) ∧ W.cell? ⟨g, 2, none⟩ = some (.slice A0 msgs.length c0) ∧ W.cell? ⟨g, 3, none⟩ = some (.int .i64 tick) ∧ Kd.C k30 w0 A0 msgs.length msgs := by
  obtain ⟨A0, c0, v1, v2, v3, h1, h2, h3, h4, h5, h6⟩ := h.1
  exact ⟨A0, c0, (blk_cell h1 0).trans rfl, (blk_cell h1 1).trans rfl, (blk_cell h1 2).trans rfl, (blk_cell h1 3).trans rfl, h3⟩
theorem IsU.row1 {w0 W : World} {g : Nat} {n : Int} {fah : Bool} {tick : Int} {msgs : List (S30)} {sl fi re : List Int} {r c : Nat} (h : IsU w0 W g n fah tick msgs sl fi re r c) (hp : 0 < sl.length) : w0.heap.size ≤ r ∧ g ≠ r ∧ (∃ cells, W.heap[r]? = some (.cells cells 3 (0, 0))) ∧ (∀ i : Nat, i < sl.length → W.cell? ⟨r, i, none⟩ = some (.int .i64 (rd sl (i : Int)))) ∧ (∀ i : Nat, W.frozen? ⟨r, i, none⟩ = false) ∧
    ∀ (i : Nat) (x : Int), IsU w0 (W.setCell ⟨r, i, none⟩ (.int .i64 x)) g n fah tick msgs (sl.set i x) fi re r c := by
  obtain ⟨A0, c0, v1, v2, v3, r', c', e, h1, h3, hr, ⟨cells, hty⟩, hx, hf, hset⟩ := h.1.row1 hp
  have hv : W.cell? ⟨g, 4, none⟩ = some v1 := (blk_cell h1 4).trans rfl
  have e2 := Option.some.inj (hv.symm.trans h.2)
  rw [e] at e2
  cases e2
  have hn : g ≠ r := blk_ne h1 hty (by decide)
  refine ⟨hr, hn, ⟨cells, hty⟩, hx, hf, fun i x => ⟨hset i x, ?_⟩⟩
  rw [List.length_set]
  exact far_cell h1 hn h.2 _
theorem IsU.row2 {w0 W : World} {g : Nat} {n : Int} {fah : Bool} {tick : Int} {msgs : List (S30)} {sl fi re : List Int} {r c : Nat} (h : IsU w0 W g n fah tick msgs sl fi re r c) (hp : 0 < fi.length) : ∃ r2 c2, W.cell? ⟨g, 5, none⟩ = some (.slice (some ⟨r2, 0, none⟩) fi.length c2) ∧ w0.heap.size ≤ r2 ∧ g ≠ r2 ∧ (∃ cells, W.heap[r2]? = some (.cells cells 3 (0, 0))) ∧ (∀ i : Nat, i < fi.length → W.cell? ⟨r2, i, none⟩ = some (.int .i64 (rd fi (i : Int)))) ∧ (∀ i : Nat, W.frozen? ⟨r2, i, none⟩ = false) ∧
    ∀ (i : Nat) (x : Int), IsU w0 (W.setCell ⟨r2, i, none⟩ (.int .i64 x)) g n fah tick msgs sl (fi.set i x) re r c := by
  obtain ⟨A0, c0, v1, v2, v3, r', c', e, h1, h3, hr, ⟨cells, hty⟩, hx, hf, hset⟩ := h.1.row2 hp
  have hv : W.cell? ⟨g, 5, none⟩ = some v2 := (blk_cell h1 5).trans rfl
  have hn : g ≠ r' := blk_ne h1 hty (by decide)
  rw [e] at hv
  exact ⟨r', c', hv, hr, hn, ⟨cells, hty⟩, hx, hf, fun i x => ⟨hset i x, far_cell h1 hn h.2 _⟩⟩
theorem IsU.row3 {w0 W : World} {g : Nat} {n : Int} {fah : Bool} {tick : Int} {msgs : List (S30)} {sl fi re : List Int} {r c : Nat} (h : IsU w0 W g n fah tick msgs sl fi re r c) (hp : 0 < re.length) : ∃ r2 c2, W.cell? ⟨g, 6, none⟩ = some (.slice (some ⟨r2, 0, none⟩) re.length c2) ∧ w0.heap.size ≤ r2 ∧ g ≠ r2 ∧ (∃ cells, W.heap[r2]? = some (.cells cells 3 (0, 0))) ∧ (∀ i : Nat, i < re.length → W.cell? ⟨r2, i, none⟩ = some (.int .i64 (rd re (i : Int)))) ∧ (∀ i : Nat, W.frozen? ⟨r2, i, none⟩ = false) ∧
    ∀ (i : Nat) (x : Int), IsU w0 (W.setCell ⟨r2, i, none⟩ (.int .i64 x)) g n fah tick msgs sl fi (re.set i x) r c := by
  obtain ⟨A0, c0, v1, v2, v3, r', c', e, h1, h3, hr, ⟨cells, hty⟩, hx, hf, hset⟩ := h.1.row3 hp
  have hv : W.cell? ⟨g, 6, none⟩ = some v3 := (blk_cell h1 6).trans rfl
  have hn : g ≠ r' := blk_ne h1 hty (by decide)
  rw [e] at hv
  exact ⟨r', c', hv, hr, hn, ⟨cells, hty⟩, hx, hf, fun i x => ⟨hset i x, far_cell h1 hn h.2 _⟩⟩
set_option maxHeartbeats 16000000 in
set_option maxRecDepth 100000 in
theorem station_calls (g n o : Nat) (fah : Bool) (J : List (S30)) (s : SlSt) (t : Nat) (w0 w : World) (hI : IsT w0 w g (n : Int) fah (t : Int) J s.1 s.2.1 s.2.2) (hB : Below w0.heap.size w0 w) (hn : 2 ≤ n ∧ n ≤ 12) (hj : J.length ≤ 20) (ht : t ≤ 10000) (ho : o < n) (hinv0 : SlInv n J.length s) :
    Calls Try.prog 74 #[.pointer (some ⟨g, 0, none⟩), .int .i64 (o : Int)] w fun e w' => e = .returned (.tuple #[]) ∧ IsT w0 w' g (n : Int) fah (t : Int) J (slOne J fah (t : Int) ((o + (n - t % n)) % n) (o : Int) s).1 (slOne J fah (t : Int) ((o + (n - t % n)) % n) (o : Int) s).2.1 (slOne J fah (t : Int) ((o + (n - t % n)) % n) (o : Int) s).2.2 ∧ Below w0.heap.size w0 w' := by
  have hu30 := Try.underlying30
  obtain ⟨sl, fi, re⟩ := s
  dsimp only at hI
  obtain ⟨hi1, hi2, hi3, hi4, _, _⟩ := hinv0
  dsimp only at hi1 hi2 hi3 hi4
  obtain ⟨m, hm⟩ : ∃ m, (o + (n - t % n)) % n = m := ⟨_, rfl⟩
  have hmn : m < n := by rw [← hm]; exact Nat.mod_lt _ (by omega)
  have hvr := hi4 m hmn
  obtain ⟨v, hv⟩ : ∃ v, rd sl (m : Int) = v := ⟨_, rfl⟩
  rw [hv] at hvr
  rw [hm]
  have htm : t % n < n := Nat.mod_lt _ (by omega)
  obtain ⟨tm, htm0⟩ : ∃ y, t % n = y := ⟨_, rfl⟩
  have h23 : Int.tmod (t : Int) (n : Int) = (tm : Int) := by rw [Int.tmod_eq_emod_of_nonneg (by omega), ← htm0]; exact (Int.natCast_emod t n).symm
  obtain ⟨d1, hd1⟩ : ∃ y : Int, (o : Int) - (tm : Int) = y := ⟨_, rfl⟩
  obtain ⟨d2, hd2⟩ : ∃ y : Int, d1 + (n : Int) = y := ⟨_, rfl⟩
  have h24 : IntKind.i64.wrap ((o : Int) - (tm : Int)) = d1 := by rw [IntKind.wrap_i64, hd1]; omega
  have h30 : IntKind.i64.wrap (d1 + (n : Int)) = d2 := by rw [IntKind.wrap_i64, hd2]; omega
  have h36 : Int.tmod d2 (n : Int) = (m : Int) := by
    rw [Int.tmod_eq_emod_of_nonneg (by omega), ← hm, show d2 = ((o + (n - t % n) : Nat) : Int) by omega]
    exact (Int.natCast_emod _ n).symm
  obtain ⟨A0, c0, v1, v2, v3, r, c, e1, h1, hJC, hr, _⟩ := hI.row1 (by omega)
  have hu4 : w.cell? ⟨g, 4, none⟩ = some (.slice (some ⟨r, 0, none⟩) sl.length c) := by rw [← e1]; exact (blk_cell h1 4).trans rfl
  have HI := Aside0.mk (show IsU w0 w g (n : Int) fah (t : Int) J sl fi re r c from ⟨hI, hu4⟩)
  have hc0 : w.cell? ⟨g, 0, none⟩ = some (.int .i64 (n : Int)) := (blk_cell h1 0).trans rfl
  have hc3 : w.cell? ⟨g, 3, none⟩ = some (.int .i64 (t : Int)) := (blk_cell h1 3).trans rfl
  have hc4 : w.cell? ⟨g, 4, none⟩ = some (.slice (some ⟨r, 0, none⟩) n c) := by rw [← hi1]; exact hu4
  have HB := Aside0.mk hB
  have HN := Aside0.mk hn
  have HT := Aside0.mk ht
  have HJ := Aside0.mk hj
  have HMN := Aside0.mk hmn
  have HV0 := Aside0.mk hv
  have HVR := Aside0.mk hvr
  have HSI := Aside0.mk (And.intro hi1 (And.intro hi2 hi3))
  have HJC := Aside0.mk hJC
  have hz1 : ((n : Int) == 0) = false := beq_eq_false_iff_ne.mpr (by omega)
  have hz2 : ((n : Int) = 0) = False := eq_false (by omega)
  have hz3 : (n = 0) = False := eq_false (by omega)
  have hm1 : ((0 : Int) ≤ (m : Int)) = True := eq_true (by omega)
  have hm2 : ((m : Int) < (n : Int)) = True := eq_true (by omega)
  have hm3 : (m < n) = True := eq_true hmn
  clear hI hB hn ht hj hmn hv hvr hi1 hi2 hi3 hi4 hJC h1 e1 hr hu4 hm htm htm0 hd1 hd2 ho
  go_enter Try.func74, Try.ntmps74
  go_upto_region 0 with (fail)
  go_cut [4] (fun v4 wc => v4 = .pointer (some ⟨r, m, none⟩) ∧ Aside0 (Drawn0 w wc))
  case first =>
    go_quiet (fail)
    all_goals (try go_wp2)
    all_goals go_meet
    all_goals exact ⟨rfl, ⟨⟨_, rfl⟩⟩⟩
  case rest =>
    clear h23 h24 h30 h36 hc0 hc3 hc4 hz1 hz2 hz3 hm1 hm2 hm3
    obtain ⟨rfl, HD⟩ := hcut
    obtain ⟨nd, hnd⟩ := HD.out.out
    replace HI := Aside0.mk (show IsU w0 wc g (n : Int) fah (t : Int) J sl fi re r c from by rw [hnd]; exact HI.out.drewN nd)
    replace HB := Aside0.mk (show Below w0.heap.size w0 wc from by rw [hnd]; exact pw_below_drewN HB.out nd)
    clear HD hnd
    obtain ⟨hr1, hng1, _, hx1, hf1, _⟩ := HI.out.row1 (by have := HSI.out; have := HMN.out; omega)
    have hk1 := hx1 m (by have := HSI.out; have := HMN.out; omega)
    rw [HV0.out] at hk1
    obtain ⟨A0, c0, hc0, hc1, hc2, hc3, hJC⟩ := HI.out.cells
    clear HJC
    have HJC := Aside0.mk hJC
    clear hr1 hng1 hx1 hf1 hJC
    obtain ⟨y, hy⟩ : ∃ y, v - 1 = y := ⟨_, rfl⟩
    have hw8 : IntKind.i64.wrap (v - 1) = y := by rw [IntKind.wrap_i64, ← hy]; have := HVR.out; have := HJ.out; omega
    have HY := Aside0.mk hy
    clear hy
    obtain ⟨x, hxe⟩ : ∃ x, slNext J (t : Int) fi (o : Int) J.length = x := ⟨_, rfl⟩
    have HXE := Aside0.mk hxe
    clear hxe
    go_upto_if 43 with (fail)
    clear hw8
    go_cut [] (fun wc => Aside0 (slHome J fah re (o : Int) v = false) ∧ Aside0 (IsU w0 wc g (n : Int) fah (t : Int) J (sl.set m (slLeft J fah re (o : Int) v)) fi (slRe J (t : Int) re (o : Int) v) r c) ∧ Aside0 (Below w0.heap.size w0 wc))
    case first =>
      by_cases cv : 1 ≤ v
      · have hvb : decide (0 ≤ y) = true := decide_eq_true (by have := HY.out; omega)
        obtain ⟨j, hj⟩ : ∃ j : Nat, v = (j : Int) + 1 := ⟨(v - 1).toNat, by omega⟩
        obtain rfl : y = (j : Int) := by have := HY.out; omega
        have hjl : j < J.length := by have := HVR.out; omega
        have HJL := Aside0.mk hjl
        have HVJ := Aside0.mk hj
        clear cv hj hjl
        have hp : 0 ≤ (j : Int) := by omega
        have hq : (j : Int) < (J.length : Int) := by have := HJL.out; omega
        obtain ⟨ad, e1, hx0, hx1, hx2⟩ := at_T30 HJC.out (j : Int) hp hq
        cases e1
        simp only [Int.toNat_natCast] at hx0 hx1 hx2
        replace hx0 := pw_cell_below HB.out hx0
        replace hx1 := pw_cell_below HB.out hx1
        replace hx2 := pw_cell_below HB.out hx2
        replace hp := eq_true hp
        replace hq := eq_true hq
        have hq2 := eq_true HJL.out
        go_upto_region 3 with (fail)
        go_cut [6] (fun v6 wc => ∃ b, v6 = .pointer (some ⟨b, 0, none⟩) ∧ Aside0 (wc.heap[b]? = some (.cells #[.int .i64 (rd_T30 J (j : Int)).f0, .int .i64 (rd_T30 J (j : Int)).f1, .int .i64 (rd_T30 J (j : Int)).f2] 30 (0, 0))) ∧ Aside0 (IsU w0 wc g (n : Int) fah (t : Int) J sl fi re r c) ∧ Aside0 (Below w0.heap.size w0 wc) ∧ Aside0 (w0.heap.size ≤ b))
        case first =>
          go_wp2_with (first | ((with_reducible refine gate_dst (N := 6) rfl ?_); refine box_event ?hg (N := 6) ?hd (cs := #[.int .i64 0, .int .i64 0, .int .i64 0]) (t := 30) ?hr ?_; (case hd => rfl); (case hg => rfl); (case hr => first | (go_simp; done) | (go_simp; rfl)); intro b hg w13 hbox hb; have HI3 := Aside0.mk (IsU.below (by repeat (first | exact HI.out | apply IsU.drewN | apply IsU.drew)) hb); have HB3 := Aside0.mk (below_step (by repeat (first | exact HB.out | apply pw_below_drewN | apply below_drew1)) hb); have HBX := Aside0.mk hbox; have HGE := Aside0.mk (show w0.heap.size ≤ b by rw [hg]; exact (below_size (by repeat (first | exact HB.out | apply pw_below_drewN | apply below_drew1)))); clear hg hbox hb; have hk0 : w13.cell? ⟨b, 0, none⟩ = some (.int .i64 0) := (blk_cell HBX.out 0).trans rfl; have hk1 : w13.cell? ⟨b, 1, none⟩ = some (.int .i64 0) := (blk_cell HBX.out 1).trans rfl; have hk2 : w13.cell? ⟨b, 2, none⟩ = some (.int .i64 0) := (blk_cell HBX.out 2).trans rfl; have hf0 := blk_frozen HBX.out 0; have hf1 := blk_frozen HBX.out 1; have hf2 := blk_frozen HBX.out 2))
          go_meet
          refine ⟨b, rfl, ⟨?_⟩, ⟨?_⟩, ⟨?_⟩, HGE⟩
          · have h9 := blk_set (blk_set (blk_set HBX.out 0 (.int .i64 (rd_T30 J (j : Int)).f0)) 1 (.int .i64 (rd_T30 J (j : Int)).f1)) 2 (.int .i64 (rd_T30 J (j : Int)).f2)
            first | exact h9 | simpa using h9
          · have h9 := ((HI3.out.job HBX.out 0 (.int .i64 (rd_T30 J (j : Int)).f0)).job (blk_set HBX.out 0 (.int .i64 (rd_T30 J (j : Int)).f0)) 1 (.int .i64 (rd_T30 J (j : Int)).f1)).job (blk_set (blk_set HBX.out 0 (.int .i64 (rd_T30 J (j : Int)).f0)) 1 (.int .i64 (rd_T30 J (j : Int)).f1)) 2 (.int .i64 (rd_T30 J (j : Int)).f2)
            first | exact h9 | simpa using h9
          · exact ((HB3.out.setCell (p := ⟨b, 0, none⟩) HGE.out _).setCell (p := ⟨b, 1, none⟩) HGE.out _).setCell (p := ⟨b, 2, none⟩) HGE.out _
        case rest =>
          clear HI HB hx0 hx1 hx2 hk1 hc0 hc1 hc2 hc3 hp hq hq2
          obtain ⟨b, rfl, HBX, HI, HB, HGE⟩ := hcut
          have hk1 : wc.cell? ⟨b, 1, none⟩ = some (.int .i64 (rd_T30 J (j : Int)).f1) := (blk_cell HBX.out 1).trans rfl
          have hk2 : wc.cell? ⟨b, 2, none⟩ = some (.int .i64 (rd_T30 J (j : Int)).f2) := (blk_cell HBX.out 2).trans rfl
          have HJR := Aside0.mk (show j < re.length by have := HSI.out; have := HJL.out; omega)
          obtain ⟨A1, c1, hc0, hc1, hc2, hc3, _⟩ := HI.out.cells
          obtain ⟨r3, c3, hc6, hr3, hng3, ⟨_, hty3⟩, hx3, hf3, hset3⟩ := HI.out.row3 (by have := HJR.out; omega)
          have hk5 := hx3 j HJR.out
          have hp : (0 ≤ (j : Int)) = True := eq_true (by omega)
          have hq : ((j : Int) < (re.length : Int)) = True := eq_true (by have := HJR.out; omega)
          have hq2 : (j < re.length) = True := eq_true HJR.out
          have HS3 := Aside0.mk (hset3 j (t : Int))
          have HR3 := Aside0.mk hr3
          have HF3 := Aside0.mk (hf3 j)
          have HNB := Aside0.mk (show b ≠ r3 from blk_ne HBX.out hty3 (by decide))
          clear hx3 hf3 hset3 hr3 hty3 hc0 hc2
          obtain ⟨hit, hhit⟩ : ∃ q, slHit J re (o : Int) v = q := ⟨_, rfl⟩
          have HHIT := Aside0.mk hhit
          have HHIT2 := Aside0.mk (show (decide ((rd_T30 J (j : Int)).f2 = (o : Int)) && decide (rd re (j : Int) < 0)) = hit by rw [← slHit_at, ← HVJ.out, hhit])
          clear hhit
          go_upto_region 4 with (fail)
          go_cut [64] (fun v64 wd => v64 = .bool hit ∧ Aside0 (wd = wc))
          case first =>
            by_cases q1 : (rd_T30 J (j : Int)).f2 = (o : Int)
            · have c1b : ((rd_T30 J (j : Int)).f2 == (o : Int)) = true := beq_iff_eq.mpr q1
              have HC1 := Aside0.mk q1
              by_cases c2 : rd re (j : Int) < 0
              · have c2b : decide (rd re (j : Int) < 0) = true := decide_eq_true c2
                clear q1
                go_wp2
                go_meet
                exact ⟨by rw [← HHIT2.out, HC1.out, c2b]; simp, ⟨rfl⟩⟩
              · have c2b : decide (rd re (j : Int) < 0) = false := decide_eq_false c2
                clear q1
                go_wp2
                go_meet
                exact ⟨by rw [← HHIT2.out, HC1.out, c2b]; simp, ⟨rfl⟩⟩
            · have c1b : ((rd_T30 J (j : Int)).f2 == (o : Int)) = false := beq_eq_false_iff_ne.mpr q1
              have HC1 := Aside0.mk q1
              clear q1
              go_wp2
              go_meet
              exact ⟨by rw [← HHIT2.out, decide_eq_false HC1.out]; simp, ⟨rfl⟩⟩
          case rest =>
            obtain ⟨rfl, HWD⟩ := hcut
            obtain rfl := HWD.out
            clear HWD
            have HRE := Aside0.mk (show (slRe J (t : Int) re (o : Int) v) = if hit = true then re.set j (t : Int) else re by unfold slRe; rw [HHIT.out, HVJ.out, show (j : Int) + 1 - 1 = (j : Int) by omega, Int.toNat_natCast])
            obtain ⟨fr1, hfr1⟩ : ∃ q, (hit && !fah) = q := ⟨_, rfl⟩
            have HFR1 := Aside0.mk hfr1
            clear hfr1
            go_upto_if 64 with (fail)
            go_cut [] (fun we => Aside0 (IsU w0 we g (n : Int) fah (t : Int) J (if fr1 = true then sl.set m 0 else sl) fi (slRe J (t : Int) re (o : Int) v) r c) ∧ Aside0 (Below w0.heap.size w0 we) ∧ Aside0 (we.heap[b]? = some (.cells #[.int .i64 (rd_T30 J (j : Int)).f0, .int .i64 (rd_T30 J (j : Int)).f1, .int .i64 (rd_T30 J (j : Int)).f2] 30 (0, 0))))
            case first =>
              cases hit with
              | true =>
                rw [if_pos rfl] at HRE
                go_upto_region 5 with (fail)
                go_cut [] (fun we => Aside0 (IsU w0 we g (n : Int) fah (t : Int) J sl fi (re.set j (t : Int)) r c) ∧ Aside0 (Below w0.heap.size w0 we) ∧ Aside0 (we.heap[b]? = some (.cells #[.int .i64 (rd_T30 J (j : Int)).f0, .int .i64 (rd_T30 J (j : Int)).f1, .int .i64 (rd_T30 J (j : Int)).f2] 30 (0, 0))))
                case first =>
                  have hfz := HF3.out
                  go_still_tail 10, (by kernel_rfl)
                  change wpList _ _ _ _ _ (World.drew _)
                  go_wp2
                  go_meet
                  exact ⟨⟨IsU.drew HS3.out⟩, ⟨below_drew1 (HB.out.setCell (p := ⟨r3, j, none⟩) HR3.out _)⟩, ⟨blk_drew (blk_far HBX.out HNB.out _)⟩⟩
                case rest =>
                  clear HI HB HBX hc1 hc3 hk5 hk1 hk2 hc6
                  obtain ⟨HI, HB, HBX⟩ := hcut
                  obtain ⟨A2, c2, hc0, hc1, hc2, hc3, _⟩ := HI.out.cells
                  obtain ⟨hr1, hng1, ⟨_, hty1⟩, hx1, hf1, hset1⟩ := HI.out.row1 (by have := HSI.out; have := HMN.out; omega)
                  have hk3 := hx1 m (by have := HSI.out; have := HMN.out; omega)
                  have hfz := hf1 m
                  have HS1 := Aside0.mk (hset1 m 0)
                  have HR1 := Aside0.mk hr1
                  have HNB1 := Aside0.mk (show b ≠ r from blk_ne HBX.out hty1 (by decide))
                  clear hr1 hng1 hty1 hx1 hf1 hset1 hc0 hc2 hc3
                  cases fah with
                  | true =>
                    have HF := Aside0.mk (show fr1 = false by rw [← HFR1.out]; rfl)
                    go_wp2
                    go_meet
                    rw [HF.out, HRE.out]
                    exact ⟨HI, HB, HBX⟩
                  | false =>
                    have HF := Aside0.mk (show fr1 = true by rw [← HFR1.out]; rfl)
                    go_wp2
                    go_meet
                    rw [HF.out, HRE.out]
                    exact ⟨HS1, ⟨HB.out.setCell (p := ⟨r, m, none⟩) HR1.out _⟩, ⟨blk_far HBX.out HNB1.out _⟩⟩
              | false =>
                have HF := Aside0.mk (show fr1 = false by rw [← HFR1.out]; rfl)
                rw [if_neg (by simp)] at HRE
                go_wp2
                go_meet
                rw [HF.out, HRE.out]
                exact ⟨HI, HB, HBX⟩
            case rest =>
              clear HS3 HBX HI HB hk5 hc1 hc3 hc6 hk1 hk2 hp hq hq2 hng3 HF3
              obtain ⟨HI, HB, HBX⟩ := hcut
              have hk1 : wc.cell? ⟨b, 1, none⟩ = some (.int .i64 (rd_T30 J (j : Int)).f1) := (blk_cell HBX.out 1).trans rfl
              have hjr : j < (slRe J (t : Int) re (o : Int) v).length := by rw [slRe_len]; exact HJR.out
              obtain ⟨re1, hre1⟩ : ∃ y, (slRe J (t : Int) re (o : Int) v) = y := ⟨_, rfl⟩
              rw [hre1] at HI hjr
              obtain ⟨sl1, hsl1⟩ : ∃ y, (if fr1 = true then sl.set m 0 else sl) = y := ⟨_, rfl⟩
              rw [hsl1] at HI
              have hln1 : sl1.length = n := by rw [← hsl1]; have := HSI.out; split <;> (try simp) <;> omega
              obtain ⟨A2, c2, hc0, hc1, hc2, hc3, _⟩ := HI.out.cells
              obtain ⟨r4, c4, hc6, _, _, _, hx4, _, _⟩ := HI.out.row3 (by omega)
              have hk5 := hx4 j hjr
              have hp : (0 ≤ (j : Int)) = True := eq_true (by omega)
              have hq : ((j : Int) < (re1.length : Int)) = True := eq_true (by omega)
              have hq2 : (j < re1.length) = True := eq_true hjr
              obtain ⟨hom, hhom⟩ : ∃ q, slHome J fah re (o : Int) v = q := ⟨_, rfl⟩
              have HHOM := Aside0.mk hhom
              have HRE1 := Aside0.mk hre1
              have HSL1 := Aside0.mk hsl1
              have HLN1 := Aside0.mk hln1
              have HHOM2 := Aside0.mk (show (fah && (decide ((rd_T30 J (j : Int)).f1 = (o : Int)) && decide (0 ≤ rd re1 (j : Int)))) = hom by rw [← hre1, HVJ.out, ← slHome_at J fah (t : Int) (by omega) re (o : Int) j HJR.out, ← HVJ.out, hhom])
              clear hx4 hjr hre1 hhom hsl1 hln1 hc0 hc2 hc3
              go_upto_region 8 with (fail)
              go_cut [103] (fun v103 wf => v103 = .bool hom ∧ Aside0 (wf = wc))
              case first =>
                cases fah with
                | false =>
                  go_wp2
                  go_meet
                  exact ⟨by rw [← HHOM2.out]; simp, ⟨rfl⟩⟩
                | true =>
                  by_cases q1 : (rd_T30 J (j : Int)).f1 = (o : Int)
                  · have c1b : ((rd_T30 J (j : Int)).f1 == (o : Int)) = true := beq_iff_eq.mpr q1
                    have HC1 := Aside0.mk q1
                    by_cases c2 : 0 ≤ rd re1 (j : Int)
                    · have c2b : decide (0 ≤ rd re1 (j : Int)) = true := decide_eq_true c2
                      clear q1
                      go_wp2
                      go_meet
                      exact ⟨by rw [← HHOM2.out, HC1.out, c2b]; simp, ⟨rfl⟩⟩
                    · have c2b : decide (0 ≤ rd re1 (j : Int)) = false := decide_eq_false c2
                      clear q1
                      go_wp2
                      go_meet
                      exact ⟨by rw [← HHOM2.out, HC1.out, c2b]; simp, ⟨rfl⟩⟩
                  · have c1b : ((rd_T30 J (j : Int)).f1 == (o : Int)) = false := beq_eq_false_iff_ne.mpr q1
                    have HC1 := Aside0.mk q1
                    clear q1
                    go_wp2
                    go_meet
                    exact ⟨by rw [← HHOM2.out, decide_eq_false HC1.out]; simp, ⟨rfl⟩⟩
              case rest =>
                obtain ⟨rfl, HWF⟩ := hcut
                obtain rfl := HWF.out
                clear HWF hk5 hc6 hc1 hk1 hp hq hq2 HBX
                obtain ⟨hr1, hng1, _, hx1, hf1, hset1⟩ := HI.out.row1 (by have := HLN1.out; have := HMN.out; omega)
                have hk3 := hx1 m (by have := HLN1.out; have := HMN.out; omega)
                have hfz := hf1 m
                have HS1 := Aside0.mk (hset1 m 0)
                have HR1 := Aside0.mk hr1
                clear hr1 hng1 hx1 hf1 hset1
                have HFR := Aside0.mk (show slFreed J fah re (o : Int) v = (hom || fr1) by unfold slFreed; rw [HHOM.out, HHIT.out, HFR1.out])
                have HLE := Aside0.mk (slLeft_eq J fah re (o : Int) v)
                cases hom with
                | true =>
                  have HF := Aside0.mk (show fr1 = false by have h9 := HHOM2.out; rw [← HFR1.out]; cases fah <;> simp at h9 ⊢)
                  rw [Bool.true_or] at HFR
                  rw [HFR.out, if_pos rfl] at HLE
                  have HO := Aside0.mk (slOne_cont (J := J) (fah := fah) (t := (t : Int)) (m := m) (a := (o : Int)) (fi := fi) (re := re) HV0.out (show slFill J fah (t : Int) fi re (o : Int) v < 0 by rw [slFill_cont (by rw [HHOM.out]; simp)]; omega))
                  have HSQ := Aside0.mk (show sl1 = sl by rw [← HSL1.out, HF.out]; simp)
                  go_wp2
                  first | go_end0 | ((try simp only [Exit.inBlock, Exit.then]); refine bodyPost_ret (results_none rfl _ _ _) rfl ?_)
                  rw [HO.out, HLE.out, HRE1.out, ← HSQ.out]
                  exact ⟨rfl, HS1.out.1, HB.out.setCell (p := ⟨r, m, none⟩) HR1.out _⟩
                | false =>
                  rw [Bool.false_or] at HFR
                  have hself : sl.set m v = sl := by
                    rw [← HV0.out]
                    have hm9 : m < sl.length := by have := HSI.out; have := HMN.out; omega
                    have : rd sl (m : Int) = sl[m] := by simp [rd, List.getD_eq_getElem?_getD, List.getElem?_eq_getElem hm9]
                    rw [this, List.set_getElem_self]
                  have HSQ := Aside0.mk (show sl.set m (slLeft J fah re (o : Int) v) = sl1 by rw [HLE.out, HFR.out, ← HSL1.out]; cases fr1 <;> simp [hself])
                  clear hself
                  go_wp2
                  go_meet
                  rw [HSQ.out, HRE1.out]
                  exact ⟨HHOM, HI, HB⟩
      · have hv0 : v = 0 := by have := HVR.out; omega
        obtain rfl : y = -1 := by have := HY.out; omega
        clear cv
        go_wp2
        go_meet
        subst hv0
        have e1 : slHit J re (o : Int) 0 = false := rfl
        have e2 : slHome J fah re (o : Int) 0 = false := rfl
        have e3 : slFreed J fah re (o : Int) 0 = false := by unfold slFreed; rw [e1, e2]; rfl
        have e4 : slRe J (t : Int) re (o : Int) 0 = re := by unfold slRe; rw [e1]; rfl
        have e5 : slLeft J fah re (o : Int) 0 = 0 := by rw [slLeft_eq, e3]; rfl
        have hself : sl.set m 0 = sl := by
          rw [← HV0.out]
          have hm9 : m < sl.length := by have := HSI.out; have := HMN.out; omega
          have : rd sl (m : Int) = sl[m] := by simp [rd, List.getD_eq_getElem?_getD, List.getElem?_eq_getElem hm9]
          rw [this, List.set_getElem_self]
        rw [e4, e5, hself]
        exact ⟨⟨e2⟩, HI, HB⟩
    case rest =>
      clear hk1 hc0 hc1 hc2 hc3 HI HB
      obtain ⟨HHOM, HI, HB⟩ := hcut
      have hlfr : 0 ≤ slLeft J fah re (o : Int) v ∧ slLeft J fah re (o : Int) v ≤ 20 := by rw [slLeft_eq]; have := HVR.out; have := HJ.out; split <;> omega
      have HCT := Aside0.mk (fun h => slOne_cont (J := J) (fah := fah) (t := (t : Int)) (m := m) (a := (o : Int)) (fi := fi) (re := re) HV0.out (show slFill J fah (t : Int) fi re (o : Int) v < 0 by rw [slFill_cont h]; omega))
      have HFL := Aside0.mk (fun h (i : Nat) (hx : slNext J (t : Int) fi (o : Int) J.length = (i : Int)) => slOne_fill (J := J) (fah := fah) (t := (t : Int)) (m := m) (a := (o : Int)) (fi := fi) (re := re) HV0.out ((slFill_next h).trans hx))
      have HNF := Aside0.mk (fun h (hx : slNext J (t : Int) fi (o : Int) J.length < 0) => slOne_cont (J := J) (fah := fah) (t := (t : Int)) (m := m) (a := (o : Int)) (fi := fi) (re := re) HV0.out (show slFill J fah (t : Int) fi re (o : Int) v < 0 by rw [slFill_next h]; exact hx))
      rw [HHOM.out] at HCT HFL HNF
      obtain ⟨lf, hlf⟩ : ∃ q, slLeft J fah re (o : Int) v = q := ⟨_, rfl⟩
      obtain ⟨re1, hre1⟩ : ∃ q, (slRe J (t : Int) re (o : Int) v) = q := ⟨_, rfl⟩
      rw [hlf] at hlfr HI HCT HFL HNF
      rw [hre1] at HI HCT HFL HNF
      obtain ⟨sl2, hsl2⟩ : ∃ q, sl.set m lf = q := ⟨_, rfl⟩
      have hl2 : sl2.length = n := by rw [← hsl2, List.length_set]; exact HSI.out.1
      have hr2 : rd sl2 (m : Int) = lf := by rw [← hsl2]; exact rd_set_eq _ _ _ (by have := HSI.out; have := HMN.out; omega)
      rw [hsl2] at HI HCT HFL HNF
      have HL2 := Aside0.mk hl2
      have HLF := Aside0.mk hlfr
      obtain ⟨A1, c1, hc0, hc1, hc2, hc3, hjc⟩ := HI.out.cells
      clear HJC
      have HJC := Aside0.mk hjc
      obtain ⟨hr1, hng1, _, hx1, hf1, hset1⟩ := HI.out.row1 (by have := HMN.out; omega)
      have hk1 := hx1 m (by have := HMN.out; omega)
      rw [hr2] at hk1
      clear hlf hre1 hsl2 hl2 hr2 hlfr hr1 hng1 hx1 hf1 hset1 hjc hc0 hc1 hc3
      by_cases q1 : 0 < lf
      · have c1b : decide (0 < lf) = true := decide_eq_true q1
        have HO := Aside0.mk (HCT.out (by rw [c1b]; rfl))
        have c1c := eq_true q1
        clear q1 hc2
        go_wp2
        first | go_end0 | ((try simp only [Exit.inBlock, Exit.then]); refine bodyPost_ret (results_none rfl _ _ _) rfl ?_)
        rw [HO.out]
        exact ⟨rfl, HI.out.1, HB.out⟩
      · have c1b : decide (0 < lf) = false := decide_eq_false q1
        have HFL2 := Aside0.mk (HFL.out (by rw [c1b]; rfl))
        have HNF2 := Aside0.mk (HNF.out (by rw [c1b]; rfl))
        have c1c := eq_false q1
        clear q1 HCT HFL HNF
        go_wp2
        go_loopg [115] (J.length + 1) (fun kq v115 w' => ∃ i : Nat, kq + i = J.length + 1 ∧ i ≤ J.length ∧ v115 = .int .i64 (i : Int) ∧ Aside0 (slNext J (t : Int) fi (o : Int) i = -1) ∧ Aside0 (IsU w0 w' g (n : Int) fah (t : Int) J sl2 fi re1 r c) ∧ Aside0 (Below w0.heap.size w0 w'))
        case atStart => exact ⟨0, by omega, by omega, rfl, ⟨rfl⟩, HI, HB⟩
        case round =>
          clear HI HB hk1 hc2 c1b c1c
          obtain ⟨i, hki, hij, rfl, HNX, HI, HB⟩ := hrel
          by_cases hi : i < J.length
          · have hb1 : decide ((i : Int) < (J.length : Int)) = true := decide_eq_true (by omega)
            have hb2 : decide (i < J.length) = true := decide_eq_true hi
            have HJL := Aside0.mk hi
            have HKI := Aside0.mk hki
            clear hi hki hij
            have hp : 0 ≤ (i : Int) := by omega
            have hq : (i : Int) < (J.length : Int) := by have := HJL.out; omega
            obtain ⟨ad, e1, hx0, hx1, hx2⟩ := at_T30 HJC.out (i : Int) hp hq
            cases e1
            simp only [Int.toNat_natCast] at hx0 hx1 hx2
            replace hx0 := pw_cell_below HB.out hx0
            replace hx1 := pw_cell_below HB.out hx1
            replace hx2 := pw_cell_below HB.out hx2
            replace hp := eq_true hp
            replace hq := eq_true hq
            have hq2 := eq_true HJL.out
            go_upto_region 13 with (fail)
            go_cut [7, 8] (fun v7 v8 wc => v7 = .int .i64 (i : Int) ∧ ∃ b, v8 = .pointer (some ⟨b, 0, none⟩) ∧ Aside0 (wc.heap[b]? = some (.cells #[.int .i64 (rd_T30 J (i : Int)).f0, .int .i64 (rd_T30 J (i : Int)).f1, .int .i64 (rd_T30 J (i : Int)).f2] 30 (0, 0))) ∧ Aside0 (IsU w0 wc g (n : Int) fah (t : Int) J sl2 fi re1 r c) ∧ Aside0 (Below w0.heap.size w0 wc) ∧ Aside0 (w0.heap.size ≤ b))
            case first =>
              go_wp2_with (first | ((with_reducible refine gate_dst (N := 8) rfl ?_); refine box_event ?hg (N := 8) ?hd (cs := #[.int .i64 0, .int .i64 0, .int .i64 0]) (t := 30) ?hr ?_; (case hd => rfl); (case hg => rfl); (case hr => first | (go_simp; done) | (go_simp; rfl)); intro b hg w13 hbox hb; have HI3 := Aside0.mk (IsU.below (by repeat (first | exact HI.out | apply IsU.drewN | apply IsU.drew)) hb); have HB3 := Aside0.mk (below_step (by repeat (first | exact HB.out | apply pw_below_drewN | apply below_drew1)) hb); have HBX := Aside0.mk hbox; have HGE := Aside0.mk (show w0.heap.size ≤ b by rw [hg]; exact (below_size (by repeat (first | exact HB.out | apply pw_below_drewN | apply below_drew1)))); clear hg hbox hb; have hk0 : w13.cell? ⟨b, 0, none⟩ = some (.int .i64 0) := (blk_cell HBX.out 0).trans rfl; have hk1 : w13.cell? ⟨b, 1, none⟩ = some (.int .i64 0) := (blk_cell HBX.out 1).trans rfl; have hk2 : w13.cell? ⟨b, 2, none⟩ = some (.int .i64 0) := (blk_cell HBX.out 2).trans rfl; have hf0 := blk_frozen HBX.out 0; have hf1 := blk_frozen HBX.out 1; have hf2 := blk_frozen HBX.out 2))
              go_meet
              refine ⟨rfl, b, rfl, ⟨?_⟩, ⟨?_⟩, ⟨?_⟩, HGE⟩
              · have h9 := blk_set (blk_set (blk_set HBX.out 0 (.int .i64 (rd_T30 J (i : Int)).f0)) 1 (.int .i64 (rd_T30 J (i : Int)).f1)) 2 (.int .i64 (rd_T30 J (i : Int)).f2)
                first | exact h9 | simpa using h9
              · have h9 := ((HI3.out.job HBX.out 0 (.int .i64 (rd_T30 J (i : Int)).f0)).job (blk_set HBX.out 0 (.int .i64 (rd_T30 J (i : Int)).f0)) 1 (.int .i64 (rd_T30 J (i : Int)).f1)).job (blk_set (blk_set HBX.out 0 (.int .i64 (rd_T30 J (i : Int)).f0)) 1 (.int .i64 (rd_T30 J (i : Int)).f1)) 2 (.int .i64 (rd_T30 J (i : Int)).f2)
                first | exact h9 | simpa using h9
              · exact ((HB3.out.setCell (p := ⟨b, 0, none⟩) HGE.out _).setCell (p := ⟨b, 1, none⟩) HGE.out _).setCell (p := ⟨b, 2, none⟩) HGE.out _
            case rest =>
              clear HI HB hx0 hx1 hx2 hp hq hq2 hb1 hb2
              obtain ⟨rfl, b, rfl, HBX, HI, HB, HGE⟩ := hcut
              have hk0 : wc.cell? ⟨b, 0, none⟩ = some (.int .i64 (rd_T30 J (i : Int)).f0) := (blk_cell HBX.out 0).trans rfl
              have hk1 : wc.cell? ⟨b, 1, none⟩ = some (.int .i64 (rd_T30 J (i : Int)).f1) := (blk_cell HBX.out 1).trans rfl
              obtain ⟨A2, c2, hc0, hc1, hc2, hc3, _⟩ := HI.out.cells
              obtain ⟨r4, c4, hc5, hr4, hng4, _, hx4, hf4, hset4⟩ := HI.out.row2 (by have := HSI.out; have := HJL.out; omega)
              have hk5 := hx4 i (by have := HSI.out; have := HJL.out; omega)
              have HF4 := Aside0.mk (hf4 i)
              have HS4 := Aside0.mk (hset4 i (t : Int))
              have HR4 := Aside0.mk hr4
              have hp : (0 ≤ (i : Int)) = True := eq_true (by omega)
              have hq : ((i : Int) < (fi.length : Int)) = True := eq_true (by have := HSI.out; have := HJL.out; omega)
              have hq2 : (i < fi.length) = True := eq_true (by have := HSI.out; have := HJL.out; omega)
              clear hx4 hf4 hset4 hr4 hng4 hc0 hc1 hc2
              obtain ⟨wa, hwa⟩ : ∃ q, slWaits J (t : Int) fi (o : Int) i = q := ⟨_, rfl⟩
              have HWA := Aside0.mk hwa
              have HWA2 := Aside0.mk (show (decide ((rd_T30 J (i : Int)).f1 = (o : Int)) && (decide ((rd_T30 J (i : Int)).f0 ≤ (t : Int)) && decide (rd fi (i : Int) < 0))) = wa from hwa)
              clear hwa
              obtain ⟨wq, hwq⟩ : ∃ q, wc = q := ⟨_, rfl⟩
              rw [hwq] at HI HB HBX HS4 HF4 hk0 hk1 hc3 hc5 hk5
              rw [hwq]
              clear hwq
              go_upto_region 14 with (fail)
              go_cut [142] (fun v142 wd => v142 = .bool wa ∧ Aside0 (Drawn0 wq wd))
              case first =>
                by_cases q1 : (rd_T30 J (i : Int)).f1 = (o : Int)
                · have c1b : ((rd_T30 J (i : Int)).f1 == (o : Int)) = true := beq_iff_eq.mpr q1
                  have HC1 := Aside0.mk q1
                  clear q1
                  by_cases q2 : (rd_T30 J (i : Int)).f0 ≤ (t : Int)
                  · have c2b : decide ((rd_T30 J (i : Int)).f0 ≤ (t : Int)) = true := decide_eq_true q2
                    have HC2 := Aside0.mk c2b
                    clear q2
                    by_cases q3 : rd fi (i : Int) < 0
                    · have c3b : decide (rd fi (i : Int) < 0) = true := decide_eq_true q3
                      have HC3 := Aside0.mk c3b
                      clear q3
                      go_quiet (fail)
                      all_goals (try go_wp2)
                      all_goals go_meet
                      all_goals exact ⟨by rw [← HWA2.out, decide_eq_true HC1.out, HC2.out, HC3.out]; rfl, ⟨⟨_, rfl⟩⟩⟩
                    · have c3b : decide (rd fi (i : Int) < 0) = false := decide_eq_false q3
                      have HC3 := Aside0.mk c3b
                      clear q3
                      go_quiet (fail)
                      all_goals (try go_wp2)
                      all_goals go_meet
                      all_goals exact ⟨by rw [← HWA2.out, decide_eq_true HC1.out, HC2.out, HC3.out]; rfl, ⟨⟨_, rfl⟩⟩⟩
                  · have c2b : decide ((rd_T30 J (i : Int)).f0 ≤ (t : Int)) = false := decide_eq_false q2
                    have HC2 := Aside0.mk c2b
                    clear q2
                    go_quiet (fail)
                    all_goals (try go_wp2)
                    all_goals go_meet
                    all_goals exact ⟨by rw [← HWA2.out, decide_eq_true HC1.out, HC2.out]; rfl, ⟨⟨_, rfl⟩⟩⟩
                · have c1b : ((rd_T30 J (i : Int)).f1 == (o : Int)) = false := beq_eq_false_iff_ne.mpr q1
                  have HC1 := Aside0.mk q1
                  clear q1
                  go_quiet (fail)
                  all_goals (try go_wp2)
                  all_goals go_meet
                  all_goals exact ⟨by rw [← HWA2.out, decide_eq_false HC1.out]; rfl, ⟨⟨_, rfl⟩⟩⟩
              case rest =>
                obtain ⟨rfl, HD⟩ := hcut
                obtain ⟨nd, hnd⟩ := HD.out.out
                replace HI := Aside0.mk (show IsU w0 wc g (n : Int) fah (t : Int) J sl2 fi re1 r c from by rw [hnd]; exact HI.out.drewN nd)
                replace HB := Aside0.mk (show Below w0.heap.size w0 wc from by rw [hnd]; exact pw_below_drewN HB.out nd)
                have HS4' := Aside0.mk (show IsU w0 (wc.setCell ⟨r4, i, none⟩ (.int .i64 (t : Int))) g (n : Int) fah (t : Int) J sl2 (fi.set i (t : Int)) re1 r c from by rw [hnd]; exact HS4.out.drewN nd)
                clear HS4
                have HS4 := HS4'
                clear HS4'
                replace hc3 : wc.cell? ⟨g, 3, none⟩ = some (.int .i64 (t : Int)) := by rw [hnd]; exact hc3
                replace hc5 : wc.cell? ⟨g, 5, none⟩ = some (.slice (some ⟨r4, 0, none⟩) fi.length c4) := by rw [hnd]; exact hc5
                replace hk5 : wc.cell? ⟨r4, i, none⟩ = some (.int .i64 (rd fi (i : Int))) := by rw [hnd]; exact hk5
                replace HF4 := Aside0.mk (show wc.frozen? ⟨r4, i, none⟩ = false from by rw [hnd]; exact HF4.out)
                clear HD hnd hk0 hk1 HBX
                cases wa with
                | true =>
                  have HO := Aside0.mk (HFL2.out i (next_hit HNX.out HWA.out HJL.out))
                  go_upto_region 15 with (fail)
                  go_cut [] (fun we => Aside0 (IsU w0 we g (n : Int) fah (t : Int) J sl2 (fi.set i (t : Int)) re1 r c) ∧ Aside0 (Below w0.heap.size w0 we))
                  case first =>
                    have hfz := HF4.out
                    go_still_tail 10, (by kernel_rfl)
                    change wpList _ _ _ _ _ (World.drew _)
                    go_wp2
                    go_meet
                    exact ⟨⟨IsU.drew HS4.out⟩, ⟨below_drew1 (HB.out.setCell (p := ⟨r4, i, none⟩) HR4.out _)⟩⟩
                  case rest =>
                    clear HI HB hc3 hc5 hk5 HS4 HF4 hp hq hq2
                    obtain ⟨HI, HB⟩ := hcut
                    obtain ⟨hr1, hng1, _, hx1, hf1, hset1⟩ := HI.out.row1 (by have := HL2.out; have := HMN.out; omega)
                    have hk3 := hx1 m (by have := HL2.out; have := HMN.out; omega)
                    have hfz := hf1 m
                    obtain ⟨i1, hi1⟩ : ∃ q : Int, (i : Int) + 1 = q := ⟨_, rfl⟩
                    have hw1 : IntKind.i64.wrap ((i : Int) + 1) = i1 := by rw [IntKind.wrap_i64, ← hi1]; have := HJL.out; have := HJ.out; omega
                    have HS1 := Aside0.mk (hset1 m i1)
                    have HR1 := Aside0.mk hr1
                    have HI1 := Aside0.mk hi1
                    clear hr1 hng1 hx1 hf1 hset1 hi1
                    go_wp2
                    first | go_end0 | ((try simp only [Exit.inBlock, Exit.then]); refine bodyPost_ret (results_none rfl _ _ _) rfl ?_)
                    rw [HO.out, HI1.out]
                    first | exact ⟨rfl, HS1.out.1, HB.out.setCell (p := ⟨r, m, none⟩) HR1.out _⟩ | (rw [HI1.out]; exact ⟨rfl, HS1.out.1, HB.out.setCell (p := ⟨r, m, none⟩) HR1.out _⟩)
                | false =>
                  have HNX2 := Aside0.mk (next_miss HNX.out HWA.out)
                  clear hc3 hc5 hk5 hp hq hq2
                  go_wp2
                  go_roundg (J.length - i)
                  case measure => have := HKI.out; have := HJL.out; omega
                  case rel => exact ⟨i + 1, by have := HJL.out; omega, by have := HJL.out; omega, by have := HJL.out; have := HJ.out; first | rfl | (rw [wrapS (by omega) (by omega)]; rfl), HNX2, HI, HB⟩
          · obtain rfl : i = J.length := by omega
            have hb1 : decide ((J.length : Int) < (J.length : Int)) = false := decide_eq_false (by omega)
            have hb2 : decide (J.length < J.length) = false := decide_eq_false hi
            have HO := Aside0.mk (HNF2.out (by rw [HNX.out]; omega))
            clear hi
            go_wp2
            first | go_end0 | ((try simp only [Exit.inBlock, Exit.then]); refine bodyPost_ret (results_none rfl _ _ _) rfl ?_)
            rw [HO.out]
            exact ⟨rfl, HI.out.1, HB.out⟩

end Go.Proofs.Ytgkbeejkbhhjkaa.X
