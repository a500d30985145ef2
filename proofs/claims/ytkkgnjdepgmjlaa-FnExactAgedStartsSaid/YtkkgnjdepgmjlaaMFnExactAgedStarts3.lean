/- Several texts of this session in one: X26, X27, X29, X30, X31, X32, X33. -/
import Derived.Test.YtkkgnjdepgmjlaaMFnExactAgedStarts0
import Derived.Test.YtkkgnjdepgmjlaaMFnExactAgedStarts2
import Derived.Test.YtkkgnjdepgmjlaaMFnExactAgedStarts1
/- What the functions of the program come to, and that they do: written by this session's program wip/xprint.py out of the translation; parts named extern are typed by hand. -/
namespace Go.Proofs.Ytkkgnjdepgmjlaa.X
open Go.RowKit Go.Proofs.YtkkgnjdepgmjlaaW.PrintWords Go.Proofs.YtkkgnjdepgmjlaaW.PrintLast Go.Proofs.YtkkgnjdepgmjlaaW.PrintMore
attribute [local go_sem] max2_int min2_int max_two min_two max_three min_three max_four min_four   -- for this text's walks alone
set_option linter.unusedVariables false
set_option linter.unusedSimpArgs false

/-! ### spec_l1Least: function 75 -/
def spec_l1Least.f (a0 : Int) (a1 : Int) : Option (Int) := if a0 < a1 then (some a0) else (some a1)
set_option maxHeartbeats 8000000 in
set_option maxRecDepth 100000 in
theorem spec_l1Least.calls (a0 : Int) (a1 : Int) (r : Int) (w : World) (h : spec_l1Least.f a0 a1 = some r) :
    Calls Try.prog 75 #[.int .i64 a0, .int .i64 a1] w fun e w' => e = .returned (.int .i64 r) ∧ Drawn0 w w' := by
  have H : (if a0 < a1 then (some a0) else (some a1)) = some r := h
  clear h
  by_cases c3 : a0 < a1
  · rw [if_pos c3] at H
    have c3b0 : decide (a0 < a1) = true := decide_eq_true c3
    clear c3
    obtain rfl := Option.some.inj H
    go_enter Try.func75, Try.ntmps75
    go_wp2
    go_ret
    exact ⟨by first | rfl | (simp; done) | (simp [*]; done), by repeat (first | exact Drawn0.refl _ | apply Drawn0.step)⟩
  · rw [if_neg c3] at H
    have c3b0 : decide (a0 < a1) = false := decide_eq_false c3
    clear c3
    obtain rfl := Option.some.inj H
    go_enter Try.func75, Try.ntmps75
    go_wp2
    go_ret
    exact ⟨by first | rfl | (simp; done) | (simp [*]; done), by repeat (first | exact Drawn0.refl _ | apply Drawn0.step)⟩

end Go.Proofs.Ytkkgnjdepgmjlaa.X

/- What the functions of the program come to, and that they do: written by this session's program wip/xprint.py out of the translation; parts named extern are typed by hand. -/
namespace Go.Proofs.Ytkkgnjdepgmjlaa.X
open Go.RowKit Go.Proofs.YtkkgnjdepgmjlaaW.PrintWords Go.Proofs.YtkkgnjdepgmjlaaW.PrintLast Go.Proofs.YtkkgnjdepgmjlaaW.PrintMore
attribute [local go_sem] max2_int min2_int max_two min_two max_three min_three max_four min_four   -- for this text's walks alone
set_option linter.unusedVariables false
set_option linter.unusedSimpArgs false

/-! ### spec_prLine_skip: function 55 -/
/- EXTERN, by hand (wip/hand/prline.py): a line of jobs: what its block holds, and its own row of starts. -/
theorem add0 (r i : Nat) : (⟨r, 0, none⟩ : Addr).add i = ⟨r, i, none⟩ := by cases i <;> simp [Addr.add]
theorem wrap_small {x : Int} (h1 : -9223372036854775808 ≤ x) (h2 : x ≤ 9223372036854775807) : wrap64 x = x := by unfold wrap64; omega
def IsL (w0 W : World) (g : Nat) (jobs : List (S43)) (starts : List Int) (now done : Int) : Prop :=
  ∃ A0 c0, ∃ sv : Value, W.heap[g]? = some (.cells #[.slice A0 jobs.length c0, sv, .int .i64 now, .int .i64 done] 57 (0, 0)) ∧ w0.heap.size ≤ g ∧ Kd.C k43 w0 A0 jobs.length jobs ∧ Kd.R (Kd.int .i64) 3 W w0.heap.size (fun k_ => k_ ≠ g) sv starts
theorem IsL.below {w0 W w1 : World} {g : Nat} {jobs : List (S43)} {starts : List Int} {now done : Int} (h : IsL w0 W g jobs starts now done) (hb : Below W.heap.size W w1) : IsL w0 w1 g jobs starts now done := by
  obtain ⟨A0, c0, sv, h1, h2, h3, h4⟩ := h
  exact ⟨A0, c0, sv, blk_below h1 hb, h2, h3, Kd.R_below h4 hb⟩
theorem IsL.drewN {w0 W : World} {g : Nat} {jobs : List (S43)} {starts : List Int} {now done : Int} (h : IsL w0 W g jobs starts now done) (m : Nat) : IsL w0 (W.drewN m) g jobs starts now done := h
theorem IsL.drew {w0 W : World} {g : Nat} {jobs : List (S43)} {starts : List Int} {now done : Int} (h : IsL w0 W g jobs starts now done) : IsL w0 W.drew g jobs starts now done := h
theorem IsL.lt {w0 W : World} {g : Nat} {jobs : List (S43)} {starts : List Int} {now done : Int} (h : IsL w0 W g jobs starts now done) : g < W.heap.size := by
  obtain ⟨A0, c0, sv, h1, _⟩ := h
  exact blk_lt h1
theorem IsL.ge {w0 W : World} {g : Nat} {jobs : List (S43)} {starts : List Int} {now done : Int} (h : IsL w0 W g jobs starts now done) : w0.heap.size ≤ g := by
  obtain ⟨A0, c0, sv, _, h2, _⟩ := h
  exact h2
theorem IsL.q {w0 W : World} {g : Nat} {jobs : List (S43)} {starts : List Int} {now done : Int} (h : IsL w0 W g jobs starts now done) (hb : Below w0.heap.size w0 W) : IsS57 W W g jobs starts now done := by
  obtain ⟨A0, c0, sv, h1, h2, h3, h4⟩ := h
  obtain ⟨A1, c1, e1⟩ := Kd.R_slice h4
  subst e1
  exact ⟨A0, c0, A1, c1, h1, trivial, Kd.C_below h3 hb, (Kd.R_reads' h4).2.2⟩
theorem IsL.set_2 {w0 W : World} {g : Nat} {jobs : List (S43)} {starts : List Int} {now done : Int} (h : IsL w0 W g jobs starts now done) (x : Int) : IsL w0 (W.setCell ⟨g, 2, none⟩ (.int .i64 x)) g jobs starts x done := by
  obtain ⟨A0, c0, sv, h1, h2, h3, h4⟩ := h
  exact ⟨A0, c0, sv, by simpa using blk_set h1 2 (.int .i64 x), h2, h3, Kd.R_far (p := ⟨g, 2, none⟩) h4 (fun _ hk => hk) _⟩
theorem IsL.set_3 {w0 W : World} {g : Nat} {jobs : List (S43)} {starts : List Int} {now done : Int} (h : IsL w0 W g jobs starts now done) (x : Int) : IsL w0 (W.setCell ⟨g, 3, none⟩ (.int .i64 x)) g jobs starts now x := by
  obtain ⟨A0, c0, sv, h1, h2, h3, h4⟩ := h
  exact ⟨A0, c0, sv, by simpa using blk_set h1 3 (.int .i64 x), h2, h3, Kd.R_far (p := ⟨g, 3, none⟩) h4 (fun _ hk => hk) _⟩
/-- A start is laid down: where the row lies, and the state behind it. -/
theorem IsL.row {w0 W : World} {g : Nat} {jobs : List (S43)} {starts : List Int} {now done : Int} (h : IsL w0 W g jobs starts now done) (hp : 0 < starts.length) :
    ∃ A0 c0 r c, W.heap[g]? = some (.cells #[.slice A0 jobs.length c0, .slice (some ⟨r, 0, none⟩) starts.length c, .int .i64 now, .int .i64 done] 57 (0, 0)) ∧ Kd.C k43 w0 A0 jobs.length jobs ∧ w0.heap.size ≤ r ∧ r ≠ g ∧ Kd.C (Kd.int .i64) W (some ⟨r, 0, none⟩) starts.length starts ∧
      (∃ cells, W.heap[r]? = some (.cells cells 3 (0, 0))) ∧ ∀ (i : Nat) (x : Int), IsL w0 (W.setCell ⟨r, i, none⟩ (.int .i64 x)) g jobs (starts.set i x) now done := by
  obtain ⟨A0, c0, sv, h1, h2, h3, h4⟩ := h
  obtain ⟨r, c, e, hb, hl, hce⟩ := Kd.R_form h4 hp
  subst e
  have hne : r ≠ g := h4.1 r rfl
  refine ⟨A0, c0, r, c, h1, h3, hb, hne, (Kd.R_reads' h4).2.2, hce, fun i x => ?_⟩
  have h5 := Kd.R_putn h4 (i : Int) x
  rw [Int.toNat_natCast] at h5
  refine ⟨A0, c0, .slice (some ⟨r, 0, none⟩) starts.length c, blk_far h1 (Ne.symm hne) _, h2, h3, ?_⟩
  exact h5
set_option maxHeartbeats 8000000 in
set_option maxRecDepth 100000 in
theorem prNew_calls (A0 : Option Addr) (c0 : Nat) (jobs : List (S43)) (w : World) (hr0 : Kd.C k43 w A0 jobs.length jobs) (h : jobs.length ≤ 20) :
    Calls Try.prog 54 #[.slice A0 jobs.length c0] w fun e w' => ∃ g : Nat, e = .returned (.pointer (some ⟨g, 0, none⟩)) ∧ IsL w w' g jobs (List.replicate jobs.length (-1)) 0 0 ∧ Below w.heap.size w w' := by
  have HR0 := Aside0.mk hr0
  have HN := Aside0.mk h
  have HB := Aside0.mk (Below.refl w.heap.size w)
  clear hr0 h
  obtain ⟨n, hn⟩ : ∃ n, jobs.length = n := ⟨_, rfl⟩
  have HNN := Aside0.mk hn
  rw [hn]
  rw [hn] at HN
  clear hn
  go_enter Try.func54, Try.ntmps54
  go_wp2_with (first | ((with_reducible refine gate_dst (N := 6) rfl ?_); refine box_event ?hg (N := 6) ?hd (cs := #[.slice A0 n c0, .slice none 0 0, .int .i64 0, .int .i64 0]) (t := 57) ?hr ?_; (case hd => rfl); (case hg => rfl); (case hr => first | (go_simp; done) | (go_simp; rfl)); intro g hg w3 hbox hb; have HI := Aside0.mk (show IsL w w3 g jobs [] 0 0 from ⟨A0, c0, .slice none 0 0, by rw [HNN.out]; exact hbox, by rw [hg]; exact (below_size (by repeat (first | (with_reducible first | exact HB.out | apply below_alloc | apply pw_below_drewN | apply below_drew1) | exact HB.out))), HR0.out, Kd.R_nil _ _ _ _ _⟩); have HB1 := Aside0.mk (below_step (by repeat (first | (with_reducible first | exact HB.out | apply below_alloc | apply pw_below_drewN | apply below_drew1) | exact HB.out)) hb); clear HB; have HB := HB1; clear HB1 hb hbox hg))
  go_loopg [9] (n + 1) (fun kq v9 w' => ∃ i : Nat, v9 = .int .i64 (i : Int) ∧ Aside0 (i ≤ n ∧ n - i + 1 ≤ kq) ∧ Aside0 (IsL w w' g jobs (List.replicate i (-1)) 0 0) ∧ Aside0 (Below w.heap.size w w'))
  case atStart => exact ⟨0, rfl, ⟨by omega, by omega⟩, ⟨by repeat (first | exact HI.out | apply IsL.drewN)⟩, ⟨(by repeat (first | (with_reducible first | exact HB.out | apply below_alloc | apply pw_below_drewN | apply below_drew1) | exact HB.out))⟩⟩
  case round =>
    clear HI HB
    obtain ⟨i, rfl, HM, HI, HB⟩ := hrel
    by_cases hi : i < n
    · have hib : decide ((i : Int) < n) = true := decide_eq_true (by omega)
      have hib2 : decide (i < n) = true := decide_eq_true hi
      have HI2 := Aside0.mk hi
      clear hi
      obtain ⟨A0', c0', sv, h1, h2, h3, h4⟩ := HI.out
      have H4 := Aside0.mk h4
      have H3 := Aside0.mk h3
      have HG := Aside0.mk h1
      have hcs : wr.cell? ⟨g, 1, none⟩ = some sv := (blk_cell h1 1).trans rfl
      have HLT := Aside0.mk (blk_lt h1)
      have HGE := Aside0.mk h2
      clear h1 h2 h3 h4
      go_wp2_with (first | ((with_reducible refine gate_builtin (b := .append) (xs := #[.tmp 15, .tmp 16]) rfl ?_); at_builtin; refine Kd.R_append (Kd.int .i64) w.heap.size rfl (.tmp 15) (.tmp 16) 23 3 (.int .i64 0) 8 rfl Try.underlying23 info3 rfl (by decide) (by omega) sv (List.replicate i (-1)) (-1) [.int .i64 (-1)] (fun k_ => k_ ≠ g) (fun _ => False) rfl (by first | (go_simp; done) | (go_simp; rfl)) ?aP (fun _ hk => hk.elim) ?aF ?aO (Below.refl _ _) ?aS ?aL ?_; (case aP => exact rfl); (case aF => intro k_ hk_ e_; subst e_; exact absurd hk_ (Nat.not_le.2 HLT.out)); (case aO => exact (by (with_reducible repeat (first | apply Kd.R_alloc | apply Kd.R_drewN | apply Kd.R_drew)); exact H4.out)); (case aS => exact (below_size (by repeat (first | (with_reducible first | exact HB.out | apply below_alloc | apply pw_below_drewN | apply below_drew1) | exact HB.out)))); (case aL => have := HN.out; have := HI2.out; simp; omega); intro v17 w17 ho hb hg hat; have hblk := Aside0.mk (blk_grown (by (with_reducible repeat (first | refine blk_drewN ?_ _ | refine blk_drew ?_ | refine blk_alloc ?_ _)); exact HG.out) hg (fun e_ => H4.out.1 g e_.symm rfl)); have HB17 := Aside0.mk (below_weaken (by repeat (first | (with_reducible first | exact HB.out | apply below_alloc | apply pw_below_drewN | apply below_drew1) | exact HB.out)) (Nat.le_refl _) hb); have HO17 := Aside0.mk ho; clear ho hb hg hat; have hc17 : w17.cell? ⟨g, 1, none⟩ = some sv := (blk_cell hblk.out 1).trans rfl; have hf17 := blk_frozen hblk.out 1; obtain ⟨A17, c17, e17⟩ := Kd.R_slice HO17.out; subst e17))
      go_roundg (n - (i + 1) + 1)
      case measure => have := HM.out; have := HI2.out; omega
      case rel =>
        refine ⟨i + 1, (by have := HI2.out; have := HN.out; first | rfl | (rw [wrap_small (by omega) (by omega)]; rfl)), ⟨by have := HI2.out; omega, Nat.le_refl _⟩, ⟨?_⟩, ⟨?_⟩⟩
        · refine ⟨A0', c0', _, by simpa using blk_set hblk.out 1 (.slice A17 (i + 1) c17), HGE.out, H3.out, ?_⟩
          have h5 := Kd.R_far (p := ⟨g, 1, none⟩) HO17.out (fun _ hk => hk) (.slice A17 (i + 1) c17)
          have hlen : ((List.replicate i (-1 : Int)) ++ [(-1 : Int)]).length = i + 1 := by simp
          rw [hlen] at h5
          rw [List.replicate_succ']
          exact h5
        · exact HB17.out.setCell HGE.out _
    · obtain rfl : i = n := by have := HM.out; omega
      have hib : decide ((i : Int) < i) = false := decide_eq_false (by omega)
      have hib2 : decide (i < i) = false := decide_eq_false hi
      clear hi
      go_wp2
      go_ret
      exact ⟨g, rfl, HI.out, HB.out⟩
/-- A job waits. -/
def waitsB (jobs : List (S43)) (starts : List Int) (now : Int) (i : Nat) : Bool := decide (rd starts (i : Int) < 0) && decide ((rd_T43 jobs (i : Int)).f0 ≤ now)
/-- One of the first m jobs waits. -/
def someB (jobs : List (S43)) (starts : List Int) (now : Int) : Nat → Bool
  | 0 => false
  | m + 1 => someB jobs starts now m || waitsB jobs starts now m
theorem someB_of {jobs : List (S43)} {starts : List Int} {now : Int} {i : Nat} (h : waitsB jobs starts now i = true) : ∀ n, i < n → someB jobs starts now n = true
  | 0, hn => absurd hn (by omega)
  | n + 1, hn => by
    unfold someB
    by_cases e : i = n
    · subst e
      rw [h, Bool.or_true]
    · rw [someB_of h n (by omega), Bool.true_or]
theorem IsS57.drewn {W : World} {g : Nat} {jobs : List (S43)} {starts : List Int} {now done : Int} (h : IsS57 W W g jobs starts now done) (m : Nat) : IsS57 (W.drewN m) (W.drewN m) g jobs starts now done := by
  obtain ⟨A0, c0, A1, c1, h1, h2, h3, h4⟩ := h
  exact ⟨A0, c0, A1, c1, h1, h2, h3, h4⟩
set_option maxHeartbeats 8000000 in
set_option maxRecDepth 100000 in
theorem prWaits_q (g i : Nat) (jobs : List (S43)) (starts : List Int) (now done : Int) (w : World) (hI : IsS57 w w g jobs starts now done) (hi : i < jobs.length) (hl : starts.length = jobs.length) :
    Calls Try.prog 69 #[.pointer (some ⟨g, 0, none⟩), .int .i64 (i : Int)] w fun e w' => e = .returned (.bool (waitsB jobs starts now i)) ∧ Drawn0 w w' := by
  have hu43 := Try.underlying43
  obtain ⟨A0, c0, A1, c1, h1, h2, h3, h4⟩ := hI
  have hc0 : w.cell? ⟨g, 0, none⟩ = some (.slice A0 jobs.length c0) := (blk_cell h1 0).trans rfl
  have hc1 : w.cell? ⟨g, 1, none⟩ = some (.slice A1 starts.length c1) := (blk_cell h1 1).trans rfl
  have hc2 : w.cell? ⟨g, 2, none⟩ = some (.int .i64 now) := (blk_cell h1 2).trans rfl
  have hp : 0 ≤ (i : Int) := by omega
  have hq : (i : Int) < (jobs.length : Int) := by omega
  have hr : (i : Int) < (starts.length : Int) := by omega
  obtain ⟨ad, e1, hx0, hx1, hx2⟩ := at_T43 h3 (i : Int) hp hq
  obtain ⟨ad2, e2, hy⟩ := Kd.at_int h4 (i : Int) hp hr
  cases e1
  cases e2
  simp only [Int.toNat_natCast] at hx0 hx1 hx2 hy
  replace hp := eq_true hp
  replace hq := eq_true hq
  replace hr := eq_true hr
  clear h1 h2 h3 h4 hi hl hx1 hx2
  unfold waitsB
  by_cases c : rd starts (i : Int) < 0
  · have cb : decide (rd starts (i : Int) < 0) = true := decide_eq_true c
    rw [cb, Bool.true_and]
    clear c
    go_enter Try.func69, Try.ntmps69
    go_wp2
    repeat (go_quiet (fail); try go_wp2)
    go_ret
    exact ⟨rfl, (by first | exact Drawn0.refl _ | exact Drawn0.step (Drawn0.refl _) _ | exact Drawn0.step (Drawn0.step (Drawn0.refl _) _) _)⟩
  · have cb : decide (rd starts (i : Int) < 0) = false := decide_eq_false c
    rw [cb, Bool.false_and]
    clear c
    go_enter Try.func69, Try.ntmps69
    go_wp2
    repeat (go_quiet (fail); try go_wp2)
    go_ret
    exact ⟨rfl, (by first | exact Drawn0.refl _ | exact Drawn0.step (Drawn0.refl _) _ | exact Drawn0.step (Drawn0.step (Drawn0.refl _) _) _)⟩
set_option maxHeartbeats 8000000 in
set_option maxRecDepth 100000 in
theorem prSome_q (g : Nat) (jobs : List (S43)) (starts : List Int) (now done : Int) (w : World) (hI : IsS57 w w g jobs starts now done) (hn : jobs.length ≤ 20) (hl : starts.length = jobs.length) :
    Calls Try.prog 74 #[.pointer (some ⟨g, 0, none⟩)] w fun e w' => e = .returned (.bool (someB jobs starts now jobs.length)) ∧ Drawn0 w w' := by
  have HQ := Aside0.mk hI
  have HN := Aside0.mk hn
  have HL := Aside0.mk hl
  obtain ⟨A0, c0, A1, c1, h1, h2, h3, h4⟩ := hI
  have hc0 : w.cell? ⟨g, 0, none⟩ = some (.slice A0 jobs.length c0) := (blk_cell h1 0).trans rfl
  clear h1 h2 h3 h4 hn hl
  go_enter Try.func74, Try.ntmps74
  go_wp2
  go_loopg [9] (jobs.length + 1) (fun kq v9 w' => ∃ i : Nat, v9 = .int .i64 (i : Int) ∧ Aside0 (i ≤ jobs.length ∧ jobs.length - i + 1 ≤ kq) ∧ Aside0 (someB jobs starts now i = false) ∧ Drawn0 w w')
  case atStart => exact ⟨0, rfl, ⟨by omega, by omega⟩, ⟨rfl⟩, (by first | exact Drawn0.refl _ | exact Drawn0.step (Drawn0.refl _) _ | exact Drawn0.step (Drawn0.step (Drawn0.refl _) _) _)⟩
  case round =>
    obtain ⟨i, rfl, HM, HF, ⟨nd0, rfl⟩⟩ := hrel
    by_cases hi : i < jobs.length
    · have hib : decide ((i : Int) < jobs.length) = true := decide_eq_true (by omega)
      have hib2 : decide (i < jobs.length) = true := decide_eq_true hi
      have HI2 := Aside0.mk hi
      clear hi
      cases hw : waitsB jobs starts now i with
      | true =>
        have HW := Aside0.mk hw
        clear hw
        go_wp2_with (first | (go_at_call 69; (with_reducible refine (prWaits_q g i jobs starts now done _ ?s1 HI2.out HL.out).mono ?_); (case s1 => exact IsS57.drewn HQ.out _); rintro e w' ⟨rfl, ⟨nd, rfl⟩⟩; rw [HW.out]) | ((with_reducible refine gate_callee (f := 69) rfl ?_); refine goesL_ (some 14) rfl rfl Try.func69 (by kernel_rfl) rfl #[.pointer (some ⟨g, 0, none⟩), .int .i64 (i : Int)] rfl (by (try simp only [List.map_toArray, List.map_cons, List.map_nil]); first | done | rfl) ?_; (with_reducible refine (prWaits_q g i jobs starts now done _ ?s1 HI2.out HL.out).mono ?_); (case s1 => exact IsS57.drewn HQ.out _); rintro e w' ⟨rfl, ⟨nd, rfl⟩⟩; refine ⟨_, rfl, ?_⟩; rw [HW.out]))
        go_ret
        exact ⟨by rw [someB_of HW.out _ HI2.out]; rfl, (by first | exact Drawn0.refl _ | exact Drawn0.step (Drawn0.refl _) _ | exact Drawn0.step (Drawn0.step (Drawn0.refl _) _) _)⟩
      | false =>
        have HW := Aside0.mk hw
        clear hw
        go_wp2_with (first | (go_at_call 69; (with_reducible refine (prWaits_q g i jobs starts now done _ ?s1 HI2.out HL.out).mono ?_); (case s1 => exact IsS57.drewn HQ.out _); rintro e w' ⟨rfl, ⟨nd, rfl⟩⟩; rw [HW.out]) | ((with_reducible refine gate_callee (f := 69) rfl ?_); refine goesL_ (some 14) rfl rfl Try.func69 (by kernel_rfl) rfl #[.pointer (some ⟨g, 0, none⟩), .int .i64 (i : Int)] rfl (by (try simp only [List.map_toArray, List.map_cons, List.map_nil]); first | done | rfl) ?_; (with_reducible refine (prWaits_q g i jobs starts now done _ ?s1 HI2.out HL.out).mono ?_); (case s1 => exact IsS57.drewn HQ.out _); rintro e w' ⟨rfl, ⟨nd, rfl⟩⟩; refine ⟨_, rfl, ?_⟩; rw [HW.out]))
        go_roundg (jobs.length - (i + 1) + 1)
        case measure => have := HM.out; have := HI2.out; omega
        case rel => exact ⟨i + 1, (by have := HI2.out; have := HN.out; first | rfl | (rw [wrap_small (by omega) (by omega)]; rfl)), ⟨by have := HI2.out; omega, Nat.le_refl _⟩, ⟨by unfold someB; rw [HF.out, HW.out]; rfl⟩, (by first | exact Drawn0.refl _ | exact Drawn0.step (Drawn0.refl _) _ | exact Drawn0.step (Drawn0.step (Drawn0.refl _) _) _)⟩
    · obtain rfl : i = jobs.length := by have := HM.out; omega
      have hib : decide ((jobs.length : Int) < jobs.length) = false := decide_eq_false (by omega)
      have hib2 : decide (jobs.length < jobs.length) = false := decide_eq_false hi
      clear hi
      go_wp2
      go_ret
      exact ⟨by rw [HF.out]; rfl, (by first | exact Drawn0.refl _ | exact Drawn0.step (Drawn0.refl _) _ | exact Drawn0.step (Drawn0.step (Drawn0.refl _) _) _)⟩
/- EXTERN, by hand (wip/hand/prline.py): a job begins. -/
set_option maxHeartbeats 8000000 in
set_option maxRecDepth 100000 in
theorem prBegin_calls (g i : Nat) (jobs : List (S43)) (starts : List Int) (now done : Int) (w0 w : World) (hI : IsL w0 w g jobs starts now done) (hB : Below w0.heap.size w0 w) (hi : i < starts.length) (hj : i < jobs.length) :
    Calls Try.prog 57 #[.pointer (some ⟨g, 0, none⟩), .int .i64 (i : Int)] w fun e w' => e = .returned (.tuple #[]) ∧ IsL w0 w' g jobs (starts.set i now) (wrap64 (now + (rd_T43 jobs (i : Int)).f2)) (wrap64 (done + 1)) ∧ Below w0.heap.size w0 w' := by
  have hu43 := Try.underlying43
  have HB := Aside0.mk hB
  have HI0 := Aside0.mk hI
  have HJ := Aside0.mk hj
  have HS := Aside0.mk hi
  obtain ⟨A0, c0, r, c, hg, hjC, hr, hrg, hsC, ⟨cells, hrb⟩, hset⟩ := hI.row (by omega)
  have HSET := Aside0.mk hset
  have HJC := Aside0.mk hjC
  have HR := Aside0.mk hr
  have HG := Aside0.mk hI.ge
  clear hset hI hB
  go_enter Try.func57, Try.ntmps57
  go_upto_region 0 with (fail)
  go_cut [] (fun wc => Aside0 (IsL w0 wc g jobs (starts.set i now) now done) ∧ Aside0 (Below w0.heap.size w0 wc))
  case first =>
    have hc1 : w.cell? ⟨g, 1, none⟩ = some (.slice (some ⟨r, 0, none⟩) starts.length c) := (blk_cell hg 1).trans rfl
    have hc2 : w.cell? ⟨g, 2, none⟩ = some (.int .i64 now) := (blk_cell hg 2).trans rfl
    have hp : 0 ≤ (i : Int) := by omega
    have hq : (i : Int) < (starts.length : Int) := by omega
    obtain ⟨ad, e1, hx⟩ := Kd.at_int hsC (i : Int) hp hq
    cases e1
    have hfr := blk_frozen hrb i
    replace hp := eq_true hp
    replace hq := eq_true hq
    rw [Int.toNat_natCast] at hx
    have hx2 : w.cell? ⟨r, i, none⟩ = some (.int .i64 (rd starts (i : Int))) := by rw [← add0]; exact hx
    clear hx hi hj
    go_still_tail 10, (by kernel_rfl)
    change wpList _ _ _ _ _ (World.drew _)
    go_wp2
    go_meet
    exact ⟨⟨IsL.drew (HSET.out i now)⟩, ⟨below_drew1 (show Below w0.heap.size w0 (w.setCell ⟨r, i, none⟩ (.int .i64 now)) from HB.out.setCell HR.out _)⟩⟩
  case rest =>
    clear hg hsC hrb hrg
    obtain ⟨HI, HBB⟩ := hcut
    obtain ⟨A1, c1, sv, h1, h2, h3, h4⟩ := HI.out
    have hc0 : wc.cell? ⟨g, 0, none⟩ = some (.slice A1 jobs.length c1) := (blk_cell h1 0).trans rfl
    have hc2 : wc.cell? ⟨g, 2, none⟩ = some (.int .i64 now) := (blk_cell h1 2).trans rfl
    have hf2 := blk_frozen h1 2
    have hp : 0 ≤ (i : Int) := by omega
    have hq : (i : Int) < (jobs.length : Int) := by omega
    obtain ⟨ad, e1, hx0, hx1, hx2⟩ := at_T43 h3 (i : Int) hp hq
    cases e1
    simp only [Int.toNat_natCast] at hx0 hx1 hx2
    replace hx0 := pw_cell_below HBB.out hx0
    replace hx1 := pw_cell_below HBB.out hx1
    replace hx2 := pw_cell_below HBB.out hx2
    replace hp := eq_true hp
    replace hq := eq_true hq
    clear h1 h2 h3 h4 hi hj
    go_upto_region 1 with (fail)
    go_cut [] (fun wd => Aside0 (IsL w0 wd g jobs (starts.set i now) (wrap64 (now + (rd_T43 jobs (i : Int)).f2)) done) ∧ Aside0 (Below w0.heap.size w0 wd))
    case first =>
      go_still_tail 15, (by kernel_rfl)
      change wpList _ _ _ _ _ (World.drew _)
      go_wp2
      go_meet
      exact ⟨⟨IsL.drew (HI.out.set_2 _)⟩, ⟨below_drew1 (show Below w0.heap.size w0 (wc.setCell ⟨g, 2, none⟩ _) from HBB.out.setCell HG.out _)⟩⟩
    case rest =>
      clear hc0 hc2 hf2 hx0 hx1 hx2
      obtain ⟨HI3, HB3⟩ := hcut
      obtain ⟨A1, c1, sv, h1, h2, h3, h4⟩ := HI3.out
      have hc3 : wc.cell? ⟨g, 3, none⟩ = some (.int .i64 done) := (blk_cell h1 3).trans rfl
      have hf3 := blk_frozen h1 3
      clear h1 h2 h3 h4
      go_wp2
      first | go_end0 | ((try simp only [Exit.inBlock, Exit.then]); refine bodyPost_ret (results_none rfl _ _ _) rfl ?_)
      exact ⟨rfl, HI3.out.set_3 _, show Below w0.heap.size w0 (wc.setCell ⟨g, 3, none⟩ _) from HB3.out.setCell HG.out _⟩
/-- The tick of the first job that has not begun. -/
def prNext (jobs : List (S43)) (starts : List Int) : Nat → Int
  | 0 => 5000
  | m + 1 => if rd starts (m : Int) < 0 then (if prNext jobs starts m < (rd_T43 jobs (m : Int)).f0 then prNext jobs starts m else (rd_T43 jobs (m : Int)).f0) else prNext jobs starts m
/-- The line is free until a job comes. -/
def skipB (jobs : List (S43)) (starts : List Int) (now done : Int) : Bool := !(someB jobs starts now jobs.length) && (done != (jobs.length : Int))
theorem IsL.box {w0 W : World} {g : Nat} {jobs : List (S43)} {starts : List Int} {now done : Int} (h : IsL w0 W g jobs starts now done) {b : Nat} {cs : Array Value} (hb : W.heap[b]? = some (.cells cs 43 (0, 0))) (j : Nat) (u : Value) : IsL w0 (W.setCell ⟨b, j, none⟩ u) g jobs starts now done := by
  obtain ⟨A0, c0, sv, h1, h2, h3, h4⟩ := h
  have hne : g ≠ b := by
    rintro rfl
    rw [hb] at h1
    injection h1 with h1
    injection h1 with _ h5
    exact absurd h5 (by decide)
  exact ⟨A0, c0, sv, blk_far h1 hne u, h2, h3, Kd.R_set h4 hb (by decide) j u⟩
theorem IsL.job {w0 W : World} {g : Nat} {jobs : List (S43)} {starts : List Int} {now done : Int} (h : IsL w0 W g jobs starts now done) {b : Nat} (hb : W.heap[b]? = some (.cells #[.int .i64 0, .int .i64 0, .int .i64 0] 43 (0, 0))) (x y z : Int) :
    IsL w0 (((W.setCell ⟨b, 0, none⟩ (.int .i64 x)).setCell ⟨b, 1, none⟩ (.int .i64 y)).setCell ⟨b, 2, none⟩ (.int .i64 z)) g jobs starts now done ∧ (((W.setCell ⟨b, 0, none⟩ (.int .i64 x)).setCell ⟨b, 1, none⟩ (.int .i64 y)).setCell ⟨b, 2, none⟩ (.int .i64 z)).heap[b]? = some (.cells #[.int .i64 x, .int .i64 y, .int .i64 z] 43 (0, 0)) := by
  have b1 := blk_put (cs' := #[.int .i64 x, .int .i64 0, .int .i64 0]) hb 0 (.int .i64 x) rfl
  have b2 := blk_put (cs' := #[.int .i64 x, .int .i64 y, .int .i64 0]) b1 1 (.int .i64 y) rfl
  have b3 := blk_put (cs' := #[.int .i64 x, .int .i64 y, .int .i64 z]) b2 2 (.int .i64 z) rfl
  exact ⟨((h.box hb 0 _).box b1 1 _).box b2 2 _, b3⟩
set_option maxHeartbeats 8000000 in
set_option maxRecDepth 100000 in
theorem prSkip_calls (g : Nat) (jobs : List (S43)) (starts : List Int) (now done : Int) (w0 w : World) (hI : IsL w0 w g jobs starts now done) (hB : Below w0.heap.size w0 w) (hl : starts.length = jobs.length) (hn : jobs.length ≤ 20) :
    Calls Try.prog 55 #[.pointer (some ⟨g, 0, none⟩)] w fun e w' => e = .returned (.bool (skipB jobs starts now done)) ∧ IsL w0 w' g jobs starts (if skipB jobs starts now done = true then prNext jobs starts jobs.length else now) done ∧ Below w0.heap.size w0 w' := by
  have hu43 := Try.underlying43
  have HB := Aside0.mk hB
  have HI := Aside0.mk hI
  have HL := Aside0.mk hl
  have HN := Aside0.mk hn
  have HQ0 := Aside0.mk (hI.q hB)
  clear hB hI hl hn
  obtain ⟨q, hq⟩ : ∃ q, skipB jobs starts now done = q := ⟨_, rfl⟩
  rw [hq]
  unfold skipB at hq
  have HQ := Aside0.mk hq
  clear hq
  go_enter Try.func55, Try.ntmps55
  go_upto_region 1 with (fail)
  go_cut [2, 19] (fun v2 v19 wc => v2 = .bool false ∧ v19 = .bool (!q) ∧ Aside0 (Drawn0 w wc))
  case first =>
    obtain ⟨A1, c1, sv, h1, h2, h3, h4⟩ := HI.out
    have hc3 : w.cell? ⟨g, 3, none⟩ = some (.int .i64 done) := (blk_cell h1 3).trans rfl
    have hc0 : w.cell? ⟨g, 0, none⟩ = some (.slice A1 jobs.length c1) := (blk_cell h1 0).trans rfl
    clear h1 h2 h3 h4
    cases hb : someB jobs starts now jobs.length with
    | true =>
      have HS := Aside0.mk hb
      rw [hb] at HQ
      clear hb
      go_quiet ((go_at_call 74; refine Calls.quiet_of (v := .bool true) ((prSome_q g jobs starts now done _ ?s1 HN.out HL.out).mono ?_); (case s1 => exact IsS57.drewn HQ0.out _); rintro e w' ⟨rfl, ⟨nd, rfl⟩⟩; exact ⟨by rw [HS.out], _, rfl⟩))
      (try go_wp2_with fail)
      go_meet
      exact ⟨rfl, by rw [← HQ.out]; rfl, ⟨⟨_, rfl⟩⟩⟩
    | false =>
      have HS := Aside0.mk hb
      rw [hb] at HQ
      clear hb
      by_cases hd : done = (jobs.length : Int)
      · have hd1 : (done == (jobs.length : Int)) = true := beq_iff_eq.mpr hd
        have HD := Aside0.mk hd
        clear hd
        go_quiet ((go_at_call 74; refine Calls.quiet_of (v := .bool false) ((prSome_q g jobs starts now done _ ?s1 HN.out HL.out).mono ?_); (case s1 => exact IsS57.drewn HQ0.out _); rintro e w' ⟨rfl, ⟨nd, rfl⟩⟩; exact ⟨by rw [HS.out], _, rfl⟩))
        (try go_wp2_with fail)
        go_meet
        exact ⟨rfl, by rw [← HQ.out, HD.out]; simp, ⟨⟨_, rfl⟩⟩⟩
      · have hd1 : (done == (jobs.length : Int)) = false := beq_eq_false_iff_ne.mpr hd
        have hd2 : (done != (jobs.length : Int)) = true := bne_iff_ne.mpr hd
        clear hd
        go_quiet ((go_at_call 74; refine Calls.quiet_of (v := .bool false) ((prSome_q g jobs starts now done _ ?s1 HN.out HL.out).mono ?_); (case s1 => exact IsS57.drewn HQ0.out _); rintro e w' ⟨rfl, ⟨nd, rfl⟩⟩; exact ⟨by rw [HS.out], _, rfl⟩))
        (try go_wp2_with fail)
        go_meet
        exact ⟨rfl, by rw [← HQ.out, hd2]; rfl, ⟨⟨_, rfl⟩⟩⟩
  case rest =>
    obtain ⟨rfl, rfl, HC0⟩ := hcut
    have HC := Aside0.mk HC0.out.below
    have HI1 := Aside0.mk (HI.out.below HC.out)
    have HB1 := Aside0.mk (below_step HB.out HC.out)
    clear HI HB HC HC0 HQ0
    cases q with
    | false =>
      go_wp2
      go_ret
      exact ⟨rfl, by simpa using HI1.out, HB1.out⟩
    | true =>
      obtain ⟨A1, c1, sv, h1, h2, h3, h4⟩ := HI1.out
      have H3 := Aside0.mk h3
      have HG := Aside0.mk h2
      have hc0 : wc.cell? ⟨g, 0, none⟩ = some (.slice A1 jobs.length c1) := (blk_cell h1 0).trans rfl
      clear h1 h2 h3 h4
      go_wp2
      go_loopg [3, 25] (jobs.length + 1) (fun kq v3 v25 w' => ∃ i : Nat, v3 = .int .i64 (prNext jobs starts i) ∧ v25 = .int .i64 (i : Int) ∧ Aside0 (i ≤ jobs.length ∧ jobs.length - i + 1 ≤ kq) ∧ Aside0 (IsL w0 w' g jobs starts now done) ∧ Aside0 (Below w0.heap.size w0 w'))
      case atStart => exact ⟨0, rfl, rfl, ⟨by omega, by omega⟩, ⟨by repeat (first | exact HI1.out | apply IsL.drewN | apply IsL.drew)⟩, ⟨by repeat (first | exact HB1.out | apply pw_below_drewN | apply below_drew1)⟩⟩
      case round =>
        clear HI1 HB1 hc0
        obtain ⟨i, rfl, rfl, HM, HI, HB⟩ := hrel
        by_cases hi : i < jobs.length
        · have hib : decide ((i : Int) < jobs.length) = true := decide_eq_true (by omega)
          have hib2 : decide (i < jobs.length) = true := decide_eq_true hi
          have HI2 := Aside0.mk hi
          have hp : 0 ≤ (i : Int) := by omega
          have hq : (i : Int) < (jobs.length : Int) := by omega
          obtain ⟨ad, e1, hx0, hx1, hx2⟩ := at_T43 H3.out (i : Int) hp hq
          cases e1
          simp only [Int.toNat_natCast] at hx0 hx1 hx2
          replace hx0 := pw_cell_below HB.out hx0
          replace hx1 := pw_cell_below HB.out hx1
          replace hx2 := pw_cell_below HB.out hx2
          replace hp := eq_true hp
          replace hq := eq_true hq
          clear hi
          go_upto_region 6 with (fail)
          go_cut [4, 5] (fun v4 v5 wc => v4 = .int .i64 (i : Int) ∧ ∃ b, v5 = .pointer (some ⟨b, 0, none⟩) ∧ Aside0 (wc.heap[b]? = some (.cells #[.int .i64 (rd_T43 jobs (i : Int)).f0, .int .i64 (rd_T43 jobs (i : Int)).f1, .int .i64 (rd_T43 jobs (i : Int)).f2] 43 (0, 0))) ∧ Aside0 (IsL w0 wc g jobs starts now done) ∧ Aside0 (Below w0.heap.size w0 wc))
          case first =>
            go_wp2_with (first | ((with_reducible refine gate_dst (N := 5) rfl ?_); refine box_event ?hg (N := 5) ?hd (cs := #[.int .i64 0, .int .i64 0, .int .i64 0]) (t := 43) ?hr ?_; (case hd => rfl); (case hg => rfl); (case hr => first | (go_simp; done) | (go_simp; rfl)); intro b hg w13 hbox hb; have HI3 := Aside0.mk (IsL.below (by repeat (first | exact HI.out | apply IsL.drewN | apply IsL.drew)) hb); have HB3 := Aside0.mk (below_step (by repeat (first | (with_reducible first | exact HB.out | apply below_alloc | apply pw_below_drewN | apply below_drew1) | exact HB.out)) hb); have HBX := Aside0.mk hbox; have HGE := Aside0.mk (show w0.heap.size ≤ b by rw [hg]; exact (below_size (by repeat (first | (with_reducible first | exact HB.out | apply below_alloc | apply pw_below_drewN | apply below_drew1) | exact HB.out)))); clear hg hbox hb; have hk0 : w13.cell? ⟨b, 0, none⟩ = some (.int .i64 0) := (blk_cell HBX.out 0).trans rfl; have hk1 : w13.cell? ⟨b, 1, none⟩ = some (.int .i64 0) := (blk_cell HBX.out 1).trans rfl; have hk2 : w13.cell? ⟨b, 2, none⟩ = some (.int .i64 0) := (blk_cell HBX.out 2).trans rfl; have hf0 := blk_frozen HBX.out 0; have hf1 := blk_frozen HBX.out 1; have hf2 := blk_frozen HBX.out 2))
            go_meet
            have hj := HI3.out.job HBX.out (rd_T43 jobs (i : Int)).f0 (rd_T43 jobs (i : Int)).f1 (rd_T43 jobs (i : Int)).f2
            refine ⟨rfl, b, rfl, ⟨by first | exact hj.2 | simpa using hj.2⟩, ⟨by first | exact hj.1 | simpa using hj.1⟩, ⟨?_⟩⟩
            exact ((HB3.out.setCell (p := ⟨b, 0, none⟩) HGE.out _).setCell (p := ⟨b, 1, none⟩) HGE.out _).setCell (p := ⟨b, 2, none⟩) HGE.out _
          case rest =>
            clear HI HB hx0 hx1 hx2
            obtain ⟨rfl, b, rfl, HBX, HI, HB⟩ := hcut
            have hk0 : wc.cell? ⟨b, 0, none⟩ = some (.int .i64 (rd_T43 jobs (i : Int)).f0) := (blk_cell HBX.out 0).trans rfl
            obtain ⟨A2, c2, sv2, h1, h2, h3, h4⟩ := HI.out
            obtain ⟨A3, c3, e3⟩ := Kd.R_slice h4
            subst e3
            have hs1 : wc.cell? ⟨g, 1, none⟩ = some (.slice A3 starts.length c3) := (blk_cell h1 1).trans rfl
            have hp2 : 0 ≤ (i : Int) := by omega
            have hq2 : (i : Int) < (starts.length : Int) := by have := HI2.out; have := HL.out; omega
            obtain ⟨ad3, e3, hy⟩ := Kd.at_int (Kd.R_reads' h4).2.2 (i : Int) hp2 hq2
            cases e3
            simp only [Int.toNat_natCast] at hy
            replace hp2 := eq_true hp2
            replace hq2 := eq_true hq2
            clear h1 h2 h3 h4
            by_cases c : rd starts (i : Int) < 0
            · have cb : decide (rd starts (i : Int) < 0) = true := decide_eq_true c
              have HLE := Aside0.mk (show spec_l1Least.f (prNext jobs starts i) (rd_T43 jobs (i : Int)).f0 = some (prNext jobs starts (i + 1)) by
                unfold spec_l1Least.f
                rw [prNext, if_pos c]
                split <;> rfl)
              clear c
              go_wp2_with (first | (go_at_call 75; (with_reducible refine (spec_l1Least.calls _ _ _ _ HLE.out).mono ?_); rintro e w' ⟨rfl, ⟨nd, rfl⟩⟩) | ((with_reducible refine gate_callee (f := 75) rfl ?_); refine goesL_ (some 41) rfl rfl Try.func75 (by kernel_rfl) rfl #[.int .i64 (prNext jobs starts i), .int .i64 (rd_T43 jobs (i : Int)).f0] rfl (by (try simp only [List.map_toArray, List.map_cons, List.map_nil]); first | done | rfl) ?_; (with_reducible refine (spec_l1Least.calls _ _ _ _ HLE.out).mono ?_); rintro e w' ⟨rfl, ⟨nd, rfl⟩⟩; refine ⟨_, rfl, ?_⟩))
              go_roundg (jobs.length - (i + 1) + 1)
              case measure => have := HM.out; have := HI2.out; omega
              case rel => exact ⟨i + 1, rfl, (by have := HI2.out; have := HN.out; first | rfl | (rw [wrap_small (by omega) (by omega)]; rfl)), ⟨by have := HI2.out; omega, Nat.le_refl _⟩, ⟨by repeat (first | exact HI.out | apply IsL.drewN | apply IsL.drew)⟩, ⟨(by repeat (first | (with_reducible first | exact HB.out | apply below_alloc | apply pw_below_drewN | apply below_drew1) | exact HB.out))⟩⟩
            · have cb : decide (rd starts (i : Int) < 0) = false := decide_eq_false c
              have HNX := Aside0.mk (show prNext jobs starts (i + 1) = prNext jobs starts i by rw [prNext, if_neg c])
              clear c
              go_wp2
              go_roundg (jobs.length - (i + 1) + 1)
              case measure => have := HM.out; have := HI2.out; omega
              case rel => exact ⟨i + 1, by rw [HNX.out], (by have := HI2.out; have := HN.out; first | rfl | (rw [wrap_small (by omega) (by omega)]; rfl)), ⟨by have := HI2.out; omega, Nat.le_refl _⟩, ⟨by repeat (first | exact HI.out | apply IsL.drewN | apply IsL.drew)⟩, ⟨(by repeat (first | (with_reducible first | exact HB.out | apply below_alloc | apply pw_below_drewN | apply below_drew1) | exact HB.out))⟩⟩
        · obtain rfl : i = jobs.length := by have := HM.out; omega
          have hib : decide ((jobs.length : Int) < jobs.length) = false := decide_eq_false (by omega)
          have hib2 : decide (jobs.length < jobs.length) = false := decide_eq_false hi
          clear hi
          obtain ⟨A1, c1, sv, h1, h2, h3, h4⟩ := HI.out
          have hc2 : wr.cell? ⟨g, 2, none⟩ = some (.int .i64 now) := (blk_cell h1 2).trans rfl
          have hf2 := blk_frozen h1 2
          clear h1 h2 h3 h4
          go_wp2
          go_ret
          exact ⟨rfl, by simpa using HI.out.set_2 _, show Below w0.heap.size w0 (wr.setCell ⟨g, 2, none⟩ _) from HB.out.setCell HG.out _⟩

end Go.Proofs.Ytkkgnjdepgmjlaa.X

/- What the functions of the program come to, and that they do: written by this session's program wip/xprint.py out of the translation; parts named extern are typed by hand. -/
namespace Go.Proofs.Ytkkgnjdepgmjlaa.X
open Go.RowKit Go.Proofs.YtkkgnjdepgmjlaaW.PrintWords Go.Proofs.YtkkgnjdepgmjlaaW.PrintLast Go.Proofs.YtkkgnjdepgmjlaaW.PrintMore
attribute [local go_sem] max2_int min2_int max_two min_two max_three min_three max_four min_four   -- for this text's walks alone
set_option linter.unusedVariables false
set_option linter.unusedSimpArgs false

/-! ### spec_prBy: function 46 -/
/- EXTERN, by hand (wip/hand/prby.py): the starts by greatest sums of classes and ages. -/
def prRank (cls : Bool) (step now : Int) (j : S43) : Int := if cls = true then (if 0 < step then wrap64 (j.f1 + wrap64 (Int.tdiv (wrap64 (now - j.f0)) step)) else j.f1) else 0
/-- The first job with the greatest rank, of the first m ones, and its rank. -/
def prBest (cls : Bool) (step : Int) (jobs : List (S43)) (starts : List Int) (now : Int) : Nat → Int × Int
  | 0 => (-1, -1)
  | m + 1 => if waitsB jobs starts now m = true ∧ (prBest cls step jobs starts now m).2 < prRank cls step now (rd_T43 jobs (m : Int)) then ((m : Int), prRank cls step now (rd_T43 jobs (m : Int))) else prBest cls step jobs starts now m
def prNow (jobs : List (S43)) (starts : List Int) (now done : Int) : Int := if skipB jobs starts now done = true then prNext jobs starts jobs.length else now
def spec_prBy.l0 (jobs : List (S43)) (cls : Bool) (step : Int) : Nat → List Int → Int → Int → Option (List Int)
  | 0, _, _, _ => none
  | k + 1, starts, now, done => if done < (jobs.length : Int) then (if 0 ≤ (prBest cls step jobs starts (prNow jobs starts now done) jobs.length).1 ∧ (prBest cls step jobs starts (prNow jobs starts now done) jobs.length).1 < (jobs.length : Int) then spec_prBy.l0 jobs cls step k (starts.set (prBest cls step jobs starts (prNow jobs starts now done) jobs.length).1.toNat (prNow jobs starts now done)) (wrap64 (prNow jobs starts now done + (rd_T43 jobs (prBest cls step jobs starts (prNow jobs starts now done) jobs.length).1).f2)) (wrap64 (done + 1)) else none) else some starts
def spec_prBy.f (k : Nat) (jobs : List (S43)) (cls : Bool) (step : Int) : Option (List Int) := if jobs.length ≤ 20 ∧ 0 ≤ step ∧ (0 < step → cls = true) then spec_prBy.l0 jobs cls step k (List.replicate jobs.length (-1)) 0 0 else none
theorem wr64 (x : Int) : IntKind.i64.wrap x = wrap64 x := by simp [IntKind.wrap_i64, wrap64]
set_option maxHeartbeats 8000000 in
set_option maxRecDepth 100000 in
theorem prBy_v0 (k : Nat) (A0 : Option Addr) (c0 : Nat) (jobs : List (S43)) (r : List Int) (w : World) (hr0 : Kd.C k43 w A0 jobs.length jobs) (hn : jobs.length ≤ 20) (h : spec_prBy.l0 jobs false 0 k (List.replicate jobs.length (-1)) 0 0 = some r) :
    Calls Try.prog 46 #[.slice A0 jobs.length c0, .bool false, .int .i64 0] w fun e w' => ∃ v0_ : Value, e = .returned (v0_) ∧ Kd.R (Kd.int .i64) 3 w' w.heap.size (fun _ => True) v0_ r ∧ Below w.heap.size w w' := by
  have hu43 := Try.underlying43
  have HR0 := Aside0.mk hr0
  have HN := Aside0.mk hn
  have HH := Aside0.mk h
  have HB0 := Aside0.mk (Below.refl w.heap.size w)
  clear hr0 hn h
  go_enter Try.func46, Try.ntmps46
  go_wp2_with (first | (go_at_call 54; (with_reducible refine (prNew_calls A0 c0 jobs w HR0.out HN.out).mono ?_); rintro e w1 ⟨g, rfl, hi, hb⟩; have HI := Aside0.mk hi; have HB := Aside0.mk hb; clear hi hb) | ((with_reducible refine gate_callee (f := 54) rfl ?_); refine goesL_ (some 14) rfl rfl Try.func54 (by kernel_rfl) rfl #[.slice A0 jobs.length c0] rfl (by (try simp only [List.map_toArray, List.map_cons, List.map_nil]); first | done | rfl) ?_; (with_reducible refine (prNew_calls A0 c0 jobs w HR0.out HN.out).mono ?_); rintro e w1 ⟨g, rfl, hi, hb⟩; have HI := Aside0.mk hi; have HB := Aside0.mk hb; clear hi hb; refine ⟨_, rfl, ?_⟩))
  go_loopg [] k (fun kq w' => ∃ (starts : List Int) (now done : Int), Aside0 (spec_prBy.l0 jobs false 0 kq starts now done = some r) ∧ Aside0 (starts.length = jobs.length) ∧ Aside0 (IsL w w' g jobs starts now done) ∧ Aside0 (Below w.heap.size w w'))
  case atStart => exact ⟨_, _, _, HH, ⟨List.length_replicate⟩, ⟨(by repeat (first | exact HI.out | apply IsL.drewN | apply IsL.drew))⟩, ⟨(by repeat (first | (with_reducible first | exact HB.out | apply below_alloc | apply pw_below_drewN | apply below_drew1) | exact HB.out))⟩⟩
  case round =>
    clear HI HB HH HB0
    obtain ⟨starts, now, done, HQ, HL, HI, HB⟩ := hrel
    cases gk with
    | zero => exact absurd HQ.out (by simp [spec_prBy.l0])
    | succ k1 =>
      have H := HQ.out
      clear HQ
      rw [spec_prBy.l0] at H
      obtain ⟨A1, c1, sv, h1, h2, h3, h4⟩ := HI.out
      have H3 := Aside0.mk h3
      have HG := Aside0.mk h2
      have hc3 : wr.cell? ⟨g, 3, none⟩ = some (.int .i64 done) := (blk_cell h1 3).trans rfl
      have hc1 : wr.cell? ⟨g, 1, none⟩ = some sv := (blk_cell h1 1).trans rfl
      have H4 := Aside0.mk h4
      clear h1 h2 h3 h4
      by_cases c : done < (jobs.length : Int)
      · rw [if_pos c] at H
        have cb : decide (done < (jobs.length : Int)) = true := decide_eq_true c
        clear c hc1 H4
        obtain ⟨nw, hnw⟩ : ∃ nw, prNow jobs starts now done = nw := ⟨_, rfl⟩
        rw [hnw] at H
        have HNW := Aside0.mk hnw
        clear hnw
        by_cases c2 : 0 ≤ (prBest false 0 jobs starts nw jobs.length).1 ∧ (prBest false 0 jobs starts nw jobs.length).1 < (jobs.length : Int)
        case neg => rw [if_neg c2] at H; cases H
        rw [if_pos c2] at H
        have H' := Aside0.mk H
        have C2 := Aside0.mk c2
        clear H c2
        go_wp2_with (first | (go_at_call 55; (with_reducible refine (prSkip_calls g jobs starts now done w _ ?s1 ?s2 HL.out HN.out).mono ?_); (case s1 => exact (by repeat (first | exact HI.out | apply IsL.drewN | apply IsL.drew))); (case s2 => exact (by repeat (first | (with_reducible first | exact HB.out | apply below_alloc | apply pw_below_drewN | apply below_drew1) | exact HB.out))); rintro e w1 ⟨rfl, hi, hb⟩; have HI5 := Aside0.mk (show IsL w w1 g jobs starts nw done from by rw [← HNW.out]; exact hi); have HB5 := Aside0.mk hb; clear HI HB hi hb; have HI := HI5; have HB := HB5; clear HI5 HB5) | ((with_reducible refine gate_callee (f := 55) rfl ?_); refine goesL_ (some 23) rfl rfl Try.func55 (by kernel_rfl) rfl #[.pointer (some ⟨g, 0, none⟩)] rfl (by (try simp only [List.map_toArray, List.map_cons, List.map_nil]); first | done | rfl) ?_; (with_reducible refine (prSkip_calls g jobs starts now done w _ ?s1 ?s2 HL.out HN.out).mono ?_); (case s1 => exact (by repeat (first | exact HI.out | apply IsL.drewN | apply IsL.drew))); (case s2 => exact (by repeat (first | (with_reducible first | exact HB.out | apply below_alloc | apply pw_below_drewN | apply below_drew1) | exact HB.out))); rintro e w1 ⟨rfl, hi, hb⟩; have HI5 := Aside0.mk (show IsL w w1 g jobs starts nw done from by rw [← HNW.out]; exact hi); have HB5 := Aside0.mk hb; clear HI HB hi hb; have HI := HI5; have HB := HB5; clear HI5 HB5; refine ⟨_, rfl, ?_⟩))
        go_loopg [8, 9, 26] (jobs.length + 1) (fun kq v8 v9 v26 w' => ∃ i : Nat, v8 = .int .i64 (prBest false 0 jobs starts nw i).1 ∧ v9 = .int .i64 (prBest false 0 jobs starts nw i).2 ∧ v26 = .int .i64 (i : Int) ∧ Aside0 (i ≤ jobs.length ∧ jobs.length - i + 1 ≤ kq) ∧ Aside0 (IsL w w' g jobs starts nw done) ∧ Aside0 (Below w.heap.size w w'))
        case atStart => exact ⟨0, rfl, rfl, rfl, ⟨by omega, by omega⟩, ⟨(by repeat (first | exact HI.out | apply IsL.drewN | apply IsL.drew))⟩, ⟨(by repeat (first | (with_reducible first | exact HB.out | apply below_alloc | apply pw_below_drewN | apply below_drew1) | exact HB.out))⟩⟩
        case round =>
          clear HI HB
          obtain ⟨i, rfl, rfl, rfl, HM, HI, HB⟩ := hrel
          by_cases hi : i < jobs.length
          · have hib : decide ((i : Int) < jobs.length) = true := decide_eq_true (by omega)
            have hib2 : decide (i < jobs.length) = true := decide_eq_true hi
            have HI2 := Aside0.mk hi
            clear hi
            have hp : 0 ≤ (i : Int) := by omega
            have hq : (i : Int) < (jobs.length : Int) := by have := HI2.out; omega
            obtain ⟨ad, e1, hx0, hx1, hx2⟩ := at_T43 HR0.out (i : Int) hp hq
            cases e1
            simp only [Int.toNat_natCast] at hx0 hx1 hx2
            replace hx0 := pw_cell_below HB.out hx0
            replace hx1 := pw_cell_below HB.out hx1
            replace hx2 := pw_cell_below HB.out hx2
            replace hp := eq_true hp
            replace hq := eq_true hq
            go_upto_region 7 with (fail)
            go_cut [10, 11] (fun v10 v11 wc => v10 = .int .i64 (i : Int) ∧ ∃ b, v11 = .pointer (some ⟨b, 0, none⟩) ∧ Aside0 (wc.heap[b]? = some (.cells #[.int .i64 (rd_T43 jobs (i : Int)).f0, .int .i64 (rd_T43 jobs (i : Int)).f1, .int .i64 (rd_T43 jobs (i : Int)).f2] 43 (0, 0))) ∧ Aside0 (IsL w wc g jobs starts nw done) ∧ Aside0 (Below w.heap.size w wc))
            case first =>
              go_wp2_with (first | ((with_reducible refine gate_dst (N := 11) rfl ?_); refine box_event ?hg (N := 11) ?hd (cs := #[.int .i64 0, .int .i64 0, .int .i64 0]) (t := 43) ?hr ?_; (case hd => rfl); (case hg => rfl); (case hr => first | (go_simp; done) | (go_simp; rfl)); intro b hg w13 hbox hb; have HI3 := Aside0.mk (IsL.below (by repeat (first | exact HI.out | apply IsL.drewN | apply IsL.drew)) hb); have HB3 := Aside0.mk (below_step (by repeat (first | (with_reducible first | exact HB.out | apply below_alloc | apply pw_below_drewN | apply below_drew1) | exact HB.out)) hb); have HBX := Aside0.mk hbox; have HGE := Aside0.mk (show w.heap.size ≤ b by rw [hg]; exact (below_size (by repeat (first | (with_reducible first | exact HB.out | apply below_alloc | apply pw_below_drewN | apply below_drew1) | exact HB.out)))); clear hg hbox hb; have hk0 : w13.cell? ⟨b, 0, none⟩ = some (.int .i64 0) := (blk_cell HBX.out 0).trans rfl; have hk1 : w13.cell? ⟨b, 1, none⟩ = some (.int .i64 0) := (blk_cell HBX.out 1).trans rfl; have hk2 : w13.cell? ⟨b, 2, none⟩ = some (.int .i64 0) := (blk_cell HBX.out 2).trans rfl; have hf0 := blk_frozen HBX.out 0; have hf1 := blk_frozen HBX.out 1; have hf2 := blk_frozen HBX.out 2))
              go_meet
              have hj := HI3.out.job HBX.out (rd_T43 jobs (i : Int)).f0 (rd_T43 jobs (i : Int)).f1 (rd_T43 jobs (i : Int)).f2
              refine ⟨rfl, b, rfl, ⟨by first | exact hj.2 | simpa using hj.2⟩, ⟨by first | exact hj.1 | simpa using hj.1⟩, ⟨?_⟩⟩
              exact ((HB3.out.setCell (p := ⟨b, 0, none⟩) HGE.out _).setCell (p := ⟨b, 1, none⟩) HGE.out _).setCell (p := ⟨b, 2, none⟩) HGE.out _
            case rest =>
              clear HI HB hx0 hx1 hx2
              obtain ⟨rfl, b, rfl, HBX, HI, HB⟩ := hcut
              have hk0 : wc.cell? ⟨b, 0, none⟩ = some (.int .i64 (rd_T43 jobs (i : Int)).f0) := (blk_cell HBX.out 0).trans rfl
              have hk1 : wc.cell? ⟨b, 1, none⟩ = some (.int .i64 (rd_T43 jobs (i : Int)).f1) := (blk_cell HBX.out 1).trans rfl
              have HQ0 := Aside0.mk (HI.out.q HB.out)
              obtain ⟨A6, c6, sv6, h1, h2, h3, h4⟩ := HI.out
              have hc2 : wc.cell? ⟨g, 2, none⟩ = some (.int .i64 nw) := (blk_cell h1 2).trans rfl
              clear h1 h2 h3 h4
              cases hw : waitsB jobs starts nw i with
              | false =>
                have HW := Aside0.mk hw
                have HBS := Aside0.mk (show prBest false 0 jobs starts nw (i + 1) = prBest false 0 jobs starts nw i by rw [prBest, if_neg (by rw [hw]; simp)])
                clear hw
                go_wp2_with (first | (go_at_call 69; (with_reducible refine (prWaits_q g i jobs starts nw done _ ?s1 HI2.out HL.out).mono ?_); (case s1 => first | exact HQ0.out | exact IsS57.drewn HQ0.out _); rintro e w1 ⟨rfl, ⟨nd, rfl⟩⟩; rw [HW.out]) | ((with_reducible refine gate_callee (f := 69) rfl ?_); refine goesL_ (some 33) rfl rfl Try.func69 (by kernel_rfl) rfl #[.pointer (some ⟨g, 0, none⟩), .int .i64 (i : Int)] rfl (by (try simp only [List.map_toArray, List.map_cons, List.map_nil]); first | done | rfl) ?_; (with_reducible refine (prWaits_q g i jobs starts nw done _ ?s1 HI2.out HL.out).mono ?_); (case s1 => first | exact HQ0.out | exact IsS57.drewn HQ0.out _); rintro e w1 ⟨rfl, ⟨nd, rfl⟩⟩; refine ⟨_, rfl, ?_⟩; rw [HW.out]))
                go_roundg (jobs.length - (i + 1) + 1)
                case measure => have := HM.out; have := HI2.out; omega
                case rel => exact ⟨i + 1, by rw [HBS.out], by rw [HBS.out], (by have := HI2.out; have := HN.out; first | rfl | (rw [wrap_small (by omega) (by omega)]; rfl)), ⟨by have := HI2.out; omega, Nat.le_refl _⟩, ⟨(by repeat (first | exact HI.out | apply IsL.drewN | apply IsL.drew))⟩, ⟨(by repeat (first | (with_reducible first | exact HB.out | apply below_alloc | apply pw_below_drewN | apply below_drew1) | exact HB.out))⟩⟩
              | true =>
                have HW := Aside0.mk hw
                have HRK := Aside0.mk (show prRank false 0 nw (rd_T43 jobs (i : Int)) = 0 from rfl)
                by_cases hcm : (prBest false 0 jobs starts nw i).2 < 0
                · have hcb : decide ((prBest false 0 jobs starts nw i).2 < 0) = true := decide_eq_true hcm
                  have HBS := Aside0.mk (show prBest false 0 jobs starts nw (i + 1) = ((i : Int), 0) by rw [prBest, HRK.out]; exact if_pos ⟨hw, hcm⟩)
                  clear hw hcm
                  go_wp2_with (first | (go_at_call 69; (with_reducible refine (prWaits_q g i jobs starts nw done _ ?s1 HI2.out HL.out).mono ?_); (case s1 => first | exact HQ0.out | exact IsS57.drewn HQ0.out _); rintro e w1 ⟨rfl, ⟨nd, rfl⟩⟩; rw [HW.out]) | ((with_reducible refine gate_callee (f := 69) rfl ?_); refine goesL_ (some 33) rfl rfl Try.func69 (by kernel_rfl) rfl #[.pointer (some ⟨g, 0, none⟩), .int .i64 (i : Int)] rfl (by (try simp only [List.map_toArray, List.map_cons, List.map_nil]); first | done | rfl) ?_; (with_reducible refine (prWaits_q g i jobs starts nw done _ ?s1 HI2.out HL.out).mono ?_); (case s1 => first | exact HQ0.out | exact IsS57.drewn HQ0.out _); rintro e w1 ⟨rfl, ⟨nd, rfl⟩⟩; refine ⟨_, rfl, ?_⟩; rw [HW.out]))
                  go_roundg (jobs.length - (i + 1) + 1)
                  case measure => have := HM.out; have := HI2.out; omega
                  case rel => exact ⟨i + 1, by rw [HBS.out], by rw [HBS.out], (by have := HI2.out; have := HN.out; first | rfl | (rw [wrap_small (by omega) (by omega)]; rfl)), ⟨by have := HI2.out; omega, Nat.le_refl _⟩, ⟨(by repeat (first | exact HI.out | apply IsL.drewN | apply IsL.drew))⟩, ⟨(by repeat (first | (with_reducible first | exact HB.out | apply below_alloc | apply pw_below_drewN | apply below_drew1) | exact HB.out))⟩⟩
                · have hcb : decide ((prBest false 0 jobs starts nw i).2 < 0) = false := decide_eq_false hcm
                  have HBS := Aside0.mk (show prBest false 0 jobs starts nw (i + 1) = prBest false 0 jobs starts nw i by rw [prBest, HRK.out]; exact if_neg (fun h => hcm h.2))
                  clear hw hcm
                  go_wp2_with (first | (go_at_call 69; (with_reducible refine (prWaits_q g i jobs starts nw done _ ?s1 HI2.out HL.out).mono ?_); (case s1 => first | exact HQ0.out | exact IsS57.drewn HQ0.out _); rintro e w1 ⟨rfl, ⟨nd, rfl⟩⟩; rw [HW.out]) | ((with_reducible refine gate_callee (f := 69) rfl ?_); refine goesL_ (some 33) rfl rfl Try.func69 (by kernel_rfl) rfl #[.pointer (some ⟨g, 0, none⟩), .int .i64 (i : Int)] rfl (by (try simp only [List.map_toArray, List.map_cons, List.map_nil]); first | done | rfl) ?_; (with_reducible refine (prWaits_q g i jobs starts nw done _ ?s1 HI2.out HL.out).mono ?_); (case s1 => first | exact HQ0.out | exact IsS57.drewn HQ0.out _); rintro e w1 ⟨rfl, ⟨nd, rfl⟩⟩; refine ⟨_, rfl, ?_⟩; rw [HW.out]))
                  go_roundg (jobs.length - (i + 1) + 1)
                  case measure => have := HM.out; have := HI2.out; omega
                  case rel => exact ⟨i + 1, by rw [HBS.out], by rw [HBS.out], (by have := HI2.out; have := HN.out; first | rfl | (rw [wrap_small (by omega) (by omega)]; rfl)), ⟨by have := HI2.out; omega, Nat.le_refl _⟩, ⟨(by repeat (first | exact HI.out | apply IsL.drewN | apply IsL.drew))⟩, ⟨(by repeat (first | (with_reducible first | exact HB.out | apply below_alloc | apply pw_below_drewN | apply below_drew1) | exact HB.out))⟩⟩
          · obtain rfl : i = jobs.length := by have := HM.out; omega
            have hib : decide ((jobs.length : Int) < jobs.length) = false := decide_eq_false (by omega)
            have hib2 : decide (jobs.length < jobs.length) = false := decide_eq_false hi
            clear hi
            obtain ⟨m, hm⟩ := Int.eq_ofNat_of_zero_le C2.out.1
            rw [hm]
            rw [hm] at H' C2
            rw [Int.toNat_natCast] at H'
            have HMJ := Aside0.mk (show m < jobs.length by have := C2.out.2; omega)
            have HMS := Aside0.mk (show m < starts.length by have := HMJ.out; have := HL.out; omega)
            clear hm C2
            go_wp2_with (first | (go_at_call 57; (with_reducible refine (prBegin_calls g m jobs starts nw done w _ ?s1 ?s2 HMS.out HMJ.out).mono ?_); (case s1 => exact (by repeat (first | exact HI.out | apply IsL.drewN | apply IsL.drew))); (case s2 => exact (by repeat (first | (with_reducible first | exact HB.out | apply below_alloc | apply pw_below_drewN | apply below_drew1) | exact HB.out))); rintro e w1 ⟨rfl, hi, hb⟩; have HI5 := Aside0.mk hi; have HB5 := Aside0.mk hb; clear HI HB hi hb; have HI := HI5; have HB := HB5; clear HI5 HB5) | ((with_reducible refine gate_callee (f := 57) rfl ?_); refine goesL_ (some 59) rfl rfl Try.func57 (by kernel_rfl) rfl #[.pointer (some ⟨g, 0, none⟩), .int .i64 (m : Int)] rfl (by (try simp only [List.map_toArray, List.map_cons, List.map_nil]); first | done | rfl) ?_; (with_reducible refine (prBegin_calls g m jobs starts nw done w _ ?s1 ?s2 HMS.out HMJ.out).mono ?_); (case s1 => exact (by repeat (first | exact HI.out | apply IsL.drewN | apply IsL.drew))); (case s2 => exact (by repeat (first | (with_reducible first | exact HB.out | apply below_alloc | apply pw_below_drewN | apply below_drew1) | exact HB.out))); rintro e w1 ⟨rfl, hi, hb⟩; have HI5 := Aside0.mk hi; have HB5 := Aside0.mk hb; clear HI HB hi hb; have HI := HI5; have HB := HB5; clear HI5 HB5; refine ⟨_, rfl, ?_⟩))
            go_roundg k1
            case measure => omega
            case rel => exact ⟨_, _, _, H', ⟨by rw [List.length_set]; exact HL.out⟩, HI, HB⟩
      · rw [if_neg c] at H
        have cb : decide (done < (jobs.length : Int)) = false := decide_eq_false c
        obtain rfl := Option.some.inj H
        obtain ⟨A3, c3, e3⟩ := Kd.R_slice H4.out
        subst e3
        clear c H
        go_wp2
        go_ret
        exact ⟨_, rfl, Kd.R_mono H4.out (fun _ _ => trivial), HB.out⟩
set_option maxHeartbeats 8000000 in
set_option maxRecDepth 100000 in
theorem prBy_v1 (k : Nat) (A0 : Option Addr) (c0 : Nat) (jobs : List (S43)) (r : List Int) (w : World) (hr0 : Kd.C k43 w A0 jobs.length jobs) (hn : jobs.length ≤ 20) (h : spec_prBy.l0 jobs true 0 k (List.replicate jobs.length (-1)) 0 0 = some r) :
    Calls Try.prog 46 #[.slice A0 jobs.length c0, .bool true, .int .i64 0] w fun e w' => ∃ v0_ : Value, e = .returned (v0_) ∧ Kd.R (Kd.int .i64) 3 w' w.heap.size (fun _ => True) v0_ r ∧ Below w.heap.size w w' := by
  have hu43 := Try.underlying43
  have HR0 := Aside0.mk hr0
  have HN := Aside0.mk hn
  have HH := Aside0.mk h
  have HB0 := Aside0.mk (Below.refl w.heap.size w)
  clear hr0 hn h
  go_enter Try.func46, Try.ntmps46
  go_wp2_with (first | (go_at_call 54; (with_reducible refine (prNew_calls A0 c0 jobs w HR0.out HN.out).mono ?_); rintro e w1 ⟨g, rfl, hi, hb⟩; have HI := Aside0.mk hi; have HB := Aside0.mk hb; clear hi hb) | ((with_reducible refine gate_callee (f := 54) rfl ?_); refine goesL_ (some 14) rfl rfl Try.func54 (by kernel_rfl) rfl #[.slice A0 jobs.length c0] rfl (by (try simp only [List.map_toArray, List.map_cons, List.map_nil]); first | done | rfl) ?_; (with_reducible refine (prNew_calls A0 c0 jobs w HR0.out HN.out).mono ?_); rintro e w1 ⟨g, rfl, hi, hb⟩; have HI := Aside0.mk hi; have HB := Aside0.mk hb; clear hi hb; refine ⟨_, rfl, ?_⟩))
  go_loopg [] k (fun kq w' => ∃ (starts : List Int) (now done : Int), Aside0 (spec_prBy.l0 jobs true 0 kq starts now done = some r) ∧ Aside0 (starts.length = jobs.length) ∧ Aside0 (IsL w w' g jobs starts now done) ∧ Aside0 (Below w.heap.size w w'))
  case atStart => exact ⟨_, _, _, HH, ⟨List.length_replicate⟩, ⟨(by repeat (first | exact HI.out | apply IsL.drewN | apply IsL.drew))⟩, ⟨(by repeat (first | (with_reducible first | exact HB.out | apply below_alloc | apply pw_below_drewN | apply below_drew1) | exact HB.out))⟩⟩
  case round =>
    clear HI HB HH HB0
    obtain ⟨starts, now, done, HQ, HL, HI, HB⟩ := hrel
    cases gk with
    | zero => exact absurd HQ.out (by simp [spec_prBy.l0])
    | succ k1 =>
      have H := HQ.out
      clear HQ
      rw [spec_prBy.l0] at H
      obtain ⟨A1, c1, sv, h1, h2, h3, h4⟩ := HI.out
      have H3 := Aside0.mk h3
      have HG := Aside0.mk h2
      have hc3 : wr.cell? ⟨g, 3, none⟩ = some (.int .i64 done) := (blk_cell h1 3).trans rfl
      have hc1 : wr.cell? ⟨g, 1, none⟩ = some sv := (blk_cell h1 1).trans rfl
      have H4 := Aside0.mk h4
      clear h1 h2 h3 h4
      by_cases c : done < (jobs.length : Int)
      · rw [if_pos c] at H
        have cb : decide (done < (jobs.length : Int)) = true := decide_eq_true c
        clear c hc1 H4
        obtain ⟨nw, hnw⟩ : ∃ nw, prNow jobs starts now done = nw := ⟨_, rfl⟩
        rw [hnw] at H
        have HNW := Aside0.mk hnw
        clear hnw
        by_cases c2 : 0 ≤ (prBest true 0 jobs starts nw jobs.length).1 ∧ (prBest true 0 jobs starts nw jobs.length).1 < (jobs.length : Int)
        case neg => rw [if_neg c2] at H; cases H
        rw [if_pos c2] at H
        have H' := Aside0.mk H
        have C2 := Aside0.mk c2
        clear H c2
        go_wp2_with (first | (go_at_call 55; (with_reducible refine (prSkip_calls g jobs starts now done w _ ?s1 ?s2 HL.out HN.out).mono ?_); (case s1 => exact (by repeat (first | exact HI.out | apply IsL.drewN | apply IsL.drew))); (case s2 => exact (by repeat (first | (with_reducible first | exact HB.out | apply below_alloc | apply pw_below_drewN | apply below_drew1) | exact HB.out))); rintro e w1 ⟨rfl, hi, hb⟩; have HI5 := Aside0.mk (show IsL w w1 g jobs starts nw done from by rw [← HNW.out]; exact hi); have HB5 := Aside0.mk hb; clear HI HB hi hb; have HI := HI5; have HB := HB5; clear HI5 HB5) | ((with_reducible refine gate_callee (f := 55) rfl ?_); refine goesL_ (some 23) rfl rfl Try.func55 (by kernel_rfl) rfl #[.pointer (some ⟨g, 0, none⟩)] rfl (by (try simp only [List.map_toArray, List.map_cons, List.map_nil]); first | done | rfl) ?_; (with_reducible refine (prSkip_calls g jobs starts now done w _ ?s1 ?s2 HL.out HN.out).mono ?_); (case s1 => exact (by repeat (first | exact HI.out | apply IsL.drewN | apply IsL.drew))); (case s2 => exact (by repeat (first | (with_reducible first | exact HB.out | apply below_alloc | apply pw_below_drewN | apply below_drew1) | exact HB.out))); rintro e w1 ⟨rfl, hi, hb⟩; have HI5 := Aside0.mk (show IsL w w1 g jobs starts nw done from by rw [← HNW.out]; exact hi); have HB5 := Aside0.mk hb; clear HI HB hi hb; have HI := HI5; have HB := HB5; clear HI5 HB5; refine ⟨_, rfl, ?_⟩))
        go_loopg [8, 9, 26] (jobs.length + 1) (fun kq v8 v9 v26 w' => ∃ i : Nat, v8 = .int .i64 (prBest true 0 jobs starts nw i).1 ∧ v9 = .int .i64 (prBest true 0 jobs starts nw i).2 ∧ v26 = .int .i64 (i : Int) ∧ Aside0 (i ≤ jobs.length ∧ jobs.length - i + 1 ≤ kq) ∧ Aside0 (IsL w w' g jobs starts nw done) ∧ Aside0 (Below w.heap.size w w'))
        case atStart => exact ⟨0, rfl, rfl, rfl, ⟨by omega, by omega⟩, ⟨(by repeat (first | exact HI.out | apply IsL.drewN | apply IsL.drew))⟩, ⟨(by repeat (first | (with_reducible first | exact HB.out | apply below_alloc | apply pw_below_drewN | apply below_drew1) | exact HB.out))⟩⟩
        case round =>
          clear HI HB
          obtain ⟨i, rfl, rfl, rfl, HM, HI, HB⟩ := hrel
          by_cases hi : i < jobs.length
          · have hib : decide ((i : Int) < jobs.length) = true := decide_eq_true (by omega)
            have hib2 : decide (i < jobs.length) = true := decide_eq_true hi
            have HI2 := Aside0.mk hi
            clear hi
            have hp : 0 ≤ (i : Int) := by omega
            have hq : (i : Int) < (jobs.length : Int) := by have := HI2.out; omega
            obtain ⟨ad, e1, hx0, hx1, hx2⟩ := at_T43 HR0.out (i : Int) hp hq
            cases e1
            simp only [Int.toNat_natCast] at hx0 hx1 hx2
            replace hx0 := pw_cell_below HB.out hx0
            replace hx1 := pw_cell_below HB.out hx1
            replace hx2 := pw_cell_below HB.out hx2
            replace hp := eq_true hp
            replace hq := eq_true hq
            go_upto_region 7 with (fail)
            go_cut [10, 11] (fun v10 v11 wc => v10 = .int .i64 (i : Int) ∧ ∃ b, v11 = .pointer (some ⟨b, 0, none⟩) ∧ Aside0 (wc.heap[b]? = some (.cells #[.int .i64 (rd_T43 jobs (i : Int)).f0, .int .i64 (rd_T43 jobs (i : Int)).f1, .int .i64 (rd_T43 jobs (i : Int)).f2] 43 (0, 0))) ∧ Aside0 (IsL w wc g jobs starts nw done) ∧ Aside0 (Below w.heap.size w wc))
            case first =>
              go_wp2_with (first | ((with_reducible refine gate_dst (N := 11) rfl ?_); refine box_event ?hg (N := 11) ?hd (cs := #[.int .i64 0, .int .i64 0, .int .i64 0]) (t := 43) ?hr ?_; (case hd => rfl); (case hg => rfl); (case hr => first | (go_simp; done) | (go_simp; rfl)); intro b hg w13 hbox hb; have HI3 := Aside0.mk (IsL.below (by repeat (first | exact HI.out | apply IsL.drewN | apply IsL.drew)) hb); have HB3 := Aside0.mk (below_step (by repeat (first | (with_reducible first | exact HB.out | apply below_alloc | apply pw_below_drewN | apply below_drew1) | exact HB.out)) hb); have HBX := Aside0.mk hbox; have HGE := Aside0.mk (show w.heap.size ≤ b by rw [hg]; exact (below_size (by repeat (first | (with_reducible first | exact HB.out | apply below_alloc | apply pw_below_drewN | apply below_drew1) | exact HB.out)))); clear hg hbox hb; have hk0 : w13.cell? ⟨b, 0, none⟩ = some (.int .i64 0) := (blk_cell HBX.out 0).trans rfl; have hk1 : w13.cell? ⟨b, 1, none⟩ = some (.int .i64 0) := (blk_cell HBX.out 1).trans rfl; have hk2 : w13.cell? ⟨b, 2, none⟩ = some (.int .i64 0) := (blk_cell HBX.out 2).trans rfl; have hf0 := blk_frozen HBX.out 0; have hf1 := blk_frozen HBX.out 1; have hf2 := blk_frozen HBX.out 2))
              go_meet
              have hj := HI3.out.job HBX.out (rd_T43 jobs (i : Int)).f0 (rd_T43 jobs (i : Int)).f1 (rd_T43 jobs (i : Int)).f2
              refine ⟨rfl, b, rfl, ⟨by first | exact hj.2 | simpa using hj.2⟩, ⟨by first | exact hj.1 | simpa using hj.1⟩, ⟨?_⟩⟩
              exact ((HB3.out.setCell (p := ⟨b, 0, none⟩) HGE.out _).setCell (p := ⟨b, 1, none⟩) HGE.out _).setCell (p := ⟨b, 2, none⟩) HGE.out _
            case rest =>
              clear HI HB hx0 hx1 hx2
              obtain ⟨rfl, b, rfl, HBX, HI, HB⟩ := hcut
              have hk0 : wc.cell? ⟨b, 0, none⟩ = some (.int .i64 (rd_T43 jobs (i : Int)).f0) := (blk_cell HBX.out 0).trans rfl
              have hk1 : wc.cell? ⟨b, 1, none⟩ = some (.int .i64 (rd_T43 jobs (i : Int)).f1) := (blk_cell HBX.out 1).trans rfl
              have HQ0 := Aside0.mk (HI.out.q HB.out)
              obtain ⟨A6, c6, sv6, h1, h2, h3, h4⟩ := HI.out
              have hc2 : wc.cell? ⟨g, 2, none⟩ = some (.int .i64 nw) := (blk_cell h1 2).trans rfl
              clear h1 h2 h3 h4
              cases hw : waitsB jobs starts nw i with
              | false =>
                have HW := Aside0.mk hw
                have HBS := Aside0.mk (show prBest true 0 jobs starts nw (i + 1) = prBest true 0 jobs starts nw i by rw [prBest, if_neg (by rw [hw]; simp)])
                clear hw
                go_wp2_with (first | (go_at_call 69; (with_reducible refine (prWaits_q g i jobs starts nw done _ ?s1 HI2.out HL.out).mono ?_); (case s1 => first | exact HQ0.out | exact IsS57.drewn HQ0.out _); rintro e w1 ⟨rfl, ⟨nd, rfl⟩⟩; rw [HW.out]) | ((with_reducible refine gate_callee (f := 69) rfl ?_); refine goesL_ (some 33) rfl rfl Try.func69 (by kernel_rfl) rfl #[.pointer (some ⟨g, 0, none⟩), .int .i64 (i : Int)] rfl (by (try simp only [List.map_toArray, List.map_cons, List.map_nil]); first | done | rfl) ?_; (with_reducible refine (prWaits_q g i jobs starts nw done _ ?s1 HI2.out HL.out).mono ?_); (case s1 => first | exact HQ0.out | exact IsS57.drewn HQ0.out _); rintro e w1 ⟨rfl, ⟨nd, rfl⟩⟩; refine ⟨_, rfl, ?_⟩; rw [HW.out]))
                go_roundg (jobs.length - (i + 1) + 1)
                case measure => have := HM.out; have := HI2.out; omega
                case rel => exact ⟨i + 1, by rw [HBS.out], by rw [HBS.out], (by have := HI2.out; have := HN.out; first | rfl | (rw [wrap_small (by omega) (by omega)]; rfl)), ⟨by have := HI2.out; omega, Nat.le_refl _⟩, ⟨(by repeat (first | exact HI.out | apply IsL.drewN | apply IsL.drew))⟩, ⟨(by repeat (first | (with_reducible first | exact HB.out | apply below_alloc | apply pw_below_drewN | apply below_drew1) | exact HB.out))⟩⟩
              | true =>
                have HW := Aside0.mk hw
                have HRK := Aside0.mk (show prRank true 0 nw (rd_T43 jobs (i : Int)) = (rd_T43 jobs (i : Int)).f1 from rfl)
                by_cases hcm : (prBest true 0 jobs starts nw i).2 < (rd_T43 jobs (i : Int)).f1
                · have hcb : decide ((prBest true 0 jobs starts nw i).2 < (rd_T43 jobs (i : Int)).f1) = true := decide_eq_true hcm
                  have HBS := Aside0.mk (show prBest true 0 jobs starts nw (i + 1) = ((i : Int), (rd_T43 jobs (i : Int)).f1) by rw [prBest, HRK.out]; exact if_pos ⟨hw, hcm⟩)
                  clear hw hcm
                  go_wp2_with (first | (go_at_call 69; (with_reducible refine (prWaits_q g i jobs starts nw done _ ?s1 HI2.out HL.out).mono ?_); (case s1 => first | exact HQ0.out | exact IsS57.drewn HQ0.out _); rintro e w1 ⟨rfl, ⟨nd, rfl⟩⟩; rw [HW.out]) | ((with_reducible refine gate_callee (f := 69) rfl ?_); refine goesL_ (some 33) rfl rfl Try.func69 (by kernel_rfl) rfl #[.pointer (some ⟨g, 0, none⟩), .int .i64 (i : Int)] rfl (by (try simp only [List.map_toArray, List.map_cons, List.map_nil]); first | done | rfl) ?_; (with_reducible refine (prWaits_q g i jobs starts nw done _ ?s1 HI2.out HL.out).mono ?_); (case s1 => first | exact HQ0.out | exact IsS57.drewn HQ0.out _); rintro e w1 ⟨rfl, ⟨nd, rfl⟩⟩; refine ⟨_, rfl, ?_⟩; rw [HW.out]))
                  go_roundg (jobs.length - (i + 1) + 1)
                  case measure => have := HM.out; have := HI2.out; omega
                  case rel => exact ⟨i + 1, by rw [HBS.out], by rw [HBS.out], (by have := HI2.out; have := HN.out; first | rfl | (rw [wrap_small (by omega) (by omega)]; rfl)), ⟨by have := HI2.out; omega, Nat.le_refl _⟩, ⟨(by repeat (first | exact HI.out | apply IsL.drewN | apply IsL.drew))⟩, ⟨(by repeat (first | (with_reducible first | exact HB.out | apply below_alloc | apply pw_below_drewN | apply below_drew1) | exact HB.out))⟩⟩
                · have hcb : decide ((prBest true 0 jobs starts nw i).2 < (rd_T43 jobs (i : Int)).f1) = false := decide_eq_false hcm
                  have HBS := Aside0.mk (show prBest true 0 jobs starts nw (i + 1) = prBest true 0 jobs starts nw i by rw [prBest, HRK.out]; exact if_neg (fun h => hcm h.2))
                  clear hw hcm
                  go_wp2_with (first | (go_at_call 69; (with_reducible refine (prWaits_q g i jobs starts nw done _ ?s1 HI2.out HL.out).mono ?_); (case s1 => first | exact HQ0.out | exact IsS57.drewn HQ0.out _); rintro e w1 ⟨rfl, ⟨nd, rfl⟩⟩; rw [HW.out]) | ((with_reducible refine gate_callee (f := 69) rfl ?_); refine goesL_ (some 33) rfl rfl Try.func69 (by kernel_rfl) rfl #[.pointer (some ⟨g, 0, none⟩), .int .i64 (i : Int)] rfl (by (try simp only [List.map_toArray, List.map_cons, List.map_nil]); first | done | rfl) ?_; (with_reducible refine (prWaits_q g i jobs starts nw done _ ?s1 HI2.out HL.out).mono ?_); (case s1 => first | exact HQ0.out | exact IsS57.drewn HQ0.out _); rintro e w1 ⟨rfl, ⟨nd, rfl⟩⟩; refine ⟨_, rfl, ?_⟩; rw [HW.out]))
                  go_roundg (jobs.length - (i + 1) + 1)
                  case measure => have := HM.out; have := HI2.out; omega
                  case rel => exact ⟨i + 1, by rw [HBS.out], by rw [HBS.out], (by have := HI2.out; have := HN.out; first | rfl | (rw [wrap_small (by omega) (by omega)]; rfl)), ⟨by have := HI2.out; omega, Nat.le_refl _⟩, ⟨(by repeat (first | exact HI.out | apply IsL.drewN | apply IsL.drew))⟩, ⟨(by repeat (first | (with_reducible first | exact HB.out | apply below_alloc | apply pw_below_drewN | apply below_drew1) | exact HB.out))⟩⟩
          · obtain rfl : i = jobs.length := by have := HM.out; omega
            have hib : decide ((jobs.length : Int) < jobs.length) = false := decide_eq_false (by omega)
            have hib2 : decide (jobs.length < jobs.length) = false := decide_eq_false hi
            clear hi
            obtain ⟨m, hm⟩ := Int.eq_ofNat_of_zero_le C2.out.1
            rw [hm]
            rw [hm] at H' C2
            rw [Int.toNat_natCast] at H'
            have HMJ := Aside0.mk (show m < jobs.length by have := C2.out.2; omega)
            have HMS := Aside0.mk (show m < starts.length by have := HMJ.out; have := HL.out; omega)
            clear hm C2
            go_wp2_with (first | (go_at_call 57; (with_reducible refine (prBegin_calls g m jobs starts nw done w _ ?s1 ?s2 HMS.out HMJ.out).mono ?_); (case s1 => exact (by repeat (first | exact HI.out | apply IsL.drewN | apply IsL.drew))); (case s2 => exact (by repeat (first | (with_reducible first | exact HB.out | apply below_alloc | apply pw_below_drewN | apply below_drew1) | exact HB.out))); rintro e w1 ⟨rfl, hi, hb⟩; have HI5 := Aside0.mk hi; have HB5 := Aside0.mk hb; clear HI HB hi hb; have HI := HI5; have HB := HB5; clear HI5 HB5) | ((with_reducible refine gate_callee (f := 57) rfl ?_); refine goesL_ (some 59) rfl rfl Try.func57 (by kernel_rfl) rfl #[.pointer (some ⟨g, 0, none⟩), .int .i64 (m : Int)] rfl (by (try simp only [List.map_toArray, List.map_cons, List.map_nil]); first | done | rfl) ?_; (with_reducible refine (prBegin_calls g m jobs starts nw done w _ ?s1 ?s2 HMS.out HMJ.out).mono ?_); (case s1 => exact (by repeat (first | exact HI.out | apply IsL.drewN | apply IsL.drew))); (case s2 => exact (by repeat (first | (with_reducible first | exact HB.out | apply below_alloc | apply pw_below_drewN | apply below_drew1) | exact HB.out))); rintro e w1 ⟨rfl, hi, hb⟩; have HI5 := Aside0.mk hi; have HB5 := Aside0.mk hb; clear HI HB hi hb; have HI := HI5; have HB := HB5; clear HI5 HB5; refine ⟨_, rfl, ?_⟩))
            go_roundg k1
            case measure => omega
            case rel => exact ⟨_, _, _, H', ⟨by rw [List.length_set]; exact HL.out⟩, HI, HB⟩
      · rw [if_neg c] at H
        have cb : decide (done < (jobs.length : Int)) = false := decide_eq_false c
        obtain rfl := Option.some.inj H
        obtain ⟨A3, c3, e3⟩ := Kd.R_slice H4.out
        subst e3
        clear c H
        go_wp2
        go_ret
        exact ⟨_, rfl, Kd.R_mono H4.out (fun _ _ => trivial), HB.out⟩
set_option maxHeartbeats 8000000 in
set_option maxRecDepth 100000 in
theorem prBy_v2 (k : Nat) (A0 : Option Addr) (c0 : Nat) (jobs : List (S43)) (step : Int) (r : List Int) (w : World) (hr0 : Kd.C k43 w A0 jobs.length jobs) (hn : jobs.length ≤ 20) (hst : 0 < step) (h : spec_prBy.l0 jobs true step k (List.replicate jobs.length (-1)) 0 0 = some r) :
    Calls Try.prog 46 #[.slice A0 jobs.length c0, .bool true, .int .i64 step] w fun e w' => ∃ v0_ : Value, e = .returned (v0_) ∧ Kd.R (Kd.int .i64) 3 w' w.heap.size (fun _ => True) v0_ r ∧ Below w.heap.size w w' := by
  have hu43 := Try.underlying43
  have HR0 := Aside0.mk hr0
  have HN := Aside0.mk hn
  have HH := Aside0.mk h
  have HB0 := Aside0.mk (Below.refl w.heap.size w)
  have HST := Aside0.mk hst
  have hz1 : (step == 0) = false := beq_eq_false_iff_ne.mpr (by omega)
  have hz2 : ¬ step = 0 := by omega
  have hz3 : decide (0 < step) = true := decide_eq_true hst
  have hz4 : decide (step > 0) = true := decide_eq_true hst
  clear hst
  clear hr0 hn h
  go_enter Try.func46, Try.ntmps46
  go_wp2_with (first | (go_at_call 54; (with_reducible refine (prNew_calls A0 c0 jobs w HR0.out HN.out).mono ?_); rintro e w1 ⟨g, rfl, hi, hb⟩; have HI := Aside0.mk hi; have HB := Aside0.mk hb; clear hi hb) | ((with_reducible refine gate_callee (f := 54) rfl ?_); refine goesL_ (some 14) rfl rfl Try.func54 (by kernel_rfl) rfl #[.slice A0 jobs.length c0] rfl (by (try simp only [List.map_toArray, List.map_cons, List.map_nil]); first | done | rfl) ?_; (with_reducible refine (prNew_calls A0 c0 jobs w HR0.out HN.out).mono ?_); rintro e w1 ⟨g, rfl, hi, hb⟩; have HI := Aside0.mk hi; have HB := Aside0.mk hb; clear hi hb; refine ⟨_, rfl, ?_⟩))
  go_loopg [] k (fun kq w' => ∃ (starts : List Int) (now done : Int), Aside0 (spec_prBy.l0 jobs true step kq starts now done = some r) ∧ Aside0 (starts.length = jobs.length) ∧ Aside0 (IsL w w' g jobs starts now done) ∧ Aside0 (Below w.heap.size w w'))
  case atStart => exact ⟨_, _, _, HH, ⟨List.length_replicate⟩, ⟨(by repeat (first | exact HI.out | apply IsL.drewN | apply IsL.drew))⟩, ⟨(by repeat (first | (with_reducible first | exact HB.out | apply below_alloc | apply pw_below_drewN | apply below_drew1) | exact HB.out))⟩⟩
  case round =>
    clear HI HB HH HB0
    obtain ⟨starts, now, done, HQ, HL, HI, HB⟩ := hrel
    cases gk with
    | zero => exact absurd HQ.out (by simp [spec_prBy.l0])
    | succ k1 =>
      have H := HQ.out
      clear HQ
      rw [spec_prBy.l0] at H
      obtain ⟨A1, c1, sv, h1, h2, h3, h4⟩ := HI.out
      have H3 := Aside0.mk h3
      have HG := Aside0.mk h2
      have hc3 : wr.cell? ⟨g, 3, none⟩ = some (.int .i64 done) := (blk_cell h1 3).trans rfl
      have hc1 : wr.cell? ⟨g, 1, none⟩ = some sv := (blk_cell h1 1).trans rfl
      have H4 := Aside0.mk h4
      clear h1 h2 h3 h4
      by_cases c : done < (jobs.length : Int)
      · rw [if_pos c] at H
        have cb : decide (done < (jobs.length : Int)) = true := decide_eq_true c
        clear c hc1 H4
        obtain ⟨nw, hnw⟩ : ∃ nw, prNow jobs starts now done = nw := ⟨_, rfl⟩
        rw [hnw] at H
        have HNW := Aside0.mk hnw
        clear hnw
        by_cases c2 : 0 ≤ (prBest true step jobs starts nw jobs.length).1 ∧ (prBest true step jobs starts nw jobs.length).1 < (jobs.length : Int)
        case neg => rw [if_neg c2] at H; cases H
        rw [if_pos c2] at H
        have H' := Aside0.mk H
        have C2 := Aside0.mk c2
        clear H c2
        go_wp2_with (first | (go_at_call 55; (with_reducible refine (prSkip_calls g jobs starts now done w _ ?s1 ?s2 HL.out HN.out).mono ?_); (case s1 => exact (by repeat (first | exact HI.out | apply IsL.drewN | apply IsL.drew))); (case s2 => exact (by repeat (first | (with_reducible first | exact HB.out | apply below_alloc | apply pw_below_drewN | apply below_drew1) | exact HB.out))); rintro e w1 ⟨rfl, hi, hb⟩; have HI5 := Aside0.mk (show IsL w w1 g jobs starts nw done from by rw [← HNW.out]; exact hi); have HB5 := Aside0.mk hb; clear HI HB hi hb; have HI := HI5; have HB := HB5; clear HI5 HB5) | ((with_reducible refine gate_callee (f := 55) rfl ?_); refine goesL_ (some 23) rfl rfl Try.func55 (by kernel_rfl) rfl #[.pointer (some ⟨g, 0, none⟩)] rfl (by (try simp only [List.map_toArray, List.map_cons, List.map_nil]); first | done | rfl) ?_; (with_reducible refine (prSkip_calls g jobs starts now done w _ ?s1 ?s2 HL.out HN.out).mono ?_); (case s1 => exact (by repeat (first | exact HI.out | apply IsL.drewN | apply IsL.drew))); (case s2 => exact (by repeat (first | (with_reducible first | exact HB.out | apply below_alloc | apply pw_below_drewN | apply below_drew1) | exact HB.out))); rintro e w1 ⟨rfl, hi, hb⟩; have HI5 := Aside0.mk (show IsL w w1 g jobs starts nw done from by rw [← HNW.out]; exact hi); have HB5 := Aside0.mk hb; clear HI HB hi hb; have HI := HI5; have HB := HB5; clear HI5 HB5; refine ⟨_, rfl, ?_⟩))
        go_loopg [8, 9, 26] (jobs.length + 1) (fun kq v8 v9 v26 w' => ∃ i : Nat, v8 = .int .i64 (prBest true step jobs starts nw i).1 ∧ v9 = .int .i64 (prBest true step jobs starts nw i).2 ∧ v26 = .int .i64 (i : Int) ∧ Aside0 (i ≤ jobs.length ∧ jobs.length - i + 1 ≤ kq) ∧ Aside0 (IsL w w' g jobs starts nw done) ∧ Aside0 (Below w.heap.size w w'))
        case atStart => exact ⟨0, rfl, rfl, rfl, ⟨by omega, by omega⟩, ⟨(by repeat (first | exact HI.out | apply IsL.drewN | apply IsL.drew))⟩, ⟨(by repeat (first | (with_reducible first | exact HB.out | apply below_alloc | apply pw_below_drewN | apply below_drew1) | exact HB.out))⟩⟩
        case round =>
          clear HI HB
          obtain ⟨i, rfl, rfl, rfl, HM, HI, HB⟩ := hrel
          by_cases hi : i < jobs.length
          · have hib : decide ((i : Int) < jobs.length) = true := decide_eq_true (by omega)
            have hib2 : decide (i < jobs.length) = true := decide_eq_true hi
            have HI2 := Aside0.mk hi
            clear hi
            have hp : 0 ≤ (i : Int) := by omega
            have hq : (i : Int) < (jobs.length : Int) := by have := HI2.out; omega
            obtain ⟨ad, e1, hx0, hx1, hx2⟩ := at_T43 HR0.out (i : Int) hp hq
            cases e1
            simp only [Int.toNat_natCast] at hx0 hx1 hx2
            replace hx0 := pw_cell_below HB.out hx0
            replace hx1 := pw_cell_below HB.out hx1
            replace hx2 := pw_cell_below HB.out hx2
            replace hp := eq_true hp
            replace hq := eq_true hq
            go_upto_region 7 with (fail)
            go_cut [10, 11] (fun v10 v11 wc => v10 = .int .i64 (i : Int) ∧ ∃ b, v11 = .pointer (some ⟨b, 0, none⟩) ∧ Aside0 (wc.heap[b]? = some (.cells #[.int .i64 (rd_T43 jobs (i : Int)).f0, .int .i64 (rd_T43 jobs (i : Int)).f1, .int .i64 (rd_T43 jobs (i : Int)).f2] 43 (0, 0))) ∧ Aside0 (IsL w wc g jobs starts nw done) ∧ Aside0 (Below w.heap.size w wc))
            case first =>
              go_wp2_with (first | ((with_reducible refine gate_dst (N := 11) rfl ?_); refine box_event ?hg (N := 11) ?hd (cs := #[.int .i64 0, .int .i64 0, .int .i64 0]) (t := 43) ?hr ?_; (case hd => rfl); (case hg => rfl); (case hr => first | (go_simp; done) | (go_simp; rfl)); intro b hg w13 hbox hb; have HI3 := Aside0.mk (IsL.below (by repeat (first | exact HI.out | apply IsL.drewN | apply IsL.drew)) hb); have HB3 := Aside0.mk (below_step (by repeat (first | (with_reducible first | exact HB.out | apply below_alloc | apply pw_below_drewN | apply below_drew1) | exact HB.out)) hb); have HBX := Aside0.mk hbox; have HGE := Aside0.mk (show w.heap.size ≤ b by rw [hg]; exact (below_size (by repeat (first | (with_reducible first | exact HB.out | apply below_alloc | apply pw_below_drewN | apply below_drew1) | exact HB.out)))); clear hg hbox hb; have hk0 : w13.cell? ⟨b, 0, none⟩ = some (.int .i64 0) := (blk_cell HBX.out 0).trans rfl; have hk1 : w13.cell? ⟨b, 1, none⟩ = some (.int .i64 0) := (blk_cell HBX.out 1).trans rfl; have hk2 : w13.cell? ⟨b, 2, none⟩ = some (.int .i64 0) := (blk_cell HBX.out 2).trans rfl; have hf0 := blk_frozen HBX.out 0; have hf1 := blk_frozen HBX.out 1; have hf2 := blk_frozen HBX.out 2))
              go_meet
              have hj := HI3.out.job HBX.out (rd_T43 jobs (i : Int)).f0 (rd_T43 jobs (i : Int)).f1 (rd_T43 jobs (i : Int)).f2
              refine ⟨rfl, b, rfl, ⟨by first | exact hj.2 | simpa using hj.2⟩, ⟨by first | exact hj.1 | simpa using hj.1⟩, ⟨?_⟩⟩
              exact ((HB3.out.setCell (p := ⟨b, 0, none⟩) HGE.out _).setCell (p := ⟨b, 1, none⟩) HGE.out _).setCell (p := ⟨b, 2, none⟩) HGE.out _
            case rest =>
              clear HI HB hx0 hx1 hx2
              obtain ⟨rfl, b, rfl, HBX, HI, HB⟩ := hcut
              have hk0 : wc.cell? ⟨b, 0, none⟩ = some (.int .i64 (rd_T43 jobs (i : Int)).f0) := (blk_cell HBX.out 0).trans rfl
              have hk1 : wc.cell? ⟨b, 1, none⟩ = some (.int .i64 (rd_T43 jobs (i : Int)).f1) := (blk_cell HBX.out 1).trans rfl
              have HQ0 := Aside0.mk (HI.out.q HB.out)
              obtain ⟨A6, c6, sv6, h1, h2, h3, h4⟩ := HI.out
              have hc2 : wc.cell? ⟨g, 2, none⟩ = some (.int .i64 nw) := (blk_cell h1 2).trans rfl
              clear h1 h2 h3 h4
              cases hw : waitsB jobs starts nw i with
              | false =>
                have HW := Aside0.mk hw
                have HBS := Aside0.mk (show prBest true step jobs starts nw (i + 1) = prBest true step jobs starts nw i by rw [prBest, if_neg (by rw [hw]; simp)])
                clear hw
                go_wp2_with (first | (go_at_call 69; (with_reducible refine (prWaits_q g i jobs starts nw done _ ?s1 HI2.out HL.out).mono ?_); (case s1 => first | exact HQ0.out | exact IsS57.drewn HQ0.out _); rintro e w1 ⟨rfl, ⟨nd, rfl⟩⟩; rw [HW.out]) | ((with_reducible refine gate_callee (f := 69) rfl ?_); refine goesL_ (some 33) rfl rfl Try.func69 (by kernel_rfl) rfl #[.pointer (some ⟨g, 0, none⟩), .int .i64 (i : Int)] rfl (by (try simp only [List.map_toArray, List.map_cons, List.map_nil]); first | done | rfl) ?_; (with_reducible refine (prWaits_q g i jobs starts nw done _ ?s1 HI2.out HL.out).mono ?_); (case s1 => first | exact HQ0.out | exact IsS57.drewn HQ0.out _); rintro e w1 ⟨rfl, ⟨nd, rfl⟩⟩; refine ⟨_, rfl, ?_⟩; rw [HW.out]))
                go_roundg (jobs.length - (i + 1) + 1)
                case measure => have := HM.out; have := HI2.out; omega
                case rel => exact ⟨i + 1, by rw [HBS.out], by rw [HBS.out], (by have := HI2.out; have := HN.out; first | rfl | (rw [wrap_small (by omega) (by omega)]; rfl)), ⟨by have := HI2.out; omega, Nat.le_refl _⟩, ⟨(by repeat (first | exact HI.out | apply IsL.drewN | apply IsL.drew))⟩, ⟨(by repeat (first | (with_reducible first | exact HB.out | apply below_alloc | apply pw_below_drewN | apply below_drew1) | exact HB.out))⟩⟩
              | true =>
                have HW := Aside0.mk hw
                obtain ⟨d1, hd1⟩ : ∃ d1, IntKind.i64.wrap (nw - (rd_T43 jobs (i : Int)).f0) = d1 := ⟨_, rfl⟩
                obtain ⟨d2, hd2⟩ : ∃ d2, IntKind.i64.wrap (Int.tdiv d1 step) = d2 := ⟨_, rfl⟩
                obtain ⟨rk, hrk⟩ : ∃ rk, IntKind.i64.wrap ((rd_T43 jobs (i : Int)).f1 + d2) = rk := ⟨_, rfl⟩
                have HRK := Aside0.mk (show prRank true step nw (rd_T43 jobs (i : Int)) = rk by rw [← hrk, ← hd2, ← hd1, wr64, wr64, wr64]; unfold prRank; rw [if_pos rfl, if_pos HST.out])
                by_cases hcm : (prBest true step jobs starts nw i).2 < rk
                · have hcb : decide ((prBest true step jobs starts nw i).2 < rk) = true := decide_eq_true hcm
                  have HBS := Aside0.mk (show prBest true step jobs starts nw (i + 1) = ((i : Int), rk) by rw [prBest, HRK.out]; exact if_pos ⟨hw, hcm⟩)
                  clear hw hcm
                  go_wp2_with (first | (go_at_call 69; (with_reducible refine (prWaits_q g i jobs starts nw done _ ?s1 HI2.out HL.out).mono ?_); (case s1 => first | exact HQ0.out | exact IsS57.drewn HQ0.out _); rintro e w1 ⟨rfl, ⟨nd, rfl⟩⟩; rw [HW.out]) | ((with_reducible refine gate_callee (f := 69) rfl ?_); refine goesL_ (some 33) rfl rfl Try.func69 (by kernel_rfl) rfl #[.pointer (some ⟨g, 0, none⟩), .int .i64 (i : Int)] rfl (by (try simp only [List.map_toArray, List.map_cons, List.map_nil]); first | done | rfl) ?_; (with_reducible refine (prWaits_q g i jobs starts nw done _ ?s1 HI2.out HL.out).mono ?_); (case s1 => first | exact HQ0.out | exact IsS57.drewn HQ0.out _); rintro e w1 ⟨rfl, ⟨nd, rfl⟩⟩; refine ⟨_, rfl, ?_⟩; rw [HW.out]))
                  go_quiet (fail)
                  go_wp2
                  go_roundg (jobs.length - (i + 1) + 1)
                  case measure => have := HM.out; have := HI2.out; omega
                  case rel => exact ⟨i + 1, by rw [HBS.out], by rw [HBS.out], (by have := HI2.out; have := HN.out; first | rfl | (rw [wrap_small (by omega) (by omega)]; rfl)), ⟨by have := HI2.out; omega, Nat.le_refl _⟩, ⟨(by repeat (first | exact HI.out | apply IsL.drewN | apply IsL.drew))⟩, ⟨(by repeat (first | (with_reducible first | exact HB.out | apply below_alloc | apply pw_below_drewN | apply below_drew1) | exact HB.out))⟩⟩
                · have hcb : decide ((prBest true step jobs starts nw i).2 < rk) = false := decide_eq_false hcm
                  have HBS := Aside0.mk (show prBest true step jobs starts nw (i + 1) = prBest true step jobs starts nw i by rw [prBest, HRK.out]; exact if_neg (fun h => hcm h.2))
                  clear hw hcm
                  go_wp2_with (first | (go_at_call 69; (with_reducible refine (prWaits_q g i jobs starts nw done _ ?s1 HI2.out HL.out).mono ?_); (case s1 => first | exact HQ0.out | exact IsS57.drewn HQ0.out _); rintro e w1 ⟨rfl, ⟨nd, rfl⟩⟩; rw [HW.out]) | ((with_reducible refine gate_callee (f := 69) rfl ?_); refine goesL_ (some 33) rfl rfl Try.func69 (by kernel_rfl) rfl #[.pointer (some ⟨g, 0, none⟩), .int .i64 (i : Int)] rfl (by (try simp only [List.map_toArray, List.map_cons, List.map_nil]); first | done | rfl) ?_; (with_reducible refine (prWaits_q g i jobs starts nw done _ ?s1 HI2.out HL.out).mono ?_); (case s1 => first | exact HQ0.out | exact IsS57.drewn HQ0.out _); rintro e w1 ⟨rfl, ⟨nd, rfl⟩⟩; refine ⟨_, rfl, ?_⟩; rw [HW.out]))
                  go_quiet (fail)
                  go_wp2
                  go_roundg (jobs.length - (i + 1) + 1)
                  case measure => have := HM.out; have := HI2.out; omega
                  case rel => exact ⟨i + 1, by rw [HBS.out], by rw [HBS.out], (by have := HI2.out; have := HN.out; first | rfl | (rw [wrap_small (by omega) (by omega)]; rfl)), ⟨by have := HI2.out; omega, Nat.le_refl _⟩, ⟨(by repeat (first | exact HI.out | apply IsL.drewN | apply IsL.drew))⟩, ⟨(by repeat (first | (with_reducible first | exact HB.out | apply below_alloc | apply pw_below_drewN | apply below_drew1) | exact HB.out))⟩⟩
          · obtain rfl : i = jobs.length := by have := HM.out; omega
            have hib : decide ((jobs.length : Int) < jobs.length) = false := decide_eq_false (by omega)
            have hib2 : decide (jobs.length < jobs.length) = false := decide_eq_false hi
            clear hi
            obtain ⟨m, hm⟩ := Int.eq_ofNat_of_zero_le C2.out.1
            rw [hm]
            rw [hm] at H' C2
            rw [Int.toNat_natCast] at H'
            have HMJ := Aside0.mk (show m < jobs.length by have := C2.out.2; omega)
            have HMS := Aside0.mk (show m < starts.length by have := HMJ.out; have := HL.out; omega)
            clear hm C2
            go_wp2_with (first | (go_at_call 57; (with_reducible refine (prBegin_calls g m jobs starts nw done w _ ?s1 ?s2 HMS.out HMJ.out).mono ?_); (case s1 => exact (by repeat (first | exact HI.out | apply IsL.drewN | apply IsL.drew))); (case s2 => exact (by repeat (first | (with_reducible first | exact HB.out | apply below_alloc | apply pw_below_drewN | apply below_drew1) | exact HB.out))); rintro e w1 ⟨rfl, hi, hb⟩; have HI5 := Aside0.mk hi; have HB5 := Aside0.mk hb; clear HI HB hi hb; have HI := HI5; have HB := HB5; clear HI5 HB5) | ((with_reducible refine gate_callee (f := 57) rfl ?_); refine goesL_ (some 59) rfl rfl Try.func57 (by kernel_rfl) rfl #[.pointer (some ⟨g, 0, none⟩), .int .i64 (m : Int)] rfl (by (try simp only [List.map_toArray, List.map_cons, List.map_nil]); first | done | rfl) ?_; (with_reducible refine (prBegin_calls g m jobs starts nw done w _ ?s1 ?s2 HMS.out HMJ.out).mono ?_); (case s1 => exact (by repeat (first | exact HI.out | apply IsL.drewN | apply IsL.drew))); (case s2 => exact (by repeat (first | (with_reducible first | exact HB.out | apply below_alloc | apply pw_below_drewN | apply below_drew1) | exact HB.out))); rintro e w1 ⟨rfl, hi, hb⟩; have HI5 := Aside0.mk hi; have HB5 := Aside0.mk hb; clear HI HB hi hb; have HI := HI5; have HB := HB5; clear HI5 HB5; refine ⟨_, rfl, ?_⟩))
            go_roundg k1
            case measure => omega
            case rel => exact ⟨_, _, _, H', ⟨by rw [List.length_set]; exact HL.out⟩, HI, HB⟩
      · rw [if_neg c] at H
        have cb : decide (done < (jobs.length : Int)) = false := decide_eq_false c
        obtain rfl := Option.some.inj H
        obtain ⟨A3, c3, e3⟩ := Kd.R_slice H4.out
        subst e3
        clear c H
        go_wp2
        go_ret
        exact ⟨_, rfl, Kd.R_mono H4.out (fun _ _ => trivial), HB.out⟩
theorem spec_prBy.calls (k : Nat) (A0 : Option Addr) (c0 : Nat) (l0 : List (S43)) (a1 : Bool) (a2 : Int) (r : List Int) (w : World) (hr0 : Kd.C k43 w A0 l0.length l0) (_hc0 : l0.length ≤ c0) (h : spec_prBy.f k l0 a1 a2 = some r) :
    Calls Try.prog 46 #[.slice A0 l0.length c0, .bool a1, .int .i64 a2] w fun e w' => ∃ v0_ : Value, e = .returned (v0_) ∧ Kd.R (Kd.int .i64) 3 w' w.heap.size (fun _ => True) v0_ r ∧ Below w.heap.size w w' := by
  unfold spec_prBy.f at h
  by_cases c : l0.length ≤ 20 ∧ 0 ≤ a2 ∧ (0 < a2 → a1 = true)
  case neg => rw [if_neg c] at h; cases h
  rw [if_pos c] at h
  obtain ⟨hn, h0, h1⟩ := c
  by_cases hs : 0 < a2
  · obtain rfl := h1 hs
    exact prBy_v2 k A0 c0 l0 a2 r w hr0 hn hs h
  · obtain rfl : a2 = 0 := by omega
    cases a1 with
    | false => exact prBy_v0 k A0 c0 l0 r w hr0 hn h
    | true => exact prBy_v1 k A0 c0 l0 r w hr0 hn h

end Go.Proofs.Ytkkgnjdepgmjlaa.X

/- What the functions of the program come to, and that they do: written by this session's program wip/xprint.py out of the translation; parts named extern are typed by hand. -/
namespace Go.Proofs.Ytkkgnjdepgmjlaa.X
open Go.RowKit Go.Proofs.YtkkgnjdepgmjlaaW.PrintWords Go.Proofs.YtkkgnjdepgmjlaaW.PrintLast Go.Proofs.YtkkgnjdepgmjlaaW.PrintMore
attribute [local go_sem] max2_int min2_int max_two min_two max_three min_three max_four min_four   -- for this text's walks alone
set_option linter.unusedVariables false
set_option linter.unusedSimpArgs false

/-! ### spec_AgedStarts: function 25 -/
def spec_AgedStarts.f (k : Nat) (l0 : List (S43)) (a1 : Int) : Option (List Int × Bool) := (spec_prJobs.f k l0).bind fun t364 => (if t364 = true then ((spec_l1In.f a1 1 100).bind fun t365 => (if t365 = true then ((spec_prBy.f k l0 true a1).bind fun t366 => (some (t366, true))) else (some (([] : List Int), false)))) else (some (([] : List Int), false)))
set_option maxHeartbeats 8000000 in
set_option maxRecDepth 100000 in
theorem spec_AgedStarts.calls (k : Nat) (A0 : Option Addr) (c0 : Nat) (l0 : List (S43)) (a1 : Int) (r1 : List Int) (r2 : Bool) (w : World) (hr0 : Kd.C k43 w A0 l0.length l0) (hc0 : l0.length ≤ c0) (h : spec_AgedStarts.f k l0 a1 = some (r1, r2)) :
    Calls Try.prog 25 #[.slice A0 l0.length c0, .int .i64 a1] w fun e w' => ∃ v0_ : Value, e = .returned (.tuple #[v0_, .bool r2]) ∧ Kd.R (Kd.int .i64) 3 w' w.heap.size (fun _ => True) v0_ r1 ∧ Below w.heap.size w w' := by
  have HR0 := Aside0.mk hr0
  have HC0 := Aside0.mk hc0
  clear hr0 hc0
  have HB := Aside0.mk (Below.refl w.heap.size w)
  have H : ((spec_prJobs.f k l0).bind fun t364 => (if t364 = true then ((spec_l1In.f a1 1 100).bind fun t365 => (if t365 = true then ((spec_prBy.f k l0 true a1).bind fun t366 => (some (t366, true))) else (some (([] : List Int), false)))) else (some (([] : List Int), false)))) = some (r1, r2) := h
  clear h
  replace H := Option.bind_eq_some_iff.mp H
  obtain ⟨t364, A30, H⟩ := H
  replace H : (if t364 = true then ((spec_l1In.f a1 1 100).bind fun t365 => (if t365 = true then ((spec_prBy.f k l0 true a1).bind fun t366 => (some (t366, true))) else (some (([] : List Int), false)))) else (some (([] : List Int), false))) = some (r1, r2) := H
  have A3 := Aside0.mk A30
  clear A30
  by_cases c4 : t364 = true
  · subst c4
    have H1 : ((spec_l1In.f a1 1 100).bind fun t365 => (if t365 = true then ((spec_prBy.f k l0 true a1).bind fun t366 => (some (t366, true))) else (some (([] : List Int), false)))) = some (r1, r2) := by rw [if_pos rfl] at H; exact H
    clear H
    have H := H1
    clear H1
    replace H := Option.bind_eq_some_iff.mp H
    obtain ⟨t365, A50, H⟩ := H
    replace H : (if t365 = true then ((spec_prBy.f k l0 true a1).bind fun t366 => (some (t366, true))) else (some (([] : List Int), false))) = some (r1, r2) := H
    have A5 := Aside0.mk A50
    clear A50
    by_cases c6 : t365 = true
    · subst c6
      have H1 : ((spec_prBy.f k l0 true a1).bind fun t366 => (some (t366, true))) = some (r1, r2) := by rw [if_pos rfl] at H; exact H
      clear H
      have H := H1
      clear H1
      replace H := Option.bind_eq_some_iff.mp H
      obtain ⟨t366, A70, H⟩ := H
      replace H : (some (t366, true)) = some (r1, r2) := H
      have A7 := Aside0.mk A70
      clear A70
      simp only [Option.some.injEq, Prod.mk.injEq] at H
      obtain ⟨rfl, rfl⟩ := H
      go_enter Try.func25, Try.ntmps25
      go_wp2_with (first | ((with_reducible refine gate_callee (f := 44) rfl ?_); refine goesL_ (some 7) rfl rfl Try.func44 (by kernel_rfl) rfl #[.slice A0 l0.length c0] rfl (by (try simp only [List.map_toArray, List.map_cons, List.map_nil]); first | done | rfl | (simp only [List.length_drop, List.length_take]; rfl)) ?_; (with_reducible refine (spec_prJobs.calls k _ _ l0 true _ ?side1 ?side2 A3.out).mono ?_); (case side1 => repeat (first | exact HR0.out | (with_reducible refine Kd.C_alloc ?_ _) | (with_reducible refine Kd.C_drewN ?_ _) | (with_reducible refine Kd.C_drew ?_))); (case side2 => exact HC0.out); rintro e w8 ⟨rfl, hb⟩; refine ⟨_, rfl, ?_⟩; have n0_ := Aside0.mk (below_step (by repeat (first | (with_reducible first | exact HB.out | apply below_alloc | apply pw_below_drewN | apply below_drew1) | exact HB.out)) hb); clear HB; have HB := n0_; clear n0_; (try clear hb); (try clear hb2); (try clear hk); (try clear hi)) | (go_at_call 45; (with_reducible refine (spec_l1In.calls a1 1 100 true _ A5.out).mono ?_); rintro e w' ⟨rfl, ⟨nd, rfl⟩⟩) | ((with_reducible refine gate_callee (f := 46) rfl ?_); refine goesL_ (some 16) rfl rfl Try.func46 (by kernel_rfl) rfl #[.slice A0 l0.length c0, .bool true, .int .i64 a1] rfl (by (try simp only [List.map_toArray, List.map_cons, List.map_nil]); first | done | rfl | (simp only [List.length_drop, List.length_take]; rfl)) ?_; (with_reducible refine (spec_prBy.calls k _ _ l0 true a1 t366 _ ?side1 ?side2 A7.out).mono ?_); (case side1 => repeat (first | exact (Kd.C_below HR0.out (by repeat (first | (with_reducible first | exact HB.out | apply below_alloc | apply pw_below_drewN | apply below_drew1) | exact HB.out))) | (with_reducible refine Kd.C_alloc ?_ _) | (with_reducible refine Kd.C_drewN ?_ _) | (with_reducible refine Kd.C_drew ?_))); (case side2 => exact HC0.out); rintro e w9 ⟨v367, rfl, ho0, hb⟩; refine ⟨_, rfl, ?_⟩; have n0_ := Aside0.mk (Kd.R_lower ho0 (below_size (by repeat (first | (with_reducible first | exact HB.out | apply below_alloc | apply pw_below_drewN | apply below_drew1) | exact HB.out)))); have n1_ := Aside0.mk (below_step (by repeat (first | (with_reducible first | exact HB.out | apply below_alloc | apply pw_below_drewN | apply below_drew1) | exact HB.out)) hb); clear HB; have HO368 := n0_; have HB := n1_; clear n0_ n1_; (try clear hb); (try clear hb2); (try clear hk); (try clear hi); (try clear ho0)))
      go_ret2
      exact ⟨_, by first | rfl | (simp [errW_none, errW_some] <;> rfl) | (simp [*, errW_none, errW_some] <;> rfl), by (with_reducible repeat (first | apply Kd.R_alloc | apply Kd.R_drewN | apply Kd.R_drew)); exact HO368.out, by repeat (first | (with_reducible first | exact HB.out | apply below_alloc | apply pw_below_drewN | apply below_drew1) | exact HB.out)⟩
    · replace c6 := Bool.eq_false_iff.mpr c6
      subst c6
      have H1 : (some (([] : List Int), false)) = some (r1, r2) := by rw [if_neg (show ¬ (false = true) by decide)] at H; exact H
      clear H
      have H := H1
      clear H1
      simp only [Option.some.injEq, Prod.mk.injEq] at H
      obtain ⟨rfl, rfl⟩ := H
      go_enter Try.func25, Try.ntmps25
      go_wp2_with (first | ((with_reducible refine gate_callee (f := 44) rfl ?_); refine goesL_ (some 7) rfl rfl Try.func44 (by kernel_rfl) rfl #[.slice A0 l0.length c0] rfl (by (try simp only [List.map_toArray, List.map_cons, List.map_nil]); first | done | rfl | (simp only [List.length_drop, List.length_take]; rfl)) ?_; (with_reducible refine (spec_prJobs.calls k _ _ l0 true _ ?side1 ?side2 A3.out).mono ?_); (case side1 => repeat (first | exact HR0.out | (with_reducible refine Kd.C_alloc ?_ _) | (with_reducible refine Kd.C_drewN ?_ _) | (with_reducible refine Kd.C_drew ?_))); (case side2 => exact HC0.out); rintro e w10 ⟨rfl, hb⟩; refine ⟨_, rfl, ?_⟩; have n0_ := Aside0.mk (below_step (by repeat (first | (with_reducible first | exact HB.out | apply below_alloc | apply pw_below_drewN | apply below_drew1) | exact HB.out)) hb); clear HB; have HB := n0_; clear n0_; (try clear hb); (try clear hb2); (try clear hk); (try clear hi)) | (go_at_call 45; (with_reducible refine (spec_l1In.calls a1 1 100 false _ A5.out).mono ?_); rintro e w' ⟨rfl, ⟨nd, rfl⟩⟩))
      go_ret2
      exact ⟨_, by first | rfl | (simp [errW_none, errW_some] <;> rfl) | (simp [*, errW_none, errW_some] <;> rfl), by first | exact Kd.R_nil _ _ _ _ _ | exact Kd.N_nil _ _ _ _ _ | exact Kd.V_nil _ _ _ _ _ | exact Kd.Q_nil _ _ _ _ _ | exact Kd.S_nil _ _ _ _ _, by repeat (first | (with_reducible first | exact HB.out | apply below_alloc | apply pw_below_drewN | apply below_drew1) | exact HB.out)⟩
  · replace c4 := Bool.eq_false_iff.mpr c4
    subst c4
    have H1 : (some (([] : List Int), false)) = some (r1, r2) := by rw [if_neg (show ¬ (false = true) by decide)] at H; exact H
    clear H
    have H := H1
    clear H1
    simp only [Option.some.injEq, Prod.mk.injEq] at H
    obtain ⟨rfl, rfl⟩ := H
    go_enter Try.func25, Try.ntmps25
    go_wp2_with (first | ((with_reducible refine gate_callee (f := 44) rfl ?_); refine goesL_ (some 7) rfl rfl Try.func44 (by kernel_rfl) rfl #[.slice A0 l0.length c0] rfl (by (try simp only [List.map_toArray, List.map_cons, List.map_nil]); first | done | rfl | (simp only [List.length_drop, List.length_take]; rfl)) ?_; (with_reducible refine (spec_prJobs.calls k _ _ l0 false _ ?side1 ?side2 A3.out).mono ?_); (case side1 => repeat (first | exact HR0.out | (with_reducible refine Kd.C_alloc ?_ _) | (with_reducible refine Kd.C_drewN ?_ _) | (with_reducible refine Kd.C_drew ?_))); (case side2 => exact HC0.out); rintro e w11 ⟨rfl, hb⟩; refine ⟨_, rfl, ?_⟩; have n0_ := Aside0.mk (below_step (by repeat (first | (with_reducible first | exact HB.out | apply below_alloc | apply pw_below_drewN | apply below_drew1) | exact HB.out)) hb); clear HB; have HB := n0_; clear n0_; (try clear hb); (try clear hb2); (try clear hk); (try clear hi)))
    go_ret2
    exact ⟨_, by first | rfl | (simp [errW_none, errW_some] <;> rfl) | (simp [*, errW_none, errW_some] <;> rfl), by first | exact Kd.R_nil _ _ _ _ _ | exact Kd.N_nil _ _ _ _ _ | exact Kd.V_nil _ _ _ _ _ | exact Kd.Q_nil _ _ _ _ _ | exact Kd.S_nil _ _ _ _ _, by repeat (first | (with_reducible first | exact HB.out | apply below_alloc | apply pw_below_drewN | apply below_drew1) | exact HB.out)⟩

/-! ### bits_Mul64: function 87 -/
def bits_Mul64.f (a0 : Int) (a1 : Int) : Option (Int × Int) := some (IntKind.u64.wrap ((IntKind.u64.wrap ((IntKind.u64.wrap ((a0 / 4294967296) * (a1 / 4294967296))) + ((IntKind.u64.wrap ((IntKind.u64.wrap ((a0 / 4294967296) * (Go.bits .and .u64 a1 4294967295))) + ((IntKind.u64.wrap ((Go.bits .and .u64 a0 4294967295) * (Go.bits .and .u64 a1 4294967295))) / 4294967296))) / 4294967296))) + ((IntKind.u64.wrap ((Go.bits .and .u64 (IntKind.u64.wrap ((IntKind.u64.wrap ((a0 / 4294967296) * (Go.bits .and .u64 a1 4294967295))) + ((IntKind.u64.wrap ((Go.bits .and .u64 a0 4294967295) * (Go.bits .and .u64 a1 4294967295))) / 4294967296))) 4294967295) + (IntKind.u64.wrap ((Go.bits .and .u64 a0 4294967295) * (a1 / 4294967296))))) / 4294967296)), IntKind.u64.wrap (a0 * a1))
set_option maxHeartbeats 8000000 in
set_option maxRecDepth 100000 in
theorem bits_Mul64.calls (a0 : Int) (a1 : Int) (r1 : Int) (r2 : Int) (w : World) (h : bits_Mul64.f a0 a1 = some (r1, r2)) :
    Calls Try.prog 87 #[.int .u64 a0, .int .u64 a1] w fun e w' => e = .returned (.tuple #[.int .u64 r1, .int .u64 r2]) ∧ Drawn0 w w' := by
  have H : (some (IntKind.u64.wrap ((IntKind.u64.wrap ((IntKind.u64.wrap ((a0 / 4294967296) * (a1 / 4294967296))) + ((IntKind.u64.wrap ((IntKind.u64.wrap ((a0 / 4294967296) * (Go.bits .and .u64 a1 4294967295))) + ((IntKind.u64.wrap ((Go.bits .and .u64 a0 4294967295) * (Go.bits .and .u64 a1 4294967295))) / 4294967296))) / 4294967296))) + ((IntKind.u64.wrap ((Go.bits .and .u64 (IntKind.u64.wrap ((IntKind.u64.wrap ((a0 / 4294967296) * (Go.bits .and .u64 a1 4294967295))) + ((IntKind.u64.wrap ((Go.bits .and .u64 a0 4294967295) * (Go.bits .and .u64 a1 4294967295))) / 4294967296))) 4294967295) + (IntKind.u64.wrap ((Go.bits .and .u64 a0 4294967295) * (a1 / 4294967296))))) / 4294967296)), IntKind.u64.wrap (a0 * a1))) = some (r1, r2) := h
  clear h
  simp only [Option.some.injEq, Prod.mk.injEq] at H
  obtain ⟨rfl, rfl⟩ := H
  go_enter Try.func87, Try.ntmps87
  go_wp2
  go_ret2
  exact ⟨by first | rfl | (simp; done) | (simp [*]; done), by repeat (first | exact Drawn0.refl _ | apply Drawn0.step)⟩

/-! ### bits_Mul: function 83 -/
def bits_Mul.f (a0 : Int) (a1 : Int) : Option (Int × Int) := (bits_Mul64.f a0 a1).bind fun bt369 => (some (bt369.1, bt369.2))
set_option maxHeartbeats 8000000 in
set_option maxRecDepth 100000 in
theorem bits_Mul.calls (a0 : Int) (a1 : Int) (r1 : Int) (r2 : Int) (w : World) (h : bits_Mul.f a0 a1 = some (r1, r2)) :
    Calls Try.prog 83 #[.int .u64 a0, .int .u64 a1] w fun e w' => e = .returned (.tuple #[.int .u64 r1, .int .u64 r2]) ∧ Drawn0 w w' := by
  have H : ((bits_Mul64.f a0 a1).bind fun bt369 => (some (bt369.1, bt369.2))) = some (r1, r2) := h
  clear h
  replace H := Option.bind_eq_some_iff.mp H
  obtain ⟨⟨t369, t370⟩, A30, H⟩ := H
  replace H : (some (t369, t370)) = some (r1, r2) := H
  have A3 := Aside0.mk A30
  clear A30
  simp only [Option.some.injEq, Prod.mk.injEq] at H
  obtain ⟨rfl, rfl⟩ := H
  go_enter Try.func83, Try.ntmps83
  go_wp2_with (first | ((with_reducible refine gate_callee (f := 87) rfl ?_); refine goesL_ (some 25) rfl rfl Try.func87 (by kernel_rfl) rfl #[.int .u64 a0, .int .u64 a1] rfl (by (try simp only [List.map_toArray, List.map_cons, List.map_nil]); first | done | rfl | (simp only [List.length_drop, List.length_take]; rfl)) ?_; (with_reducible refine (bits_Mul64.calls a0 a1 t369 t370 _ A3.out).mono ?_); rintro e w' ⟨rfl, ⟨nd, rfl⟩⟩; refine ⟨_, rfl, ?_⟩))
  go_ret2
  exact ⟨by first | rfl | (simp; done) | (simp [*]; done), by repeat (first | exact Drawn0.refl _ | apply Drawn0.step)⟩

end Go.Proofs.Ytkkgnjdepgmjlaa.X

/- What the functions of the program come to, and that they do: written by this session's program wip/xprint.py out of the translation; parts named extern are typed by hand. -/
namespace Go.Proofs.Ytkkgnjdepgmjlaa.X
open Go.RowKit Go.Proofs.YtkkgnjdepgmjlaaW.PrintWords Go.Proofs.YtkkgnjdepgmjlaaW.PrintLast Go.Proofs.YtkkgnjdepgmjlaaW.PrintMore
attribute [local go_sem] max2_int min2_int max_two min_two max_three min_three max_four min_four   -- for this text's walks alone
set_option linter.unusedVariables false
set_option linter.unusedSimpArgs false

/-! ### slices_Repeat_int_int: function 78 -/
/- EXTERN, by hand: slices.Repeat of one whole number, at most 20 times. -/
/-- Of a row of one's own the first m elements are laid behind themselves, as many as fit. -/
theorem step_copy_self {P : Program} {w0 W : World} {ops : Array Oper} {o : Oper} {a : Act} {K : Act → World → Prop} {Q : Exit → Act → World → Prop} {E : Prop} (base e : Nat) (hgd : o.guard = none) (d s : Operand) (t : TypeId)
    (ho : o.op = .call { callee := .builtin .copy, args := #[d, s], argTypes := #[t, t] }) (ht : P.underlying t = some (.slice e)) (hsz : (P.info? e).map (·.size) = some 1)
    (g n c m q : Nat) (xs : List Int) (ok : Nat → Prop) (hd : a.eval d = .slice (some ⟨g, m, none⟩) (n - m) (c - m)) (hs : a.eval s = .slice (some ⟨g, 0, none⟩) m c)
    (HO : (Kd.int .i64).R e W base ok (.slice (some ⟨g, 0, none⟩) n c) xs) (hn : xs.length = n) (hm : m ≤ n) (hq : q = Nat.min m (n - m)) (HB : Below base w0 W)
    (h : ∀ w1, (Kd.int .i64).R e w1 base ok (.slice (some ⟨g, 0, none⟩) n c) (splice xs m (xs.take q)) → Below base w0 w1 → K (a.put o.dst (goInt q)) w1) : if Region.wanted o (yielded ops a.tmps) = true then Oper.wp P o a W K Q else E := by
  have HR := (Kd.R_reads' HO).2.2
  obtain ⟨hok, inner, ⟨h1, h2⟩, hreps⟩ := HO
  have hin : inner = nums .i64 xs := by
    obtain ⟨hl, hr⟩ := hreps
    apply List.ext_getElem?
    intro j
    by_cases hj : j < xs.length
    · have := hr j xs[j] (by rw [List.getElem?_eq_getElem hj])
      have h3 : (List.take (Kd.int .i64).sz (List.drop (j * (Kd.int .i64).sz) inner)) = [.int .i64 xs[j]] := this
      have h4 : inner[j]? = (List.take 1 (List.drop (j * 1) inner))[0]? := by simp
      rw [h4]
      have h5 : List.take 1 (List.drop (j * 1) inner) = [.int .i64 xs[j]] := h3
      rw [h5]
      simp [nums, hj]
    · have e1 : (Kd.int .i64).sz = 1 := rfl
      rw [List.getElem?_eq_none (by rw [hl, e1]; omega), List.getElem?_eq_none (by simp [nums]; omega)]
  subst hin
  have e1 : (Kd.int .i64).sz = 1 := rfl
  rw [e1] at h1 h2
  rcases h2 with ⟨hf, h0⟩ | ⟨g2, cap, cur, hv, hbg, hh, hnc, hcm, hcs, htk⟩
  · cases hf
  · obtain ⟨rfl, rfl, rfl⟩ : g2 = g ∧ n = xs.length ∧ cap = c := by
      simp only [Value.slice.injEq, Option.some.injEq, Addr.mk.injEq] at hv
      exact ⟨hv.1.1.symm, hv.2.1, hv.2.2.symm⟩
    clear hv
    rw [Nat.mul_one] at hcs htk
    have hcur : cur = (cur.toList).toArray := by simp
    rw [hcur] at hh
    have hcl : cur.toList.length = cur.size := by simp
    have hql : q ≤ xs.length - m := by rw [hq]; exact Nat.min_le_right _ _
    have hqm : q ≤ m := by rw [hq]; exact Nat.min_le_left _ _
    have hlt : (xs.take q).length = q := by rw [List.length_take]; omega
    have hle2 : m + (nums .i64 (xs.take q)).length ≤ cur.toList.length := by rw [hcl, nums_length, hlt]; omega
    refine step_copy_splice hgd d s t t ho e ht hsz (some ⟨g2, m, none⟩) (some ⟨g2, 0, none⟩) (xs.length - m) (cap - m) m cap hd hs g2 m cur.toList e hh (nums .i64 (xs.take q)) (by rw [nums_length, hlt]; exact hq)
      (by
        intro hp
        refine ⟨rfl, _, rfl, fun j u hu => ?_⟩
        have hj : j < q := by
          rcases Nat.lt_or_ge j q with h | h
          · exact h
          · rw [List.getElem?_eq_none (by rw [nums_length, hlt]; exact h)] at hu
            cases hu
        obtain ⟨ad', e', hc⟩ := Kd.at_int HR (j : Int) (by omega) (by omega)
        cases e'
        rw [Int.toNat_natCast] at hc
        rw [hc]
        have h4 : (xs.take q)[j]? = xs[j]? := by rw [List.getElem?_take, if_pos hj]
        unfold nums at hu
        rw [List.getElem?_map, h4, List.getElem?_eq_getElem (show j < xs.length by omega)] at hu
        simp at hu
        rw [← hu]
        simp [rd, List.getD_eq_getElem?_getD, List.getElem?_eq_getElem (show j < xs.length by omega)])
      hle2 (by intro u hu; simp only [nums, List.mem_map] at hu; obtain ⟨z, _, rfl⟩ := hu; rfl) base w0 HB hbg ?_
    intro w' hH hB
    have hH' : w'.heap[g2]? = some (.cells (splice cur.toList m (nums .i64 (xs.take q))).toArray e (0, 0)) := hH
    have hsl : (splice cur.toList m (nums .i64 (xs.take q))).length = cur.toList.length := length_splice _ _ _ hle2
    have hlen : (splice xs m (xs.take q)).length = xs.length := length_splice _ _ _ (by rw [hlt]; omega)
    have hfin : List.take xs.length (splice cur.toList m (nums .i64 (xs.take q))) = nums .i64 (splice xs m (xs.take q)) := by
      obtain ⟨tl, h0⟩ : ∃ tl, cur.toList = nums .i64 xs ++ tl := ⟨cur.toList.drop xs.length, by rw [← htk, List.take_append_drop]⟩
      have hnl : (nums .i64 xs).length = xs.length := nums_length _ _
      have ht1 : List.take m (nums .i64 xs ++ tl) = List.take m (nums .i64 xs) := List.take_append_of_le_length (by rw [hnl]; omega)
      have ht2 : List.drop (m + q) (nums .i64 xs ++ tl) = List.drop (m + q) (nums .i64 xs) ++ tl := List.drop_append_of_le_length (by rw [hnl]; omega)
      rw [h0]
      unfold splice
      rw [nums_length, hlt, ht1, ht2]
      have h5 : nums .i64 (List.take m xs ++ (List.take q xs ++ List.drop (m + q) xs)) = List.take m (nums .i64 xs) ++ (nums .i64 (List.take q xs) ++ List.drop (m + q) (nums .i64 xs)) := by
        simp [nums, List.map_take, List.map_drop]
      have h6 : (List.take m (nums .i64 xs) ++ (nums .i64 (List.take q xs) ++ List.drop (m + q) (nums .i64 xs))).length = xs.length := by
        rw [List.length_append, List.length_append, List.length_take, List.length_drop, nums_length, nums_length, hlt]
        omega
      rw [h5, ← List.append_assoc (nums .i64 (List.take q xs)), ← List.append_assoc (List.take m (nums .i64 xs)), List.take_append_of_le_length (by rw [h6]; exact Nat.le_refl _), List.take_of_length_le (by rw [h6]; exact Nat.le_refl _)]
    have hput := h w' ⟨fun k hk => hok k hk, nums .i64 (splice xs m (xs.take q)), ⟨by rw [nums_length, e1, Nat.mul_one], .inr ⟨g2, cap, (splice cur.toList m (nums .i64 (xs.take q))).toArray, by rw [hlen], hbg, hH', by rw [hlen]; exact hnc, hcm, by rw [e1, Nat.mul_one, List.size_toArray, hsl, hcl]; exact hcs, (by
      rw [e1, Nat.mul_one, hlen]
      exact hfin)⟩⟩, (show Reps _ _ _ (encs (Value.int .i64) (splice xs m (xs.take q))) from Kd.reps_scalar _)⟩ hB
    rw [nums_length, hlt]
    exact hput
theorem R_copy1 {P : Program} {w0 W : World} {ops : Array Oper} {rest : List Oper} {o : Oper} {a : Act} {Q : Exit → Act → World → Prop} (base e : Nat) (hgd : o.guard = none) (d s : Operand) (t : TypeId)
    (ho : o.op = .call { callee := .builtin .copy, args := #[d, s], argTypes := #[t, t] }) (ht : P.underlying t = some (.slice e)) (hsz : (P.info? e).map (·.size) = some 1)
    (v : Value) (xs ys : List Int) (A : Option Addr) (c : Nat) (ok : Nat → Prop) (hd : a.eval d = v) (hs : a.eval s = .slice A ys.length c) (HO : (Kd.int .i64).R e W base ok v xs) (HR : (Kd.int .i64).C W A ys.length ys) (HB : Below base w0 W) (hle : ys.length ≤ xs.length)
    (h : ∀ w1, (Kd.int .i64).R e w1 base ok v (ys ++ xs.drop ys.length) → Below base w0 w1 → wpList P ops Q rest (a.put o.dst (goInt ys.length)) w1) : wpList P ops Q (o :: rest) a W := by
  obtain ⟨hok, inner, ⟨h1, h2⟩, hreps⟩ := HO
  have hin : inner = nums .i64 xs := by
    obtain ⟨hl, hr⟩ := hreps
    apply List.ext_getElem?
    intro j
    by_cases hj : j < xs.length
    · have := hr j xs[j] (by rw [List.getElem?_eq_getElem hj])
      have h3 : (List.take (Kd.int .i64).sz (List.drop (j * (Kd.int .i64).sz) inner)) = [.int .i64 xs[j]] := this
      have h4 : inner[j]? = (List.take 1 (List.drop (j * 1) inner))[0]? := by simp
      rw [h4]
      have h5 : List.take 1 (List.drop (j * 1) inner) = [.int .i64 xs[j]] := h3
      rw [h5]
      simp [nums, hj]
    · have e1 : (Kd.int .i64).sz = 1 := rfl
      rw [List.getElem?_eq_none (by rw [hl, e1]; omega), List.getElem?_eq_none (by simp [nums]; omega)]
  subst hin
  have e1 : (Kd.int .i64).sz = 1 := rfl
  rw [e1] at h1 h2
  rcases h2 with ⟨rfl, h0⟩ | ⟨g, cap, cur, rfl, hbg, hh, hnc, hcm, hcs, htk⟩
  · have hy : ys = [] := List.eq_nil_of_length_eq_zero (by omega)
    have hx : xs = [] := List.eq_nil_of_length_eq_zero h0
    subst hy
    subst hx
    refine wpList_copy_nothing hgd d s t t ho e ht hsz none A 0 0 0 c hd hs rfl ?_
    exact h W ⟨hok, [], ⟨by simp, .inl ⟨rfl, rfl⟩⟩, Reps.none _ _⟩ HB
  · have hcur : cur = (cur.toList).toArray := by simp
    rw [Nat.mul_one] at hcs htk
    rw [hcur] at hh
    have hcl : cur.toList.length = cur.size := by simp
    have hle2 : 0 + (nums .i64 ys).length ≤ cur.toList.length := by rw [hcl, nums_length]; omega
    refine wpList_copy_splice hgd d s t t ho e ht hsz (some ⟨g, 0, none⟩) A xs.length cap ys.length c hd hs g 0 cur.toList e hh (nums .i64 ys) (by rw [nums_length]; exact (Nat.min_eq_left hle).symm)
      (by
        intro hp
        rw [nums_length] at hp
        refine ⟨rfl, ?_⟩
        obtain ⟨ad, e, _⟩ := Kd.at_int HR 0 (by omega) (by omega)
        refine ⟨ad, e, fun j u hu => ?_⟩
        have hj : j < ys.length := by
          rcases Nat.lt_or_ge j ys.length with h | h
          · exact h
          · simp [nums, List.getElem?_eq_none h] at hu
        obtain ⟨ad', e', hc⟩ := Kd.at_int HR (j : Int) (by omega) (by omega)
        rw [e] at e'
        cases e'
        rw [Int.toNat_natCast] at hc
        rw [hc]
        simp [nums, List.getElem?_eq_getElem hj] at hu
        rw [← hu]
        simp [rd, List.getD_eq_getElem?_getD, List.getElem?_eq_getElem hj])
      hle2 (by intro u hu; simp only [nums, List.mem_map] at hu; obtain ⟨q, _, rfl⟩ := hu; rfl) base w0 HB hbg ?_
    intro w' hH hB
    have hH' : w'.heap[g]? = some (.cells (splice cur.toList 0 (nums .i64 ys)).toArray e (0, 0)) := hH
    have hsl : (splice cur.toList 0 (nums .i64 ys)).length = cur.toList.length := length_splice _ _ _ hle2
    have hlen : (ys ++ xs.drop ys.length).length = xs.length := by simp; omega
    have hput := h w' ⟨fun k hk => hok k hk, nums .i64 (ys ++ xs.drop ys.length), ⟨by rw [nums_length, e1, Nat.mul_one], .inr ⟨g, cap, (splice cur.toList 0 (nums .i64 ys)).toArray, by rw [hlen], hbg, hH', by rw [hlen]; exact hnc, hcm, by rw [e1, Nat.mul_one, List.size_toArray, hsl, hcl]; exact hcs, (by
      rw [e1, Nat.mul_one, hlen]
      have hX : xs.length = ys.length + (xs.length - ys.length) := by omega
      have hdr : (cur.toList.drop ys.length).take (xs.length - ys.length) = nums .i64 (xs.drop ys.length) := by
        have : nums .i64 (xs.drop ys.length) = (nums .i64 xs).drop ys.length := by simp [nums, List.map_drop]
        rw [this, ← htk, List.drop_take]
      show List.take xs.length (splice cur.toList 0 (nums .i64 ys)).toArray.toList = _
      unfold splice
      simp only [List.take_zero, List.nil_append, Nat.zero_add, nums_length]
      rw [nums_append, List.take_append, nums_length, ← hdr]
      rw [List.take_of_length_le (by rw [nums_length]; exact hle)])⟩⟩, (show Reps _ _ _ (encs (Value.int .i64) (ys ++ xs.drop ys.length)) from Kd.reps_scalar _)⟩ hB
    rw [nums_length] 
    exact hput
theorem mul1 : ∀ n : Nat, n ≤ 20 → bits_Mul.f 1 (n : Int) = some (0, (n : Int)) := by
  intro n hn
  have h : ∀ k : Fin 21, bits_Mul.f 1 ((k.val : Nat) : Int) = some (0, ((k.val : Nat) : Int)) := by decide +kernel
  exact h ⟨n, by omega⟩
theorem rep_splice (v : Int) (n m : Nat) (hm : m ≤ n) (h1 : 1 ≤ m) : splice (List.replicate m v ++ List.replicate (n - m) 0) m ((List.replicate m v ++ List.replicate (n - m) 0).take (Nat.min m (n - m))) = List.replicate (m + Nat.min m (n - m)) v ++ List.replicate (n - (m + Nat.min m (n - m))) 0 := by
  have hq : Nat.min m (n - m) ≤ m := Nat.min_le_left _ _
  have hq2 : Nat.min m (n - m) ≤ n - m := Nat.min_le_right _ _
  generalize Nat.min m (n - m) = q at hq hq2
  have e1 : (List.replicate m v ++ List.replicate (n - m) (0 : Int)).take q = List.replicate q v := by
    rw [List.take_append_of_le_length (by simp; omega), List.take_replicate, Nat.min_eq_left hq]
  rw [e1]
  unfold splice
  rw [List.take_append_of_le_length (by simp), List.take_replicate, Nat.min_self, List.length_replicate, List.drop_append, List.drop_replicate, List.length_replicate, List.drop_replicate]
  rw [show m - (m + q) = 0 by omega, show n - m - (m + q - m) = n - (m + q) by omega]
  simp only [List.replicate_zero, List.nil_append]
  rw [← List.append_assoc, List.replicate_append_replicate]
theorem cut_from {P : Program} (t e : TypeId) (ht : P.underlying t = some (.slice e)) (hinfo : (P.info? e).map (fun i => (i.zero, i.size, i.bytes)) = some (some (.int .i64 0), 1, 8)) (g n c m : Nat) (hm : m < n) (hc : n ≤ c) (W : World) :
    (Instr.slice t (.slice (some ⟨g, 0, none⟩) n c) (some (.int .i64 (m : Int))) none none).run P W = .ok (.slice (some ⟨g, m, none⟩) (n - m) (c - m)) W := by
  obtain ⟨i0, hi, hzz⟩ := Option.map_eq_some_iff.1 hinfo
  simp only [Prod.mk.injEq] at hzz
  have hel : P.elem t = e := by simp [Program.elem, ht]
  have hm1 : m ≤ n := by omega
  have hm2 : ¬ c = m := by omega
  simp [Instr.slice, run_underlying ht, Instr.sliceBounds, run_sliceBound, sizeOf, typeInfo, hi, Result.andThen, hm1, hm2, hc, Addr.add, hzz.2.1]
  intro h0
  rw [h0]
theorem cut_to {P : Program} (t e : TypeId) (ht : P.underlying t = some (.slice e)) (hinfo : (P.info? e).map (fun i => (i.zero, i.size, i.bytes)) = some (some (.int .i64 0), 1, 8)) (g n c m : Nat) (hm : m ≤ n) (hc : n ≤ c) (W : World) :
    (Instr.slice t (.slice (some ⟨g, 0, none⟩) n c) none (some (.int .i64 (m : Int))) none).run P W = .ok (.slice (some ⟨g, 0, none⟩) m c) W := by
  obtain ⟨i0, hi, hzz⟩ := Option.map_eq_some_iff.1 hinfo
  simp only [Prod.mk.injEq] at hzz
  have hel : P.elem t = e := by simp [Program.elem, ht]
  have hmc : m ≤ c := by omega
  simp [Instr.slice, run_underlying ht, Instr.sliceBounds, run_sliceBound, sizeOf, typeInfo, hi, Result.andThen, hmc, Addr.add]
set_option maxHeartbeats 8000000 in
set_option maxRecDepth 100000 in
theorem repeat_some (A0 : Option Addr) (c0 : Nat) (v : Int) (n : Nat) (w : World) (hr0 : Kd.C (Kd.int .i64) w A0 1 [v]) (h0 : 0 < n) (h20 : n ≤ 20) :
    Calls Try.prog 78 #[.slice A0 1 c0, .int .i64 (n : Int)] w fun e w' => ∃ v0_ : Value, e = .returned (v0_) ∧ Kd.R (Kd.int .i64) 3 w' w.heap.size (fun _ => True) v0_ (List.replicate n v) ∧ Below w.heap.size w w' := by
  have HN := Aside0.mk h20
  have HP := Aside0.mk h0
  have hn0 : decide ((n : Int) < 0) = false := decide_eq_false (by omega)
  have HM := Aside0.mk (mul1 n (by omega))
  have hw1 : IntKind.u64.wrap (n : Int) = (n : Int) := by simp [IntKind.wrap, IntKind.bits, IntKind.signed]; omega
  have hw2 : IntKind.i64.wrap (n : Int) = (n : Int) := by simp [IntKind.wrap_i64]; omega
  have HR0 := Aside0.mk hr0
  have HB := Aside0.mk (Below.refl w.heap.size w)
  clear hr0
  have hgt : decide ((n : Int) > 9223372036854775807) = false := decide_eq_false (by omega)
  have hgt2 : decide ((9223372036854775807 : Int) < n) = false := decide_eq_false (by omega)
  go_enter Try.func78, Try.ntmps78
  go_wp2_with (first | (go_at_call 83; (with_reducible refine (bits_Mul.calls 1 (n : Int) 0 (n : Int) _ HM.out).mono ?_); rintro e w' ⟨rfl, ⟨nd, rfl⟩⟩) | ((with_reducible refine gate_dst (N := 30) rfl ?_); refine Kd.R_make (Kd.int .i64) _ 3 rfl (N := 30) rfl 23 _ _ rfl (n : Int) rfl rfl Try.underlying23 (.int .i64 0) 8 info3 rfl (by decide) (by omega) 0 (ok := fun _ => True) (okp := fun _ => True) rfl (fun _ hk => hk) trivial (by omega) (by have := HN.out; omega) (Below.refl _ _) (Nat.le_refl _) ?_; intro v30 w4 ho hb hg_ hnew_; clear hg_ hnew_; have HO := Aside0.mk (Kd.R_lower ho (below_size (by repeat (first | (with_reducible first | exact HB.out | apply below_alloc | apply pw_below_drewN | apply below_drew1) | exact HB.out)))); have HB4 := Aside0.mk (below_step (by repeat (first | (with_reducible first | exact HB.out | apply below_alloc | apply pw_below_drewN | apply below_drew1) | exact HB.out)) hb); have HRS := Aside0.mk (Kd.C_below HR0.out HB4.out); rw [Int.toNat_natCast] at HO; clear HB ho hb; have HB := HB4; clear HB4; obtain ⟨g30, c30, e30, _, _, _⟩ := Kd.R_form HO.out (by rw [List.length_replicate]; omega); subst e30; rw [List.length_replicate] at *) | ((with_reducible refine gate_dst (N := 33) rfl ?_); refine R_copy1 (w0 := w) w.heap.size 3 rfl (.tmp 31) (.tmp 32) 23 rfl Try.underlying23 (by kernel_rfl) _ (List.replicate n 0) [v] A0 c0 (fun _ => True) rfl rfl HO.out (by repeat (first | exact HRS.out | (with_reducible refine Kd.C_alloc ?_ _) | (with_reducible refine Kd.C_drewN ?_ _) | (with_reducible refine Kd.C_drew ?_))) (by repeat (first | (with_reducible first | exact HB.out | apply below_alloc | apply pw_below_drewN | apply below_drew1) | exact HB.out)) (by simp; omega) ?_; intro w5 ho5 hb5; have HO5 := Aside0.mk ho5; have HB5 := Aside0.mk hb5; clear ho5 hb5))
  have HOm := Aside0.mk (show Kd.R (Kd.int .i64) 3 w5 w.heap.size (fun _ => True) (.slice (some ⟨g30, 0, none⟩) n c30) (List.replicate 1 v ++ List.replicate (n - 1) 0) from by
    have := HO5.out
    rw [List.drop_replicate] at this
    exact this)
  go_loopg [8] (n + 1) (fun kq v8 w' => ∃ m : Nat, v8 = .int .i64 (m : Int) ∧ Aside0 (1 ≤ m ∧ m ≤ n ∧ n - m + 1 ≤ kq) ∧ Aside0 (Kd.R (Kd.int .i64) 3 w' w.heap.size (fun _ => True) (.slice (some ⟨g30, 0, none⟩) n c30) (List.replicate m v ++ List.replicate (n - m) 0)) ∧ Aside0 (Below w.heap.size w w'))
  case atStart => exact ⟨1, rfl, ⟨Nat.le_refl _, HP.out, by omega⟩, HOm, HB5⟩
  case round =>
    clear HO HB HO5 HB5 HOm HRS
    obtain ⟨m, rfl, HML0, HO, HB⟩ := hrel
    have HC := Aside0.mk (Kd.R_reads' HO.out).2.1
    have hlen : (List.replicate m v ++ List.replicate (n - m) (0 : Int)).length = n := by
      have := HML0.out
      simp
      omega
    have HNL := Aside0.mk hlen
    clear hlen
    by_cases hm : (m : Int) < n
    · have hmb : decide ((m : Int) < n) = true := decide_eq_true hm
      have hmb2 : decide (m < n) = true := decide_eq_true (by omega)
      have HML := Aside0.mk (show m ≤ n by omega)
      have HMi := Aside0.mk (show m < n by omega)
      clear hm
      obtain ⟨q, hq⟩ : ∃ q, q = Nat.min m (n - m) := ⟨_, rfl⟩
      have HSP := Aside0.mk (rep_splice v n m HML.out HML0.out.1)
      rw [← hq] at HSP
      have HQ := Aside0.mk hq
      have hw3 : IntKind.i64.wrap ((m : Int) + (q : Int)) = ((m + q : Nat) : Int) := by
        have := HN.out
        have : q ≤ n - m := by rw [hq]; exact Nat.min_le_right m (n - m)
        have := HML.out
        clear hq
        simp [IntKind.wrap_i64]
        omega
      clear hq
      have hc1 := fun W => cut_from (P := Try.prog) 23 3 Try.underlying23 info3 g30 n c30 m HMi.out HC.out W
      have hc2 := fun W => cut_to (P := Try.prog) 23 3 Try.underlying23 info3 g30 n c30 m HML.out HC.out W
      go_wp2
      go_region_law (refine step_copy_self (w0 := w) w.heap.size 3 rfl (.tmp 41) (.tmp 44) 23 rfl Try.underlying23 (by kernel_rfl) g30 n c30 m q _ (fun _ => True) (by first | (go_simp; done) | (go_simp; rfl)) (by first | (go_simp; done) | (go_simp; rfl)) (by (with_reducible repeat (first | apply Kd.R_alloc | apply Kd.R_drewN | apply Kd.R_drew)); exact HO.out) HNL.out HML.out HQ.out (by repeat (first | (with_reducible first | exact HB.out | apply below_alloc | apply pw_below_drewN | apply below_drew1) | exact HB.out)) ?_; intro w7 ho7 hb7; rw [HSP.out] at ho7; have HO7 := Aside0.mk ho7; have HB7 := Aside0.mk hb7; clear ho7 hb7)
      all_goals go_wp2
      have hmin : 1 ≤ q := by
        have h1 := HML0.out.1
        have h2 := HMi.out
        rw [HQ.out]
        exact Nat.le_min.2 ⟨h1, by omega⟩
      have hmin2 : q ≤ n - m := by rw [HQ.out]; exact Nat.min_le_right _ _
      go_roundg (n - (m + q) + 1)
      case measure => have := HML0.out; omega
      case rel => exact ⟨m + q, (by first | rfl | rw [Int.natCast_add]), ⟨by omega, by have := HML.out; omega, Nat.le_refl _⟩, HO7, HB7⟩
    · obtain rfl : m = n := by have := HML0.out; omega
      have hmb : decide ((m : Int) < m) = false := decide_eq_false hm
      have hmb2 : decide (m < m) = false := decide_eq_false (by omega)
      clear hm
      go_wp2
      go_ret
      refine ⟨_, rfl, ?_, HB.out⟩
      have := HO.out
      rw [Nat.sub_self, List.replicate_zero, List.append_nil] at this
      exact this
set_option maxHeartbeats 8000000 in
set_option maxRecDepth 100000 in
theorem repeat_none (A0 : Option Addr) (c0 : Nat) (v : Int) (w : World) (hr0 : Kd.C (Kd.int .i64) w A0 1 [v]) :
    Calls Try.prog 78 #[.slice A0 1 c0, .int .i64 0] w fun e w' => ∃ v0_ : Value, e = .returned (v0_) ∧ Kd.R (Kd.int .i64) 3 w' w.heap.size (fun _ => True) v0_ [] ∧ Below w.heap.size w w' := by
  have HM := Aside0.mk (show bits_Mul.f 1 0 = some (0, 0) from mul1 0 (by omega))
  have HN := Aside0.mk (show (0 : Nat) ≤ 20 by omega)
  have HR0 := Aside0.mk hr0
  have HB := Aside0.mk (Below.refl w.heap.size w)
  clear hr0
  have hw1 : IntKind.u64.wrap 0 = 0 := by decide
  have hw2 : IntKind.i64.wrap 0 = 0 := by decide
  go_enter Try.func78, Try.ntmps78
  go_wp2_with (first | (go_at_call 83; (with_reducible refine (bits_Mul.calls 1 0 0 0 _ HM.out).mono ?_); rintro e w' ⟨rfl, ⟨nd, rfl⟩⟩) | ((with_reducible refine gate_dst (N := 30) rfl ?_); refine Kd.R_make (Kd.int .i64) _ 3 rfl (N := 30) rfl 23 _ _ rfl (0 : Int) rfl rfl Try.underlying23 (.int .i64 0) 8 info3 rfl (by decide) (by omega) 0 (ok := fun _ => True) (okp := fun _ => True) rfl (fun _ hk => hk) trivial (by omega) (by have := HN.out; omega) (Below.refl _ _) (Nat.le_refl _) ?_; intro v30 w4 ho hb hg_ hnew_; clear hg_ hnew_; have HO := Aside0.mk (Kd.R_lower ho (below_size (by repeat (first | (with_reducible first | exact HB.out | apply below_alloc | apply pw_below_drewN | apply below_drew1) | exact HB.out)))); have HB4 := Aside0.mk (below_step (by repeat (first | (with_reducible first | exact HB.out | apply below_alloc | apply pw_below_drewN | apply below_drew1) | exact HB.out)) hb); have HRS := Aside0.mk (Kd.C_below HR0.out HB4.out); (rw [show List.replicate (Int.toNat 0) (0 : Int) = [] from rfl] at HO); clear HB ho hb; have HB := HB4; clear HB4; obtain ⟨A30, c30, e30⟩ := Kd.R_slice HO.out; subst e30) | ((with_reducible refine gate_dst (N := 33) rfl ?_); refine wpList_copy_nothing rfl (.tmp 31) (.tmp 32) 23 23 rfl 3 Try.underlying23 (by kernel_rfl) A30 A0 0 c30 1 c0 rfl rfl rfl ?_))
  go_loopg [8] 1 (fun kq v8 w' => v8 = .int .i64 0 ∧ Aside0 (Below w4.heap.size w4 w'))
  case atStart => exact ⟨rfl, ⟨by repeat (first | (with_reducible exact Below.refl _ _) | apply pw_below_drewN | apply below_drew1)⟩⟩
  case round =>
    obtain ⟨rfl, HBL⟩ := hrel
    go_wp2
    go_ret
    exact ⟨_, rfl, Kd.R_below HO.out HBL.out, below_step HB.out HBL.out⟩
end Go.Proofs.Ytkkgnjdepgmjlaa.X

/- What the functions of the program come to, and that they do: written by this session's program wip/xprint.py out of the translation; parts named extern are typed by hand. -/
namespace Go.Proofs.Ytkkgnjdepgmjlaa.X
open Go.RowKit Go.Proofs.YtkkgnjdepgmjlaaW.PrintWords Go.Proofs.YtkkgnjdepgmjlaaW.PrintLast Go.Proofs.YtkkgnjdepgmjlaaW.PrintMore
attribute [local go_sem] max2_int min2_int max_two min_two max_three min_three max_four min_four   -- for this text's walks alone
set_option linter.unusedVariables false
set_option linter.unusedSimpArgs false

/-! ### slices_Index_int_int: function 79 -/
def slices_Index_int_int.l0 : Nat → List Int → Int → Int → Int → Option (Int)
  | 0, _, _, _, _ => none
  | k + 1, x0, x1, x7, x8 => if x8 < x7 then (if 0 ≤ x8 then (if x8 < (x0.length : Int) then (if x1 = (rd x0 x8) then (some x8) else (slices_Index_int_int.l0 k x0 x1 x7 (wrap64 (x8 + 1)))) else (none)) else (none)) else (some (-1))
def slices_Index_int_int.f (k : Nat) (l0 : List Int) (a1 : Int) : Option (Int) := slices_Index_int_int.l0 k l0 a1 (l0.length : Int) 0
set_option maxHeartbeats 8000000 in
set_option maxRecDepth 100000 in
theorem slices_Index_int_int.calls (k : Nat) (A0 : Option Addr) (c0 : Nat) (l0 : List Int) (a1 : Int) (r : Int) (w : World) (hr0 : Kd.C (Kd.int .i64) w A0 l0.length l0) (hc0 : l0.length ≤ c0) (h : slices_Index_int_int.f k l0 a1 = some r) :
    Calls Try.prog 79 #[.slice A0 l0.length c0, .int .i64 a1] w fun e w' => e = .returned (.int .i64 r) ∧ Drawn0 w w' := by
  have HR0 := Aside0.mk hr0
  have HC0 := Aside0.mk hc0
  clear hr0 hc0
  have H : (slices_Index_int_int.l0 k l0 a1 (l0.length : Int) 0) = some r := h
  clear h
  have H' := Aside0.mk H
  clear H
  go_enter Try.func79, Try.ntmps79
  go_wp2
  go_loopg [8] k (fun kq v8 w' => ∃ (x8_1 : Int), v8 = .int .i64 x8_1 ∧ Aside0 (slices_Index_int_int.l0 kq l0 a1 (l0.length : Int) x8_1 = some r) ∧ Aside0 (kq ≤ k) ∧ Drawn0 w w')
  case atStart => exact ⟨(0), (by first | rfl | (simp; done) | (simp [*]; done)), H', ⟨Nat.le_refl _⟩, by repeat (first | exact Drawn0.refl _ | apply Drawn0.step)⟩
  case round =>
    clear H'
    try clear p2
    obtain ⟨x8_1, rfl, HA, HK1, ⟨m1, rfl⟩⟩ := hrel
    cases gk with
    | zero => exact absurd HA.out (by simp [slices_Index_int_int.l0])
    | succ k1 =>
      have H := HA.out
      clear HA
      simp only [slices_Index_int_int.l0] at H
      by_cases c3 : x8_1 < (l0.length : Int)
      · rw [if_pos c3] at H
        have c3b0 : decide (x8_1 < (l0.length : Int)) = true := decide_eq_true c3
        clear c3
        by_cases c4 : 0 ≤ x8_1
        · rw [if_pos c4] at H
          have c4b0 : decide (0 ≤ x8_1) = true := decide_eq_true c4
          clear c4
          by_cases c5 : x8_1 < (l0.length : Int)
          · rw [if_pos c5] at H
            have c5b0 : decide (x8_1 < (l0.length : Int)) = true := decide_eq_true c5
            clear c5
            by_cases c6 : a1 = (rd l0 x8_1)
            · rw [if_pos c6] at H
              have c6b0 : (a1 == (rd l0 x8_1)) = true := beq_iff_eq.mpr c6
              have c6b1 : (a1 != (rd l0 x8_1)) = false := bne_eq_false_iff_eq.mpr c6
              clear c6
              obtain rfl := Option.some.inj H
              have p371 : 0 ≤ (x8_1 : Int) := of_decide_eq_true (by first | (with_reducible assumption) | assumption)
              have q371 : x8_1 < (l0.length : Int) := of_decide_eq_true (by first | (with_reducible assumption) | assumption)
              obtain ⟨ad371, e371, hx371_0⟩ := Kd.at_int HR0.out x8_1 p371 q371
              cases e371
              replace p371 := eq_true p371
              replace q371 := eq_true q371
              go_wp2
              go_ret
              exact ⟨by first | rfl | (simp; done) | (simp [*]; done), by repeat (first | exact Drawn0.refl _ | apply Drawn0.step)⟩
            · rw [if_neg c6] at H
              have c6b0 : (a1 == (rd l0 x8_1)) = false := beq_eq_false_iff_ne.mpr c6
              have c6b1 : (a1 != (rd l0 x8_1)) = true := bne_iff_ne.mpr c6
              have H' := Aside0.mk H
              clear H
              have p371 : 0 ≤ (x8_1 : Int) := of_decide_eq_true (by first | (with_reducible assumption) | assumption)
              have q371 : x8_1 < (l0.length : Int) := of_decide_eq_true (by first | (with_reducible assumption) | assumption)
              obtain ⟨ad371, e371, hx371_0⟩ := Kd.at_int HR0.out x8_1 p371 q371
              cases e371
              replace p371 := eq_true p371
              replace q371 := eq_true q371
              go_wp2
              go_roundg k1
              case measure => have := HK1.out; omega
              case rel => exact ⟨(wrap64 (x8_1 + 1)), (by first | rfl | (simp; done) | (simp [*]; done)), H', ⟨by have := HK1.out; omega⟩, by repeat (first | exact Drawn0.refl _ | apply Drawn0.step)⟩
          · rw [if_neg c5] at H
            exact absurd H (by simp)
        · rw [if_neg c4] at H
          exact absurd H (by simp)
      · rw [if_neg c3] at H
        have c3b0 : decide (x8_1 < (l0.length : Int)) = false := decide_eq_false c3
        clear c3
        obtain rfl := Option.some.inj H
        go_wp2
        go_ret
        exact ⟨by first | rfl | (simp; done) | (simp [*]; done), by repeat (first | exact Drawn0.refl _ | apply Drawn0.step)⟩

-- NOT PRINTED: function 59 (impl_startsBy)

-- NOT PRINTED: function 49 (impl_greatestBy)

end Go.Proofs.Ytkkgnjdepgmjlaa.X

/- What the functions of the program come to, and that they do: written by this session's program wip/xprint.py out of the translation; parts named extern are typed by hand. -/
namespace Go.Proofs.Ytkkgnjdepgmjlaa.X
open Go.RowKit Go.Proofs.YtkkgnjdepgmjlaaW.PrintWords Go.Proofs.YtkkgnjdepgmjlaaW.PrintLast Go.Proofs.YtkkgnjdepgmjlaaW.PrintMore
attribute [local go_sem] max2_int min2_int max_two min_two max_three min_three max_four min_four   -- for this text's walks alone
set_option linter.unusedVariables false
set_option linter.unusedSimpArgs false

/-! ### impl_AgedStarts: function 26 -/
/- EXTERN, by hand (wip/hand/startsby.py): the program's line of jobs, with its own row of starts; E: no block of a captured variable. -/
def IsM (w0 W : World) (E : Nat → Prop) (g : Nat) (jobs : List (S43)) (tick : Int) (starts : List Int) : Prop :=
  ∃ A0 c0, ∃ sv : Value, W.heap[g]? = some (.cells #[.slice A0 jobs.length c0, .int .i64 tick, sv] 71 (0, 0)) ∧ w0.heap.size ≤ g ∧ Kd.C k43 w0 A0 jobs.length jobs ∧ Kd.R (Kd.int .i64) 3 W w0.heap.size (fun k_ => k_ ≠ g ∧ E k_) sv starts
theorem IsM.below {w0 W : World} {E : Nat → Prop} {g : Nat} {jobs : List (S43)} {tick : Int} {starts : List Int} (h : IsM w0 W E g jobs tick starts) {w1 : World} (hb : Below W.heap.size W w1) : IsM w0 w1 E g jobs tick starts := by
  obtain ⟨A0, c0, sv, h1, h2, h3, h4⟩ := h
  exact ⟨A0, c0, sv, blk_below h1 hb, h2, h3, Kd.R_below h4 hb⟩
theorem IsM.drewN {w0 W : World} {E : Nat → Prop} {g : Nat} {jobs : List (S43)} {tick : Int} {starts : List Int} (h : IsM w0 W E g jobs tick starts) (m : Nat) : IsM w0 (W.drewN m) E g jobs tick starts := h
theorem IsM.drew {w0 W : World} {E : Nat → Prop} {g : Nat} {jobs : List (S43)} {tick : Int} {starts : List Int} (h : IsM w0 W E g jobs tick starts) : IsM w0 W.drew E g jobs tick starts := h
theorem IsM.lt {w0 W : World} {E : Nat → Prop} {g : Nat} {jobs : List (S43)} {tick : Int} {starts : List Int} (h : IsM w0 W E g jobs tick starts) : g < W.heap.size := by
  obtain ⟨A0, c0, sv, h1, _⟩ := h
  exact blk_lt h1
theorem IsM.ge {w0 W : World} {E : Nat → Prop} {g : Nat} {jobs : List (S43)} {tick : Int} {starts : List Int} (h : IsM w0 W E g jobs tick starts) : w0.heap.size ≤ g := by
  obtain ⟨A0, c0, sv, _, h2, _⟩ := h
  exact h2
theorem IsM.q {w0 W : World} {E : Nat → Prop} {g : Nat} {jobs : List (S43)} {tick : Int} {starts : List Int} (h : IsM w0 W E g jobs tick starts) (hb : Below w0.heap.size w0 W) : IsS71 W W g jobs tick starts := by
  obtain ⟨A0, c0, sv, h1, h2, h3, h4⟩ := h
  obtain ⟨A1, c1, e1⟩ := Kd.R_slice h4
  subst e1
  exact ⟨A0, c0, A1, c1, h1, trivial, Kd.C_below h3 hb, (Kd.R_reads' h4).2.2⟩
theorem IsM.set_1 {w0 W : World} {E : Nat → Prop} {g : Nat} {jobs : List (S43)} {tick : Int} {starts : List Int} (h : IsM w0 W E g jobs tick starts) (x : Int) : IsM w0 (W.setCell ⟨g, 1, none⟩ (.int .i64 x)) E g jobs x starts := by
  obtain ⟨A0, c0, sv, h1, h2, h3, h4⟩ := h
  exact ⟨A0, c0, sv, by simpa using blk_set h1 1 (.int .i64 x), h2, h3, Kd.R_far (p := ⟨g, 1, none⟩) h4 (fun _ hk => hk.1) _⟩
theorem IsM.row {w0 W : World} {E : Nat → Prop} {g : Nat} {jobs : List (S43)} {tick : Int} {starts : List Int} (h : IsM w0 W E g jobs tick starts) (hp : 0 < starts.length) :
    ∃ A0 c0 r c, W.heap[g]? = some (.cells #[.slice A0 jobs.length c0, .int .i64 tick, .slice (some ⟨r, 0, none⟩) starts.length c] 71 (0, 0)) ∧ Kd.C k43 w0 A0 jobs.length jobs ∧ w0.heap.size ≤ r ∧ r ≠ g ∧ E r ∧ Kd.C (Kd.int .i64) W (some ⟨r, 0, none⟩) starts.length starts ∧
      (∃ cells, W.heap[r]? = some (.cells cells 3 (0, 0))) ∧ ∀ (i : Nat) (x : Int), IsM w0 (W.setCell ⟨r, i, none⟩ (.int .i64 x)) E g jobs tick (starts.set i x) := by
  obtain ⟨A0, c0, sv, h1, h2, h3, h4⟩ := h
  obtain ⟨r, c, e, hb, hl, hce⟩ := Kd.R_form h4 hp
  subst e
  have hne := h4.1 r rfl
  refine ⟨A0, c0, r, c, h1, h3, hb, hne.1, hne.2, (Kd.R_reads' h4).2.2, hce, fun i x => ?_⟩
  have h5 := Kd.R_putn h4 (i : Int) x
  rw [Int.toNat_natCast] at h5
  exact ⟨A0, c0, .slice (some ⟨r, 0, none⟩) starts.length c, blk_far h1 (Ne.symm hne.1) _, h2, h3, h5⟩
theorem repeat_calls (A0 : Option Addr) (c0 : Nat) (v : Int) (n : Nat) (w : World) (hr0 : Kd.C (Kd.int .i64) w A0 1 [v]) (h20 : n ≤ 20) :
    Calls Try.prog 78 #[.slice A0 1 c0, .int .i64 (n : Int)] w fun e w' => ∃ v0_ : Value, e = .returned (v0_) ∧ Kd.R (Kd.int .i64) 3 w' w.heap.size (fun _ => True) v0_ (List.replicate n v) ∧ Below w.heap.size w w' := by
  rcases Nat.eq_zero_or_pos n with rfl | hp
  · exact repeat_none A0 c0 v w hr0
  · exact repeat_some A0 c0 v n w hr0 hp h20
theorem waiting_q (k g : Nat) (jobs : List (S43)) (tick : Int) (starts wl : List Int) (wt : Int) (w : World) (hI : IsS71 w w g jobs tick starts) (h : impl_line_waiting.f k jobs tick starts = some (wl, wt)) :
    Calls Try.prog 72 #[.pointer (some ⟨g, 0, none⟩)] w fun e w' => ∃ v0_ : Value, e = .returned (v0_) ∧ Kd.R (Kd.int .i64) 3 w' w.heap.size (fun _ => True) v0_ wl ∧ Below w.heap.size w w' :=
  (impl_line_waiting.calls k g jobs tick starts wl wt w w hI (Below.refl _ _) h).mono (by rintro e w' ⟨v, rfl, h1, _, h2, _⟩; exact ⟨v, rfl, h1, h2⟩)
theorem addM0 (r i : Nat) : (⟨r, 0, none⟩ : Addr).add i = ⟨r, i, none⟩ := by cases i <;> simp [Addr.add]
/-- Starts by a choice: what the choice tells of starts, tick and what it keeps (s); idle: what is kept where the line was free. -/
def startsByL {σ : Type} (jobs : List (S43)) (ch : Nat → List Int → Int → σ → Option (Int × σ)) (idle : σ → σ) : Nat → List Int → Int → σ → Option (List Int)
  | 0, _, _, _ => none
  | k + 1, starts, tick, s => (slices_Index_int_int.f k starts (-1)).bind fun nx => if nx < 0 then some starts else (impl_line_waiting.f k jobs tick starts).bind fun wt =>
      if 0 ≤ nx ∧ nx < (jobs.length : Int) then (let t1 := if (wt.1.length : Int) = 0 then (rd_T43 jobs nx).f0 else tick; let s1 := if (wt.1.length : Int) = 0 then idle s else s
        (ch k starts t1 s1).bind fun c => if 0 ≤ c.1 ∧ c.1 < (jobs.length : Int) then startsByL jobs ch idle k (starts.set c.1.toNat t1) (wrap64 (t1 + (rd_T43 jobs c.1).f2)) c.2 else none) else none
set_option maxHeartbeats 8000000 in
set_option maxRecDepth 100000 in
theorem startsBy_gr {σ : Type} (P : World → σ → Prop) (E : Nat → Prop) (jobs : List (S43)) (ch : Nat → List Int → Int → σ → Option (Int × σ)) (idle : σ → σ) (b1 b2 : Nat) (w0 : World) (A0 : Option Addr) (c0 : Nat) (hjC : Kd.C k43 w0 A0 jobs.length jobs) (hn : jobs.length ≤ 20)
    (hPb : ∀ W W1 s, P W s → Below W.heap.size W W1 → P W1 s)
    (hPg : ∀ W g tick starts s x, IsM w0 W E g jobs tick starts → P W s → P (W.setCell ⟨g, 1, none⟩ x) s)
    (hPr : ∀ W r i u s, E r → P W s → P (W.setCell ⟨r, i, none⟩ u) s)
    (hch : ∀ (k : Nat) (W : World) (g : Nat) (starts : List Int) (tick : Int) (s : σ) (i : Int) (s' : σ), IsM w0 W E g jobs tick starts → Below w0.heap.size w0 W → P W s → starts.length = jobs.length → ch k starts tick s = some (i, s') →
      Calls Try.prog 71 #[.pointer (some ⟨g, 0, none⟩), .pointer (some ⟨b1, 0, none⟩), .pointer (some ⟨b2, 0, none⟩)] W fun e w' => e = .returned (.int .i64 i) ∧ IsM w0 w' E g jobs tick starts ∧ Below w0.heap.size w0 w' ∧ P w' s')
    (hid : ∀ (W : World) (g : Nat) (starts : List Int) (tick : Int) (s : σ), IsM w0 W E g jobs tick starts → Below w0.heap.size w0 W → P W s →
      Calls Try.prog 73 #[] W fun e w' => e = .returned (.tuple #[]) ∧ IsM w0 w' E g jobs tick starts ∧ Below w0.heap.size w0 w' ∧ P w' (idle s))
    (k : Nat) (s : σ) (r : List Int) (w : World) (hB : Below w0.heap.size w0 w) (hP : P w s) (hE : ∀ k_, w.heap.size ≤ k_ → E k_) (h : startsByL jobs ch idle k (List.replicate jobs.length (-1)) 0 s = some r) :
    Calls Try.prog 59 #[.slice A0 jobs.length c0, .func (.func 71) #[] #[.pointer (some ⟨b1, 0, none⟩), .pointer (some ⟨b2, 0, none⟩)], .func (.func 73) #[] #[]] w fun e w' => ∃ v0_ : Value, e = .returned (v0_) ∧ Kd.R (Kd.int .i64) 3 w' w0.heap.size (fun _ => True) v0_ r ∧ Below w0.heap.size w0 w' := by
  have hu43 := Try.underlying43
  have HJ := Aside0.mk hjC
  have HN := Aside0.mk hn
  have HB := Aside0.mk hB
  have HP := Aside0.mk hP
  have HE := Aside0.mk hE
  have HH := Aside0.mk h
  have HF := Aside0.mk (And.intro hPb (And.intro hPg (And.intro hPr (And.intro hch hid))))
  clear hjC hn hB hP hE h hPb hPg hPr hch hid
  go_enter Try.func59, Try.ntmps59
  go_wp2_with (first | ((with_reducible refine gate_dst (N := 11) rfl ?_); refine Kd.R_lit (Kd.int .i64) _ 3 ?hg (N := 11) ?hd (xs := ([(-1)] : List Int)) (inner := [.int .i64 (-1)]) (ok := fun _ => True) (okp := fun _ => True) ?hr ?hp (fun _ hk => hk) trivial (Below.refl _ _) (Nat.le_refl _) (by simp) ?_; (case hd => rfl); (case hg => rfl); (case hr => first | (go_simp; done) | (go_simp; rfl)); (case hp => exact (Reps.one (show Kd.M (Kd.int .i64) _ _ _ (-1) [.int .i64 (-1)] from rfl) (Reps.none _ _))); intro v11 w2 ho hb hg_ hnew_; clear hg_ hnew_; have HO1 := Aside0.mk ho; have HB1 := Aside0.mk (below_step (by repeat (first | (with_reducible first | exact HB.out | apply below_alloc | apply pw_below_drewN | apply below_drew1) | exact HB.out)) hb); have HP1 := Aside0.mk (HF.out.1 _ _ _ HP.out (show Below w.heap.size w w2 from hb)); have HE1 := Aside0.mk (show ∀ k_, w2.heap.size ≤ k_ → E k_ from fun k_ hk_ => HE.out k_ (Nat.le_trans (show w.heap.size ≤ w2.heap.size from hb.size) hk_)); clear HB HP HE ho hb; have HB := HB1; have HP := HP1; have HE := HE1; clear HB1 HP1 HE1; obtain ⟨A11, c11, e11⟩ := Kd.R_slice HO1.out; subst e11) | (go_at_call 78; (with_reducible refine (repeat_calls A11 c11 (-1) jobs.length _ ?s1 HN.out).mono ?_); (case s1 => exact (Kd.R_reads' HO1.out).2.2); rintro e w3 ⟨v14, rfl, ho, hb⟩; have HO2 := Aside0.mk ho; have HSZ := Aside0.mk (show w0.heap.size ≤ w2.heap.size from below_size HB.out); have HB1 := Aside0.mk (below_step (by repeat (first | (with_reducible first | exact HB.out | apply below_alloc | apply pw_below_drewN | apply below_drew1) | exact HB.out)) hb); have HP1 := Aside0.mk (HF.out.1 _ _ _ HP.out (show Below w2.heap.size w2 w3 from hb)); have HLE := Aside0.mk (show w2.heap.size ≤ w3.heap.size from hb.size); clear HB HP ho hb; have HB := HB1; have HP := HP1; clear HB1 HP1; obtain ⟨A14, c14, e14⟩ := Kd.R_slice HO2.out; subst e14) | ((with_reducible refine gate_callee (f := 78) rfl ?_); refine goesL_ (some 14) rfl rfl Try.func78 (by kernel_rfl) rfl #[.slice A11 1 c11, .int .i64 (jobs.length : Int)] rfl (by (try simp only [List.map_toArray, List.map_cons, List.map_nil]); first | done | rfl) ?_; (with_reducible refine (repeat_calls A11 c11 (-1) jobs.length _ ?s1 HN.out).mono ?_); (case s1 => exact (Kd.R_reads' HO1.out).2.2); rintro e w3 ⟨v14, rfl, ho, hb⟩; have HO2 := Aside0.mk ho; have HSZ := Aside0.mk (show w0.heap.size ≤ w2.heap.size from below_size HB.out); have HB1 := Aside0.mk (below_step (by repeat (first | (with_reducible first | exact HB.out | apply below_alloc | apply pw_below_drewN | apply below_drew1) | exact HB.out)) hb); have HP1 := Aside0.mk (HF.out.1 _ _ _ HP.out (show Below w2.heap.size w2 w3 from hb)); have HLE := Aside0.mk (show w2.heap.size ≤ w3.heap.size from hb.size); clear HB HP ho hb; have HB := HB1; have HP := HP1; clear HB1 HP1; obtain ⟨A14, c14, e14⟩ := Kd.R_slice HO2.out; subst e14; refine ⟨_, rfl, ?_⟩) | ((with_reducible refine gate_dst (N := 16) rfl ?_); refine box_event ?hg (N := 16) ?hd (cs := #[.slice A0 jobs.length c0, .int .i64 0, .slice A14 jobs.length c14]) (t := 71) ?hr ?_; (case hd => rfl); (case hg => rfl); (case hr => first | (go_simp; done) | (go_simp; rfl)); intro g hg w4 hbox hb; have HI := Aside0.mk (show IsM w0 w4 E g jobs 0 (List.replicate jobs.length (-1)) from ⟨A0, c0, .slice A14 jobs.length c14, hbox, by rw [hg]; exact (below_size (by repeat (first | (with_reducible first | exact HB.out | apply below_alloc | apply pw_below_drewN | apply below_drew1) | exact HB.out))), HJ.out, by have h5 := Kd.R_below (Kd.R_lower (Kd.R_mono (Kd.R_bound HO2.out) (fun k_ hk_ => (⟨fun e_ => by rw [e_] at hk_; have := hk_.2.2.1; rw [hg] at this; exact absurd this (Nat.lt_irrefl _), HE.out k_ hk_.2.1⟩ : k_ ≠ g ∧ E k_))) HSZ.out) hb; rw [List.length_replicate] at h5; exact h5⟩); have HB1 := Aside0.mk (below_step (by repeat (first | (with_reducible first | exact HB.out | apply below_alloc | apply pw_below_drewN | apply below_drew1) | exact HB.out)) hb); have HP1 := Aside0.mk (HF.out.1 _ _ _ HP.out (show Below w3.heap.size w3 w4 from hb)); clear HB HP hbox hb hg; have HB := HB1; have HP := HP1; clear HB1 HP1))
  go_loopg [] k (fun kq w' => ∃ (starts : List Int) (tick : Int) (s' : σ), Aside0 (startsByL jobs ch idle kq starts tick s' = some r) ∧ Aside0 (starts.length = jobs.length) ∧ Aside0 (IsM w0 w' E g jobs tick starts) ∧ Aside0 (Below w0.heap.size w0 w') ∧ Aside0 (P w' s'))
  case atStart => exact ⟨_, _, _, HH, ⟨List.length_replicate⟩, ⟨(by repeat (first | exact HI.out | apply IsM.drewN | apply IsM.drew))⟩, ⟨(by repeat (first | (with_reducible first | exact HB.out | apply below_alloc | apply pw_below_drewN | apply below_drew1) | exact HB.out))⟩, ⟨by first | exact HP.out | exact HF.out.1 _ _ _ HP.out (by repeat (first | (with_reducible exact Below.refl _ _) | apply pw_below_drewN | apply below_drew1))⟩⟩
  case round =>
    clear HI HB HH HP HO1 HO2 HSZ HLE HE
    obtain ⟨starts, tick, s', HQ, HL, HI, HB, HP⟩ := hrel
    cases gk with
    | zero => exact absurd HQ.out (by simp [startsByL])
    | succ k1 =>
      have H := HQ.out
      clear HQ
      rw [startsByL] at H
      obtain ⟨nx, E1, H⟩ := Option.bind_eq_some_iff.mp H
      have HE1 := Aside0.mk E1
      clear E1
      obtain ⟨A1, c1, sv, h1, h2, h3, h4⟩ := HI.out
      obtain ⟨A3, c3, e3⟩ := Kd.R_slice h4
      subst e3
      have H4 := Aside0.mk h4
      have hc2 : wr.cell? ⟨g, 2, none⟩ = some (.slice A3 starts.length c3) := (blk_cell h1 2).trans rfl
      clear h1 h2 h3 h4
      by_cases cx : nx < 0
      · rw [if_pos cx] at H
        have cb : decide (nx < 0) = true := decide_eq_true cx
        obtain rfl := Option.some.inj H
        clear cx H
        go_wp2_with (first | (go_at_call 79; (with_reducible refine (slices_Index_int_int.calls k1 A3 c3 starts (-1) _ _ ?s1 ?s2 HE1.out).mono ?_); (case s1 => exact (Kd.R_reads' H4.out).2.2); (case s2 => exact (Kd.R_reads' H4.out).2.1); rintro e w5 ⟨rfl, ⟨nd, rfl⟩⟩) | ((with_reducible refine gate_callee (f := 79) rfl ?_); refine goesL_ (some 21) rfl rfl Try.func79 (by kernel_rfl) rfl #[.slice A3 starts.length c3, .int .i64 (-1)] rfl (by (try simp only [List.map_toArray, List.map_cons, List.map_nil]); first | done | rfl) ?_; (with_reducible refine (slices_Index_int_int.calls k1 A3 c3 starts (-1) _ _ ?s1 ?s2 HE1.out).mono ?_); (case s1 => exact (Kd.R_reads' H4.out).2.2); (case s2 => exact (Kd.R_reads' H4.out).2.1); rintro e w5 ⟨rfl, ⟨nd, rfl⟩⟩; refine ⟨_, rfl, ?_⟩))
        go_ret
        exact ⟨_, rfl, by (with_reducible repeat (first | apply Kd.R_alloc | apply Kd.R_drewN | apply Kd.R_drew)); exact Kd.R_mono H4.out (fun _ _ => trivial), (by repeat (first | (with_reducible first | exact HB.out | apply below_alloc | apply pw_below_drewN | apply below_drew1) | exact HB.out))⟩
      · rw [if_neg cx] at H
        have cb : decide (nx < 0) = false := decide_eq_false cx
        obtain ⟨⟨wl, wt⟩, E2, H⟩ := Option.bind_eq_some_iff.mp H
        have HE2 := Aside0.mk E2
        clear E2
        dsimp only at H
        by_cases cn : 0 ≤ nx ∧ nx < (jobs.length : Int)
        case neg => rw [if_neg cn] at H; cases H
        rw [if_pos cn] at H
        obtain ⟨m, rfl⟩ := Int.eq_ofNat_of_zero_le cn.1
        have HMN := Aside0.mk (show m < jobs.length by omega)
        clear cn cx
        obtain ⟨t1, ht1⟩ : ∃ t1, (if (wl.length : Int) = 0 then (rd_T43 jobs (m : Int)).f0 else tick) = t1 := ⟨_, rfl⟩
        obtain ⟨s1, hs1⟩ : ∃ s1, (if (wl.length : Int) = 0 then idle s' else s') = s1 := ⟨_, rfl⟩
        rw [ht1, hs1] at H
        obtain ⟨⟨ci, s2⟩, E3, H⟩ := Option.bind_eq_some_iff.mp H
        have HE3 := Aside0.mk E3
        clear E3
        dsimp only at H
        by_cases cc : 0 ≤ ci ∧ ci < (jobs.length : Int)
        case neg => rw [if_neg cc] at H; cases H
        rw [if_pos cc] at H
        obtain ⟨i, rfl⟩ := Int.eq_ofNat_of_zero_le cc.1
        rw [Int.toNat_natCast] at H
        have HIJ := Aside0.mk (show i < jobs.length by omega)
        have HIS := Aside0.mk (show i < starts.length by have := HL.out; omega)
        have H' := Aside0.mk H
        clear cc H
        have hp : 0 ≤ (m : Int) := by omega
        have hq : (m : Int) < (jobs.length : Int) := by have := HMN.out; omega
        obtain ⟨ad, e1, hx0, hx1, hx2⟩ := at_T43 HJ.out (m : Int) hp hq
        cases e1
        simp only [Int.toNat_natCast] at hx0 hx1 hx2
        have HX := Aside0.mk hx0
        replace hp := eq_true hp
        replace hq := eq_true hq
        clear hx0 hx1 hx2
        by_cases cw : (wl.length : Int) = 0
        · rw [if_pos cw] at ht1 hs1
          subst ht1 hs1
          have cwb : ((wl.length : Int) == 0) = true := beq_iff_eq.mpr cw
          have cwb2 : (wl.length == 0) = true := by simpa using cw
          clear cw
          go_upto_region 8 with (first | (go_at_call 79; (with_reducible refine (slices_Index_int_int.calls k1 A3 c3 starts (-1) _ _ ?s1 ?s2 HE1.out).mono ?_); (case s1 => exact (Kd.R_reads' H4.out).2.2); (case s2 => exact (Kd.R_reads' H4.out).2.1); rintro e w5 ⟨rfl, ⟨nd, rfl⟩⟩) | ((with_reducible refine gate_callee (f := 79) rfl ?_); refine goesL_ (some 21) rfl rfl Try.func79 (by kernel_rfl) rfl #[.slice A3 starts.length c3, .int .i64 (-1)] rfl (by (try simp only [List.map_toArray, List.map_cons, List.map_nil]); first | done | rfl) ?_; (with_reducible refine (slices_Index_int_int.calls k1 A3 c3 starts (-1) _ _ ?s1 ?s2 HE1.out).mono ?_); (case s1 => exact (Kd.R_reads' H4.out).2.2); (case s2 => exact (Kd.R_reads' H4.out).2.1); rintro e w5 ⟨rfl, ⟨nd, rfl⟩⟩; refine ⟨_, rfl, ?_⟩) | (go_at_call 72; (with_reducible refine (waiting_q k1 g jobs tick starts wl wt _ ?s1 HE2.out).mono ?_); (case s1 => exact IsM.q (by repeat (first | exact HI.out | apply IsM.drewN | apply IsM.drew)) (by repeat (first | (with_reducible first | exact HB.out | apply below_alloc | apply pw_below_drewN | apply below_drew1) | exact HB.out))); rintro e w6 ⟨v29, rfl, ho, hb⟩; have HO29 := Aside0.mk ho; have HI5 := Aside0.mk (IsM.below (by repeat (first | exact HI.out | apply IsM.drewN | apply IsM.drew)) hb); have HB5 := Aside0.mk (below_step (by repeat (first | (with_reducible first | exact HB.out | apply below_alloc | apply pw_below_drewN | apply below_drew1) | exact HB.out)) hb); have HP5 := Aside0.mk (HF.out.1 _ _ _ (by first | exact HP.out | exact HF.out.1 _ _ _ HP.out (by repeat (first | (with_reducible exact Below.refl _ _) | apply pw_below_drewN | apply below_drew1))) hb); clear HI HB HP ho hb; have HI := HI5; have HB := HB5; have HP := HP5; clear HI5 HB5 HP5; obtain ⟨A29, c29, e29⟩ := Kd.R_slice HO29.out; subst e29) | ((with_reducible refine gate_callee (f := 72) rfl ?_); refine goesL_ (some 29) rfl rfl Try.func72 (by kernel_rfl) rfl #[.pointer (some ⟨g, 0, none⟩)] rfl (by (try simp only [List.map_toArray, List.map_cons, List.map_nil]); first | done | rfl) ?_; (with_reducible refine (waiting_q k1 g jobs tick starts wl wt _ ?s1 HE2.out).mono ?_); (case s1 => exact IsM.q (by repeat (first | exact HI.out | apply IsM.drewN | apply IsM.drew)) (by repeat (first | (with_reducible first | exact HB.out | apply below_alloc | apply pw_below_drewN | apply below_drew1) | exact HB.out))); rintro e w6 ⟨v29, rfl, ho, hb⟩; have HO29 := Aside0.mk ho; have HI5 := Aside0.mk (IsM.below (by repeat (first | exact HI.out | apply IsM.drewN | apply IsM.drew)) hb); have HB5 := Aside0.mk (below_step (by repeat (first | (with_reducible first | exact HB.out | apply below_alloc | apply pw_below_drewN | apply below_drew1) | exact HB.out)) hb); have HP5 := Aside0.mk (HF.out.1 _ _ _ (by first | exact HP.out | exact HF.out.1 _ _ _ HP.out (by repeat (first | (with_reducible exact Below.refl _ _) | apply pw_below_drewN | apply below_drew1))) hb); clear HI HB HP ho hb; have HI := HI5; have HB := HB5; have HP := HP5; clear HI5 HB5 HP5; obtain ⟨A29, c29, e29⟩ := Kd.R_slice HO29.out; subst e29; refine ⟨_, rfl, ?_⟩) | ((go_at_call 73; (with_reducible refine (HF.out.2.2.2.2 _ g starts tick s' ?s1 ?s2 ?s3).mono ?_); (case s1 => exact (by repeat (first | exact HI.out | apply IsM.drewN | apply IsM.drew))); (case s2 => exact (by repeat (first | (with_reducible first | exact HB.out | apply below_alloc | apply pw_below_drewN | apply below_drew1) | exact HB.out))); (case s3 => exact (by first | exact HP.out | exact HF.out.1 _ _ _ HP.out (by repeat (first | (with_reducible exact Below.refl _ _) | apply pw_below_drewN | apply below_drew1)))); rintro e w7 ⟨rfl, hi, hb, hpp⟩; have HI5 := Aside0.mk hi; have HB5 := Aside0.mk hb; have HP5 := Aside0.mk hpp; clear HI HB HP hi hb hpp; have HI := HI5; have HB := HB5; have HP := HP5; clear HI5 HB5 HP5; have hxt := pw_cell_below HB.out HX.out; obtain ⟨A9, c9, sv9, h1, _, _, _⟩ := HI.out; have hc9 : w7.cell? ⟨g, 1, none⟩ = some (.int .i64 tick) := (blk_cell h1 1).trans rfl; have hf9 := blk_frozen h1 1; clear h1)))
          go_upto_region 9 with (first | ((go_at_call 71; (with_reducible refine (HF.out.2.2.2.1 k1 _ g starts (rd_T43 jobs (m : Int)).f0 (idle s') (i : Int) s2 ?s1 ?s2 ?s3 HL.out HE3.out).mono ?_); (case s1 => exact (HI.out.set_1 _)); (case s2 => exact (HB.out.setCell (p := ⟨g, 1, none⟩) HI.out.ge _)); (case s3 => exact (HF.out.2.1 _ _ _ _ _ _ HI.out HP.out)); rintro e w8 ⟨rfl, hi, hb, hpp⟩; have HI8 := Aside0.mk hi; have HB8 := Aside0.mk hb; have HP8 := Aside0.mk hpp; clear HI HB HP hi hb hpp; have HI := HI8; have HB := HB8; have HP := HP8; clear HI8 HB8 HP8)))
          obtain ⟨A5, c5, r5, c6, hg5, _, hr5, hrg5, hre5, hs5, ⟨cells5, hrb5⟩, hset5⟩ := HI.out.row (by have := HIS.out; omega)
          have HS5 := Aside0.mk hset5
          have HR5 := Aside0.mk hr5
          have HRE := Aside0.mk hre5
          clear hset5
          go_cut [] (fun wc => Aside0 (IsM w0 wc E g jobs (rd_T43 jobs (m : Int)).f0 (starts.set i (rd_T43 jobs (m : Int)).f0)) ∧ Aside0 (Below w0.heap.size w0 wc) ∧ Aside0 (P wc s2))
          case first =>
            have hk1 : w8.cell? ⟨g, 1, none⟩ = some (.int .i64 (rd_T43 jobs (m : Int)).f0) := (blk_cell hg5 1).trans rfl
            have hk2 : w8.cell? ⟨g, 2, none⟩ = some (.slice (some ⟨r5, 0, none⟩) starts.length c6) := (blk_cell hg5 2).trans rfl
            have hp5 : 0 ≤ (i : Int) := by omega
            have hq5 : (i : Int) < (starts.length : Int) := by have := HIS.out; omega
            obtain ⟨ad5, e5, hx5⟩ := Kd.at_int hs5 (i : Int) hp5 hq5
            cases e5
            have hfr := blk_frozen hrb5 i
            replace hp5 := eq_true hp5
            replace hq5 := eq_true hq5
            rw [Int.toNat_natCast] at hx5
            have hx6 : w8.cell? ⟨r5, i, none⟩ = some (.int .i64 (rd starts (i : Int))) := by rw [← addM0]; exact hx5
            clear hx5 hg5 hr5 hrg5 hre5 hs5 hrb5
            go_still_tail 10, (by kernel_rfl)
            change wpList _ _ _ _ _ (World.drew _)
            go_wp2
            go_meet
            exact ⟨⟨IsM.drew (HS5.out i (rd_T43 jobs (m : Int)).f0)⟩, ⟨below_drew1 (show Below w0.heap.size w0 (w8.setCell ⟨r5, i, none⟩ _) from HB.out.setCell HR5.out _)⟩, ⟨HF.out.1 _ _ _ (HF.out.2.2.1 _ _ _ _ _ HRE.out HP.out) (below_drew1 (Below.refl _ _))⟩⟩
          case rest =>
            clear hg5 hr5 hrg5 hre5 hs5 hrb5 HS5 HR5 HRE HI HB HP
            obtain ⟨HI, HB, HP⟩ := hcut
            obtain ⟨A7, c7, sv7, h1, _, _, _⟩ := HI.out
            have hk1 : wc.cell? ⟨g, 1, none⟩ = some (.int .i64 (rd_T43 jobs (m : Int)).f0) := (blk_cell h1 1).trans rfl
            have hf1 := blk_frozen h1 1
            have HGE := Aside0.mk HI.out.ge
            have hp5 : 0 ≤ (i : Int) := by omega
            have hq5 : (i : Int) < (jobs.length : Int) := by have := HIJ.out; omega
            obtain ⟨ad5, e5, hy0, hy1, hy2⟩ := at_T43 HJ.out (i : Int) hp5 hq5
            cases e5
            simp only [Int.toNat_natCast] at hy0 hy1 hy2
            replace hy2 := pw_cell_below HB.out hy2
            replace hp5 := eq_true hp5
            replace hq5 := eq_true hq5
            clear h1 hy0 hy1
            go_upto_region 10 with (fail)
            go_still_tail 12, (by kernel_rfl)
            change wpList _ _ _ _ _ (World.drew _)
            go_wp2
            go_roundg k1
            case measure => omega
            case rel => exact ⟨_, _, _, H', ⟨by rw [List.length_set]; exact HL.out⟩, ⟨IsM.drew (HI.out.set_1 _)⟩, ⟨below_drew1 (show Below w0.heap.size w0 (wc.setCell ⟨g, 1, none⟩ _) from HB.out.setCell HGE.out _)⟩, ⟨HF.out.1 _ _ _ (HF.out.2.1 _ _ _ _ _ _ HI.out HP.out) (below_drew1 (Below.refl _ _))⟩⟩
        · rw [if_neg cw] at ht1 hs1
          subst ht1 hs1
          have cwb : ((wl.length : Int) == 0) = false := beq_eq_false_iff_ne.mpr cw
          have cwb2 : (wl.length == 0) = false := by simpa using cw
          clear cw
          go_upto_region 8 with (first | (go_at_call 79; (with_reducible refine (slices_Index_int_int.calls k1 A3 c3 starts (-1) _ _ ?s1 ?s2 HE1.out).mono ?_); (case s1 => exact (Kd.R_reads' H4.out).2.2); (case s2 => exact (Kd.R_reads' H4.out).2.1); rintro e w5 ⟨rfl, ⟨nd, rfl⟩⟩) | ((with_reducible refine gate_callee (f := 79) rfl ?_); refine goesL_ (some 21) rfl rfl Try.func79 (by kernel_rfl) rfl #[.slice A3 starts.length c3, .int .i64 (-1)] rfl (by (try simp only [List.map_toArray, List.map_cons, List.map_nil]); first | done | rfl) ?_; (with_reducible refine (slices_Index_int_int.calls k1 A3 c3 starts (-1) _ _ ?s1 ?s2 HE1.out).mono ?_); (case s1 => exact (Kd.R_reads' H4.out).2.2); (case s2 => exact (Kd.R_reads' H4.out).2.1); rintro e w5 ⟨rfl, ⟨nd, rfl⟩⟩; refine ⟨_, rfl, ?_⟩) | (go_at_call 72; (with_reducible refine (waiting_q k1 g jobs tick starts wl wt _ ?s1 HE2.out).mono ?_); (case s1 => exact IsM.q (by repeat (first | exact HI.out | apply IsM.drewN | apply IsM.drew)) (by repeat (first | (with_reducible first | exact HB.out | apply below_alloc | apply pw_below_drewN | apply below_drew1) | exact HB.out))); rintro e w6 ⟨v29, rfl, ho, hb⟩; have HO29 := Aside0.mk ho; have HI5 := Aside0.mk (IsM.below (by repeat (first | exact HI.out | apply IsM.drewN | apply IsM.drew)) hb); have HB5 := Aside0.mk (below_step (by repeat (first | (with_reducible first | exact HB.out | apply below_alloc | apply pw_below_drewN | apply below_drew1) | exact HB.out)) hb); have HP5 := Aside0.mk (HF.out.1 _ _ _ (by first | exact HP.out | exact HF.out.1 _ _ _ HP.out (by repeat (first | (with_reducible exact Below.refl _ _) | apply pw_below_drewN | apply below_drew1))) hb); clear HI HB HP ho hb; have HI := HI5; have HB := HB5; have HP := HP5; clear HI5 HB5 HP5; obtain ⟨A29, c29, e29⟩ := Kd.R_slice HO29.out; subst e29) | ((with_reducible refine gate_callee (f := 72) rfl ?_); refine goesL_ (some 29) rfl rfl Try.func72 (by kernel_rfl) rfl #[.pointer (some ⟨g, 0, none⟩)] rfl (by (try simp only [List.map_toArray, List.map_cons, List.map_nil]); first | done | rfl) ?_; (with_reducible refine (waiting_q k1 g jobs tick starts wl wt _ ?s1 HE2.out).mono ?_); (case s1 => exact IsM.q (by repeat (first | exact HI.out | apply IsM.drewN | apply IsM.drew)) (by repeat (first | (with_reducible first | exact HB.out | apply below_alloc | apply pw_below_drewN | apply below_drew1) | exact HB.out))); rintro e w6 ⟨v29, rfl, ho, hb⟩; have HO29 := Aside0.mk ho; have HI5 := Aside0.mk (IsM.below (by repeat (first | exact HI.out | apply IsM.drewN | apply IsM.drew)) hb); have HB5 := Aside0.mk (below_step (by repeat (first | (with_reducible first | exact HB.out | apply below_alloc | apply pw_below_drewN | apply below_drew1) | exact HB.out)) hb); have HP5 := Aside0.mk (HF.out.1 _ _ _ (by first | exact HP.out | exact HF.out.1 _ _ _ HP.out (by repeat (first | (with_reducible exact Below.refl _ _) | apply pw_below_drewN | apply below_drew1))) hb); clear HI HB HP ho hb; have HI := HI5; have HB := HB5; have HP := HP5; clear HI5 HB5 HP5; obtain ⟨A29, c29, e29⟩ := Kd.R_slice HO29.out; subst e29; refine ⟨_, rfl, ?_⟩))
          go_upto_region 9 with (first | ((go_at_call 71; (with_reducible refine (HF.out.2.2.2.1 k1 _ g starts tick s' (i : Int) s2 ?s1 ?s2 ?s3 HL.out HE3.out).mono ?_); (case s1 => exact HI.out); (case s2 => exact HB.out); (case s3 => exact HP.out); rintro e w8 ⟨rfl, hi, hb, hpp⟩; have HI8 := Aside0.mk hi; have HB8 := Aside0.mk hb; have HP8 := Aside0.mk hpp; clear HI HB HP hi hb hpp; have HI := HI8; have HB := HB8; have HP := HP8; clear HI8 HB8 HP8)))
          obtain ⟨A5, c5, r5, c6, hg5, _, hr5, hrg5, hre5, hs5, ⟨cells5, hrb5⟩, hset5⟩ := HI.out.row (by have := HIS.out; omega)
          have HS5 := Aside0.mk hset5
          have HR5 := Aside0.mk hr5
          have HRE := Aside0.mk hre5
          clear hset5
          go_cut [] (fun wc => Aside0 (IsM w0 wc E g jobs tick (starts.set i tick)) ∧ Aside0 (Below w0.heap.size w0 wc) ∧ Aside0 (P wc s2))
          case first =>
            have hk1 : w8.cell? ⟨g, 1, none⟩ = some (.int .i64 tick) := (blk_cell hg5 1).trans rfl
            have hk2 : w8.cell? ⟨g, 2, none⟩ = some (.slice (some ⟨r5, 0, none⟩) starts.length c6) := (blk_cell hg5 2).trans rfl
            have hp5 : 0 ≤ (i : Int) := by omega
            have hq5 : (i : Int) < (starts.length : Int) := by have := HIS.out; omega
            obtain ⟨ad5, e5, hx5⟩ := Kd.at_int hs5 (i : Int) hp5 hq5
            cases e5
            have hfr := blk_frozen hrb5 i
            replace hp5 := eq_true hp5
            replace hq5 := eq_true hq5
            rw [Int.toNat_natCast] at hx5
            have hx6 : w8.cell? ⟨r5, i, none⟩ = some (.int .i64 (rd starts (i : Int))) := by rw [← addM0]; exact hx5
            clear hx5 hg5 hr5 hrg5 hre5 hs5 hrb5
            go_still_tail 10, (by kernel_rfl)
            change wpList _ _ _ _ _ (World.drew _)
            go_wp2
            go_meet
            exact ⟨⟨IsM.drew (HS5.out i tick)⟩, ⟨below_drew1 (show Below w0.heap.size w0 (w8.setCell ⟨r5, i, none⟩ _) from HB.out.setCell HR5.out _)⟩, ⟨HF.out.1 _ _ _ (HF.out.2.2.1 _ _ _ _ _ HRE.out HP.out) (below_drew1 (Below.refl _ _))⟩⟩
          case rest =>
            clear hg5 hr5 hrg5 hre5 hs5 hrb5 HS5 HR5 HRE HI HB HP
            obtain ⟨HI, HB, HP⟩ := hcut
            obtain ⟨A7, c7, sv7, h1, _, _, _⟩ := HI.out
            have hk1 : wc.cell? ⟨g, 1, none⟩ = some (.int .i64 tick) := (blk_cell h1 1).trans rfl
            have hf1 := blk_frozen h1 1
            have HGE := Aside0.mk HI.out.ge
            have hp5 : 0 ≤ (i : Int) := by omega
            have hq5 : (i : Int) < (jobs.length : Int) := by have := HIJ.out; omega
            obtain ⟨ad5, e5, hy0, hy1, hy2⟩ := at_T43 HJ.out (i : Int) hp5 hq5
            cases e5
            simp only [Int.toNat_natCast] at hy0 hy1 hy2
            replace hy2 := pw_cell_below HB.out hy2
            replace hp5 := eq_true hp5
            replace hq5 := eq_true hq5
            clear h1 hy0 hy1
            go_upto_region 10 with (fail)
            go_still_tail 12, (by kernel_rfl)
            change wpList _ _ _ _ _ (World.drew _)
            go_wp2
            go_roundg k1
            case measure => omega
            case rel => exact ⟨_, _, _, H', ⟨by rw [List.length_set]; exact HL.out⟩, ⟨IsM.drew (HI.out.set_1 _)⟩, ⟨below_drew1 (show Below w0.heap.size w0 (wc.setCell ⟨g, 1, none⟩ _) from HB.out.setCell HGE.out _)⟩, ⟨HF.out.1 _ _ _ (HF.out.2.1 _ _ _ _ _ _ HI.out HP.out) (below_drew1 (Below.refl _ _))⟩⟩
/- EXTERN, by hand (wip/hand/greatest.py). -/
/-- The first of the waiting jobs with the greatest number, of the first m ones. -/
def gBest (of : S43 → Int) (jobs : List (S43)) (wl : List Int) : Nat → Int
  | 0 => rd wl 0
  | m + 1 => if of (rd_T43 jobs (gBest of jobs wl m)) < of (rd_T43 jobs (rd wl (m : Int))) then rd wl (m : Int) else gBest of jobs wl m
def gChoose (of : Int → S43 → Int) (jobs : List (S43)) (k : Nat) (starts : List Int) (tick : Int) (_ : Unit) : Option (Int × Unit) :=
  (impl_line_waiting.f k jobs tick starts).bind fun wt => if 0 < wt.1.length ∧ wt.1.length ≤ 20 ∧ (wt.1.all fun x => decide (0 ≤ x) && decide (x < (jobs.length : Int))) = true then some (gBest (of tick) jobs wt.1 wt.1.length, ()) else none
theorem g_wat {jobs : List (S43)} {wl : List Int} (h : (wl.all fun x => decide (0 ≤ x) && decide (x < (jobs.length : Int))) = true) (j : Nat) (hj : j < wl.length) : 0 ≤ rd wl (j : Int) ∧ rd wl (j : Int) < (jobs.length : Int) := by
  have h1 := List.all_eq_true.1 h wl[j] (List.getElem_mem hj)
  have h2 : rd wl (j : Int) = wl[j] := by simp [rd, List.getD_eq_getElem?_getD, List.getElem?_eq_getElem hj]
  rw [h2]
  simpa using h1
theorem gBest_in {of : S43 → Int} {jobs : List (S43)} {wl : List Int} (h0 : 0 < wl.length) (h : (wl.all fun x => decide (0 ≤ x) && decide (x < (jobs.length : Int))) = true) : ∀ m, m ≤ wl.length → 0 ≤ gBest of jobs wl m ∧ gBest of jobs wl m < (jobs.length : Int) := by
  intro m
  induction m with
  | zero => intro _; exact g_wat h 0 h0
  | succ m ih =>
    intro hm
    unfold gBest
    split
    · exact g_wat h m (by omega)
    · exact ih (by omega)
theorem ne_blk {W : World} {a b : Nat} {cs1 cs2 : Array Value} {t1 t2 : TypeId} {p1 p2 : Nat × Nat} (h1 : W.heap[a]? = some (.cells cs1 t1 p1)) (h2 : W.heap[b]? = some (.cells cs2 t2 p2)) (hne : t1 ≠ t2) : a ≠ b := by
  rintro rfl
  rw [h1] at h2
  cases h2
  exact hne rfl
theorem gr_idle (W : World) : Calls Try.prog 73 #[] W fun e w' => e = .returned (.tuple #[]) ∧ Below W.heap.size W w' := by
  go_enter Try.func73, Try.ntmps73
  go_wp2
  exact ⟨rfl, .tuple #[], by first | rfl | kernel_rfl, rfl, Below.refl _ _⟩
/-- A number that grows with the waiting. -/
def agedOf (step t : Int) (x : S43) : Int := wrap64 (x.f1 + wrap64 (Int.tdiv (wrap64 (t - x.f0)) step))
set_option maxHeartbeats 8000000 in
set_option maxRecDepth 100000 in
theorem aged1_calls (b3 : Nat) (step t : Int) (x : S43) (w : World) (h3 : w.heap[b3]? = some (.cells #[.int .i64 step] 3 (0, 0))) (hs1 : 1 ≤ step) (hs2 : step ≤ 100) :
    Calls Try.prog 50 #[.agg #[.int .i64 x.f0, .int .i64 x.f1, .int .i64 x.f2], .int .i64 t, .pointer (some ⟨b3, 0, none⟩)] w fun e w' => e = .returned (.int .i64 (agedOf step t x)) ∧ Below w.heap.size w w' := by
  have hu43 := Try.underlying43
  have H3 := Aside0.mk h3
  have hz : (step == 0) = false := beq_eq_false_iff_ne.mpr (by omega)
  have hz2 : (step = 0) = False := eq_false (by omega)
  clear h3 hs1 hs2
  go_enter Try.func50, Try.ntmps50
  go_upto_region 1 with (first | ((with_reducible refine gate_dst (N := 3) rfl ?_); refine box_event ?hg (N := 3) ?hd (cs := #[.int .i64 x.f0, .int .i64 x.f1, .int .i64 x.f2]) (t := 43) ?hr ?_; (case hd => rfl); (case hg => rfl); (case hr => first | (go_simp; done) | (go_simp; rfl)); intro b hg w2 hbox hb; have H2 := Aside0.mk hbox; have HB := Aside0.mk hb; clear hbox hb hg))
  have hc0 : w2.cell? ⟨b, 0, none⟩ = some (.int .i64 x.f0) := (blk_cell H2.out 0).trans rfl
  have hc1 : w2.cell? ⟨b, 1, none⟩ = some (.int .i64 x.f1) := (blk_cell H2.out 1).trans rfl
  have hc3 : w2.cell? ⟨b3, 0, none⟩ = some (.int .i64 step) := (blk_cell (blk_below H3.out HB.out) 0).trans rfl
  go_quiet (fail)
  go_wp2
  go_ret
  exact ⟨rfl, by repeat (first | exact HB.out | apply pw_below_drewN | apply below_drew1)⟩
/-! ### gr_clo_f: the closure, for one number -/
set_option maxHeartbeats 8000000 in
set_option maxRecDepth 100000 in
theorem gr_clo_f (k g b1 b2 : Nat) (jobs : List (S43)) (tick : Int) (starts : List Int) (i : Int) (of : Int → S43 → Int) (E : Nat → Prop) (w0 W : World) (A0 : Option Addr) (c0 : Nat) (hI : IsM w0 W E g jobs tick starts) (hB : Below w0.heap.size w0 W)
    (h1 : W.heap[b1]? = some (.cells #[.func (.func 51) #[] #[]] 52 (0, 0))) (h2 : W.heap[b2]? = some (.cells #[.slice A0 jobs.length c0] 27 (0, 0))) (hjC : Kd.C k43 w0 A0 jobs.length jobs)
    (hof : ∀ (W' : World) (x : S43) (t : Int), Below W.heap.size W W' → Calls Try.prog 51 #[.agg #[.int .i64 x.f0, .int .i64 x.f1, .int .i64 x.f2], .int .i64 t] W' fun e w' => e = .returned (.int .i64 (of t x)) ∧ Below W'.heap.size W' w')
    (h : gChoose of jobs k starts tick () = some (i, ())) :
    Calls Try.prog 71 #[.pointer (some ⟨g, 0, none⟩), .pointer (some ⟨b1, 0, none⟩), .pointer (some ⟨b2, 0, none⟩)] W fun e w' => e = .returned (.int .i64 i) ∧ Below W.heap.size W w' := by
  have hu43 := Try.underlying43
  unfold gChoose at h
  obtain ⟨⟨wl, wt⟩, E1, h⟩ := Option.bind_eq_some_iff.mp h
  dsimp only at h
  by_cases c : 0 < wl.length ∧ wl.length ≤ 20 ∧ (wl.all fun x => decide (0 ≤ x) && decide (x < (jobs.length : Int))) = true
  case neg => rw [if_neg c] at h; cases h
  rw [if_pos c] at h
  have h3 := (Prod.mk.inj (Option.some.inj h)).1
  subst h3
  have HE1 := Aside0.mk E1
  have HC := Aside0.mk c
  have HI := Aside0.mk hI
  have HB := Aside0.mk hB
  have H1 := Aside0.mk h1
  have H2 := Aside0.mk h2
  have HJ := Aside0.mk hjC
  have HOF := Aside0.mk hof
  clear h c hI hB h1 h2 hjC E1 hof
  go_enter Try.func71, Try.ntmps71
  go_upto_region 2 with (first | (go_at_call 72; (with_reducible refine (waiting_q k g jobs tick starts wl wt _ ?s1 HE1.out).mono ?_); (case s1 => exact IsM.q HI.out HB.out); rintro e w6 ⟨v10, rfl, ho, hb⟩; have HO := Aside0.mk ho; have HW := Aside0.mk hb; clear ho hb; obtain ⟨A10, c10, e10⟩ := Kd.R_slice HO.out; subst e10))
  have hp0 : 0 ≤ ((0 : Nat) : Int) := by omega
  have hq0 : ((0 : Nat) : Int) < (wl.length : Int) := by have := HC.out.1; omega
  obtain ⟨ad0, e0, hx0⟩ := Kd.at_int (Kd.R_reads' HO.out).2.2 ((0 : Nat) : Int) hp0 hq0
  cases e0
  replace hp0 : ((0 : Int) ≤ 0) = True := eq_true hp0
  replace hq0 : ((0 : Int) < (wl.length : Int)) = True := eq_true hq0
  replace hx0 : w6.cell? ad0 = some (.int .i64 (rd wl 0)) := by have h5 := hx0; cases ad0; simpa [Addr.add] using h5
  have hq1 : (0 < wl.length) = True := eq_true HC.out.1
  go_wp2
  go_loopg [6, 16] (wl.length + 1) (fun kq v6 v16 w' => ∃ m : Nat, kq + m = wl.length + 1 ∧ m ≤ wl.length ∧ v6 = .int .i64 (gBest (of tick) jobs wl m) ∧ v16 = .int .i64 (m : Int) ∧ Aside0 (Below W.heap.size W w') ∧ Aside0 (Kd.C (Kd.int .i64) w' (some ad0) wl.length wl))
  case atStart => exact ⟨0, by omega, by omega, rfl, rfl, ⟨by repeat (first | exact HW.out | apply pw_below_drewN | apply below_drew1)⟩, ⟨(Kd.R_reads' HO.out).2.2⟩⟩
  case round =>
    clear HO HW hx0 hp0 hq0
    obtain ⟨m, hkm, hml, rfl, rfl, HW, HL⟩ := hrel
    by_cases cm : m < wl.length
    · have cb1 : decide ((m : Int) < (wl.length : Int)) = true := decide_eq_true (by omega)
      have cb2 : decide (m < wl.length) = true := decide_eq_true cm
      have hpm : 0 ≤ (m : Int) := by omega
      have hqm : (m : Int) < (wl.length : Int) := by omega
      obtain ⟨ad1, e1, hx1⟩ := Kd.at_int HL.out (m : Int) hpm hqm
      cases e1
      simp only [Int.toNat_natCast] at hx1
      replace hpm := eq_true hpm
      replace hqm := eq_true hqm
      have hj := g_wat HC.out.2.2 m cm
      have hbi := gBest_in (of := of tick) HC.out.1 HC.out.2.2 m (by omega)
      go_upto_region 6 with (fail)
      obtain ⟨bst, hbs⟩ : ∃ x, gBest (of tick) jobs wl m = x := ⟨_, rfl⟩
      obtain ⟨jx, hjx⟩ : ∃ x, rd wl (m : Int) = x := ⟨_, rfl⟩
      have HNX := Aside0.mk (show gBest (of tick) jobs wl (m + 1) = if of tick (rd_T43 jobs bst) < of tick (rd_T43 jobs jx) then jx else bst by rw [gBest, hbs, hjx])
      rw [hbs] at hbi ⊢
      rw [hjx] at hj ⊢
      go_cut [40] (fun v40 wc => ∃ b40 : Bool, v40 = .bool b40 ∧ Aside0 (b40 = decide (of tick (rd_T43 jobs bst) < of tick (rd_T43 jobs jx))) ∧ Aside0 (Below wr.heap.size wr wc))
      case first =>
        clear HNX hbs hjx hx1
        obtain ⟨ad2, e2, y0, y1, y2⟩ := at_T43 HJ.out jx hj.1 hj.2
        obtain ⟨ad3, e3, z0, z1, z2⟩ := at_T43 HJ.out bst hbi.1 hbi.2
        rw [e2] at e3
        cases e3
        cases e2
        obtain ⟨A7, c7, sv7, h71, _, _, _⟩ := HI.out
        have f1 : wr.cell? ⟨b1, 0, none⟩ = some (.func (.func 51) #[] #[]) := (blk_cell (blk_below H1.out HW.out) 0).trans rfl
        have f2 : wr.cell? ⟨b2, 0, none⟩ = some (.slice (some ad2) jobs.length c0) := (blk_cell (blk_below H2.out HW.out) 0).trans rfl
        have f3 : wr.cell? ⟨g, 1, none⟩ = some (.int .i64 tick) := (blk_cell (blk_below h71 HW.out) 1).trans rfl
        have HF := Aside0.mk (show Below wr.heap.size wr wr.drew ∧ wr.drew.cell? ⟨b1, 0, none⟩ = some (.func (.func 51) #[] #[]) ∧ wr.drew.cell? ⟨b2, 0, none⟩ = some (.slice (some ad2) jobs.length c0) ∧ wr.drew.cell? ⟨g, 1, none⟩ = some (.int .i64 tick) ∧ wr.drew.cell? (ad2.add (jx.toNat * 3)) = some (.int .i64 (rd_T43 jobs jx).f0) ∧ wr.drew.cell? ⟨(ad2.add (jx.toNat * 3)).block, (ad2.add (jx.toNat * 3)).off + 1, none⟩ = some (.int .i64 (rd_T43 jobs jx).f1) ∧ wr.drew.cell? ⟨(ad2.add (jx.toNat * 3)).block, (ad2.add (jx.toNat * 3)).off + 2, none⟩ = some (.int .i64 (rd_T43 jobs jx).f2) ∧ wr.drew.cell? (ad2.add (bst.toNat * 3)) = some (.int .i64 (rd_T43 jobs bst).f0) ∧ wr.drew.cell? ⟨(ad2.add (bst.toNat * 3)).block, (ad2.add (bst.toNat * 3)).off + 1, none⟩ = some (.int .i64 (rd_T43 jobs bst).f1) ∧ wr.drew.cell? ⟨(ad2.add (bst.toNat * 3)).block, (ad2.add (bst.toNat * 3)).off + 2, none⟩ = some (.int .i64 (rd_T43 jobs bst).f2) from ⟨below_drew1 (Below.refl _ _), f1, f2, f3, pw_cell_below HW.out (pw_cell_below HB.out y0), pw_cell_below HW.out (pw_cell_below HB.out y1), pw_cell_below HW.out (pw_cell_below HB.out y2), pw_cell_below HW.out (pw_cell_below HB.out z0), pw_cell_below HW.out (pw_cell_below HB.out z1), pw_cell_below HW.out (pw_cell_below HB.out z2)⟩)
        have HKP := Aside0.mk (show ∀ w1 w2 : World, Below wr.heap.size wr w1 ∧ w1.cell? ⟨b1, 0, none⟩ = some (.func (.func 51) #[] #[]) ∧ w1.cell? ⟨b2, 0, none⟩ = some (.slice (some ad2) jobs.length c0) ∧ w1.cell? ⟨g, 1, none⟩ = some (.int .i64 tick) ∧ w1.cell? (ad2.add (jx.toNat * 3)) = some (.int .i64 (rd_T43 jobs jx).f0) ∧ w1.cell? ⟨(ad2.add (jx.toNat * 3)).block, (ad2.add (jx.toNat * 3)).off + 1, none⟩ = some (.int .i64 (rd_T43 jobs jx).f1) ∧ w1.cell? ⟨(ad2.add (jx.toNat * 3)).block, (ad2.add (jx.toNat * 3)).off + 2, none⟩ = some (.int .i64 (rd_T43 jobs jx).f2) ∧ w1.cell? (ad2.add (bst.toNat * 3)) = some (.int .i64 (rd_T43 jobs bst).f0) ∧ w1.cell? ⟨(ad2.add (bst.toNat * 3)).block, (ad2.add (bst.toNat * 3)).off + 1, none⟩ = some (.int .i64 (rd_T43 jobs bst).f1) ∧ w1.cell? ⟨(ad2.add (bst.toNat * 3)).block, (ad2.add (bst.toNat * 3)).off + 2, none⟩ = some (.int .i64 (rd_T43 jobs bst).f2) → Below w1.heap.size w1 w2 → Below wr.heap.size wr w2 ∧ w2.cell? ⟨b1, 0, none⟩ = some (.func (.func 51) #[] #[]) ∧ w2.cell? ⟨b2, 0, none⟩ = some (.slice (some ad2) jobs.length c0) ∧ w2.cell? ⟨g, 1, none⟩ = some (.int .i64 tick) ∧ w2.cell? (ad2.add (jx.toNat * 3)) = some (.int .i64 (rd_T43 jobs jx).f0) ∧ w2.cell? ⟨(ad2.add (jx.toNat * 3)).block, (ad2.add (jx.toNat * 3)).off + 1, none⟩ = some (.int .i64 (rd_T43 jobs jx).f1) ∧ w2.cell? ⟨(ad2.add (jx.toNat * 3)).block, (ad2.add (jx.toNat * 3)).off + 2, none⟩ = some (.int .i64 (rd_T43 jobs jx).f2) ∧ w2.cell? (ad2.add (bst.toNat * 3)) = some (.int .i64 (rd_T43 jobs bst).f0) ∧ w2.cell? ⟨(ad2.add (bst.toNat * 3)).block, (ad2.add (bst.toNat * 3)).off + 1, none⟩ = some (.int .i64 (rd_T43 jobs bst).f1) ∧ w2.cell? ⟨(ad2.add (bst.toNat * 3)).block, (ad2.add (bst.toNat * 3)).off + 2, none⟩ = some (.int .i64 (rd_T43 jobs bst).f2) from fun w1 w2 hs hb => ⟨below_step hs.1 hb, pw_cell_below hb hs.2.1, pw_cell_below hb hs.2.2.1, pw_cell_below hb hs.2.2.2.1, pw_cell_below hb hs.2.2.2.2.1, pw_cell_below hb hs.2.2.2.2.2.1, pw_cell_below hb hs.2.2.2.2.2.2.1, pw_cell_below hb hs.2.2.2.2.2.2.2.1, pw_cell_below hb hs.2.2.2.2.2.2.2.2.1, pw_cell_below hb hs.2.2.2.2.2.2.2.2.2⟩)
        have hpj := eq_true hj.1
        have hqj := eq_true hj.2
        have hpb := eq_true hbi.1
        have hqb := eq_true hbi.2
        clear f1 f2 f3 y0 y1 y2 z0 z1 z2 h71 hj hbi cm cb1 cb2 hpm hqm
        go_region_held3 (fun w' => Below wr.heap.size wr w' ∧ w'.cell? ⟨b1, 0, none⟩ = some (.func (.func 51) #[] #[]) ∧ w'.cell? ⟨b2, 0, none⟩ = some (.slice (some ad2) jobs.length c0) ∧ w'.cell? ⟨g, 1, none⟩ = some (.int .i64 tick) ∧ w'.cell? (ad2.add (jx.toNat * 3)) = some (.int .i64 (rd_T43 jobs jx).f0) ∧ w'.cell? ⟨(ad2.add (jx.toNat * 3)).block, (ad2.add (jx.toNat * 3)).off + 1, none⟩ = some (.int .i64 (rd_T43 jobs jx).f1) ∧ w'.cell? ⟨(ad2.add (jx.toNat * 3)).block, (ad2.add (jx.toNat * 3)).off + 2, none⟩ = some (.int .i64 (rd_T43 jobs jx).f2) ∧ w'.cell? (ad2.add (bst.toNat * 3)) = some (.int .i64 (rd_T43 jobs bst).f0) ∧ w'.cell? ⟨(ad2.add (bst.toNat * 3)).block, (ad2.add (bst.toNat * 3)).off + 1, none⟩ = some (.int .i64 (rd_T43 jobs bst).f1) ∧ w'.cell? ⟨(ad2.add (bst.toNat * 3)).block, (ad2.add (bst.toNat * 3)).off + 2, none⟩ = some (.int .i64 (rd_T43 jobs bst).f2)) (first | exact HF.out | exact HKP.out _ _ (by assumption) hbx) ((first | (go_at_call_of 51 ((rd_T43 jobs jx).f0); refine (HOF.out _ (rd_T43 jobs jx) tick ?s1).mono ?_; (case s1 => first | exact below_step HW.out HF.out.1 | exact below_step HW.out (And.left (by assumption))); rintro e w9 ⟨rfl, hbx⟩) | (go_at_call_of 51 ((rd_T43 jobs bst).f0); refine (HOF.out _ (rd_T43 jobs bst) tick ?s1).mono ?_; (case s1 => first | exact below_step HW.out HF.out.1 | exact below_step HW.out (And.left (by assumption))); rintro e w9 ⟨rfl, hbx⟩)))
        all_goals (try go_wp2_with fail)
        all_goals go_meet
        all_goals exact ⟨_, rfl, ⟨rfl⟩, ⟨And.left (by assumption)⟩⟩
      case rest =>
        obtain ⟨b40, rfl, hb40, HC2⟩ := hcut
        have HL2 := Aside0.mk (Kd.C_below HL.out HC2.out)
        have HC3 := Aside0.mk (below_step HW.out HC2.out)
        clear hx1 hj hbi
        cases gk with
        | zero => exact absurd hkm (by omega)
        | succ k1 =>
          by_cases cc : of tick (rd_T43 jobs bst) < of tick (rd_T43 jobs jx)
          · have HN := HNX.out
            rw [if_pos cc] at HN
            have cd : b40 = true := hb40.out.trans (decide_eq_true cc)
            clear hb40
            subst cd
            clear cc HNX
            go_wp2
            go_roundg k1
            case measure => omega
            case rel => exact ⟨m + 1, by omega, by omega, by rw [HN], by have := HC.out.2.1; first | rfl | (rw [wrap_small (by omega) (by omega)]; rfl), HC3, HL2⟩
          · have HN := HNX.out
            rw [if_neg cc] at HN
            have cd : b40 = false := hb40.out.trans (decide_eq_false cc)
            clear hb40
            subst cd
            clear cc HNX
            go_wp2
            go_roundg k1
            case measure => omega
            case rel => exact ⟨m + 1, by omega, by omega, by rw [HN], by have := HC.out.2.1; first | rfl | (rw [wrap_small (by omega) (by omega)]; rfl), HC3, HL2⟩
    · have : m = wl.length := by omega
      subst this
      have cb1 : decide ((wl.length : Int) < (wl.length : Int)) = false := decide_eq_false (by omega)
      have cb2 : decide (wl.length < wl.length) = false := decide_eq_false (by omega)
      clear cm
      go_wp2
      go_ret
      exact ⟨rfl, HW.out⟩
/-! ### greatestBy_f: greatestBy, for one number -/
set_option maxHeartbeats 8000000 in
set_option maxRecDepth 100000 in
theorem greatestBy_f (k : Nat) (jobs : List (S43)) (of : Int → S43 → Int) (r : List Int) (w : World) (A0 : Option Addr) (c0 : Nat) (hjC : Kd.C k43 w A0 jobs.length jobs) (hn : jobs.length ≤ 20)
    (hof : ∀ (W' : World) (x : S43) (t : Int), Below w.heap.size w W' → Calls Try.prog 51 #[.agg #[.int .i64 x.f0, .int .i64 x.f1, .int .i64 x.f2], .int .i64 t] W' fun e w' => e = .returned (.int .i64 (of t x)) ∧ Below W'.heap.size W' w')
    (h : startsByL jobs (gChoose of jobs) id k (List.replicate jobs.length (-1)) 0 () = some r) :
    Calls Try.prog 49 #[.slice A0 jobs.length c0, .func (.func 51) #[] #[]] w fun e w' => ∃ v0_ : Value, e = .returned (v0_) ∧ Kd.R (Kd.int .i64) 3 w' w.heap.size (fun _ => True) v0_ r ∧ Below w.heap.size w w' := by
  have hu43 := Try.underlying43
  have hmf : ∀ (fn : Fn) (first cap : Array Value) (w : World), (Instr.makeFunc fn first cap).run Try.prog w = .ok (.func fn first cap) w := fun _ _ _ _ => rfl
  have HJ := Aside0.mk hjC
  have HN := Aside0.mk hn
  have HH := Aside0.mk h
  have HOF := Aside0.mk hof
  clear hjC hn h hof
  go_enter Try.func49, Try.ntmps49
  go_wp2_with (first | ((with_reducible refine gate_dst (N := 2) rfl ?_); refine box_event ?hg (N := 2) ?hd (cs := #[.slice A0 jobs.length c0]) (t := 27) ?hr ?_; (case hd => rfl); (case hg => rfl); (case hr => first | (go_simp; done) | (go_simp; rfl)); intro b2 hg2 w2 hbox hb; have H2 := Aside0.mk hbox; have HB2 := Aside0.mk hb; have HG2 := Aside0.mk hg2; clear hbox hb hg2; have hc2 : w2.cell? ⟨b2, 0, none⟩ = some (.slice A0 jobs.length c0) := (blk_cell H2.out 0).trans rfl) | ((with_reducible refine gate_dst (N := 3) rfl ?_); refine box_event ?hg (N := 3) ?hd (cs := #[.func (.func 51) #[] #[]]) (t := 52) ?hr ?_; (case hd => rfl); (case hg => rfl); (case hr => first | (go_simp; done) | (go_simp; rfl)); intro b1 hg1 w3 hbox hb; have H1 := Aside0.mk hbox; have HB3 := Aside0.mk (below_step HB2.out hb); have HG1 := Aside0.mk hg1; have H22 := Aside0.mk (blk_below H2.out hb); have HSZ := Aside0.mk hb.size; clear hbox hc2 hb hg1 H2; have hc2 : w3.cell? ⟨b2, 0, none⟩ = some (.slice A0 jobs.length c0) := (blk_cell H22.out 0).trans rfl) | ((go_at_call 59; (with_reducible refine (startsBy_gr (fun (W : World) (_ : Unit) => W.heap[b1]? = some (.cells #[.func (.func 51) #[] #[]] 52 (0, 0)) ∧ W.heap[b2]? = some (.cells #[.slice A0 jobs.length c0] 27 (0, 0))) (fun k_ => k_ ≠ b1 ∧ k_ ≠ b2) jobs (gChoose of jobs) id b1 b2 w A0 c0 HJ.out HN.out ?p1 ?p2 ?p3 ?p4 ?p5 k () r _ ?sb ?sp ?se HH.out).mono ?_); (case p1 => exact fun W W1 s hp hb => ⟨blk_below hp.1 hb, blk_below hp.2 hb⟩); (case p2 => exact fun W g tick starts s x hi hp => by obtain ⟨A5, c5, sv5, h5, _⟩ := hi; exact ⟨blk_far hp.1 (ne_blk hp.1 h5 (by decide)) _, blk_far hp.2 (ne_blk hp.2 h5 (by decide)) _⟩); (case p3 => exact fun W r i u s he hp => ⟨blk_far hp.1 (Ne.symm he.1) _, blk_far hp.2 (Ne.symm he.2) _⟩); (case p4 => exact fun k W g starts tick s i s' hi hb hp hl hc => (gr_clo_f k g b1 b2  jobs tick starts i of _ w W A0 c0 hi hb hp.1 hp.2 HJ.out (fun W' x t hw => HOF.out W' x t (below_step hb hw)) hc).mono (by rintro e w' ⟨rfl, hb2⟩; exact ⟨rfl, IsM.below hi hb2, below_step hb hb2, ⟨blk_below hp.1 hb2, blk_below hp.2 hb2⟩⟩)); (case p5 => exact fun W g starts tick s hi hb hp => (gr_idle W).mono (by rintro e w' ⟨rfl, hb2⟩; exact ⟨rfl, IsM.below hi hb2, below_step hb hb2, ⟨blk_below hp.1 hb2, blk_below hp.2 hb2⟩⟩)); (case sb => exact (by repeat (first | exact HB3.out | apply pw_below_drewN | apply below_drew1))); (case sp => exact ⟨H1.out, H22.out⟩); (case se => exact fun k_ hk_ => ⟨fun e => absurd (blk_lt H1.out) (by rw [← e]; exact Nat.not_lt.2 hk_), fun e => absurd (blk_lt H22.out) (by rw [← e]; exact Nat.not_lt.2 hk_)⟩); rintro e w5 ⟨v7, rfl, ho, hb⟩; have HR := Aside0.mk ho; have HBF := Aside0.mk hb; clear ho hb)))
  go_ret
  exact ⟨_, rfl, HR.out, by repeat (first | exact HBF.out | apply pw_below_drewN | apply below_drew1)⟩
/-! ### gr_clo_s: the closure, for one number -/
set_option maxHeartbeats 8000000 in
set_option maxRecDepth 100000 in
theorem gr_clo_s (k g b1 b2 : Nat) (jobs : List (S43)) (tick : Int) (starts : List Int) (i : Int) (of : Int → S43 → Int) (E : Nat → Prop) (w0 W : World) (A0 : Option Addr) (c0 : Nat) (hI : IsM w0 W E g jobs tick starts) (hB : Below w0.heap.size w0 W)
    (h1 : W.heap[b1]? = some (.cells #[.func (.func 52) #[] #[]] 52 (0, 0))) (h2 : W.heap[b2]? = some (.cells #[.slice A0 jobs.length c0] 27 (0, 0))) (hjC : Kd.C k43 w0 A0 jobs.length jobs)
    (hof : ∀ (W' : World) (x : S43) (t : Int), Below W.heap.size W W' → Calls Try.prog 52 #[.agg #[.int .i64 x.f0, .int .i64 x.f1, .int .i64 x.f2], .int .i64 t] W' fun e w' => e = .returned (.int .i64 (of t x)) ∧ Below W'.heap.size W' w')
    (h : gChoose of jobs k starts tick () = some (i, ())) :
    Calls Try.prog 71 #[.pointer (some ⟨g, 0, none⟩), .pointer (some ⟨b1, 0, none⟩), .pointer (some ⟨b2, 0, none⟩)] W fun e w' => e = .returned (.int .i64 i) ∧ Below W.heap.size W w' := by
  have hu43 := Try.underlying43
  unfold gChoose at h
  obtain ⟨⟨wl, wt⟩, E1, h⟩ := Option.bind_eq_some_iff.mp h
  dsimp only at h
  by_cases c : 0 < wl.length ∧ wl.length ≤ 20 ∧ (wl.all fun x => decide (0 ≤ x) && decide (x < (jobs.length : Int))) = true
  case neg => rw [if_neg c] at h; cases h
  rw [if_pos c] at h
  have h3 := (Prod.mk.inj (Option.some.inj h)).1
  subst h3
  have HE1 := Aside0.mk E1
  have HC := Aside0.mk c
  have HI := Aside0.mk hI
  have HB := Aside0.mk hB
  have H1 := Aside0.mk h1
  have H2 := Aside0.mk h2
  have HJ := Aside0.mk hjC
  have HOF := Aside0.mk hof
  clear h c hI hB h1 h2 hjC E1 hof
  go_enter Try.func71, Try.ntmps71
  go_upto_region 2 with (first | (go_at_call 72; (with_reducible refine (waiting_q k g jobs tick starts wl wt _ ?s1 HE1.out).mono ?_); (case s1 => exact IsM.q HI.out HB.out); rintro e w6 ⟨v10, rfl, ho, hb⟩; have HO := Aside0.mk ho; have HW := Aside0.mk hb; clear ho hb; obtain ⟨A10, c10, e10⟩ := Kd.R_slice HO.out; subst e10))
  have hp0 : 0 ≤ ((0 : Nat) : Int) := by omega
  have hq0 : ((0 : Nat) : Int) < (wl.length : Int) := by have := HC.out.1; omega
  obtain ⟨ad0, e0, hx0⟩ := Kd.at_int (Kd.R_reads' HO.out).2.2 ((0 : Nat) : Int) hp0 hq0
  cases e0
  replace hp0 : ((0 : Int) ≤ 0) = True := eq_true hp0
  replace hq0 : ((0 : Int) < (wl.length : Int)) = True := eq_true hq0
  replace hx0 : w6.cell? ad0 = some (.int .i64 (rd wl 0)) := by have h5 := hx0; cases ad0; simpa [Addr.add] using h5
  have hq1 : (0 < wl.length) = True := eq_true HC.out.1
  go_wp2
  go_loopg [6, 16] (wl.length + 1) (fun kq v6 v16 w' => ∃ m : Nat, kq + m = wl.length + 1 ∧ m ≤ wl.length ∧ v6 = .int .i64 (gBest (of tick) jobs wl m) ∧ v16 = .int .i64 (m : Int) ∧ Aside0 (Below W.heap.size W w') ∧ Aside0 (Kd.C (Kd.int .i64) w' (some ad0) wl.length wl))
  case atStart => exact ⟨0, by omega, by omega, rfl, rfl, ⟨by repeat (first | exact HW.out | apply pw_below_drewN | apply below_drew1)⟩, ⟨(Kd.R_reads' HO.out).2.2⟩⟩
  case round =>
    clear HO HW hx0 hp0 hq0
    obtain ⟨m, hkm, hml, rfl, rfl, HW, HL⟩ := hrel
    by_cases cm : m < wl.length
    · have cb1 : decide ((m : Int) < (wl.length : Int)) = true := decide_eq_true (by omega)
      have cb2 : decide (m < wl.length) = true := decide_eq_true cm
      have hpm : 0 ≤ (m : Int) := by omega
      have hqm : (m : Int) < (wl.length : Int) := by omega
      obtain ⟨ad1, e1, hx1⟩ := Kd.at_int HL.out (m : Int) hpm hqm
      cases e1
      simp only [Int.toNat_natCast] at hx1
      replace hpm := eq_true hpm
      replace hqm := eq_true hqm
      have hj := g_wat HC.out.2.2 m cm
      have hbi := gBest_in (of := of tick) HC.out.1 HC.out.2.2 m (by omega)
      go_upto_region 6 with (fail)
      obtain ⟨bst, hbs⟩ : ∃ x, gBest (of tick) jobs wl m = x := ⟨_, rfl⟩
      obtain ⟨jx, hjx⟩ : ∃ x, rd wl (m : Int) = x := ⟨_, rfl⟩
      have HNX := Aside0.mk (show gBest (of tick) jobs wl (m + 1) = if of tick (rd_T43 jobs bst) < of tick (rd_T43 jobs jx) then jx else bst by rw [gBest, hbs, hjx])
      rw [hbs] at hbi ⊢
      rw [hjx] at hj ⊢
      go_cut [40] (fun v40 wc => ∃ b40 : Bool, v40 = .bool b40 ∧ Aside0 (b40 = decide (of tick (rd_T43 jobs bst) < of tick (rd_T43 jobs jx))) ∧ Aside0 (Below wr.heap.size wr wc))
      case first =>
        clear HNX hbs hjx hx1
        obtain ⟨ad2, e2, y0, y1, y2⟩ := at_T43 HJ.out jx hj.1 hj.2
        obtain ⟨ad3, e3, z0, z1, z2⟩ := at_T43 HJ.out bst hbi.1 hbi.2
        rw [e2] at e3
        cases e3
        cases e2
        obtain ⟨A7, c7, sv7, h71, _, _, _⟩ := HI.out
        have f1 : wr.cell? ⟨b1, 0, none⟩ = some (.func (.func 52) #[] #[]) := (blk_cell (blk_below H1.out HW.out) 0).trans rfl
        have f2 : wr.cell? ⟨b2, 0, none⟩ = some (.slice (some ad2) jobs.length c0) := (blk_cell (blk_below H2.out HW.out) 0).trans rfl
        have f3 : wr.cell? ⟨g, 1, none⟩ = some (.int .i64 tick) := (blk_cell (blk_below h71 HW.out) 1).trans rfl
        have HF := Aside0.mk (show Below wr.heap.size wr wr.drew ∧ wr.drew.cell? ⟨b1, 0, none⟩ = some (.func (.func 52) #[] #[]) ∧ wr.drew.cell? ⟨b2, 0, none⟩ = some (.slice (some ad2) jobs.length c0) ∧ wr.drew.cell? ⟨g, 1, none⟩ = some (.int .i64 tick) ∧ wr.drew.cell? (ad2.add (jx.toNat * 3)) = some (.int .i64 (rd_T43 jobs jx).f0) ∧ wr.drew.cell? ⟨(ad2.add (jx.toNat * 3)).block, (ad2.add (jx.toNat * 3)).off + 1, none⟩ = some (.int .i64 (rd_T43 jobs jx).f1) ∧ wr.drew.cell? ⟨(ad2.add (jx.toNat * 3)).block, (ad2.add (jx.toNat * 3)).off + 2, none⟩ = some (.int .i64 (rd_T43 jobs jx).f2) ∧ wr.drew.cell? (ad2.add (bst.toNat * 3)) = some (.int .i64 (rd_T43 jobs bst).f0) ∧ wr.drew.cell? ⟨(ad2.add (bst.toNat * 3)).block, (ad2.add (bst.toNat * 3)).off + 1, none⟩ = some (.int .i64 (rd_T43 jobs bst).f1) ∧ wr.drew.cell? ⟨(ad2.add (bst.toNat * 3)).block, (ad2.add (bst.toNat * 3)).off + 2, none⟩ = some (.int .i64 (rd_T43 jobs bst).f2) from ⟨below_drew1 (Below.refl _ _), f1, f2, f3, pw_cell_below HW.out (pw_cell_below HB.out y0), pw_cell_below HW.out (pw_cell_below HB.out y1), pw_cell_below HW.out (pw_cell_below HB.out y2), pw_cell_below HW.out (pw_cell_below HB.out z0), pw_cell_below HW.out (pw_cell_below HB.out z1), pw_cell_below HW.out (pw_cell_below HB.out z2)⟩)
        have HKP := Aside0.mk (show ∀ w1 w2 : World, Below wr.heap.size wr w1 ∧ w1.cell? ⟨b1, 0, none⟩ = some (.func (.func 52) #[] #[]) ∧ w1.cell? ⟨b2, 0, none⟩ = some (.slice (some ad2) jobs.length c0) ∧ w1.cell? ⟨g, 1, none⟩ = some (.int .i64 tick) ∧ w1.cell? (ad2.add (jx.toNat * 3)) = some (.int .i64 (rd_T43 jobs jx).f0) ∧ w1.cell? ⟨(ad2.add (jx.toNat * 3)).block, (ad2.add (jx.toNat * 3)).off + 1, none⟩ = some (.int .i64 (rd_T43 jobs jx).f1) ∧ w1.cell? ⟨(ad2.add (jx.toNat * 3)).block, (ad2.add (jx.toNat * 3)).off + 2, none⟩ = some (.int .i64 (rd_T43 jobs jx).f2) ∧ w1.cell? (ad2.add (bst.toNat * 3)) = some (.int .i64 (rd_T43 jobs bst).f0) ∧ w1.cell? ⟨(ad2.add (bst.toNat * 3)).block, (ad2.add (bst.toNat * 3)).off + 1, none⟩ = some (.int .i64 (rd_T43 jobs bst).f1) ∧ w1.cell? ⟨(ad2.add (bst.toNat * 3)).block, (ad2.add (bst.toNat * 3)).off + 2, none⟩ = some (.int .i64 (rd_T43 jobs bst).f2) → Below w1.heap.size w1 w2 → Below wr.heap.size wr w2 ∧ w2.cell? ⟨b1, 0, none⟩ = some (.func (.func 52) #[] #[]) ∧ w2.cell? ⟨b2, 0, none⟩ = some (.slice (some ad2) jobs.length c0) ∧ w2.cell? ⟨g, 1, none⟩ = some (.int .i64 tick) ∧ w2.cell? (ad2.add (jx.toNat * 3)) = some (.int .i64 (rd_T43 jobs jx).f0) ∧ w2.cell? ⟨(ad2.add (jx.toNat * 3)).block, (ad2.add (jx.toNat * 3)).off + 1, none⟩ = some (.int .i64 (rd_T43 jobs jx).f1) ∧ w2.cell? ⟨(ad2.add (jx.toNat * 3)).block, (ad2.add (jx.toNat * 3)).off + 2, none⟩ = some (.int .i64 (rd_T43 jobs jx).f2) ∧ w2.cell? (ad2.add (bst.toNat * 3)) = some (.int .i64 (rd_T43 jobs bst).f0) ∧ w2.cell? ⟨(ad2.add (bst.toNat * 3)).block, (ad2.add (bst.toNat * 3)).off + 1, none⟩ = some (.int .i64 (rd_T43 jobs bst).f1) ∧ w2.cell? ⟨(ad2.add (bst.toNat * 3)).block, (ad2.add (bst.toNat * 3)).off + 2, none⟩ = some (.int .i64 (rd_T43 jobs bst).f2) from fun w1 w2 hs hb => ⟨below_step hs.1 hb, pw_cell_below hb hs.2.1, pw_cell_below hb hs.2.2.1, pw_cell_below hb hs.2.2.2.1, pw_cell_below hb hs.2.2.2.2.1, pw_cell_below hb hs.2.2.2.2.2.1, pw_cell_below hb hs.2.2.2.2.2.2.1, pw_cell_below hb hs.2.2.2.2.2.2.2.1, pw_cell_below hb hs.2.2.2.2.2.2.2.2.1, pw_cell_below hb hs.2.2.2.2.2.2.2.2.2⟩)
        have hpj := eq_true hj.1
        have hqj := eq_true hj.2
        have hpb := eq_true hbi.1
        have hqb := eq_true hbi.2
        clear f1 f2 f3 y0 y1 y2 z0 z1 z2 h71 hj hbi cm cb1 cb2 hpm hqm
        go_region_held3 (fun w' => Below wr.heap.size wr w' ∧ w'.cell? ⟨b1, 0, none⟩ = some (.func (.func 52) #[] #[]) ∧ w'.cell? ⟨b2, 0, none⟩ = some (.slice (some ad2) jobs.length c0) ∧ w'.cell? ⟨g, 1, none⟩ = some (.int .i64 tick) ∧ w'.cell? (ad2.add (jx.toNat * 3)) = some (.int .i64 (rd_T43 jobs jx).f0) ∧ w'.cell? ⟨(ad2.add (jx.toNat * 3)).block, (ad2.add (jx.toNat * 3)).off + 1, none⟩ = some (.int .i64 (rd_T43 jobs jx).f1) ∧ w'.cell? ⟨(ad2.add (jx.toNat * 3)).block, (ad2.add (jx.toNat * 3)).off + 2, none⟩ = some (.int .i64 (rd_T43 jobs jx).f2) ∧ w'.cell? (ad2.add (bst.toNat * 3)) = some (.int .i64 (rd_T43 jobs bst).f0) ∧ w'.cell? ⟨(ad2.add (bst.toNat * 3)).block, (ad2.add (bst.toNat * 3)).off + 1, none⟩ = some (.int .i64 (rd_T43 jobs bst).f1) ∧ w'.cell? ⟨(ad2.add (bst.toNat * 3)).block, (ad2.add (bst.toNat * 3)).off + 2, none⟩ = some (.int .i64 (rd_T43 jobs bst).f2)) (first | exact HF.out | exact HKP.out _ _ (by assumption) hbx) ((first | (go_at_call_of 52 ((rd_T43 jobs jx).f0); refine (HOF.out _ (rd_T43 jobs jx) tick ?s1).mono ?_; (case s1 => first | exact below_step HW.out HF.out.1 | exact below_step HW.out (And.left (by assumption))); rintro e w9 ⟨rfl, hbx⟩) | (go_at_call_of 52 ((rd_T43 jobs bst).f0); refine (HOF.out _ (rd_T43 jobs bst) tick ?s1).mono ?_; (case s1 => first | exact below_step HW.out HF.out.1 | exact below_step HW.out (And.left (by assumption))); rintro e w9 ⟨rfl, hbx⟩)))
        all_goals (try go_wp2_with fail)
        all_goals go_meet
        all_goals exact ⟨_, rfl, ⟨rfl⟩, ⟨And.left (by assumption)⟩⟩
      case rest =>
        obtain ⟨b40, rfl, hb40, HC2⟩ := hcut
        have HL2 := Aside0.mk (Kd.C_below HL.out HC2.out)
        have HC3 := Aside0.mk (below_step HW.out HC2.out)
        clear hx1 hj hbi
        cases gk with
        | zero => exact absurd hkm (by omega)
        | succ k1 =>
          by_cases cc : of tick (rd_T43 jobs bst) < of tick (rd_T43 jobs jx)
          · have HN := HNX.out
            rw [if_pos cc] at HN
            have cd : b40 = true := hb40.out.trans (decide_eq_true cc)
            clear hb40
            subst cd
            clear cc HNX
            go_wp2
            go_roundg k1
            case measure => omega
            case rel => exact ⟨m + 1, by omega, by omega, by rw [HN], by have := HC.out.2.1; first | rfl | (rw [wrap_small (by omega) (by omega)]; rfl), HC3, HL2⟩
          · have HN := HNX.out
            rw [if_neg cc] at HN
            have cd : b40 = false := hb40.out.trans (decide_eq_false cc)
            clear hb40
            subst cd
            clear cc HNX
            go_wp2
            go_roundg k1
            case measure => omega
            case rel => exact ⟨m + 1, by omega, by omega, by rw [HN], by have := HC.out.2.1; first | rfl | (rw [wrap_small (by omega) (by omega)]; rfl), HC3, HL2⟩
    · have : m = wl.length := by omega
      subst this
      have cb1 : decide ((wl.length : Int) < (wl.length : Int)) = false := decide_eq_false (by omega)
      have cb2 : decide (wl.length < wl.length) = false := decide_eq_false (by omega)
      clear cm
      go_wp2
      go_ret
      exact ⟨rfl, HW.out⟩
/-! ### greatestBy_s: greatestBy, for one number -/
set_option maxHeartbeats 8000000 in
set_option maxRecDepth 100000 in
theorem greatestBy_s (k : Nat) (jobs : List (S43)) (of : Int → S43 → Int) (r : List Int) (w : World) (A0 : Option Addr) (c0 : Nat) (hjC : Kd.C k43 w A0 jobs.length jobs) (hn : jobs.length ≤ 20)
    (hof : ∀ (W' : World) (x : S43) (t : Int), Below w.heap.size w W' → Calls Try.prog 52 #[.agg #[.int .i64 x.f0, .int .i64 x.f1, .int .i64 x.f2], .int .i64 t] W' fun e w' => e = .returned (.int .i64 (of t x)) ∧ Below W'.heap.size W' w')
    (h : startsByL jobs (gChoose of jobs) id k (List.replicate jobs.length (-1)) 0 () = some r) :
    Calls Try.prog 49 #[.slice A0 jobs.length c0, .func (.func 52) #[] #[]] w fun e w' => ∃ v0_ : Value, e = .returned (v0_) ∧ Kd.R (Kd.int .i64) 3 w' w.heap.size (fun _ => True) v0_ r ∧ Below w.heap.size w w' := by
  have hu43 := Try.underlying43
  have hmf : ∀ (fn : Fn) (first cap : Array Value) (w : World), (Instr.makeFunc fn first cap).run Try.prog w = .ok (.func fn first cap) w := fun _ _ _ _ => rfl
  have HJ := Aside0.mk hjC
  have HN := Aside0.mk hn
  have HH := Aside0.mk h
  have HOF := Aside0.mk hof
  clear hjC hn h hof
  go_enter Try.func49, Try.ntmps49
  go_wp2_with (first | ((with_reducible refine gate_dst (N := 2) rfl ?_); refine box_event ?hg (N := 2) ?hd (cs := #[.slice A0 jobs.length c0]) (t := 27) ?hr ?_; (case hd => rfl); (case hg => rfl); (case hr => first | (go_simp; done) | (go_simp; rfl)); intro b2 hg2 w2 hbox hb; have H2 := Aside0.mk hbox; have HB2 := Aside0.mk hb; have HG2 := Aside0.mk hg2; clear hbox hb hg2; have hc2 : w2.cell? ⟨b2, 0, none⟩ = some (.slice A0 jobs.length c0) := (blk_cell H2.out 0).trans rfl) | ((with_reducible refine gate_dst (N := 3) rfl ?_); refine box_event ?hg (N := 3) ?hd (cs := #[.func (.func 52) #[] #[]]) (t := 52) ?hr ?_; (case hd => rfl); (case hg => rfl); (case hr => first | (go_simp; done) | (go_simp; rfl)); intro b1 hg1 w3 hbox hb; have H1 := Aside0.mk hbox; have HB3 := Aside0.mk (below_step HB2.out hb); have HG1 := Aside0.mk hg1; have H22 := Aside0.mk (blk_below H2.out hb); have HSZ := Aside0.mk hb.size; clear hbox hc2 hb hg1 H2; have hc2 : w3.cell? ⟨b2, 0, none⟩ = some (.slice A0 jobs.length c0) := (blk_cell H22.out 0).trans rfl) | ((go_at_call 59; (with_reducible refine (startsBy_gr (fun (W : World) (_ : Unit) => W.heap[b1]? = some (.cells #[.func (.func 52) #[] #[]] 52 (0, 0)) ∧ W.heap[b2]? = some (.cells #[.slice A0 jobs.length c0] 27 (0, 0))) (fun k_ => k_ ≠ b1 ∧ k_ ≠ b2) jobs (gChoose of jobs) id b1 b2 w A0 c0 HJ.out HN.out ?p1 ?p2 ?p3 ?p4 ?p5 k () r _ ?sb ?sp ?se HH.out).mono ?_); (case p1 => exact fun W W1 s hp hb => ⟨blk_below hp.1 hb, blk_below hp.2 hb⟩); (case p2 => exact fun W g tick starts s x hi hp => by obtain ⟨A5, c5, sv5, h5, _⟩ := hi; exact ⟨blk_far hp.1 (ne_blk hp.1 h5 (by decide)) _, blk_far hp.2 (ne_blk hp.2 h5 (by decide)) _⟩); (case p3 => exact fun W r i u s he hp => ⟨blk_far hp.1 (Ne.symm he.1) _, blk_far hp.2 (Ne.symm he.2) _⟩); (case p4 => exact fun k W g starts tick s i s' hi hb hp hl hc => (gr_clo_s k g b1 b2  jobs tick starts i of _ w W A0 c0 hi hb hp.1 hp.2 HJ.out (fun W' x t hw => HOF.out W' x t (below_step hb hw)) hc).mono (by rintro e w' ⟨rfl, hb2⟩; exact ⟨rfl, IsM.below hi hb2, below_step hb hb2, ⟨blk_below hp.1 hb2, blk_below hp.2 hb2⟩⟩)); (case p5 => exact fun W g starts tick s hi hb hp => (gr_idle W).mono (by rintro e w' ⟨rfl, hb2⟩; exact ⟨rfl, IsM.below hi hb2, below_step hb hb2, ⟨blk_below hp.1 hb2, blk_below hp.2 hb2⟩⟩)); (case sb => exact (by repeat (first | exact HB3.out | apply pw_below_drewN | apply below_drew1))); (case sp => exact ⟨H1.out, H22.out⟩); (case se => exact fun k_ hk_ => ⟨fun e => absurd (blk_lt H1.out) (by rw [← e]; exact Nat.not_lt.2 hk_), fun e => absurd (blk_lt H22.out) (by rw [← e]; exact Nat.not_lt.2 hk_)⟩); rintro e w5 ⟨v7, rfl, ho, hb⟩; have HR := Aside0.mk ho; have HBF := Aside0.mk hb; clear ho hb)))
  go_ret
  exact ⟨_, rfl, HR.out, by repeat (first | exact HBF.out | apply pw_below_drewN | apply below_drew1)⟩
/-! ### gr_clo_a: the closure, for one number -/
set_option maxHeartbeats 8000000 in
set_option maxRecDepth 100000 in
theorem gr_clo_a (k g b1 b2 b3 : Nat) (jobs : List (S43)) (tick : Int) (starts : List Int) (i : Int) (of : Int → S43 → Int) (E : Nat → Prop) (w0 W : World) (A0 : Option Addr) (c0 : Nat) (hI : IsM w0 W E g jobs tick starts) (hB : Below w0.heap.size w0 W)
    (h1 : W.heap[b1]? = some (.cells #[.func (.func 50) #[] #[.pointer (some ⟨b3, 0, none⟩)]] 52 (0, 0))) (h2 : W.heap[b2]? = some (.cells #[.slice A0 jobs.length c0] 27 (0, 0))) (hjC : Kd.C k43 w0 A0 jobs.length jobs)
    (hof : ∀ (W' : World) (x : S43) (t : Int), Below W.heap.size W W' → Calls Try.prog 50 #[.agg #[.int .i64 x.f0, .int .i64 x.f1, .int .i64 x.f2], .int .i64 t, .pointer (some ⟨b3, 0, none⟩)] W' fun e w' => e = .returned (.int .i64 (of t x)) ∧ Below W'.heap.size W' w')
    (h : gChoose of jobs k starts tick () = some (i, ())) :
    Calls Try.prog 71 #[.pointer (some ⟨g, 0, none⟩), .pointer (some ⟨b1, 0, none⟩), .pointer (some ⟨b2, 0, none⟩)] W fun e w' => e = .returned (.int .i64 i) ∧ Below W.heap.size W w' := by
  have hu43 := Try.underlying43
  unfold gChoose at h
  obtain ⟨⟨wl, wt⟩, E1, h⟩ := Option.bind_eq_some_iff.mp h
  dsimp only at h
  by_cases c : 0 < wl.length ∧ wl.length ≤ 20 ∧ (wl.all fun x => decide (0 ≤ x) && decide (x < (jobs.length : Int))) = true
  case neg => rw [if_neg c] at h; cases h
  rw [if_pos c] at h
  have h3 := (Prod.mk.inj (Option.some.inj h)).1
  subst h3
  have HE1 := Aside0.mk E1
  have HC := Aside0.mk c
  have HI := Aside0.mk hI
  have HB := Aside0.mk hB
  have H1 := Aside0.mk h1
  have H2 := Aside0.mk h2
  have HJ := Aside0.mk hjC
  have HOF := Aside0.mk hof
  clear h c hI hB h1 h2 hjC E1 hof
  go_enter Try.func71, Try.ntmps71
  go_upto_region 2 with (first | (go_at_call 72; (with_reducible refine (waiting_q k g jobs tick starts wl wt _ ?s1 HE1.out).mono ?_); (case s1 => exact IsM.q HI.out HB.out); rintro e w6 ⟨v10, rfl, ho, hb⟩; have HO := Aside0.mk ho; have HW := Aside0.mk hb; clear ho hb; obtain ⟨A10, c10, e10⟩ := Kd.R_slice HO.out; subst e10))
  have hp0 : 0 ≤ ((0 : Nat) : Int) := by omega
  have hq0 : ((0 : Nat) : Int) < (wl.length : Int) := by have := HC.out.1; omega
  obtain ⟨ad0, e0, hx0⟩ := Kd.at_int (Kd.R_reads' HO.out).2.2 ((0 : Nat) : Int) hp0 hq0
  cases e0
  replace hp0 : ((0 : Int) ≤ 0) = True := eq_true hp0
  replace hq0 : ((0 : Int) < (wl.length : Int)) = True := eq_true hq0
  replace hx0 : w6.cell? ad0 = some (.int .i64 (rd wl 0)) := by have h5 := hx0; cases ad0; simpa [Addr.add] using h5
  have hq1 : (0 < wl.length) = True := eq_true HC.out.1
  go_wp2
  go_loopg [6, 16] (wl.length + 1) (fun kq v6 v16 w' => ∃ m : Nat, kq + m = wl.length + 1 ∧ m ≤ wl.length ∧ v6 = .int .i64 (gBest (of tick) jobs wl m) ∧ v16 = .int .i64 (m : Int) ∧ Aside0 (Below W.heap.size W w') ∧ Aside0 (Kd.C (Kd.int .i64) w' (some ad0) wl.length wl))
  case atStart => exact ⟨0, by omega, by omega, rfl, rfl, ⟨by repeat (first | exact HW.out | apply pw_below_drewN | apply below_drew1)⟩, ⟨(Kd.R_reads' HO.out).2.2⟩⟩
  case round =>
    clear HO HW hx0 hp0 hq0
    obtain ⟨m, hkm, hml, rfl, rfl, HW, HL⟩ := hrel
    by_cases cm : m < wl.length
    · have cb1 : decide ((m : Int) < (wl.length : Int)) = true := decide_eq_true (by omega)
      have cb2 : decide (m < wl.length) = true := decide_eq_true cm
      have hpm : 0 ≤ (m : Int) := by omega
      have hqm : (m : Int) < (wl.length : Int) := by omega
      obtain ⟨ad1, e1, hx1⟩ := Kd.at_int HL.out (m : Int) hpm hqm
      cases e1
      simp only [Int.toNat_natCast] at hx1
      replace hpm := eq_true hpm
      replace hqm := eq_true hqm
      have hj := g_wat HC.out.2.2 m cm
      have hbi := gBest_in (of := of tick) HC.out.1 HC.out.2.2 m (by omega)
      go_upto_region 6 with (fail)
      obtain ⟨bst, hbs⟩ : ∃ x, gBest (of tick) jobs wl m = x := ⟨_, rfl⟩
      obtain ⟨jx, hjx⟩ : ∃ x, rd wl (m : Int) = x := ⟨_, rfl⟩
      have HNX := Aside0.mk (show gBest (of tick) jobs wl (m + 1) = if of tick (rd_T43 jobs bst) < of tick (rd_T43 jobs jx) then jx else bst by rw [gBest, hbs, hjx])
      rw [hbs] at hbi ⊢
      rw [hjx] at hj ⊢
      go_cut [40] (fun v40 wc => ∃ b40 : Bool, v40 = .bool b40 ∧ Aside0 (b40 = decide (of tick (rd_T43 jobs bst) < of tick (rd_T43 jobs jx))) ∧ Aside0 (Below wr.heap.size wr wc))
      case first =>
        clear HNX hbs hjx hx1
        obtain ⟨ad2, e2, y0, y1, y2⟩ := at_T43 HJ.out jx hj.1 hj.2
        obtain ⟨ad3, e3, z0, z1, z2⟩ := at_T43 HJ.out bst hbi.1 hbi.2
        rw [e2] at e3
        cases e3
        cases e2
        obtain ⟨A7, c7, sv7, h71, _, _, _⟩ := HI.out
        have f1 : wr.cell? ⟨b1, 0, none⟩ = some (.func (.func 50) #[] #[.pointer (some ⟨b3, 0, none⟩)]) := (blk_cell (blk_below H1.out HW.out) 0).trans rfl
        have f2 : wr.cell? ⟨b2, 0, none⟩ = some (.slice (some ad2) jobs.length c0) := (blk_cell (blk_below H2.out HW.out) 0).trans rfl
        have f3 : wr.cell? ⟨g, 1, none⟩ = some (.int .i64 tick) := (blk_cell (blk_below h71 HW.out) 1).trans rfl
        have HF := Aside0.mk (show Below wr.heap.size wr wr.drew ∧ wr.drew.cell? ⟨b1, 0, none⟩ = some (.func (.func 50) #[] #[.pointer (some ⟨b3, 0, none⟩)]) ∧ wr.drew.cell? ⟨b2, 0, none⟩ = some (.slice (some ad2) jobs.length c0) ∧ wr.drew.cell? ⟨g, 1, none⟩ = some (.int .i64 tick) ∧ wr.drew.cell? (ad2.add (jx.toNat * 3)) = some (.int .i64 (rd_T43 jobs jx).f0) ∧ wr.drew.cell? ⟨(ad2.add (jx.toNat * 3)).block, (ad2.add (jx.toNat * 3)).off + 1, none⟩ = some (.int .i64 (rd_T43 jobs jx).f1) ∧ wr.drew.cell? ⟨(ad2.add (jx.toNat * 3)).block, (ad2.add (jx.toNat * 3)).off + 2, none⟩ = some (.int .i64 (rd_T43 jobs jx).f2) ∧ wr.drew.cell? (ad2.add (bst.toNat * 3)) = some (.int .i64 (rd_T43 jobs bst).f0) ∧ wr.drew.cell? ⟨(ad2.add (bst.toNat * 3)).block, (ad2.add (bst.toNat * 3)).off + 1, none⟩ = some (.int .i64 (rd_T43 jobs bst).f1) ∧ wr.drew.cell? ⟨(ad2.add (bst.toNat * 3)).block, (ad2.add (bst.toNat * 3)).off + 2, none⟩ = some (.int .i64 (rd_T43 jobs bst).f2) from ⟨below_drew1 (Below.refl _ _), f1, f2, f3, pw_cell_below HW.out (pw_cell_below HB.out y0), pw_cell_below HW.out (pw_cell_below HB.out y1), pw_cell_below HW.out (pw_cell_below HB.out y2), pw_cell_below HW.out (pw_cell_below HB.out z0), pw_cell_below HW.out (pw_cell_below HB.out z1), pw_cell_below HW.out (pw_cell_below HB.out z2)⟩)
        have HKP := Aside0.mk (show ∀ w1 w2 : World, Below wr.heap.size wr w1 ∧ w1.cell? ⟨b1, 0, none⟩ = some (.func (.func 50) #[] #[.pointer (some ⟨b3, 0, none⟩)]) ∧ w1.cell? ⟨b2, 0, none⟩ = some (.slice (some ad2) jobs.length c0) ∧ w1.cell? ⟨g, 1, none⟩ = some (.int .i64 tick) ∧ w1.cell? (ad2.add (jx.toNat * 3)) = some (.int .i64 (rd_T43 jobs jx).f0) ∧ w1.cell? ⟨(ad2.add (jx.toNat * 3)).block, (ad2.add (jx.toNat * 3)).off + 1, none⟩ = some (.int .i64 (rd_T43 jobs jx).f1) ∧ w1.cell? ⟨(ad2.add (jx.toNat * 3)).block, (ad2.add (jx.toNat * 3)).off + 2, none⟩ = some (.int .i64 (rd_T43 jobs jx).f2) ∧ w1.cell? (ad2.add (bst.toNat * 3)) = some (.int .i64 (rd_T43 jobs bst).f0) ∧ w1.cell? ⟨(ad2.add (bst.toNat * 3)).block, (ad2.add (bst.toNat * 3)).off + 1, none⟩ = some (.int .i64 (rd_T43 jobs bst).f1) ∧ w1.cell? ⟨(ad2.add (bst.toNat * 3)).block, (ad2.add (bst.toNat * 3)).off + 2, none⟩ = some (.int .i64 (rd_T43 jobs bst).f2) → Below w1.heap.size w1 w2 → Below wr.heap.size wr w2 ∧ w2.cell? ⟨b1, 0, none⟩ = some (.func (.func 50) #[] #[.pointer (some ⟨b3, 0, none⟩)]) ∧ w2.cell? ⟨b2, 0, none⟩ = some (.slice (some ad2) jobs.length c0) ∧ w2.cell? ⟨g, 1, none⟩ = some (.int .i64 tick) ∧ w2.cell? (ad2.add (jx.toNat * 3)) = some (.int .i64 (rd_T43 jobs jx).f0) ∧ w2.cell? ⟨(ad2.add (jx.toNat * 3)).block, (ad2.add (jx.toNat * 3)).off + 1, none⟩ = some (.int .i64 (rd_T43 jobs jx).f1) ∧ w2.cell? ⟨(ad2.add (jx.toNat * 3)).block, (ad2.add (jx.toNat * 3)).off + 2, none⟩ = some (.int .i64 (rd_T43 jobs jx).f2) ∧ w2.cell? (ad2.add (bst.toNat * 3)) = some (.int .i64 (rd_T43 jobs bst).f0) ∧ w2.cell? ⟨(ad2.add (bst.toNat * 3)).block, (ad2.add (bst.toNat * 3)).off + 1, none⟩ = some (.int .i64 (rd_T43 jobs bst).f1) ∧ w2.cell? ⟨(ad2.add (bst.toNat * 3)).block, (ad2.add (bst.toNat * 3)).off + 2, none⟩ = some (.int .i64 (rd_T43 jobs bst).f2) from fun w1 w2 hs hb => ⟨below_step hs.1 hb, pw_cell_below hb hs.2.1, pw_cell_below hb hs.2.2.1, pw_cell_below hb hs.2.2.2.1, pw_cell_below hb hs.2.2.2.2.1, pw_cell_below hb hs.2.2.2.2.2.1, pw_cell_below hb hs.2.2.2.2.2.2.1, pw_cell_below hb hs.2.2.2.2.2.2.2.1, pw_cell_below hb hs.2.2.2.2.2.2.2.2.1, pw_cell_below hb hs.2.2.2.2.2.2.2.2.2⟩)
        have hpj := eq_true hj.1
        have hqj := eq_true hj.2
        have hpb := eq_true hbi.1
        have hqb := eq_true hbi.2
        clear f1 f2 f3 y0 y1 y2 z0 z1 z2 h71 hj hbi cm cb1 cb2 hpm hqm
        go_region_held3 (fun w' => Below wr.heap.size wr w' ∧ w'.cell? ⟨b1, 0, none⟩ = some (.func (.func 50) #[] #[.pointer (some ⟨b3, 0, none⟩)]) ∧ w'.cell? ⟨b2, 0, none⟩ = some (.slice (some ad2) jobs.length c0) ∧ w'.cell? ⟨g, 1, none⟩ = some (.int .i64 tick) ∧ w'.cell? (ad2.add (jx.toNat * 3)) = some (.int .i64 (rd_T43 jobs jx).f0) ∧ w'.cell? ⟨(ad2.add (jx.toNat * 3)).block, (ad2.add (jx.toNat * 3)).off + 1, none⟩ = some (.int .i64 (rd_T43 jobs jx).f1) ∧ w'.cell? ⟨(ad2.add (jx.toNat * 3)).block, (ad2.add (jx.toNat * 3)).off + 2, none⟩ = some (.int .i64 (rd_T43 jobs jx).f2) ∧ w'.cell? (ad2.add (bst.toNat * 3)) = some (.int .i64 (rd_T43 jobs bst).f0) ∧ w'.cell? ⟨(ad2.add (bst.toNat * 3)).block, (ad2.add (bst.toNat * 3)).off + 1, none⟩ = some (.int .i64 (rd_T43 jobs bst).f1) ∧ w'.cell? ⟨(ad2.add (bst.toNat * 3)).block, (ad2.add (bst.toNat * 3)).off + 2, none⟩ = some (.int .i64 (rd_T43 jobs bst).f2)) (first | exact HF.out | exact HKP.out _ _ (by assumption) hbx) ((first | (go_at_call_of 50 ((rd_T43 jobs jx).f0); refine (HOF.out _ (rd_T43 jobs jx) tick ?s1).mono ?_; (case s1 => first | exact below_step HW.out HF.out.1 | exact below_step HW.out (And.left (by assumption))); rintro e w9 ⟨rfl, hbx⟩) | (go_at_call_of 50 ((rd_T43 jobs bst).f0); refine (HOF.out _ (rd_T43 jobs bst) tick ?s1).mono ?_; (case s1 => first | exact below_step HW.out HF.out.1 | exact below_step HW.out (And.left (by assumption))); rintro e w9 ⟨rfl, hbx⟩)))
        all_goals (try go_wp2_with fail)
        all_goals go_meet
        all_goals exact ⟨_, rfl, ⟨rfl⟩, ⟨And.left (by assumption)⟩⟩
      case rest =>
        obtain ⟨b40, rfl, hb40, HC2⟩ := hcut
        have HL2 := Aside0.mk (Kd.C_below HL.out HC2.out)
        have HC3 := Aside0.mk (below_step HW.out HC2.out)
        clear hx1 hj hbi
        cases gk with
        | zero => exact absurd hkm (by omega)
        | succ k1 =>
          by_cases cc : of tick (rd_T43 jobs bst) < of tick (rd_T43 jobs jx)
          · have HN := HNX.out
            rw [if_pos cc] at HN
            have cd : b40 = true := hb40.out.trans (decide_eq_true cc)
            clear hb40
            subst cd
            clear cc HNX
            go_wp2
            go_roundg k1
            case measure => omega
            case rel => exact ⟨m + 1, by omega, by omega, by rw [HN], by have := HC.out.2.1; first | rfl | (rw [wrap_small (by omega) (by omega)]; rfl), HC3, HL2⟩
          · have HN := HNX.out
            rw [if_neg cc] at HN
            have cd : b40 = false := hb40.out.trans (decide_eq_false cc)
            clear hb40
            subst cd
            clear cc HNX
            go_wp2
            go_roundg k1
            case measure => omega
            case rel => exact ⟨m + 1, by omega, by omega, by rw [HN], by have := HC.out.2.1; first | rfl | (rw [wrap_small (by omega) (by omega)]; rfl), HC3, HL2⟩
    · have : m = wl.length := by omega
      subst this
      have cb1 : decide ((wl.length : Int) < (wl.length : Int)) = false := decide_eq_false (by omega)
      have cb2 : decide (wl.length < wl.length) = false := decide_eq_false (by omega)
      clear cm
      go_wp2
      go_ret
      exact ⟨rfl, HW.out⟩
/-! ### greatestBy_a: greatestBy, for one number -/
set_option maxHeartbeats 8000000 in
set_option maxRecDepth 100000 in
theorem greatestBy_a (k b3 : Nat) (jobs : List (S43)) (of : Int → S43 → Int) (r : List Int) (w : World) (A0 : Option Addr) (c0 : Nat) (hjC : Kd.C k43 w A0 jobs.length jobs) (hn : jobs.length ≤ 20) (step : Int) (h3 : w.heap[b3]? = some (.cells #[.int .i64 step] 3 (0, 0)))
    (hof : ∀ (W' : World) (x : S43) (t : Int), Below w.heap.size w W' → Calls Try.prog 50 #[.agg #[.int .i64 x.f0, .int .i64 x.f1, .int .i64 x.f2], .int .i64 t, .pointer (some ⟨b3, 0, none⟩)] W' fun e w' => e = .returned (.int .i64 (of t x)) ∧ Below W'.heap.size W' w')
    (h : startsByL jobs (gChoose of jobs) id k (List.replicate jobs.length (-1)) 0 () = some r) :
    Calls Try.prog 49 #[.slice A0 jobs.length c0, .func (.func 50) #[] #[.pointer (some ⟨b3, 0, none⟩)]] w fun e w' => ∃ v0_ : Value, e = .returned (v0_) ∧ Kd.R (Kd.int .i64) 3 w' w.heap.size (fun _ => True) v0_ r ∧ Below w.heap.size w w' := by
  have hu43 := Try.underlying43
  have hmf : ∀ (fn : Fn) (first cap : Array Value) (w : World), (Instr.makeFunc fn first cap).run Try.prog w = .ok (.func fn first cap) w := fun _ _ _ _ => rfl
  have HJ := Aside0.mk hjC
  have HN := Aside0.mk hn
  have HH := Aside0.mk h
  have HOF := Aside0.mk hof
  have H3 := Aside0.mk h3
  clear hjC hn h hof h3
  go_enter Try.func49, Try.ntmps49
  go_wp2_with (first | ((with_reducible refine gate_dst (N := 2) rfl ?_); refine box_event ?hg (N := 2) ?hd (cs := #[.slice A0 jobs.length c0]) (t := 27) ?hr ?_; (case hd => rfl); (case hg => rfl); (case hr => first | (go_simp; done) | (go_simp; rfl)); intro b2 hg2 w2 hbox hb; have H2 := Aside0.mk hbox; have HB2 := Aside0.mk hb; have HG2 := Aside0.mk hg2; clear hbox hb hg2; have hc2 : w2.cell? ⟨b2, 0, none⟩ = some (.slice A0 jobs.length c0) := (blk_cell H2.out 0).trans rfl) | ((with_reducible refine gate_dst (N := 3) rfl ?_); refine box_event ?hg (N := 3) ?hd (cs := #[.func (.func 50) #[] #[.pointer (some ⟨b3, 0, none⟩)]]) (t := 52) ?hr ?_; (case hd => rfl); (case hg => rfl); (case hr => first | (go_simp; done) | (go_simp; rfl)); intro b1 hg1 w3 hbox hb; have H1 := Aside0.mk hbox; have HB3 := Aside0.mk (below_step HB2.out hb); have HG1 := Aside0.mk hg1; have H22 := Aside0.mk (blk_below H2.out hb); have HSZ := Aside0.mk hb.size; clear hbox hc2 hb hg1 H2; have hc2 : w3.cell? ⟨b2, 0, none⟩ = some (.slice A0 jobs.length c0) := (blk_cell H22.out 0).trans rfl) | ((go_at_call 59; (with_reducible refine (startsBy_gr (fun (W : World) (_ : Unit) => W.heap[b1]? = some (.cells #[.func (.func 50) #[] #[.pointer (some ⟨b3, 0, none⟩)]] 52 (0, 0)) ∧ W.heap[b2]? = some (.cells #[.slice A0 jobs.length c0] 27 (0, 0)) ∧ W.heap[b3]? = some (.cells #[.int .i64 step] 3 (0, 0))) (fun k_ => k_ ≠ b1 ∧ k_ ≠ b2 ∧ k_ ≠ b3) jobs (gChoose of jobs) id b1 b2 w A0 c0 HJ.out HN.out ?p1 ?p2 ?p3 ?p4 ?p5 k () r _ ?sb ?sp ?se HH.out).mono ?_); (case p1 => exact fun W W1 s hp hb => ⟨blk_below hp.1 hb, blk_below hp.2.1 hb, blk_below hp.2.2 hb⟩); (case p2 => exact fun W g tick starts s x hi hp => by obtain ⟨A5, c5, sv5, h5, _⟩ := hi; exact ⟨blk_far hp.1 (ne_blk hp.1 h5 (by decide)) _, blk_far hp.2.1 (ne_blk hp.2.1 h5 (by decide)) _, blk_far hp.2.2 (ne_blk hp.2.2 h5 (by decide)) _⟩); (case p3 => exact fun W r i u s he hp => ⟨blk_far hp.1 (Ne.symm he.1) _, blk_far hp.2.1 (Ne.symm he.2.1) _, blk_far hp.2.2 (Ne.symm he.2.2) _⟩); (case p4 => exact fun k W g starts tick s i s' hi hb hp hl hc => (gr_clo_a k g b1 b2 b3 jobs tick starts i of _ w W A0 c0 hi hb hp.1 hp.2.1 HJ.out (fun W' x t hw => HOF.out W' x t (below_step hb hw)) hc).mono (by rintro e w' ⟨rfl, hb2⟩; exact ⟨rfl, IsM.below hi hb2, below_step hb hb2, ⟨blk_below hp.1 hb2, blk_below hp.2.1 hb2, blk_below hp.2.2 hb2⟩⟩)); (case p5 => exact fun W g starts tick s hi hb hp => (gr_idle W).mono (by rintro e w' ⟨rfl, hb2⟩; exact ⟨rfl, IsM.below hi hb2, below_step hb hb2, ⟨blk_below hp.1 hb2, blk_below hp.2.1 hb2, blk_below hp.2.2 hb2⟩⟩)); (case sb => exact (by repeat (first | exact HB3.out | apply pw_below_drewN | apply below_drew1))); (case sp => exact ⟨H1.out, H22.out, blk_below H3.out HB3.out⟩); (case se => exact fun k_ hk_ => ⟨fun e => absurd (blk_lt H1.out) (by rw [← e]; exact Nat.not_lt.2 hk_), fun e => absurd (blk_lt H22.out) (by rw [← e]; exact Nat.not_lt.2 hk_), fun e => absurd (blk_lt (blk_below H3.out HB3.out)) (by rw [← e]; exact Nat.not_lt.2 hk_)⟩); rintro e w5 ⟨v7, rfl, ho, hb⟩; have HR := Aside0.mk ho; have HBF := Aside0.mk hb; clear ho hb)))
  go_ret
  exact ⟨_, rfl, HR.out, by repeat (first | exact HBF.out | apply pw_below_drewN | apply below_drew1)⟩
/- EXTERN, by hand (wip/hand/threestarts.py). -/
def impl_AgedStarts.f (k : Nat) (l0 : List (S43)) (a1 : Int) : Option (List Int × Bool) := (impl_AreJobs.f k l0).bind fun t => if t = true then (if 1 ≤ a1 ∧ a1 ≤ 100 then (if l0.length ≤ 20 then (startsByL l0 (gChoose (agedOf a1) l0) id k (List.replicate l0.length (-1)) 0 ()).bind fun r => some (r, true) else none) else some ([], false)) else some ([], false)
set_option maxHeartbeats 8000000 in
set_option maxRecDepth 100000 in
theorem impl_AgedStarts.calls (k : Nat) (A0 : Option Addr) (c0 : Nat) (l0 : List (S43)) (a1 : Int) (r1 : List Int) (r2 : Bool) (w : World) (hr0 : Kd.C k43 w A0 l0.length l0) (hc0 : l0.length ≤ c0) (h : impl_AgedStarts.f k l0 a1 = some (r1, r2)) :
    Calls Try.prog 26 #[.slice A0 l0.length c0, .int .i64 a1] w fun e w' => ∃ v0_ : Value, e = .returned (.tuple #[v0_, .bool r2]) ∧ Kd.R (Kd.int .i64) 3 w' w.heap.size (fun _ => True) v0_ r1 ∧ Below w.heap.size w w' := by
  have HR0 := Aside0.mk hr0
  have HC0 := Aside0.mk hc0
  have HB := Aside0.mk (Below.refl w.heap.size w)
  have hmf : ∀ (fn : Fn) (first cap : Array Value) (w : World), (Instr.makeFunc fn first cap).run Try.prog w = .ok (.func fn first cap) w := fun _ _ _ _ => rfl
  clear hr0 hc0
  unfold impl_AgedStarts.f at h
  obtain ⟨b, E1, h⟩ := Option.bind_eq_some_iff.mp h
  have HE1 := Aside0.mk E1
  clear E1
  cases b
  · rw [if_neg (by decide)] at h
    obtain ⟨rfl, rfl⟩ := Prod.mk.inj (Option.some.inj h)
    go_enter Try.func26, Try.ntmps26
    go_wp2_with (first | ((with_reducible refine gate_dst (N := 3) rfl ?_); refine box_event ?hg (N := 3) ?hd (cs := #[.int .i64 a1]) (t := 3) ?hr ?_; (case hd => rfl); (case hg => rfl); (case hr => first | (go_simp; done) | (go_simp; rfl)); intro b3 hg w2 hbox hb; have H3 := Aside0.mk hbox; have HB2 := Aside0.mk (below_step (by repeat (first | exact HB.out | apply pw_below_drewN | apply below_drew1)) hb); clear HB; have HB := HB2; clear HB2 hbox hb hg; have hc3 : w2.cell? ⟨b3, 0, none⟩ = some (.int .i64 a1) := (blk_cell H3.out 0).trans rfl) | (go_at_call 47; (with_reducible refine (impl_AreJobs.calls k _ _ l0 false _ ?s1 ?s2 HE1.out).mono ?_); (case s1 => exact (by first | exact HR0.out | exact Kd.C_below HR0.out (by repeat (first | exact HB.out | apply pw_below_drewN | apply below_drew1)))); (case s2 => exact HC0.out); rintro e w5 ⟨rfl, hb⟩; have HB5 := Aside0.mk (below_step (by repeat (first | exact HB.out | apply pw_below_drewN | apply below_drew1)) hb); have H35 := Aside0.mk (blk_below H3.out hb); clear HB hb hc3 H3; have HB := HB5; have H3 := H35; clear HB5 H35; have hc3 : w5.cell? ⟨b3, 0, none⟩ = some (.int .i64 a1) := (blk_cell H3.out 0).trans rfl) | ((with_reducible refine gate_callee (f := 47) rfl ?_); refine goesL_ (some 7) rfl rfl Try.func47 (by kernel_rfl) rfl #[.slice A0 l0.length c0] rfl (by (try simp only [List.map_toArray, List.map_cons, List.map_nil]); first | done | rfl) ?_; (with_reducible refine (impl_AreJobs.calls k _ _ l0 false _ ?s1 ?s2 HE1.out).mono ?_); (case s1 => exact (by first | exact HR0.out | exact Kd.C_below HR0.out (by repeat (first | exact HB.out | apply pw_below_drewN | apply below_drew1)))); (case s2 => exact HC0.out); rintro e w5 ⟨rfl, hb⟩; have HB5 := Aside0.mk (below_step (by repeat (first | exact HB.out | apply pw_below_drewN | apply below_drew1)) hb); have H35 := Aside0.mk (blk_below H3.out hb); clear HB hb hc3 H3; have HB := HB5; have H3 := H35; clear HB5 H35; have hc3 : w5.cell? ⟨b3, 0, none⟩ = some (.int .i64 a1) := (blk_cell H3.out 0).trans rfl; refine ⟨_, rfl, ?_⟩))
    go_ret2
    exact ⟨_, rfl, Kd.R_nil _ _ _ _ _, (by repeat (first | exact HB.out | apply pw_below_drewN | apply below_drew1))⟩
  · rw [if_pos rfl] at h
    by_cases hg : 1 ≤ a1 ∧ a1 ≤ 100
    case neg =>
      rw [if_neg hg] at h
      obtain ⟨rfl, rfl⟩ := Prod.mk.inj (Option.some.inj h)
      have E5 := Aside0.mk (show impl_within.f a1 1 100 = some false by unfold impl_within.f; exact dite (a1 ≥ 1) (fun c => by rw [if_pos c, decide_eq_false (by omega)]) (fun c => by rw [if_neg c]))
      clear hg
      go_enter Try.func26, Try.ntmps26
      go_wp2_with (first | ((with_reducible refine gate_dst (N := 3) rfl ?_); refine box_event ?hg (N := 3) ?hd (cs := #[.int .i64 a1]) (t := 3) ?hr ?_; (case hd => rfl); (case hg => rfl); (case hr => first | (go_simp; done) | (go_simp; rfl)); intro b3 hg w2 hbox hb; have H3 := Aside0.mk hbox; have HB2 := Aside0.mk (below_step (by repeat (first | exact HB.out | apply pw_below_drewN | apply below_drew1)) hb); clear HB; have HB := HB2; clear HB2 hbox hb hg; have hc3 : w2.cell? ⟨b3, 0, none⟩ = some (.int .i64 a1) := (blk_cell H3.out 0).trans rfl) | (go_at_call 47; (with_reducible refine (impl_AreJobs.calls k _ _ l0 true _ ?s1 ?s2 HE1.out).mono ?_); (case s1 => exact (by first | exact HR0.out | exact Kd.C_below HR0.out (by repeat (first | exact HB.out | apply pw_below_drewN | apply below_drew1)))); (case s2 => exact HC0.out); rintro e w5 ⟨rfl, hb⟩; have HB5 := Aside0.mk (below_step (by repeat (first | exact HB.out | apply pw_below_drewN | apply below_drew1)) hb); have H35 := Aside0.mk (blk_below H3.out hb); clear HB hb hc3 H3; have HB := HB5; have H3 := H35; clear HB5 H35; have hc3 : w5.cell? ⟨b3, 0, none⟩ = some (.int .i64 a1) := (blk_cell H3.out 0).trans rfl) | ((with_reducible refine gate_callee (f := 47) rfl ?_); refine goesL_ (some 7) rfl rfl Try.func47 (by kernel_rfl) rfl #[.slice A0 l0.length c0] rfl (by (try simp only [List.map_toArray, List.map_cons, List.map_nil]); first | done | rfl) ?_; (with_reducible refine (impl_AreJobs.calls k _ _ l0 true _ ?s1 ?s2 HE1.out).mono ?_); (case s1 => exact (by first | exact HR0.out | exact Kd.C_below HR0.out (by repeat (first | exact HB.out | apply pw_below_drewN | apply below_drew1)))); (case s2 => exact HC0.out); rintro e w5 ⟨rfl, hb⟩; have HB5 := Aside0.mk (below_step (by repeat (first | exact HB.out | apply pw_below_drewN | apply below_drew1)) hb); have H35 := Aside0.mk (blk_below H3.out hb); clear HB hb hc3 H3; have HB := HB5; have H3 := H35; clear HB5 H35; have hc3 : w5.cell? ⟨b3, 0, none⟩ = some (.int .i64 a1) := (blk_cell H3.out 0).trans rfl; refine ⟨_, rfl, ?_⟩) | (go_at_call 48; (with_reducible refine (impl_within.calls a1 1 100 false _ E5.out).mono ?_); rintro e w7 ⟨rfl, ⟨nd, rfl⟩⟩) | ((with_reducible refine gate_callee (f := 48) rfl ?_); refine goesL_ (some 11) rfl rfl Try.func48 (by kernel_rfl) rfl #[.int .i64 a1, .int .i64 1, .int .i64 100] rfl (by (try simp only [List.map_toArray, List.map_cons, List.map_nil]); first | done | rfl) ?_; (with_reducible refine (impl_within.calls a1 1 100 false _ E5.out).mono ?_); rintro e w7 ⟨rfl, ⟨nd, rfl⟩⟩; refine ⟨_, rfl, ?_⟩))
      go_ret2
      exact ⟨_, rfl, Kd.R_nil _ _ _ _ _, (by repeat (first | exact HB.out | apply pw_below_drewN | apply below_drew1))⟩
    rw [if_pos hg] at h
    have E5 := Aside0.mk (show impl_within.f a1 1 100 = some true by unfold impl_within.f; rw [if_pos (by omega), decide_eq_true hg.2])
    have HG := Aside0.mk hg
    clear hg
    by_cases hn : l0.length ≤ 20
    case neg => rw [if_neg hn] at h; cases h
    rw [if_pos hn] at h
    obtain ⟨r, E2, h⟩ := Option.bind_eq_some_iff.mp h
    have HE2 := Aside0.mk E2
    have HN := Aside0.mk hn
    clear E2 hn
    obtain ⟨rfl, rfl⟩ := Prod.mk.inj (Option.some.inj h)
    go_enter Try.func26, Try.ntmps26
    go_wp2_with (first | ((with_reducible refine gate_dst (N := 3) rfl ?_); refine box_event ?hg (N := 3) ?hd (cs := #[.int .i64 a1]) (t := 3) ?hr ?_; (case hd => rfl); (case hg => rfl); (case hr => first | (go_simp; done) | (go_simp; rfl)); intro b3 hg w2 hbox hb; have H3 := Aside0.mk hbox; have HB2 := Aside0.mk (below_step (by repeat (first | exact HB.out | apply pw_below_drewN | apply below_drew1)) hb); clear HB; have HB := HB2; clear HB2 hbox hb hg; have hc3 : w2.cell? ⟨b3, 0, none⟩ = some (.int .i64 a1) := (blk_cell H3.out 0).trans rfl) | (go_at_call 47; (with_reducible refine (impl_AreJobs.calls k _ _ l0 true _ ?s1 ?s2 HE1.out).mono ?_); (case s1 => exact (by first | exact HR0.out | exact Kd.C_below HR0.out (by repeat (first | exact HB.out | apply pw_below_drewN | apply below_drew1)))); (case s2 => exact HC0.out); rintro e w5 ⟨rfl, hb⟩; have HB5 := Aside0.mk (below_step (by repeat (first | exact HB.out | apply pw_below_drewN | apply below_drew1)) hb); have H35 := Aside0.mk (blk_below H3.out hb); clear HB hb hc3 H3; have HB := HB5; have H3 := H35; clear HB5 H35; have hc3 : w5.cell? ⟨b3, 0, none⟩ = some (.int .i64 a1) := (blk_cell H3.out 0).trans rfl) | ((with_reducible refine gate_callee (f := 47) rfl ?_); refine goesL_ (some 7) rfl rfl Try.func47 (by kernel_rfl) rfl #[.slice A0 l0.length c0] rfl (by (try simp only [List.map_toArray, List.map_cons, List.map_nil]); first | done | rfl) ?_; (with_reducible refine (impl_AreJobs.calls k _ _ l0 true _ ?s1 ?s2 HE1.out).mono ?_); (case s1 => exact (by first | exact HR0.out | exact Kd.C_below HR0.out (by repeat (first | exact HB.out | apply pw_below_drewN | apply below_drew1)))); (case s2 => exact HC0.out); rintro e w5 ⟨rfl, hb⟩; have HB5 := Aside0.mk (below_step (by repeat (first | exact HB.out | apply pw_below_drewN | apply below_drew1)) hb); have H35 := Aside0.mk (blk_below H3.out hb); clear HB hb hc3 H3; have HB := HB5; have H3 := H35; clear HB5 H35; have hc3 : w5.cell? ⟨b3, 0, none⟩ = some (.int .i64 a1) := (blk_cell H3.out 0).trans rfl; refine ⟨_, rfl, ?_⟩) | (go_at_call 48; (with_reducible refine (impl_within.calls a1 1 100 true _ E5.out).mono ?_); rintro e w7 ⟨rfl, ⟨nd, rfl⟩⟩) | ((with_reducible refine gate_callee (f := 48) rfl ?_); refine goesL_ (some 11) rfl rfl Try.func48 (by kernel_rfl) rfl #[.int .i64 a1, .int .i64 1, .int .i64 100] rfl (by (try simp only [List.map_toArray, List.map_cons, List.map_nil]); first | done | rfl) ?_; (with_reducible refine (impl_within.calls a1 1 100 true _ E5.out).mono ?_); rintro e w7 ⟨rfl, ⟨nd, rfl⟩⟩; refine ⟨_, rfl, ?_⟩) | (go_at_call 49; (with_reducible refine (greatestBy_a k b3 l0 (agedOf a1) r _ A0 c0 (by first | exact HR0.out | exact Kd.C_below HR0.out (by repeat (first | exact HB.out | apply pw_below_drewN | apply below_drew1))) HN.out a1 ?s3 ?s2 HE2.out).mono ?_); (case s3 => exact H3.out); (case s2 => exact fun W x t hb => (aged1_calls b3 a1 t x W (blk_below (by exact H3.out) hb) HG.out.1 HG.out.2)); rintro e w6 ⟨v8, rfl, ho, hb⟩; have HR := Aside0.mk (Kd.R_lower ho (below_size (by repeat (first | exact HB.out | apply pw_below_drewN | apply below_drew1)))); have HBF := Aside0.mk (below_step (by repeat (first | exact HB.out | apply pw_below_drewN | apply below_drew1)) hb); clear ho hb) | ((with_reducible refine gate_callee (f := 49) rfl ?_); refine goesL_ (some 16) rfl rfl Try.func49 (by kernel_rfl) rfl #[.slice A0 l0.length c0, .func (.func 50) #[] #[.pointer (some ⟨b3, 0, none⟩)]] rfl (by (try simp only [List.map_toArray, List.map_cons, List.map_nil]); first | done | rfl) ?_; (with_reducible refine (greatestBy_a k b3 l0 (agedOf a1) r _ A0 c0 (by first | exact HR0.out | exact Kd.C_below HR0.out (by repeat (first | exact HB.out | apply pw_below_drewN | apply below_drew1))) HN.out a1 ?s3 ?s2 HE2.out).mono ?_); (case s3 => exact H3.out); (case s2 => exact fun W x t hb => (aged1_calls b3 a1 t x W (blk_below (by exact H3.out) hb) HG.out.1 HG.out.2)); rintro e w6 ⟨v8, rfl, ho, hb⟩; have HR := Aside0.mk (Kd.R_lower ho (below_size (by repeat (first | exact HB.out | apply pw_below_drewN | apply below_drew1)))); have HBF := Aside0.mk (below_step (by repeat (first | exact HB.out | apply pw_below_drewN | apply below_drew1)) hb); clear ho hb; refine ⟨_, rfl, ?_⟩))
    go_ret2
    exact ⟨_, rfl, HR.out, by repeat (first | exact HBF.out | apply pw_below_drewN | apply below_drew1)⟩

end Go.Proofs.Ytkkgnjdepgmjlaa.X
