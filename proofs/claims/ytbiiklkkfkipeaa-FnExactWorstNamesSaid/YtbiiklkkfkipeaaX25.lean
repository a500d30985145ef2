/- What the functions of the program come to, and that they do: written by this session's program wip/xprint.py out of the translation; parts named extern are typed by hand. -/
import Derived.Test.YtbiiklkkfkipeaaX0
import Derived.Test.YtbiiklkkfkipeaaX1
import Derived.Test.YtbiiklkkfkipeaaX6
import Derived.Test.YtbiiklkkfkipeaaX16
import Derived.Test.YtbiiklkkfkipeaaX20
import Derived.Test.YtbiiklkkfkipeaaX24
namespace Go.Proofs.Ytbiiklkkfkipeaa.X
open Go.RowKit Go.Proofs.YtbiiklkkfkipeaaW.PrintWords Go.Proofs.YtbiiklkkfkipeaaW.PrintLast Go.Proofs.YtbiiklkkfkipeaaW.PrintMore
attribute [local go_sem] max2_int min2_int max_two min_two max_three min_three max_four min_four   -- for this text's walks alone
set_option linter.unusedVariables false
set_option linter.unusedSimpArgs false

/-! ### impl_bestNames: function 64 -/
/- EXTERN, by hand (wip/hand/best.py): bestNames over orders with its closure. -/
/-- A slice without room, and one element more: a row of its own. -/
def appFull.f (l : List Int) (x : Int) : Option (List Int) := if l.length < 17592186044416 then some (l ++ [x]) else none
theorem appFull.open {l r : List Int} {x : Int} (h : appFull.f l x = some r) : l.length < 17592186044416 ∧ l ++ [x] = r := by
  unfold appFull.f at h
  by_cases h1 : l.length < 17592186044416
  · rw [if_pos h1] at h
    exact ⟨h1, Option.some.inj h⟩
  · rw [if_neg h1] at h
    cases h
theorem R_append_full {P : Program} {w0 W : World} {ops : Array Oper} {rest : List Oper} {o : Oper} {a : Act} {Q : Exit → Act → World → Prop} (base e : Nat) (hgd : o.guard = none) (s x : Operand) (t : TypeId)
    (ho : o.op = .call { callee := .builtin .append, args := #[s, x], argTypes := #[t, t] }) (ht : P.underlying t = some (.slice e)) (hinfo : (P.info? e).map (fun i => (i.zero, i.size, i.bytes)) = some (some (.int .i64 0), 1, 8))
    (A : Option Addr) (xs : List Int) (y : Int) (hs : a.eval s = .slice A xs.length xs.length) (hx : a.eval x = .slice (some ⟨W.heap.size, 0, none⟩) 1 1) (HR : (Kd.int .i64).C W A xs.length xs) (hA : A = none → xs = []) (HB : Below base w0 W) (hbase : base ≤ W.heap.size) (hl : xs.length < 17592186044416)
    (h : ∀ v1 w1, (Kd.int .i64).R e w1 W.heap.size (fun _ => True) v1 (xs ++ [y]) → Below base w0 w1 → Below W.heap.size W w1 → wpList P ops Q rest (a.put o.dst v1) w1) : wpList P ops Q (o :: rest) a (W.alloc (.cells #[.int .i64 y] e)) := by
  obtain ⟨i0, hi, hzz⟩ := Option.map_eq_some_iff.1 hinfo
  simp only [Prod.mk.injEq] at hzz
  obtain ⟨hz0, hz1, hz2⟩ := hzz
  have hC := Kd.C_below HR (Below.alloc (Below.refl W.heap.size W) (Nat.le_refl _) (.cells #[.int .i64 y] e))
  refine wpList_append_grows (W.alloc (.cells #[.int .i64 y] e)) hgd s x t ho e i0 (.int .i64 0) 1 8 ht hi hz0 hz1 hz2 rfl (by omega) A xs.length xs.length (nums .i64 xs) hs (fun hn => by rw [hA hn]; exact ⟨rfl, rfl⟩) (by rw [nums_length, Nat.mul_one])
    (fun b hb j u hu => by
      have hj : j < xs.length := by
        rcases Nat.lt_or_ge j xs.length with h | h
        · exact h
        · simp [nums, List.getElem?_eq_none h] at hu
      obtain ⟨ad', e', hc⟩ := Kd.at_int hC (j : Int) (by omega) (by omega)
      rw [hb] at e'
      cases e'
      rw [Int.toNat_natCast] at hc
      rw [hc]
      simp [nums, List.getElem?_eq_getElem hj] at hu
      rw [← hu]
      simp [rd, List.getD_eq_getElem?_getD, List.getElem?_eq_getElem hj])
    ⟨W.heap.size, 0, none⟩ 1 1 [.int .i64 y] hx rfl (World.news_of_block (cs := #[.int .i64 y]) (t := e) (fr := (0, 0)) (heap_alloc_new W _)) (by simp [Value.oneCell']) (by omega) (by simp only [maxLen]; omega) (by omega) ?_
  intro v' w' hown hg
  have hown' : w'.ownsRow (W.alloc (.cells #[.int .i64 y] e)).heap.size e 1 v' (xs ++ [y]).length (encs (Value.int .i64) (xs ++ [y])) := by
    have e1 : (xs ++ [y]).length = xs.length + 1 := by simp
    have e2 : encs (Value.int .i64) (xs ++ [y]) = nums .i64 xs ++ [.int .i64 y] := by simp [encs, nums]
    rw [e1, e2]
    exact hown
  have hsz : W.heap.size ≤ (W.alloc (.cells #[.int .i64 y] e)).heap.size := by simp
  have hbW : Below W.heap.size W w' := (Below.alloc (Below.refl W.heap.size W) (Nat.le_refl _) (.cells #[.int .i64 y] e)).grown hg hsz (by intro k hk; cases hk)
  exact h v' w' (Kd.R_lower (Kd.R_of_own (h1 := fun _ => rfl) hown' (fun _ _ => trivial)) hsz) (below_then HB hbase hbW) hbW
theorem row_ne {e : Nat} {W w1 : World} {ok : Nat → Prop} {v : Value} {xs : List Int} (h : (Kd.int .i64).R e w1 W.heap.size ok v xs) {g : Nat} (hg : g < W.heap.size) : some g ≠ v.ownBlock := by
  obtain ⟨inner, ho⟩ := Kd.R_own h
  intro e_
  have := own_base ho g e_.symm
  omega
theorem cut_full {P : Program} (t e : TypeId) (ht : P.underlying t = some (.slice e)) (hinfo : (P.info? e).map (fun i => (i.zero, i.size, i.bytes)) = some (some (.int .i64 0), 1, 8)) (A : Option Addr) (n c : Nat) (hc : n ≤ c) (W : World) :
    (Instr.slice t (.slice A n c) none (some (.int .i64 (n : Int))) (some (.int .i64 (n : Int)))).run P W = .ok (.slice A n n) W := by
  obtain ⟨i0, hi, hzz⟩ := Option.map_eq_some_iff.1 hinfo
  simp only [Prod.mk.injEq] at hzz
  have hel : P.elem t = e := by simp [Program.elem, ht]
  have ha : (A.map fun x => x.add 0) = A := by cases A <;> simp [Addr.add]
  simp [Instr.slice, run_underlying ht, Instr.sliceBounds, run_sliceBound, sizeOf, typeInfo, hi, Result.andThen, ha, hc]
/-- What the closure keeps: the sign, the best order, its number. -/
def IsB (w0 W : World) (gs gb gm : Nat) (sign : Int) (bv : Value) (bl : List Int) (most : Int) : Prop :=
  W.heap[gs]? = some (.cells #[.int .i64 sign] 3 (0, 0)) ∧ W.heap[gb]? = some (.cells #[bv] 25 (0, 0)) ∧ W.heap[gm]? = some (.cells #[.int .i64 most] 3 (0, 0)) ∧ w0.heap.size ≤ gb ∧ w0.heap.size ≤ gm ∧ gs ≠ gm ∧ Kd.R (Kd.int .i64) 3 W w0.heap.size (fun k_ => k_ ≠ gb ∧ k_ ≠ gm) bv bl ∧ (bl.length = 0 → bv = .slice none 0 0)
theorem IsB.below {w0 W w1 : World} {gs gb gm : Nat} {sign most : Int} {bv : Value} {bl : List Int} (h : IsB w0 W gs gb gm sign bv bl most) (hb : Below W.heap.size W w1) : IsB w0 w1 gs gb gm sign bv bl most := by
  obtain ⟨h1, h2, h3, h4, h5, h6, h7, h8⟩ := h
  exact ⟨blk_below h1 hb, blk_below h2 hb, blk_below h3 hb, h4, h5, h6, Kd.R_below h7 hb, h8⟩
theorem IsB.drewN {w0 W : World} {gs gb gm : Nat} {sign most : Int} {bv : Value} {bl : List Int} (h : IsB w0 W gs gb gm sign bv bl most) (n : Nat) : IsB w0 (W.drewN n) gs gb gm sign bv bl most := h
theorem IsB.put {w0 W : World} {gs gb gm : Nat} {sign most : Int} {bv ov : Value} {bl l : List Int} (h : IsB w0 W gs gb gm sign bv bl most) (hO : Kd.R (Kd.int .i64) 3 W w0.heap.size (fun k_ => k_ ≠ gb ∧ k_ ≠ gm) ov l) (hl : 0 < l.length) (v : Int) :
    IsB w0 ((W.setCell ⟨gb, 0, none⟩ ov).setCell ⟨gm, 0, none⟩ (.int .i64 v)) gs gb gm sign ov l v := by
  obtain ⟨h1, h2, h3, h4, h5, h6, h7, h8⟩ := h
  have n1 : gs ≠ gb := blk_ne h1 h2 (by decide)
  have n2 : gm ≠ gb := blk_ne h3 h2 (by decide)
  refine ⟨blk_far (blk_far h1 n1 _) h6 _, blk_far (blk_put h2 0 ov rfl) (Ne.symm n2) _, blk_put (blk_far h3 n2 _) 0 _ rfl, h4, h5, h6, ?_, fun e => absurd e (by omega)⟩
  exact Kd.R_far (p := ⟨gm, 0, none⟩) (Kd.R_far (p := ⟨gb, 0, none⟩) hO (fun _ hk => hk.1) _) (fun _ hk => hk.2) _
theorem below_put {w0 W : World} {gb gm : Nat} (hB : Below w0.heap.size w0 W) (h1 : w0.heap.size ≤ gb) (h2 : w0.heap.size ≤ gm) (x y : Value) : Below w0.heap.size w0 ((W.setCell ⟨gb, 0, none⟩ x).setCell ⟨gm, 0, none⟩ y) := below_set (below_set hB h1) h2
theorem kept_put {w W : World} {gb gm : Nat} (hB : Below w.heap.size w W) (x y : Value) : Kept w ((W.setCell ⟨gb, 0, none⟩ x).setCell ⟨gm, 0, none⟩ y) (fun k_ => k_ = gb ∨ k_ = gm) :=
  Kept.setCell (p := ⟨gm, 0, none⟩) (Kept.setCell (p := ⟨gb, 0, none⟩) (Kept.of_below hB _) (.inl (.inl rfl)) x) (.inl (.inr rfl)) y
/-- What the closure makes of an order. -/
def bestStep.f (k : Nat) (sign : Int) (l bl : List Int) (most : Int) : Option (List Int × Int) := (impl_passedOn.f k l).bind fun p => (impl_sumOf.f k p).bind fun s => if (bl.length : Int) = 0 then some (l, wrap64 (sign * s)) else if wrap64 (sign * s) > most then some (l, wrap64 (sign * s)) else some (bl, most)
mutual
def impl_ordersB.l0 : Nat → Int → Int → List Int → Int → Int → List Int → Int → Option (List Int × Int)
  | 0, _, _, _, _, _, _, _ => none
  | k + 1, sign, n, x1, x14, x15, bl, most => if x15 < x14 then ((slices_Contains_int_int.f k x1 x15).bind fun t20 => if t20 = true then impl_ordersB.l0 k sign n x1 x14 (wrap64 (x15 + 1)) bl most else ((appFull.f x1 x15).bind fun t31 => ((impl_ordersB.f k sign n t31 bl most).bind fun t33 => impl_ordersB.l0 k sign n x1 x14 (wrap64 (x15 + 1)) t33.1 t33.2))) else some (bl, most)
def impl_ordersB.f : Nat → Int → Int → List Int → List Int → Int → Option (List Int × Int)
  | 0, _, _, _, _, _ => none
  | k + 1, sign, n, l1, bl, most => if (l1.length : Int) = n then bestStep.f k sign l1 bl most else impl_ordersB.l0 k sign n l1 n 0 bl most
end
theorem bestStep.mono : ∀ a0 a1 a2 a3 k, LeO (bestStep.f k a0 a1 a2 a3) (bestStep.f (k + 1) a0 a1 a2 a3) := by
  intro a0 a1 a2 a3 k
  unfold bestStep.f
  refine LeO.bind (impl_passedOn.mono _ _) (fun _ => ?_)
  refine LeO.bind (impl_sumOf.mono _ _) (fun _ => ?_)
  exact LeO.refl _
theorem impl_ordersB.mono_l : ∀ k, (∀ y0 y1 y2 y3 y4 y5 y6, LeO (impl_ordersB.l0 k y0 y1 y2 y3 y4 y5 y6) (impl_ordersB.l0 (k + 1) y0 y1 y2 y3 y4 y5 y6)) ∧ (∀ y0 y1 y2 y3 y4, LeO (impl_ordersB.f k y0 y1 y2 y3 y4) (impl_ordersB.f (k + 1) y0 y1 y2 y3 y4))
  | 0 => ⟨fun _ _ _ _ _ _ _ r h => by simp [impl_ordersB.l0] at h, fun _ _ _ _ _ r h => by simp [impl_ordersB.f] at h⟩
  | k + 1 => by
    obtain ⟨ih0, ih1⟩ := impl_ordersB.mono_l k
    refine ⟨?_, ?_⟩
    · intro y0 y1 y2 y3 y4 y5 y6
      unfold impl_ordersB.l0
      refine LeO.ite ?_ (LeO.refl _)
      refine LeO.bind (slices_Contains_int_int.mono _ _ _) (fun _ => ?_)
      refine LeO.ite (ih0 _ _ _ _ _ _ _) ?_
      refine LeO.bind (LeO.refl _) (fun _ => ?_)
      exact LeO.bind (ih1 _ _ _ _ _) (fun _ => ih0 _ _ _ _ _ _ _)
    · intro y0 y1 y2 y3 y4
      unfold impl_ordersB.f
      exact LeO.ite (bestStep.mono _ _ _ _ _) (ih0 _ _ _ _ _ _ _)
set_option maxHeartbeats 8000000 in
set_option maxRecDepth 100000 in
theorem best_clo (k : Nat) (A : Option Addr) (c : Nat) (l : List Int) (gs gb gm : Nat) (sign most most' : Int) (bv : Value) (bl bl' : List Int) (w0 w : World) (hI : IsB w0 w gs gb gm sign bv bl most) (hB : Below w0.heap.size w0 w)
    (hO : Kd.R (Kd.int .i64) 3 w w0.heap.size (fun k_ => k_ ≠ gb ∧ k_ ≠ gm) (.slice A l.length c) l) (hl : 0 < l.length) (h : bestStep.f k sign l bl most = some (bl', most')) :
    Calls Try.prog 80 #[.slice A l.length c, .pointer (some ⟨gs, 0, none⟩), .pointer (some ⟨gb, 0, none⟩), .pointer (some ⟨gm, 0, none⟩)] w fun e w' => e = .returned (.tuple #[]) ∧ (∃ bv', IsB w0 w' gs gb gm sign bv' bl' most') ∧ Below w0.heap.size w0 w' ∧ Kept w w' (fun k_ => k_ = gb ∨ k_ = gm) := by
  unfold bestStep.f at h
  replace h := Option.bind_eq_some_iff.mp h
  obtain ⟨p, E1, h⟩ := h
  replace h := Option.bind_eq_some_iff.mp h
  obtain ⟨s, E2, h⟩ := h
  obtain ⟨v, hv⟩ : ∃ v, wrap64 (sign * s) = v := ⟨_, rfl⟩
  rw [hv] at h
  have HV := Aside0.mk hv
  have HE1 := Aside0.mk E1
  have HE2 := Aside0.mk E2
  have HH := Aside0.mk h
  have HI := Aside0.mk hI
  have HO := Aside0.mk hO
  have HBB := Aside0.mk hB
  have HL := Aside0.mk hl
  clear hv E1 E2 h hI hO hB hl
  have hcs : w.cell? ⟨gs, 0, none⟩ = some (.int .i64 sign) := (blk_cell HI.out.1 0).trans rfl
  go_enter Try.func80, Try.ntmps80
  go_upto_region 1 with (fail)
  go_cut [5] (fun v5 wc => v5 = .int .i64 v ∧ Aside0 (Below w.heap.size w wc))
  case first =>
    go_region_with (first | (go_at_call 60; (with_reducible refine (impl_passedOn.calls k _ _ l p _ ?s1 ?s2 HE1.out).mono ?_); (case s1 => repeat (first | exact (Kd.R_reads' HO.out).2.2 | (with_reducible refine Kd.C_alloc ?_ _) | (with_reducible refine Kd.C_drewN ?_ _) | (with_reducible refine Kd.C_drew ?_))); (case s2 => exact (Kd.R_reads' HO.out).2.1); rintro e w1 ⟨vp, rfl, ho0, hb⟩; have HP := Aside0.mk ho0; have HBW := Aside0.mk (below_step (show Below w.heap.size w _ from (by repeat (first | (with_reducible exact Below.refl _ _) | apply pw_below_drewN | apply below_drew1))) hb); have hcs1 : w1.cell? ⟨gs, 0, none⟩ = some (.int .i64 sign) := (blk_cell (blk_below HI.out.1 HBW.out) 0).trans rfl; obtain ⟨Ap, cp, ep⟩ := Kd.R_slice HP.out; subst ep; clear ho0 hb) | (go_at_call 62; (with_reducible refine (impl_sumOf.calls k _ _ p s _ ?s1 ?s2 HE2.out).mono ?_); (case s1 => repeat (first | exact (Kd.R_reads' HP.out).2.2 | (with_reducible refine Kd.C_alloc ?_ _) | (with_reducible refine Kd.C_drewN ?_ _) | (with_reducible refine Kd.C_drew ?_))); (case s2 => exact (Kd.R_reads' HP.out).2.1); rintro e w2 ⟨rfl, ⟨nd, rfl⟩⟩))
    all_goals (try go_wp2_with fail)
    all_goals go_meet
    all_goals exact ⟨by rw [← HV.out]; simp [IntKind.wrap_i64, wrap64], ⟨by repeat (first | exact HBW.out | apply pw_below_drewN | apply below_drew1)⟩⟩
  case rest =>
    clear hcs
    obtain ⟨rfl, HC⟩ := hcut
    have HJ := Aside0.mk (HI.out.below HC.out)
    have HQ := Aside0.mk (Kd.R_below HO.out HC.out)
    have HBC := Aside0.mk (below_step HBB.out HC.out)
    have hcb : wc.cell? ⟨gb, 0, none⟩ = some bv := (blk_cell HJ.out.2.1 0).trans rfl
    have hcm : wc.cell? ⟨gm, 0, none⟩ = some (.int .i64 most) := (blk_cell HJ.out.2.2.1 0).trans rfl
    have hfb := blk_frozen HJ.out.2.1 0
    have hfm := blk_frozen HJ.out.2.2.1 0
    have hnbm : gb ≠ gm := blk_ne HJ.out.2.1 HJ.out.2.2.1 (by decide)
    have hnmb : gm ≠ gb := Ne.symm hnbm
    have h := HH.out
    by_cases h0 : (bl.length : Int) = 0
    · rw [if_pos h0] at h
      obtain ⟨rfl, rfl⟩ := Prod.mk.inj (Option.some.inj h)
      have hbv := HJ.out.2.2.2.2.2.2.2 (by omega)
      have HPUT := Aside0.mk (HJ.out.put HQ.out HL.out v)
      have HBP := Aside0.mk (below_put HBC.out HJ.out.2.2.2.1 HJ.out.2.2.2.2.1 (.slice A l.length c) (.int .i64 v))
      have HKP := Aside0.mk (kept_put (gb := gb) (gm := gm) HC.out (.slice A l.length c) (.int .i64 v))
      subst hbv
      have hq : ∀ W : World, (binOp .eql 25 (.slice none 0 0) (.slice none 0 0)).run Try.prog W = .ok (.bool true) W := fun W => Lib.run_eql_slice_nil W 25 3 none 0 0 0 0 Try.underlying25
      clear h h0 HH
      go_wp2
      first | go_end0 | ((try simp only [Exit.inBlock, Exit.then]); refine bodyPost_ret (results_none rfl _ _ _) rfl ?_)
      exact ⟨rfl, ⟨_, HPUT.out⟩, HBP.out, HKP.out⟩
    · rw [if_neg h0] at h
      obtain ⟨gr, cr, er, _, _, _⟩ := Kd.R_form HJ.out.2.2.2.2.2.2.1 (by omega)
      subst er
      have hq : ∀ W : World, (binOp .eql 25 (.slice (some ⟨gr, 0, none⟩) bl.length cr) (.slice none 0 0)).run Try.prog W = .ok (.bool false) W := fun W => Lib.run_eql_slice_nil W 25 3 (some ⟨gr, 0, none⟩) bl.length cr 0 0 Try.underlying25
      by_cases h1 : v > most
      · rw [if_pos h1] at h
        obtain ⟨rfl, rfl⟩ := Prod.mk.inj (Option.some.inj h)
        have HPUT := Aside0.mk (HJ.out.put HQ.out HL.out v)
        have HBP := Aside0.mk (below_put HBC.out HJ.out.2.2.2.1 HJ.out.2.2.2.2.1 (.slice A l.length c) (.int .i64 v))
        have HKP := Aside0.mk (kept_put (gb := gb) (gm := gm) HC.out (.slice A l.length c) (.int .i64 v))
        have ht : decide (most < v) = true := decide_eq_true h1
        clear h h0 h1 HH
        go_wp2
        first | go_end0 | ((try simp only [Exit.inBlock, Exit.then]); refine bodyPost_ret (results_none rfl _ _ _) rfl ?_)
        exact ⟨rfl, ⟨_, HPUT.out⟩, HBP.out, HKP.out⟩
      · rw [if_neg h1] at h
        obtain ⟨rfl, rfl⟩ := Prod.mk.inj (Option.some.inj h)
        have ht : decide (most < v) = false := decide_eq_false h1
        clear h h0 h1 HH
        go_wp2
        first | go_end0 | ((try simp only [Exit.inBlock, Exit.then]); refine bodyPost_ret (results_none rfl _ _ _) rfl ?_)
        exact ⟨rfl, ⟨_, HJ.out⟩, HBC.out, Kept.of_below HC.out _⟩
theorem slice_form {W : World} {e base : Nat} {ok : Nat → Prop} {v : Value} {xs : List Int} (h : Kd.R (Kd.int .i64) e W base ok v xs) : v = .slice none 0 0 ∨ ∃ g_ n_ c_, v = .slice (some ⟨g_, 0, none⟩) n_ c_ := by
  obtain ⟨_, inner, ho, _⟩ := h
  rcases ho.2 with ⟨rfl, _⟩ | ⟨g, cap, cur, rfl, _⟩
  · exact .inl rfl
  · exact .inr ⟨g, _, _, rfl⟩
set_option maxHeartbeats 8000000 in
set_option maxRecDepth 100000 in
theorem impl_ordersB.calls (k : Nat) : ∀ (n : Int) (ov : Value) (l : List Int) (gs gb gm : Nat) (sign most most' : Int) (bv : Value) (bl bl' : List Int) (w0 w : World) (_hI : IsB w0 w gs gb gm sign bv bl most) (_hB : Below w0.heap.size w0 w)
    (_hO : Kd.R (Kd.int .i64) 3 w w0.heap.size (fun k_ => k_ ≠ gb ∧ k_ ≠ gm) ov l) (_hO0 : ov = .slice none 0 0 ∨ ∃ g_ n_ c_, ov = .slice (some ⟨g_, 0, none⟩) n_ c_) (_hn : 0 < n) (_h : impl_ordersB.f k sign n l bl most = some (bl', most')),
    Calls Try.prog 79 #[.int .i64 n, ov, .func (.func 80) #[] #[.pointer (some ⟨gs, 0, none⟩), .pointer (some ⟨gb, 0, none⟩), .pointer (some ⟨gm, 0, none⟩)]] w fun e w' => e = .returned (.tuple #[]) ∧ (∃ bv', IsB w0 w' gs gb gm sign bv' bl' most') ∧ Below w0.heap.size w0 w' ∧ Kept w w' (fun k_ => k_ = gb ∨ k_ = gm) := by
  induction k using Nat.strongRecOn with
  | _ k ih =>
  intro n ov l gs gb gm sign most most' bv bl bl' w0 w hI hB hO hO0 hn h
  cases k with
  | zero => exact absurd h (by simp [impl_ordersB.f])
  | succ k =>
  simp only [impl_ordersB.f] at h
  have HI := Aside0.mk hI
  have HO := Aside0.mk hO
  have HB := Aside0.mk hB
  have HK := Aside0.mk (Kept.refl w (fun k_ => k_ = gb ∨ k_ = gm))
  have HN := Aside0.mk hn
  obtain ⟨A, c, eo⟩ := Kd.R_slice hO
  subst eo
  have HA := Aside0.mk (show A = none → l = [] from fun e_ => by
    rcases Nat.eq_zero_or_pos l.length with h0 | h0
    · exact List.eq_nil_of_length_eq_zero h0
    · obtain ⟨ad_, e2_, _⟩ := (Kd.R_reads' hO).2.2.2.2 h0
      rw [e_] at e2_
      cases e2_)
  have HC := Aside0.mk (Kd.R_reads' hO).2.1
  clear hI hO hB hn hO0
  by_cases c5 : (l.length : Int) = n
  · rw [if_pos c5] at h
    have H' := Aside0.mk h
    have HL := Aside0.mk (show 0 < l.length from by have := HN.out; omega)
    have c5b0 : ((l.length : Int) == n) = true := beq_iff_eq.mpr c5
    have c5b1 : ((l.length : Int) != n) = false := bne_eq_false_iff_eq.mpr c5
    clear c5 h
    go_enter Try.func79, Try.ntmps79
    go_wp2_with (go_at_call 80; (with_reducible refine (best_clo k _ _ l gs gb gm sign most most' bv bl bl' w0 _ ?s1 ?s2 ?s3 HL.out H'.out).mono ?_); (case s1 => exact HI.out); (case s2 => exact (by repeat (first | (with_reducible first | exact HB.out | apply below_alloc | apply pw_below_drewN | apply below_drew1) | exact HB.out))); (case s3 => exact HO.out); rintro e w7 ⟨rfl, hi, hb, hk⟩; have HI2 := Aside0.mk hi; have HB2 := Aside0.mk hb; have HK2 := Aside0.mk hk; clear hi hb hk)
    first | go_end0 | ((try simp only [Exit.inBlock, Exit.then]); refine bodyPost_ret (results_none rfl _ _ _) rfl ?_)
    exact ⟨rfl, HI2.out, HB2.out, HK2.out⟩
  · rw [if_neg c5] at h
    have H' := Aside0.mk h
    have c5b0 : ((l.length : Int) == n) = false := beq_eq_false_iff_ne.mpr c5
    have c5b1 : ((l.length : Int) != n) = true := bne_iff_ne.mpr c5
    clear c5 h
    go_enter Try.func79, Try.ntmps79
    go_wp2
    go_loopg [15] k (fun kq v15 w' => ∃ (x15 : Int) (bv1 : Value) (bl1 : List Int) (m1 : Int), v15 = .int .i64 x15 ∧ Aside0 (impl_ordersB.l0 kq sign n l n x15 bl1 m1 = some (bl', most')) ∧ Aside0 (kq ≤ k) ∧ Aside0 (IsB w0 w' gs gb gm sign bv1 bl1 m1) ∧ Aside0 (Kept w w' (fun k_ => k_ = gb ∨ k_ = gm)) ∧ Aside0 (Below w0.heap.size w0 w'))
    case atStart => exact ⟨0, bv, bl, most, (by first | rfl | (simp; done) | (simp [*]; done)), H', ⟨Nat.le_refl _⟩, HI, HK, HB⟩
    case round =>
      clear H' c5b0 c5b1 HI HK HB
      obtain ⟨x15, bv1, bl1, m1, rfl, HQ, HK1, HI, HK, HB⟩ := hrel
      cases gk with
      | zero => exact absurd HQ.out (by simp [impl_ordersB.l0])
      | succ k1 =>
        have H := HQ.out
        clear HQ
        simp only [impl_ordersB.l0] at H
        have HOw := Aside0.mk (Kd.R_kept HO.out HK.out (fun k_ hk_ hs_ => hs_.elim hk_.1 hk_.2))
        by_cases c8 : x15 < n
        · rw [if_pos c8] at H
          have c8b0 : decide (x15 < n) = true := decide_eq_true c8
          clear c8
          replace H := Option.bind_eq_some_iff.mp H
          obtain ⟨t20, A20, H⟩ := H
          have E20 := Aside0.mk A20
          clear A20
          by_cases c9 : t20 = true
          · subst c9
            rw [if_pos rfl] at H
            have H' := Aside0.mk H
            clear H
            go_wp2_with (first | ((with_reducible refine gate_callee (f := 54) rfl ?_); refine goesL_ (some 20) rfl rfl Try.func54 (by kernel_rfl) rfl #[.slice A l.length c, .int .i64 x15] rfl (by (try simp only [List.map_toArray, List.map_cons, List.map_nil]); first | done | rfl) ?_; (with_reducible refine (slices_Contains_int_int.calls k1 _ _ l x15 true _ ?s1 ?s2 E20.out).mono ?_); (case s1 => repeat (first | exact (Kd.R_reads' HOw.out).2.2 | (with_reducible refine Kd.C_alloc ?_ _) | (with_reducible refine Kd.C_drewN ?_ _) | (with_reducible refine Kd.C_drew ?_))); (case s2 => exact HC.out); rintro e w' ⟨rfl, ⟨nd, rfl⟩⟩; refine ⟨_, rfl, ?_⟩) | (go_at_call 54; (with_reducible refine (slices_Contains_int_int.calls k1 _ _ l x15 true _ ?s1 ?s2 E20.out).mono ?_); (case s1 => repeat (first | exact (Kd.R_reads' HOw.out).2.2 | (with_reducible refine Kd.C_alloc ?_ _) | (with_reducible refine Kd.C_drewN ?_ _) | (with_reducible refine Kd.C_drew ?_))); (case s2 => exact HC.out); rintro e w' ⟨rfl, ⟨nd, rfl⟩⟩))
            go_roundg k1
            case measure => have := HK1.out; omega
            case rel => exact ⟨(wrap64 (x15 + 1)), bv1, bl1, m1, (by first | rfl | (simp; done) | (simp [*]; done)), H', ⟨by have := HK1.out; omega⟩, ⟨by repeat (first | exact HI.out | apply IsB.drewN)⟩, ⟨(by repeat (first | (with_reducible first | exact HK.out | apply Kept.alloc | apply Kept.drewN | apply Kept.drew) | exact HK.out))⟩, ⟨(by repeat (first | (with_reducible first | exact HB.out | apply below_alloc | apply pw_below_drewN | apply below_drew1) | exact HB.out))⟩⟩
          · replace c9 := Bool.eq_false_iff.mpr c9
            subst c9
            rw [if_neg (by simp)] at H
            replace H := Option.bind_eq_some_iff.mp H
            obtain ⟨t31, A31, H⟩ := H
            obtain ⟨hz1, hz2⟩ := appFull.open A31
            replace H := Option.bind_eq_some_iff.mp H
            obtain ⟨⟨b33, m33⟩, A33, H⟩ := H
            have E33 := Aside0.mk A33
            have H' := Aside0.mk H
            have HL2 := Aside0.mk hz1
            have HT2 := Aside0.mk hz2
            clear A31 A33 H hz1 hz2
            have hcut := fun W => cut_full (P := Try.prog) 25 3 Try.underlying25 info3 A l.length c HC.out W
            go_wp2_with (first | ((with_reducible refine gate_callee (f := 54) rfl ?_); refine goesL_ (some 20) rfl rfl Try.func54 (by kernel_rfl) rfl #[.slice A l.length c, .int .i64 x15] rfl (by (try simp only [List.map_toArray, List.map_cons, List.map_nil]); first | done | rfl) ?_; (with_reducible refine (slices_Contains_int_int.calls k1 _ _ l x15 false _ ?s1 ?s2 E20.out).mono ?_); (case s1 => repeat (first | exact (Kd.R_reads' HOw.out).2.2 | (with_reducible refine Kd.C_alloc ?_ _) | (with_reducible refine Kd.C_drewN ?_ _) | (with_reducible refine Kd.C_drew ?_))); (case s2 => exact HC.out); rintro e w' ⟨rfl, ⟨nd, rfl⟩⟩; refine ⟨_, rfl, ?_⟩) | (go_at_call 54; (with_reducible refine (slices_Contains_int_int.calls k1 _ _ l x15 false _ ?s1 ?s2 E20.out).mono ?_); (case s1 => repeat (first | exact (Kd.R_reads' HOw.out).2.2 | (with_reducible refine Kd.C_alloc ?_ _) | (with_reducible refine Kd.C_drewN ?_ _) | (with_reducible refine Kd.C_drew ?_))); (case s2 => exact HC.out); rintro e w' ⟨rfl, ⟨nd, rfl⟩⟩) | ((with_reducible refine gate_builtin (b := .append) (xs := #[.tmp 28, .tmp 30]) rfl ?_); at_builtin; refine R_append_full (w0 := w0) w0.heap.size 3 rfl (.tmp 28) (.tmp 30) 25 rfl Try.underlying25 info3 A l x15 rfl rfl ?aR ?aN ?aB ?aS ?aL ?_; (case aR => repeat (first | exact (Kd.R_reads' HOw.out).2.2 | (with_reducible refine Kd.C_alloc ?_ _) | (with_reducible refine Kd.C_drewN ?_ _) | (with_reducible refine Kd.C_drew ?_))); (case aN => exact HA.out); (case aB => exact (by repeat (first | (with_reducible first | exact HB.out | apply below_alloc | apply pw_below_drewN | apply below_drew1) | exact HB.out))); (case aS => exact (below_size (by repeat (first | (with_reducible first | exact HB.out | apply below_alloc | apply pw_below_drewN | apply below_drew1) | exact HB.out)))); (case aL => have := HL2.out; omega); intro v31 w11 ho0 hb0 hb; rw [HT2.out] at ho0; have n0_ := Aside0.mk (Kd.R_lower (Kd.R_mono (Kd.R_bound ho0) (fun k_ hk_ => (⟨fun e_ => by have := hk_.2.1; have h5 := blk_lt HI.out.2.1; have h6 : k_ = gb := e_; simp only [World.drewN] at this; omega, fun e_ => by have := hk_.2.1; have h5 := blk_lt HI.out.2.2.1; have h6 : k_ = gm := e_; simp only [World.drewN] at this; omega⟩ : k_ ≠ gb ∧ k_ ≠ gm))) (below_size (by repeat (first | (with_reducible first | exact HB.out | apply below_alloc | apply pw_below_drewN | apply below_drew1) | exact HB.out)))); have n1_ := Aside0.mk (IsB.below (by repeat (first | exact HI.out | apply IsB.drewN)) hb); have n2_ := Aside0.mk (Kept.below (by repeat (first | (with_reducible first | exact HK.out | apply Kept.alloc | apply Kept.drewN | apply Kept.drew) | exact HK.out)) hb); have n3_ := Aside0.mk hb0; clear HI HK HB HOw; have HO2 := n0_; have HI := n1_; have HK := n2_; have HB := n3_; clear n0_ n1_ n2_ n3_ hb hb0 ho0) | ((with_reducible refine gate_callee (f := 79) rfl ?_); refine goesL_ (some 33) rfl rfl Try.func79 (by kernel_rfl) rfl #[.int .i64 n, v31, .func (.func 80) #[] #[.pointer (some ⟨gs, 0, none⟩), .pointer (some ⟨gb, 0, none⟩), .pointer (some ⟨gm, 0, none⟩)]] rfl (by (try simp only [List.map_toArray, List.map_cons, List.map_nil]); first | done | rfl) ?_; (with_reducible refine (ih k1 (by have := HK1.out; omega) n v31 t31 gs gb gm sign m1 m33 bv1 bl1 b33 w0 _ ?s1 ?s2 ?s3 ?s4 HN.out E33.out).mono ?_); (case s1 => exact HI.out); (case s2 => exact HB.out); (case s3 => exact HO2.out); (case s4 => exact slice_form HO2.out); rintro e w13 ⟨rfl, ⟨bv2, hi⟩, hb, hk⟩; refine ⟨_, rfl, ?_⟩; have n0_ := Aside0.mk hi; have n1_ := Aside0.mk hb; have n2_ := Aside0.mk (Kept.then_ HK.out hk (fun _ h_ => .inl h_)); clear HI HK HB HO2; have HI := n0_; have HB := n1_; have HK := n2_; clear n0_ n1_ n2_ hi hb hk))
            go_roundg k1
            case measure => have := HK1.out; omega
            case rel => exact ⟨(wrap64 (x15 + 1)), bv2, b33, m33, (by first | rfl | (simp; done) | (simp [*]; done)), H', ⟨by have := HK1.out; omega⟩, HI, HK, HB⟩
        · rw [if_neg c8] at H
          have c8b0 : decide (x15 < n) = false := decide_eq_false c8
          clear c8
          obtain ⟨rfl, rfl⟩ := Prod.mk.inj (Option.some.inj H)
          go_wp2
          first | go_end0 | ((try simp only [Exit.inBlock, Exit.then]); refine bodyPost_ret (results_none rfl _ _ _) rfl ?_)
          exact ⟨rfl, ⟨bv1, HI.out⟩, HB.out, HK.out⟩
def impl_bestNames.f (k : Nat) (a0 a1 : Int) : Option (List Int × Bool) := (impl_within.f a0 2 6).bind fun t9 => if t9 = true then ((impl_ordersB.f k a1 a0 [] [] 0).bind fun t13 => ((slices_Clone_int_int.f t13.1).bind fun t15 => some (t15, true))) else some ([], false)
theorem impl_bestNames.mono : ∀ a0 a1 k, LeO (impl_bestNames.f k a0 a1) (impl_bestNames.f (k + 1) a0 a1) := by
  intro a0 a1 k
  unfold impl_bestNames.f
  refine LeO.bind (LeO.refl _) (fun _ => ?_)
  refine LeO.ite ?_ (LeO.refl _)
  exact LeO.bind ((impl_ordersB.mono_l k).2 _ _ _ _ _) (fun _ => LeO.refl _)
theorem within_lo {a0 : Int} (h : impl_within.f a0 2 6 = some true) : 0 < a0 := by
  unfold impl_within.f at h
  split at h
  · omega
  · simp at h
set_option maxHeartbeats 8000000 in
set_option maxRecDepth 100000 in
theorem impl_bestNames.calls (k : Nat) (a0 a1 : Int) (r1 : List Int) (r2 : Bool) (w : World) (h : impl_bestNames.f k a0 a1 = some (r1, r2)) :
    Calls Try.prog 64 #[.int .i64 a0, .int .i64 a1] w fun e w' => ∃ v0_ : Value, e = .returned (.tuple #[v0_, .bool r2]) ∧ Kd.R (Kd.int .i64) 3 w' w.heap.size (fun _ => True) v0_ r1 ∧ Below w.heap.size w w' := by
  unfold impl_bestNames.f at h
  have hmf : ∀ (fn : Fn) (first cap : Array Value) (w : World), (Instr.makeFunc fn first cap).run Try.prog w = .ok (.func fn first cap) w := fun _ _ _ _ => rfl
  have HB := Aside0.mk (Below.refl w.heap.size w)
  replace h := Option.bind_eq_some_iff.mp h
  obtain ⟨t9, A9, h⟩ := h
  have E9 := Aside0.mk A9
  clear A9
  by_cases c6 : t9 = true
  · subst c6
    rw [if_pos rfl] at h
    replace h := Option.bind_eq_some_iff.mp h
    obtain ⟨⟨t13, m13⟩, A13, h⟩ := h
    replace h := Option.bind_eq_some_iff.mp h
    obtain ⟨t15, A15, h⟩ := h
    have E13 := Aside0.mk A13
    have E15 := Aside0.mk A15
    obtain ⟨rfl, rfl⟩ := Prod.mk.inj (Option.some.inj h)
    have HN := Aside0.mk (show 0 < a0 from within_lo E9.out)
    clear A13 A15 h
    go_enter Try.func64, Try.ntmps64
    go_wp2_with (first | ((with_reducible refine gate_dst (N := 3) rfl ?_); refine box_event ?hg (N := 3) ?hd (cs := #[.int .i64 a1]) (t := 3) ?hr ?_; (case hd => rfl); (case hg => rfl); (case hr => first | (go_simp; done) | (go_simp; rfl)); intro gs hg w3 hbox hb; have K3 := Aside0.mk hbox; have G3 := Aside0.mk (by rw [hg]; exact (below_size (by repeat (first | (with_reducible first | exact HB.out | apply below_alloc | apply pw_below_drewN | apply below_drew1) | exact HB.out))) : w.heap.size ≤ gs); have n_ := Aside0.mk (below_step (by repeat (first | (with_reducible first | exact HB.out | apply below_alloc | apply pw_below_drewN | apply below_drew1) | exact HB.out)) hb); clear HB; have HB := n_; clear n_; clear hb hbox hg) | ((with_reducible refine gate_callee (f := 52) rfl ?_); refine goesL_ (some 9) rfl rfl Try.func52 (by kernel_rfl) rfl #[.int .i64 a0, .int .i64 2, .int .i64 6] rfl (by (try simp only [List.map_toArray, List.map_cons, List.map_nil]); first | done | rfl) ?_; (with_reducible refine (impl_within.calls a0 2 6 true _ E9.out).mono ?_); rintro e w' ⟨rfl, ⟨nd, rfl⟩⟩; refine ⟨_, rfl, ?_⟩) | (go_at_call 52; (with_reducible refine (impl_within.calls a0 2 6 true _ E9.out).mono ?_); rintro e w' ⟨rfl, ⟨nd, rfl⟩⟩) | ((with_reducible refine gate_dst (N := 6) rfl ?_); refine box_event ?hg (N := 6) ?hd (cs := #[.slice none 0 0]) (t := 25) ?hr ?_; (case hd => rfl); (case hg => rfl); (case hr => first | (go_simp; done) | (go_simp; rfl)); intro gb hg w6 hbox hb; have n_ := Aside0.mk (blk_below (g := gs) (o := .cells #[.int .i64 a1] 3 (0, 0)) (by (with_reducible repeat (first | refine blk_drewN ?_ _ | refine blk_drew ?_ | refine blk_alloc ?_ _)); exact K3.out) hb); clear K3; have K3 := n_; clear n_; have K6 := Aside0.mk hbox; have G6 := Aside0.mk (by rw [hg]; exact (below_size (by repeat (first | (with_reducible first | exact HB.out | apply below_alloc | apply pw_below_drewN | apply below_drew1) | exact HB.out))) : w.heap.size ≤ gb); have n_ := Aside0.mk (below_step (by repeat (first | (with_reducible first | exact HB.out | apply below_alloc | apply pw_below_drewN | apply below_drew1) | exact HB.out)) hb); clear HB; have HB := n_; clear n_; clear hb hbox hg) | ((with_reducible refine gate_dst (N := 7) rfl ?_); refine box_event ?hg (N := 7) ?hd (cs := #[.int .i64 0]) (t := 3) ?hr ?_; (case hd => rfl); (case hg => rfl); (case hr => first | (go_simp; done) | (go_simp; rfl)); intro gm hg w7 hbox hb; have NE := Aside0.mk (by rw [hg]; exact Nat.ne_of_lt (blk_lt (by (with_reducible repeat (first | refine blk_drewN ?_ _ | refine blk_drew ?_ | refine blk_alloc ?_ _)); exact K3.out)) : gs ≠ gm); have n_ := Aside0.mk (blk_below (g := gs) (o := .cells #[.int .i64 a1] 3 (0, 0)) (by (with_reducible repeat (first | refine blk_drewN ?_ _ | refine blk_drew ?_ | refine blk_alloc ?_ _)); exact K3.out) hb); clear K3; have K3 := n_; clear n_; have n_ := Aside0.mk (blk_below (g := gb) (o := .cells #[.slice none 0 0] 25 (0, 0)) (by (with_reducible repeat (first | refine blk_drewN ?_ _ | refine blk_drew ?_ | refine blk_alloc ?_ _)); exact K6.out) hb); clear K6; have K6 := n_; clear n_; have hcz : w7.cell? ⟨gm, 0, none⟩ = some (.int .i64 0) := (blk_cell hbox 0).trans rfl; have hfz := blk_frozen hbox 0; have K7 := Aside0.mk hbox; have G7 := Aside0.mk (by rw [hg]; exact (below_size (by repeat (first | (with_reducible first | exact HB.out | apply below_alloc | apply pw_below_drewN | apply below_drew1) | exact HB.out))) : w.heap.size ≤ gm); have n_ := Aside0.mk (below_step (by repeat (first | (with_reducible first | exact HB.out | apply below_alloc | apply pw_below_drewN | apply below_drew1) | exact HB.out)) hb); clear HB; have HB := n_; clear n_; clear hb hbox hg) | ((with_reducible refine gate_callee (f := 79) rfl ?_); refine goesL_ (some 13) rfl rfl Try.func79 (by kernel_rfl) rfl #[.int .i64 a0, .slice none 0 0, .func (.func 80) #[] #[.pointer (some ⟨gs, 0, none⟩), .pointer (some ⟨gb, 0, none⟩), .pointer (some ⟨gm, 0, none⟩)]] rfl (by (try simp only [List.map_toArray, List.map_cons, List.map_nil]); first | done | rfl) ?_; (with_reducible refine (impl_ordersB.calls k a0 (.slice none 0 0) [] gs gb gm a1 0 m13 (.slice none 0 0) [] t13 w _ ?s1 ?s2 ?s3 (.inl rfl) HN.out E13.out).mono ?_); (case s1 => exact ⟨blk_far K3.out NE.out _, blk_far K6.out (blk_ne K6.out K7.out (by decide)) _, blk_put K7.out 0 _ rfl, G6.out, G7.out, NE.out, Kd.R_nil _ _ _ _ _, fun _ => rfl⟩); (case s2 => exact below_set HB.out G7.out); (case s3 => exact Kd.R_nil _ _ _ _ _); rintro e w13 ⟨rfl, ⟨bv2, hi⟩, hb, hk⟩; refine ⟨_, rfl, ?_⟩; have HI := Aside0.mk hi; clear HB hi hk; have HB := Aside0.mk hb; clear hb; have hcb : w13.cell? ⟨gb, 0, none⟩ = some bv2 := (blk_cell HI.out.2.1 0).trans rfl; have HR := Aside0.mk HI.out.2.2.2.2.2.2.1; obtain ⟨Ab, cb, ebv⟩ := Kd.R_slice HR.out; subst ebv) | ((with_reducible refine gate_callee (f := 81) rfl ?_); refine goesL_ (some 15) rfl rfl Try.func81 (by kernel_rfl) rfl #[.slice Ab t13.length cb] rfl (by (try simp only [List.map_toArray, List.map_cons, List.map_nil]); first | done | rfl) ?_; (with_reducible refine (slices_Clone_int_int.calls _ _ t13 t15 _ ?s1 ?s2 E15.out).mono ?_); (case s1 => repeat (first | exact (Kd.R_reads' HR.out).2.2 | (with_reducible refine Kd.C_alloc ?_ _) | (with_reducible refine Kd.C_drewN ?_ _) | (with_reducible refine Kd.C_drew ?_))); (case s2 => exact (Kd.R_reads' HR.out).2.1); rintro e w15 ⟨v15, rfl, ho0, hb⟩; refine ⟨_, rfl, ?_⟩; have HRC := Aside0.mk (Kd.R_lower ho0 (below_size (by repeat (first | (with_reducible first | exact HB.out | apply below_alloc | apply pw_below_drewN | apply below_drew1) | exact HB.out)))); have n_ := Aside0.mk (below_step (by repeat (first | (with_reducible first | exact HB.out | apply below_alloc | apply pw_below_drewN | apply below_drew1) | exact HB.out)) hb); clear HB; have HB := n_; clear n_ hb ho0; obtain ⟨Ac, cc, ec⟩ := Kd.R_slice HRC.out; subst ec) | (go_at_call 81; (with_reducible refine (slices_Clone_int_int.calls _ _ t13 t15 _ ?s1 ?s2 E15.out).mono ?_); (case s1 => repeat (first | exact (Kd.R_reads' HR.out).2.2 | (with_reducible refine Kd.C_alloc ?_ _) | (with_reducible refine Kd.C_drewN ?_ _) | (with_reducible refine Kd.C_drew ?_))); (case s2 => exact (Kd.R_reads' HR.out).2.1); rintro e w15 ⟨v15, rfl, ho0, hb⟩; have HRC := Aside0.mk (Kd.R_lower ho0 (below_size (by repeat (first | (with_reducible first | exact HB.out | apply below_alloc | apply pw_below_drewN | apply below_drew1) | exact HB.out)))); have n_ := Aside0.mk (below_step (by repeat (first | (with_reducible first | exact HB.out | apply below_alloc | apply pw_below_drewN | apply below_drew1) | exact HB.out)) hb); clear HB; have HB := n_; clear n_ hb ho0; obtain ⟨Ac, cc, ec⟩ := Kd.R_slice HRC.out; subst ec))
    go_ret2
    exact ⟨_, rfl, HRC.out, (by repeat (first | (with_reducible first | exact HB.out | apply below_alloc | apply pw_below_drewN | apply below_drew1) | exact HB.out))⟩
  · replace c6 := Bool.eq_false_iff.mpr c6
    subst c6
    rw [if_neg (by simp)] at h
    obtain ⟨rfl, rfl⟩ := Prod.mk.inj (Option.some.inj h)
    clear h
    go_enter Try.func64, Try.ntmps64
    go_wp2_with (first | ((with_reducible refine gate_dst (N := 3) rfl ?_); refine box_event ?hg (N := 3) ?hd (cs := #[.int .i64 a1]) (t := 3) ?hr ?_; (case hd => rfl); (case hg => rfl); (case hr => first | (go_simp; done) | (go_simp; rfl)); intro gs hg w3 hbox hb; have K3 := Aside0.mk hbox; have G3 := Aside0.mk (by rw [hg]; exact (below_size (by repeat (first | (with_reducible first | exact HB.out | apply below_alloc | apply pw_below_drewN | apply below_drew1) | exact HB.out))) : w.heap.size ≤ gs); have n_ := Aside0.mk (below_step (by repeat (first | (with_reducible first | exact HB.out | apply below_alloc | apply pw_below_drewN | apply below_drew1) | exact HB.out)) hb); clear HB; have HB := n_; clear n_; clear hb hbox hg) | ((with_reducible refine gate_callee (f := 52) rfl ?_); refine goesL_ (some 9) rfl rfl Try.func52 (by kernel_rfl) rfl #[.int .i64 a0, .int .i64 2, .int .i64 6] rfl (by (try simp only [List.map_toArray, List.map_cons, List.map_nil]); first | done | rfl) ?_; (with_reducible refine (impl_within.calls a0 2 6 false _ E9.out).mono ?_); rintro e w' ⟨rfl, ⟨nd, rfl⟩⟩; refine ⟨_, rfl, ?_⟩) | (go_at_call 52; (with_reducible refine (impl_within.calls a0 2 6 false _ E9.out).mono ?_); rintro e w' ⟨rfl, ⟨nd, rfl⟩⟩))
    go_ret2
    exact ⟨_, rfl, Kd.R_nil _ _ _ _ _, (by repeat (first | (with_reducible first | exact HB.out | apply below_alloc | apply pw_below_drewN | apply below_drew1) | exact HB.out))⟩

end Go.Proofs.Ytbiiklkkfkipeaa.X
