/- Several texts of this session in one: X476. -/
import Derived.Test.YtbiiklkkfkipeaaMFnRoundsEnd2
import Derived.Test.YtbiiklkkfkipeaaMFnRoundsEnd7
/- The walk of the law FnRoundsEnd, its first piece: written by this session's program wip/split/cut.py. -/
namespace Go.Proofs.Ytbiiklkkfkipeaa.X
open Go.RowKit Go.Proofs.YtbiiklkkfkipeaaW.PrintWords Go.Proofs.YtbiiklkkfkipeaaW.PrintLast Go.Proofs.YtbiiklkkfkipeaaW.PrintMore
attribute [local go_sem] max2_int min2_int max_two min_two max_three min_three max_four min_four   -- for this text's walks alone
set_option linter.unusedVariables false
set_option linter.unusedSimpArgs false

set_option maxHeartbeats 8000000 in
set_option maxRecDepth 100000 in
theorem laws_FnRoundsEnd.pc_j0 {cd0 : Code} {cd1 : Code} {k : Nat} {A0 : Option Addr} {c0 : Nat} {l0 : List Int} {A1 : Option Addr} {c1 : Nat} {l1 : List Int} {r : Bool} {w : World} {t579 : List Int} {t582 : List (List Int)} {t583 t587 : Bool} {t590 : Int} {t591 : Bool} {t592 : Int} {t593 : Bool} {t594 : Int} {t595 : Bool} {t596 : Int} {t597 : Bool} {Ao14 : Option Addr} {co14 : Nat} {v584 v588 : Value} {K_z1 : Act → World → Prop} (a_z1 : ∀ (a : Act) (w_1 : World), Code.wp Try.prog cd0 (bodyPost Try.prog Try.f13 fun (e : Ending) (w' : World) => e = Ending.returned (Value.bool r) ∧ Below (Array.size (World.heap w)) w w') a w_1 → K_z1 a w_1) {wc : World} {u38 u39 u40 u41 u42 u43 u44 u45 u46 u47 u48 u49 u50 u51 u52 u53 u54 u55 u56 u57 u58 u59 u60 u61 u62 u63 u64 u65 u66 u67 u68 u69 u70 u71 u72 u73 u74 u75 u76 u77 u78 u79 u80 u81 u82 u83 u84 u85 u86 u87 u88 u89 u90 u91 u92 u93 u94 u95 u96 u97 u98 u99 u100 u101 u102 u103 u104 u105 u106 u107 u108 u109 u110 u111 u112 u113 u114 u115 u116 u117 u118 u119 u120 u121 u122 u123 u124 u125 u126 u127 u128 u129 u130 u131 u132 u133 u134 u135 u136 u137 u138 u139 u140 u141 u142 u143 u144 u145 u146 u147 u148 u149 u150 u151 u152 u153 u154 u155 u156 u157 u158 u159 u160 u161 u162 u163 u164 u165 u166 u167 u168 u169 u170 u174 u175 u176 u177 u178 u179 u180 u181 u182 u183 u184 u185 u186 u187 u188 u189 u190 u191 u192 u193 u194 u195 u196 u197 u198 u199 u200 u201 u202 u203 u204 u205 u206 u207 u208 u209 u210 u211 u212 u213 u214 u215 u216 u217 u218 u219 u220 u224 u225 u226 u227 u231 u232 u233 u234 u235 u236 u237 u238 u239 u240 u241 u242 u243 u244 u245 u246 u247 u248 u249 u250 u251 u252 u253 u254 u255 u256 u257 u258 u259 u260 u261 u262 u263 u264 u265 u266 u267 u268 u269 u270 u271 u272 u273 u274 u275 u276 u277 u278 u279 u280 u281 u282 u283 u284 u285 u286 u287 u288 u289 u290 u291 u292 u293 u294 u295 u296 u297 u298 u299 u300 u301 u302 u303 u304 u305 u306 : Value} (hcut : ∃ (kq : Nat), ∃ (x111_11 : Bool), u111 = Value.bool x111_11 ∧ Aside0 (j0 kq t579 t582 t583 t590 t594 x111_11 = some r) ∧ Aside0 (kq ≤ k) ∧ Aside0 (Kd.R (Kd.int IntKind.i64) 3 wc (Array.size (World.heap w)) (fun (x : Nat) => True) (Value.slice Ao14 (List.length t579) co14) t579) ∧ Aside0 (Kd.S (Kd.slice 3 (Kd.int IntKind.i64)) 25 wc (Array.size (World.heap w)) (fun (k_ : Nat) => some k_ ≠ Value.ownBlock (Value.slice Ao14 (List.length t579) co14)) v584 t582) ∧ Aside0 (Below (Array.size (World.heap w)) w wc)) (hcd0 : cd0 = cB (cB (cB (cB (cB (cB (cB (cB (cB (cB (P13))))))))))) (hcd1 : cd1 = cB (cA (cB (cB (cB (cB (cB (cB (cB (cB (cB (P13)))))))))))) : Code.wp Try.prog cd1 (Exit.then K_z1 (bodyPost Try.prog Try.f13 fun (e : Ending) (w' : World) => e = Ending.returned (Value.bool r) ∧ Below (Array.size (World.heap w)) w w')) { tmps := #[Value.slice A0 (List.length l0) c0, Value.slice A1 (List.length l1) c1, undef, undef, Value.bool false, Value.slice Ao14 (List.length t579) co14, v584, Value.bool t583, v588, Value.bool t587, Value.int IntKind.i64 t590, Value.bool t591, Value.int IntKind.i64 t592, Value.bool t593, Value.int IntKind.i64 t594, Value.bool t595, Value.int IntKind.i64 t596, Value.bool t597, undef, undef, undef, undef, undef, undef, undef, undef, undef, undef, undef, undef, undef, undef, undef, undef, undef, undef, undef, undef, u38, u39, u40, u41, u42, u43, u44, u45, u46, u47, u48, u49, u50, u51, u52, u53, u54, u55, u56, u57, u58, u59, u60, u61, u62, u63, u64, u65, u66, u67, u68, u69, u70, u71, u72, u73, u74, u75, u76, u77, u78, u79, u80, u81, u82, u83, u84, u85, u86, u87, u88, u89, u90, u91, u92, u93, u94, u95, u96, u97, u98, u99, u100, u101, u102, u103, u104, u105, u106, u107, u108, u109, u110, u111, u112, u113, u114, u115, u116, u117, u118, u119, u120, u121, u122, u123, u124, u125, u126, u127, u128, u129, u130, u131, u132, u133, u134, u135, u136, u137, u138, u139, u140, u141, u142, u143, u144, u145, u146, u147, u148, u149, u150, u151, u152, u153, u154, u155, u156, u157, u158, u159, u160, u161, u162, u163, u164, u165, u166, u167, u168, u169, u170, undef, undef, undef, u174, u175, u176, u177, u178, u179, u180, u181, u182, u183, u184, u185, u186, u187, u188, u189, u190, u191, u192, u193, u194, u195, u196, u197, u198, u199, u200, u201, u202, u203, u204, u205, u206, u207, u208, u209, u210, u211, u212, u213, u214, u215, u216, u217, u218, u219, u220, undef, undef, undef, u224, u225, u226, u227, undef, undef, undef, u231, u232, u233, u234, u235, u236, u237, u238, u239, u240, u241, u242, u243, u244, u245, u246, u247, u248, u249, u250, u251, u252, u253, u254, u255, u256, u257, u258, u259, u260, u261, u262, u263, u264, u265, u266, u267, u268, u269, u270, u271, u272, u273, u274, u275, u276, u277, u278, u279, u280, u281, u282, u283, u284, u285, u286, u287, u288, u289, u290, u291, u292, u293, u294, u295, u296, u297, u298, u299, u300, u301, u302, u303, u304, u305, u306], defers := [] } wc := by
  conv at hcd0 => rhs; whnf
  subst hcd0
  conv at hcd1 => rhs; whnf
  subst hcd1
  obtain ⟨kq, x111_11, rfl, HA, HJ11, HO_5, HO_6, HB⟩ := hcut
  cases kq with
  | zero => exact absurd HA.out (by simp [laws_FnRoundsEnd.j0])
  | succ kj11 =>
   have H := HA.out
   clear HA
   simp only [laws_FnRoundsEnd.j0] at H
   by_cases c43 : x111_11 = true
   ·as_aux_lemma =>
    subst c43
    have H1 : (some false) = some r := by rw [if_pos rfl] at H; exact H
    clear H
    have H := H1
    clear H1
    obtain rfl := Option.some.inj H
    go_wp2
    go_ret
    exact ⟨by first | rfl | (simp [errW_none, errW_some] <;> rfl) | (simp [*, errW_none, errW_some] <;> rfl), by repeat (first | (with_reducible first | exact HB.out | apply below_alloc | apply pw_below_drewN | apply below_drew1) | exact HB.out)⟩
   ·as_aux_lemma =>
    replace c43 := Bool.eq_false_iff.mpr c43
    subst c43
    have H1 : (if t583 = true then (if 0 < (t582.length : Int) then (if ((rd_L2 t582 0).length : Int) = (t579.length : Int) then (if 0 ≤ (wrap64 ((t582.length : Int) - 1)) then (if (wrap64 ((t582.length : Int) - 1)) < (t582.length : Int) then (if ((rd_L2 t582 (wrap64 ((t582.length : Int) - 1))).length : Int) = 1 then (laws_FnRoundsEnd.j1 kj11 t579 t582 t590 t594 (t579.length : Int) (t590 != (wrap64 ((wrap64 (2 * (t579.length : Int))) * (wrap64 ((t582.length : Int) - 1)))))) else (laws_FnRoundsEnd.j1 kj11 t579 t582 t590 t594 (t579.length : Int) true)) else (none)) else (none)) else (laws_FnRoundsEnd.j1 kj11 t579 t582 t590 t594 (t579.length : Int) true)) else (none)) else (some true)) = some r := by rw [if_neg (show ¬ (false = true) by decide)] at H; exact H
    clear H
    have H := H1
    clear H1
    by_cases c44 : t583 = true
    ·as_aux_lemma =>
     subst c44
     have H1 : (if 0 < (t582.length : Int) then (if ((rd_L2 t582 0).length : Int) = (t579.length : Int) then (if 0 ≤ (wrap64 ((t582.length : Int) - 1)) then (if (wrap64 ((t582.length : Int) - 1)) < (t582.length : Int) then (if ((rd_L2 t582 (wrap64 ((t582.length : Int) - 1))).length : Int) = 1 then (laws_FnRoundsEnd.j1 kj11 t579 t582 t590 t594 (t579.length : Int) (t590 != (wrap64 ((wrap64 (2 * (t579.length : Int))) * (wrap64 ((t582.length : Int) - 1)))))) else (laws_FnRoundsEnd.j1 kj11 t579 t582 t590 t594 (t579.length : Int) true)) else (none)) else (none)) else (laws_FnRoundsEnd.j1 kj11 t579 t582 t590 t594 (t579.length : Int) true)) else (none)) = some r := by rw [if_pos rfl] at H; exact H
     clear H
     have H := H1
     clear H1
     have HC45 := Aside0.mk H
     clear H
     go_upto_region 14 with (fail)
     go_cut [140] (fun v140 wc => ∃ (kq : Nat) (x140_44 : Bool), v140 = .bool x140_44 ∧ Aside0 (laws_FnRoundsEnd.j1 kq t579 t582 t590 t594 (t579.length : Int) x140_44 = some r) ∧ Aside0 (kq ≤ kj11) ∧ Aside0 (Kd.R (Kd.int .i64) 3 wc w.heap.size (fun _ => True) (.slice Ao14 t579.length co14) t579) ∧ Aside0 (Kd.S (Kd.slice 3 (Kd.int .i64)) 25 wc w.heap.size (fun k_ => some k_ ≠ ((.slice Ao14 t579.length co14) : Value).ownBlock) v584 t582) ∧ Aside0 (Below w.heap.size w wc))
     case first => as_aux_lemma =>
      have H := HC45.out
      clear HC45
      by_cases c46 : 0 < (t582.length : Int)
      ·as_aux_lemma =>
       rw [if_pos c46] at H
       have c46b0 : decide (0 < (t582.length : Int)) = true := decide_eq_true c46
       have c46b1 : decide (0 < t582.length) = true := decide_eq_true (by omega)
       clear c46
       (first | rw [c46b0] | (simp only [i64_w, i32_w]; rw [c46b0]) | skip)
       by_cases c47 : ((rd_L2 t582 0).length : Int) = (t579.length : Int)
       ·as_aux_lemma =>
        rw [if_pos c47] at H
        have c47b0 : (((rd_L2 t582 0).length : Int) == (t579.length : Int)) = true := beq_iff_eq.mpr c47
        have c47b1 : (((rd_L2 t582 0).length : Int) != (t579.length : Int)) = false := bne_eq_false_iff_eq.mpr c47
        have c47b2 : ((rd_L2 t582 0).length == t579.length) = true := by first | simpa using c47 | (simp at c47 ⊢; omega)
        clear c47
        obtain ⟨ji48, hji48⟩ : ∃ j_ : Int, (wrap64 ((t582.length : Int) - 1)) = j_ := ⟨_, rfl⟩
        replace H : (if 0 ≤ (ji48) then (if (ji48) < (t582.length : Int) then (if ((rd_L2 t582 (ji48)).length : Int) = 1 then (laws_FnRoundsEnd.j1 kj11 t579 t582 t590 t594 (t579.length : Int) (t590 != (wrap64 ((wrap64 (2 * (t579.length : Int))) * (ji48))))) else (laws_FnRoundsEnd.j1 kj11 t579 t582 t590 t594 (t579.length : Int) true)) else (none)) else (none)) = some r := by first | (rw [hji48] at H; exact H) | (simp only [hji48] at H ⊢; exact H)
        have hji48w : (IntKind.i64.wrap ((t582.length : Int) - 1)) = ji48 := (i64_w _).trans hji48
        by_cases c49 : 0 ≤ (ji48)
        ·as_aux_lemma =>
         rw [if_pos c49] at H
         have c49b0 : decide (0 ≤ (ji48)) = true := decide_eq_true c49
         clear c49
         by_cases c50 : (ji48) < (t582.length : Int)
         ·as_aux_lemma =>
          rw [if_pos c50] at H
          have c50b0 : decide ((ji48) < (t582.length : Int)) = true := decide_eq_true c50
          clear c50
          by_cases c51 : ((rd_L2 t582 (ji48)).length : Int) = 1
          ·as_aux_lemma =>
           rw [if_pos c51] at H
           have c51b0 : (((rd_L2 t582 (ji48)).length : Int) == 1) = true := beq_iff_eq.mpr c51
           have c51b1 : (((rd_L2 t582 (ji48)).length : Int) != 1) = false := bne_eq_false_iff_eq.mpr c51
           clear c51
           have H' := Aside0.mk H
           clear H
           obtain ⟨Ao52, co52, eo52⟩ := Kd.S_slice HO_6.out
           subst eo52
           have p599 : 0 ≤ (0 : Int) := (by omega)
           have q599 : 0 < (t582.length : Int) := of_decide_eq_true (by first | (with_reducible assumption) | assumption)
           obtain ⟨ad599, A599_0, c599_0, e599, hx599_0, hl599_0, hi599_0⟩ := at_L2 (Kd.S_reads' HO_6.out).2.2 0 p599 q599
           cases e599
           obtain ⟨ce599, hce599, hMe599, hcc599⟩ := Kd.S_get HO_6.out [] 0 p599 (by first | exact q599 | exact of_decide_eq_true (by first | (with_reducible assumption) | assumption) | (have e_ := (Kd.S_reads' HO_6.out).1; omega))
           obtain ⟨ve599_0, rfl, ge599_0⟩ := hMe599
           have hv599_0 := hcc599 0 _ rfl
           rw [Nat.add_zero, show ((Kd.slice 3 (Kd.int .i64))).sz = 1 from rfl, Nat.mul_one] at hv599_0
           replace hv599_0 := Option.some.inj (hv599_0.symm.trans hx599_0)
           rw [hv599_0] at ge599_0
           have HL599_0 := Aside0.mk (show Kd.R (Kd.int .i64) 3 _ _ _ _ (rd_L2 t582 0) from ge599_0)
           clear hv599_0 ge599_0
           clear hcc599 hce599
           have qi599 : (0 < t582.length) = True := eq_true (by omega)
           (try rw [show ((0 : Int)).toNat = 0 from rfl] at hx599_0)
           (try rw [Addr.add_zero'] at hx599_0)
           have HR599_0 := Aside0.mk hi599_0
           have HC599_0 := Aside0.mk hl599_0
           clear hi599_0 hl599_0
           replace p599 := eq_true p599
           replace q599 := eq_true q599
           have p600 : 0 ≤ ((ji48) : Int) := of_decide_eq_true (by first | (with_reducible assumption) | assumption)
           have q600 : (ji48) < (t582.length : Int) := of_decide_eq_true (by first | (with_reducible assumption) | assumption)
           obtain ⟨ad600, A600_0, c600_0, e600, hx600_0, hl600_0, hi600_0⟩ := at_L2 (Kd.S_reads' HO_6.out).2.2 (ji48) p600 q600
           obtain rfl : ad599 = ad600 := (by injection e600)
           obtain ⟨ce600, hce600, hMe600, hcc600⟩ := Kd.S_get HO_6.out [] (ji48) p600 (by first | exact q600 | exact of_decide_eq_true (by first | (with_reducible assumption) | assumption) | (have e_ := (Kd.S_reads' HO_6.out).1; omega))
           obtain ⟨ve600_0, rfl, ge600_0⟩ := hMe600
           have hv600_0 := hcc600 0 _ rfl
           rw [Nat.add_zero, show ((Kd.slice 3 (Kd.int .i64))).sz = 1 from rfl, Nat.mul_one] at hv600_0
           replace hv600_0 := Option.some.inj (hv600_0.symm.trans hx600_0)
           rw [hv600_0] at ge600_0
           have HL600_0 := Aside0.mk (show Kd.R (Kd.int .i64) 3 _ _ _ _ (rd_L2 t582 (ji48)) from ge600_0)
           clear hv600_0 ge600_0
           clear hcc600 hce600
           have HR600_0 := Aside0.mk hi600_0
           have HC600_0 := Aside0.mk hl600_0
           clear hi600_0 hl600_0
           replace p600 := eq_true p600
           replace q600 := eq_true q600
           go_wp2
           go_meet
           case rel => exact ⟨_, ((t590 != (wrap64 ((wrap64 (2 * (t579.length : Int))) * (ji48))))), (by first | rfl | (simp; done) | (simp only [← hji48] <;> (first | rfl | simp)) | (simp [*]; done)), H', ⟨by have := HJ11.out; first | omega | exact Nat.le_refl _⟩, ⟨by (with_reducible repeat (first | apply Kd.R_alloc | apply Kd.R_drewN | apply Kd.R_drew)); exact HO_5.out⟩, ⟨by (with_reducible repeat (first | apply Kd.S_alloc | apply Kd.S_drewN | apply Kd.S_drew)); exact HO_6.out⟩, ⟨by repeat (first | (with_reducible first | exact HB.out | apply below_alloc | apply pw_below_drewN | apply below_drew1) | exact HB.out)⟩⟩
          ·as_aux_lemma =>
           rw [if_neg c51] at H
           have c51b0 : (((rd_L2 t582 (ji48)).length : Int) == 1) = false := beq_eq_false_iff_ne.mpr c51
           have c51b1 : (((rd_L2 t582 (ji48)).length : Int) != 1) = true := bne_iff_ne.mpr c51
           have H' := Aside0.mk H
           clear H
           obtain ⟨Ao53, co53, eo53⟩ := Kd.S_slice HO_6.out
           subst eo53
           have p599 : 0 ≤ (0 : Int) := (by omega)
           have q599 : 0 < (t582.length : Int) := of_decide_eq_true (by first | (with_reducible assumption) | assumption)
           obtain ⟨ad599, A599_0, c599_0, e599, hx599_0, hl599_0, hi599_0⟩ := at_L2 (Kd.S_reads' HO_6.out).2.2 0 p599 q599
           cases e599
           obtain ⟨ce599, hce599, hMe599, hcc599⟩ := Kd.S_get HO_6.out [] 0 p599 (by first | exact q599 | exact of_decide_eq_true (by first | (with_reducible assumption) | assumption) | (have e_ := (Kd.S_reads' HO_6.out).1; omega))
           obtain ⟨ve599_0, rfl, ge599_0⟩ := hMe599
           have hv599_0 := hcc599 0 _ rfl
           rw [Nat.add_zero, show ((Kd.slice 3 (Kd.int .i64))).sz = 1 from rfl, Nat.mul_one] at hv599_0
           replace hv599_0 := Option.some.inj (hv599_0.symm.trans hx599_0)
           rw [hv599_0] at ge599_0
           have HL599_0 := Aside0.mk (show Kd.R (Kd.int .i64) 3 _ _ _ _ (rd_L2 t582 0) from ge599_0)
           clear hv599_0 ge599_0
           clear hcc599 hce599
           have qi599 : (0 < t582.length) = True := eq_true (by omega)
           (try rw [show ((0 : Int)).toNat = 0 from rfl] at hx599_0)
           (try rw [Addr.add_zero'] at hx599_0)
           have HR599_0 := Aside0.mk hi599_0
           have HC599_0 := Aside0.mk hl599_0
           clear hi599_0 hl599_0
           replace p599 := eq_true p599
           replace q599 := eq_true q599
           have p600 : 0 ≤ ((ji48) : Int) := of_decide_eq_true (by first | (with_reducible assumption) | assumption)
           have q600 : (ji48) < (t582.length : Int) := of_decide_eq_true (by first | (with_reducible assumption) | assumption)
           obtain ⟨ad600, A600_0, c600_0, e600, hx600_0, hl600_0, hi600_0⟩ := at_L2 (Kd.S_reads' HO_6.out).2.2 (ji48) p600 q600
           obtain rfl : ad599 = ad600 := (by injection e600)
           obtain ⟨ce600, hce600, hMe600, hcc600⟩ := Kd.S_get HO_6.out [] (ji48) p600 (by first | exact q600 | exact of_decide_eq_true (by first | (with_reducible assumption) | assumption) | (have e_ := (Kd.S_reads' HO_6.out).1; omega))
           obtain ⟨ve600_0, rfl, ge600_0⟩ := hMe600
           have hv600_0 := hcc600 0 _ rfl
           rw [Nat.add_zero, show ((Kd.slice 3 (Kd.int .i64))).sz = 1 from rfl, Nat.mul_one] at hv600_0
           replace hv600_0 := Option.some.inj (hv600_0.symm.trans hx600_0)
           rw [hv600_0] at ge600_0
           have HL600_0 := Aside0.mk (show Kd.R (Kd.int .i64) 3 _ _ _ _ (rd_L2 t582 (ji48)) from ge600_0)
           clear hv600_0 ge600_0
           clear hcc600 hce600
           have HR600_0 := Aside0.mk hi600_0
           have HC600_0 := Aside0.mk hl600_0
           clear hi600_0 hl600_0
           replace p600 := eq_true p600
           replace q600 := eq_true q600
           go_wp2
           go_meet
           case rel => exact ⟨_, (true), (by first | rfl | (simp; done) | (simp [*]; done)), H', ⟨by have := HJ11.out; first | omega | exact Nat.le_refl _⟩, ⟨by (with_reducible repeat (first | apply Kd.R_alloc | apply Kd.R_drewN | apply Kd.R_drew)); exact HO_5.out⟩, ⟨by (with_reducible repeat (first | apply Kd.S_alloc | apply Kd.S_drewN | apply Kd.S_drew)); exact HO_6.out⟩, ⟨by repeat (first | (with_reducible first | exact HB.out | apply below_alloc | apply pw_below_drewN | apply below_drew1) | exact HB.out)⟩⟩
         ·as_aux_lemma =>
          rw [if_neg c50] at H
          exact absurd H (by simp)
        ·as_aux_lemma =>
         rw [if_neg c49] at H
         exact absurd H (by simp)
       ·as_aux_lemma =>
        rw [if_neg c47] at H
        have c47b0 : (((rd_L2 t582 0).length : Int) == (t579.length : Int)) = false := beq_eq_false_iff_ne.mpr c47
        have c47b1 : (((rd_L2 t582 0).length : Int) != (t579.length : Int)) = true := bne_iff_ne.mpr c47
        have c47b2 : ((rd_L2 t582 0).length == t579.length) = false := by first | simpa using c47 | (simp at c47 ⊢; omega)
        have H' := Aside0.mk H
        clear H
        obtain ⟨Ao54, co54, eo54⟩ := Kd.S_slice HO_6.out
        subst eo54
        have p599 : 0 ≤ (0 : Int) := (by omega)
        have q599 : 0 < (t582.length : Int) := of_decide_eq_true (by first | (with_reducible assumption) | assumption)
        obtain ⟨ad599, A599_0, c599_0, e599, hx599_0, hl599_0, hi599_0⟩ := at_L2 (Kd.S_reads' HO_6.out).2.2 0 p599 q599
        cases e599
        obtain ⟨ce599, hce599, hMe599, hcc599⟩ := Kd.S_get HO_6.out [] 0 p599 (by first | exact q599 | exact of_decide_eq_true (by first | (with_reducible assumption) | assumption) | (have e_ := (Kd.S_reads' HO_6.out).1; omega))
        obtain ⟨ve599_0, rfl, ge599_0⟩ := hMe599
        have hv599_0 := hcc599 0 _ rfl
        rw [Nat.add_zero, show ((Kd.slice 3 (Kd.int .i64))).sz = 1 from rfl, Nat.mul_one] at hv599_0
        replace hv599_0 := Option.some.inj (hv599_0.symm.trans hx599_0)
        rw [hv599_0] at ge599_0
        have HL599_0 := Aside0.mk (show Kd.R (Kd.int .i64) 3 _ _ _ _ (rd_L2 t582 0) from ge599_0)
        clear hv599_0 ge599_0
        clear hcc599 hce599
        have qi599 : (0 < t582.length) = True := eq_true (by omega)
        (try rw [show ((0 : Int)).toNat = 0 from rfl] at hx599_0)
        (try rw [Addr.add_zero'] at hx599_0)
        have HR599_0 := Aside0.mk hi599_0
        have HC599_0 := Aside0.mk hl599_0
        clear hi599_0 hl599_0
        replace p599 := eq_true p599
        replace q599 := eq_true q599
        go_wp2
        go_meet
        case rel => exact ⟨_, (true), (by first | rfl | (simp; done) | (simp [*]; done)), H', ⟨by have := HJ11.out; first | omega | exact Nat.le_refl _⟩, ⟨by (with_reducible repeat (first | apply Kd.R_alloc | apply Kd.R_drewN | apply Kd.R_drew)); exact HO_5.out⟩, ⟨by (with_reducible repeat (first | apply Kd.S_alloc | apply Kd.S_drewN | apply Kd.S_drew)); exact HO_6.out⟩, ⟨by repeat (first | (with_reducible first | exact HB.out | apply below_alloc | apply pw_below_drewN | apply below_drew1) | exact HB.out)⟩⟩
      ·as_aux_lemma =>
       rw [if_neg c46] at H
       exact absurd H (by simp)
     case rest => as_aux_lemma =>
      go_step
      exact laws_FnRoundsEnd.pc_j1 HJ11 (by assumption) (by assumption) hcut rfl rfl rfl
    ·as_aux_lemma =>
     replace c44 := Bool.eq_false_iff.mpr c44
     subst c44
     have H1 : (some true) = some r := by rw [if_neg (show ¬ (false = true) by decide)] at H; exact H
     clear H
     have H := H1
     clear H1
     obtain rfl := Option.some.inj H
     go_wp2
     go_ret
     exact ⟨by first | rfl | (simp [errW_none, errW_some] <;> rfl) | (simp [*, errW_none, errW_some] <;> rfl), by repeat (first | (with_reducible first | exact HB.out | apply below_alloc | apply pw_below_drewN | apply below_drew1) | exact HB.out)⟩

end Go.Proofs.Ytbiiklkkfkipeaa.X
