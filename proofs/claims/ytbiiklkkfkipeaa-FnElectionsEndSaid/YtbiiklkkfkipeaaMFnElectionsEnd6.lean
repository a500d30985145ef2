/- Several texts of this session in one: X494. -/
import Derived.Test.YtbiiklkkfkipeaaMFnElectionsEnd2
import Derived.Test.YtbiiklkkfkipeaaMFnElectionsEnd5
/- The walk of the law FnElectionsEnd, its first piece: written by this session's program wip/split/cut.py. -/
namespace Go.Proofs.Ytbiiklkkfkipeaa.X
open Go.RowKit Go.Proofs.YtbiiklkkfkipeaaW.PrintWords Go.Proofs.YtbiiklkkfkipeaaW.PrintLast Go.Proofs.YtbiiklkkfkipeaaW.PrintMore
attribute [local go_sem] max2_int min2_int max_two min_two max_three min_three max_four min_four   -- for this text's walks alone
set_option linter.unusedVariables false
set_option linter.unusedSimpArgs false

set_option maxHeartbeats 8000000 in
set_option maxRecDepth 100000 in
theorem laws_FnElectionsEnd.pc_e4 {cd0 : Code} {cd1 : Code} {k : Nat} {A0 : Option Addr} {c0 : Nat} {l0 : List Int} {A1 : Option Addr} {c1 : Nat} {l1 : List Int} {r : Bool} {w : World} (HR1 : Aside0 (Kd.C (Kd.int IntKind.u8) w A1 (List.length l1) l1)) (HC1 : Aside0 (List.length l1 ≤ c1)) {t649 t652 : List Int} {t653 t657 : Bool} {t660 : Int} {t661 : Bool} {t662 : Int} {t663 : Bool} {t664 : Int} {t665 : Bool} {Ao13 : Option Addr} {co13 : Nat} {v654 v658 : Value} {K_z1 : Act → World → Prop} (a_z1 : ∀ (a : Act) (w_1 : World), Code.wp Try.prog cd0 (bodyPost Try.prog Try.f14 fun (e : Ending) (w' : World) => e = Ending.returned (Value.bool r) ∧ Below (Array.size (World.heap w)) w w') a w_1 → K_z1 a w_1) {wc : World} {u47 u48 u49 u50 u51 u52 u53 u54 u55 u56 u57 u58 u59 u60 u61 u62 u63 u64 u65 u66 u67 u68 u69 u70 u71 u72 u73 u74 u75 u76 u77 u78 u79 u80 u81 u82 u83 u84 u85 u86 u87 u88 u89 u90 u91 u92 u93 u94 u95 u96 u97 u98 u99 u100 u101 u102 u103 u104 u105 u106 u107 u108 u109 u110 u111 u112 u113 u114 u115 u116 u117 u118 u119 u120 u121 u122 u123 u124 u125 u126 u130 u131 u132 u133 u134 u135 u136 u137 u138 u139 u140 u141 u142 u143 u144 u145 u146 u147 u148 u149 u150 u151 u152 u153 u154 u155 u156 u157 u158 u159 u160 u161 u162 u163 u164 u165 u166 u167 u168 u169 u170 u171 u172 u173 u174 u175 u176 u177 u178 u179 u180 u181 u182 u183 u184 u185 u186 u187 u188 u189 u190 u191 u192 u193 u194 u195 u196 u197 u198 u199 u200 u201 u202 u203 u204 u205 u206 u207 u208 u209 u210 u211 u212 u213 u214 u215 u216 u217 u218 u219 u220 u221 u222 u223 u224 u225 u226 u227 u228 u229 u230 u231 u232 u233 u234 u235 u236 u237 u238 u239 u240 u241 u242 u243 u244 u245 u246 u247 u248 u249 u250 u251 u252 u253 u254 u255 u256 u257 u258 u259 u260 u261 u262 u263 u264 u265 u266 u267 u268 u269 u270 u271 u272 u273 u274 u275 u276 u277 u278 u279 u280 u281 u282 u283 u284 u285 u286 u287 u288 u289 u290 u291 u292 u293 u294 u295 u296 u297 u298 u299 u300 u301 u302 u303 u304 u305 u306 u307 u308 u309 u310 u311 u312 u313 u314 u315 u316 u317 u318 u319 u322 u323 u324 u325 u326 u327 u328 u329 u330 u331 u332 u333 u334 u335 u336 u337 u338 u339 u340 u341 u342 u343 u344 u345 : Value} (hcut : ∃ (kq : Nat), ∃ (x123_10 : Bool), u123 = Value.bool x123_10 ∧ Aside0 (j0 kq l1 t649 t652 t653 t660 t662 x123_10 = some r) ∧ Aside0 (kq ≤ k) ∧ Aside0 (Kd.R (Kd.int IntKind.i64) 3 wc (Array.size (World.heap w)) (fun (k_ : Nat) => some k_ ≠ Value.ownBlock v654) (Value.slice Ao13 (List.length t649) co13) t649) ∧ Aside0 (Kd.R (Kd.int IntKind.i64) 3 wc (Array.size (World.heap w)) (fun (k_ : Nat) => some k_ ≠ Value.ownBlock (Value.slice Ao13 (List.length t649) co13)) v654 t652) ∧ Aside0 (Below (Array.size (World.heap w)) w wc)) (hcd0 : cd0 = cB (cB (cB (cB (cB (cB (cB (cB (cB (P14)))))))))) (hcd1 : cd1 = cB (cA (cB (cB (cB (cB (cB (cB (cB (cB (P14))))))))))) : Code.wp Try.prog cd1 (Exit.then K_z1 (bodyPost Try.prog Try.f14 fun (e : Ending) (w' : World) => e = Ending.returned (Value.bool r) ∧ Below (Array.size (World.heap w)) w w')) { tmps := #[Value.slice A0 (List.length l0) c0, Value.slice A1 (List.length l1) c1, undef, undef, Value.bool false, Value.slice Ao13 (List.length t649) co13, v654, Value.bool t653, v658, Value.bool t657, Value.int IntKind.i64 t660, Value.bool t661, Value.int IntKind.i64 t662, Value.bool t663, Value.int IntKind.i64 t664, Value.bool t665, undef, undef, undef, undef, undef, undef, undef, undef, undef, undef, undef, undef, undef, undef, undef, undef, undef, undef, undef, undef, undef, undef, undef, undef, undef, undef, undef, undef, undef, undef, undef, u47, u48, u49, u50, u51, u52, u53, u54, u55, u56, u57, u58, u59, u60, u61, u62, u63, u64, u65, u66, u67, u68, u69, u70, u71, u72, u73, u74, u75, u76, u77, u78, u79, u80, u81, u82, u83, u84, u85, u86, u87, u88, u89, u90, u91, u92, u93, u94, u95, u96, u97, u98, u99, u100, u101, u102, u103, u104, u105, u106, u107, u108, u109, u110, u111, u112, u113, u114, u115, u116, u117, u118, u119, u120, u121, u122, u123, u124, u125, u126, undef, undef, undef, u130, u131, u132, u133, u134, u135, u136, u137, u138, u139, u140, u141, u142, u143, u144, u145, u146, u147, u148, u149, u150, u151, u152, u153, u154, u155, u156, u157, u158, u159, u160, u161, u162, u163, u164, u165, u166, u167, u168, u169, u170, u171, u172, u173, u174, u175, u176, u177, u178, u179, u180, u181, u182, u183, u184, u185, u186, u187, u188, u189, u190, u191, u192, u193, u194, u195, u196, u197, u198, u199, u200, u201, u202, u203, u204, u205, u206, u207, u208, u209, u210, u211, u212, u213, u214, u215, u216, u217, u218, u219, u220, u221, u222, u223, u224, u225, u226, u227, u228, u229, u230, u231, u232, u233, u234, u235, u236, u237, u238, u239, u240, u241, u242, u243, u244, u245, u246, u247, u248, u249, u250, u251, u252, u253, u254, u255, u256, u257, u258, u259, u260, u261, u262, u263, u264, u265, u266, u267, u268, u269, u270, u271, u272, u273, u274, u275, u276, u277, u278, u279, u280, u281, u282, u283, u284, u285, u286, u287, u288, u289, u290, u291, u292, u293, u294, u295, u296, u297, u298, u299, u300, u301, u302, u303, u304, u305, u306, u307, u308, u309, u310, u311, u312, u313, u314, u315, u316, u317, u318, u319, undef, undef, u322, u323, u324, u325, u326, u327, u328, u329, u330, u331, u332, u333, u334, u335, u336, u337, u338, u339, u340, u341, u342, u343, u344, u345], defers := [] } wc := by
  conv at hcd0 => rhs; whnf
  subst hcd0
  conv at hcd1 => rhs; whnf
  subst hcd1
  obtain ⟨kq, x123_10, rfl, HA, HJ10, HO_5, HO_6, HB⟩ := hcut
  cases kq with
  | zero => exact absurd HA.out (by simp [laws_FnElectionsEnd.j0])
  | succ kj10 =>
   have H := HA.out
   clear HA
   simp only [laws_FnElectionsEnd.j0] at H
   by_cases c48 : x123_10 = true
   ·as_aux_lemma =>
    subst c48
    have H1 : (some false) = some r := by rw [if_pos rfl] at H; exact H
    clear H
    have H := H1
    clear H1
    obtain rfl := Option.some.inj H
    go_wp2
    repeat (go_quiet (fail); try go_wp2)
    go_ret
    exact ⟨by first | rfl | (simp [errW_none, errW_some] <;> rfl) | (simp [*, errW_none, errW_some] <;> rfl), by repeat (first | (with_reducible first | exact HB.out | apply below_alloc | apply pw_below_drewN | apply below_drew1) | exact HB.out)⟩
   ·as_aux_lemma =>
    replace c48 := Bool.eq_false_iff.mpr c48
    subst c48
    have H1 : (if t653 = true then (laws_FnElectionsEnd.l0 kj10 l1 t649 t660 t662 (t649.length : Int) t652 (t652.length : Int) 0) else (laws_FnElectionsEnd.j5 kj10 l1)) = some r := by rw [if_neg (show ¬ (false = true) by decide)] at H; exact H
    clear H
    have H := H1
    clear H1
    have HC49 := Aside0.mk H
    clear H
    go_upto_if 124 with (fail)
    repeat (go_quiet (fail); go_upto_if 124 with (fail))
    go_cut [] (fun wc => ∃ (kq : Nat), Aside0 (laws_FnElectionsEnd.j5 kq l1 = some r) ∧ Aside0 (kq ≤ kj10) ∧ Aside0 (Below w.heap.size w wc))
    case first => as_aux_lemma =>
     have H := HC49.out
     clear HC49
     by_cases c50 : t653 = true
     ·as_aux_lemma =>
      subst c50
      have H1 : (laws_FnElectionsEnd.l0 kj10 l1 t649 t660 t662 (t649.length : Int) t652 (t652.length : Int) 0) = some r := by rw [if_pos rfl] at H; exact H
      clear H
      have H := H1
      clear H1
      have H' := Aside0.mk H
      clear H
      obtain ⟨Ao51, co51, eo51⟩ := Kd.R_slice HO_6.out
      subst eo51
      go_wp2
      repeat (go_quiet (fail); try go_wp2)
      go_loopg [129] kj10 (fun kq v129 w' => ∃ (x129_2 : Int), v129 = .int .i64 x129_2 ∧ Aside0 (laws_FnElectionsEnd.l0 kq l1 t649 t660 t662 (t649.length : Int) t652 (t652.length : Int) x129_2 = some r) ∧ Aside0 (kq ≤ kj10) ∧ Aside0 (Kd.R (Kd.int .i64) 3 w' w.heap.size (fun k_ => some k_ ≠ ((.slice Ao51 t652.length co51) : Value).ownBlock) (.slice Ao13 t649.length co13) t649) ∧ Aside0 (Kd.R (Kd.int .i64) 3 w' w.heap.size (fun k_ => some k_ ≠ ((.slice Ao13 t649.length co13) : Value).ownBlock) (.slice Ao51 t652.length co51) t652) ∧ Aside0 (Below w.heap.size w w'))
      case atStart => exact ⟨(0), (by first | rfl | (simp; done) | (simp [*]; done)), H', ⟨Nat.le_refl _⟩, ⟨by (with_reducible repeat (first | apply Kd.R_alloc | apply Kd.R_drewN | apply Kd.R_drew)); exact HO_5.out⟩, ⟨by (with_reducible repeat (first | apply Kd.R_alloc | apply Kd.R_drewN | apply Kd.R_drew)); exact HO_6.out⟩, ⟨by repeat (first | (with_reducible first | exact HB.out | apply below_alloc | apply pw_below_drewN | apply below_drew1) | exact HB.out)⟩⟩
      case round => as_aux_lemma =>
       clear H'
       try clear c1
       try clear c2
       try clear p2
       try clear c3
       try clear c4
       try clear c5
       try clear c14
       try clear c18
       try clear c18b0
       try clear c18b1
       try clear c18b2
       try clear c20
       try clear c21
       try clear c21b0
       try clear c21b1
       try clear c21b2
       try clear c25
       try clear c25b0
       try clear c25b1
       try clear c26
       try clear c26b0
       try clear c26b1
       try clear c26b2
       try clear c29
       try clear c29b0
       try clear c29b1
       try clear c30
       try clear c30b0
       try clear c30b1
       try clear c30b2
       try clear c34
       try clear c34b0
       try clear c34b1
       try clear c34b2
       try clear c48
       try clear c50
       try clear p2
       obtain ⟨x129_2, rfl, HA, HK2, HO_5, HO_127, HB⟩ := hrel
       cases gk with
       | zero => exact absurd HA.out (by simp [laws_FnElectionsEnd.l0])
       | succ k2 =>
        have H := HA.out
        clear HA
        simp only [laws_FnElectionsEnd.l0] at H
        by_cases c52 : x129_2 < (t652.length : Int)
        ·as_aux_lemma =>
         rw [if_pos c52] at H
         have c52b0 : decide (x129_2 < (t652.length : Int)) = true := decide_eq_true c52
         clear c52
         (first | rw [c52b0] | (simp only [i64_w, i32_w]; rw [c52b0]) | skip)
         by_cases c53 : 0 ≤ x129_2
         ·as_aux_lemma =>
          rw [if_pos c53] at H
          have c53b0 : decide (0 ≤ x129_2) = true := decide_eq_true c53
          clear c53
          by_cases c54 : x129_2 < (t652.length : Int)
          ·as_aux_lemma =>
           rw [if_pos c54] at H
           have c54b0 : decide (x129_2 < (t652.length : Int)) = true := decide_eq_true c54
           clear c54
           have HC55 := Aside0.mk H
           clear H
           have p670 : 0 ≤ (x129_2 : Int) := of_decide_eq_true (by first | (with_reducible assumption) | assumption)
           have q670 : x129_2 < (t652.length : Int) := of_decide_eq_true (by first | (with_reducible assumption) | assumption)
           obtain ⟨ad670, e670, hx670_0⟩ := Kd.at_int (Kd.R_reads' HO_127.out).2.2 x129_2 p670 q670
           cases e670
           replace p670 := eq_true p670
           replace q670 := eq_true q670
           go_upto_region 16 with (fail)
           repeat (go_quiet (fail); go_upto_region 16 with (fail))
           go_cut [164] (fun v164 wc => ∃ (kq : Nat) (x164_54 : Bool), v164 = .bool x164_54 ∧ Aside0 (laws_FnElectionsEnd.j2 kq l1 t649 t660 t662 (t649.length : Int) x129_2 (rd t652 x129_2) t652 (t652.length : Int) x129_2 x164_54 = some r) ∧ Aside0 (kq ≤ k2) ∧ Aside0 (Kd.R (Kd.int .i64) 3 wc w.heap.size (fun k_ => some k_ ≠ ((.slice (some ad670) t652.length co51) : Value).ownBlock) (.slice Ao13 t649.length co13) t649) ∧ Aside0 (Kd.R (Kd.int .i64) 3 wc w.heap.size (fun k_ => some k_ ≠ ((.slice Ao13 t649.length co13) : Value).ownBlock) (.slice (some ad670) t652.length co51) t652) ∧ Aside0 (Below w.heap.size w wc))
           case first => as_aux_lemma =>
            have H := HC55.out
            clear HC55
            by_cases c56 : (((rd t652 x129_2) == (t649.length : Int)) != (x129_2 == t662)) = true
            ·as_aux_lemma =>
             rw [if_pos c56] at H
             have c56b0 : (((rd t652 x129_2) == (t649.length : Int)) != (x129_2 == t662)) = true := c56
             (try (have c56b1 : decide (((rd t652 x129_2) == (t649.length : Int)) = (x129_2 == t662)) = false := by simpa using c56))
             (try (have c56b2 : (((rd t652 x129_2) == (t649.length : Int)) == (x129_2 == t662)) = false := by simpa using c56))
             (try (have c56b3 : ¬ (((rd t652 x129_2) == (t649.length : Int)) = (x129_2 == t662)) := by simpa using c56))
             clear c56
             (first | rw [c56b0] | (simp only [i64_w, i32_w]; rw [c56b0]) | skip)
             have H' := Aside0.mk H
             clear H
             go_wp2
             repeat (go_quiet (fail); try go_wp2)
             go_meet
             case rel => exact ⟨_, (true), (by first | rfl | (simp; done) | (simp [*]; done)), H', ⟨by have := HJ10.out; have := HK2.out; first | omega | exact Nat.le_refl _⟩, ⟨by (with_reducible repeat (first | apply Kd.R_alloc | apply Kd.R_drewN | apply Kd.R_drew)); exact HO_5.out⟩, ⟨by (with_reducible repeat (first | apply Kd.R_alloc | apply Kd.R_drewN | apply Kd.R_drew)); exact HO_127.out⟩, ⟨by repeat (first | (with_reducible first | exact HB.out | apply below_alloc | apply pw_below_drewN | apply below_drew1) | exact HB.out)⟩⟩
            ·as_aux_lemma =>
             rw [if_neg c56] at H
             have c56b0 : (((rd t652 x129_2) == (t649.length : Int)) != (x129_2 == t662)) = false := by simpa using c56
             (try (have c56b1 : decide (((rd t652 x129_2) == (t649.length : Int)) = (x129_2 == t662)) = true := by simpa using c56))
             (try (have c56b2 : (((rd t652 x129_2) == (t649.length : Int)) == (x129_2 == t662)) = true := by simpa using c56))
             clear c56
             (first | rw [c56b0] | (simp only [i64_w, i32_w]; rw [c56b0]) | skip)
             by_cases c57 : (rd t652 x129_2) < 1
             ·as_aux_lemma =>
              rw [if_pos c57] at H
              have c57b0 : decide ((rd t652 x129_2) < 1) = true := decide_eq_true c57
              clear c57
              have H' := Aside0.mk H
              clear H
              go_wp2
              repeat (go_quiet (fail); try go_wp2)
              go_meet
              case rel => exact ⟨_, (true), (by first | rfl | (simp; done) | (simp [*]; done)), H', ⟨by have := HJ10.out; have := HK2.out; first | omega | exact Nat.le_refl _⟩, ⟨by (with_reducible repeat (first | apply Kd.R_alloc | apply Kd.R_drewN | apply Kd.R_drew)); exact HO_5.out⟩, ⟨by (with_reducible repeat (first | apply Kd.R_alloc | apply Kd.R_drewN | apply Kd.R_drew)); exact HO_127.out⟩, ⟨by repeat (first | (with_reducible first | exact HB.out | apply below_alloc | apply pw_below_drewN | apply below_drew1) | exact HB.out)⟩⟩
             ·as_aux_lemma =>
              rw [if_neg c57] at H
              have c57b0 : decide ((rd t652 x129_2) < 1) = false := decide_eq_false c57
              clear c57
              by_cases c58 : (rd t652 x129_2) < (t649.length : Int)
              ·as_aux_lemma =>
               rw [if_pos c58] at H
               have c58b0 : decide ((rd t652 x129_2) < (t649.length : Int)) = true := decide_eq_true c58
               clear c58
               by_cases c59 : (t649.length : Int) = 0
               ·as_aux_lemma =>
                rw [if_pos c59] at H
                exact absurd H (by simp)
               ·as_aux_lemma =>
                rw [if_neg c59] at H
                have c59b0 : ((t649.length : Int) == 0) = false := beq_eq_false_iff_ne.mpr c59
                have c59b1 : ((t649.length : Int) != 0) = true := bne_iff_ne.mpr c59
                have c59b2 : ¬ (t649 = []) := fun h_ => c59 (by rw [h_]; rfl)
                obtain ⟨ji60, hji60⟩ : ∃ j_ : Int, (Int.tmod (wrap64 (x129_2 + (rd t652 x129_2))) (t649.length : Int)) = j_ := ⟨_, rfl⟩
                replace H : (if 0 ≤ (ji60) then (if (ji60) < (t649.length : Int) then (if x129_2 < (t649.length : Int) then (laws_FnElectionsEnd.j2 k2 l1 t649 t660 t662 (t649.length : Int) x129_2 (rd t652 x129_2) t652 (t652.length : Int) x129_2 (decide ((rd t649 (ji60)) < (rd t649 x129_2)))) else (none)) else (none)) else (none)) = some r := by first | (rw [hji60] at H; exact H) | (simp only [hji60] at H ⊢; exact H)
                by_cases c61 : 0 ≤ (ji60)
                ·as_aux_lemma =>
                 rw [if_pos c61] at H
                 have c61b0 : decide (0 ≤ (ji60)) = true := decide_eq_true c61
                 clear c61
                 by_cases c62 : (ji60) < (t649.length : Int)
                 ·as_aux_lemma =>
                  rw [if_pos c62] at H
                  have c62b0 : decide ((ji60) < (t649.length : Int)) = true := decide_eq_true c62
                  clear c62
                  by_cases c63 : x129_2 < (t649.length : Int)
                  ·as_aux_lemma =>
                   rw [if_pos c63] at H
                   have c63b0 : decide (x129_2 < (t649.length : Int)) = true := decide_eq_true c63
                   clear c63
                   have H' := Aside0.mk H
                   clear H
                   have p671 : 0 ≤ ((ji60) : Int) := of_decide_eq_true (by first | (with_reducible assumption) | assumption)
                   have q671 : (ji60) < (t649.length : Int) := of_decide_eq_true (by first | (with_reducible assumption) | assumption)
                   obtain ⟨ad671, e671, hx671_0⟩ := Kd.at_int (Kd.R_reads' HO_5.out).2.2 (ji60) p671 q671
                   cases e671
                   replace p671 := eq_true p671
                   replace q671 := eq_true q671
                   have p672 : 0 ≤ (x129_2 : Int) := of_decide_eq_true (by first | (with_reducible assumption) | assumption)
                   have q672 : x129_2 < (t649.length : Int) := of_decide_eq_true (by first | (with_reducible assumption) | assumption)
                   obtain ⟨ad672, e672, hx672_0⟩ := Kd.at_int (Kd.R_reads' HO_5.out).2.2 x129_2 p672 q672
                   obtain rfl : ad671 = ad672 := (by injection e672)
                   replace p672 := eq_true p672
                   replace q672 := eq_true q672
                   go_wp2
                   repeat (go_quiet (fail); try go_wp2)
                   go_meet
                   case rel => exact ⟨_, (decide ((rd t649 (ji60)) < (rd t649 x129_2))), (by first | rfl | (simp; done) | (simp only [← hji60] <;> (first | rfl | simp)) | (simp [*]; done)), H', ⟨by have := HJ10.out; have := HK2.out; first | omega | exact Nat.le_refl _⟩, ⟨by (with_reducible repeat (first | apply Kd.R_alloc | apply Kd.R_drewN | apply Kd.R_drew)); exact HO_5.out⟩, ⟨by (with_reducible repeat (first | apply Kd.R_alloc | apply Kd.R_drewN | apply Kd.R_drew)); exact HO_127.out⟩, ⟨by repeat (first | (with_reducible first | exact HB.out | apply below_alloc | apply pw_below_drewN | apply below_drew1) | exact HB.out)⟩⟩
                  ·as_aux_lemma =>
                   rw [if_neg c63] at H
                   exact absurd H (by simp)
                 ·as_aux_lemma =>
                  rw [if_neg c62] at H
                  exact absurd H (by simp)
                ·as_aux_lemma =>
                 rw [if_neg c61] at H
                 exact absurd H (by simp)
              ·as_aux_lemma =>
               rw [if_neg c58] at H
               have c58b0 : decide ((rd t652 x129_2) < (t649.length : Int)) = false := decide_eq_false c58
               clear c58
               have H' := Aside0.mk H
               clear H
               go_wp2
               repeat (go_quiet (fail); try go_wp2)
               go_meet
               case rel => exact ⟨_, (false), (by first | rfl | (simp; done) | (simp [*]; done)), H', ⟨by have := HJ10.out; have := HK2.out; first | omega | exact Nat.le_refl _⟩, ⟨by (with_reducible repeat (first | apply Kd.R_alloc | apply Kd.R_drewN | apply Kd.R_drew)); exact HO_5.out⟩, ⟨by (with_reducible repeat (first | apply Kd.R_alloc | apply Kd.R_drewN | apply Kd.R_drew)); exact HO_127.out⟩, ⟨by repeat (first | (with_reducible first | exact HB.out | apply below_alloc | apply pw_below_drewN | apply below_drew1) | exact HB.out)⟩⟩
           case rest => as_aux_lemma =>
            clear HC55
            try clear c1
            try clear c2
            try clear p2
            try clear c3
            try clear c4
            try clear c5
            try clear c6
            try clear p6
            try clear q6
            try clear hx6
            try clear c14
            try clear c18
            try clear c18b0
            try clear c18b1
            try clear c18b2
            try clear c20
            try clear c21
            try clear c21b0
            try clear c21b1
            try clear c21b2
            try clear c25
            try clear c25b0
            try clear c25b1
            try clear c26
            try clear c26b0
            try clear c26b1
            try clear c26b2
            try clear c29
            try clear c29b0
            try clear c29b1
            try clear c30
            try clear c30b0
            try clear c30b1
            try clear c30b2
            try clear c34
            try clear c34b0
            try clear c34b1
            try clear c34b2
            try clear c48
            try clear c50
            try clear c52
            try clear c52b0
            try clear c53
            try clear c53b0
            try clear c54
            try clear c54b0
            try clear c56
            try clear c56b0
            try clear c56b1
            try clear c56b2
            try clear c57
            try clear c57b0
            try clear c58
            try clear c58b0
            try clear c59
            try clear c59b0
            try clear c59b1
            try clear c59b2
            try clear c61
            try clear c61b0
            try clear c62
            try clear c62b0
            try clear c63
            try clear c63b0
            try clear hx670_0
            try clear hx671_0
            try clear hx672_0
            try clear p2
            try clear p670
            try clear p671
            try clear p672
            try clear q670
            try clear q671
            try clear q672
            obtain ⟨kq, x164_54, rfl, HA, HJ54, HO_5, HO_127, HB⟩ := hcut
            cases kq with
            | zero => exact absurd HA.out (by simp [laws_FnElectionsEnd.j2])
            | succ kj54 =>
             have H := HA.out
             clear HA
             simp only [laws_FnElectionsEnd.j2] at H
             by_cases c64 : x164_54 = true
             ·as_aux_lemma =>
              subst c64
              have H1 : (some false) = some r := by rw [if_pos rfl] at H; exact H
              clear H
              have H := H1
              clear H1
              obtain rfl := Option.some.inj H
              go_wp2
              repeat (go_quiet (fail); try go_wp2)
              go_ret
              exact ⟨by first | rfl | (simp [errW_none, errW_some] <;> rfl) | (simp [*, errW_none, errW_some] <;> rfl), by repeat (first | (with_reducible first | exact HB.out | apply below_alloc | apply pw_below_drewN | apply below_drew1) | exact HB.out)⟩
             ·as_aux_lemma =>
              replace c64 := Bool.eq_false_iff.mpr c64
              subst c64
              have H1 : (laws_FnElectionsEnd.l1 kj54 l1 t649 t660 t662 (t649.length : Int) x129_2 (rd t652 x129_2) 1 t652 (t652.length : Int) x129_2) = some r := by rw [if_neg (show ¬ (false = true) by decide)] at H; exact H
              clear H
              have H := H1
              clear H1
              have H' := Aside0.mk H
              clear H
              go_wp2
              repeat (go_quiet (fail); try go_wp2)
              go_loopg [19] kj54 (fun kq v19 w' => ∃ (x19_4 : Int), v19 = .int .i64 x19_4 ∧ Aside0 (laws_FnElectionsEnd.l1 kq l1 t649 t660 t662 (t649.length : Int) x129_2 (rd t652 x129_2) x19_4 t652 (t652.length : Int) x129_2 = some r) ∧ Aside0 (kq ≤ kj54) ∧ Aside0 (Kd.R (Kd.int .i64) 3 w' w.heap.size (fun k_ => some k_ ≠ ((.slice (some ad670) t652.length co51) : Value).ownBlock) (.slice Ao13 t649.length co13) t649) ∧ Aside0 (Kd.R (Kd.int .i64) 3 w' w.heap.size (fun k_ => some k_ ≠ ((.slice Ao13 t649.length co13) : Value).ownBlock) (.slice (some ad670) t652.length co51) t652) ∧ Aside0 (Below w.heap.size w w'))
              case atStart => exact ⟨(1), (by first | rfl | (simp; done) | (simp [*]; done)), H', ⟨Nat.le_refl _⟩, ⟨by (with_reducible repeat (first | apply Kd.R_alloc | apply Kd.R_drewN | apply Kd.R_drew)); exact HO_5.out⟩, ⟨by (with_reducible repeat (first | apply Kd.R_alloc | apply Kd.R_drewN | apply Kd.R_drew)); exact HO_127.out⟩, ⟨by repeat (first | (with_reducible first | exact HB.out | apply below_alloc | apply pw_below_drewN | apply below_drew1) | exact HB.out)⟩⟩
              case round => as_aux_lemma =>
               clear H'
               try clear c1
               try clear c2
               try clear p2
               try clear c3
               try clear c4
               try clear c5
               try clear c6
               try clear p6
               try clear q6
               try clear hx6
               try clear c14
               try clear c18
               try clear c18b0
               try clear c18b1
               try clear c18b2
               try clear c20
               try clear c21
               try clear c21b0
               try clear c21b1
               try clear c21b2
               try clear c25
               try clear c25b0
               try clear c25b1
               try clear c26
               try clear c26b0
               try clear c26b1
               try clear c26b2
               try clear c29
               try clear c29b0
               try clear c29b1
               try clear c30
               try clear c30b0
               try clear c30b1
               try clear c30b2
               try clear c34
               try clear c34b0
               try clear c34b1
               try clear c34b2
               try clear c48
               try clear c50
               try clear c52
               try clear c52b0
               try clear c53
               try clear c53b0
               try clear c54
               try clear c54b0
               try clear c56
               try clear c56b0
               try clear c56b1
               try clear c56b2
               try clear c57
               try clear c57b0
               try clear c58
               try clear c58b0
               try clear c59
               try clear c59b0
               try clear c59b1
               try clear c59b2
               try clear c61
               try clear c61b0
               try clear c62
               try clear c62b0
               try clear c63
               try clear c63b0
               try clear c64
               try clear p64
               try clear hx670_0
               try clear hx671_0
               try clear hx672_0
               try clear p2
               try clear p6
               try clear p670
               try clear p671
               try clear p672
               try clear q6
               try clear q670
               try clear q671
               try clear q672
               obtain ⟨x19_4, rfl, HA, HK4, HO_5, HO_127, HB⟩ := hrel
               cases gk with
               | zero => exact absurd HA.out (by simp [laws_FnElectionsEnd.l1])
               | succ k4 =>
                have H := HA.out
                clear HA
                simp only [laws_FnElectionsEnd.l1] at H
                have HC65 := Aside0.mk H
                clear H
                go_upto_region 19 with (fail)
                repeat (go_quiet (fail); go_upto_region 19 with (fail))
                go_cut [172] (fun v172 wc => ∃ (kq : Nat) (x172_64 : Bool), v172 = .bool x172_64 ∧ Aside0 (laws_FnElectionsEnd.j4 kq l1 t649 t660 t662 (t649.length : Int) x129_2 (rd t652 x129_2) x19_4 t652 (t652.length : Int) x129_2 x172_64 = some r) ∧ Aside0 (kq ≤ k4) ∧ Aside0 (Kd.R (Kd.int .i64) 3 wc w.heap.size (fun k_ => some k_ ≠ ((.slice (some ad670) t652.length co51) : Value).ownBlock) (.slice Ao13 t649.length co13) t649) ∧ Aside0 (Kd.R (Kd.int .i64) 3 wc w.heap.size (fun k_ => some k_ ≠ ((.slice Ao13 t649.length co13) : Value).ownBlock) (.slice (some ad670) t652.length co51) t652) ∧ Aside0 (Below w.heap.size w wc))
                case first => as_aux_lemma =>
                 have H := HC65.out
                 clear HC65
                 by_cases c66 : x19_4 < (rd t652 x129_2)
                 ·as_aux_lemma =>
                  rw [if_pos c66] at H
                  have c66b0 : decide (x19_4 < (rd t652 x129_2)) = true := decide_eq_true c66
                  clear c66
                  (first | rw [c66b0] | (simp only [i64_w, i32_w]; rw [c66b0]) | skip)
                  have H' := Aside0.mk H
                  clear H
                  go_wp2
                  repeat (go_quiet (fail); try go_wp2)
                  go_meet
                  case rel => exact ⟨_, (decide (x19_4 < (t649.length : Int))), (by first | rfl | (simp; done) | (simp [*]; done)), H', ⟨by have := HJ10.out; have := HK2.out; have := HJ54.out; have := HK4.out; first | omega | exact Nat.le_refl _⟩, ⟨by (with_reducible repeat (first | apply Kd.R_alloc | apply Kd.R_drewN | apply Kd.R_drew)); exact HO_5.out⟩, ⟨by (with_reducible repeat (first | apply Kd.R_alloc | apply Kd.R_drewN | apply Kd.R_drew)); exact HO_127.out⟩, ⟨by repeat (first | (with_reducible first | exact HB.out | apply below_alloc | apply pw_below_drewN | apply below_drew1) | exact HB.out)⟩⟩
                 ·as_aux_lemma =>
                  rw [if_neg c66] at H
                  have c66b0 : decide (x19_4 < (rd t652 x129_2)) = false := decide_eq_false c66
                  clear c66
                  (first | rw [c66b0] | (simp only [i64_w, i32_w]; rw [c66b0]) | skip)
                  have H' := Aside0.mk H
                  clear H
                  go_wp2
                  repeat (go_quiet (fail); try go_wp2)
                  go_meet
                  case rel => exact ⟨_, (false), (by first | rfl | (simp; done) | (simp [*]; done)), H', ⟨by have := HJ10.out; have := HK2.out; have := HJ54.out; have := HK4.out; first | omega | exact Nat.le_refl _⟩, ⟨by (with_reducible repeat (first | apply Kd.R_alloc | apply Kd.R_drewN | apply Kd.R_drew)); exact HO_5.out⟩, ⟨by (with_reducible repeat (first | apply Kd.R_alloc | apply Kd.R_drewN | apply Kd.R_drew)); exact HO_127.out⟩, ⟨by repeat (first | (with_reducible first | exact HB.out | apply below_alloc | apply pw_below_drewN | apply below_drew1) | exact HB.out)⟩⟩
                case rest => as_aux_lemma =>
                 clear HC65
                 try clear c1
                 try clear c2
                 try clear p2
                 try clear c3
                 try clear c4
                 try clear c5
                 try clear c6
                 try clear p6
                 try clear q6
                 try clear hx6
                 try clear c14
                 try clear c18
                 try clear c18b0
                 try clear c18b1
                 try clear c18b2
                 try clear c20
                 try clear c21
                 try clear c21b0
                 try clear c21b1
                 try clear c21b2
                 try clear c25
                 try clear c25b0
                 try clear c25b1
                 try clear c26
                 try clear c26b0
                 try clear c26b1
                 try clear c26b2
                 try clear c29
                 try clear c29b0
                 try clear c29b1
                 try clear c30
                 try clear c30b0
                 try clear c30b1
                 try clear c30b2
                 try clear c34
                 try clear c34b0
                 try clear c34b1
                 try clear c34b2
                 try clear c48
                 try clear c50
                 try clear c52
                 try clear c52b0
                 try clear c53
                 try clear c53b0
                 try clear c54
                 try clear c54b0
                 try clear c56
                 try clear c56b0
                 try clear c56b1
                 try clear c56b2
                 try clear c57
                 try clear c57b0
                 try clear c58
                 try clear c58b0
                 try clear c59
                 try clear c59b0
                 try clear c59b1
                 try clear c59b2
                 try clear c61
                 try clear c61b0
                 try clear c62
                 try clear c62b0
                 try clear c63
                 try clear c63b0
                 try clear c64
                 try clear p64
                 try clear c66
                 try clear c66b0
                 try clear hx670_0
                 try clear hx671_0
                 try clear hx672_0
                 try clear p2
                 try clear p6
                 try clear p64
                 try clear p670
                 try clear p671
                 try clear p672
                 try clear q6
                 try clear q670
                 try clear q671
                 try clear q672
                 obtain ⟨kq, x172_64, rfl, HA, HJ64, HO_5, HO_127, HB⟩ := hcut
                 cases kq with
                 | zero => exact absurd HA.out (by simp [laws_FnElectionsEnd.j4])
                 | succ kj64 =>
                  have H := HA.out
                  clear HA
                  simp only [laws_FnElectionsEnd.j4] at H
                  by_cases c67 : x172_64 = true
                  ·as_aux_lemma =>
                   subst c67
                   have H1 : (if (t649.length : Int) = 0 then (none) else (if 0 ≤ (Int.tmod (wrap64 (x129_2 + x19_4)) (t649.length : Int)) then (if (Int.tmod (wrap64 (x129_2 + x19_4)) (t649.length : Int)) < (t649.length : Int) then (if 0 ≤ x129_2 then (if x129_2 < (t649.length : Int) then (if (rd t649 (Int.tmod (wrap64 (x129_2 + x19_4)) (t649.length : Int))) > (rd t649 x129_2) then (some false) else (laws_FnElectionsEnd.l1 kj64 l1 t649 t660 t662 (t649.length : Int) x129_2 (rd t652 x129_2) (wrap64 (x19_4 + 1)) t652 (t652.length : Int) x129_2)) else (none)) else (none)) else (none)) else (none))) = some r := by rw [if_pos rfl] at H; exact H
                   clear H
                   have H := H1
                   clear H1
                   by_cases c68 : (t649.length : Int) = 0
                   ·as_aux_lemma =>
                    rw [if_pos c68] at H
                    exact absurd H (by simp)
                   ·as_aux_lemma =>
                    rw [if_neg c68] at H
                    have c68b0 : ((t649.length : Int) == 0) = false := beq_eq_false_iff_ne.mpr c68
                    have c68b1 : ((t649.length : Int) != 0) = true := bne_iff_ne.mpr c68
                    have c68b2 : ¬ (t649 = []) := fun h_ => c68 (by rw [h_]; rfl)
                    obtain ⟨ji69, hji69⟩ : ∃ j_ : Int, (Int.tmod (wrap64 (x129_2 + x19_4)) (t649.length : Int)) = j_ := ⟨_, rfl⟩
                    replace H : (if 0 ≤ (ji69) then (if (ji69) < (t649.length : Int) then (if 0 ≤ x129_2 then (if x129_2 < (t649.length : Int) then (if (rd t649 (ji69)) > (rd t649 x129_2) then (some false) else (laws_FnElectionsEnd.l1 kj64 l1 t649 t660 t662 (t649.length : Int) x129_2 (rd t652 x129_2) (wrap64 (x19_4 + 1)) t652 (t652.length : Int) x129_2)) else (none)) else (none)) else (none)) else (none)) = some r := by first | (rw [hji69] at H; exact H) | (simp only [hji69] at H ⊢; exact H)
                    by_cases c70 : 0 ≤ (ji69)
                    ·as_aux_lemma =>
                     rw [if_pos c70] at H
                     have c70b0 : decide (0 ≤ (ji69)) = true := decide_eq_true c70
                     clear c70
                     by_cases c71 : (ji69) < (t649.length : Int)
                     ·as_aux_lemma =>
                      rw [if_pos c71] at H
                      have c71b0 : decide ((ji69) < (t649.length : Int)) = true := decide_eq_true c71
                      clear c71
                      by_cases c72 : 0 ≤ x129_2
                      ·as_aux_lemma =>
                       rw [if_pos c72] at H
                       have c72b0 : decide (0 ≤ x129_2) = true := decide_eq_true c72
                       clear c72
                       by_cases c73 : x129_2 < (t649.length : Int)
                       ·as_aux_lemma =>
                        rw [if_pos c73] at H
                        have c73b0 : decide (x129_2 < (t649.length : Int)) = true := decide_eq_true c73
                        clear c73
                        by_cases c74 : (rd t649 (ji69)) > (rd t649 x129_2)
                        ·as_aux_lemma =>
                         rw [if_pos c74] at H
                         have c74b0 : decide ((rd t649 x129_2) < (rd t649 (ji69))) = true := decide_eq_true c74
                         clear c74
                         obtain rfl := Option.some.inj H
                         have p673 : 0 ≤ ((ji69) : Int) := of_decide_eq_true (by first | (with_reducible assumption) | assumption)
                         have q673 : (ji69) < (t649.length : Int) := of_decide_eq_true (by first | (with_reducible assumption) | assumption)
                         obtain ⟨ad673, e673, hx673_0⟩ := Kd.at_int (Kd.R_reads' HO_5.out).2.2 (ji69) p673 q673
                         cases e673
                         replace p673 := eq_true p673
                         replace q673 := eq_true q673
                         have p674 : 0 ≤ (x129_2 : Int) := of_decide_eq_true (by first | (with_reducible assumption) | assumption)
                         have q674 : x129_2 < (t649.length : Int) := of_decide_eq_true (by first | (with_reducible assumption) | assumption)
                         obtain ⟨ad674, e674, hx674_0⟩ := Kd.at_int (Kd.R_reads' HO_5.out).2.2 x129_2 p674 q674
                         obtain rfl : ad673 = ad674 := (by injection e674)
                         replace p674 := eq_true p674
                         replace q674 := eq_true q674
                         go_wp2
                         repeat (go_quiet (fail); try go_wp2)
                         go_ret
                         exact ⟨by first | rfl | (simp [errW_none, errW_some] <;> rfl) | (simp only [← hji69]; first | rfl | (simp [errW_none, errW_some] <;> rfl)) | (simp [*, errW_none, errW_some] <;> rfl), by repeat (first | (with_reducible first | exact HB.out | apply below_alloc | apply pw_below_drewN | apply below_drew1) | exact HB.out)⟩
                        ·as_aux_lemma =>
                         rw [if_neg c74] at H
                         have c74b0 : decide ((rd t649 x129_2) < (rd t649 (ji69))) = false := decide_eq_false c74
                         clear c74
                         have H' := Aside0.mk H
                         clear H
                         have p673 : 0 ≤ ((ji69) : Int) := of_decide_eq_true (by first | (with_reducible assumption) | assumption)
                         have q673 : (ji69) < (t649.length : Int) := of_decide_eq_true (by first | (with_reducible assumption) | assumption)
                         obtain ⟨ad673, e673, hx673_0⟩ := Kd.at_int (Kd.R_reads' HO_5.out).2.2 (ji69) p673 q673
                         cases e673
                         replace p673 := eq_true p673
                         replace q673 := eq_true q673
                         have p674 : 0 ≤ (x129_2 : Int) := of_decide_eq_true (by first | (with_reducible assumption) | assumption)
                         have q674 : x129_2 < (t649.length : Int) := of_decide_eq_true (by first | (with_reducible assumption) | assumption)
                         obtain ⟨ad674, e674, hx674_0⟩ := Kd.at_int (Kd.R_reads' HO_5.out).2.2 x129_2 p674 q674
                         obtain rfl : ad673 = ad674 := (by injection e674)
                         replace p674 := eq_true p674
                         replace q674 := eq_true q674
                         go_wp2
                         repeat (go_quiet (fail); try go_wp2)
                         go_roundg kj64
                         case measure => have := HJ10.out; have := HK2.out; have := HJ54.out; have := HK4.out; have := HJ64.out; omega
                         case rel => exact ⟨(wrap64 (x19_4 + 1)), (by first | rfl | (simp; done) | (simp [*]; done)), H', ⟨by have := HJ10.out; have := HK2.out; have := HJ54.out; have := HK4.out; have := HJ64.out; omega⟩, ⟨by (with_reducible repeat (first | apply Kd.R_alloc | apply Kd.R_drewN | apply Kd.R_drew)); exact HO_5.out⟩, ⟨by (with_reducible repeat (first | apply Kd.R_alloc | apply Kd.R_drewN | apply Kd.R_drew)); exact HO_127.out⟩, ⟨by repeat (first | (with_reducible first | exact HB.out | apply below_alloc | apply pw_below_drewN | apply below_drew1) | exact HB.out)⟩⟩
                       ·as_aux_lemma =>
                        rw [if_neg c73] at H
                        exact absurd H (by simp)
                      ·as_aux_lemma =>
                       rw [if_neg c72] at H
                       exact absurd H (by simp)
                     ·as_aux_lemma =>
                      rw [if_neg c71] at H
                      exact absurd H (by simp)
                    ·as_aux_lemma =>
                     rw [if_neg c70] at H
                     exact absurd H (by simp)
                  ·as_aux_lemma =>
                   replace c67 := Bool.eq_false_iff.mpr c67
                   subst c67
                   have H1 : (laws_FnElectionsEnd.l0 kj64 l1 t649 t660 t662 (t649.length : Int) t652 (t652.length : Int) (wrap64 (x129_2 + 1))) = some r := by rw [if_neg (show ¬ (false = true) by decide)] at H; exact H
                   clear H
                   have H := H1
                   clear H1
                   have H' := Aside0.mk H
                   clear H
                   go_wp2
                   repeat (go_quiet (fail); try go_wp2)
                   go_roundg kj64
                   case measure => have := HJ10.out; have := HK2.out; have := HJ54.out; have := HK4.out; have := HJ64.out; omega
                   case rel => exact ⟨(wrap64 (x129_2 + 1)), (by first | rfl | (simp; done) | (simp [*]; done)), H', ⟨by have := HJ10.out; have := HK2.out; have := HJ54.out; have := HK4.out; have := HJ64.out; omega⟩, ⟨by (with_reducible repeat (first | apply Kd.R_alloc | apply Kd.R_drewN | apply Kd.R_drew)); exact HO_5.out⟩, ⟨by (with_reducible repeat (first | apply Kd.R_alloc | apply Kd.R_drewN | apply Kd.R_drew)); exact HO_127.out⟩, ⟨by repeat (first | (with_reducible first | exact HB.out | apply below_alloc | apply pw_below_drewN | apply below_drew1) | exact HB.out)⟩⟩
          ·as_aux_lemma =>
           rw [if_neg c54] at H
           exact absurd H (by simp)
         ·as_aux_lemma =>
          rw [if_neg c53] at H
          exact absurd H (by simp)
        ·as_aux_lemma =>
         rw [if_neg c52] at H
         have c52b0 : decide (x129_2 < (t652.length : Int)) = false := decide_eq_false c52
         clear c52
         (first | rw [c52b0] | (simp only [i64_w, i32_w]; rw [c52b0]) | skip)
         by_cases c75 : t660 < (wrap64 ((wrap64 (2 * (t649.length : Int))) - 1))
         ·as_aux_lemma =>
          rw [if_pos c75] at H
          have c75b0 : decide (t660 < (wrap64 ((wrap64 (2 * (t649.length : Int))) - 1))) = true := decide_eq_true c75
          clear c75
          obtain rfl := Option.some.inj H
          go_wp2
          repeat (go_quiet (fail); try go_wp2)
          go_ret
          exact ⟨by first | rfl | (simp [errW_none, errW_some] <;> rfl) | (simp [*, errW_none, errW_some] <;> rfl), by repeat (first | (with_reducible first | exact HB.out | apply below_alloc | apply pw_below_drewN | apply below_drew1) | exact HB.out)⟩
         ·as_aux_lemma =>
          rw [if_neg c75] at H
          have c75b0 : decide (t660 < (wrap64 ((wrap64 (2 * (t649.length : Int))) - 1))) = false := decide_eq_false c75
          clear c75
          by_cases c76 : t660 > (wrap64 (Int.tdiv (wrap64 ((t649.length : Int) * (wrap64 ((t649.length : Int) + 1)))) 2))
          ·as_aux_lemma =>
           rw [if_pos c76] at H
           have c76b0 : decide ((wrap64 (Int.tdiv (wrap64 ((t649.length : Int) * (wrap64 ((t649.length : Int) + 1)))) 2)) < t660) = true := decide_eq_true c76
           clear c76
           obtain rfl := Option.some.inj H
           go_wp2
           repeat (go_quiet (fail); try go_wp2)
           go_ret
           exact ⟨by first | rfl | (simp [errW_none, errW_some] <;> rfl) | (simp [*, errW_none, errW_some] <;> rfl), by repeat (first | (with_reducible first | exact HB.out | apply below_alloc | apply pw_below_drewN | apply below_drew1) | exact HB.out)⟩
          ·as_aux_lemma =>
           rw [if_neg c76] at H
           have c76b0 : decide ((wrap64 (Int.tdiv (wrap64 ((t649.length : Int) * (wrap64 ((t649.length : Int) + 1)))) 2)) < t660) = false := decide_eq_false c76
           clear c76
           have H' := Aside0.mk H
           clear H
           go_wp2
           repeat (go_quiet (fail); try go_wp2)
           go_meet
           case rel => exact ⟨_, H', ⟨by have := HJ10.out; have := HK2.out; first | omega | exact Nat.le_refl _⟩, ⟨by repeat (first | (with_reducible first | exact HB.out | apply below_alloc | apply pw_below_drewN | apply below_drew1) | exact HB.out)⟩⟩
     ·as_aux_lemma =>
      replace c50 := Bool.eq_false_iff.mpr c50
      subst c50
      have H1 : (laws_FnElectionsEnd.j5 kj10 l1) = some r := by rw [if_neg (show ¬ (false = true) by decide)] at H; exact H
      clear H
      have H := H1
      clear H1
      have H' := Aside0.mk H
      clear H
      go_wp2
      repeat (go_quiet (fail); try go_wp2)
      go_meet
      case rel => exact ⟨_, H', ⟨by have := HJ10.out; first | omega | exact Nat.le_refl _⟩, ⟨by repeat (first | (with_reducible first | exact HB.out | apply below_alloc | apply pw_below_drewN | apply below_drew1) | exact HB.out)⟩⟩
    case rest => as_aux_lemma =>
     go_step
     exact laws_FnElectionsEnd.pc_e5 HR1 HC1 HJ10 hcut rfl
end Go.Proofs.Ytbiiklkkfkipeaa.X
