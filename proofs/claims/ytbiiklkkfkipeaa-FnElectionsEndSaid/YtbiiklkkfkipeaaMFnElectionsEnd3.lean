/- Several texts of this session in one: X491. -/
import Derived.Test.YtbiiklkkfkipeaaMFnElectionsEnd2
/- The walk of the law FnElectionsEnd, its last piece: written by this session's program wip/split/cut.py. -/
namespace Go.Proofs.Ytbiiklkkfkipeaa.X
open Go.RowKit Go.Proofs.YtbiiklkkfkipeaaW.PrintWords Go.Proofs.YtbiiklkkfkipeaaW.PrintLast Go.Proofs.YtbiiklkkfkipeaaW.PrintMore
attribute [local go_sem] max2_int min2_int max_two min_two max_three min_three max_four min_four   -- for this text's walks alone
set_option linter.unusedVariables false
set_option linter.unusedSimpArgs false

set_option maxHeartbeats 8000000 in
set_option maxRecDepth 100000 in
theorem laws_FnElectionsEnd.pc_e7 {cd0 : Code} {k : Nat} {A0 : Option Addr} {c0 : Nat} {l0 : List Int} {A1 : Option Addr} {c1 : Nat} {l1 : List Int} {r : Bool} {w : World} (HR1 : Aside0 (Kd.C (Kd.int IntKind.u8) w A1 (List.length l1) l1)) (HC1 : Aside0 (List.length l1 ≤ c1)) {t649 : List Int} {t653 t657 : Bool} {t660 : Int} {t661 : Bool} {t662 : Int} {t663 : Bool} {t664 : Int} {t665 : Bool} {Ao13 : Option Addr} {co13 : Nat} {v654 v658 : Value} {kj10 : Nat} (HJ10 : Aside0 (kj10 + 1 ≤ k)) {u16 u17 u18 u19 u127 u128 u129 : Value} {kj48 : Nat} (HJ48 : Aside0 (kj48 + 1 ≤ kj10)) {t675 : Int} {t677 t683 t685 t691 : Bool} {v678 v681 v686 v689 : Value} {kj81 : Nat} (HJ81 : Aside0 (kj81 + 1 ≤ kj48)) {wc : World} {u4 u29 u30 u31 u32 u47 u48 u49 u50 u51 u52 u53 u54 u55 u56 u57 u58 u59 u60 u61 u62 u63 u64 u65 u66 u67 u68 u69 u70 u71 u72 u73 u74 u75 u76 u77 u78 u79 u80 u81 u82 u83 u84 u85 u86 u87 u88 u89 u90 u91 u92 u93 u94 u95 u96 u97 u98 u99 u100 u101 u102 u103 u104 u105 u106 u107 u108 u109 u110 u111 u112 u113 u114 u115 u116 u117 u118 u119 u120 u121 u122 u123 u124 u125 u126 u130 u131 u132 u133 u134 u135 u136 u137 u138 u139 u140 u141 u142 u143 u144 u145 u146 u147 u148 u149 u150 u151 u152 u153 u154 u155 u156 u157 u158 u159 u160 u161 u162 u163 u164 u165 u166 u167 u168 u169 u170 u171 u172 u173 u174 u175 u176 u177 u178 u179 u180 u181 u182 u183 u184 u185 u186 u187 u188 u189 u190 u191 u192 u193 u194 u195 u196 u197 u198 u199 u200 u201 u202 u203 u204 u205 u206 u207 u208 u209 u210 u211 u212 u213 u214 u215 u216 u217 u218 u219 u220 u221 u222 u223 u224 u225 u226 u227 u228 u229 u230 u231 u232 u233 u234 u235 u236 u237 u238 u239 u240 u241 u242 u243 u244 u245 u246 u247 u248 u249 u250 u251 u252 u253 u254 u255 u256 u257 u258 u259 u260 u261 u262 u263 u264 u265 u266 u267 u268 u269 u270 u271 u272 u273 u274 u275 u276 u277 u278 u279 u280 u281 u282 u283 u284 u285 u286 u287 u288 u289 u290 u291 u292 u293 u294 u295 u296 u297 u298 u299 u300 u301 u302 u303 u304 u305 u306 u307 u308 u309 u310 u311 u312 u313 u314 u315 u316 u317 u318 u319 u322 u323 u324 u325 u326 u327 u328 u329 u330 u331 u332 u333 u334 u335 u336 u337 u338 u339 u340 u341 u342 u343 u344 u345 : Value} (hcut : ∃ (kq : Nat), Aside0 (j7 kq l1 = some r) ∧ Aside0 (kq ≤ kj81) ∧ Aside0 (Below (Array.size (World.heap w)) w wc)) (hcd0 : cd0 = cB (cB (cB (cB (cB (cB (cB (cB (cB (cB (cB (cB (cB (cB (cB (cB (cB (P14)))))))))))))))))) : Code.wp Try.prog cd0 (bodyPost Try.prog Try.f14 fun (e : Ending) (w' : World) => e = Ending.returned (Value.bool r) ∧ Below (Array.size (World.heap w)) w w') { tmps := #[Value.slice A0 (List.length l0) c0, Value.slice A1 (List.length l1) c1, undef, undef, u4, Value.slice Ao13 (List.length t649) co13, v654, Value.bool t653, v658, Value.bool t657, Value.int IntKind.i64 t660, Value.bool t661, Value.int IntKind.i64 t662, Value.bool t663, Value.int IntKind.i64 t664, Value.bool t665, u16, u17, u18, u19, Value.int IntKind.i64 t675, v678, Value.bool t677, v681, Value.bool t683, v686, Value.bool t685, v689, Value.bool t691, u29, u30, u31, u32, undef, undef, undef, undef, undef, undef, undef, undef, undef, undef, undef, undef, undef, undef, u47, u48, u49, u50, u51, u52, u53, u54, u55, u56, u57, u58, u59, u60, u61, u62, u63, u64, u65, u66, u67, u68, u69, u70, u71, u72, u73, u74, u75, u76, u77, u78, u79, u80, u81, u82, u83, u84, u85, u86, u87, u88, u89, u90, u91, u92, u93, u94, u95, u96, u97, u98, u99, u100, u101, u102, u103, u104, u105, u106, u107, u108, u109, u110, u111, u112, u113, u114, u115, u116, u117, u118, u119, u120, u121, u122, u123, u124, u125, u126, u127, u128, u129, u130, u131, u132, u133, u134, u135, u136, u137, u138, u139, u140, u141, u142, u143, u144, u145, u146, u147, u148, u149, u150, u151, u152, u153, u154, u155, u156, u157, u158, u159, u160, u161, u162, u163, u164, u165, u166, u167, u168, u169, u170, u171, u172, u173, u174, u175, u176, u177, u178, u179, u180, u181, u182, u183, u184, u185, u186, u187, u188, u189, u190, u191, u192, u193, u194, u195, u196, u197, u198, u199, u200, u201, u202, u203, u204, u205, u206, u207, u208, u209, u210, u211, u212, u213, u214, u215, u216, u217, u218, u219, u220, u221, u222, u223, u224, u225, u226, u227, u228, u229, u230, u231, u232, u233, u234, u235, u236, u237, u238, u239, u240, u241, u242, u243, u244, u245, u246, u247, u248, u249, u250, u251, u252, u253, u254, u255, u256, u257, u258, u259, u260, u261, u262, u263, u264, u265, u266, u267, u268, u269, u270, u271, u272, u273, u274, u275, u276, u277, u278, u279, u280, u281, u282, u283, u284, u285, u286, u287, u288, u289, u290, u291, u292, u293, u294, u295, u296, u297, u298, u299, u300, u301, u302, u303, u304, u305, u306, u307, u308, u309, u310, u311, u312, u313, u314, u315, u316, u317, u318, u319, undef, undef, u322, u323, u324, u325, u326, u327, u328, u329, u330, u331, u332, u333, u334, u335, u336, u337, u338, u339, u340, u341, u342, u343, u344, u345], defers := [] } wc := by
  conv at hcd0 => rhs; whnf
  subst hcd0
  obtain ⟨kq, HA, HJ101, HB⟩ := hcut
  cases kq with
  | zero => exact absurd HA.out (by simp [laws_FnElectionsEnd.j7])
  | succ kj101 =>
   have H := HA.out
   clear HA
   simp only [laws_FnElectionsEnd.j7] at H
   replace H := Option.bind_eq_some_iff.mp H
   obtain ⟨t698, A1300, H⟩ := H
   replace H : ((impl_SumOfMessages.f kj101 t698).bind fun bt699 => ((spec_SumOfMessages.f kj101 t698).bind fun bt701 => (if (bt699.2 != bt701.2) = true then (laws_FnElectionsEnd.j8 kj101 t698 bt699.1 bt699.2 true) else (laws_FnElectionsEnd.j8 kj101 t698 bt699.1 bt699.2 (bt699.1 != bt701.1))))) = some r := H
   have A130 := Aside0.mk A1300
   clear A1300
   replace H := Option.bind_eq_some_iff.mp H
   obtain ⟨⟨t699, t700⟩, A1310, H⟩ := H
   replace H : ((spec_SumOfMessages.f kj101 t698).bind fun bt701 => (if (t700 != bt701.2) = true then (laws_FnElectionsEnd.j8 kj101 t698 t699 t700 true) else (laws_FnElectionsEnd.j8 kj101 t698 t699 t700 (t699 != bt701.1)))) = some r := H
   have A131 := Aside0.mk A1310
   clear A1310
   replace H := Option.bind_eq_some_iff.mp H
   obtain ⟨⟨t701, t702⟩, A1320, H⟩ := H
   replace H : (if (t700 != t702) = true then (laws_FnElectionsEnd.j8 kj101 t698 t699 t700 true) else (laws_FnElectionsEnd.j8 kj101 t698 t699 t700 (t699 != t701))) = some r := H
   have A132 := Aside0.mk A1320
   clear A1320
   have HC133 := Aside0.mk H
   clear H
   go_upto_region 41 with (first | (go_at_call 50; (with_reducible refine (spec_DrawSumOfMessages.calls _ _ l1 t698 _ ?side1 ?side2 A130.out).mono ?_); (case side1 => repeat (first | exact (Kd.C_below HR1.out HB.out) | (with_reducible refine Kd.C_alloc ?_ _) | (with_reducible refine Kd.C_drewN ?_ _) | (with_reducible refine Kd.C_drew ?_))); (case side2 => exact HC1.out); rintro e w134 ⟨rfl, hb⟩; have n0_ := Aside0.mk (below_step (by repeat (first | (with_reducible first | exact HB.out | apply below_alloc | apply pw_below_drewN | apply below_drew1) | exact HB.out)) hb); clear HB; have HB := n0_; clear n0_; (try clear hb); (try clear hb2); (try clear hk); (try clear hi)) | (go_at_call 16; (with_reducible refine (impl_SumOfMessages.calls kj101 t698 t699 t700 _ A131.out).mono ?_); rintro e w' ⟨rfl, ⟨nd, rfl⟩⟩; (try first | exact ⟨rfl, _, World.drewN_drewN _ _ _⟩ | exact ⟨rfl, _, Eq.trans (World.drewN_drewN _ _ _) (congrArg (World.drewN _) (Nat.add_assoc _ _ _))⟩)) | (go_at_call 15; (with_reducible refine (spec_SumOfMessages.calls kj101 t698 t701 t702 _ A132.out).mono ?_); rintro e w' ⟨rfl, ⟨nd, rfl⟩⟩; (try first | exact ⟨rfl, _, World.drewN_drewN _ _ _⟩ | exact ⟨rfl, _, Eq.trans (World.drewN_drewN _ _ _) (congrArg (World.drewN _) (Nat.add_assoc _ _ _))⟩)))
   repeat (go_quiet (first | (go_at_call 50; (with_reducible refine (spec_DrawSumOfMessages.calls _ _ l1 t698 _ ?side1 ?side2 A130.out).mono ?_); (case side1 => repeat (first | exact (Kd.C_below HR1.out HB.out) | (with_reducible refine Kd.C_alloc ?_ _) | (with_reducible refine Kd.C_drewN ?_ _) | (with_reducible refine Kd.C_drew ?_))); (case side2 => exact HC1.out); rintro e w134 ⟨rfl, hb⟩; have n0_ := Aside0.mk (below_step (by repeat (first | (with_reducible first | exact HB.out | apply below_alloc | apply pw_below_drewN | apply below_drew1) | exact HB.out)) hb); clear HB; have HB := n0_; clear n0_; (try clear hb); (try clear hb2); (try clear hk); (try clear hi)) | (go_at_call 16; (with_reducible refine (impl_SumOfMessages.calls kj101 t698 t699 t700 _ A131.out).mono ?_); rintro e w' ⟨rfl, ⟨nd, rfl⟩⟩; (try first | exact ⟨rfl, _, World.drewN_drewN _ _ _⟩ | exact ⟨rfl, _, Eq.trans (World.drewN_drewN _ _ _) (congrArg (World.drewN _) (Nat.add_assoc _ _ _))⟩)) | (go_at_call 15; (with_reducible refine (spec_SumOfMessages.calls kj101 t698 t701 t702 _ A132.out).mono ?_); rintro e w' ⟨rfl, ⟨nd, rfl⟩⟩; (try first | exact ⟨rfl, _, World.drewN_drewN _ _ _⟩ | exact ⟨rfl, _, Eq.trans (World.drewN_drewN _ _ _) (congrArg (World.drewN _) (Nat.add_assoc _ _ _))⟩))); go_upto_region 41 with (first | (go_at_call 50; (with_reducible refine (spec_DrawSumOfMessages.calls _ _ l1 t698 _ ?side1 ?side2 A130.out).mono ?_); (case side1 => repeat (first | exact (Kd.C_below HR1.out HB.out) | (with_reducible refine Kd.C_alloc ?_ _) | (with_reducible refine Kd.C_drewN ?_ _) | (with_reducible refine Kd.C_drew ?_))); (case side2 => exact HC1.out); rintro e w134 ⟨rfl, hb⟩; have n0_ := Aside0.mk (below_step (by repeat (first | (with_reducible first | exact HB.out | apply below_alloc | apply pw_below_drewN | apply below_drew1) | exact HB.out)) hb); clear HB; have HB := n0_; clear n0_; (try clear hb); (try clear hb2); (try clear hk); (try clear hi)) | (go_at_call 16; (with_reducible refine (impl_SumOfMessages.calls kj101 t698 t699 t700 _ A131.out).mono ?_); rintro e w' ⟨rfl, ⟨nd, rfl⟩⟩; (try first | exact ⟨rfl, _, World.drewN_drewN _ _ _⟩ | exact ⟨rfl, _, Eq.trans (World.drewN_drewN _ _ _) (congrArg (World.drewN _) (Nat.add_assoc _ _ _))⟩)) | (go_at_call 15; (with_reducible refine (spec_SumOfMessages.calls kj101 t698 t701 t702 _ A132.out).mono ?_); rintro e w' ⟨rfl, ⟨nd, rfl⟩⟩; (try first | exact ⟨rfl, _, World.drewN_drewN _ _ _⟩ | exact ⟨rfl, _, Eq.trans (World.drewN_drewN _ _ _) (congrArg (World.drewN _) (Nat.add_assoc _ _ _))⟩))))
   (try simp only [Act.put, List.setIfInBounds_toArray, List.set_cons_zero, List.set_cons_succ])
   go_cut [297] (fun v297 wc => ∃ (kq : Nat) (x297_132 : Bool), v297 = .bool x297_132 ∧ Aside0 (laws_FnElectionsEnd.j8 kq t698 t699 t700 x297_132 = some r) ∧ Aside0 (kq ≤ kj101) ∧ Aside0 (Below w.heap.size w wc))
   case first => as_aux_lemma =>
    have H := HC133.out
    clear HC133
    by_cases c135 : (t700 != t702) = true
    ·as_aux_lemma =>
     rw [if_pos c135] at H
     have c135b0 : (t700 != t702) = true := c135
     (try (have c135b1 : decide (t700 = t702) = false := by simpa using c135))
     (try (have c135b2 : (t700 == t702) = false := by simpa using c135))
     (try (have c135b3 : ¬ (t700 = t702) := by simpa using c135))
     clear c135
     (first | rw [c135b0] | (simp only [i64_w, i32_w]; rw [c135b0]) | skip)
     have H' := Aside0.mk H
     clear H
     go_wp2
     repeat (go_quiet (fail); try go_wp2)
     go_meet
     case rel => exact ⟨_, (true), (by first | rfl | (simp; done) | (simp [*]; done)), H', ⟨by have := HJ10.out; have := HJ48.out; have := HJ81.out; have := HJ101.out; first | omega | exact Nat.le_refl _⟩, ⟨by repeat (first | (with_reducible first | exact HB.out | apply below_alloc | apply pw_below_drewN | apply below_drew1) | exact HB.out)⟩⟩
    ·as_aux_lemma =>
     rw [if_neg c135] at H
     have c135b0 : (t700 != t702) = false := by simpa using c135
     (try (have c135b1 : decide (t700 = t702) = true := by simpa using c135))
     (try (have c135b2 : (t700 == t702) = true := by simpa using c135))
     clear c135
     (first | rw [c135b0] | (simp only [i64_w, i32_w]; rw [c135b0]) | skip)
     have H' := Aside0.mk H
     clear H
     go_wp2
     repeat (go_quiet (fail); try go_wp2)
     go_meet
     case rel => exact ⟨_, ((t699 != t701)), (by first | rfl | (simp; done) | (simp [*]; done)), H', ⟨by have := HJ10.out; have := HJ48.out; have := HJ81.out; have := HJ101.out; first | omega | exact Nat.le_refl _⟩, ⟨by repeat (first | (with_reducible first | exact HB.out | apply below_alloc | apply pw_below_drewN | apply below_drew1) | exact HB.out)⟩⟩
   case rest => as_aux_lemma =>
    clear HC133
    try clear c1
    try clear c2
    try clear p2
    try clear c3
    try clear c4
    try clear c5
    try clear c6
    try clear p6
    try clear q6
    try clear hx6
    try clear c7
    try clear c8
    try clear c9
    try clear c10
    try clear c13
    try clear c14
    try clear c18
    try clear c18b0
    try clear c18b1
    try clear c18b2
    try clear c20
    try clear c21
    try clear c21b0
    try clear c21b1
    try clear c21b2
    try clear c25
    try clear c25b0
    try clear c25b1
    try clear c26
    try clear c26b0
    try clear c26b1
    try clear c26b2
    try clear c29
    try clear c29b0
    try clear c29b1
    try clear c30
    try clear c30b0
    try clear c30b1
    try clear c30b2
    try clear c34
    try clear c34b0
    try clear c34b1
    try clear c34b2
    try clear c48
    try clear c50
    try clear c52
    try clear c52b0
    try clear c53
    try clear c53b0
    try clear c54
    try clear c54b0
    try clear c56
    try clear c56b0
    try clear c56b1
    try clear c56b2
    try clear c57
    try clear c57b0
    try clear c58
    try clear c58b0
    try clear c59
    try clear c59b0
    try clear c59b1
    try clear c59b2
    try clear c61
    try clear c61b0
    try clear c62
    try clear c62b0
    try clear c63
    try clear c63b0
    try clear c64
    try clear p64
    try clear c66
    try clear c66b0
    try clear c67
    try clear p67
    try clear q67
    try clear hx67
    try clear c68
    try clear c68b0
    try clear c68b1
    try clear c68b2
    try clear c70
    try clear c70b0
    try clear c71
    try clear c71b0
    try clear c72
    try clear c72b0
    try clear c73
    try clear c73b0
    try clear c74
    try clear c74b0
    try clear c75
    try clear c75b0
    try clear c76
    try clear c76b0
    try clear c88
    try clear c88b0
    try clear c88b1
    try clear c88b2
    try clear c90
    try clear c91
    try clear c91b0
    try clear c91b1
    try clear c91b2
    try clear c101
    try clear c103
    try clear c106
    try clear c107
    try clear c107b0
    try clear c107b1
    try clear c108
    try clear c109
    try clear c109b0
    try clear c109b1
    try clear c135
    try clear c135b0
    try clear c135b1
    try clear c135b2
    try clear hx670_0
    try clear hx671_0
    try clear hx672_0
    try clear hx673_0
    try clear hx674_0
    try clear p2
    try clear p6
    try clear p64
    try clear p67
    try clear p670
    try clear p671
    try clear p672
    try clear p673
    try clear p674
    try clear q6
    try clear q67
    try clear q670
    try clear q671
    try clear q672
    try clear q673
    try clear q674
    obtain ⟨kq, x297_132, rfl, HA, HJ132, HB⟩ := hcut
    cases kq with
    | zero => exact absurd HA.out (by simp [laws_FnElectionsEnd.j8])
    | succ kj132 =>
     have H := HA.out
     clear HA
     simp only [laws_FnElectionsEnd.j8] at H
     by_cases c136 : x297_132 = true
     ·as_aux_lemma =>
      subst c136
      have H1 : (some false) = some r := by rw [if_pos rfl] at H; exact H
      clear H
      have H := H1
      clear H1
      obtain rfl := Option.some.inj H
      go_wp2
      repeat (go_quiet (fail); try go_wp2)
      go_ret
      exact ⟨by first | rfl | (simp [errW_none, errW_some] <;> rfl) | (simp [*, errW_none, errW_some] <;> rfl), by repeat (first | (with_reducible first | exact HB.out | apply below_alloc | apply pw_below_drewN | apply below_drew1) | exact HB.out)⟩
     ·as_aux_lemma =>
      replace c136 := Bool.eq_false_iff.mpr c136
      subst c136
      have H1 : (if t700 = true then (laws_FnElectionsEnd.j9 kj132 t698 t699 (decide (t698 ≤ 4))) else (laws_FnElectionsEnd.j9 kj132 t698 t699 false)) = some r := by rw [if_neg (show ¬ (false = true) by decide)] at H; exact H
      clear H
      have H := H1
      clear H1
      have HC137 := Aside0.mk H
      clear H
      go_upto_region 43 with (fail)
      repeat (go_quiet (fail); go_upto_region 43 with (fail))
      go_cut [302] (fun v302 wc => ∃ (kq : Nat) (x302_136 : Bool), v302 = .bool x302_136 ∧ Aside0 (laws_FnElectionsEnd.j9 kq t698 t699 x302_136 = some r) ∧ Aside0 (kq ≤ kj132) ∧ Aside0 (Below w.heap.size w wc))
      case first => as_aux_lemma =>
       have H := HC137.out
       clear HC137
       by_cases c138 : t700 = true
       ·as_aux_lemma =>
        subst c138
        have H1 : (laws_FnElectionsEnd.j9 kj132 t698 t699 (decide (t698 ≤ 4))) = some r := by rw [if_pos rfl] at H; exact H
        clear H
        have H := H1
        clear H1
        have H' := Aside0.mk H
        clear H
        go_wp2
        repeat (go_quiet (fail); try go_wp2)
        go_meet
        case rel => exact ⟨_, (decide (t698 ≤ 4)), (by first | rfl | (simp; done) | (simp [*]; done)), H', ⟨by have := HJ10.out; have := HJ48.out; have := HJ81.out; have := HJ101.out; have := HJ132.out; first | omega | exact Nat.le_refl _⟩, ⟨by repeat (first | (with_reducible first | exact HB.out | apply below_alloc | apply pw_below_drewN | apply below_drew1) | exact HB.out)⟩⟩
       ·as_aux_lemma =>
        replace c138 := Bool.eq_false_iff.mpr c138
        subst c138
        have H1 : (laws_FnElectionsEnd.j9 kj132 t698 t699 false) = some r := by rw [if_neg (show ¬ (false = true) by decide)] at H; exact H
        clear H
        have H := H1
        clear H1
        have H' := Aside0.mk H
        clear H
        go_wp2
        repeat (go_quiet (fail); try go_wp2)
        go_meet
        case rel => exact ⟨_, (false), (by first | rfl | (simp; done) | (simp [*]; done)), H', ⟨by have := HJ10.out; have := HJ48.out; have := HJ81.out; have := HJ101.out; have := HJ132.out; first | omega | exact Nat.le_refl _⟩, ⟨by repeat (first | (with_reducible first | exact HB.out | apply below_alloc | apply pw_below_drewN | apply below_drew1) | exact HB.out)⟩⟩
      case rest => as_aux_lemma =>
       clear HC137
       try clear c1
       try clear c2
       try clear p2
       try clear c3
       try clear c4
       try clear c5
       try clear c6
       try clear p6
       try clear q6
       try clear hx6
       try clear c7
       try clear c8
       try clear c9
       try clear c10
       try clear c13
       try clear c14
       try clear c18
       try clear c18b0
       try clear c18b1
       try clear c18b2
       try clear c20
       try clear c21
       try clear c21b0
       try clear c21b1
       try clear c21b2
       try clear c25
       try clear c25b0
       try clear c25b1
       try clear c26
       try clear c26b0
       try clear c26b1
       try clear c26b2
       try clear c29
       try clear c29b0
       try clear c29b1
       try clear c30
       try clear c30b0
       try clear c30b1
       try clear c30b2
       try clear c34
       try clear c34b0
       try clear c34b1
       try clear c34b2
       try clear c48
       try clear c50
       try clear c52
       try clear c52b0
       try clear c53
       try clear c53b0
       try clear c54
       try clear c54b0
       try clear c56
       try clear c56b0
       try clear c56b1
       try clear c56b2
       try clear c57
       try clear c57b0
       try clear c58
       try clear c58b0
       try clear c59
       try clear c59b0
       try clear c59b1
       try clear c59b2
       try clear c61
       try clear c61b0
       try clear c62
       try clear c62b0
       try clear c63
       try clear c63b0
       try clear c64
       try clear p64
       try clear c66
       try clear c66b0
       try clear c67
       try clear p67
       try clear q67
       try clear hx67
       try clear c68
       try clear c68b0
       try clear c68b1
       try clear c68b2
       try clear c70
       try clear c70b0
       try clear c71
       try clear c71b0
       try clear c72
       try clear c72b0
       try clear c73
       try clear c73b0
       try clear c74
       try clear c74b0
       try clear c75
       try clear c75b0
       try clear c76
       try clear c76b0
       try clear c88
       try clear c88b0
       try clear c88b1
       try clear c88b2
       try clear c90
       try clear c91
       try clear c91b0
       try clear c91b1
       try clear c91b2
       try clear c101
       try clear c103
       try clear c106
       try clear c107
       try clear c107b0
       try clear c107b1
       try clear c108
       try clear c109
       try clear c109b0
       try clear c109b1
       try clear c135
       try clear c135b0
       try clear c135b1
       try clear c135b2
       try clear c136
       try clear c138
       try clear hx670_0
       try clear hx671_0
       try clear hx672_0
       try clear hx673_0
       try clear hx674_0
       try clear p2
       try clear p6
       try clear p64
       try clear p67
       try clear p670
       try clear p671
       try clear p672
       try clear p673
       try clear p674
       try clear q6
       try clear q67
       try clear q670
       try clear q671
       try clear q672
       try clear q673
       try clear q674
       obtain ⟨kq, x302_136, rfl, HA, HJ136, HB⟩ := hcut
       cases kq with
       | zero => exact absurd HA.out (by simp [laws_FnElectionsEnd.j9])
       | succ kj136 =>
        have H := HA.out
        clear HA
        simp only [laws_FnElectionsEnd.j9] at H
        by_cases c139 : x302_136 = true
        ·as_aux_lemma =>
         subst c139
         have H1 : (laws_FnElectionsEnd.l2 kj136 t698 t699 0 1 0) = some r := by rw [if_pos rfl] at H; exact H
         clear H
         have H := H1
         clear H1
         have H' := Aside0.mk H
         clear H
         go_wp2
         repeat (go_quiet (fail); try go_wp2)
         go_loopg [39, 40] kj136 (fun kq v39 v40 w' => ∃ (x39_7 : Int) (x40_7 : Int), v39 = .int .i64 x39_7 ∧ v40 = .int .i64 x40_7 ∧ Aside0 (laws_FnElectionsEnd.l2 kq t698 t699 0 x39_7 x40_7 = some r) ∧ Aside0 (kq ≤ kj136) ∧ Aside0 (Below w.heap.size w w'))
         case atStart => exact ⟨(1), (0), (by first | rfl | (simp; done) | (simp [*]; done)), (by first | rfl | (simp; done) | (simp [*]; done)), H', ⟨Nat.le_refl _⟩, ⟨by repeat (first | (with_reducible first | exact HB.out | apply below_alloc | apply pw_below_drewN | apply below_drew1) | exact HB.out)⟩⟩
         case round => as_aux_lemma =>
          clear H'
          try clear c1
          try clear c2
          try clear p2
          try clear c3
          try clear c4
          try clear c5
          try clear c6
          try clear p6
          try clear q6
          try clear hx6
          try clear c7
          try clear c8
          try clear c9
          try clear c10
          try clear c13
          try clear c14
          try clear c18
          try clear c18b0
          try clear c18b1
          try clear c18b2
          try clear c20
          try clear c21
          try clear c21b0
          try clear c21b1
          try clear c21b2
          try clear c25
          try clear c25b0
          try clear c25b1
          try clear c26
          try clear c26b0
          try clear c26b1
          try clear c26b2
          try clear c29
          try clear c29b0
          try clear c29b1
          try clear c30
          try clear c30b0
          try clear c30b1
          try clear c30b2
          try clear c34
          try clear c34b0
          try clear c34b1
          try clear c34b2
          try clear c48
          try clear c50
          try clear c52
          try clear c52b0
          try clear c53
          try clear c53b0
          try clear c54
          try clear c54b0
          try clear c56
          try clear c56b0
          try clear c56b1
          try clear c56b2
          try clear c57
          try clear c57b0
          try clear c58
          try clear c58b0
          try clear c59
          try clear c59b0
          try clear c59b1
          try clear c59b2
          try clear c61
          try clear c61b0
          try clear c62
          try clear c62b0
          try clear c63
          try clear c63b0
          try clear c64
          try clear p64
          try clear c66
          try clear c66b0
          try clear c67
          try clear p67
          try clear q67
          try clear hx67
          try clear c68
          try clear c68b0
          try clear c68b1
          try clear c68b2
          try clear c70
          try clear c70b0
          try clear c71
          try clear c71b0
          try clear c72
          try clear c72b0
          try clear c73
          try clear c73b0
          try clear c74
          try clear c74b0
          try clear c75
          try clear c75b0
          try clear c76
          try clear c76b0
          try clear c88
          try clear c88b0
          try clear c88b1
          try clear c88b2
          try clear c90
          try clear c91
          try clear c91b0
          try clear c91b1
          try clear c91b2
          try clear c101
          try clear c103
          try clear c106
          try clear c107
          try clear c107b0
          try clear c107b1
          try clear c108
          try clear c109
          try clear c109b0
          try clear c109b1
          try clear c135
          try clear c135b0
          try clear c135b1
          try clear c135b2
          try clear c136
          try clear c138
          try clear c139
          try clear hx670_0
          try clear hx671_0
          try clear hx672_0
          try clear hx673_0
          try clear hx674_0
          try clear p2
          try clear p6
          try clear p64
          try clear p67
          try clear p670
          try clear p671
          try clear p672
          try clear p673
          try clear p674
          try clear q6
          try clear q67
          try clear q670
          try clear q671
          try clear q672
          try clear q673
          try clear q674
          obtain ⟨x39_7, x40_7, rfl, rfl, HA, HK7, HB⟩ := hrel
          cases gk with
          | zero => exact absurd HA.out (by simp [laws_FnElectionsEnd.l2])
          | succ k7 =>
           have H := HA.out
           clear HA
           simp only [laws_FnElectionsEnd.l2] at H
           by_cases c140 : x40_7 < t698
           ·as_aux_lemma =>
            rw [if_pos c140] at H
            have c140b0 : decide (x40_7 < t698) = true := decide_eq_true c140
            clear c140
            have H' := Aside0.mk H
            clear H
            go_wp2
            repeat (go_quiet (fail); try go_wp2)
            go_roundg k7
            case measure => have := HJ10.out; have := HJ48.out; have := HJ81.out; have := HJ101.out; have := HJ132.out; have := HJ136.out; have := HK7.out; omega
            case rel => exact ⟨(wrap64 (x39_7 * t698)), (wrap64 (x40_7 + 1)), (by first | rfl | (simp; done) | (simp [*]; done)), (by first | rfl | (simp; done) | (simp [*]; done)), H', ⟨by have := HJ10.out; have := HJ48.out; have := HJ81.out; have := HJ101.out; have := HJ132.out; have := HJ136.out; have := HK7.out; omega⟩, ⟨by repeat (first | (with_reducible first | exact HB.out | apply below_alloc | apply pw_below_drewN | apply below_drew1) | exact HB.out)⟩⟩
           ·as_aux_lemma =>
            rw [if_neg c140] at H
            have c140b0 : decide (x40_7 < t698) = false := decide_eq_false c140
            clear c140
            have H' := Aside0.mk H
            clear H
            go_wp2
            repeat (go_quiet (fail); try go_wp2)
            go_loopg [38, 41] k7 (fun kq v38 v41 w' => ∃ (x38_8 : Int) (x41_8 : Int), v38 = .int .i64 x38_8 ∧ v41 = .int .i64 x41_8 ∧ Aside0 (laws_FnElectionsEnd.l3 kq t698 t699 x38_8 x39_7 x41_8 = some r) ∧ Aside0 (kq ≤ k7) ∧ Aside0 (Below w.heap.size w w'))
            case atStart => exact ⟨(0), (0), (by first | rfl | (simp; done) | (simp [*]; done)), (by first | rfl | (simp; done) | (simp [*]; done)), H', ⟨Nat.le_refl _⟩, ⟨by repeat (first | (with_reducible first | exact HB.out | apply below_alloc | apply pw_below_drewN | apply below_drew1) | exact HB.out)⟩⟩
            case round => as_aux_lemma =>
             clear H'
             try clear c1
             try clear c2
             try clear p2
             try clear c3
             try clear c4
             try clear c5
             try clear c6
             try clear p6
             try clear q6
             try clear hx6
             try clear c7
             try clear c8
             try clear c9
             try clear c10
             try clear c13
             try clear c14
             try clear c18
             try clear c18b0
             try clear c18b1
             try clear c18b2
             try clear c20
             try clear c21
             try clear c21b0
             try clear c21b1
             try clear c21b2
             try clear c25
             try clear c25b0
             try clear c25b1
             try clear c26
             try clear c26b0
             try clear c26b1
             try clear c26b2
             try clear c29
             try clear c29b0
             try clear c29b1
             try clear c30
             try clear c30b0
             try clear c30b1
             try clear c30b2
             try clear c34
             try clear c34b0
             try clear c34b1
             try clear c34b2
             try clear c48
             try clear c50
             try clear c52
             try clear c52b0
             try clear c53
             try clear c53b0
             try clear c54
             try clear c54b0
             try clear c56
             try clear c56b0
             try clear c56b1
             try clear c56b2
             try clear c57
             try clear c57b0
             try clear c58
             try clear c58b0
             try clear c59
             try clear c59b0
             try clear c59b1
             try clear c59b2
             try clear c61
             try clear c61b0
             try clear c62
             try clear c62b0
             try clear c63
             try clear c63b0
             try clear c64
             try clear p64
             try clear c66
             try clear c66b0
             try clear c67
             try clear p67
             try clear q67
             try clear hx67
             try clear c68
             try clear c68b0
             try clear c68b1
             try clear c68b2
             try clear c70
             try clear c70b0
             try clear c71
             try clear c71b0
             try clear c72
             try clear c72b0
             try clear c73
             try clear c73b0
             try clear c74
             try clear c74b0
             try clear c75
             try clear c75b0
             try clear c76
             try clear c76b0
             try clear c88
             try clear c88b0
             try clear c88b1
             try clear c88b2
             try clear c90
             try clear c91
             try clear c91b0
             try clear c91b1
             try clear c91b2
             try clear c101
             try clear c103
             try clear c106
             try clear c107
             try clear c107b0
             try clear c107b1
             try clear c108
             try clear c109
             try clear c109b0
             try clear c109b1
             try clear c135
             try clear c135b0
             try clear c135b1
             try clear c135b2
             try clear c136
             try clear c138
             try clear c139
             try clear c140
             try clear c140b0
             try clear hx670_0
             try clear hx671_0
             try clear hx672_0
             try clear hx673_0
             try clear hx674_0
             try clear p2
             try clear p6
             try clear p64
             try clear p67
             try clear p670
             try clear p671
             try clear p672
             try clear p673
             try clear p674
             try clear q6
             try clear q67
             try clear q670
             try clear q671
             try clear q672
             try clear q673
             try clear q674
             obtain ⟨x38_8, x41_8, rfl, rfl, HA, HK8, HB⟩ := hrel
             cases gk with
             | zero => exact absurd HA.out (by simp [laws_FnElectionsEnd.l3])
             | succ k8 =>
              have H := HA.out
              clear HA
              simp only [laws_FnElectionsEnd.l3] at H
              by_cases c141 : x41_8 < x39_7
              ·as_aux_lemma =>
               rw [if_pos c141] at H
               have c141b0 : decide (x41_8 < x39_7) = true := decide_eq_true c141
               clear c141
               by_cases c142 : 0 ≤ t698
               ·as_aux_lemma =>
                rw [if_pos c142] at H
                have c142b0 := eq_true c142
                have c142b1 : decide (0 ≤ t698) = true := decide_eq_true c142
                clear c142
                by_cases c143 : (t698 : Int).toNat ≤ 35184372088832
                ·as_aux_lemma =>
                 rw [if_pos c143] at H
                 have c143b0 := eq_true c143
                 have c143b1 : decide ((t698 : Int).toNat ≤ 35184372088832) = true := decide_eq_true c143
                 clear c143
                 obtain ⟨y703, hy703⟩ : ∃ y_ : List Int, y_ = (List.replicate (t698 : Int).toNat 0) := ⟨_, rfl⟩
                 replace H : (laws_FnElectionsEnd.l4 k8 t698 t699 x38_8 x39_7 x41_8 y703 x41_8 (y703.length : Int) 0) = some r := by first | (rw [hy703]; with_reducible exact H) | (have H2_ := (Option.bind_some _ _).symm.trans H; rw [hy703]; with_reducible exact H2_) | (have H2_ := (Option.bind_some _ _).symm.trans H; with_reducible exact H2_) | with_reducible exact H | (rw [hy703]; exact H) | exact H
                 have Ny703 := Aside0.mk hy703
                 clear hy703
                 have H' := Aside0.mk H
                 clear H
                 go_wp2_with (first | ((with_reducible refine gate_dst (N := 317) rfl ?_); refine Kd.R_make (Kd.int .i64) _ 3 rfl (N := 317) rfl 25 _ _ rfl t698 rfl rfl Try.underlying25 (.int .i64 0) 8 info3 rfl (by decide) (by omega) 0 (ok := fun _ => True) (okp := fun _ => True) rfl (fun _ hk => hk) trivial (of_decide_eq_true (by first | (with_reducible assumption) | assumption)) (Nat.le_trans (Nat.mul_le_mul_right _ (of_decide_eq_true (by first | (with_reducible assumption) | assumption) : t698.toNat ≤ 35184372088832)) (by omega)) (Below.refl _ _) (Nat.le_refl _) ?_; intro v704 w144 ho145 hb hg_ hnew_; clear hg_ hnew_; (first | rw [← Ny703.out] at ho145 | (simp only [Int.reduceToNat] at ho145; rw [← Ny703.out] at ho145)); have n0_ := Aside0.mk (Kd.R_lower ho145 (below_size (by repeat (first | (with_reducible first | exact HB.out | apply below_alloc | apply pw_below_drewN | apply below_drew1) | exact HB.out)))); have n1_ := Aside0.mk (below_step (by repeat (first | (with_reducible first | exact HB.out | apply below_alloc | apply pw_below_drewN | apply below_drew1) | exact HB.out)) hb); clear HB; have HO705 := n0_; have HB := n1_; clear n0_ n1_; clear hb ho145; obtain ⟨Ao146, co146, eo146⟩ := Kd.R_slice HO705.out; subst eo146))
                 repeat (go_quiet (first | ((with_reducible refine gate_dst (N := 317) rfl ?_); refine Kd.R_make (Kd.int .i64) _ 3 rfl (N := 317) rfl 25 _ _ rfl t698 rfl rfl Try.underlying25 (.int .i64 0) 8 info3 rfl (by decide) (by omega) 0 (ok := fun _ => True) (okp := fun _ => True) rfl (fun _ hk => hk) trivial (of_decide_eq_true (by first | (with_reducible assumption) | assumption)) (Nat.le_trans (Nat.mul_le_mul_right _ (of_decide_eq_true (by first | (with_reducible assumption) | assumption) : t698.toNat ≤ 35184372088832)) (by omega)) (Below.refl _ _) (Nat.le_refl _) ?_; intro v704 w144 ho145 hb hg_ hnew_; clear hg_ hnew_; (first | rw [← Ny703.out] at ho145 | (simp only [Int.reduceToNat] at ho145; rw [← Ny703.out] at ho145)); have n0_ := Aside0.mk (Kd.R_lower ho145 (below_size (by repeat (first | (with_reducible first | exact HB.out | apply below_alloc | apply pw_below_drewN | apply below_drew1) | exact HB.out)))); have n1_ := Aside0.mk (below_step (by repeat (first | (with_reducible first | exact HB.out | apply below_alloc | apply pw_below_drewN | apply below_drew1) | exact HB.out)) hb); clear HB; have HO705 := n0_; have HB := n1_; clear n0_ n1_; clear hb ho145; obtain ⟨Ao146, co146, eo146⟩ := Kd.R_slice HO705.out; subst eo146)); try go_wp2_with (first | ((with_reducible refine gate_dst (N := 317) rfl ?_); refine Kd.R_make (Kd.int .i64) _ 3 rfl (N := 317) rfl 25 _ _ rfl t698 rfl rfl Try.underlying25 (.int .i64 0) 8 info3 rfl (by decide) (by omega) 0 (ok := fun _ => True) (okp := fun _ => True) rfl (fun _ hk => hk) trivial (of_decide_eq_true (by first | (with_reducible assumption) | assumption)) (Nat.le_trans (Nat.mul_le_mul_right _ (of_decide_eq_true (by first | (with_reducible assumption) | assumption) : t698.toNat ≤ 35184372088832)) (by omega)) (Below.refl _ _) (Nat.le_refl _) ?_; intro v704 w144 ho145 hb hg_ hnew_; clear hg_ hnew_; (first | rw [← Ny703.out] at ho145 | (simp only [Int.reduceToNat] at ho145; rw [← Ny703.out] at ho145)); have n0_ := Aside0.mk (Kd.R_lower ho145 (below_size (by repeat (first | (with_reducible first | exact HB.out | apply below_alloc | apply pw_below_drewN | apply below_drew1) | exact HB.out)))); have n1_ := Aside0.mk (below_step (by repeat (first | (with_reducible first | exact HB.out | apply below_alloc | apply pw_below_drewN | apply below_drew1) | exact HB.out)) hb); clear HB; have HO705 := n0_; have HB := n1_; clear n0_ n1_; clear hb ho145; obtain ⟨Ao146, co146, eo146⟩ := Kd.R_slice HO705.out; subst eo146)))
                 go_loopg [43, 321] k8 (fun kq v43 v321 w' => ∃ (x42_9 : List Int) (x43_9 : Int) (x321_9 : Int), v43 = .int .i64 x43_9 ∧ v321 = .int .i64 x321_9 ∧ Aside0 (laws_FnElectionsEnd.l4 kq t698 t699 x38_8 x39_7 x41_8 x42_9 x43_9 (y703.length : Int) x321_9 = some r) ∧ Aside0 (kq ≤ k8) ∧ Aside0 (Kd.R (Kd.int .i64) 3 w' w.heap.size (fun _ => True) (.slice Ao146 y703.length co146) x42_9) ∧ Aside0 (Below w.heap.size w w'))
                 case atStart => exact ⟨(y703), (x41_8), (0), (by first | rfl | (simp; done) | (simp [*]; done)), (by first | rfl | (simp; done) | (simp [*]; done)), H', ⟨Nat.le_refl _⟩, ⟨by (with_reducible repeat (first | apply Kd.R_alloc | apply Kd.R_drewN | apply Kd.R_drew)); exact HO705.out⟩, ⟨by repeat (first | (with_reducible first | exact HB.out | apply below_alloc | apply pw_below_drewN | apply below_drew1) | exact HB.out)⟩⟩
                 case round => as_aux_lemma =>
                  clear H'
                  try clear c1
                  try clear c2
                  try clear p2
                  try clear c3
                  try clear c4
                  try clear c5
                  try clear c6
                  try clear p6
                  try clear q6
                  try clear hx6
                  try clear c7
                  try clear c8
                  try clear c9
                  try clear c10
                  try clear c13
                  try clear c14
                  try clear c18
                  try clear c18b0
                  try clear c18b1
                  try clear c18b2
                  try clear c20
                  try clear c21
                  try clear c21b0
                  try clear c21b1
                  try clear c21b2
                  try clear c25
                  try clear c25b0
                  try clear c25b1
                  try clear c26
                  try clear c26b0
                  try clear c26b1
                  try clear c26b2
                  try clear c29
                  try clear c29b0
                  try clear c29b1
                  try clear c30
                  try clear c30b0
                  try clear c30b1
                  try clear c30b2
                  try clear c34
                  try clear c34b0
                  try clear c34b1
                  try clear c34b2
                  try clear c48
                  try clear c50
                  try clear c52
                  try clear c52b0
                  try clear c53
                  try clear c53b0
                  try clear c54
                  try clear c54b0
                  try clear c56
                  try clear c56b0
                  try clear c56b1
                  try clear c56b2
                  try clear c57
                  try clear c57b0
                  try clear c58
                  try clear c58b0
                  try clear c59
                  try clear c59b0
                  try clear c59b1
                  try clear c59b2
                  try clear c61
                  try clear c61b0
                  try clear c62
                  try clear c62b0
                  try clear c63
                  try clear c63b0
                  try clear c64
                  try clear p64
                  try clear c66
                  try clear c66b0
                  try clear c67
                  try clear p67
                  try clear q67
                  try clear hx67
                  try clear c68
                  try clear c68b0
                  try clear c68b1
                  try clear c68b2
                  try clear c70
                  try clear c70b0
                  try clear c71
                  try clear c71b0
                  try clear c72
                  try clear c72b0
                  try clear c73
                  try clear c73b0
                  try clear c74
                  try clear c74b0
                  try clear c75
                  try clear c75b0
                  try clear c76
                  try clear c76b0
                  try clear c88
                  try clear c88b0
                  try clear c88b1
                  try clear c88b2
                  try clear c90
                  try clear c91
                  try clear c91b0
                  try clear c91b1
                  try clear c91b2
                  try clear c101
                  try clear c103
                  try clear c106
                  try clear c107
                  try clear c107b0
                  try clear c107b1
                  try clear c108
                  try clear c109
                  try clear c109b0
                  try clear c109b1
                  try clear c135
                  try clear c135b0
                  try clear c135b1
                  try clear c135b2
                  try clear c136
                  try clear c138
                  try clear c139
                  try clear c140
                  try clear c140b0
                  try clear c141
                  try clear c141b0
                  try clear c142
                  try clear c142b0
                  try clear c142b1
                  try clear c143
                  try clear c143b0
                  try clear c143b1
                  try clear hx670_0
                  try clear hx671_0
                  try clear hx672_0
                  try clear hx673_0
                  try clear hx674_0
                  try clear p2
                  try clear p6
                  try clear p64
                  try clear p67
                  try clear p670
                  try clear p671
                  try clear p672
                  try clear p673
                  try clear p674
                  try clear q6
                  try clear q67
                  try clear q670
                  try clear q671
                  try clear q672
                  try clear q673
                  try clear q674
                  obtain ⟨x42_9, x43_9, x321_9, rfl, rfl, HA, HK9, HO_42, HB⟩ := hrel
                  have hl42_9 := (Kd.R_reads' HO_42.out).1
                  rw [hl42_9] at HO_42
                  (try simp only [hl42_9])
                  cases gk with
                  | zero => exact absurd HA.out (by simp [laws_FnElectionsEnd.l4])
                  | succ k9 =>
                   have H := HA.out
                   clear HA
                   simp only [laws_FnElectionsEnd.l4] at H
                   by_cases c147 : x321_9 < (y703.length : Int)
                   ·as_aux_lemma =>
                    rw [if_pos c147] at H
                    have c147b0 : decide (x321_9 < (y703.length : Int)) = true := decide_eq_true c147
                    clear c147
                    by_cases c148 : t698 = 0
                    ·as_aux_lemma =>
                     rw [if_pos c148] at H
                     exact absurd H (by simp)
                    ·as_aux_lemma =>
                     rw [if_neg c148] at H
                     have c148b0 : (t698 == 0) = false := beq_eq_false_iff_ne.mpr c148
                     have c148b1 : (t698 != 0) = true := bne_iff_ne.mpr c148
                     by_cases c149 : 0 ≤ x321_9
                     ·as_aux_lemma =>
                      rw [if_pos c149] at H
                      have c149b0 : decide (0 ≤ x321_9) = true := decide_eq_true c149
                      clear c149
                      by_cases c150 : x321_9 < (x42_9.length : Int)
                      ·as_aux_lemma =>
                       rw [if_pos c150] at H
                       have c150b0 : decide (x321_9 < (x42_9.length : Int)) = true := decide_eq_true c150
                       clear c150
                       obtain ⟨y706, hy706⟩ : ∃ y_ : List Int, y_ = (x42_9.set (x321_9 : Int).toNat (Int.tmod x43_9 t698)) := ⟨_, rfl⟩
                       replace H : (laws_FnElectionsEnd.l4 k9 t698 t699 x38_8 x39_7 x41_8 y706 (wrap64 (Int.tdiv x43_9 t698)) (y703.length : Int) (wrap64 (x321_9 + 1))) = some r := by first | (rw [hy706]; with_reducible exact H) | (have H2_ := (Option.bind_some _ _).symm.trans H; rw [hy706]; with_reducible exact H2_) | (have H2_ := (Option.bind_some _ _).symm.trans H; with_reducible exact H2_) | with_reducible exact H | (rw [hy706]; exact H) | exact H
                       have Ny706 := Aside0.mk hy706
                       clear hy706
                       have H' := Aside0.mk H
                       clear H
                       have p151 : 0 ≤ (x321_9 : Int) := of_decide_eq_true (by first | (with_reducible assumption) | assumption)
                       have q151 : (x321_9 : Int) < ((x42_9.length : Int) : Int) := of_decide_eq_true (by first | (with_reducible assumption) | assumption)
                       obtain ⟨go151, co151, eo151, gb151, gl151, cl151, HG151⟩ := Kd.R_form HO_42.out (by omega)
                       (first | cases eo151 | (injection eo151 with ea_ en_ ec_; (first | subst ea_ | (injection ea_ with ea_; subst ea_)); subst ec_; clear en_))
                       have GB151 := Aside0.mk gb151
                       have GG151 := Aside0.mk HG151
                       clear gb151 gl151 HG151
                       obtain ⟨hx151_0, hf151_0⟩ := Kd.R_celln 0 HO_42.out (x321_9 : Int) p151 q151
                       replace p151 := eq_true p151
                       replace q151 := eq_true q151
                       have HP152 := Kd.R_putg HO_42.out (x321_9 : Int) (Int.tmod x43_9 t698)
                       go_wp2_with (first | ((with_reducible refine gate_store (t := 3) (p := 329) rfl ?_); (try (rw [drewN_self wr]; generalize hq_ : World.drewN wr _ = wr; have n0_ := Aside0.mk (Kd.R_at hq_ HO_42.out); have n1_ := Aside0.mk (below_at hq_ HB.out); clear hq_ HO_42 HB; have HO_42 := n0_; have HB := n1_; clear n0_ n1_; (try (have HP152 := Kd.R_putg HO_42.out (x321_9 : Int) (Int.tmod x43_9 t698))))); refine store_event (t := 3) (p := 329) (v := ?vo_w153) (w1 := (wr.setCell ⟨go151, (x321_9 : Int).toNat, none⟩ (.int .i64 (Int.tmod x43_9 t698)))) ?hg ?ho ?hn ?hr ?_; (case ho => rfl); (case hg => rfl); (case hn => rfl); (case hr => first | (go_simp; done) | (go_simp; rfl)); intro w153 hw; have hg : wr.grownBy w153 (some go151) := (by rw [hw]; exact HP152.2); have hp_ : Kd.R (Kd.int .i64) 3 w153 w.heap.size (fun _ => True) (.slice (some ⟨go151, 0, none⟩) x42_9.length co146) y706 := (by rw [hw, Ny706.out]; exact HP152.1); clear HP152; have n0_ := Aside0.mk (hp_); have n1_ := Aside0.mk ((by rw [hw]; exact below_set (HB.out) GB151.out : Below w.heap.size w w153)); clear HO_42; clear HB; have HO_42 := n0_; have HB := n1_; clear n0_ n1_; clear hg hw hp_))
                       repeat (go_quiet (first | ((with_reducible refine gate_store (t := 3) (p := 329) rfl ?_); (try (rw [drewN_self wr]; generalize hq_ : World.drewN wr _ = wr; have n0_ := Aside0.mk (Kd.R_at hq_ HO_42.out); have n1_ := Aside0.mk (below_at hq_ HB.out); clear hq_ HO_42 HB; have HO_42 := n0_; have HB := n1_; clear n0_ n1_; (try (have HP152 := Kd.R_putg HO_42.out (x321_9 : Int) (Int.tmod x43_9 t698))))); refine store_event (t := 3) (p := 329) (v := ?vo_w153) (w1 := (wr.setCell ⟨go151, (x321_9 : Int).toNat, none⟩ (.int .i64 (Int.tmod x43_9 t698)))) ?hg ?ho ?hn ?hr ?_; (case ho => rfl); (case hg => rfl); (case hn => rfl); (case hr => first | (go_simp; done) | (go_simp; rfl)); intro w153 hw; have hg : wr.grownBy w153 (some go151) := (by rw [hw]; exact HP152.2); have hp_ : Kd.R (Kd.int .i64) 3 w153 w.heap.size (fun _ => True) (.slice (some ⟨go151, 0, none⟩) x42_9.length co146) y706 := (by rw [hw, Ny706.out]; exact HP152.1); clear HP152; have n0_ := Aside0.mk (hp_); have n1_ := Aside0.mk ((by rw [hw]; exact below_set (HB.out) GB151.out : Below w.heap.size w w153)); clear HO_42; clear HB; have HO_42 := n0_; have HB := n1_; clear n0_ n1_; clear hg hw hp_)); try go_wp2_with (first | ((with_reducible refine gate_store (t := 3) (p := 329) rfl ?_); (try (rw [drewN_self wr]; generalize hq_ : World.drewN wr _ = wr; have n0_ := Aside0.mk (Kd.R_at hq_ HO_42.out); have n1_ := Aside0.mk (below_at hq_ HB.out); clear hq_ HO_42 HB; have HO_42 := n0_; have HB := n1_; clear n0_ n1_; (try (have HP152 := Kd.R_putg HO_42.out (x321_9 : Int) (Int.tmod x43_9 t698))))); refine store_event (t := 3) (p := 329) (v := ?vo_w153) (w1 := (wr.setCell ⟨go151, (x321_9 : Int).toNat, none⟩ (.int .i64 (Int.tmod x43_9 t698)))) ?hg ?ho ?hn ?hr ?_; (case ho => rfl); (case hg => rfl); (case hn => rfl); (case hr => first | (go_simp; done) | (go_simp; rfl)); intro w153 hw; have hg : wr.grownBy w153 (some go151) := (by rw [hw]; exact HP152.2); have hp_ : Kd.R (Kd.int .i64) 3 w153 w.heap.size (fun _ => True) (.slice (some ⟨go151, 0, none⟩) x42_9.length co146) y706 := (by rw [hw, Ny706.out]; exact HP152.1); clear HP152; have n0_ := Aside0.mk (hp_); have n1_ := Aside0.mk ((by rw [hw]; exact below_set (HB.out) GB151.out : Below w.heap.size w w153)); clear HO_42; clear HB; have HO_42 := n0_; have HB := n1_; clear n0_ n1_; clear hg hw hp_)))
                       (try simp only [← hl42_9])
                       go_roundg k9
                       case measure => have := HJ10.out; have := HJ48.out; have := HJ81.out; have := HJ101.out; have := HJ132.out; have := HJ136.out; have := HK7.out; have := HK8.out; have := HK9.out; omega
                       case rel => exact ⟨(y706), (wrap64 (Int.tdiv x43_9 t698)), (wrap64 (x321_9 + 1)), (by first | rfl | (simp; done) | (simp [*]; done)), (by first | rfl | (simp; done) | (simp [*]; done)), H', ⟨by have := HJ10.out; have := HJ48.out; have := HJ81.out; have := HJ101.out; have := HJ132.out; have := HJ136.out; have := HK7.out; have := HK8.out; have := HK9.out; omega⟩, ⟨by (try simp only [hl42_9]); (with_reducible repeat (first | apply Kd.R_alloc | apply Kd.R_drewN | apply Kd.R_drew)); exact HO_42.out⟩, ⟨by repeat (first | (with_reducible first | exact HB.out | apply below_alloc | apply pw_below_drewN | apply below_drew1) | exact HB.out)⟩⟩
                      ·as_aux_lemma =>
                       rw [if_neg c150] at H
                       exact absurd H (by simp)
                     ·as_aux_lemma =>
                      rw [if_neg c149] at H
                      exact absurd H (by simp)
                   ·as_aux_lemma =>
                    rw [if_neg c147] at H
                    have c147b0 : decide (x321_9 < (y703.length : Int)) = false := decide_eq_false c147
                    have c147b9 : decide (x321_9 < (x42_9.length : Int)) = false := by rw [← hl42_9]; exact c147b0
                    clear c147
                    replace H := Option.bind_eq_some_iff.mp H
                    obtain ⟨⟨t707, t708⟩, A1540, H⟩ := H
                    replace H : (if t708 = true then (laws_FnElectionsEnd.l3 k9 t698 t699 (wrap64 (x38_8 + t707)) x39_7 (wrap64 (x41_8 + 1))) else (laws_FnElectionsEnd.l3 k9 t698 t699 x38_8 x39_7 (wrap64 (x41_8 + 1)))) = some r := H
                    have A154 := Aside0.mk A1540
                    clear A1540
                    by_cases c155 : t708 = true
                    ·as_aux_lemma =>
                     subst c155
                     have H1 : (laws_FnElectionsEnd.l3 k9 t698 t699 (wrap64 (x38_8 + t707)) x39_7 (wrap64 (x41_8 + 1))) = some r := by rw [if_pos rfl] at H; exact H
                     clear H
                     have H := H1
                     clear H1
                     have H' := Aside0.mk H
                     clear H
                     go_wp2_with (first | (go_at_call 28; (with_reducible refine (impl_SimpleMessages.calls k9 _ _ x42_9 t707 true _ ?side1 ?side2 A154.out).mono ?_); (case side1 => repeat (first | exact (Kd.R_reads' HO_42.out).2.2 | (with_reducible refine Kd.C_alloc ?_ _) | (with_reducible refine Kd.C_drewN ?_ _) | (with_reducible refine Kd.C_drew ?_))); (case side2 => exact (Kd.R_reads' HO_42.out).2.1); rintro e w156 ⟨rfl, hb⟩; have n0_ := Aside0.mk (Kd.R_below (by (with_reducible repeat (first | apply Kd.R_alloc | apply Kd.R_drewN | apply Kd.R_drew)); exact HO_42.out) hb); have n1_ := Aside0.mk (below_step (by repeat (first | (with_reducible first | exact HB.out | apply below_alloc | apply pw_below_drewN | apply below_drew1) | exact HB.out)) hb); clear HO_42; clear HB; have HO_42 := n0_; have HB := n1_; clear n0_ n1_; (try clear hb); (try clear hb2); (try clear hk); (try clear hi)))
                     repeat (go_quiet (first | (go_at_call 28; (with_reducible refine (impl_SimpleMessages.calls k9 _ _ x42_9 t707 true _ ?side1 ?side2 A154.out).mono ?_); (case side1 => repeat (first | exact (Kd.R_reads' HO_42.out).2.2 | (with_reducible refine Kd.C_alloc ?_ _) | (with_reducible refine Kd.C_drewN ?_ _) | (with_reducible refine Kd.C_drew ?_))); (case side2 => exact (Kd.R_reads' HO_42.out).2.1); rintro e w156 ⟨rfl, hb⟩; have n0_ := Aside0.mk (Kd.R_below (by (with_reducible repeat (first | apply Kd.R_alloc | apply Kd.R_drewN | apply Kd.R_drew)); exact HO_42.out) hb); have n1_ := Aside0.mk (below_step (by repeat (first | (with_reducible first | exact HB.out | apply below_alloc | apply pw_below_drewN | apply below_drew1) | exact HB.out)) hb); clear HO_42; clear HB; have HO_42 := n0_; have HB := n1_; clear n0_ n1_; (try clear hb); (try clear hb2); (try clear hk); (try clear hi))); try go_wp2_with (first | (go_at_call 28; (with_reducible refine (impl_SimpleMessages.calls k9 _ _ x42_9 t707 true _ ?side1 ?side2 A154.out).mono ?_); (case side1 => repeat (first | exact (Kd.R_reads' HO_42.out).2.2 | (with_reducible refine Kd.C_alloc ?_ _) | (with_reducible refine Kd.C_drewN ?_ _) | (with_reducible refine Kd.C_drew ?_))); (case side2 => exact (Kd.R_reads' HO_42.out).2.1); rintro e w156 ⟨rfl, hb⟩; have n0_ := Aside0.mk (Kd.R_below (by (with_reducible repeat (first | apply Kd.R_alloc | apply Kd.R_drewN | apply Kd.R_drew)); exact HO_42.out) hb); have n1_ := Aside0.mk (below_step (by repeat (first | (with_reducible first | exact HB.out | apply below_alloc | apply pw_below_drewN | apply below_drew1) | exact HB.out)) hb); clear HO_42; clear HB; have HO_42 := n0_; have HB := n1_; clear n0_ n1_; (try clear hb); (try clear hb2); (try clear hk); (try clear hi))))
                     (try simp only [← hl42_9])
                     go_roundg k9
                     case measure => have := HJ10.out; have := HJ48.out; have := HJ81.out; have := HJ101.out; have := HJ132.out; have := HJ136.out; have := HK7.out; have := HK8.out; have := HK9.out; omega
                     case rel => exact ⟨(wrap64 (x38_8 + t707)), (wrap64 (x41_8 + 1)), (by first | rfl | (simp; done) | (simp [*]; done)), (by first | rfl | (simp; done) | (simp [*]; done)), H', ⟨by have := HJ10.out; have := HJ48.out; have := HJ81.out; have := HJ101.out; have := HJ132.out; have := HJ136.out; have := HK7.out; have := HK8.out; have := HK9.out; omega⟩, ⟨by repeat (first | (with_reducible first | exact HB.out | apply below_alloc | apply pw_below_drewN | apply below_drew1) | exact HB.out)⟩⟩
                    ·as_aux_lemma =>
                     replace c155 := Bool.eq_false_iff.mpr c155
                     subst c155
                     have H1 : (laws_FnElectionsEnd.l3 k9 t698 t699 x38_8 x39_7 (wrap64 (x41_8 + 1))) = some r := by rw [if_neg (show ¬ (false = true) by decide)] at H; exact H
                     clear H
                     have H := H1
                     clear H1
                     have H' := Aside0.mk H
                     clear H
                     go_wp2_with (first | (go_at_call 28; (with_reducible refine (impl_SimpleMessages.calls k9 _ _ x42_9 t707 false _ ?side1 ?side2 A154.out).mono ?_); (case side1 => repeat (first | exact (Kd.R_reads' HO_42.out).2.2 | (with_reducible refine Kd.C_alloc ?_ _) | (with_reducible refine Kd.C_drewN ?_ _) | (with_reducible refine Kd.C_drew ?_))); (case side2 => exact (Kd.R_reads' HO_42.out).2.1); rintro e w157 ⟨rfl, hb⟩; have n0_ := Aside0.mk (Kd.R_below (by (with_reducible repeat (first | apply Kd.R_alloc | apply Kd.R_drewN | apply Kd.R_drew)); exact HO_42.out) hb); have n1_ := Aside0.mk (below_step (by repeat (first | (with_reducible first | exact HB.out | apply below_alloc | apply pw_below_drewN | apply below_drew1) | exact HB.out)) hb); clear HO_42; clear HB; have HO_42 := n0_; have HB := n1_; clear n0_ n1_; (try clear hb); (try clear hb2); (try clear hk); (try clear hi)))
                     repeat (go_quiet (first | (go_at_call 28; (with_reducible refine (impl_SimpleMessages.calls k9 _ _ x42_9 t707 false _ ?side1 ?side2 A154.out).mono ?_); (case side1 => repeat (first | exact (Kd.R_reads' HO_42.out).2.2 | (with_reducible refine Kd.C_alloc ?_ _) | (with_reducible refine Kd.C_drewN ?_ _) | (with_reducible refine Kd.C_drew ?_))); (case side2 => exact (Kd.R_reads' HO_42.out).2.1); rintro e w157 ⟨rfl, hb⟩; have n0_ := Aside0.mk (Kd.R_below (by (with_reducible repeat (first | apply Kd.R_alloc | apply Kd.R_drewN | apply Kd.R_drew)); exact HO_42.out) hb); have n1_ := Aside0.mk (below_step (by repeat (first | (with_reducible first | exact HB.out | apply below_alloc | apply pw_below_drewN | apply below_drew1) | exact HB.out)) hb); clear HO_42; clear HB; have HO_42 := n0_; have HB := n1_; clear n0_ n1_; (try clear hb); (try clear hb2); (try clear hk); (try clear hi))); try go_wp2_with (first | (go_at_call 28; (with_reducible refine (impl_SimpleMessages.calls k9 _ _ x42_9 t707 false _ ?side1 ?side2 A154.out).mono ?_); (case side1 => repeat (first | exact (Kd.R_reads' HO_42.out).2.2 | (with_reducible refine Kd.C_alloc ?_ _) | (with_reducible refine Kd.C_drewN ?_ _) | (with_reducible refine Kd.C_drew ?_))); (case side2 => exact (Kd.R_reads' HO_42.out).2.1); rintro e w157 ⟨rfl, hb⟩; have n0_ := Aside0.mk (Kd.R_below (by (with_reducible repeat (first | apply Kd.R_alloc | apply Kd.R_drewN | apply Kd.R_drew)); exact HO_42.out) hb); have n1_ := Aside0.mk (below_step (by repeat (first | (with_reducible first | exact HB.out | apply below_alloc | apply pw_below_drewN | apply below_drew1) | exact HB.out)) hb); clear HO_42; clear HB; have HO_42 := n0_; have HB := n1_; clear n0_ n1_; (try clear hb); (try clear hb2); (try clear hk); (try clear hi))))
                     (try simp only [← hl42_9])
                     go_roundg k9
                     case measure => have := HJ10.out; have := HJ48.out; have := HJ81.out; have := HJ101.out; have := HJ132.out; have := HJ136.out; have := HK7.out; have := HK8.out; have := HK9.out; omega
                     case rel => exact ⟨(x38_8), (wrap64 (x41_8 + 1)), (by first | rfl | (simp; done) | (simp [*]; done)), (by first | rfl | (simp; done) | (simp [*]; done)), H', ⟨by have := HJ10.out; have := HJ48.out; have := HJ81.out; have := HJ101.out; have := HJ132.out; have := HJ136.out; have := HK7.out; have := HK8.out; have := HK9.out; omega⟩, ⟨by repeat (first | (with_reducible first | exact HB.out | apply below_alloc | apply pw_below_drewN | apply below_drew1) | exact HB.out)⟩⟩
                ·as_aux_lemma =>
                 rw [if_neg c143] at H
                 exact absurd H (by simp)
               ·as_aux_lemma =>
                rw [if_neg c142] at H
                exact absurd H (by simp)
              ·as_aux_lemma =>
               rw [if_neg c141] at H
               have c141b0 : decide (x41_8 < x39_7) = false := decide_eq_false c141
               clear c141
               obtain rfl := Option.some.inj H
               go_wp2
               repeat (go_quiet (fail); try go_wp2)
               go_ret
               exact ⟨by first | rfl | (simp [errW_none, errW_some] <;> rfl) | (simp [*, errW_none, errW_some] <;> rfl), by repeat (first | (with_reducible first | exact HB.out | apply below_alloc | apply pw_below_drewN | apply below_drew1) | exact HB.out)⟩
        ·as_aux_lemma =>
         replace c139 := Bool.eq_false_iff.mpr c139
         subst c139
         have H1 : (some true) = some r := by rw [if_neg (show ¬ (false = true) by decide)] at H; exact H
         clear H
         have H := H1
         clear H1
         obtain rfl := Option.some.inj H
         go_wp2
         repeat (go_quiet (fail); try go_wp2)
         go_ret
         exact ⟨by first | rfl | (simp [errW_none, errW_some] <;> rfl) | (simp [*, errW_none, errW_some] <;> rfl), by repeat (first | (with_reducible first | exact HB.out | apply below_alloc | apply pw_below_drewN | apply below_drew1) | exact HB.out)⟩

end Go.Proofs.Ytbiiklkkfkipeaa.X
