/- Several texts of this session in one: X474. -/
import Derived.Test.YtbiiklkkfkipeaaMFnRoundsEnd2
/- The walk of the law FnRoundsEnd, the round of its first loop: written by this session's program wip/split/cut.py. -/
namespace Go.Proofs.Ytbiiklkkfkipeaa.X
open Go.RowKit Go.Proofs.YtbiiklkkfkipeaaW.PrintWords Go.Proofs.YtbiiklkkfkipeaaW.PrintLast Go.Proofs.YtbiiklkkfkipeaaW.PrintMore
attribute [local go_sem] max2_int min2_int max_two min_two max_three min_three max_four min_four   -- for this text's walks alone
set_option linter.unusedVariables false
set_option linter.unusedSimpArgs false

set_option maxHeartbeats 8000000 in
set_option maxRecDepth 100000 in
theorem laws_FnRoundsEnd.pc_j3 {cd0 : Code} {cd1 : Code} {cd2 : Code} {cd3 : Code} {cd4 : Code} {k : Nat} {A0 : Option Addr} {c0 : Nat} {l0 : List Int} {A1 : Option Addr} {c1 : Nat} {l1 : List Int} {r : Bool} {w : World} {t579 : List Int} {t582 : List (List Int)} {t587 : Bool} {t590 : Int} {t591 : Bool} {t592 : Int} {t593 : Bool} {t594 : Int} {t595 : Bool} {t596 : Int} {t597 : Bool} {Ao14 : Option Addr} {co14 : Nat} {v588 : Value} {kj11 : Nat} (HJ11 : Aside0 (kj11 + 1 ≤ k)) {K_z5 : Act → World → Prop} (a_z6 : ∀ (a : Act) (w_1 : World), Code.wp Try.prog cd0 (bodyPost Try.prog Try.f13 fun (e : Ending) (w' : World) => e = Ending.returned (Value.bool r) ∧ Below (Array.size (World.heap w)) w w') a w_1 → K_z5 a w_1) {u38 u39 u40 u41 u42 u43 u44 u45 u46 u47 u48 u49 u50 u51 u52 u53 u54 u55 u56 u57 u58 u59 u60 u61 u62 u63 u64 u65 u66 u67 u68 u69 u70 u71 u72 u73 u74 u75 u76 u77 u78 u79 u80 u81 u82 u83 u84 u85 u86 u87 u88 u89 u90 u91 u92 u93 u94 u95 u96 u97 u98 u99 u100 u101 u102 u103 u104 u105 u106 u107 u108 u109 u110 u111 u112 u113 u114 u115 u116 u117 u118 u119 u120 u121 u122 u123 u124 u125 u126 u127 u128 u129 u130 u131 u132 u133 u134 u135 u136 u137 u138 u139 u203 u204 u205 u206 u207 u208 u209 u210 u211 u212 u213 u214 u215 u216 u217 u218 u219 u220 u224 u225 u226 u227 u231 u232 u233 u234 u235 u236 u237 u238 u239 u240 u241 u242 u243 u244 u245 u246 u247 u248 u249 u250 u251 u252 u253 u254 u255 u256 u257 u258 u259 u260 u261 u262 u263 u264 u265 u266 u267 u268 u269 u270 u271 u272 u273 u274 u275 u276 u277 u278 u279 u280 u281 u282 u283 u284 u285 u286 u287 u288 u289 u290 u291 u292 u293 u294 u295 u296 u297 u298 u299 u300 u301 u302 u303 u304 u305 u306 : Value} {kj44 : Nat} (HJ44 : Aside0 (kj44 + 1 ≤ kj11)) {K_z4 : Act → World → Prop} (a_z5 : ∀ (a : Act) (w_1 : World), Code.wp Try.prog cd1 (Exit.then K_z5 (bodyPost Try.prog Try.f13 fun (e : Ending) (w' : World) => e = Ending.returned (Value.bool r) ∧ Below (Array.size (World.heap w)) w w')) a w_1 → K_z4 a w_1) {u4 u20 u21 u171 u172 u173 : Value} {J_z1 : Nat → Act → World → Prop} {K_z3 : Act → World → Prop} {x19_3 : Int} {k3 : Nat} (a_z4 : ∀ (a' : Act) (w' : World), Handed J_z1 (k3 + 1) a' w' → K_z3 a' w') (HK3 : Aside0 (k3 + 1 ≤ kj44)) {Ao58 : Option Addr} {co58 : Nat} (a_z3 : ∀ (k : Nat) (a' : Act) (w' : World), (∃ (u4 : Value), ∃ (u19 : Value), ∃ (u20 : Value), ∃ (u21 : Value), ∃ (u141 : Value), ∃ (u142 : Value), ∃ (u143 : Value), ∃ (u144 : Value), ∃ (u145 : Value), ∃ (u146 : Value), ∃ (u147 : Value), ∃ (u148 : Value), ∃ (u149 : Value), ∃ (u150 : Value), ∃ (u151 : Value), ∃ (u152 : Value), ∃ (u153 : Value), ∃ (u154 : Value), ∃ (u155 : Value), ∃ (u156 : Value), ∃ (u157 : Value), ∃ (u158 : Value), ∃ (u159 : Value), ∃ (u160 : Value), ∃ (u161 : Value), ∃ (u162 : Value), ∃ (u163 : Value), ∃ (u164 : Value), ∃ (u165 : Value), ∃ (u166 : Value), ∃ (u167 : Value), ∃ (u168 : Value), ∃ (u169 : Value), ∃ (u170 : Value), ∃ (u171 : Value), ∃ (u172 : Value), ∃ (u173 : Value), ∃ (u174 : Value), ∃ (u175 : Value), ∃ (u176 : Value), ∃ (u177 : Value), ∃ (u178 : Value), ∃ (u179 : Value), ∃ (u180 : Value), ∃ (u181 : Value), ∃ (u182 : Value), ∃ (u183 : Value), ∃ (u184 : Value), ∃ (u185 : Value), ∃ (u186 : Value), ∃ (u187 : Value), ∃ (u188 : Value), ∃ (u189 : Value), ∃ (u190 : Value), ∃ (u191 : Value), ∃ (u192 : Value), ∃ (u193 : Value), ∃ (u194 : Value), ∃ (u195 : Value), ∃ (u196 : Value), ∃ (u197 : Value), ∃ (u198 : Value), ∃ (u199 : Value), ∃ (u200 : Value), ∃ (u201 : Value), ∃ (u202 : Value), (∃ (x19_3 : Int), u19 = Value.int IntKind.i64 x19_3 ∧ Aside0 (laws_FnRoundsEnd.l0 k t579 t582 t590 t594 (↑(List.length t579) : Int) x19_3 = some r) ∧ Aside0 (k ≤ kj44) ∧ Aside0 (Kd.R (Kd.int IntKind.i64) 3 w' (Array.size (World.heap w)) (fun (x : Nat) => True) (Value.slice Ao14 (List.length t579) co14) t579) ∧ Aside0 (Kd.S (Kd.slice 3 (Kd.int IntKind.i64)) 25 w' (Array.size (World.heap w)) (fun (k_ : Nat) => some k_ ≠ Value.ownBlock (Value.slice Ao14 (List.length t579) co14)) (Value.slice Ao58 (List.length t582) co58) t582) ∧ Aside0 (Below (Array.size (World.heap w)) w w')) ∧ a' = { tmps := #[Value.slice A0 (List.length l0) c0, Value.slice A1 (List.length l1) c1, undef, undef, u4, Value.slice Ao14 (List.length t579) co14, Value.slice Ao58 (List.length t582) co58, Value.bool true, v588, Value.bool t587, Value.int IntKind.i64 t590, Value.bool t591, Value.int IntKind.i64 t592, Value.bool t593, Value.int IntKind.i64 t594, Value.bool t595, Value.int IntKind.i64 t596, Value.bool t597, Value.int IntKind.i64 (↑(List.length t579) : Int), u19, u20, u21, undef, undef, undef, undef, undef, undef, undef, undef, undef, undef, undef, undef, undef, undef, undef, undef, u38, u39, u40, u41, u42, u43, u44, u45, u46, u47, u48, u49, u50, u51, u52, u53, u54, u55, u56, u57, u58, u59, u60, u61, u62, u63, u64, u65, u66, u67, u68, u69, u70, u71, u72, u73, u74, u75, u76, u77, u78, u79, u80, u81, u82, u83, u84, u85, u86, u87, u88, u89, u90, u91, u92, u93, u94, u95, u96, u97, u98, u99, u100, u101, u102, u103, u104, u105, u106, u107, u108, u109, u110, u111, u112, u113, u114, u115, u116, u117, u118, u119, u120, u121, u122, u123, u124, u125, u126, u127, u128, u129, u130, u131, u132, u133, u134, u135, u136, u137, u138, u139, Value.bool false, u141, u142, u143, u144, u145, u146, u147, u148, u149, u150, u151, u152, u153, u154, u155, u156, u157, u158, u159, u160, u161, u162, u163, u164, u165, u166, u167, u168, u169, u170, u171, u172, u173, u174, u175, u176, u177, u178, u179, u180, u181, u182, u183, u184, u185, u186, u187, u188, u189, u190, u191, u192, u193, u194, u195, u196, u197, u198, u199, u200, u201, u202, u203, u204, u205, u206, u207, u208, u209, u210, u211, u212, u213, u214, u215, u216, u217, u218, u219, u220, undef, undef, undef, u224, u225, u226, u227, undef, undef, undef, u231, u232, u233, u234, u235, u236, u237, u238, u239, u240, u241, u242, u243, u244, u245, u246, u247, u248, u249, u250, u251, u252, u253, u254, u255, u256, u257, u258, u259, u260, u261, u262, u263, u264, u265, u266, u267, u268, u269, u270, u271, u272, u273, u274, u275, u276, u277, u278, u279, u280, u281, u282, u283, u284, u285, u286, u287, u288, u289, u290, u291, u292, u293, u294, u295, u296, u297, u298, u299, u300, u301, u302, u303, u304, u305, u306], defers := [] }) → J_z1 k a' w') {K_z2 : Act → World → Prop} (a_z2 : ∀ (a : Act) (w_1 : World), Code.wp Try.prog cd2 (Exit.then K_z3 (Exit.inBlock 0 (Exit.then K_z4 (Exit.then K_z5 (bodyPost Try.prog Try.f13 fun (e : Ending) (w' : World) => e = Ending.returned (Value.bool r) ∧ Below (Array.size (World.heap w)) w w'))))) a w_1 → K_z2 a w_1) {K_z1 : Act → World → Prop} (a_z1 : ∀ (a : Act) (w_1 : World), Code.wp Try.prog cd3 (Exit.inBlock 1 (Exit.then K_z2 (Exit.then K_z3 (Exit.inBlock 0 (Exit.then K_z4 (Exit.then K_z5 (bodyPost Try.prog Try.f13 fun (e : Ending) (w' : World) => e = Ending.returned (Value.bool r) ∧ Below (Array.size (World.heap w)) w w'))))))) a w_1 → K_z1 a w_1) {wc : World} {u141 u142 u143 u144 u145 u146 u147 u148 u149 u150 u151 u152 u153 u154 u155 u156 u157 u158 u159 u160 u161 u162 u163 u164 u165 u166 u167 u168 u169 u170 u174 u175 u176 u177 u178 u179 u180 u181 u182 u183 u184 u185 u186 u187 u188 u189 u190 u191 u192 u193 u194 u195 u196 u197 u198 u199 u200 u201 u202 : Value} (hcut : ∃ (kq : Nat), ∃ (x167_56 : Bool), u167 = Value.bool x167_56 ∧ Aside0 (j3 kq t579 t582 t590 t594 (↑(List.length t579) : Int) x19_3 x167_56 = some r) ∧ Aside0 (kq ≤ k3) ∧ Aside0 (Kd.R (Kd.int IntKind.i64) 3 wc (Array.size (World.heap w)) (fun (x : Nat) => True) (Value.slice Ao14 (List.length t579) co14) t579) ∧ Aside0 (Kd.S (Kd.slice 3 (Kd.int IntKind.i64)) 25 wc (Array.size (World.heap w)) (fun (k_ : Nat) => some k_ ≠ Value.ownBlock (Value.slice Ao14 (List.length t579) co14)) (Value.slice Ao58 (List.length t582) co58) t582) ∧ Aside0 (Below (Array.size (World.heap w)) w wc)) (hcd0 : cd0 = cB (cB (cB (cB (cB (cB (cB (cB (cB (cB (cB (P13)))))))))))) (hcd1 : cd1 = cB (cB (cB (cA (cB (cA (cB (cB (cB (cB (cB (cB (cB (cB (cB (cB (P13))))))))))))))))) (hcd2 : cd2 = cB (cB (cA (cA (cB (cA (cB (cB (cA (cB (cA (cB (cB (cB (cB (cB (cB (cB (cB (cB (cB (P13)))))))))))))))))))))) (hcd3 : cd3 = cB (cA (cA (cB (cA (cA (cB (cA (cB (cB (cA (cB (cA (cB (cB (cB (cB (cB (cB (cB (cB (cB (cB (P13)))))))))))))))))))))))) (hcd4 : cd4 = cB (cA (cA (cA (cB (cA (cA (cB (cA (cB (cB (cA (cB (cA (cB (cB (cB (cB (cB (cB (cB (cB (cB (cB (P13))))))))))))))))))))))))) : Code.wp Try.prog cd4 (Exit.then K_z1 (Exit.inBlock 1 (Exit.then K_z2 (Exit.then K_z3 (Exit.inBlock 0 (Exit.then K_z4 (Exit.then K_z5 (bodyPost Try.prog Try.f13 fun (e : Ending) (w' : World) => e = Ending.returned (Value.bool r) ∧ Below (Array.size (World.heap w)) w w')))))))) { tmps := #[Value.slice A0 (List.length l0) c0, Value.slice A1 (List.length l1) c1, undef, undef, u4, Value.slice Ao14 (List.length t579) co14, Value.slice Ao58 (List.length t582) co58, Value.bool true, v588, Value.bool t587, Value.int IntKind.i64 t590, Value.bool t591, Value.int IntKind.i64 t592, Value.bool t593, Value.int IntKind.i64 t594, Value.bool t595, Value.int IntKind.i64 t596, Value.bool t597, Value.int IntKind.i64 (↑(List.length t579) : Int), Value.int IntKind.i64 x19_3, u20, u21, undef, undef, undef, undef, undef, undef, undef, undef, undef, undef, undef, undef, undef, undef, undef, undef, u38, u39, u40, u41, u42, u43, u44, u45, u46, u47, u48, u49, u50, u51, u52, u53, u54, u55, u56, u57, u58, u59, u60, u61, u62, u63, u64, u65, u66, u67, u68, u69, u70, u71, u72, u73, u74, u75, u76, u77, u78, u79, u80, u81, u82, u83, u84, u85, u86, u87, u88, u89, u90, u91, u92, u93, u94, u95, u96, u97, u98, u99, u100, u101, u102, u103, u104, u105, u106, u107, u108, u109, u110, u111, u112, u113, u114, u115, u116, u117, u118, u119, u120, u121, u122, u123, u124, u125, u126, u127, u128, u129, u130, u131, u132, u133, u134, u135, u136, u137, u138, u139, Value.bool false, u141, u142, u143, u144, u145, u146, u147, u148, u149, u150, u151, u152, u153, u154, u155, u156, u157, u158, u159, u160, u161, u162, u163, u164, u165, u166, u167, u168, u169, u170, u171, u172, u173, u174, u175, u176, u177, u178, u179, u180, u181, u182, u183, u184, u185, u186, u187, u188, u189, u190, u191, u192, u193, u194, u195, u196, u197, u198, u199, u200, u201, u202, u203, u204, u205, u206, u207, u208, u209, u210, u211, u212, u213, u214, u215, u216, u217, u218, u219, u220, undef, undef, undef, u224, u225, u226, u227, undef, undef, undef, u231, u232, u233, u234, u235, u236, u237, u238, u239, u240, u241, u242, u243, u244, u245, u246, u247, u248, u249, u250, u251, u252, u253, u254, u255, u256, u257, u258, u259, u260, u261, u262, u263, u264, u265, u266, u267, u268, u269, u270, u271, u272, u273, u274, u275, u276, u277, u278, u279, u280, u281, u282, u283, u284, u285, u286, u287, u288, u289, u290, u291, u292, u293, u294, u295, u296, u297, u298, u299, u300, u301, u302, u303, u304, u305, u306], defers := [] } wc := by
  conv at hcd0 => rhs; whnf
  subst hcd0
  conv at hcd1 => rhs; whnf
  subst hcd1
  conv at hcd2 => rhs; whnf
  subst hcd2
  conv at hcd3 => rhs; whnf
  subst hcd3
  conv at hcd4 => rhs; whnf
  subst hcd4
  obtain ⟨kq, x167_56, rfl, HA, HJ56, HO_5, HO_6, HB⟩ := hcut
  cases kq with
  | zero => exact absurd HA.out (by simp [laws_FnRoundsEnd.j3])
  | succ kj56 =>
   have H := HA.out
   clear HA
   simp only [laws_FnRoundsEnd.j3] at H
   by_cases c66 : x167_56 = true
   ·as_aux_lemma =>
    subst c66
    have H1 : (some false) = some r := by rw [if_pos rfl] at H; exact H
    clear H
    have H := H1
    clear H1
    obtain rfl := Option.some.inj H
    go_wp2
    go_ret
    exact ⟨by first | rfl | (simp [errW_none, errW_some] <;> rfl) | (simp [*, errW_none, errW_some] <;> rfl), by repeat (first | (with_reducible first | exact HB.out | apply below_alloc | apply pw_below_drewN | apply below_drew1) | exact HB.out)⟩
   ·as_aux_lemma =>
    replace c66 := Bool.eq_false_iff.mpr c66
    subst c66
    have H1 : (if 0 ≤ x19_3 then (if x19_3 < (t582.length : Int) then (laws_FnRoundsEnd.l1 kj56 t579 t582 t590 t594 (t579.length : Int) x19_3 (rd_L2 t582 x19_3) ((rd_L2 t582 x19_3).length : Int) 0) else (none)) else (none)) = some r := by rw [if_neg (show ¬ (false = true) by decide)] at H; exact H
    clear H
    have H := H1
    clear H1
    by_cases c67 : 0 ≤ x19_3
    ·as_aux_lemma =>
     rw [if_pos c67] at H
     have c67b0 : decide (0 ≤ x19_3) = true := decide_eq_true c67
     clear c67
     by_cases c68 : x19_3 < (t582.length : Int)
     ·as_aux_lemma =>
      rw [if_pos c68] at H
      have c68b0 : decide (x19_3 < (t582.length : Int)) = true := decide_eq_true c68
      clear c68
      have H' := Aside0.mk H
      clear H
      have p604 : 0 ≤ (x19_3 : Int) := of_decide_eq_true (by first | (with_reducible assumption) | assumption)
      have q604 : x19_3 < (t582.length : Int) := of_decide_eq_true (by first | (with_reducible assumption) | assumption)
      obtain ⟨ad604, A604_0, c604_0, e604, hx604_0, hl604_0, hi604_0⟩ := at_L2 (Kd.S_reads' HO_6.out).2.2 x19_3 p604 q604
      cases e604
      obtain ⟨ce604, hce604, hMe604, hcc604⟩ := Kd.S_get HO_6.out [] x19_3 p604 (by first | exact q604 | exact of_decide_eq_true (by first | (with_reducible assumption) | assumption) | (have e_ := (Kd.S_reads' HO_6.out).1; omega))
      obtain ⟨ve604_0, rfl, ge604_0⟩ := hMe604
      have hv604_0 := hcc604 0 _ rfl
      rw [Nat.add_zero, show ((Kd.slice 3 (Kd.int .i64))).sz = 1 from rfl, Nat.mul_one] at hv604_0
      replace hv604_0 := Option.some.inj (hv604_0.symm.trans hx604_0)
      rw [hv604_0] at ge604_0
      have HL604_0 := Aside0.mk (show Kd.R (Kd.int .i64) 3 _ _ _ _ (rd_L2 t582 x19_3) from ge604_0)
      clear hv604_0 ge604_0
      clear hcc604 hce604
      have HR604_0 := Aside0.mk hi604_0
      have HC604_0 := Aside0.mk hl604_0
      clear hi604_0 hl604_0
      replace p604 := eq_true p604
      replace q604 := eq_true q604
      go_wp2
      go_loopg [173] kj56 (fun kq v173 w' => ∃ (x173_5 : Int), v173 = .int .i64 x173_5 ∧ Aside0 (laws_FnRoundsEnd.l1 kq t579 t582 t590 t594 (t579.length : Int) x19_3 (rd_L2 t582 x19_3) ((rd_L2 t582 x19_3).length : Int) x173_5 = some r) ∧ Aside0 (kq ≤ kj56) ∧ Aside0 (Kd.R (Kd.int .i64) 3 w' w.heap.size (fun _ => True) (.slice Ao14 t579.length co14) t579) ∧ Aside0 (Kd.S (Kd.slice 3 (Kd.int .i64)) 25 w' w.heap.size (fun k_ => some k_ ≠ ((.slice Ao14 t579.length co14) : Value).ownBlock) (.slice (some ad604) t582.length co58) t582) ∧ Aside0 (Kd.C (Kd.int .i64) w' A604_0 (rd_L2 t582 x19_3).length (rd_L2 t582 x19_3)) ∧ Aside0 (Below w.heap.size w w'))
      case atStart => exact ⟨(0), (by first | rfl | (simp; done) | (simp [*]; done)), H', ⟨Nat.le_refl _⟩, ⟨by (with_reducible repeat (first | apply Kd.R_alloc | apply Kd.R_drewN | apply Kd.R_drew)); exact HO_5.out⟩, ⟨by (with_reducible repeat (first | apply Kd.S_alloc | apply Kd.S_drewN | apply Kd.S_drew)); exact HO_6.out⟩, ⟨by repeat (first | (with_reducible exact HR604_0.out) | (with_reducible refine Kd.C_alloc ?_ _) | (with_reducible refine Kd.C_drewN ?_ _) | (with_reducible refine Kd.C_drew ?_) | exact HR604_0.out)⟩, ⟨by repeat (first | (with_reducible first | exact HB.out | apply below_alloc | apply pw_below_drewN | apply below_drew1) | exact HB.out)⟩⟩
      case round => as_aux_lemma =>
       clear H'
       try clear c1
       try clear c2
       try clear p2
       try clear c3
       try clear c4
       try clear c5
       try clear p5
       try clear q5
       try clear hx5
       try clear qi5
       try clear c6
       try clear p6
       try clear q6
       try clear hx6
       try clear c13
       try clear c21
       try clear c21b0
       try clear c21b1
       try clear c21b2
       try clear c23
       try clear c24
       try clear c24b0
       try clear c24b1
       try clear c24b2
       try clear c27
       try clear c27b0
       try clear c27b1
       try clear c28
       try clear c28b0
       try clear c28b1
       try clear c28b2
       try clear c31
       try clear c31b0
       try clear c31b1
       try clear c32
       try clear c32b0
       try clear c32b1
       try clear c32b2
       try clear c33
       try clear c34
       try clear c35
       try clear c36
       try clear c37
       try clear c38
       try clear c42
       try clear c43
       try clear c44
       try clear c46
       try clear c46b0
       try clear c46b1
       try clear c47
       try clear c47b0
       try clear c47b1
       try clear c47b2
       try clear c49
       try clear c49b0
       try clear c50
       try clear c50b0
       try clear c51
       try clear c51b0
       try clear c51b1
       try clear c55
       try clear c56
       try clear c56b0
       try clear c59
       try clear c59b0
       try clear p59
       try clear q59
       try clear hx59
       try clear c60
       try clear p60
       try clear q60
       try clear hx60
       try clear c61
       try clear c61b0
       try clear c62
       try clear c62b0
       try clear c63
       try clear c63b0
       try clear p64
       try clear c66
       try clear c67
       try clear c67b0
       try clear c68
       try clear c68b0
       try clear hx599_0
       try clear hx600_0
       try clear hx601_0
       try clear hx602_0
       try clear hx603_0
       try clear hx604_0
       try clear p2
       try clear p5
       try clear p59
       try clear p599
       try clear p6
       try clear p60
       try clear p600
       try clear p601
       try clear p602
       try clear p603
       try clear p604
       try clear p64
       try clear q5
       try clear q59
       try clear q599
       try clear q6
       try clear q60
       try clear q600
       try clear q601
       try clear q602
       try clear q603
       try clear q604
       obtain ⟨x173_5, rfl, HA, HK5, HO_5, HO_6, HR604_0, HB⟩ := hrel
       cases gk with
       | zero => exact absurd HA.out (by simp [laws_FnRoundsEnd.l1])
       | succ k5 =>
        have H := HA.out
        clear HA
        simp only [laws_FnRoundsEnd.l1] at H
        by_cases c69 : x173_5 < ((rd_L2 t582 x19_3).length : Int)
        ·as_aux_lemma =>
         rw [if_pos c69] at H
         have c69b0 : decide (x173_5 < ((rd_L2 t582 x19_3).length : Int)) = true := decide_eq_true c69
         clear c69
         by_cases c70 : 0 ≤ x173_5
         ·as_aux_lemma =>
          rw [if_pos c70] at H
          have c70b0 : decide (0 ≤ x173_5) = true := decide_eq_true c70
          clear c70
          by_cases c71 : x173_5 < ((rd_L2 t582 x19_3).length : Int)
          ·as_aux_lemma =>
           rw [if_pos c71] at H
           have c71b0 : decide (x173_5 < ((rd_L2 t582 x19_3).length : Int)) = true := decide_eq_true c71
           clear c71
           have HC72 := Aside0.mk H
           clear H
           have p605 : 0 ≤ (x173_5 : Int) := of_decide_eq_true (by first | (with_reducible assumption) | assumption)
           have q605 : x173_5 < ((rd_L2 t582 x19_3).length : Int) := of_decide_eq_true (by first | (with_reducible assumption) | assumption)
           obtain ⟨ad605, e605, hx605_0⟩ := Kd.at_int HR604_0.out x173_5 p605 q605
           cases e605
           skip
           replace p605 := eq_true p605
           replace q605 := eq_true q605
           go_upto_region 24 with (fail)
           go_cut [201] (fun v201 wc => ∃ (kq : Nat) (x201_71 : Bool), v201 = .bool x201_71 ∧ Aside0 (laws_FnRoundsEnd.j5 kq t579 t582 t590 t594 (t579.length : Int) x19_3 (rd_L2 t582 x19_3) ((rd_L2 t582 x19_3).length : Int) x173_5 x201_71 = some r) ∧ Aside0 (kq ≤ k5) ∧ Aside0 (Kd.R (Kd.int .i64) 3 wc w.heap.size (fun _ => True) (.slice Ao14 t579.length co14) t579) ∧ Aside0 (Kd.S (Kd.slice 3 (Kd.int .i64)) 25 wc w.heap.size (fun k_ => some k_ ≠ ((.slice Ao14 t579.length co14) : Value).ownBlock) (.slice (some ad604) t582.length co58) t582) ∧ Aside0 (Kd.C (Kd.int .i64) wc (some ad605) (rd_L2 t582 x19_3).length (rd_L2 t582 x19_3)) ∧ Aside0 (Below w.heap.size w wc))
           case first => as_aux_lemma =>
            have H := HC72.out
            clear HC72
            obtain ⟨ji73, hji73⟩ : ∃ j_ : Int, (wrap64 (x19_3 - 1)) = j_ := ⟨_, rfl⟩
            replace H : (if 0 ≤ (ji73) then (if (ji73) < (t582.length : Int) then ((laws_zHas.f k5 (rd_L2 t582 (ji73)) (rd (rd_L2 t582 x19_3) x173_5)).bind fun t607 => (if t607 = true then (if x173_5 > 0 then (if 0 ≤ x19_3 then (if x19_3 < (t582.length : Int) then (if 0 ≤ (wrap64 (x173_5 - 1)) then (if (wrap64 (x173_5 - 1)) < ((rd_L2 t582 x19_3).length : Int) then (laws_FnRoundsEnd.j5 k5 t579 t582 t590 t594 (t579.length : Int) x19_3 (rd_L2 t582 x19_3) ((rd_L2 t582 x19_3).length : Int) x173_5 (decide ((rd (rd_L2 t582 x19_3) (wrap64 (x173_5 - 1))) ≥ (rd (rd_L2 t582 x19_3) x173_5)))) else (none)) else (none)) else (none)) else (none)) else (laws_FnRoundsEnd.j5 k5 t579 t582 t590 t594 (t579.length : Int) x19_3 (rd_L2 t582 x19_3) ((rd_L2 t582 x19_3).length : Int) x173_5 false)) else (laws_FnRoundsEnd.j5 k5 t579 t582 t590 t594 (t579.length : Int) x19_3 (rd_L2 t582 x19_3) ((rd_L2 t582 x19_3).length : Int) x173_5 true))) else (none)) else (none)) = some r := by first | (rw [hji73] at H; exact H) | (simp only [hji73] at H ⊢; exact H)
            have hji73w : (IntKind.i64.wrap (x19_3 - 1)) = ji73 := (i64_w _).trans hji73
            by_cases c74 : 0 ≤ (ji73)
            ·as_aux_lemma =>
             rw [if_pos c74] at H
             have c74b0 : decide (0 ≤ (ji73)) = true := decide_eq_true c74
             clear c74
             (first | rw [c74b0] | (simp only [i64_w, i32_w]; rw [c74b0]) | skip)
             by_cases c75 : (ji73) < (t582.length : Int)
             ·as_aux_lemma =>
              rw [if_pos c75] at H
              have c75b0 : decide ((ji73) < (t582.length : Int)) = true := decide_eq_true c75
              clear c75
              replace H := Option.bind_eq_some_iff.mp H
              obtain ⟨t607, A760, H⟩ := H
              replace H : (if t607 = true then (if x173_5 > 0 then (if 0 ≤ x19_3 then (if x19_3 < (t582.length : Int) then (if 0 ≤ (wrap64 (x173_5 - 1)) then (if (wrap64 (x173_5 - 1)) < ((rd_L2 t582 x19_3).length : Int) then (laws_FnRoundsEnd.j5 k5 t579 t582 t590 t594 (t579.length : Int) x19_3 (rd_L2 t582 x19_3) ((rd_L2 t582 x19_3).length : Int) x173_5 (decide ((rd (rd_L2 t582 x19_3) (wrap64 (x173_5 - 1))) ≥ (rd (rd_L2 t582 x19_3) x173_5)))) else (none)) else (none)) else (none)) else (none)) else (laws_FnRoundsEnd.j5 k5 t579 t582 t590 t594 (t579.length : Int) x19_3 (rd_L2 t582 x19_3) ((rd_L2 t582 x19_3).length : Int) x173_5 false)) else (laws_FnRoundsEnd.j5 k5 t579 t582 t590 t594 (t579.length : Int) x19_3 (rd_L2 t582 x19_3) ((rd_L2 t582 x19_3).length : Int) x173_5 true)) = some r := H
              have A76 := Aside0.mk A760
              clear A760
              by_cases c77 : t607 = true
              ·as_aux_lemma =>
               subst c77
               have H1 : (if x173_5 > 0 then (if 0 ≤ x19_3 then (if x19_3 < (t582.length : Int) then (if 0 ≤ (wrap64 (x173_5 - 1)) then (if (wrap64 (x173_5 - 1)) < ((rd_L2 t582 x19_3).length : Int) then (laws_FnRoundsEnd.j5 k5 t579 t582 t590 t594 (t579.length : Int) x19_3 (rd_L2 t582 x19_3) ((rd_L2 t582 x19_3).length : Int) x173_5 (decide ((rd (rd_L2 t582 x19_3) (wrap64 (x173_5 - 1))) ≥ (rd (rd_L2 t582 x19_3) x173_5)))) else (none)) else (none)) else (none)) else (none)) else (laws_FnRoundsEnd.j5 k5 t579 t582 t590 t594 (t579.length : Int) x19_3 (rd_L2 t582 x19_3) ((rd_L2 t582 x19_3).length : Int) x173_5 false)) = some r := by rw [if_pos rfl] at H; exact H
               clear H
               have H := H1
               clear H1
               by_cases c78 : x173_5 > 0
               ·as_aux_lemma =>
                rw [if_pos c78] at H
                have c78b0 : decide (0 < x173_5) = true := decide_eq_true c78
                clear c78
                by_cases c79 : 0 ≤ x19_3
                ·as_aux_lemma =>
                 rw [if_pos c79] at H
                 have c79b0 : decide (0 ≤ x19_3) = true := decide_eq_true c79
                 clear c79
                 by_cases c80 : x19_3 < (t582.length : Int)
                 ·as_aux_lemma =>
                  rw [if_pos c80] at H
                  have c80b0 : decide (x19_3 < (t582.length : Int)) = true := decide_eq_true c80
                  clear c80
                  obtain ⟨ji81, hji81⟩ : ∃ j_ : Int, (wrap64 (x173_5 - 1)) = j_ := ⟨_, rfl⟩
                  replace H : (if 0 ≤ (ji81) then (if (ji81) < ((rd_L2 t582 x19_3).length : Int) then (laws_FnRoundsEnd.j5 k5 t579 t582 t590 t594 (t579.length : Int) x19_3 (rd_L2 t582 x19_3) ((rd_L2 t582 x19_3).length : Int) x173_5 (decide ((rd (rd_L2 t582 x19_3) (ji81)) ≥ (rd (rd_L2 t582 x19_3) x173_5)))) else (none)) else (none)) = some r := by first | (rw [hji81] at H; exact H) | (simp only [hji81] at H ⊢; exact H)
                  (try rw [hji81] at A76)
                  have hji81w : (IntKind.i64.wrap (x173_5 - 1)) = ji81 := (i64_w _).trans hji81
                  by_cases c82 : 0 ≤ (ji81)
                  ·as_aux_lemma =>
                   rw [if_pos c82] at H
                   have c82b0 : decide (0 ≤ (ji81)) = true := decide_eq_true c82
                   clear c82
                   by_cases c83 : (ji81) < ((rd_L2 t582 x19_3).length : Int)
                   ·as_aux_lemma =>
                    rw [if_pos c83] at H
                    have c83b0 : decide ((ji81) < ((rd_L2 t582 x19_3).length : Int)) = true := decide_eq_true c83
                    clear c83
                    have H' := Aside0.mk H
                    clear H
                    have p606 : 0 ≤ ((ji73) : Int) := of_decide_eq_true (by first | (with_reducible assumption) | assumption)
                    have q606 : (ji73) < (t582.length : Int) := of_decide_eq_true (by first | (with_reducible assumption) | assumption)
                    obtain ⟨ad606, A606_0, c606_0, e606, hx606_0, hl606_0, hi606_0⟩ := at_L2 (Kd.S_reads' HO_6.out).2.2 (ji73) p606 q606
                    obtain rfl : ad604 = ad606 := (by injection e606)
                    obtain ⟨ce606, hce606, hMe606, hcc606⟩ := Kd.S_get HO_6.out [] (ji73) p606 (by first | exact q606 | exact of_decide_eq_true (by first | (with_reducible assumption) | assumption) | (have e_ := (Kd.S_reads' HO_6.out).1; omega))
                    obtain ⟨ve606_0, rfl, ge606_0⟩ := hMe606
                    have hv606_0 := hcc606 0 _ rfl
                    rw [Nat.add_zero, show ((Kd.slice 3 (Kd.int .i64))).sz = 1 from rfl, Nat.mul_one] at hv606_0
                    replace hv606_0 := Option.some.inj (hv606_0.symm.trans hx606_0)
                    rw [hv606_0] at ge606_0
                    have HL606_0 := Aside0.mk (show Kd.R (Kd.int .i64) 3 _ _ _ _ (rd_L2 t582 (ji73)) from ge606_0)
                    clear hv606_0 ge606_0
                    clear hcc606 hce606
                    have HR606_0 := Aside0.mk hi606_0
                    have HC606_0 := Aside0.mk hl606_0
                    clear hi606_0 hl606_0
                    replace p606 := eq_true p606
                    replace q606 := eq_true q606
                    go_wp2_with (first | ((with_reducible refine gate_callee (f := 45) rfl ?_); refine goesL_ (some 184) rfl rfl Try.func45 (by kernel_rfl) rfl #[.slice A606_0 (rd_L2 t582 (ji73)).length c606_0, .int .i64 (rd (rd_L2 t582 x19_3) x173_5)] rfl (by (try simp only [List.map_toArray, List.map_cons, List.map_nil]); first | done | (simp only [hji73]; rfl) | rfl | (simp only [List.length_drop, List.length_take]; rfl)) ?_; (with_reducible refine (laws_zHas.calls k5 _ _ (rd_L2 t582 (ji73)) (rd (rd_L2 t582 x19_3) x173_5) true _ ?side1 ?side2 A76.out).mono ?_); (case side1 => repeat (first | exact (by repeat (first | (with_reducible exact HR606_0.out) | (with_reducible refine Kd.C_alloc ?_ _) | (with_reducible refine Kd.C_drewN ?_ _) | (with_reducible refine Kd.C_drew ?_) | exact HR606_0.out)) | (with_reducible refine Kd.C_alloc ?_ _) | (with_reducible refine Kd.C_drewN ?_ _) | (with_reducible refine Kd.C_drew ?_))); (case side2 => exact HC606_0.out); rintro e w' ⟨rfl, ⟨nd, rfl⟩⟩; refine ⟨_, rfl, ?_⟩; have p608 : 0 ≤ (x19_3 : Int) := of_decide_eq_true (by first | (with_reducible assumption) | assumption); have q608 : x19_3 < (t582.length : Int) := of_decide_eq_true (by first | (with_reducible assumption) | assumption); obtain ⟨ad608, A608_0, c608_0, e608, hx608_0, hl608_0, hi608_0⟩ := at_L2 (Kd.S_reads' HO_6.out).2.2 x19_3 p608 q608; obtain rfl : ad604 = ad608 := (by injection e608); obtain ⟨ce608, hce608, hMe608, hcc608⟩ := Kd.S_get HO_6.out [] x19_3 p608 (by first | exact q608 | exact of_decide_eq_true (by first | (with_reducible assumption) | assumption) | (have e_ := (Kd.S_reads' HO_6.out).1; omega)); obtain ⟨ve608_0, rfl, ge608_0⟩ := hMe608; have hv608_0 := hcc608 0 _ rfl; rw [Nat.add_zero, show ((Kd.slice 3 (Kd.int .i64))).sz = 1 from rfl, Nat.mul_one] at hv608_0; replace hv608_0 := Option.some.inj (hv608_0.symm.trans hx608_0); rw [hv608_0] at ge608_0; have HL608_0 := Aside0.mk (show Kd.R (Kd.int .i64) 3 _ _ _ _ (rd_L2 t582 x19_3) from ge608_0); clear hv608_0 ge608_0; clear hcc608 hce608; have HR608_0 := Aside0.mk hi608_0; have HC608_0 := Aside0.mk hl608_0; clear hi608_0 hl608_0; replace p608 := eq_true p608; replace q608 := eq_true q608; have p609 : 0 ≤ ((ji81) : Int) := of_decide_eq_true (by first | (with_reducible assumption) | assumption); have q609 : (ji81) < ((rd_L2 t582 x19_3).length : Int) := of_decide_eq_true (by first | (with_reducible assumption) | assumption); obtain ⟨ad609, e609, hx609_0⟩ := Kd.at_int (by repeat (first | (with_reducible exact HR608_0.out) | (with_reducible refine Kd.C_alloc ?_ _) | (with_reducible refine Kd.C_drewN ?_ _) | (with_reducible refine Kd.C_drew ?_) | exact HR608_0.out)) (ji81) p609 q609; cases e609; replace p609 := eq_true p609; replace q609 := eq_true q609))
                    go_meet
                    case rel => exact ⟨_, (decide ((rd (rd_L2 t582 x19_3) (ji81)) ≥ (rd (rd_L2 t582 x19_3) x173_5))), (by first | rfl | (simp; done) | (simp only [← hji81] <;> (first | rfl | simp)) | (simp [*]; done)), H', ⟨by have := HJ11.out; have := HJ44.out; have := HK3.out; have := HJ56.out; have := HK5.out; first | omega | exact Nat.le_refl _⟩, ⟨by (with_reducible repeat (first | apply Kd.R_alloc | apply Kd.R_drewN | apply Kd.R_drew)); exact HO_5.out⟩, ⟨by (with_reducible repeat (first | apply Kd.S_alloc | apply Kd.S_drewN | apply Kd.S_drew)); exact HO_6.out⟩, ⟨by repeat (first | (with_reducible exact HR604_0.out) | (with_reducible refine Kd.C_alloc ?_ _) | (with_reducible refine Kd.C_drewN ?_ _) | (with_reducible refine Kd.C_drew ?_) | exact HR604_0.out)⟩, ⟨by repeat (first | (with_reducible first | exact HB.out | apply below_alloc | apply pw_below_drewN | apply below_drew1) | exact HB.out)⟩⟩
                   ·as_aux_lemma =>
                    rw [if_neg c83] at H
                    exact absurd H (by simp)
                  ·as_aux_lemma =>
                   rw [if_neg c82] at H
                   exact absurd H (by simp)
                 ·as_aux_lemma =>
                  rw [if_neg c80] at H
                  exact absurd H (by simp)
                ·as_aux_lemma =>
                 rw [if_neg c79] at H
                 exact absurd H (by simp)
               ·as_aux_lemma =>
                rw [if_neg c78] at H
                have c78b0 : decide (0 < x173_5) = false := decide_eq_false c78
                clear c78
                have H' := Aside0.mk H
                clear H
                have p606 : 0 ≤ ((ji73) : Int) := of_decide_eq_true (by first | (with_reducible assumption) | assumption)
                have q606 : (ji73) < (t582.length : Int) := of_decide_eq_true (by first | (with_reducible assumption) | assumption)
                obtain ⟨ad606, A606_0, c606_0, e606, hx606_0, hl606_0, hi606_0⟩ := at_L2 (Kd.S_reads' HO_6.out).2.2 (ji73) p606 q606
                obtain rfl : ad604 = ad606 := (by injection e606)
                obtain ⟨ce606, hce606, hMe606, hcc606⟩ := Kd.S_get HO_6.out [] (ji73) p606 (by first | exact q606 | exact of_decide_eq_true (by first | (with_reducible assumption) | assumption) | (have e_ := (Kd.S_reads' HO_6.out).1; omega))
                obtain ⟨ve606_0, rfl, ge606_0⟩ := hMe606
                have hv606_0 := hcc606 0 _ rfl
                rw [Nat.add_zero, show ((Kd.slice 3 (Kd.int .i64))).sz = 1 from rfl, Nat.mul_one] at hv606_0
                replace hv606_0 := Option.some.inj (hv606_0.symm.trans hx606_0)
                rw [hv606_0] at ge606_0
                have HL606_0 := Aside0.mk (show Kd.R (Kd.int .i64) 3 _ _ _ _ (rd_L2 t582 (ji73)) from ge606_0)
                clear hv606_0 ge606_0
                clear hcc606 hce606
                have HR606_0 := Aside0.mk hi606_0
                have HC606_0 := Aside0.mk hl606_0
                clear hi606_0 hl606_0
                replace p606 := eq_true p606
                replace q606 := eq_true q606
                go_wp2_with (first | ((with_reducible refine gate_callee (f := 45) rfl ?_); refine goesL_ (some 184) rfl rfl Try.func45 (by kernel_rfl) rfl #[.slice A606_0 (rd_L2 t582 (ji73)).length c606_0, .int .i64 (rd (rd_L2 t582 x19_3) x173_5)] rfl (by (try simp only [List.map_toArray, List.map_cons, List.map_nil]); first | done | (simp only [hji73]; rfl) | rfl | (simp only [List.length_drop, List.length_take]; rfl)) ?_; (with_reducible refine (laws_zHas.calls k5 _ _ (rd_L2 t582 (ji73)) (rd (rd_L2 t582 x19_3) x173_5) true _ ?side1 ?side2 A76.out).mono ?_); (case side1 => repeat (first | exact (by repeat (first | (with_reducible exact HR606_0.out) | (with_reducible refine Kd.C_alloc ?_ _) | (with_reducible refine Kd.C_drewN ?_ _) | (with_reducible refine Kd.C_drew ?_) | exact HR606_0.out)) | (with_reducible refine Kd.C_alloc ?_ _) | (with_reducible refine Kd.C_drewN ?_ _) | (with_reducible refine Kd.C_drew ?_))); (case side2 => exact HC606_0.out); rintro e w' ⟨rfl, ⟨nd, rfl⟩⟩; refine ⟨_, rfl, ?_⟩))
                go_meet
                case rel => exact ⟨_, (false), (by first | rfl | (simp; done) | (simp [*]; done)), H', ⟨by have := HJ11.out; have := HJ44.out; have := HK3.out; have := HJ56.out; have := HK5.out; first | omega | exact Nat.le_refl _⟩, ⟨by (with_reducible repeat (first | apply Kd.R_alloc | apply Kd.R_drewN | apply Kd.R_drew)); exact HO_5.out⟩, ⟨by (with_reducible repeat (first | apply Kd.S_alloc | apply Kd.S_drewN | apply Kd.S_drew)); exact HO_6.out⟩, ⟨by repeat (first | (with_reducible exact HR604_0.out) | (with_reducible refine Kd.C_alloc ?_ _) | (with_reducible refine Kd.C_drewN ?_ _) | (with_reducible refine Kd.C_drew ?_) | exact HR604_0.out)⟩, ⟨by repeat (first | (with_reducible first | exact HB.out | apply below_alloc | apply pw_below_drewN | apply below_drew1) | exact HB.out)⟩⟩
              ·as_aux_lemma =>
               replace c77 := Bool.eq_false_iff.mpr c77
               subst c77
               have H1 : (laws_FnRoundsEnd.j5 k5 t579 t582 t590 t594 (t579.length : Int) x19_3 (rd_L2 t582 x19_3) ((rd_L2 t582 x19_3).length : Int) x173_5 true) = some r := by rw [if_neg (show ¬ (false = true) by decide)] at H; exact H
               clear H
               have H := H1
               clear H1
               have H' := Aside0.mk H
               clear H
               have p606 : 0 ≤ ((ji73) : Int) := of_decide_eq_true (by first | (with_reducible assumption) | assumption)
               have q606 : (ji73) < (t582.length : Int) := of_decide_eq_true (by first | (with_reducible assumption) | assumption)
               obtain ⟨ad606, A606_0, c606_0, e606, hx606_0, hl606_0, hi606_0⟩ := at_L2 (Kd.S_reads' HO_6.out).2.2 (ji73) p606 q606
               obtain rfl : ad604 = ad606 := (by injection e606)
               obtain ⟨ce606, hce606, hMe606, hcc606⟩ := Kd.S_get HO_6.out [] (ji73) p606 (by first | exact q606 | exact of_decide_eq_true (by first | (with_reducible assumption) | assumption) | (have e_ := (Kd.S_reads' HO_6.out).1; omega))
               obtain ⟨ve606_0, rfl, ge606_0⟩ := hMe606
               have hv606_0 := hcc606 0 _ rfl
               rw [Nat.add_zero, show ((Kd.slice 3 (Kd.int .i64))).sz = 1 from rfl, Nat.mul_one] at hv606_0
               replace hv606_0 := Option.some.inj (hv606_0.symm.trans hx606_0)
               rw [hv606_0] at ge606_0
               have HL606_0 := Aside0.mk (show Kd.R (Kd.int .i64) 3 _ _ _ _ (rd_L2 t582 (ji73)) from ge606_0)
               clear hv606_0 ge606_0
               clear hcc606 hce606
               have HR606_0 := Aside0.mk hi606_0
               have HC606_0 := Aside0.mk hl606_0
               clear hi606_0 hl606_0
               replace p606 := eq_true p606
               replace q606 := eq_true q606
               go_wp2_with (first | ((with_reducible refine gate_callee (f := 45) rfl ?_); refine goesL_ (some 184) rfl rfl Try.func45 (by kernel_rfl) rfl #[.slice A606_0 (rd_L2 t582 (ji73)).length c606_0, .int .i64 (rd (rd_L2 t582 x19_3) x173_5)] rfl (by (try simp only [List.map_toArray, List.map_cons, List.map_nil]); first | done | (simp only [hji73]; rfl) | rfl | (simp only [List.length_drop, List.length_take]; rfl)) ?_; (with_reducible refine (laws_zHas.calls k5 _ _ (rd_L2 t582 (ji73)) (rd (rd_L2 t582 x19_3) x173_5) false _ ?side1 ?side2 A76.out).mono ?_); (case side1 => repeat (first | exact (by repeat (first | (with_reducible exact HR606_0.out) | (with_reducible refine Kd.C_alloc ?_ _) | (with_reducible refine Kd.C_drewN ?_ _) | (with_reducible refine Kd.C_drew ?_) | exact HR606_0.out)) | (with_reducible refine Kd.C_alloc ?_ _) | (with_reducible refine Kd.C_drewN ?_ _) | (with_reducible refine Kd.C_drew ?_))); (case side2 => exact HC606_0.out); rintro e w' ⟨rfl, ⟨nd, rfl⟩⟩; refine ⟨_, rfl, ?_⟩))
               go_meet
               case rel => exact ⟨_, (true), (by first | rfl | (simp; done) | (simp [*]; done)), H', ⟨by have := HJ11.out; have := HJ44.out; have := HK3.out; have := HJ56.out; have := HK5.out; first | omega | exact Nat.le_refl _⟩, ⟨by (with_reducible repeat (first | apply Kd.R_alloc | apply Kd.R_drewN | apply Kd.R_drew)); exact HO_5.out⟩, ⟨by (with_reducible repeat (first | apply Kd.S_alloc | apply Kd.S_drewN | apply Kd.S_drew)); exact HO_6.out⟩, ⟨by repeat (first | (with_reducible exact HR604_0.out) | (with_reducible refine Kd.C_alloc ?_ _) | (with_reducible refine Kd.C_drewN ?_ _) | (with_reducible refine Kd.C_drew ?_) | exact HR604_0.out)⟩, ⟨by repeat (first | (with_reducible first | exact HB.out | apply below_alloc | apply pw_below_drewN | apply below_drew1) | exact HB.out)⟩⟩
             ·as_aux_lemma =>
              rw [if_neg c75] at H
              exact absurd H (by simp)
            ·as_aux_lemma =>
             rw [if_neg c74] at H
             exact absurd H (by simp)
           case rest => as_aux_lemma =>
            clear HC72
            try clear c1
            try clear c2
            try clear p2
            try clear c3
            try clear c4
            try clear c5
            try clear p5
            try clear q5
            try clear hx5
            try clear qi5
            try clear c6
            try clear p6
            try clear q6
            try clear hx6
            try clear c7
            try clear c8
            try clear c13
            try clear c21
            try clear c21b0
            try clear c21b1
            try clear c21b2
            try clear c23
            try clear c24
            try clear c24b0
            try clear c24b1
            try clear c24b2
            try clear c27
            try clear c27b0
            try clear c27b1
            try clear c28
            try clear c28b0
            try clear c28b1
            try clear c28b2
            try clear c31
            try clear c31b0
            try clear c31b1
            try clear c32
            try clear c32b0
            try clear c32b1
            try clear c32b2
            try clear c33
            try clear c34
            try clear c35
            try clear c36
            try clear c37
            try clear c38
            try clear c42
            try clear c43
            try clear c44
            try clear c45
            try clear c46
            try clear c46b0
            try clear c46b1
            try clear c47
            try clear c47b0
            try clear c47b1
            try clear c47b2
            try clear c49
            try clear c49b0
            try clear c50
            try clear c50b0
            try clear c51
            try clear c51b0
            try clear c51b1
            try clear c55
            try clear c56
            try clear c56b0
            try clear c59
            try clear c59b0
            try clear p59
            try clear q59
            try clear hx59
            try clear c60
            try clear p60
            try clear q60
            try clear hx60
            try clear c61
            try clear c61b0
            try clear c62
            try clear c62b0
            try clear c63
            try clear c63b0
            try clear p64
            try clear c66
            try clear c67
            try clear c67b0
            try clear c68
            try clear c68b0
            try clear c69
            try clear c69b0
            try clear c70
            try clear c70b0
            try clear c71
            try clear c71b0
            try clear c74
            try clear c74b0
            try clear c75
            try clear c75b0
            try clear c77
            try clear c78
            try clear c78b0
            try clear c79
            try clear c79b0
            try clear c80
            try clear c80b0
            try clear c82
            try clear c82b0
            try clear c83
            try clear c83b0
            try clear hx599_0
            try clear hx600_0
            try clear hx601_0
            try clear hx602_0
            try clear hx603_0
            try clear hx604_0
            try clear hx605_0
            try clear hx606_0
            try clear hx608_0
            try clear hx609_0
            try clear p2
            try clear p5
            try clear p59
            try clear p599
            try clear p6
            try clear p60
            try clear p600
            try clear p601
            try clear p602
            try clear p603
            try clear p604
            try clear p605
            try clear p606
            try clear p608
            try clear p609
            try clear p64
            try clear q5
            try clear q59
            try clear q599
            try clear q6
            try clear q60
            try clear q600
            try clear q601
            try clear q602
            try clear q603
            try clear q604
            try clear q605
            try clear q606
            try clear q608
            try clear q609
            obtain ⟨kq, x201_71, rfl, HA, HJ71, HO_5, HO_6, HR604_0, HB⟩ := hcut
            cases kq with
            | zero => exact absurd HA.out (by simp [laws_FnRoundsEnd.j5])
            | succ kj71 =>
             have H := HA.out
             clear HA
             simp only [laws_FnRoundsEnd.j5] at H
             by_cases c84 : x201_71 = true
             ·as_aux_lemma =>
              subst c84
              have H1 : (some false) = some r := by rw [if_pos rfl] at H; exact H
              clear H
              have H := H1
              clear H1
              obtain rfl := Option.some.inj H
              go_wp2
              go_ret
              exact ⟨by first | rfl | (simp [errW_none, errW_some] <;> rfl) | (simp [*, errW_none, errW_some] <;> rfl), by repeat (first | (with_reducible first | exact HB.out | apply below_alloc | apply pw_below_drewN | apply below_drew1) | exact HB.out)⟩
             ·as_aux_lemma =>
              replace c84 := Bool.eq_false_iff.mpr c84
              subst c84
              have H1 : (laws_FnRoundsEnd.l1 kj71 t579 t582 t590 t594 (t579.length : Int) x19_3 (rd_L2 t582 x19_3) ((rd_L2 t582 x19_3).length : Int) (wrap64 (x173_5 + 1))) = some r := by rw [if_neg (show ¬ (false = true) by decide)] at H; exact H
              clear H
              have H := H1
              clear H1
              have H' := Aside0.mk H
              clear H
              go_wp2
              go_roundg kj71
              case measure => have := HJ11.out; have := HJ44.out; have := HK3.out; have := HJ56.out; have := HK5.out; have := HJ71.out; omega
              case rel => exact ⟨(wrap64 (x173_5 + 1)), (by first | rfl | (simp; done) | (simp [*]; done)), H', ⟨by have := HJ11.out; have := HJ44.out; have := HK3.out; have := HJ56.out; have := HK5.out; have := HJ71.out; omega⟩, ⟨by (with_reducible repeat (first | apply Kd.R_alloc | apply Kd.R_drewN | apply Kd.R_drew)); exact HO_5.out⟩, ⟨by (with_reducible repeat (first | apply Kd.S_alloc | apply Kd.S_drewN | apply Kd.S_drew)); exact HO_6.out⟩, ⟨by repeat (first | (with_reducible exact HR604_0.out) | (with_reducible refine Kd.C_alloc ?_ _) | (with_reducible refine Kd.C_drewN ?_ _) | (with_reducible refine Kd.C_drew ?_) | exact HR604_0.out)⟩, ⟨by repeat (first | (with_reducible first | exact HB.out | apply below_alloc | apply pw_below_drewN | apply below_drew1) | exact HB.out)⟩⟩
          ·as_aux_lemma =>
           rw [if_neg c71] at H
           exact absurd H (by simp)
         ·as_aux_lemma =>
          rw [if_neg c70] at H
          exact absurd H (by simp)
        ·as_aux_lemma =>
         rw [if_neg c69] at H
         have c69b0 : decide (x173_5 < ((rd_L2 t582 x19_3).length : Int)) = false := decide_eq_false c69
         clear c69
         have H' := Aside0.mk H
         clear H
         go_wp2
         go_roundg k5
         case measure => have := HJ11.out; have := HJ44.out; have := HK3.out; have := HJ56.out; have := HK5.out; omega
         case rel => exact ⟨(wrap64 (x19_3 + 1)), (by first | rfl | (simp; done) | (simp [*]; done)), H', ⟨by have := HJ11.out; have := HJ44.out; have := HK3.out; have := HJ56.out; have := HK5.out; omega⟩, ⟨by (with_reducible repeat (first | apply Kd.R_alloc | apply Kd.R_drewN | apply Kd.R_drew)); exact HO_5.out⟩, ⟨by (with_reducible repeat (first | apply Kd.S_alloc | apply Kd.S_drewN | apply Kd.S_drew)); exact HO_6.out⟩, ⟨by repeat (first | (with_reducible first | exact HB.out | apply below_alloc | apply pw_below_drewN | apply below_drew1) | exact HB.out)⟩⟩
     ·as_aux_lemma =>
      rw [if_neg c68] at H
      exact absurd H (by simp)
    ·as_aux_lemma =>
     rw [if_neg c67] at H
     exact absurd H (by simp)
end Go.Proofs.Ytbiiklkkfkipeaa.X
