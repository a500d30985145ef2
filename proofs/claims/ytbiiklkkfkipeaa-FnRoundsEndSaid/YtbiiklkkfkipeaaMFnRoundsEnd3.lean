/- Several texts of this session in one: X471. -/
import Derived.Test.YtbiiklkkfkipeaaMFnRoundsEnd2
/- The walk of the law FnRoundsEnd, its last piece: written by this session's program wip/split/cut.py. -/
namespace Go.Proofs.Ytbiiklkkfkipeaa.X
open Go.RowKit Go.Proofs.YtbiiklkkfkipeaaW.PrintWords Go.Proofs.YtbiiklkkfkipeaaW.PrintLast Go.Proofs.YtbiiklkkfkipeaaW.PrintMore
attribute [local go_sem] max2_int min2_int max_two min_two max_three min_three max_four min_four   -- for this text's walks alone
set_option linter.unusedVariables false
set_option linter.unusedSimpArgs false

set_option maxHeartbeats 8000000 in
set_option maxRecDepth 100000 in
theorem laws_FnRoundsEnd.pc_j10 {cd0 : Code} {cd1 : Code} {A0 : Option Addr} {c0 : Nat} {l0 : List Int} {A1 : Option Addr} {c1 : Nat} {l1 : List Int} {r : Bool} {w : World} {t579 : List Int} {t582 : List (List Int)} {t587 : Bool} {t590 : Int} {t591 : Bool} {t592 : Int} {t593 : Bool} {t594 : Int} {t595 : Bool} {t596 : Int} {t597 : Bool} {co14 : Nat} {v588 : Value} {K_z1 : Act → World → Prop} (a_z1 : ∀ (a : Act) (w_1 : World), Code.wp Try.prog cd0 (bodyPost Try.prog Try.f13 fun (e : Ending) (w' : World) => e = Ending.returned (Value.bool r) ∧ Below (Array.size (World.heap w)) w w') a w_1 → K_z1 a w_1) {u4 u20 u21 u171 u172 u173 : Value} {x19_3 t610 : Int} {t611 : Bool} {Ao87 : Option Addr} {co87 : Nat} {u25 u26 u28 u228 u229 u230 : Value} {x24_5 : List Int} {x223_5 : Int} {t620 : Bool} {t623 : Int} {t624 : Bool} {Ao112 : Option Addr} {co112 : Nat} {v621 : Value} {kj110 : Nat} {y637 : List Int} {t640 : Int} {t641 : Bool} {t642 : Int} {t643 : Bool} {ad131 : Addr} {Ao140 : Option Addr} {co140 : Nat} {wc : World} {u38 u39 u40 u41 u42 u43 u44 u45 u46 u47 u48 u49 u50 u51 u52 u53 u54 u55 u56 u57 u58 u59 u60 u61 u62 u63 u64 u65 u66 u67 u68 u69 u70 u71 u72 u73 u74 u75 u76 u77 u78 u79 u80 u81 u82 u83 u84 u85 u86 u87 u88 u89 u90 u91 u92 u93 u94 u95 u96 u97 u98 u99 u100 u101 u102 u103 u104 u105 u106 u107 u108 u109 u110 u111 u112 u113 u114 u115 u116 u117 u118 u119 u120 u121 u122 u123 u124 u125 u126 u127 u128 u129 u130 u131 u132 u133 u134 u135 u136 u137 u138 u139 u140 u141 u142 u143 u144 u145 u146 u147 u148 u149 u150 u151 u152 u153 u154 u155 u156 u157 u158 u159 u160 u161 u162 u163 u164 u165 u166 u167 u168 u169 u170 u174 u175 u176 u177 u178 u179 u180 u181 u182 u183 u184 u185 u186 u187 u188 u189 u190 u191 u192 u193 u194 u195 u196 u197 u198 u199 u200 u201 u202 u203 u204 u205 u206 u207 u208 u209 u210 u211 u212 u213 u214 u215 u216 u217 u218 u219 u220 u224 u225 u226 u227 u231 u232 u233 u234 u235 u236 u237 u238 u239 u240 u241 u242 u243 u244 u245 u246 u247 u248 u249 u250 u251 u252 u253 u254 u255 u256 u257 u258 u259 u260 u261 u262 u263 u264 u265 u266 u267 u268 u269 u270 u271 u272 u273 u274 u275 u276 u277 u278 u279 u280 u281 u282 u283 u284 u285 u286 u287 u288 u289 u290 u291 u292 u293 u294 u295 u296 u297 u298 u299 u300 u301 u302 u303 u304 u305 u306 : Value} (hcut : ∃ (kq : Nat), ∃ (x306_128 : Bool), u306 = Value.bool x306_128 ∧ Aside0 (j10 kq x306_128 = some r) ∧ Aside0 (kq ≤ kj110) ∧ Aside0 (Below (Array.size (World.heap w)) w wc)) (hcd0 : cd0 = cB (cB (cB (cB (cB (cB (cB (cB (cB (cB (cB (P13)))))))))))) (hcd1 : cd1 = cB (cB (cB (cB (cB (cB (cB (cB (cB (cB (cB (cB (cB (cB (cA (cB (cA (cB (cB (cB (cB (cB (cB (cB (cB (cB (cB (P13)))))))))))))))))))))))))))) : Code.wp Try.prog cd1 (Exit.then K_z1 (bodyPost Try.prog Try.f13 fun (e : Ending) (w' : World) => e = Ending.returned (Value.bool r) ∧ Below (Array.size (World.heap w)) w w')) { tmps := #[Value.slice A0 (List.length l0) c0, Value.slice A1 (List.length l1) c1, undef, undef, u4, Value.slice (some ad131) (List.length t579) co14, Value.slice Ao87 (List.length t582) co87, Value.bool true, v588, Value.bool t587, Value.int IntKind.i64 t590, Value.bool t591, Value.int IntKind.i64 t592, Value.bool t593, Value.int IntKind.i64 t594, Value.bool t595, Value.int IntKind.i64 t596, Value.bool t597, Value.int IntKind.i64 (↑(List.length t579) : Int), Value.int IntKind.i64 x19_3, u20, u21, Value.int IntKind.i64 t610, Value.bool t611, Value.slice Ao112 (List.length x24_5) co112, u25, u26, undef, u28, v621, Value.bool t620, Value.int IntKind.i64 t623, Value.bool t624, Value.slice Ao140 (List.length y637) co140, Value.int IntKind.i64 t640, Value.bool t641, Value.int IntKind.i64 t642, Value.bool t643, u38, u39, u40, u41, u42, u43, u44, u45, u46, u47, u48, u49, u50, u51, u52, u53, u54, u55, u56, u57, u58, u59, u60, u61, u62, u63, u64, u65, u66, u67, u68, u69, u70, u71, u72, u73, u74, u75, u76, u77, u78, u79, u80, u81, u82, u83, u84, u85, u86, u87, u88, u89, u90, u91, u92, u93, u94, u95, u96, u97, u98, u99, u100, u101, u102, u103, u104, u105, u106, u107, u108, u109, u110, u111, u112, u113, u114, u115, u116, u117, u118, u119, u120, u121, u122, u123, u124, u125, u126, u127, u128, u129, u130, u131, u132, u133, u134, u135, u136, u137, u138, u139, u140, u141, u142, u143, u144, u145, u146, u147, u148, u149, u150, u151, u152, u153, u154, u155, u156, u157, u158, u159, u160, u161, u162, u163, u164, u165, u166, u167, u168, u169, u170, u171, u172, u173, u174, u175, u176, u177, u178, u179, u180, u181, u182, u183, u184, u185, u186, u187, u188, u189, u190, u191, u192, u193, u194, u195, u196, u197, u198, u199, u200, u201, u202, u203, u204, u205, u206, u207, u208, u209, u210, u211, u212, u213, u214, u215, u216, u217, u218, u219, u220, Value.slice (some ad131) (List.length t579) co14, Value.int IntKind.i64 (↑(List.length t579) : Int), Value.int IntKind.i64 x223_5, u224, u225, u226, u227, u228, u229, u230, u231, u232, u233, u234, u235, u236, u237, u238, u239, u240, u241, u242, u243, u244, u245, u246, u247, u248, u249, u250, u251, u252, u253, u254, u255, u256, u257, u258, u259, u260, u261, u262, u263, u264, u265, u266, u267, u268, u269, u270, u271, u272, u273, u274, u275, u276, u277, u278, u279, u280, u281, u282, u283, u284, u285, u286, u287, u288, u289, u290, u291, u292, u293, u294, u295, u296, u297, u298, u299, u300, u301, u302, u303, u304, u305, u306], defers := [] } wc := by
  conv at hcd0 => rhs; whnf
  subst hcd0
  conv at hcd1 => rhs; whnf
  subst hcd1
  obtain ⟨kq, x306_128, rfl, HA, HJ128, HB⟩ := hcut
  cases kq with
  | zero => exact absurd HA.out (by simp [laws_FnRoundsEnd.j10])
  | succ kj128 =>
   have H := HA.out
   clear HA
   simp only [laws_FnRoundsEnd.j10] at H
   by_cases c146 : x306_128 = true
   ·as_aux_lemma =>
    subst c146
    have H1 : (some false) = some r := by rw [if_pos rfl] at H; exact H
    clear H
    have H := H1
    clear H1
    obtain rfl := Option.some.inj H
    go_wp2
    go_ret
    exact ⟨by first | rfl | (simp [errW_none, errW_some] <;> rfl) | (simp [*, errW_none, errW_some] <;> rfl), by repeat (first | (with_reducible first | exact HB.out | apply below_alloc | apply pw_below_drewN | apply below_drew1) | exact HB.out)⟩
   ·as_aux_lemma =>
    replace c146 := Bool.eq_false_iff.mpr c146
    subst c146
    have H1 : (some true) = some r := by rw [if_neg (show ¬ (false = true) by decide)] at H; exact H
    clear H
    have H := H1
    clear H1
    obtain rfl := Option.some.inj H
    go_wp2
    go_ret
    exact ⟨by first | rfl | (simp [errW_none, errW_some] <;> rfl) | (simp [*, errW_none, errW_some] <;> rfl), by repeat (first | (with_reducible first | exact HB.out | apply below_alloc | apply pw_below_drewN | apply below_drew1) | exact HB.out)⟩
end Go.Proofs.Ytbiiklkkfkipeaa.X
