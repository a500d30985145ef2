/- Several texts of this session in one: X472. -/
import Derived.Test.YtbiiklkkfkipeaaMFnRoundsEnd2
import Derived.Test.YtbiiklkkfkipeaaMFnRoundsEnd3
/- The walk of the law FnRoundsEnd, its fourth piece: written by this session's program wip/split/cut.py. -/
namespace Go.Proofs.Ytbiiklkkfkipeaa.X
open Go.RowKit Go.Proofs.YtbiiklkkfkipeaaW.PrintWords Go.Proofs.YtbiiklkkfkipeaaW.PrintLast Go.Proofs.YtbiiklkkfkipeaaW.PrintMore
attribute [local go_sem] max2_int min2_int max_two min_two max_three min_three max_four min_four   -- for this text's walks alone
set_option linter.unusedVariables false
set_option linter.unusedSimpArgs false

set_option maxHeartbeats 8000000 in
set_option maxRecDepth 100000 in
theorem laws_FnRoundsEnd.pc_j9 {cd0 : Code} {cd1 : Code} {cd2 : Code} {k : Nat} {A0 : Option Addr} {c0 : Nat} {l0 : List Int} {A1 : Option Addr} {c1 : Nat} {l1 : List Int} {r : Bool} {w : World} {t579 : List Int} {t582 : List (List Int)} {t587 : Bool} {t590 : Int} {t591 : Bool} {t592 : Int} {t593 : Bool} {t594 : Int} {t595 : Bool} {t596 : Int} {t597 : Bool} {Ao14 : Option Addr} {co14 : Nat} {v588 : Value} {kj11 : Nat} (HJ11 : Aside0 (kj11 + 1 ≤ k)) {K_z2 : Act → World → Prop} (a_z2 : ∀ (a : Act) (w_1 : World), Code.wp Try.prog cd0 (bodyPost Try.prog Try.f13 fun (e : Ending) (w' : World) => e = Ending.returned (Value.bool r) ∧ Below (Array.size (World.heap w)) w w') a w_1 → K_z2 a w_1) {kj44 : Nat} (HJ44 : Aside0 (kj44 + 1 ≤ kj11)) {u4 u20 u21 u171 u172 u173 : Value} {x19_3 : Int} {k3 : Nat} (HK3 : Aside0 (k3 + 1 ≤ kj44)) {t610 : Int} {t611 : Bool} {Ao87 : Option Addr} {co87 kj85 : Nat} (HJ85 : Aside0 (kj85 + 1 ≤ k3)) {u25 u26 u28 u228 u229 u230 : Value} {x24_5 : List Int} {x223_5 : Int} {k5 : Nat} (HK5 : Aside0 (k5 + 1 ≤ kj85)) {t620 : Bool} {t623 : Int} {t624 : Bool} {Ao112 : Option Addr} {co112 : Nat} {v621 : Value} {K_z1 : Act → World → Prop} (a_z1 : ∀ (a : Act) (w_1 : World), Code.wp Try.prog cd1 (Exit.then K_z2 (bodyPost Try.prog Try.f13 fun (e : Ending) (w' : World) => e = Ending.returned (Value.bool r) ∧ Below (Array.size (World.heap w)) w w')) a w_1 → K_z1 a w_1) {wc : World} {u38 u39 u40 u41 u42 u43 u44 u45 u46 u47 u48 u49 u50 u51 u52 u53 u54 u55 u56 u57 u58 u59 u60 u61 u62 u63 u64 u65 u66 u67 u68 u69 u70 u71 u72 u73 u74 u75 u76 u77 u78 u79 u80 u81 u82 u83 u84 u85 u86 u87 u88 u89 u90 u91 u92 u93 u94 u95 u96 u97 u98 u99 u100 u101 u102 u103 u104 u105 u106 u107 u108 u109 u110 u111 u112 u113 u114 u115 u116 u117 u118 u119 u120 u121 u122 u123 u124 u125 u126 u127 u128 u129 u130 u131 u132 u133 u134 u135 u136 u137 u138 u139 u140 u141 u142 u143 u144 u145 u146 u147 u148 u149 u150 u151 u152 u153 u154 u155 u156 u157 u158 u159 u160 u161 u162 u163 u164 u165 u166 u167 u168 u169 u170 u174 u175 u176 u177 u178 u179 u180 u181 u182 u183 u184 u185 u186 u187 u188 u189 u190 u191 u192 u193 u194 u195 u196 u197 u198 u199 u200 u201 u202 u203 u204 u205 u206 u207 u208 u209 u210 u211 u212 u213 u214 u215 u216 u217 u218 u219 u220 u224 u225 u226 u227 u231 u232 u233 u234 u235 u236 u237 u238 u239 u240 u241 u242 u243 u244 u245 u246 u247 u248 u249 u250 u251 u252 u253 u254 u255 u256 u257 u258 u259 u260 u261 u262 u263 u264 u265 u266 u267 u268 u269 u270 u271 u272 u273 u274 u275 u276 u277 u278 u279 u280 u281 u282 u283 u284 u285 u286 u287 u288 u289 u290 u291 u292 u293 u294 u295 u296 u297 u298 u299 u300 u301 u302 u303 u304 u305 u306 : Value} (hcut : ∃ (kq : Nat), ∃ (x271_110 : Bool), u271 = Value.bool x271_110 ∧ Aside0 (j9 kq t579 t590 t594 x271_110 = some r) ∧ Aside0 (kq ≤ k5) ∧ Aside0 (Kd.R (Kd.int IntKind.i64) 3 wc (Array.size (World.heap w)) (fun (x : Nat) => True) (Value.slice Ao14 (List.length t579) co14) t579) ∧ Aside0 (Below (Array.size (World.heap w)) w wc)) (hcd0 : cd0 = cB (cB (cB (cB (cB (cB (cB (cB (cB (cB (cB (P13)))))))))))) (hcd1 : cd1 = cB (cB (cB (cB (cB (cB (cB (cB (cB (cB (cA (cB (cA (cB (cB (cB (cB (cB (cB (cB (cB (cB (cB (P13)))))))))))))))))))))))) (hcd2 : cd2 = cB (cA (cB (cB (cB (cB (cB (cB (cB (cB (cB (cA (cB (cA (cB (cB (cB (cB (cB (cB (cB (cB (cB (cB (P13))))))))))))))))))))))))) : Code.wp Try.prog cd2 (Exit.then K_z1 (Exit.then K_z2 (bodyPost Try.prog Try.f13 fun (e : Ending) (w' : World) => e = Ending.returned (Value.bool r) ∧ Below (Array.size (World.heap w)) w w'))) { tmps := #[Value.slice A0 (List.length l0) c0, Value.slice A1 (List.length l1) c1, undef, undef, u4, Value.slice Ao14 (List.length t579) co14, Value.slice Ao87 (List.length t582) co87, Value.bool true, v588, Value.bool t587, Value.int IntKind.i64 t590, Value.bool t591, Value.int IntKind.i64 t592, Value.bool t593, Value.int IntKind.i64 t594, Value.bool t595, Value.int IntKind.i64 t596, Value.bool t597, Value.int IntKind.i64 (↑(List.length t579) : Int), Value.int IntKind.i64 x19_3, u20, u21, Value.int IntKind.i64 t610, Value.bool t611, Value.slice Ao112 (List.length x24_5) co112, u25, u26, undef, u28, v621, Value.bool t620, Value.int IntKind.i64 t623, Value.bool t624, undef, undef, undef, undef, undef, u38, u39, u40, u41, u42, u43, u44, u45, u46, u47, u48, u49, u50, u51, u52, u53, u54, u55, u56, u57, u58, u59, u60, u61, u62, u63, u64, u65, u66, u67, u68, u69, u70, u71, u72, u73, u74, u75, u76, u77, u78, u79, u80, u81, u82, u83, u84, u85, u86, u87, u88, u89, u90, u91, u92, u93, u94, u95, u96, u97, u98, u99, u100, u101, u102, u103, u104, u105, u106, u107, u108, u109, u110, u111, u112, u113, u114, u115, u116, u117, u118, u119, u120, u121, u122, u123, u124, u125, u126, u127, u128, u129, u130, u131, u132, u133, u134, u135, u136, u137, u138, u139, u140, u141, u142, u143, u144, u145, u146, u147, u148, u149, u150, u151, u152, u153, u154, u155, u156, u157, u158, u159, u160, u161, u162, u163, u164, u165, u166, u167, u168, u169, u170, u171, u172, u173, u174, u175, u176, u177, u178, u179, u180, u181, u182, u183, u184, u185, u186, u187, u188, u189, u190, u191, u192, u193, u194, u195, u196, u197, u198, u199, u200, u201, u202, u203, u204, u205, u206, u207, u208, u209, u210, u211, u212, u213, u214, u215, u216, u217, u218, u219, u220, Value.slice Ao14 (List.length t579) co14, Value.int IntKind.i64 (↑(List.length t579) : Int), Value.int IntKind.i64 x223_5, u224, u225, u226, u227, u228, u229, u230, u231, u232, u233, u234, u235, u236, u237, u238, u239, u240, u241, u242, u243, u244, u245, u246, u247, u248, u249, u250, u251, u252, u253, u254, u255, u256, u257, u258, u259, u260, u261, u262, u263, u264, u265, u266, u267, u268, u269, u270, u271, u272, u273, u274, u275, u276, u277, u278, u279, u280, u281, u282, u283, u284, u285, u286, u287, u288, u289, u290, u291, u292, u293, u294, u295, u296, u297, u298, u299, u300, u301, u302, u303, u304, u305, u306], defers := [] } wc := by
  conv at hcd0 => rhs; whnf
  subst hcd0
  conv at hcd1 => rhs; whnf
  subst hcd1
  conv at hcd2 => rhs; whnf
  subst hcd2
  obtain ⟨kq, x271_110, rfl, HA, HJ110, HO_5, HB⟩ := hcut
  cases kq with
  | zero => exact absurd HA.out (by simp [laws_FnRoundsEnd.j9])
  | succ kj110 =>
   have H := HA.out
   clear HA
   simp only [laws_FnRoundsEnd.j9] at H
   by_cases c122 : x271_110 = true
   ·as_aux_lemma =>
    subst c122
    have H1 : (some false) = some r := by rw [if_pos rfl] at H; exact H
    clear H
    have H := H1
    clear H1
    obtain rfl := Option.some.inj H
    go_wp2
    go_ret
    exact ⟨by first | rfl | (simp [errW_none, errW_some] <;> rfl) | (simp [*, errW_none, errW_some] <;> rfl), by repeat (first | (with_reducible first | exact HB.out | apply below_alloc | apply pw_below_drewN | apply below_drew1) | exact HB.out)⟩
   ·as_aux_lemma =>
    replace c122 := Bool.eq_false_iff.mpr c122
    subst c122
    have H1 : (if 1 ≤ (t579.length : Int) then ((slices_Clone_int_int.f (t579.drop 1)).bind fun t630 => (if 0 < (t579.length : Int) then ((some (([rd t579 0] : List Int) : List Int)).bind fun y634 => (if t630.length + y634.length < 17592186044416 then ((some (t630 ++ y634 : List Int)).bind fun y637 => ((impl_BothWays.f kj110 y637).bind fun bt640 => ((impl_RoundMessages.f kj110 y637).bind fun bt642 => (if bt640.2 = true then (if bt640.1 = t594 then (if bt642.2 = true then (laws_FnRoundsEnd.j10 kj110 (bt642.1 != t590)) else (laws_FnRoundsEnd.j10 kj110 true)) else (laws_FnRoundsEnd.j10 kj110 true)) else (laws_FnRoundsEnd.j10 kj110 true))))) else (none))) else (none))) else (none)) = some r := by rw [if_neg (show ¬ (false = true) by decide)] at H; exact H
    clear H
    have H := H1
    clear H1
    by_cases c123 : 1 ≤ (t579.length : Int)
    ·as_aux_lemma =>
     rw [if_pos c123] at H
     have c123b0 := eq_true c123
     have c123b1 : decide (1 ≤ (t579.length : Int)) = true := decide_eq_true c123
     clear c123
     obtain ⟨y626, hy626⟩ : ∃ y_ : List Int, y_ = (t579.drop 1) := ⟨_, rfl⟩
     replace H : ((slices_Clone_int_int.f y626).bind fun t630 => (if 0 < (t579.length : Int) then ((some (([rd t579 0] : List Int) : List Int)).bind fun y634 => (if t630.length + y634.length < 17592186044416 then ((some (t630 ++ y634 : List Int)).bind fun y637 => ((impl_BothWays.f kj110 y637).bind fun bt640 => ((impl_RoundMessages.f kj110 y637).bind fun bt642 => (if bt640.2 = true then (if bt640.1 = t594 then (if bt642.2 = true then (laws_FnRoundsEnd.j10 kj110 (bt642.1 != t590)) else (laws_FnRoundsEnd.j10 kj110 true)) else (laws_FnRoundsEnd.j10 kj110 true)) else (laws_FnRoundsEnd.j10 kj110 true))))) else (none))) else (none))) = some r := by first | (rw [hy626]; with_reducible exact H) | (have H2_ := (Option.bind_some _ _).symm.trans H; rw [hy626]; with_reducible exact H2_) | (have H2_ := (Option.bind_some _ _).symm.trans H; with_reducible exact H2_) | with_reducible exact H | (rw [hy626]; exact H) | exact H
     have Ny626 := Aside0.mk hy626
     clear hy626
     replace H := Option.bind_eq_some_iff.mp H
     obtain ⟨t630, A1240, H⟩ := H
     replace H : (if 0 < (t579.length : Int) then ((some (([rd t579 0] : List Int) : List Int)).bind fun y634 => (if t630.length + y634.length < 17592186044416 then ((some (t630 ++ y634 : List Int)).bind fun y637 => ((impl_BothWays.f kj110 y637).bind fun bt640 => ((impl_RoundMessages.f kj110 y637).bind fun bt642 => (if bt640.2 = true then (if bt640.1 = t594 then (if bt642.2 = true then (laws_FnRoundsEnd.j10 kj110 (bt642.1 != t590)) else (laws_FnRoundsEnd.j10 kj110 true)) else (laws_FnRoundsEnd.j10 kj110 true)) else (laws_FnRoundsEnd.j10 kj110 true))))) else (none))) else (none)) = some r := H
     have A124 := Aside0.mk A1240
     clear A1240
     by_cases c125 : 0 < (t579.length : Int)
     ·as_aux_lemma =>
      rw [if_pos c125] at H
      have c125b0 : decide (0 < (t579.length : Int)) = true := decide_eq_true c125
      have c125b1 : decide (0 < t579.length) = true := decide_eq_true (by omega)
      clear c125
      obtain ⟨y634, hy634⟩ : ∃ y_ : List Int, y_ = (([rd t579 0] : List Int)) := ⟨_, rfl⟩
      replace H : (if t630.length + y634.length < 17592186044416 then ((some (t630 ++ y634 : List Int)).bind fun y637 => ((impl_BothWays.f kj110 y637).bind fun bt640 => ((impl_RoundMessages.f kj110 y637).bind fun bt642 => (if bt640.2 = true then (if bt640.1 = t594 then (if bt642.2 = true then (laws_FnRoundsEnd.j10 kj110 (bt642.1 != t590)) else (laws_FnRoundsEnd.j10 kj110 true)) else (laws_FnRoundsEnd.j10 kj110 true)) else (laws_FnRoundsEnd.j10 kj110 true))))) else (none)) = some r := by first | (rw [hy634]; with_reducible exact H) | (have H2_ := (Option.bind_some _ _).symm.trans H; rw [hy634]; with_reducible exact H2_) | (have H2_ := (Option.bind_some _ _).symm.trans H; with_reducible exact H2_) | with_reducible exact H | (rw [hy634]; exact H) | exact H
      have Ny634 := Aside0.mk hy634
      clear hy634
      by_cases c126 : t630.length + y634.length < 17592186044416
      ·as_aux_lemma =>
       rw [if_pos c126] at H
       have LMc126 := Aside0.mk c126
       clear c126
       obtain ⟨y637, hy637⟩ : ∃ y_ : List Int, y_ = (t630 ++ y634) := ⟨_, rfl⟩
       replace H : ((impl_BothWays.f kj110 y637).bind fun bt640 => ((impl_RoundMessages.f kj110 y637).bind fun bt642 => (if bt640.2 = true then (if bt640.1 = t594 then (if bt642.2 = true then (laws_FnRoundsEnd.j10 kj110 (bt642.1 != t590)) else (laws_FnRoundsEnd.j10 kj110 true)) else (laws_FnRoundsEnd.j10 kj110 true)) else (laws_FnRoundsEnd.j10 kj110 true)))) = some r := by first | (rw [hy637]; with_reducible exact H) | (have H2_ := (Option.bind_some _ _).symm.trans H; rw [hy637]; with_reducible exact H2_) | (have H2_ := (Option.bind_some _ _).symm.trans H; with_reducible exact H2_) | with_reducible exact H | (rw [hy637]; exact H) | exact H
       have Ny637 := Aside0.mk hy637
       clear hy637
       replace H := Option.bind_eq_some_iff.mp H
       obtain ⟨⟨t640, t641⟩, A1270, H⟩ := H
       replace H : ((impl_RoundMessages.f kj110 y637).bind fun bt642 => (if t641 = true then (if t640 = t594 then (if bt642.2 = true then (laws_FnRoundsEnd.j10 kj110 (bt642.1 != t590)) else (laws_FnRoundsEnd.j10 kj110 true)) else (laws_FnRoundsEnd.j10 kj110 true)) else (laws_FnRoundsEnd.j10 kj110 true))) = some r := H
       have A127 := Aside0.mk A1270
       clear A1270
       replace H := Option.bind_eq_some_iff.mp H
       obtain ⟨⟨t642, t643⟩, A1280, H⟩ := H
       replace H : (if t641 = true then (if t640 = t594 then (if t643 = true then (laws_FnRoundsEnd.j10 kj110 (t642 != t590)) else (laws_FnRoundsEnd.j10 kj110 true)) else (laws_FnRoundsEnd.j10 kj110 true)) else (laws_FnRoundsEnd.j10 kj110 true)) = some r := H
       have A128 := Aside0.mk A1280
       clear A1280
       have HC129 := Aside0.mk H
       clear H
       try go_wp2
       have q131 : (1 : Int) ≤ ((t579.length : Int) : Int) := of_decide_eq_true (by first | (with_reducible assumption) | assumption)
       have hy131 : y637 = t579.drop 1 ++ [rd t579 0] := (by rw [Ny637.out, Ny634.out, clone_same1 A124.out, Ny626.out])
       have hl131 : t579.length ≤ 17592186044416 := (by have h_ := LMc126.out; have h2_ : t630.length = t579.length - 1 := (by rw [clone_same1 A124.out, Ny626.out, List.length_drop]); have h3_ : y634.length = 1 := (by rw [Ny634.out]; rfl); omega)
       obtain ⟨ad131, e131⟩ : ∃ ad_, Ao14 = some ad_ := (by obtain ⟨x_, e_, _⟩ := Kd.at_int (Kd.R_reads' HO_5.out).2.2 0 (by omega) (by omega); exact ⟨x_, e_⟩)
       subst e131
       refine turn_region (fun _ _ _ _ _ h_ => h_) (by rfl) (by rfl) (Kd.R_reads' HO_5.out).2.2 (Kd.R_reads' HO_5.out).2.1 (by omega) hl131 hy131 ?_
       intro v272 v274 v275 v279 v638 w139 r639 b139
       have n1_ : Aside0 (Kd.R (Kd.int .i64) 3 w139 w.heap.size (fun _ => True) v638 y637) := ⟨Kd.R_lower r639 (below_size HB.out)⟩
       have n2_ := Aside0.mk (Kd.R_below HO_5.out b139)
       have n3_ := Aside0.mk (below_step HB.out b139)
       clear HO_5 HB r639 b139 hy131 hl131 q131
       have HO636 := n1_
       have HO639 := n1_
       have HO_5 := n2_
       have HB := n3_
       clear n1_ n2_ n3_
       simp only [putAll, Act.put, List.setIfInBounds_toArray, List.set_cons_zero, List.set_cons_succ]
       obtain ⟨Ao140, co140, eo140⟩ := Kd.R_slice HO639.out
       subst eo140
       go_upto_region 48 with (first | ((with_reducible refine gate_callee (f := 36) rfl ?_); refine goesL_ (some 283) rfl rfl Try.func36 (by kernel_rfl) rfl #[.slice Ao140 y637.length co140] rfl (by (try simp only [List.map_toArray, List.map_cons, List.map_nil]); first | done | rfl | (simp only [List.length_drop, List.length_take]; rfl)) ?_; (with_reducible refine (impl_BothWays.calls kj110 _ _ y637 t640 t641 _ ?side1 ?side2 A127.out).mono ?_); (case side1 => repeat (first | exact (Kd.R_reads' HO639.out).2.2 | (with_reducible refine Kd.C_alloc ?_ _) | (with_reducible refine Kd.C_drewN ?_ _) | (with_reducible refine Kd.C_drew ?_))); (case side2 => exact (Kd.R_reads' HO639.out).2.1); rintro e w141 ⟨rfl, hb⟩; refine ⟨_, rfl, ?_⟩; have n0_ := Aside0.mk (Kd.R_below (by (with_reducible repeat (first | apply Kd.R_alloc | apply Kd.R_drewN | apply Kd.R_drew)); exact HO_5.out) hb); have n1_ := Aside0.mk (Kd.R_below (by (with_reducible repeat (first | apply Kd.R_alloc | apply Kd.R_drewN | apply Kd.R_drew)); exact HO636.out) hb); have n2_ := Aside0.mk (Kd.R_below (by (with_reducible repeat (first | apply Kd.R_alloc | apply Kd.R_drewN | apply Kd.R_drew)); exact HO639.out) hb); have n3_ := Aside0.mk (below_step (by repeat (first | (with_reducible first | exact HB.out | apply below_alloc | apply pw_below_drewN | apply below_drew1) | exact HB.out)) hb); clear HO_5; clear HO636; clear HO639; clear HB; have HO_5 := n0_; have HO636 := n1_; have HO639 := n2_; have HB := n3_; clear n0_ n1_ n2_ n3_; (try clear hb); (try clear hb2); (try clear hk); (try clear hi)) | ((with_reducible refine gate_callee (f := 34) rfl ?_); refine goesL_ (some 288) rfl rfl Try.func34 (by kernel_rfl) rfl #[.slice Ao140 y637.length co140] rfl (by (try simp only [List.map_toArray, List.map_cons, List.map_nil]); first | done | rfl | (simp only [List.length_drop, List.length_take]; rfl)) ?_; (with_reducible refine (impl_RoundMessages.calls kj110 _ _ y637 t642 t643 _ ?side1 ?side2 A128.out).mono ?_); (case side1 => repeat (first | exact (Kd.R_reads' HO639.out).2.2 | (with_reducible refine Kd.C_alloc ?_ _) | (with_reducible refine Kd.C_drewN ?_ _) | (with_reducible refine Kd.C_drew ?_))); (case side2 => exact (Kd.R_reads' HO639.out).2.1); rintro e w142 ⟨rfl, hb⟩; refine ⟨_, rfl, ?_⟩; have n0_ := Aside0.mk (Kd.R_below (by (with_reducible repeat (first | apply Kd.R_alloc | apply Kd.R_drewN | apply Kd.R_drew)); exact HO_5.out) hb); have n1_ := Aside0.mk (Kd.R_below (by (with_reducible repeat (first | apply Kd.R_alloc | apply Kd.R_drewN | apply Kd.R_drew)); exact HO636.out) hb); have n2_ := Aside0.mk (Kd.R_below (by (with_reducible repeat (first | apply Kd.R_alloc | apply Kd.R_drewN | apply Kd.R_drew)); exact HO639.out) hb); have n3_ := Aside0.mk (below_step (by repeat (first | (with_reducible first | exact HB.out | apply below_alloc | apply pw_below_drewN | apply below_drew1) | exact HB.out)) hb); clear HO_5; clear HO636; clear HO639; clear HB; have HO_5 := n0_; have HO636 := n1_; have HO639 := n2_; have HB := n3_; clear n0_ n1_ n2_ n3_; (try clear hb); (try clear hb2); (try clear hk); (try clear hi)))
       (try simp only [Act.put, List.setIfInBounds_toArray, List.set_cons_zero, List.set_cons_succ])
       go_cut [306] (fun v306 wc => ∃ (kq : Nat) (x306_128 : Bool), v306 = .bool x306_128 ∧ Aside0 (laws_FnRoundsEnd.j10 kq x306_128 = some r) ∧ Aside0 (kq ≤ kj110) ∧ Aside0 (Below w.heap.size w wc))
       case first => as_aux_lemma =>
        have H := HC129.out
        clear HC129
        by_cases c143 : t641 = true
        ·as_aux_lemma =>
         subst c143
         have H1 : (if t640 = t594 then (if t643 = true then (laws_FnRoundsEnd.j10 kj110 (t642 != t590)) else (laws_FnRoundsEnd.j10 kj110 true)) else (laws_FnRoundsEnd.j10 kj110 true)) = some r := by rw [if_pos rfl] at H; exact H
         clear H
         have H := H1
         clear H1
         by_cases c144 : t640 = t594
         ·as_aux_lemma =>
          rw [if_pos c144] at H
          have c144b0 : (t640 == t594) = true := beq_iff_eq.mpr c144
          have c144b1 : (t640 != t594) = false := bne_eq_false_iff_eq.mpr c144
          clear c144
          (first | rw [c144b0] | (simp only [i64_w, i32_w]; rw [c144b0]) | skip)
          by_cases c145 : t643 = true
          ·as_aux_lemma =>
           subst c145
           have H1 : (laws_FnRoundsEnd.j10 kj110 (t642 != t590)) = some r := by rw [if_pos rfl] at H; exact H
           clear H
           have H := H1
           clear H1
           have H' := Aside0.mk H
           clear H
           go_wp2
           go_meet
           case rel => exact ⟨_, ((t642 != t590)), (by first | rfl | (simp; done) | (simp [*]; done)), H', ⟨by have := HJ11.out; have := HJ44.out; have := HK3.out; have := HJ85.out; have := HK5.out; have := HJ110.out; first | omega | exact Nat.le_refl _⟩, ⟨by repeat (first | (with_reducible first | exact HB.out | apply below_alloc | apply pw_below_drewN | apply below_drew1) | exact HB.out)⟩⟩
          ·as_aux_lemma =>
           replace c145 := Bool.eq_false_iff.mpr c145
           subst c145
           have H1 : (laws_FnRoundsEnd.j10 kj110 true) = some r := by rw [if_neg (show ¬ (false = true) by decide)] at H; exact H
           clear H
           have H := H1
           clear H1
           have H' := Aside0.mk H
           clear H
           go_wp2
           go_meet
           case rel => exact ⟨_, (true), (by first | rfl | (simp; done) | (simp [*]; done)), H', ⟨by have := HJ11.out; have := HJ44.out; have := HK3.out; have := HJ85.out; have := HK5.out; have := HJ110.out; first | omega | exact Nat.le_refl _⟩, ⟨by repeat (first | (with_reducible first | exact HB.out | apply below_alloc | apply pw_below_drewN | apply below_drew1) | exact HB.out)⟩⟩
         ·as_aux_lemma =>
          rw [if_neg c144] at H
          have c144b0 : (t640 == t594) = false := beq_eq_false_iff_ne.mpr c144
          have c144b1 : (t640 != t594) = true := bne_iff_ne.mpr c144
          (first | rw [c144b0] | (simp only [i64_w, i32_w]; rw [c144b0]) | skip)
          have H' := Aside0.mk H
          clear H
          go_wp2
          go_meet
          case rel => exact ⟨_, (true), (by first | rfl | (simp; done) | (simp [*]; done)), H', ⟨by have := HJ11.out; have := HJ44.out; have := HK3.out; have := HJ85.out; have := HK5.out; have := HJ110.out; first | omega | exact Nat.le_refl _⟩, ⟨by repeat (first | (with_reducible first | exact HB.out | apply below_alloc | apply pw_below_drewN | apply below_drew1) | exact HB.out)⟩⟩
        ·as_aux_lemma =>
         replace c143 := Bool.eq_false_iff.mpr c143
         subst c143
         have H1 : (laws_FnRoundsEnd.j10 kj110 true) = some r := by rw [if_neg (show ¬ (false = true) by decide)] at H; exact H
         clear H
         have H := H1
         clear H1
         have H' := Aside0.mk H
         clear H
         go_wp2
         go_meet
         case rel => exact ⟨_, (true), (by first | rfl | (simp; done) | (simp [*]; done)), H', ⟨by have := HJ11.out; have := HJ44.out; have := HK3.out; have := HJ85.out; have := HK5.out; have := HJ110.out; first | omega | exact Nat.le_refl _⟩, ⟨by repeat (first | (with_reducible first | exact HB.out | apply below_alloc | apply pw_below_drewN | apply below_drew1) | exact HB.out)⟩⟩
       case rest => as_aux_lemma =>
        go_step
        exact laws_FnRoundsEnd.pc_j10 (by assumption) hcut rfl rfl
      ·as_aux_lemma =>
       rw [if_neg c126] at H
       exact absurd H (by simp)
     ·as_aux_lemma =>
      rw [if_neg c125] at H
      exact absurd H (by simp)
    ·as_aux_lemma =>
     rw [if_neg c123] at H
     exact absurd H (by simp)
end Go.Proofs.Ytbiiklkkfkipeaa.X
