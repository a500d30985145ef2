/- Several texts of this session in one: X475. -/
import Derived.Test.YtbiiklkkfkipeaaMFnRoundsEnd2
import Derived.Test.YtbiiklkkfkipeaaMFnRoundsEnd5
import Derived.Test.YtbiiklkkfkipeaaMFnRoundsEnd6
/- The walk of the law FnRoundsEnd, its second piece: written by this session's program wip/split/cut.py. -/
namespace Go.Proofs.Ytbiiklkkfkipeaa.X
open Go.RowKit Go.Proofs.YtbiiklkkfkipeaaW.PrintWords Go.Proofs.YtbiiklkkfkipeaaW.PrintLast Go.Proofs.YtbiiklkkfkipeaaW.PrintMore
attribute [local go_sem] max2_int min2_int max_two min_two max_three min_three max_four min_four   -- for this text's walks alone
set_option linter.unusedVariables false
set_option linter.unusedSimpArgs false

set_option maxHeartbeats 8000000 in
set_option maxRecDepth 100000 in
theorem laws_FnRoundsEnd.pc_j1 {cd0 : Code} {cd1 : Code} {cd2 : Code} {k : Nat} {A0 : Option Addr} {c0 : Nat} {l0 : List Int} {A1 : Option Addr} {c1 : Nat} {l1 : List Int} {r : Bool} {w : World} {t579 : List Int} {t582 : List (List Int)} {t587 : Bool} {t590 : Int} {t591 : Bool} {t592 : Int} {t593 : Bool} {t594 : Int} {t595 : Bool} {t596 : Int} {t597 : Bool} {Ao14 : Option Addr} {co14 : Nat} {v584 v588 : Value} {kj11 : Nat} (HJ11 : Aside0 (kj11 + 1 ≤ k)) {K_z2 : Act → World → Prop} (a_z2 : ∀ (a : Act) (w_1 : World), Code.wp Try.prog cd0 (bodyPost Try.prog Try.f13 fun (e : Ending) (w' : World) => e = Ending.returned (Value.bool r) ∧ Below (Array.size (World.heap w)) w w') a w_1 → K_z2 a w_1) {K_z1 : Act → World → Prop} (a_z1 : ∀ (a : Act) (w_1 : World), Code.wp Try.prog cd1 (Exit.then K_z2 (bodyPost Try.prog Try.f13 fun (e : Ending) (w' : World) => e = Ending.returned (Value.bool r) ∧ Below (Array.size (World.heap w)) w w')) a w_1 → K_z1 a w_1) {wc : World} {u38 u39 u40 u41 u42 u43 u44 u45 u46 u47 u48 u49 u50 u51 u52 u53 u54 u55 u56 u57 u58 u59 u60 u61 u62 u63 u64 u65 u66 u67 u68 u69 u70 u71 u72 u73 u74 u75 u76 u77 u78 u79 u80 u81 u82 u83 u84 u85 u86 u87 u88 u89 u90 u91 u92 u93 u94 u95 u96 u97 u98 u99 u100 u101 u102 u103 u104 u105 u106 u107 u108 u109 u110 u111 u112 u113 u114 u115 u116 u117 u118 u119 u120 u121 u122 u123 u124 u125 u126 u127 u128 u129 u130 u131 u132 u133 u134 u135 u136 u137 u138 u139 u140 u141 u142 u143 u144 u145 u146 u147 u148 u149 u150 u151 u152 u153 u154 u155 u156 u157 u158 u159 u160 u161 u162 u163 u164 u165 u166 u167 u168 u169 u170 u174 u175 u176 u177 u178 u179 u180 u181 u182 u183 u184 u185 u186 u187 u188 u189 u190 u191 u192 u193 u194 u195 u196 u197 u198 u199 u200 u201 u202 u203 u204 u205 u206 u207 u208 u209 u210 u211 u212 u213 u214 u215 u216 u217 u218 u219 u220 u224 u225 u226 u227 u231 u232 u233 u234 u235 u236 u237 u238 u239 u240 u241 u242 u243 u244 u245 u246 u247 u248 u249 u250 u251 u252 u253 u254 u255 u256 u257 u258 u259 u260 u261 u262 u263 u264 u265 u266 u267 u268 u269 u270 u271 u272 u273 u274 u275 u276 u277 u278 u279 u280 u281 u282 u283 u284 u285 u286 u287 u288 u289 u290 u291 u292 u293 u294 u295 u296 u297 u298 u299 u300 u301 u302 u303 u304 u305 u306 : Value} (hcut : ∃ (kq : Nat), ∃ (x140_44 : Bool), u140 = Value.bool x140_44 ∧ Aside0 (j1 kq t579 t582 t590 t594 (↑(List.length t579) : Int) x140_44 = some r) ∧ Aside0 (kq ≤ kj11) ∧ Aside0 (Kd.R (Kd.int IntKind.i64) 3 wc (Array.size (World.heap w)) (fun (x : Nat) => True) (Value.slice Ao14 (List.length t579) co14) t579) ∧ Aside0 (Kd.S (Kd.slice 3 (Kd.int IntKind.i64)) 25 wc (Array.size (World.heap w)) (fun (k_ : Nat) => some k_ ≠ Value.ownBlock (Value.slice Ao14 (List.length t579) co14)) v584 t582) ∧ Aside0 (Below (Array.size (World.heap w)) w wc)) (hcd0 : cd0 = cB (cB (cB (cB (cB (cB (cB (cB (cB (cB (cB (P13)))))))))))) (hcd1 : cd1 = cB (cB (cA (cB (cA (cB (cB (cB (cB (cB (cB (cB (cB (cB (cB (P13)))))))))))))))) (hcd2 : cd2 = cB (cA (cB (cA (cB (cA (cB (cB (cB (cB (cB (cB (cB (cB (cB (cB (P13))))))))))))))))) : Code.wp Try.prog cd2 (Exit.then K_z1 (Exit.then K_z2 (bodyPost Try.prog Try.f13 fun (e : Ending) (w' : World) => e = Ending.returned (Value.bool r) ∧ Below (Array.size (World.heap w)) w w'))) { tmps := #[Value.slice A0 (List.length l0) c0, Value.slice A1 (List.length l1) c1, undef, undef, Value.bool false, Value.slice Ao14 (List.length t579) co14, v584, Value.bool true, v588, Value.bool t587, Value.int IntKind.i64 t590, Value.bool t591, Value.int IntKind.i64 t592, Value.bool t593, Value.int IntKind.i64 t594, Value.bool t595, Value.int IntKind.i64 t596, Value.bool t597, Value.int IntKind.i64 (↑(List.length t579) : Int), undef, undef, undef, undef, undef, undef, undef, undef, undef, undef, undef, undef, undef, undef, undef, undef, undef, undef, undef, u38, u39, u40, u41, u42, u43, u44, u45, u46, u47, u48, u49, u50, u51, u52, u53, u54, u55, u56, u57, u58, u59, u60, u61, u62, u63, u64, u65, u66, u67, u68, u69, u70, u71, u72, u73, u74, u75, u76, u77, u78, u79, u80, u81, u82, u83, u84, u85, u86, u87, u88, u89, u90, u91, u92, u93, u94, u95, u96, u97, u98, u99, u100, u101, u102, u103, u104, u105, u106, u107, u108, u109, u110, u111, u112, u113, u114, u115, u116, u117, u118, u119, u120, u121, u122, u123, u124, u125, u126, u127, u128, u129, u130, u131, u132, u133, u134, u135, u136, u137, u138, u139, u140, u141, u142, u143, u144, u145, u146, u147, u148, u149, u150, u151, u152, u153, u154, u155, u156, u157, u158, u159, u160, u161, u162, u163, u164, u165, u166, u167, u168, u169, u170, undef, undef, undef, u174, u175, u176, u177, u178, u179, u180, u181, u182, u183, u184, u185, u186, u187, u188, u189, u190, u191, u192, u193, u194, u195, u196, u197, u198, u199, u200, u201, u202, u203, u204, u205, u206, u207, u208, u209, u210, u211, u212, u213, u214, u215, u216, u217, u218, u219, u220, undef, undef, undef, u224, u225, u226, u227, undef, undef, undef, u231, u232, u233, u234, u235, u236, u237, u238, u239, u240, u241, u242, u243, u244, u245, u246, u247, u248, u249, u250, u251, u252, u253, u254, u255, u256, u257, u258, u259, u260, u261, u262, u263, u264, u265, u266, u267, u268, u269, u270, u271, u272, u273, u274, u275, u276, u277, u278, u279, u280, u281, u282, u283, u284, u285, u286, u287, u288, u289, u290, u291, u292, u293, u294, u295, u296, u297, u298, u299, u300, u301, u302, u303, u304, u305, u306], defers := [] } wc := by
  conv at hcd0 => rhs; whnf
  subst hcd0
  conv at hcd1 => rhs; whnf
  subst hcd1
  conv at hcd2 => rhs; whnf
  subst hcd2
  obtain ⟨kq, x140_44, rfl, HA, HJ44, HO_5, HO_6, HB⟩ := hcut
  cases kq with
  | zero => exact absurd HA.out (by simp [laws_FnRoundsEnd.j1])
  | succ kj44 =>
   have H := HA.out
   clear HA
   simp only [laws_FnRoundsEnd.j1] at H
   by_cases c55 : x140_44 = true
   ·as_aux_lemma =>
    subst c55
    have H1 : (some false) = some r := by rw [if_pos rfl] at H; exact H
    clear H
    have H := H1
    clear H1
    obtain rfl := Option.some.inj H
    go_wp2
    go_ret
    exact ⟨by first | rfl | (simp [errW_none, errW_some] <;> rfl) | (simp [*, errW_none, errW_some] <;> rfl), by repeat (first | (with_reducible first | exact HB.out | apply below_alloc | apply pw_below_drewN | apply below_drew1) | exact HB.out)⟩
   ·as_aux_lemma =>
    replace c55 := Bool.eq_false_iff.mpr c55
    subst c55
    have H1 : (laws_FnRoundsEnd.l0 kj44 t579 t582 t590 t594 (t579.length : Int) 1) = some r := by rw [if_neg (show ¬ (false = true) by decide)] at H; exact H
    clear H
    have H := H1
    clear H1
    have H' := Aside0.mk H
    clear H
    go_wp2
    go_loopg [19] kj44 (fun kq v19 w' => ∃ (x19_3 : Int), v19 = .int .i64 x19_3 ∧ Aside0 (laws_FnRoundsEnd.l0 kq t579 t582 t590 t594 (t579.length : Int) x19_3 = some r) ∧ Aside0 (kq ≤ kj44) ∧ Aside0 (Kd.R (Kd.int .i64) 3 w' w.heap.size (fun _ => True) (.slice Ao14 t579.length co14) t579) ∧ Aside0 (Kd.S (Kd.slice 3 (Kd.int .i64)) 25 w' w.heap.size (fun k_ => some k_ ≠ ((.slice Ao14 t579.length co14) : Value).ownBlock) v584 t582) ∧ Aside0 (Below w.heap.size w w'))
    case atStart => exact ⟨(1), (by first | rfl | (simp; done) | (simp [*]; done)), H', ⟨Nat.le_refl _⟩, ⟨by (with_reducible repeat (first | apply Kd.R_alloc | apply Kd.R_drewN | apply Kd.R_drew)); exact HO_5.out⟩, ⟨by (with_reducible repeat (first | apply Kd.S_alloc | apply Kd.S_drewN | apply Kd.S_drew)); exact HO_6.out⟩, ⟨by repeat (first | (with_reducible first | exact HB.out | apply below_alloc | apply pw_below_drewN | apply below_drew1) | exact HB.out)⟩⟩
    case round => as_aux_lemma =>
     clear H'
     try clear c1
     try clear c2
     try clear p2
     try clear c3
     try clear c4
     try clear c5
     try clear p5
     try clear q5
     try clear hx5
     try clear qi5
     try clear c6
     try clear p6
     try clear q6
     try clear hx6
     try clear c13
     try clear c21
     try clear c21b0
     try clear c21b1
     try clear c21b2
     try clear c23
     try clear c24
     try clear c24b0
     try clear c24b1
     try clear c24b2
     try clear c27
     try clear c27b0
     try clear c27b1
     try clear c28
     try clear c28b0
     try clear c28b1
     try clear c28b2
     try clear c31
     try clear c31b0
     try clear c31b1
     try clear c32
     try clear c32b0
     try clear c32b1
     try clear c32b2
     try clear c33
     try clear c34
     try clear c35
     try clear c36
     try clear c37
     try clear c38
     try clear c42
     try clear c43
     try clear c44
     try clear c46
     try clear c46b0
     try clear c46b1
     try clear c47
     try clear c47b0
     try clear c47b1
     try clear c47b2
     try clear c49
     try clear c49b0
     try clear c50
     try clear c50b0
     try clear c51
     try clear c51b0
     try clear c51b1
     try clear c55
     try clear hx599_0
     try clear hx600_0
     try clear p2
     try clear p5
     try clear p599
     try clear p6
     try clear p600
     try clear q5
     try clear q599
     try clear q6
     try clear q600
     obtain ⟨x19_3, rfl, HA, HK3, HO_5, HO_6, HB⟩ := hrel
     cases gk with
     | zero => exact absurd HA.out (by simp [laws_FnRoundsEnd.l0])
     | succ k3 =>
      have H := HA.out
      clear HA
      simp only [laws_FnRoundsEnd.l0] at H
      by_cases c56 : x19_3 < (t582.length : Int)
      ·as_aux_lemma =>
       rw [if_pos c56] at H
       have c56b0 : decide (x19_3 < (t582.length : Int)) = true := decide_eq_true c56
       clear c56
       have HC57 := Aside0.mk H
       clear H
       obtain ⟨Ao58, co58, eo58⟩ := Kd.S_slice HO_6.out
       subst eo58
       go_upto_region 19 with (fail)
       go_cut [167] (fun v167 wc => ∃ (kq : Nat) (x167_56 : Bool), v167 = .bool x167_56 ∧ Aside0 (laws_FnRoundsEnd.j3 kq t579 t582 t590 t594 (t579.length : Int) x19_3 x167_56 = some r) ∧ Aside0 (kq ≤ k3) ∧ Aside0 (Kd.R (Kd.int .i64) 3 wc w.heap.size (fun _ => True) (.slice Ao14 t579.length co14) t579) ∧ Aside0 (Kd.S (Kd.slice 3 (Kd.int .i64)) 25 wc w.heap.size (fun k_ => some k_ ≠ ((.slice Ao14 t579.length co14) : Value).ownBlock) (.slice Ao58 t582.length co58) t582) ∧ Aside0 (Below w.heap.size w wc))
       case first => as_aux_lemma =>
        have H := HC57.out
        clear HC57
        by_cases c59 : 0 ≤ x19_3
        ·as_aux_lemma =>
         rw [if_pos c59] at H
         have c59b0 : decide (0 ≤ x19_3) = true := decide_eq_true c59
         clear c59
         (first | rw [c59b0] | (simp only [i64_w, i32_w]; rw [c59b0]) | skip)
         obtain ⟨ji60, hji60⟩ : ∃ j_ : Int, (wrap64 (x19_3 - 1)) = j_ := ⟨_, rfl⟩
         replace H : (if 0 ≤ (ji60) then (if (ji60) < (t582.length : Int) then (if (wrap64 (2 * ((rd_L2 t582 x19_3).length : Int))) > ((rd_L2 t582 (ji60)).length : Int) then (laws_FnRoundsEnd.j3 k3 t579 t582 t590 t594 (t579.length : Int) x19_3 true) else (laws_FnRoundsEnd.j3 k3 t579 t582 t590 t594 (t579.length : Int) x19_3 (decide (((rd_L2 t582 x19_3).length : Int) < 1)))) else (none)) else (none)) = some r := by first | (rw [hji60] at H; exact H) | (simp only [hji60] at H ⊢; exact H)
         have hji60w : (IntKind.i64.wrap (x19_3 - 1)) = ji60 := (i64_w _).trans hji60
         by_cases c61 : 0 ≤ (ji60)
         ·as_aux_lemma =>
          rw [if_pos c61] at H
          have c61b0 : decide (0 ≤ (ji60)) = true := decide_eq_true c61
          clear c61
          by_cases c62 : (ji60) < (t582.length : Int)
          ·as_aux_lemma =>
           rw [if_pos c62] at H
           have c62b0 : decide ((ji60) < (t582.length : Int)) = true := decide_eq_true c62
           clear c62
           by_cases c63 : (wrap64 (2 * ((rd_L2 t582 x19_3).length : Int))) > ((rd_L2 t582 (ji60)).length : Int)
           ·as_aux_lemma =>
            rw [if_pos c63] at H
            have c63b0 : decide (((rd_L2 t582 (ji60)).length : Int) < (wrap64 (2 * ((rd_L2 t582 x19_3).length : Int)))) = true := decide_eq_true c63
            clear c63
            have H' := Aside0.mk H
            clear H
            try go_wp2
            have n0_ := Aside0.mk (Kd.R_drew HO_5.out)
            have n1_ := Aside0.mk (Kd.S_drew HO_6.out)
            have n2_ := Aside0.mk (below_drew1 HB.out)
            clear HO_5
            clear HO_6
            clear HB
            have HO_5 := n0_
            have HO_6 := n1_
            have HB := n2_
            clear n0_ n1_ n2_
            have p601 : 0 ≤ (x19_3 : Int) := of_decide_eq_true (by first | (with_reducible assumption) | assumption)
            have q601 : x19_3 < (t582.length : Int) := of_decide_eq_true (by first | (with_reducible assumption) | assumption)
            obtain ⟨ad601, A601_0, c601_0, e601, hx601_0, hl601_0, hi601_0⟩ := at_L2 (Kd.S_reads' HO_6.out).2.2 x19_3 p601 q601
            cases e601
            obtain ⟨ce601, hce601, hMe601, hcc601⟩ := Kd.S_get HO_6.out [] x19_3 p601 (by first | exact q601 | exact of_decide_eq_true (by first | (with_reducible assumption) | assumption) | (have e_ := (Kd.S_reads' HO_6.out).1; omega))
            obtain ⟨ve601_0, rfl, ge601_0⟩ := hMe601
            have hv601_0 := hcc601 0 _ rfl
            rw [Nat.add_zero, show ((Kd.slice 3 (Kd.int .i64))).sz = 1 from rfl, Nat.mul_one] at hv601_0
            replace hv601_0 := Option.some.inj (hv601_0.symm.trans hx601_0)
            rw [hv601_0] at ge601_0
            have HL601_0 := Aside0.mk (show Kd.R (Kd.int .i64) 3 _ _ _ _ (rd_L2 t582 x19_3) from ge601_0)
            clear hv601_0 ge601_0
            clear hcc601 hce601
            have HR601_0 := Aside0.mk hi601_0
            have HC601_0 := Aside0.mk hl601_0
            clear hi601_0 hl601_0
            replace p601 := eq_true p601
            replace q601 := eq_true q601
            have p602 : 0 ≤ ((ji60) : Int) := of_decide_eq_true (by first | (with_reducible assumption) | assumption)
            have q602 : (ji60) < (t582.length : Int) := of_decide_eq_true (by first | (with_reducible assumption) | assumption)
            obtain ⟨ad602, A602_0, c602_0, e602, hx602_0, hl602_0, hi602_0⟩ := at_L2 (Kd.S_reads' HO_6.out).2.2 (ji60) p602 q602
            obtain rfl : ad601 = ad602 := (by injection e602)
            obtain ⟨ce602, hce602, hMe602, hcc602⟩ := Kd.S_get HO_6.out [] (ji60) p602 (by first | exact q602 | exact of_decide_eq_true (by first | (with_reducible assumption) | assumption) | (have e_ := (Kd.S_reads' HO_6.out).1; omega))
            obtain ⟨ve602_0, rfl, ge602_0⟩ := hMe602
            have hv602_0 := hcc602 0 _ rfl
            rw [Nat.add_zero, show ((Kd.slice 3 (Kd.int .i64))).sz = 1 from rfl, Nat.mul_one] at hv602_0
            replace hv602_0 := Option.some.inj (hv602_0.symm.trans hx602_0)
            rw [hv602_0] at ge602_0
            have HL602_0 := Aside0.mk (show Kd.R (Kd.int .i64) 3 _ _ _ _ (rd_L2 t582 (ji60)) from ge602_0)
            clear hv602_0 ge602_0
            clear hcc602 hce602
            have HR602_0 := Aside0.mk hi602_0
            have HC602_0 := Aside0.mk hl602_0
            clear hi602_0 hl602_0
            replace p602 := eq_true p602
            replace q602 := eq_true q602
            refine start_ (n := 21) (S := fun w' => w'.cell? (ad601.add (x19_3).toNat) = some (.slice A601_0 (rd_L2 t582 x19_3).length c601_0) ∧ w'.cell? (ad601.add ((ji60)).toNat) = some (.slice A602_0 (rd_L2 t582 (ji60)).length c602_0)) (ds := []) #[false, false, false, false, false, false, false, false, false, false, false, false, false, false, false, false, false, false, false, false, false] (by kernel_rfl) rfl rfl ⟨hx601_0, hx602_0⟩ (fun hHeld => ?_); refine with_tabW laws_FnRoundsEnd.tab19 laws_FnRoundsEnd.bits19 (fun HT_ HW_ => ?_)
            generalize wr.drew = w64 at HO_5 HO_6 HB HL601_0 HL602_0 HR601_0 HR602_0 hx601_0 hx602_0 hHeld ⊢
            refine pure_ (i := 0) (N := some 147) (v := ?_) (a' := ?_) #[true, false, false, false, false, false, false, false, false, false, false, false, false, false, false, false, false, false, false, false, false] rfl rfl (any_of HT_.out (by kernel_rfl)) (fun _ _ _ h => h) (Or.inl ⟨by rfl, ?_⟩) ?_ ?_
            rotate_left
            ·as_aux_lemma =>
             intro w'
             go_simp
             with_reducible rfl
            rotate_left
            ·as_aux_lemma =>
             simp only [Act.put, List.setIfInBounds_toArray, List.set_cons_zero, List.set_cons_succ, i64_w, i32_w]
             rfl
            refine pure_ (i := 1) (N := some 148) (v := ?_) (a' := ?_) #[true, true, false, false, false, false, false, false, false, false, false, false, false, false, false, false, false, false, false, false, false] rfl rfl (any_of HT_.out (by kernel_rfl)) (fun _ _ _ h => h) (Or.inl ⟨by rfl, ?_⟩) ?_ ?_
            rotate_left
            ·as_aux_lemma =>
             intro w'
             go_simp
             with_reducible rfl
            rotate_left
            ·as_aux_lemma =>
             simp only [Act.put, List.setIfInBounds_toArray, List.set_cons_zero, List.set_cons_succ, i64_w, i32_w]
             rfl
            refine pure_ (i := 2) (N := some 149) (v := ?_) (a' := ?_) #[true, true, true, false, false, false, false, false, false, false, false, false, false, false, false, false, false, false, false, false, false] rfl rfl (any_of HT_.out (by kernel_rfl)) (fun _ _ _ h => h) (Or.inl ⟨by rfl, ?_⟩) ?_ ?_
            rotate_left
            ·as_aux_lemma =>
             intro w'
             go_simp
             with_reducible rfl
            rotate_left
            ·as_aux_lemma =>
             simp only [Act.put, List.setIfInBounds_toArray, List.set_cons_zero, List.set_cons_succ, i64_w, i32_w]
             rfl
            refine pure_ (i := 6) (N := some 153) (v := ?_) (a' := ?_) #[true, true, true, false, false, false, true, false, false, false, false, false, false, false, false, false, false, false, false, false, false] rfl rfl (any_of HT_.out (by kernel_rfl)) (fun _ _ _ h => h) (Or.inl ⟨by rfl, ?_⟩) ?_ ?_
            rotate_left
            ·as_aux_lemma =>
             intro w'
             go_simp
             with_reducible rfl
            rotate_left
            ·as_aux_lemma =>
             simp only [Act.put, List.setIfInBounds_toArray, List.set_cons_zero, List.set_cons_succ, i64_w, i32_w]
             rfl
            refine pure_ (i := 7) (N := some 154) (v := ?_) (a' := ?_) #[true, true, true, false, false, false, true, true, false, false, false, false, false, false, false, false, false, false, false, false, false] rfl rfl (any_of HT_.out (by kernel_rfl)) (fun _ _ _ h => h) (Or.inl ⟨by rfl, ?_⟩) ?_ ?_
            rotate_left
            ·as_aux_lemma =>
             intro w'
             go_simp
             with_reducible rfl
            rotate_left
            ·as_aux_lemma =>
             simp only [Act.put, List.setIfInBounds_toArray, List.set_cons_zero, List.set_cons_succ, i64_w, i32_w]
             rfl
            refine pure_ (i := 8) (N := some 155) (v := ?_) (a' := ?_) #[true, true, true, false, false, false, true, true, true, false, false, false, false, false, false, false, false, false, false, false, false] rfl rfl (any_of HT_.out (by kernel_rfl)) (fun _ _ _ h => h) (Or.inl ⟨by rfl, ?_⟩) ?_ ?_
            rotate_left
            ·as_aux_lemma =>
             intro w'
             go_simp
             with_reducible rfl
            rotate_left
            ·as_aux_lemma =>
             simp only [Act.put, List.setIfInBounds_toArray, List.set_cons_zero, List.set_cons_succ, i64_w, i32_w]
             rfl
            refine pure_ (i := 9) (N := some 156) (v := ?_) (a' := ?_) #[true, true, true, false, false, false, true, true, true, true, false, false, false, false, false, false, false, false, false, false, false] rfl rfl (any_of HT_.out (by kernel_rfl)) (fun _ _ _ h => h) (Or.inl ⟨by rfl, ?_⟩) ?_ ?_
            rotate_left
            ·as_aux_lemma =>
             intro w'
             go_simp
             with_reducible rfl
            rotate_left
            ·as_aux_lemma =>
             simp only [Act.put, List.setIfInBounds_toArray, List.set_cons_zero, List.set_cons_succ, i64_w, i32_w]
             rfl
            refine take_ (i := 3) (N := some 150) (v := ?_) (a' := ?_) #[true, true, true, true, false, false, true, true, true, true, false, false, false, false, false, false, false, false, false, false, false] rfl rfl (take_ofW HT_.out HW_.out (by kernel_rfl)) (fun _ _ _ h => h) (Or.inl ⟨by rfl, ?_⟩) hHeld ?_ ?_
            rotate_left
            ·as_aux_lemma =>
             rintro w' ⟨s0, s1⟩
             go_simp
             with_reducible rfl
            rotate_left
            ·as_aux_lemma =>
             simp only [Act.put, List.setIfInBounds_toArray, List.set_cons_zero, List.set_cons_succ, i64_w, i32_w]
             rfl
            refine pure_ (i := 4) (N := some 151) (v := ?_) (a' := ?_) #[true, true, true, true, true, false, true, true, true, true, false, false, false, false, false, false, false, false, false, false, false] rfl rfl (any_of HT_.out (by kernel_rfl)) (fun _ _ _ h => h) (Or.inl ⟨by rfl, ?_⟩) ?_ ?_
            rotate_left
            ·as_aux_lemma =>
             intro w'
             go_simp
             with_reducible rfl
            rotate_left
            ·as_aux_lemma =>
             simp only [Act.put, List.setIfInBounds_toArray, List.set_cons_zero, List.set_cons_succ, i64_w, i32_w]
             rfl
            refine pure_ (i := 5) (N := some 152) (v := ?_) (a' := ?_) #[true, true, true, true, true, true, true, true, true, true, false, false, false, false, false, false, false, false, false, false, false] rfl rfl (any_of HT_.out (by kernel_rfl)) (fun _ _ _ h => h) (Or.inl ⟨by rfl, ?_⟩) ?_ ?_
            rotate_left
            ·as_aux_lemma =>
             intro w'
             go_simp
             with_reducible rfl
            rotate_left
            ·as_aux_lemma =>
             simp only [Act.put, List.setIfInBounds_toArray, List.set_cons_zero, List.set_cons_succ, i64_w, i32_w]
             rfl
            refine take_ (i := 10) (N := some 157) (v := ?_) (a' := ?_) #[true, true, true, true, true, true, true, true, true, true, true, false, false, false, false, false, false, false, false, false, false] rfl rfl (take_ofW HT_.out HW_.out (by kernel_rfl)) (fun _ _ _ h => h) (Or.inl ⟨by rfl, ?_⟩) hHeld ?_ ?_
            rotate_left
            ·as_aux_lemma =>
             rintro w' ⟨s0, s1⟩
             go_simp
             with_reducible rfl
            rotate_left
            ·as_aux_lemma =>
             simp only [Act.put, List.setIfInBounds_toArray, List.set_cons_zero, List.set_cons_succ, i64_w, i32_w]
             rfl
            refine pure_ (i := 11) (N := some 158) (v := ?_) (a' := ?_) #[true, true, true, true, true, true, true, true, true, true, true, true, false, false, false, false, false, false, false, false, false] rfl rfl (any_of HT_.out (by kernel_rfl)) (fun _ _ _ h => h) (Or.inl ⟨by rfl, ?_⟩) ?_ ?_
            rotate_left
            ·as_aux_lemma =>
             intro w'
             go_simp
             with_reducible rfl
            rotate_left
            ·as_aux_lemma =>
             simp only [Act.put, List.setIfInBounds_toArray, List.set_cons_zero, List.set_cons_succ, i64_w, i32_w]
             rfl
            refine pure_ (i := 12) (N := some 159) (v := ?_) (a' := ?_) #[true, true, true, true, true, true, true, true, true, true, true, true, true, false, false, false, false, false, false, false, false] rfl rfl (any_of HT_.out (by kernel_rfl)) (fun _ _ _ h => h) (Or.inl ⟨by rfl, ?_⟩) ?_ ?_
            rotate_left
            ·as_aux_lemma =>
             intro w'
             go_simp
             with_reducible rfl
            rotate_left
            ·as_aux_lemma =>
             simp only [Act.put, List.setIfInBounds_toArray, List.set_cons_zero, List.set_cons_succ, i64_w, i32_w]
             rfl
            refine pure_ (i := 13) (N := some 160) (v := ?_) (a' := ?_) #[true, true, true, true, true, true, true, true, true, true, true, true, true, true, false, false, false, false, false, false, false] rfl rfl (any_of HT_.out (by kernel_rfl)) (fun _ _ _ h => h) (Or.inl ⟨by rfl, ?_⟩) ?_ ?_
            rotate_left
            ·as_aux_lemma =>
             intro w'
             go_simp
             with_reducible rfl
            rotate_left
            ·as_aux_lemma =>
             simp only [Act.put, List.setIfInBounds_toArray, List.set_cons_zero, List.set_cons_succ, i64_w, i32_w]
             rfl
            refine pure_ (i := 14) (N := some 161) (v := undef) (a' := ?_) #[true, true, true, true, true, true, true, true, true, true, true, true, true, true, true, false, false, false, false, false, false] rfl rfl (any_of HT_.out (by kernel_rfl)) (fun _ _ _ h => h) (Or.inr ⟨by rfl, rfl⟩) ?_ ?_
            rotate_left
            ·as_aux_lemma =>
             simp only [Act.put, List.setIfInBounds_toArray, List.set_cons_zero, List.set_cons_succ, i64_w, i32_w]
             rfl
            refine pure_ (i := 15) (N := some 162) (v := undef) (a' := ?_) #[true, true, true, true, true, true, true, true, true, true, true, true, true, true, true, true, false, false, false, false, false] rfl rfl (any_of HT_.out (by kernel_rfl)) (fun _ _ _ h => h) (Or.inr ⟨by rfl, rfl⟩) ?_ ?_
            rotate_left
            ·as_aux_lemma =>
             simp only [Act.put, List.setIfInBounds_toArray, List.set_cons_zero, List.set_cons_succ, i64_w, i32_w]
             rfl
            refine pure_ (i := 16) (N := some 163) (v := undef) (a' := ?_) #[true, true, true, true, true, true, true, true, true, true, true, true, true, true, true, true, true, false, false, false, false] rfl rfl (any_of HT_.out (by kernel_rfl)) (fun _ _ _ h => h) (Or.inr ⟨by rfl, rfl⟩) ?_ ?_
            rotate_left
            ·as_aux_lemma =>
             simp only [Act.put, List.setIfInBounds_toArray, List.set_cons_zero, List.set_cons_succ, i64_w, i32_w]
             rfl
            refine pure_ (i := 17) (N := some 164) (v := undef) (a' := ?_) #[true, true, true, true, true, true, true, true, true, true, true, true, true, true, true, true, true, true, false, false, false] rfl rfl (any_of HT_.out (by kernel_rfl)) (fun _ _ _ h => h) (Or.inr ⟨by rfl, rfl⟩) ?_ ?_
            rotate_left
            ·as_aux_lemma =>
             simp only [Act.put, List.setIfInBounds_toArray, List.set_cons_zero, List.set_cons_succ, i64_w, i32_w]
             rfl
            refine pure_ (i := 18) (N := some 165) (v := undef) (a' := ?_) #[true, true, true, true, true, true, true, true, true, true, true, true, true, true, true, true, true, true, true, false, false] rfl rfl (any_of HT_.out (by kernel_rfl)) (fun _ _ _ h => h) (Or.inr ⟨by rfl, rfl⟩) ?_ ?_
            rotate_left
            ·as_aux_lemma =>
             simp only [Act.put, List.setIfInBounds_toArray, List.set_cons_zero, List.set_cons_succ, i64_w, i32_w]
             rfl
            refine pure_ (i := 19) (N := some 166) (v := undef) (a' := ?_) #[true, true, true, true, true, true, true, true, true, true, true, true, true, true, true, true, true, true, true, true, false] rfl rfl (any_of HT_.out (by kernel_rfl)) (fun _ _ _ h => h) (Or.inr ⟨by rfl, rfl⟩) ?_ ?_
            rotate_left
            ·as_aux_lemma =>
             simp only [Act.put, List.setIfInBounds_toArray, List.set_cons_zero, List.set_cons_succ, i64_w, i32_w]
             rfl
            refine pure_ (i := 20) (N := some 167) (v := ?_) (a' := ?_) #[true, true, true, true, true, true, true, true, true, true, true, true, true, true, true, true, true, true, true, true, true] rfl rfl (any_of HT_.out (by kernel_rfl)) (fun _ _ _ h => h) (Or.inl ⟨by rfl, ?_⟩) ?_ ?_
            rotate_left
            ·as_aux_lemma =>
             intro w'
             go_simp
             with_reducible rfl
            rotate_left
            ·as_aux_lemma =>
             simp only [Act.put, List.setIfInBounds_toArray, List.set_cons_zero, List.set_cons_succ, i64_w, i32_w]
             rfl
            refine done_ (done_of HT_.out (by kernel_rfl)) ?_
            try go_wp2
            go_meet
            case rel => exact ⟨_, (true), (by first | rfl | (simp; done) | (simp [*]; done)), H', ⟨by have := HJ11.out; have := HJ44.out; have := HK3.out; first | omega | exact Nat.le_refl _⟩, ⟨by (with_reducible repeat (first | apply Kd.R_alloc | apply Kd.R_drewN | apply Kd.R_drew)); exact HO_5.out⟩, ⟨by (with_reducible repeat (first | apply Kd.S_alloc | apply Kd.S_drewN | apply Kd.S_drew)); exact HO_6.out⟩, ⟨by repeat (first | (with_reducible first | exact HB.out | apply below_alloc | apply pw_below_drewN | apply below_drew1) | exact HB.out)⟩⟩
           ·as_aux_lemma =>
            rw [if_neg c63] at H
            have c63b0 : decide (((rd_L2 t582 (ji60)).length : Int) < (wrap64 (2 * ((rd_L2 t582 x19_3).length : Int)))) = false := decide_eq_false c63
            clear c63
            have H' := Aside0.mk H
            clear H
            try go_wp2
            have n0_ := Aside0.mk (Kd.R_drew HO_5.out)
            have n1_ := Aside0.mk (Kd.S_drew HO_6.out)
            have n2_ := Aside0.mk (below_drew1 HB.out)
            clear HO_5
            clear HO_6
            clear HB
            have HO_5 := n0_
            have HO_6 := n1_
            have HB := n2_
            clear n0_ n1_ n2_
            have p601 : 0 ≤ (x19_3 : Int) := of_decide_eq_true (by first | (with_reducible assumption) | assumption)
            have q601 : x19_3 < (t582.length : Int) := of_decide_eq_true (by first | (with_reducible assumption) | assumption)
            obtain ⟨ad601, A601_0, c601_0, e601, hx601_0, hl601_0, hi601_0⟩ := at_L2 (Kd.S_reads' HO_6.out).2.2 x19_3 p601 q601
            cases e601
            obtain ⟨ce601, hce601, hMe601, hcc601⟩ := Kd.S_get HO_6.out [] x19_3 p601 (by first | exact q601 | exact of_decide_eq_true (by first | (with_reducible assumption) | assumption) | (have e_ := (Kd.S_reads' HO_6.out).1; omega))
            obtain ⟨ve601_0, rfl, ge601_0⟩ := hMe601
            have hv601_0 := hcc601 0 _ rfl
            rw [Nat.add_zero, show ((Kd.slice 3 (Kd.int .i64))).sz = 1 from rfl, Nat.mul_one] at hv601_0
            replace hv601_0 := Option.some.inj (hv601_0.symm.trans hx601_0)
            rw [hv601_0] at ge601_0
            have HL601_0 := Aside0.mk (show Kd.R (Kd.int .i64) 3 _ _ _ _ (rd_L2 t582 x19_3) from ge601_0)
            clear hv601_0 ge601_0
            clear hcc601 hce601
            have HR601_0 := Aside0.mk hi601_0
            have HC601_0 := Aside0.mk hl601_0
            clear hi601_0 hl601_0
            replace p601 := eq_true p601
            replace q601 := eq_true q601
            have p602 : 0 ≤ ((ji60) : Int) := of_decide_eq_true (by first | (with_reducible assumption) | assumption)
            have q602 : (ji60) < (t582.length : Int) := of_decide_eq_true (by first | (with_reducible assumption) | assumption)
            obtain ⟨ad602, A602_0, c602_0, e602, hx602_0, hl602_0, hi602_0⟩ := at_L2 (Kd.S_reads' HO_6.out).2.2 (ji60) p602 q602
            obtain rfl : ad601 = ad602 := (by injection e602)
            obtain ⟨ce602, hce602, hMe602, hcc602⟩ := Kd.S_get HO_6.out [] (ji60) p602 (by first | exact q602 | exact of_decide_eq_true (by first | (with_reducible assumption) | assumption) | (have e_ := (Kd.S_reads' HO_6.out).1; omega))
            obtain ⟨ve602_0, rfl, ge602_0⟩ := hMe602
            have hv602_0 := hcc602 0 _ rfl
            rw [Nat.add_zero, show ((Kd.slice 3 (Kd.int .i64))).sz = 1 from rfl, Nat.mul_one] at hv602_0
            replace hv602_0 := Option.some.inj (hv602_0.symm.trans hx602_0)
            rw [hv602_0] at ge602_0
            have HL602_0 := Aside0.mk (show Kd.R (Kd.int .i64) 3 _ _ _ _ (rd_L2 t582 (ji60)) from ge602_0)
            clear hv602_0 ge602_0
            clear hcc602 hce602
            have HR602_0 := Aside0.mk hi602_0
            have HC602_0 := Aside0.mk hl602_0
            clear hi602_0 hl602_0
            replace p602 := eq_true p602
            replace q602 := eq_true q602
            have p603 : 0 ≤ (x19_3 : Int) := of_decide_eq_true (by first | (with_reducible assumption) | assumption)
            have q603 : x19_3 < (t582.length : Int) := of_decide_eq_true (by first | (with_reducible assumption) | assumption)
            obtain ⟨ad603, A603_0, c603_0, e603, hx603_0, hl603_0, hi603_0⟩ := at_L2 (Kd.S_reads' HO_6.out).2.2 x19_3 p603 q603
            obtain rfl : ad601 = ad603 := (by injection e603)
            obtain ⟨ce603, hce603, hMe603, hcc603⟩ := Kd.S_get HO_6.out [] x19_3 p603 (by first | exact q603 | exact of_decide_eq_true (by first | (with_reducible assumption) | assumption) | (have e_ := (Kd.S_reads' HO_6.out).1; omega))
            obtain ⟨ve603_0, rfl, ge603_0⟩ := hMe603
            have hv603_0 := hcc603 0 _ rfl
            rw [Nat.add_zero, show ((Kd.slice 3 (Kd.int .i64))).sz = 1 from rfl, Nat.mul_one] at hv603_0
            replace hv603_0 := Option.some.inj (hv603_0.symm.trans hx603_0)
            rw [hv603_0] at ge603_0
            have HL603_0 := Aside0.mk (show Kd.R (Kd.int .i64) 3 _ _ _ _ (rd_L2 t582 x19_3) from ge603_0)
            clear hv603_0 ge603_0
            clear hcc603 hce603
            have HR603_0 := Aside0.mk hi603_0
            have HC603_0 := Aside0.mk hl603_0
            clear hi603_0 hl603_0
            replace p603 := eq_true p603
            replace q603 := eq_true q603
            have ea_ := Option.some.inj (hx601_0.symm.trans hx603_0)
            injection ea_ with ea_ en_ ec_
            subst ea_
            subst ec_
            clear en_
            refine start_ (n := 21) (S := fun w' => w'.cell? (ad601.add (x19_3).toNat) = some (.slice A601_0 (rd_L2 t582 x19_3).length c601_0) ∧ w'.cell? (ad601.add ((ji60)).toNat) = some (.slice A602_0 (rd_L2 t582 (ji60)).length c602_0) ∧ w'.cell? (ad601.add (x19_3).toNat) = some (.slice A601_0 (rd_L2 t582 x19_3).length c601_0)) (ds := []) #[false, false, false, false, false, false, false, false, false, false, false, false, false, false, false, false, false, false, false, false, false] (by kernel_rfl) rfl rfl ⟨hx601_0, hx602_0, hx603_0⟩ (fun hHeld => ?_); refine with_tabW laws_FnRoundsEnd.tab19 laws_FnRoundsEnd.bits19 (fun HT_ HW_ => ?_)
            generalize wr.drew = w65 at HO_5 HO_6 HB HL601_0 HL602_0 HL603_0 HR601_0 HR602_0 HR603_0 hx601_0 hx602_0 hx603_0 hHeld ⊢
            refine pure_ (i := 0) (N := some 147) (v := ?_) (a' := ?_) #[true, false, false, false, false, false, false, false, false, false, false, false, false, false, false, false, false, false, false, false, false] rfl rfl (any_of HT_.out (by kernel_rfl)) (fun _ _ _ h => h) (Or.inl ⟨by rfl, ?_⟩) ?_ ?_
            rotate_left
            ·as_aux_lemma =>
             intro w'
             go_simp
             with_reducible rfl
            rotate_left
            ·as_aux_lemma =>
             simp only [Act.put, List.setIfInBounds_toArray, List.set_cons_zero, List.set_cons_succ, i64_w, i32_w]
             rfl
            refine pure_ (i := 1) (N := some 148) (v := ?_) (a' := ?_) #[true, true, false, false, false, false, false, false, false, false, false, false, false, false, false, false, false, false, false, false, false] rfl rfl (any_of HT_.out (by kernel_rfl)) (fun _ _ _ h => h) (Or.inl ⟨by rfl, ?_⟩) ?_ ?_
            rotate_left
            ·as_aux_lemma =>
             intro w'
             go_simp
             with_reducible rfl
            rotate_left
            ·as_aux_lemma =>
             simp only [Act.put, List.setIfInBounds_toArray, List.set_cons_zero, List.set_cons_succ, i64_w, i32_w]
             rfl
            refine pure_ (i := 2) (N := some 149) (v := ?_) (a' := ?_) #[true, true, true, false, false, false, false, false, false, false, false, false, false, false, false, false, false, false, false, false, false] rfl rfl (any_of HT_.out (by kernel_rfl)) (fun _ _ _ h => h) (Or.inl ⟨by rfl, ?_⟩) ?_ ?_
            rotate_left
            ·as_aux_lemma =>
             intro w'
             go_simp
             with_reducible rfl
            rotate_left
            ·as_aux_lemma =>
             simp only [Act.put, List.setIfInBounds_toArray, List.set_cons_zero, List.set_cons_succ, i64_w, i32_w]
             rfl
            refine pure_ (i := 6) (N := some 153) (v := ?_) (a' := ?_) #[true, true, true, false, false, false, true, false, false, false, false, false, false, false, false, false, false, false, false, false, false] rfl rfl (any_of HT_.out (by kernel_rfl)) (fun _ _ _ h => h) (Or.inl ⟨by rfl, ?_⟩) ?_ ?_
            rotate_left
            ·as_aux_lemma =>
             intro w'
             go_simp
             with_reducible rfl
            rotate_left
            ·as_aux_lemma =>
             simp only [Act.put, List.setIfInBounds_toArray, List.set_cons_zero, List.set_cons_succ, i64_w, i32_w]
             rfl
            refine pure_ (i := 7) (N := some 154) (v := ?_) (a' := ?_) #[true, true, true, false, false, false, true, true, false, false, false, false, false, false, false, false, false, false, false, false, false] rfl rfl (any_of HT_.out (by kernel_rfl)) (fun _ _ _ h => h) (Or.inl ⟨by rfl, ?_⟩) ?_ ?_
            rotate_left
            ·as_aux_lemma =>
             intro w'
             go_simp
             with_reducible rfl
            rotate_left
            ·as_aux_lemma =>
             simp only [Act.put, List.setIfInBounds_toArray, List.set_cons_zero, List.set_cons_succ, i64_w, i32_w]
             rfl
            refine pure_ (i := 8) (N := some 155) (v := ?_) (a' := ?_) #[true, true, true, false, false, false, true, true, true, false, false, false, false, false, false, false, false, false, false, false, false] rfl rfl (any_of HT_.out (by kernel_rfl)) (fun _ _ _ h => h) (Or.inl ⟨by rfl, ?_⟩) ?_ ?_
            rotate_left
            ·as_aux_lemma =>
             intro w'
             go_simp
             with_reducible rfl
            rotate_left
            ·as_aux_lemma =>
             simp only [Act.put, List.setIfInBounds_toArray, List.set_cons_zero, List.set_cons_succ, i64_w, i32_w]
             rfl
            refine pure_ (i := 9) (N := some 156) (v := ?_) (a' := ?_) #[true, true, true, false, false, false, true, true, true, true, false, false, false, false, false, false, false, false, false, false, false] rfl rfl (any_of HT_.out (by kernel_rfl)) (fun _ _ _ h => h) (Or.inl ⟨by rfl, ?_⟩) ?_ ?_
            rotate_left
            ·as_aux_lemma =>
             intro w'
             go_simp
             with_reducible rfl
            rotate_left
            ·as_aux_lemma =>
             simp only [Act.put, List.setIfInBounds_toArray, List.set_cons_zero, List.set_cons_succ, i64_w, i32_w]
             rfl
            refine take_ (i := 3) (N := some 150) (v := ?_) (a' := ?_) #[true, true, true, true, false, false, true, true, true, true, false, false, false, false, false, false, false, false, false, false, false] rfl rfl (take_ofW HT_.out HW_.out (by kernel_rfl)) (fun _ _ _ h => h) (Or.inl ⟨by rfl, ?_⟩) hHeld ?_ ?_
            rotate_left
            ·as_aux_lemma =>
             rintro w' ⟨s0, s1, s2⟩
             go_simp
             with_reducible rfl
            rotate_left
            ·as_aux_lemma =>
             simp only [Act.put, List.setIfInBounds_toArray, List.set_cons_zero, List.set_cons_succ, i64_w, i32_w]
             rfl
            refine pure_ (i := 4) (N := some 151) (v := ?_) (a' := ?_) #[true, true, true, true, true, false, true, true, true, true, false, false, false, false, false, false, false, false, false, false, false] rfl rfl (any_of HT_.out (by kernel_rfl)) (fun _ _ _ h => h) (Or.inl ⟨by rfl, ?_⟩) ?_ ?_
            rotate_left
            ·as_aux_lemma =>
             intro w'
             go_simp
             with_reducible rfl
            rotate_left
            ·as_aux_lemma =>
             simp only [Act.put, List.setIfInBounds_toArray, List.set_cons_zero, List.set_cons_succ, i64_w, i32_w]
             rfl
            refine pure_ (i := 5) (N := some 152) (v := ?_) (a' := ?_) #[true, true, true, true, true, true, true, true, true, true, false, false, false, false, false, false, false, false, false, false, false] rfl rfl (any_of HT_.out (by kernel_rfl)) (fun _ _ _ h => h) (Or.inl ⟨by rfl, ?_⟩) ?_ ?_
            rotate_left
            ·as_aux_lemma =>
             intro w'
             go_simp
             with_reducible rfl
            rotate_left
            ·as_aux_lemma =>
             simp only [Act.put, List.setIfInBounds_toArray, List.set_cons_zero, List.set_cons_succ, i64_w, i32_w]
             rfl
            refine take_ (i := 10) (N := some 157) (v := ?_) (a' := ?_) #[true, true, true, true, true, true, true, true, true, true, true, false, false, false, false, false, false, false, false, false, false] rfl rfl (take_ofW HT_.out HW_.out (by kernel_rfl)) (fun _ _ _ h => h) (Or.inl ⟨by rfl, ?_⟩) hHeld ?_ ?_
            rotate_left
            ·as_aux_lemma =>
             rintro w' ⟨s0, s1, s2⟩
             go_simp
             with_reducible rfl
            rotate_left
            ·as_aux_lemma =>
             simp only [Act.put, List.setIfInBounds_toArray, List.set_cons_zero, List.set_cons_succ, i64_w, i32_w]
             rfl
            refine pure_ (i := 11) (N := some 158) (v := ?_) (a' := ?_) #[true, true, true, true, true, true, true, true, true, true, true, true, false, false, false, false, false, false, false, false, false] rfl rfl (any_of HT_.out (by kernel_rfl)) (fun _ _ _ h => h) (Or.inl ⟨by rfl, ?_⟩) ?_ ?_
            rotate_left
            ·as_aux_lemma =>
             intro w'
             go_simp
             with_reducible rfl
            rotate_left
            ·as_aux_lemma =>
             simp only [Act.put, List.setIfInBounds_toArray, List.set_cons_zero, List.set_cons_succ, i64_w, i32_w]
             rfl
            refine pure_ (i := 12) (N := some 159) (v := ?_) (a' := ?_) #[true, true, true, true, true, true, true, true, true, true, true, true, true, false, false, false, false, false, false, false, false] rfl rfl (any_of HT_.out (by kernel_rfl)) (fun _ _ _ h => h) (Or.inl ⟨by rfl, ?_⟩) ?_ ?_
            rotate_left
            ·as_aux_lemma =>
             intro w'
             go_simp
             with_reducible rfl
            rotate_left
            ·as_aux_lemma =>
             simp only [Act.put, List.setIfInBounds_toArray, List.set_cons_zero, List.set_cons_succ, i64_w, i32_w]
             rfl
            refine pure_ (i := 13) (N := some 160) (v := ?_) (a' := ?_) #[true, true, true, true, true, true, true, true, true, true, true, true, true, true, false, false, false, false, false, false, false] rfl rfl (any_of HT_.out (by kernel_rfl)) (fun _ _ _ h => h) (Or.inl ⟨by rfl, ?_⟩) ?_ ?_
            rotate_left
            ·as_aux_lemma =>
             intro w'
             go_simp
             with_reducible rfl
            rotate_left
            ·as_aux_lemma =>
             simp only [Act.put, List.setIfInBounds_toArray, List.set_cons_zero, List.set_cons_succ, i64_w, i32_w]
             rfl
            refine pure_ (i := 14) (N := some 161) (v := ?_) (a' := ?_) #[true, true, true, true, true, true, true, true, true, true, true, true, true, true, true, false, false, false, false, false, false] rfl rfl (any_of HT_.out (by kernel_rfl)) (fun _ _ _ h => h) (Or.inl ⟨by rfl, ?_⟩) ?_ ?_
            rotate_left
            ·as_aux_lemma =>
             intro w'
             go_simp
             with_reducible rfl
            rotate_left
            ·as_aux_lemma =>
             simp only [Act.put, List.setIfInBounds_toArray, List.set_cons_zero, List.set_cons_succ, i64_w, i32_w]
             rfl
            refine pure_ (i := 15) (N := some 162) (v := ?_) (a' := ?_) #[true, true, true, true, true, true, true, true, true, true, true, true, true, true, true, true, false, false, false, false, false] rfl rfl (any_of HT_.out (by kernel_rfl)) (fun _ _ _ h => h) (Or.inl ⟨by rfl, ?_⟩) ?_ ?_
            rotate_left
            ·as_aux_lemma =>
             intro w'
             go_simp
             with_reducible rfl
            rotate_left
            ·as_aux_lemma =>
             simp only [Act.put, List.setIfInBounds_toArray, List.set_cons_zero, List.set_cons_succ, i64_w, i32_w]
             rfl
            refine pure_ (i := 16) (N := some 163) (v := ?_) (a' := ?_) #[true, true, true, true, true, true, true, true, true, true, true, true, true, true, true, true, true, false, false, false, false] rfl rfl (any_of HT_.out (by kernel_rfl)) (fun _ _ _ h => h) (Or.inl ⟨by rfl, ?_⟩) ?_ ?_
            rotate_left
            ·as_aux_lemma =>
             intro w'
             go_simp
             with_reducible rfl
            rotate_left
            ·as_aux_lemma =>
             simp only [Act.put, List.setIfInBounds_toArray, List.set_cons_zero, List.set_cons_succ, i64_w, i32_w]
             rfl
            refine take_ (i := 17) (N := some 164) (v := ?_) (a' := ?_) #[true, true, true, true, true, true, true, true, true, true, true, true, true, true, true, true, true, true, false, false, false] rfl rfl (take_ofW HT_.out HW_.out (by kernel_rfl)) (fun _ _ _ h => h) (Or.inl ⟨by rfl, ?_⟩) hHeld ?_ ?_
            rotate_left
            ·as_aux_lemma =>
             rintro w' ⟨s0, s1, s2⟩
             go_simp
             with_reducible rfl
            rotate_left
            ·as_aux_lemma =>
             simp only [Act.put, List.setIfInBounds_toArray, List.set_cons_zero, List.set_cons_succ, i64_w, i32_w]
             rfl
            refine pure_ (i := 18) (N := some 165) (v := ?_) (a' := ?_) #[true, true, true, true, true, true, true, true, true, true, true, true, true, true, true, true, true, true, true, false, false] rfl rfl (any_of HT_.out (by kernel_rfl)) (fun _ _ _ h => h) (Or.inl ⟨by rfl, ?_⟩) ?_ ?_
            rotate_left
            ·as_aux_lemma =>
             intro w'
             go_simp
             with_reducible rfl
            rotate_left
            ·as_aux_lemma =>
             simp only [Act.put, List.setIfInBounds_toArray, List.set_cons_zero, List.set_cons_succ, i64_w, i32_w]
             rfl
            refine pure_ (i := 19) (N := some 166) (v := ?_) (a' := ?_) #[true, true, true, true, true, true, true, true, true, true, true, true, true, true, true, true, true, true, true, true, false] rfl rfl (any_of HT_.out (by kernel_rfl)) (fun _ _ _ h => h) (Or.inl ⟨by rfl, ?_⟩) ?_ ?_
            rotate_left
            ·as_aux_lemma =>
             intro w'
             go_simp
             with_reducible rfl
            rotate_left
            ·as_aux_lemma =>
             simp only [Act.put, List.setIfInBounds_toArray, List.set_cons_zero, List.set_cons_succ, i64_w, i32_w]
             rfl
            refine pure_ (i := 20) (N := some 167) (v := ?_) (a' := ?_) #[true, true, true, true, true, true, true, true, true, true, true, true, true, true, true, true, true, true, true, true, true] rfl rfl (any_of HT_.out (by kernel_rfl)) (fun _ _ _ h => h) (Or.inl ⟨by rfl, ?_⟩) ?_ ?_
            rotate_left
            ·as_aux_lemma =>
             intro w'
             go_simp
             with_reducible rfl
            rotate_left
            ·as_aux_lemma =>
             simp only [Act.put, List.setIfInBounds_toArray, List.set_cons_zero, List.set_cons_succ, i64_w, i32_w]
             rfl
            refine done_ (done_of HT_.out (by kernel_rfl)) ?_
            try go_wp2
            go_meet
            case rel => exact ⟨_, (decide (((rd_L2 t582 x19_3).length : Int) < 1)), (by first | rfl | (simp; done) | (simp [*]; done)), H', ⟨by have := HJ11.out; have := HJ44.out; have := HK3.out; first | omega | exact Nat.le_refl _⟩, ⟨by (with_reducible repeat (first | apply Kd.R_alloc | apply Kd.R_drewN | apply Kd.R_drew)); exact HO_5.out⟩, ⟨by (with_reducible repeat (first | apply Kd.S_alloc | apply Kd.S_drewN | apply Kd.S_drew)); exact HO_6.out⟩, ⟨by repeat (first | (with_reducible first | exact HB.out | apply below_alloc | apply pw_below_drewN | apply below_drew1) | exact HB.out)⟩⟩
          ·as_aux_lemma =>
           rw [if_neg c62] at H
           exact absurd H (by simp)
         ·as_aux_lemma =>
          rw [if_neg c61] at H
          exact absurd H (by simp)
        ·as_aux_lemma =>
         rw [if_neg c59] at H
         exact absurd H (by simp)
       case rest => as_aux_lemma =>
        go_step
        exact laws_FnRoundsEnd.pc_j3 HJ11 (by assumption) HJ44 (by assumption) (by assumption) HK3 (by assumption) (by assumption) (by assumption) hcut rfl rfl rfl rfl rfl
      ·as_aux_lemma =>
       rw [if_neg c56] at H
       have c56b0 : decide (x19_3 < (t582.length : Int)) = false := decide_eq_false c56
       clear c56
       replace H := Option.bind_eq_some_iff.mp H
       obtain ⟨⟨t610, t611⟩, A850, H⟩ := H
       replace H : (if t611 = true then (if t594 < (t579.length : Int) then (laws_FnRoundsEnd.j6 k3 t579 t582 t590 t594 (t579.length : Int) true) else (laws_FnRoundsEnd.j6 k3 t579 t582 t590 t594 (t579.length : Int) (decide (t610 < 0)))) else (laws_FnRoundsEnd.j6 k3 t579 t582 t590 t594 (t579.length : Int) true)) = some r := H
       have A85 := Aside0.mk A850
       clear A850
       have HC86 := Aside0.mk H
       clear H
       obtain ⟨Ao87, co87, eo87⟩ := Kd.S_slice HO_6.out
       subst eo87
       go_upto_region 28 with (first | ((with_reducible refine gate_callee (f := 22) rfl ?_); refine goesL_ (some 205) rfl rfl Try.func22 (by kernel_rfl) rfl #[.slice Ao14 t579.length co14] rfl (by (try simp only [List.map_toArray, List.map_cons, List.map_nil]); first | done | rfl | (simp only [List.length_drop, List.length_take]; rfl)) ?_; (with_reducible refine (impl_WinnerOf.calls k3 _ _ t579 t610 t611 _ ?side1 ?side2 A85.out).mono ?_); (case side1 => repeat (first | exact (Kd.R_reads' HO_5.out).2.2 | (with_reducible refine Kd.C_alloc ?_ _) | (with_reducible refine Kd.C_drewN ?_ _) | (with_reducible refine Kd.C_drew ?_))); (case side2 => exact (Kd.R_reads' HO_5.out).2.1); rintro e w88 ⟨rfl, hb⟩; refine ⟨_, rfl, ?_⟩; have n0_ := Aside0.mk (Kd.R_below (by (with_reducible repeat (first | apply Kd.R_alloc | apply Kd.R_drewN | apply Kd.R_drew)); exact HO_5.out) hb); have n1_ := Aside0.mk (Kd.S_below (by (with_reducible repeat (first | apply Kd.S_alloc | apply Kd.S_drewN | apply Kd.S_drew)); exact HO_6.out) hb); have n2_ := Aside0.mk (below_step (by repeat (first | (with_reducible first | exact HB.out | apply below_alloc | apply pw_below_drewN | apply below_drew1) | exact HB.out)) hb); clear HO_5; clear HO_6; clear HB; have HO_5 := n0_; have HO_6 := n1_; have HB := n2_; clear n0_ n1_ n2_; (try clear hb); (try clear hb2); (try clear hk); (try clear hi)))
       (try simp only [Act.put, List.setIfInBounds_toArray, List.set_cons_zero, List.set_cons_succ])
       go_cut [218] (fun v218 wc => ∃ (kq : Nat) (x218_85 : Bool), v218 = .bool x218_85 ∧ Aside0 (laws_FnRoundsEnd.j6 kq t579 t582 t590 t594 (t579.length : Int) x218_85 = some r) ∧ Aside0 (kq ≤ k3) ∧ Aside0 (Kd.R (Kd.int .i64) 3 wc w.heap.size (fun _ => True) (.slice Ao14 t579.length co14) t579) ∧ Aside0 (Kd.S (Kd.slice 3 (Kd.int .i64)) 25 wc w.heap.size (fun k_ => some k_ ≠ ((.slice Ao14 t579.length co14) : Value).ownBlock) (.slice Ao87 t582.length co87) t582) ∧ Aside0 (Below w.heap.size w wc))
       case first => as_aux_lemma =>
        have H := HC86.out
        clear HC86
        by_cases c89 : t611 = true
        ·as_aux_lemma =>
         subst c89
         have H1 : (if t594 < (t579.length : Int) then (laws_FnRoundsEnd.j6 k3 t579 t582 t590 t594 (t579.length : Int) true) else (laws_FnRoundsEnd.j6 k3 t579 t582 t590 t594 (t579.length : Int) (decide (t610 < 0)))) = some r := by rw [if_pos rfl] at H; exact H
         clear H
         have H := H1
         clear H1
         by_cases c90 : t594 < (t579.length : Int)
         ·as_aux_lemma =>
          rw [if_pos c90] at H
          have c90b0 : decide (t594 < (t579.length : Int)) = true := decide_eq_true c90
          clear c90
          (first | rw [c90b0] | (simp only [i64_w, i32_w]; rw [c90b0]) | skip)
          have H' := Aside0.mk H
          clear H
          go_wp2
          go_meet
          case rel => exact ⟨_, (true), (by first | rfl | (simp; done) | (simp [*]; done)), H', ⟨by have := HJ11.out; have := HJ44.out; have := HK3.out; first | omega | exact Nat.le_refl _⟩, ⟨by (with_reducible repeat (first | apply Kd.R_alloc | apply Kd.R_drewN | apply Kd.R_drew)); exact HO_5.out⟩, ⟨by (with_reducible repeat (first | apply Kd.S_alloc | apply Kd.S_drewN | apply Kd.S_drew)); exact HO_6.out⟩, ⟨by repeat (first | (with_reducible first | exact HB.out | apply below_alloc | apply pw_below_drewN | apply below_drew1) | exact HB.out)⟩⟩
         ·as_aux_lemma =>
          rw [if_neg c90] at H
          have c90b0 : decide (t594 < (t579.length : Int)) = false := decide_eq_false c90
          clear c90
          (first | rw [c90b0] | (simp only [i64_w, i32_w]; rw [c90b0]) | skip)
          have H' := Aside0.mk H
          clear H
          go_wp2
          go_meet
          case rel => exact ⟨_, (decide (t610 < 0)), (by first | rfl | (simp; done) | (simp [*]; done)), H', ⟨by have := HJ11.out; have := HJ44.out; have := HK3.out; first | omega | exact Nat.le_refl _⟩, ⟨by (with_reducible repeat (first | apply Kd.R_alloc | apply Kd.R_drewN | apply Kd.R_drew)); exact HO_5.out⟩, ⟨by (with_reducible repeat (first | apply Kd.S_alloc | apply Kd.S_drewN | apply Kd.S_drew)); exact HO_6.out⟩, ⟨by repeat (first | (with_reducible first | exact HB.out | apply below_alloc | apply pw_below_drewN | apply below_drew1) | exact HB.out)⟩⟩
        ·as_aux_lemma =>
         replace c89 := Bool.eq_false_iff.mpr c89
         subst c89
         have H1 : (laws_FnRoundsEnd.j6 k3 t579 t582 t590 t594 (t579.length : Int) true) = some r := by rw [if_neg (show ¬ (false = true) by decide)] at H; exact H
         clear H
         have H := H1
         clear H1
         have H' := Aside0.mk H
         clear H
         go_wp2
         go_meet
         case rel => exact ⟨_, (true), (by first | rfl | (simp; done) | (simp [*]; done)), H', ⟨by have := HJ11.out; have := HJ44.out; have := HK3.out; first | omega | exact Nat.le_refl _⟩, ⟨by (with_reducible repeat (first | apply Kd.R_alloc | apply Kd.R_drewN | apply Kd.R_drew)); exact HO_5.out⟩, ⟨by (with_reducible repeat (first | apply Kd.S_alloc | apply Kd.S_drewN | apply Kd.S_drew)); exact HO_6.out⟩, ⟨by repeat (first | (with_reducible first | exact HB.out | apply below_alloc | apply pw_below_drewN | apply below_drew1) | exact HB.out)⟩⟩
       case rest => as_aux_lemma =>
        go_step
        exact laws_FnRoundsEnd.pc_j6 HJ11 (by assumption) HJ44 HK3 (by assumption) hcut rfl rfl rfl
end Go.Proofs.Ytbiiklkkfkipeaa.X
