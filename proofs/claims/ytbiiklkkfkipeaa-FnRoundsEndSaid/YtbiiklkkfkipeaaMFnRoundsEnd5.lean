/- Several texts of this session in one: X473. -/
import Derived.Test.YtbiiklkkfkipeaaMFnRoundsEnd2
import Derived.Test.YtbiiklkkfkipeaaMFnRoundsEnd4
/- The walk of the law FnRoundsEnd, its third piece: written by this session's program wip/split/cut.py. -/
namespace Go.Proofs.Ytbiiklkkfkipeaa.X
open Go.RowKit Go.Proofs.YtbiiklkkfkipeaaW.PrintWords Go.Proofs.YtbiiklkkfkipeaaW.PrintLast Go.Proofs.YtbiiklkkfkipeaaW.PrintMore
attribute [local go_sem] max2_int min2_int max_two min_two max_three min_three max_four min_four   -- for this text's walks alone
set_option linter.unusedVariables false
set_option linter.unusedSimpArgs false

set_option maxHeartbeats 8000000 in
set_option maxRecDepth 100000 in
theorem laws_FnRoundsEnd.pc_j6 {cd0 : Code} {cd1 : Code} {cd2 : Code} {k : Nat} {A0 : Option Addr} {c0 : Nat} {l0 : List Int} {A1 : Option Addr} {c1 : Nat} {l1 : List Int} {r : Bool} {w : World} {t579 : List Int} {t582 : List (List Int)} {t587 : Bool} {t590 : Int} {t591 : Bool} {t592 : Int} {t593 : Bool} {t594 : Int} {t595 : Bool} {t596 : Int} {t597 : Bool} {Ao14 : Option Addr} {co14 : Nat} {v588 : Value} {kj11 : Nat} (HJ11 : Aside0 (kj11 + 1 ≤ k)) {K_z2 : Act → World → Prop} (a_z2 : ∀ (a : Act) (w_1 : World), Code.wp Try.prog cd0 (bodyPost Try.prog Try.f13 fun (e : Ending) (w' : World) => e = Ending.returned (Value.bool r) ∧ Below (Array.size (World.heap w)) w w') a w_1 → K_z2 a w_1) {kj44 : Nat} (HJ44 : Aside0 (kj44 + 1 ≤ kj11)) {u4 u20 u21 u171 u172 u173 : Value} {x19_3 : Int} {k3 : Nat} (HK3 : Aside0 (k3 + 1 ≤ kj44)) {t610 : Int} {t611 : Bool} {Ao87 : Option Addr} {co87 : Nat} {K_z1 : Act → World → Prop} (a_z1 : ∀ (a : Act) (w_1 : World), Code.wp Try.prog cd1 (Exit.then K_z2 (bodyPost Try.prog Try.f13 fun (e : Ending) (w' : World) => e = Ending.returned (Value.bool r) ∧ Below (Array.size (World.heap w)) w w')) a w_1 → K_z1 a w_1) {wc : World} {u38 u39 u40 u41 u42 u43 u44 u45 u46 u47 u48 u49 u50 u51 u52 u53 u54 u55 u56 u57 u58 u59 u60 u61 u62 u63 u64 u65 u66 u67 u68 u69 u70 u71 u72 u73 u74 u75 u76 u77 u78 u79 u80 u81 u82 u83 u84 u85 u86 u87 u88 u89 u90 u91 u92 u93 u94 u95 u96 u97 u98 u99 u100 u101 u102 u103 u104 u105 u106 u107 u108 u109 u110 u111 u112 u113 u114 u115 u116 u117 u118 u119 u120 u121 u122 u123 u124 u125 u126 u127 u128 u129 u130 u131 u132 u133 u134 u135 u136 u137 u138 u139 u140 u141 u142 u143 u144 u145 u146 u147 u148 u149 u150 u151 u152 u153 u154 u155 u156 u157 u158 u159 u160 u161 u162 u163 u164 u165 u166 u167 u168 u169 u170 u174 u175 u176 u177 u178 u179 u180 u181 u182 u183 u184 u185 u186 u187 u188 u189 u190 u191 u192 u193 u194 u195 u196 u197 u198 u199 u200 u201 u202 u203 u204 u205 u206 u207 u208 u209 u210 u211 u212 u213 u214 u215 u216 u217 u218 u219 u220 u224 u225 u226 u227 u231 u232 u233 u234 u235 u236 u237 u238 u239 u240 u241 u242 u243 u244 u245 u246 u247 u248 u249 u250 u251 u252 u253 u254 u255 u256 u257 u258 u259 u260 u261 u262 u263 u264 u265 u266 u267 u268 u269 u270 u271 u272 u273 u274 u275 u276 u277 u278 u279 u280 u281 u282 u283 u284 u285 u286 u287 u288 u289 u290 u291 u292 u293 u294 u295 u296 u297 u298 u299 u300 u301 u302 u303 u304 u305 u306 : Value} (hcut : ∃ (kq : Nat), ∃ (x218_85 : Bool), u218 = Value.bool x218_85 ∧ Aside0 (j6 kq t579 t582 t590 t594 (↑(List.length t579) : Int) x218_85 = some r) ∧ Aside0 (kq ≤ k3) ∧ Aside0 (Kd.R (Kd.int IntKind.i64) 3 wc (Array.size (World.heap w)) (fun (x : Nat) => True) (Value.slice Ao14 (List.length t579) co14) t579) ∧ Aside0 (Kd.S (Kd.slice 3 (Kd.int IntKind.i64)) 25 wc (Array.size (World.heap w)) (fun (k_ : Nat) => some k_ ≠ Value.ownBlock (Value.slice Ao14 (List.length t579) co14)) (Value.slice Ao87 (List.length t582) co87) t582) ∧ Aside0 (Below (Array.size (World.heap w)) w wc)) (hcd0 : cd0 = cB (cB (cB (cB (cB (cB (cB (cB (cB (cB (cB (P13)))))))))))) (hcd1 : cd1 = cB (cB (cB (cB (cB (cA (cB (cA (cB (cB (cB (cB (cB (cB (cB (cB (cB (cB (P13))))))))))))))))))) (hcd2 : cd2 = cB (cA (cB (cB (cB (cB (cA (cB (cA (cB (cB (cB (cB (cB (cB (cB (cB (cB (cB (P13)))))))))))))))))))) : Code.wp Try.prog cd2 (Exit.then K_z1 (Exit.then K_z2 (bodyPost Try.prog Try.f13 fun (e : Ending) (w' : World) => e = Ending.returned (Value.bool r) ∧ Below (Array.size (World.heap w)) w w'))) { tmps := #[Value.slice A0 (List.length l0) c0, Value.slice A1 (List.length l1) c1, undef, undef, u4, Value.slice Ao14 (List.length t579) co14, Value.slice Ao87 (List.length t582) co87, Value.bool true, v588, Value.bool t587, Value.int IntKind.i64 t590, Value.bool t591, Value.int IntKind.i64 t592, Value.bool t593, Value.int IntKind.i64 t594, Value.bool t595, Value.int IntKind.i64 t596, Value.bool t597, Value.int IntKind.i64 (↑(List.length t579) : Int), Value.int IntKind.i64 x19_3, u20, u21, Value.int IntKind.i64 t610, Value.bool t611, undef, undef, undef, undef, undef, undef, undef, undef, undef, undef, undef, undef, undef, undef, u38, u39, u40, u41, u42, u43, u44, u45, u46, u47, u48, u49, u50, u51, u52, u53, u54, u55, u56, u57, u58, u59, u60, u61, u62, u63, u64, u65, u66, u67, u68, u69, u70, u71, u72, u73, u74, u75, u76, u77, u78, u79, u80, u81, u82, u83, u84, u85, u86, u87, u88, u89, u90, u91, u92, u93, u94, u95, u96, u97, u98, u99, u100, u101, u102, u103, u104, u105, u106, u107, u108, u109, u110, u111, u112, u113, u114, u115, u116, u117, u118, u119, u120, u121, u122, u123, u124, u125, u126, u127, u128, u129, u130, u131, u132, u133, u134, u135, u136, u137, u138, u139, u140, u141, u142, u143, u144, u145, u146, u147, u148, u149, u150, u151, u152, u153, u154, u155, u156, u157, u158, u159, u160, u161, u162, u163, u164, u165, u166, u167, u168, u169, u170, u171, u172, u173, u174, u175, u176, u177, u178, u179, u180, u181, u182, u183, u184, u185, u186, u187, u188, u189, u190, u191, u192, u193, u194, u195, u196, u197, u198, u199, u200, u201, u202, u203, u204, u205, u206, u207, u208, u209, u210, u211, u212, u213, u214, u215, u216, u217, u218, u219, u220, undef, undef, undef, u224, u225, u226, u227, undef, undef, undef, u231, u232, u233, u234, u235, u236, u237, u238, u239, u240, u241, u242, u243, u244, u245, u246, u247, u248, u249, u250, u251, u252, u253, u254, u255, u256, u257, u258, u259, u260, u261, u262, u263, u264, u265, u266, u267, u268, u269, u270, u271, u272, u273, u274, u275, u276, u277, u278, u279, u280, u281, u282, u283, u284, u285, u286, u287, u288, u289, u290, u291, u292, u293, u294, u295, u296, u297, u298, u299, u300, u301, u302, u303, u304, u305, u306], defers := [] } wc := by
  conv at hcd0 => rhs; whnf
  subst hcd0
  conv at hcd1 => rhs; whnf
  subst hcd1
  conv at hcd2 => rhs; whnf
  subst hcd2
  obtain ⟨kq, x218_85, rfl, HA, HJ85, HO_5, HO_6, HB⟩ := hcut
  cases kq with
  | zero => exact absurd HA.out (by simp [laws_FnRoundsEnd.j6])
  | succ kj85 =>
   have H := HA.out
   clear HA
   simp only [laws_FnRoundsEnd.j6] at H
   by_cases c91 : x218_85 = true
   ·as_aux_lemma =>
    subst c91
    have H1 : (some false) = some r := by rw [if_pos rfl] at H; exact H
    clear H
    have H := H1
    clear H1
    obtain rfl := Option.some.inj H
    go_wp2
    go_ret
    exact ⟨by first | rfl | (simp [errW_none, errW_some] <;> rfl) | (simp [*, errW_none, errW_some] <;> rfl), by repeat (first | (with_reducible first | exact HB.out | apply below_alloc | apply pw_below_drewN | apply below_drew1) | exact HB.out)⟩
   ·as_aux_lemma =>
    replace c91 := Bool.eq_false_iff.mpr c91
    subst c91
    have H1 : (if 0 ≤ (t579.length : Int) then (if ((t579.length : Int) : Int).toNat ≤ 35184372088832 then (laws_FnRoundsEnd.l2 kj85 t579 t582 t590 t594 (List.replicate ((t579.length : Int) : Int).toNat 0) t579 (t579.length : Int) 0) else (none)) else (none)) = some r := by rw [if_neg (show ¬ (false = true) by decide)] at H; exact H
    clear H
    have H := H1
    clear H1
    by_cases c92 : 0 ≤ (t579.length : Int)
    ·as_aux_lemma =>
     rw [if_pos c92] at H
     have c92b0 := eq_true c92
     have c92b1 : decide (0 ≤ (t579.length : Int)) = true := decide_eq_true c92
     clear c92
     by_cases c93 : ((t579.length : Int) : Int).toNat ≤ 35184372088832
     ·as_aux_lemma =>
      rw [if_pos c93] at H
      have c93b0 := eq_true c93
      have c93b1 : decide (((t579.length : Int) : Int).toNat ≤ 35184372088832) = true := decide_eq_true c93
      clear c93
      obtain ⟨y612, hy612⟩ : ∃ y_ : List Int, y_ = (List.replicate ((t579.length : Int) : Int).toNat 0) := ⟨_, rfl⟩
      replace H : (laws_FnRoundsEnd.l2 kj85 t579 t582 t590 t594 y612 t579 (t579.length : Int) 0) = some r := by first | (rw [hy612]; with_reducible exact H) | (have H2_ := (Option.bind_some _ _).symm.trans H; rw [hy612]; with_reducible exact H2_) | (have H2_ := (Option.bind_some _ _).symm.trans H; with_reducible exact H2_) | with_reducible exact H | (rw [hy612]; exact H) | exact H
      have Ny612 := Aside0.mk hy612
      clear hy612
      have H' := Aside0.mk H
      clear H
      go_wp2_with (first | ((with_reducible refine gate_dst (N := 220) rfl ?_); (try (refine gate_guard (by rfl) ?_; dsimp only)); refine Kd.R_make (Kd.int .i64) _ 3 rfl (N := 220) rfl 25 _ _ rfl (t579.length : Int) rfl rfl Try.underlying25 (.int .i64 0) 8 info3 rfl (by decide) (by omega) 0 (ok := fun _ => True) (okp := fun _ => True) rfl (fun _ hk => hk) trivial (of_decide_eq_true (by first | (with_reducible assumption) | assumption)) (Nat.le_trans (Nat.mul_le_mul_right _ (of_decide_eq_true (by first | (with_reducible assumption) | assumption) : (t579.length : Int).toNat ≤ 35184372088832)) (by omega)) (Below.refl _ _) (Nat.le_refl _) ?_; intro v613 w94 ho95 hb hg_ hnew_; clear hg_ hnew_; (first | rw [← Ny612.out] at ho95 | (simp only [Int.reduceToNat] at ho95; rw [← Ny612.out] at ho95)); have n0_ := Aside0.mk (Kd.R_elder' (by (with_reducible repeat (first | apply Kd.R_alloc | apply Kd.R_drewN | apply Kd.R_drew)); exact HO_5.out) (Kd.R_base ho95) hb); have n1_ := Aside0.mk (Kd.S_elder' (by (with_reducible repeat (first | apply Kd.S_alloc | apply Kd.S_drewN | apply Kd.S_drew)); exact HO_6.out) (Kd.R_base ho95) hb); have n2_ := Aside0.mk (Kd.R_lower (Kd.R_new' ho95 (Kd.R_lt (by (with_reducible repeat (first | apply Kd.R_alloc | apply Kd.R_drewN | apply Kd.R_drew)); exact HO_5.out))) (below_size (by repeat (first | (with_reducible first | exact HB.out | apply below_alloc | apply pw_below_drewN | apply below_drew1) | exact HB.out)))); have n3_ := Aside0.mk (below_step (by repeat (first | (with_reducible first | exact HB.out | apply below_alloc | apply pw_below_drewN | apply below_drew1) | exact HB.out)) hb); clear HO_5; clear HO_6; clear HB; have HO_5 := n0_; have HO_6 := n1_; have HO614 := n2_; have HB := n3_; clear n0_ n1_ n2_ n3_; clear hb ho95))
      go_loopg [223] kj85 (fun kq v223 w' => ∃ (x24_5 : List Int) (x223_5 : Int), v223 = .int .i64 x223_5 ∧ Aside0 (laws_FnRoundsEnd.l2 kq t579 t582 t590 t594 x24_5 t579 (t579.length : Int) x223_5 = some r) ∧ Aside0 (kq ≤ kj85) ∧ Aside0 (Kd.R (Kd.int .i64) 3 w' w.heap.size (fun k_ => some k_ ≠ (v613 : Value).ownBlock) (.slice Ao14 t579.length co14) t579) ∧ Aside0 (Kd.S (Kd.slice 3 (Kd.int .i64)) 25 w' w.heap.size (fun k_ => some k_ ≠ ((.slice Ao14 t579.length co14) : Value).ownBlock ∧ some k_ ≠ (v613 : Value).ownBlock ∧ some k_ ≠ ((.slice Ao14 t579.length co14) : Value).ownBlock) (.slice Ao87 t582.length co87) t582) ∧ Aside0 (Kd.R (Kd.int .i64) 3 w' w.heap.size (fun k_ => some k_ ≠ ((.slice Ao14 t579.length co14) : Value).ownBlock ∧ some k_ ≠ ((.slice Ao14 t579.length co14) : Value).ownBlock) v613 x24_5) ∧ Aside0 (Kd.R (Kd.int .i64) 3 w' w.heap.size (fun k_ => some k_ ≠ (v613 : Value).ownBlock) (.slice Ao14 t579.length co14) t579) ∧ Aside0 (Below w.heap.size w w'))
      case atStart => exact ⟨(y612), (0), (by first | rfl | (simp; done) | (simp [*]; done)), H', ⟨Nat.le_refl _⟩, ⟨by (with_reducible repeat (first | apply Kd.R_alloc | apply Kd.R_drewN | apply Kd.R_drew)); exact Kd.R_mono HO_5.out (fun _ hk => hk.2)⟩, ⟨by (with_reducible repeat (first | apply Kd.S_alloc | apply Kd.S_drewN | apply Kd.S_drew)); exact Kd.S_mono HO_6.out (fun _ hk => ⟨hk.1, ⟨hk.2, hk.1⟩⟩)⟩, ⟨by (with_reducible repeat (first | apply Kd.R_alloc | apply Kd.R_drewN | apply Kd.R_drew)); exact Kd.R_mono HO614.out (fun _ hk => ⟨hk.2, hk.2⟩)⟩, ⟨by (with_reducible repeat (first | apply Kd.R_alloc | apply Kd.R_drewN | apply Kd.R_drew)); exact Kd.R_mono HO_5.out (fun _ hk => hk.2)⟩, ⟨by repeat (first | (with_reducible first | exact HB.out | apply below_alloc | apply pw_below_drewN | apply below_drew1) | exact HB.out)⟩⟩
      case round => as_aux_lemma =>
       clear H'
       try clear c1
       try clear c2
       try clear p2
       try clear c3
       try clear c4
       try clear c5
       try clear p5
       try clear q5
       try clear hx5
       try clear qi5
       try clear c6
       try clear p6
       try clear q6
       try clear hx6
       try clear c7
       try clear c8
       try clear c9
       try clear c13
       try clear c21
       try clear c21b0
       try clear c21b1
       try clear c21b2
       try clear c22
       try clear c23
       try clear c24
       try clear c24b0
       try clear c24b1
       try clear c24b2
       try clear c27
       try clear c27b0
       try clear c27b1
       try clear c28
       try clear c28b0
       try clear c28b1
       try clear c28b2
       try clear c31
       try clear c31b0
       try clear c31b1
       try clear c32
       try clear c32b0
       try clear c32b1
       try clear c32b2
       try clear c33
       try clear c34
       try clear c35
       try clear c36
       try clear c37
       try clear c38
       try clear c42
       try clear c43
       try clear c44
       try clear c45
       try clear c46
       try clear c46b0
       try clear c46b1
       try clear c47
       try clear c47b0
       try clear c47b1
       try clear c47b2
       try clear c49
       try clear c49b0
       try clear c50
       try clear c50b0
       try clear c51
       try clear c51b0
       try clear c51b1
       try clear c55
       try clear c56
       try clear c56b0
       try clear c59
       try clear c59b0
       try clear p59
       try clear q59
       try clear hx59
       try clear c60
       try clear p60
       try clear q60
       try clear hx60
       try clear c61
       try clear c61b0
       try clear c62
       try clear c62b0
       try clear c63
       try clear c63b0
       try clear p64
       try clear c66
       try clear c67
       try clear c67b0
       try clear c68
       try clear c68b0
       try clear c69
       try clear c69b0
       try clear c70
       try clear c70b0
       try clear c71
       try clear c71b0
       try clear c74
       try clear c74b0
       try clear c75
       try clear c75b0
       try clear c77
       try clear c78
       try clear c78b0
       try clear c79
       try clear c79b0
       try clear c80
       try clear c80b0
       try clear c82
       try clear c82b0
       try clear c83
       try clear c83b0
       try clear c84
       try clear c89
       try clear c90
       try clear c90b0
       try clear c91
       try clear c92
       try clear c92b0
       try clear c92b1
       try clear c93
       try clear c93b0
       try clear c93b1
       try clear hx599_0
       try clear hx600_0
       try clear hx601_0
       try clear hx602_0
       try clear hx603_0
       try clear hx604_0
       try clear hx605_0
       try clear hx606_0
       try clear hx608_0
       try clear hx609_0
       try clear p2
       try clear p5
       try clear p59
       try clear p599
       try clear p6
       try clear p60
       try clear p600
       try clear p601
       try clear p602
       try clear p603
       try clear p604
       try clear p605
       try clear p606
       try clear p608
       try clear p609
       try clear p64
       try clear q5
       try clear q59
       try clear q599
       try clear q6
       try clear q60
       try clear q600
       try clear q601
       try clear q602
       try clear q603
       try clear q604
       try clear q605
       try clear q606
       try clear q608
       try clear q609
       obtain ⟨x24_5, x223_5, rfl, HA, HK5, HO_5, HO_6, HO_24, HO_221, HB⟩ := hrel
       cases gk with
       | zero => exact absurd HA.out (by simp [laws_FnRoundsEnd.l2])
       | succ k5 =>
        have H := HA.out
        clear HA
        simp only [laws_FnRoundsEnd.l2] at H
        by_cases c96 : x223_5 < (t579.length : Int)
        ·as_aux_lemma =>
         rw [if_pos c96] at H
         have c96b0 : decide (x223_5 < (t579.length : Int)) = true := decide_eq_true c96
         clear c96
         by_cases c97 : 0 ≤ x223_5
         ·as_aux_lemma =>
          rw [if_pos c97] at H
          have c97b0 : decide (0 ≤ x223_5) = true := decide_eq_true c97
          clear c97
          by_cases c98 : x223_5 < (t579.length : Int)
          ·as_aux_lemma =>
           rw [if_pos c98] at H
           have c98b0 : decide (x223_5 < (t579.length : Int)) = true := decide_eq_true c98
           clear c98
           have H' := Aside0.mk H
           clear H
           have p615 : 0 ≤ (x223_5 : Int) := of_decide_eq_true (by first | (with_reducible assumption) | assumption)
           have q615 : x223_5 < (t579.length : Int) := of_decide_eq_true (by first | (with_reducible assumption) | assumption)
           obtain ⟨ad615, e615, hx615_0⟩ := Kd.at_int (Kd.R_reads' HO_221.out).2.2 x223_5 p615 q615
           cases e615
           replace p615 := eq_true p615
           replace q615 := eq_true q615
           go_wp2
           go_loopg [230] k5 (fun kq v230 w' => ∃ (x24_6 : List Int) (x230_6 : Int), v230 = .int .i64 x230_6 ∧ Aside0 (laws_FnRoundsEnd.l3 kq t579 t582 t590 t594 x24_6 x223_5 (rd t579 x223_5) t579 (t579.length : Int) x223_5 t579 (t579.length : Int) x230_6 = some r) ∧ Aside0 (kq ≤ k5) ∧ Aside0 (Kd.R (Kd.int .i64) 3 w' w.heap.size (fun k_ => some k_ ≠ (v613 : Value).ownBlock) (.slice (some ad615) t579.length co14) t579) ∧ Aside0 (Kd.S (Kd.slice 3 (Kd.int .i64)) 25 w' w.heap.size (fun k_ => some k_ ≠ ((.slice (some ad615) t579.length co14) : Value).ownBlock ∧ some k_ ≠ (v613 : Value).ownBlock ∧ some k_ ≠ ((.slice (some ad615) t579.length co14) : Value).ownBlock ∧ some k_ ≠ ((.slice (some ad615) t579.length co14) : Value).ownBlock) (.slice Ao87 t582.length co87) t582) ∧ Aside0 (Kd.R (Kd.int .i64) 3 w' w.heap.size (fun k_ => some k_ ≠ ((.slice (some ad615) t579.length co14) : Value).ownBlock ∧ some k_ ≠ ((.slice (some ad615) t579.length co14) : Value).ownBlock ∧ some k_ ≠ ((.slice (some ad615) t579.length co14) : Value).ownBlock) v613 x24_6) ∧ Aside0 (Kd.R (Kd.int .i64) 3 w' w.heap.size (fun k_ => some k_ ≠ (v613 : Value).ownBlock) (.slice (some ad615) t579.length co14) t579) ∧ Aside0 (Kd.R (Kd.int .i64) 3 w' w.heap.size (fun k_ => some k_ ≠ (v613 : Value).ownBlock) (.slice (some ad615) t579.length co14) t579) ∧ Aside0 (Below w.heap.size w w'))
           case atStart => exact ⟨(x24_5), (0), (by first | rfl | (simp; done) | (simp [*]; done)), H', ⟨Nat.le_refl _⟩, ⟨by (with_reducible repeat (first | apply Kd.R_alloc | apply Kd.R_drewN | apply Kd.R_drew)); exact HO_5.out⟩, ⟨by (with_reducible repeat (first | apply Kd.S_alloc | apply Kd.S_drewN | apply Kd.S_drew)); exact Kd.S_mono HO_6.out (fun _ hk => ⟨hk.1, ⟨hk.2.1, ⟨hk.2.2, hk.1⟩⟩⟩)⟩, ⟨by (with_reducible repeat (first | apply Kd.R_alloc | apply Kd.R_drewN | apply Kd.R_drew)); exact Kd.R_mono HO_24.out (fun _ hk => ⟨hk.1, ⟨hk.2, hk.1⟩⟩)⟩, ⟨by (with_reducible repeat (first | apply Kd.R_alloc | apply Kd.R_drewN | apply Kd.R_drew)); exact HO_221.out⟩, ⟨by (with_reducible repeat (first | apply Kd.R_alloc | apply Kd.R_drewN | apply Kd.R_drew)); exact HO_5.out⟩, ⟨by repeat (first | (with_reducible first | exact HB.out | apply below_alloc | apply pw_below_drewN | apply below_drew1) | exact HB.out)⟩⟩
           case round => as_aux_lemma =>
            clear H'
            try clear c1
            try clear c2
            try clear p2
            try clear c3
            try clear c4
            try clear c5
            try clear p5
            try clear q5
            try clear hx5
            try clear qi5
            try clear c6
            try clear p6
            try clear q6
            try clear hx6
            try clear c7
            try clear c8
            try clear c9
            try clear c13
            try clear c21
            try clear c21b0
            try clear c21b1
            try clear c21b2
            try clear c22
            try clear c23
            try clear c24
            try clear c24b0
            try clear c24b1
            try clear c24b2
            try clear c27
            try clear c27b0
            try clear c27b1
            try clear c28
            try clear c28b0
            try clear c28b1
            try clear c28b2
            try clear c31
            try clear c31b0
            try clear c31b1
            try clear c32
            try clear c32b0
            try clear c32b1
            try clear c32b2
            try clear c33
            try clear c34
            try clear c35
            try clear c36
            try clear c37
            try clear c38
            try clear c42
            try clear c43
            try clear c44
            try clear c45
            try clear c46
            try clear c46b0
            try clear c46b1
            try clear c47
            try clear c47b0
            try clear c47b1
            try clear c47b2
            try clear c49
            try clear c49b0
            try clear c50
            try clear c50b0
            try clear c51
            try clear c51b0
            try clear c51b1
            try clear c55
            try clear c56
            try clear c56b0
            try clear c59
            try clear c59b0
            try clear p59
            try clear q59
            try clear hx59
            try clear c60
            try clear p60
            try clear q60
            try clear hx60
            try clear c61
            try clear c61b0
            try clear p61
            try clear q61
            try clear hx61
            try clear c62
            try clear c62b0
            try clear c63
            try clear c63b0
            try clear p64
            try clear c66
            try clear c67
            try clear c67b0
            try clear c68
            try clear c68b0
            try clear c69
            try clear c69b0
            try clear c70
            try clear c70b0
            try clear c71
            try clear c71b0
            try clear c74
            try clear c74b0
            try clear c75
            try clear c75b0
            try clear c77
            try clear c78
            try clear c78b0
            try clear c79
            try clear c79b0
            try clear c80
            try clear c80b0
            try clear c82
            try clear c82b0
            try clear c83
            try clear c83b0
            try clear c84
            try clear c89
            try clear c90
            try clear c90b0
            try clear c91
            try clear c92
            try clear c92b0
            try clear c92b1
            try clear c93
            try clear c93b0
            try clear c93b1
            try clear c96
            try clear c96b0
            try clear c97
            try clear c97b0
            try clear c98
            try clear c98b0
            try clear hx599_0
            try clear hx600_0
            try clear hx601_0
            try clear hx602_0
            try clear hx603_0
            try clear hx604_0
            try clear hx605_0
            try clear hx606_0
            try clear hx608_0
            try clear hx609_0
            try clear hx615_0
            try clear p2
            try clear p5
            try clear p59
            try clear p599
            try clear p6
            try clear p60
            try clear p600
            try clear p601
            try clear p602
            try clear p603
            try clear p604
            try clear p605
            try clear p606
            try clear p608
            try clear p609
            try clear p615
            try clear p64
            try clear q5
            try clear q59
            try clear q599
            try clear q6
            try clear q60
            try clear q600
            try clear q601
            try clear q602
            try clear q603
            try clear q604
            try clear q605
            try clear q606
            try clear q608
            try clear q609
            try clear q615
            obtain ⟨x24_6, x230_6, rfl, HA, HK6, HO_5, HO_6, HO_24, HO_221, HO_228, HB⟩ := hrel
            cases gk with
            | zero => exact absurd HA.out (by simp [laws_FnRoundsEnd.l3])
            | succ k6 =>
             have H := HA.out
             clear HA
             simp only [laws_FnRoundsEnd.l3] at H
             by_cases c99 : x230_6 < (t579.length : Int)
             ·as_aux_lemma =>
              rw [if_pos c99] at H
              have c99b0 : decide (x230_6 < (t579.length : Int)) = true := decide_eq_true c99
              clear c99
              by_cases c100 : 0 ≤ x230_6
              ·as_aux_lemma =>
               rw [if_pos c100] at H
               have c100b0 : decide (0 ≤ x230_6) = true := decide_eq_true c100
               clear c100
               by_cases c101 : x230_6 < (t579.length : Int)
               ·as_aux_lemma =>
                rw [if_pos c101] at H
                have c101b0 : decide (x230_6 < (t579.length : Int)) = true := decide_eq_true c101
                clear c101
                by_cases c102 : (rd t579 x230_6) < (rd t579 x223_5)
                ·as_aux_lemma =>
                 rw [if_pos c102] at H
                 have c102b0 : decide ((rd t579 x230_6) < (rd t579 x223_5)) = true := decide_eq_true c102
                 clear c102
                 by_cases c103 : 0 ≤ x223_5
                 ·as_aux_lemma =>
                  rw [if_pos c103] at H
                  have c103b0 : decide (0 ≤ x223_5) = true := decide_eq_true c103
                  clear c103
                  by_cases c104 : x223_5 < (x24_6.length : Int)
                  ·as_aux_lemma =>
                   rw [if_pos c104] at H
                   have c104b0 : decide (x223_5 < (x24_6.length : Int)) = true := decide_eq_true c104
                   clear c104
                   obtain ⟨y618, hy618⟩ : ∃ y_ : List Int, y_ = (x24_6.set (x223_5 : Int).toNat (wrap64 ((rd x24_6 x223_5) + 1))) := ⟨_, rfl⟩
                   replace H : (laws_FnRoundsEnd.l3 k6 t579 t582 t590 t594 y618 x223_5 (rd t579 x223_5) t579 (t579.length : Int) x223_5 t579 (t579.length : Int) (wrap64 (x230_6 + 1))) = some r := by first | (rw [hy618]; with_reducible exact H) | (have H2_ := (Option.bind_some _ _).symm.trans H; rw [hy618]; with_reducible exact H2_) | (have H2_ := (Option.bind_some _ _).symm.trans H; with_reducible exact H2_) | with_reducible exact H | (rw [hy618]; exact H) | exact H
                   have Ny618 := Aside0.mk hy618
                   clear hy618
                   have H' := Aside0.mk H
                   clear H
                   have p616 : 0 ≤ (x230_6 : Int) := of_decide_eq_true (by first | (with_reducible assumption) | assumption)
                   have q616 : x230_6 < (t579.length : Int) := of_decide_eq_true (by first | (with_reducible assumption) | assumption)
                   obtain ⟨ad616, e616, hx616_0⟩ := Kd.at_int (Kd.R_reads' HO_228.out).2.2 x230_6 p616 q616
                   obtain rfl : ad615 = ad616 := (by injection e616)
                   replace p616 := eq_true p616
                   replace q616 := eq_true q616
                   obtain ⟨Ao106, co106, eo106⟩ := Kd.R_slice HO_24.out
                   subst eo106
                   have p617 : 0 ≤ (x223_5 : Int) := of_decide_eq_true (by first | (with_reducible assumption) | assumption)
                   have q617 : x223_5 < (x24_6.length : Int) := of_decide_eq_true (by first | (with_reducible assumption) | assumption)
                   obtain ⟨ad617, e617, hx617_0⟩ := Kd.at_int (Kd.R_reads' HO_24.out).2.2 x223_5 p617 q617
                   cases e617
                   replace p617 := eq_true p617
                   replace q617 := eq_true q617
                   have p105 : 0 ≤ (x223_5 : Int) := of_decide_eq_true (by first | (with_reducible assumption) | assumption)
                   have q105 : (x223_5 : Int) < ((x24_6.length : Int) : Int) := of_decide_eq_true (by first | (with_reducible assumption) | assumption)
                   obtain ⟨go105, co105, eo105, gb105, gl105, cl105, HG105⟩ := Kd.R_form HO_24.out (by omega)
                   (first | cases eo105 | (injection eo105 with ea_ en_ ec_; (first | subst ea_ | (injection ea_ with ea_; subst ea_)); subst ec_; clear en_))
                   have GB105 := Aside0.mk gb105
                   have GG105 := Aside0.mk HG105
                   clear gb105 gl105 HG105
                   (first | simp only [add_plain] at hx617_0 | skip)
                   obtain ⟨hx105_0, hf105_0⟩ := Kd.R_celln 0 HO_24.out (x223_5 : Int) p105 q105
                   replace p105 := eq_true p105
                   replace q105 := eq_true q105
                   have HP107 := Kd.R_putg HO_24.out (x223_5 : Int) (wrap64 ((rd x24_6 x223_5) + 1))
                   go_wp2_with (first | ((with_reducible refine gate_store (t := 3) (p := 242) rfl ?_); refine store_event (t := 3) (p := 242) (v := ?vo_w108) (w1 := (wr.setCell ⟨go105, (x223_5 : Int).toNat, none⟩ (.int .i64 (wrap64 ((rd x24_6 x223_5) + 1))))) ?hg ?ho ?hn ?hr ?_; (case ho => rfl); (case hg => rfl); (case hn => rfl); (case hr => first | (go_simp; done) | (go_simp; rfl)); intro w108 hw; have hg : wr.grownBy w108 (some go105) := (by rw [hw]; exact HP107.2); have hp_ : Kd.R (Kd.int .i64) 3 w108 w.heap.size (fun k_ => some k_ ≠ (.slice (some ad615) t579.length co14 : Value).ownBlock ∧ some k_ ≠ (.slice (some ad615) t579.length co14 : Value).ownBlock ∧ some k_ ≠ (.slice (some ad615) t579.length co14 : Value).ownBlock) (.slice (some ⟨go105, 0, none⟩) x24_6.length co106) y618 := (by rw [hw, Ny618.out]; exact HP107.1); clear HP107; have n0_ := Aside0.mk (Kd.R_after (v := (.slice (some ⟨go105, 0, none⟩) x24_6.length co106)) (v1 := (.slice (some ⟨go105, 0, none⟩) x24_6.length co106)) (ok := (fun _ => True)) (by (with_reducible repeat (first | apply Kd.R_alloc | apply Kd.R_drewN | apply Kd.R_drew)); exact Kd.R_mono HO_5.out (fun _ hk => ⟨trivial, hk⟩)) hg (.inl rfl)); have n1_ := Aside0.mk (Kd.S_after (v := (.slice (some ⟨go105, 0, none⟩) x24_6.length co106)) (v1 := (.slice (some ⟨go105, 0, none⟩) x24_6.length co106)) (ok := (fun k_ => some k_ ≠ (.slice (some ad615) t579.length co14 : Value).ownBlock ∧ some k_ ≠ (.slice (some ad615) t579.length co14 : Value).ownBlock ∧ some k_ ≠ (.slice (some ad615) t579.length co14 : Value).ownBlock)) (by (with_reducible repeat (first | apply Kd.S_alloc | apply Kd.S_drewN | apply Kd.S_drew)); exact Kd.S_mono HO_6.out (fun _ hk => ⟨⟨hk.1, ⟨hk.2.2.1, hk.2.2.2⟩⟩, hk.2.1⟩)) hg (.inl rfl)); have n2_ := Aside0.mk (hp_); have n3_ := Aside0.mk (Kd.R_after (v := (.slice (some ⟨go105, 0, none⟩) x24_6.length co106)) (v1 := (.slice (some ⟨go105, 0, none⟩) x24_6.length co106)) (ok := (fun _ => True)) (by (with_reducible repeat (first | apply Kd.R_alloc | apply Kd.R_drewN | apply Kd.R_drew)); exact Kd.R_mono HO_221.out (fun _ hk => ⟨trivial, hk⟩)) hg (.inl rfl)); have n4_ := Aside0.mk (Kd.R_after (v := (.slice (some ⟨go105, 0, none⟩) x24_6.length co106)) (v1 := (.slice (some ⟨go105, 0, none⟩) x24_6.length co106)) (ok := (fun _ => True)) (by (with_reducible repeat (first | apply Kd.R_alloc | apply Kd.R_drewN | apply Kd.R_drew)); exact Kd.R_mono HO_228.out (fun _ hk => ⟨trivial, hk⟩)) hg (.inl rfl)); have n5_ := Aside0.mk ((by rw [hw]; exact below_set (HB.out) GB105.out : Below w.heap.size w w108)); clear HO_5; clear HO_6; clear HO_24; clear HO_221; clear HO_228; clear HB; have HO_5 := n0_; have HO_6 := n1_; have HO_24 := n2_; have HO_221 := n3_; have HO_228 := n4_; have HB := n5_; clear n0_ n1_ n2_ n3_ n4_ n5_; clear hg hw hp_))
                   go_roundg k6
                   case measure => have := HJ11.out; have := HJ44.out; have := HK3.out; have := HJ85.out; have := HK5.out; have := HK6.out; omega
                   case rel => exact ⟨(y618), (wrap64 (x230_6 + 1)), (by first | rfl | (simp; done) | (simp [*]; done)), H', ⟨by have := HJ11.out; have := HJ44.out; have := HK3.out; have := HJ85.out; have := HK5.out; have := HK6.out; omega⟩, ⟨by (with_reducible repeat (first | apply Kd.R_alloc | apply Kd.R_drewN | apply Kd.R_drew)); exact Kd.R_mono HO_5.out (fun _ hk => hk.2)⟩, ⟨by (with_reducible repeat (first | apply Kd.S_alloc | apply Kd.S_drewN | apply Kd.S_drew)); exact Kd.S_mono HO_6.out (fun _ hk => ⟨hk.1.1, ⟨hk.2, ⟨hk.1.2.1, hk.1.2.2⟩⟩⟩)⟩, ⟨by (with_reducible repeat (first | apply Kd.R_alloc | apply Kd.R_drewN | apply Kd.R_drew)); exact HO_24.out⟩, ⟨by (with_reducible repeat (first | apply Kd.R_alloc | apply Kd.R_drewN | apply Kd.R_drew)); exact Kd.R_mono HO_221.out (fun _ hk => hk.2)⟩, ⟨by (with_reducible repeat (first | apply Kd.R_alloc | apply Kd.R_drewN | apply Kd.R_drew)); exact Kd.R_mono HO_228.out (fun _ hk => hk.2)⟩, ⟨by repeat (first | (with_reducible first | exact HB.out | apply below_alloc | apply pw_below_drewN | apply below_drew1) | exact HB.out)⟩⟩
                  ·as_aux_lemma =>
                   rw [if_neg c104] at H
                   exact absurd H (by simp)
                 ·as_aux_lemma =>
                  rw [if_neg c103] at H
                  exact absurd H (by simp)
                ·as_aux_lemma =>
                 rw [if_neg c102] at H
                 have c102b0 : decide ((rd t579 x230_6) < (rd t579 x223_5)) = false := decide_eq_false c102
                 clear c102
                 have H' := Aside0.mk H
                 clear H
                 have p616 : 0 ≤ (x230_6 : Int) := of_decide_eq_true (by first | (with_reducible assumption) | assumption)
                 have q616 : x230_6 < (t579.length : Int) := of_decide_eq_true (by first | (with_reducible assumption) | assumption)
                 obtain ⟨ad616, e616, hx616_0⟩ := Kd.at_int (Kd.R_reads' HO_228.out).2.2 x230_6 p616 q616
                 obtain rfl : ad615 = ad616 := (by injection e616)
                 replace p616 := eq_true p616
                 replace q616 := eq_true q616
                 go_wp2
                 go_roundg k6
                 case measure => have := HJ11.out; have := HJ44.out; have := HK3.out; have := HJ85.out; have := HK5.out; have := HK6.out; omega
                 case rel => exact ⟨(x24_6), (wrap64 (x230_6 + 1)), (by first | rfl | (simp; done) | (simp [*]; done)), H', ⟨by have := HJ11.out; have := HJ44.out; have := HK3.out; have := HJ85.out; have := HK5.out; have := HK6.out; omega⟩, ⟨by (with_reducible repeat (first | apply Kd.R_alloc | apply Kd.R_drewN | apply Kd.R_drew)); exact HO_5.out⟩, ⟨by (with_reducible repeat (first | apply Kd.S_alloc | apply Kd.S_drewN | apply Kd.S_drew)); exact HO_6.out⟩, ⟨by (with_reducible repeat (first | apply Kd.R_alloc | apply Kd.R_drewN | apply Kd.R_drew)); exact HO_24.out⟩, ⟨by (with_reducible repeat (first | apply Kd.R_alloc | apply Kd.R_drewN | apply Kd.R_drew)); exact HO_221.out⟩, ⟨by (with_reducible repeat (first | apply Kd.R_alloc | apply Kd.R_drewN | apply Kd.R_drew)); exact HO_228.out⟩, ⟨by repeat (first | (with_reducible first | exact HB.out | apply below_alloc | apply pw_below_drewN | apply below_drew1) | exact HB.out)⟩⟩
               ·as_aux_lemma =>
                rw [if_neg c101] at H
                exact absurd H (by simp)
              ·as_aux_lemma =>
               rw [if_neg c100] at H
               exact absurd H (by simp)
             ·as_aux_lemma =>
              rw [if_neg c99] at H
              have c99b0 : decide (x230_6 < (t579.length : Int)) = false := decide_eq_false c99
              clear c99
              have H' := Aside0.mk H
              clear H
              go_wp2
              go_roundg k6
              case measure => have := HJ11.out; have := HJ44.out; have := HK3.out; have := HJ85.out; have := HK5.out; have := HK6.out; omega
              case rel => exact ⟨(x24_6), (wrap64 (x223_5 + 1)), (by first | rfl | (simp; done) | (simp [*]; done)), H', ⟨by have := HJ11.out; have := HJ44.out; have := HK3.out; have := HJ85.out; have := HK5.out; have := HK6.out; omega⟩, ⟨by (with_reducible repeat (first | apply Kd.R_alloc | apply Kd.R_drewN | apply Kd.R_drew)); exact HO_5.out⟩, ⟨by (with_reducible repeat (first | apply Kd.S_alloc | apply Kd.S_drewN | apply Kd.S_drew)); exact Kd.S_mono HO_6.out (fun _ hk => ⟨hk.1, ⟨hk.2.1, hk.2.2.1⟩⟩)⟩, ⟨by (with_reducible repeat (first | apply Kd.R_alloc | apply Kd.R_drewN | apply Kd.R_drew)); exact Kd.R_mono HO_24.out (fun _ hk => ⟨hk.1, hk.2.1⟩)⟩, ⟨by (with_reducible repeat (first | apply Kd.R_alloc | apply Kd.R_drewN | apply Kd.R_drew)); exact HO_221.out⟩, ⟨by repeat (first | (with_reducible first | exact HB.out | apply below_alloc | apply pw_below_drewN | apply below_drew1) | exact HB.out)⟩⟩
          ·as_aux_lemma =>
           rw [if_neg c98] at H
           exact absurd H (by simp)
         ·as_aux_lemma =>
          rw [if_neg c97] at H
          exact absurd H (by simp)
        ·as_aux_lemma =>
         rw [if_neg c96] at H
         have c96b0 : decide (x223_5 < (t579.length : Int)) = false := decide_eq_false c96
         clear c96
         replace H := Option.bind_eq_some_iff.mp H
         obtain ⟨⟨t619, t620⟩, A1090, H⟩ := H
         replace H : ((impl_BothWays.f k5 x24_5).bind fun bt623 => (if t620 = true then ((laws_zRows.f k5 t619 t582).bind fun t625 => (if t625 = true then (if bt623.2 = true then (laws_FnRoundsEnd.j9 k5 t579 t590 t594 (bt623.1 != t594)) else (laws_FnRoundsEnd.j9 k5 t579 t590 t594 true)) else (laws_FnRoundsEnd.j9 k5 t579 t590 t594 true))) else (laws_FnRoundsEnd.j9 k5 t579 t590 t594 true))) = some r := H
         have A109 := Aside0.mk A1090
         clear A1090
         replace H := Option.bind_eq_some_iff.mp H
         obtain ⟨⟨t623, t624⟩, A1100, H⟩ := H
         replace H : (if t620 = true then ((laws_zRows.f k5 t619 t582).bind fun t625 => (if t625 = true then (if t624 = true then (laws_FnRoundsEnd.j9 k5 t579 t590 t594 (t623 != t594)) else (laws_FnRoundsEnd.j9 k5 t579 t590 t594 true)) else (laws_FnRoundsEnd.j9 k5 t579 t590 t594 true))) else (laws_FnRoundsEnd.j9 k5 t579 t590 t594 true)) = some r := H
         have A110 := Aside0.mk A1100
         clear A1100
         have HC111 := Aside0.mk H
         clear H
         obtain ⟨Ao112, co112, eo112⟩ := Kd.R_slice HO_24.out
         subst eo112
         go_upto_region 43 with (first | ((with_reducible refine gate_callee (f := 38) rfl ?_); refine goesL_ (some 247) rfl rfl Try.func38 (by kernel_rfl) rfl #[.slice Ao112 x24_5.length co112] rfl (by (try simp only [List.map_toArray, List.map_cons, List.map_nil]); first | done | rfl | (simp only [List.length_drop, List.length_take]; rfl)) ?_; (with_reducible refine (impl_SurvivorsOf.calls k5 _ _ x24_5 t619 t620 _ ?side1 ?side2 A109.out).mono ?_); (case side1 => repeat (first | exact (Kd.R_reads' HO_24.out).2.2 | (with_reducible refine Kd.C_alloc ?_ _) | (with_reducible refine Kd.C_drewN ?_ _) | (with_reducible refine Kd.C_drew ?_))); (case side2 => exact (Kd.R_reads' HO_24.out).2.1); rintro e w113 ⟨v621, rfl, ho0, hb⟩; refine ⟨_, rfl, ?_⟩; have n0_ := Aside0.mk (Kd.R_below (by (with_reducible repeat (first | apply Kd.R_alloc | apply Kd.R_drewN | apply Kd.R_drew)); exact HO_5.out) hb); have n1_ := Aside0.mk (Kd.S_elder' (by (with_reducible repeat (first | apply Kd.S_alloc | apply Kd.S_drewN | apply Kd.S_drew)); exact HO_6.out) (Kd.S_base ho0) hb); have n2_ := Aside0.mk (Kd.R_below (by (with_reducible repeat (first | apply Kd.R_alloc | apply Kd.R_drewN | apply Kd.R_drew)); exact HO_24.out) hb); have n3_ := Aside0.mk (Kd.R_below (by (with_reducible repeat (first | apply Kd.R_alloc | apply Kd.R_drewN | apply Kd.R_drew)); exact HO_221.out) hb); have n4_ := Aside0.mk (Kd.S_lower (Kd.S_new' (Kd.S_new' (Kd.S_new' (Kd.S_new' ho0 (Kd.R_lt (by (with_reducible repeat (first | apply Kd.R_alloc | apply Kd.R_drewN | apply Kd.R_drew)); exact HO_5.out))) (Kd.S_lt (by (with_reducible repeat (first | apply Kd.S_alloc | apply Kd.S_drewN | apply Kd.S_drew)); exact HO_6.out))) (Kd.R_lt (by (with_reducible repeat (first | apply Kd.R_alloc | apply Kd.R_drewN | apply Kd.R_drew)); exact HO_24.out))) (Kd.R_lt (by (with_reducible repeat (first | apply Kd.R_alloc | apply Kd.R_drewN | apply Kd.R_drew)); exact HO_221.out))) (below_size (by repeat (first | (with_reducible first | exact HB.out | apply below_alloc | apply pw_below_drewN | apply below_drew1) | exact HB.out)))); have n5_ := Aside0.mk (below_step (by repeat (first | (with_reducible first | exact HB.out | apply below_alloc | apply pw_below_drewN | apply below_drew1) | exact HB.out)) hb); clear HO_5; clear HO_6; clear HO_24; clear HO_221; clear HB; have HO_5 := n0_; have HO_6 := n1_; have HO_24 := n2_; have HO_221 := n3_; have HO622 := n4_; have HB := n5_; clear n0_ n1_ n2_ n3_ n4_ n5_; (try clear hb); (try clear hb2); (try clear hk); (try clear hi); (try clear ho0)) | ((with_reducible refine gate_callee (f := 36) rfl ?_); refine goesL_ (some 252) rfl rfl Try.func36 (by kernel_rfl) rfl #[.slice Ao112 x24_5.length co112] rfl (by (try simp only [List.map_toArray, List.map_cons, List.map_nil]); first | done | rfl | (simp only [List.length_drop, List.length_take]; rfl)) ?_; (with_reducible refine (impl_BothWays.calls k5 _ _ x24_5 t623 t624 _ ?side1 ?side2 A110.out).mono ?_); (case side1 => repeat (first | exact (Kd.R_reads' HO_24.out).2.2 | (with_reducible refine Kd.C_alloc ?_ _) | (with_reducible refine Kd.C_drewN ?_ _) | (with_reducible refine Kd.C_drew ?_))); (case side2 => exact (Kd.R_reads' HO_24.out).2.1); rintro e w114 ⟨rfl, hb⟩; refine ⟨_, rfl, ?_⟩; have n0_ := Aside0.mk (Kd.R_below (by (with_reducible repeat (first | apply Kd.R_alloc | apply Kd.R_drewN | apply Kd.R_drew)); exact HO_5.out) hb); have n1_ := Aside0.mk (Kd.S_below (by (with_reducible repeat (first | apply Kd.S_alloc | apply Kd.S_drewN | apply Kd.S_drew)); exact HO_6.out) hb); have n2_ := Aside0.mk (Kd.R_below (by (with_reducible repeat (first | apply Kd.R_alloc | apply Kd.R_drewN | apply Kd.R_drew)); exact HO_24.out) hb); have n3_ := Aside0.mk (Kd.R_below (by (with_reducible repeat (first | apply Kd.R_alloc | apply Kd.R_drewN | apply Kd.R_drew)); exact HO_221.out) hb); have n4_ := Aside0.mk (Kd.S_below (by (with_reducible repeat (first | apply Kd.S_alloc | apply Kd.S_drewN | apply Kd.S_drew)); exact HO622.out) hb); have n5_ := Aside0.mk (below_step (by repeat (first | (with_reducible first | exact HB.out | apply below_alloc | apply pw_below_drewN | apply below_drew1) | exact HB.out)) hb); clear HO_5; clear HO_6; clear HO_24; clear HO_221; clear HO622; clear HB; have HO_5 := n0_; have HO_6 := n1_; have HO_24 := n2_; have HO_221 := n3_; have HO622 := n4_; have HB := n5_; clear n0_ n1_ n2_ n3_ n4_ n5_; (try clear hb); (try clear hb2); (try clear hk); (try clear hi)))
         (try simp only [Act.put, List.setIfInBounds_toArray, List.set_cons_zero, List.set_cons_succ])
         go_cut [271] (fun v271 wc => ∃ (kq : Nat) (x271_110 : Bool), v271 = .bool x271_110 ∧ Aside0 (laws_FnRoundsEnd.j9 kq t579 t590 t594 x271_110 = some r) ∧ Aside0 (kq ≤ k5) ∧ Aside0 (Kd.R (Kd.int .i64) 3 wc w.heap.size (fun _ => True) (.slice Ao14 t579.length co14) t579) ∧ Aside0 (Below w.heap.size w wc))
         case first => as_aux_lemma =>
          have H := HC111.out
          clear HC111
          by_cases c115 : t620 = true
          ·as_aux_lemma =>
           subst c115
           have H1 : ((laws_zRows.f k5 t619 t582).bind fun t625 => (if t625 = true then (if t624 = true then (laws_FnRoundsEnd.j9 k5 t579 t590 t594 (t623 != t594)) else (laws_FnRoundsEnd.j9 k5 t579 t590 t594 true)) else (laws_FnRoundsEnd.j9 k5 t579 t590 t594 true))) = some r := by rw [if_pos rfl] at H; exact H
           clear H
           have H := H1
           clear H1
           replace H := Option.bind_eq_some_iff.mp H
           obtain ⟨t625, A1160, H⟩ := H
           replace H : (if t625 = true then (if t624 = true then (laws_FnRoundsEnd.j9 k5 t579 t590 t594 (t623 != t594)) else (laws_FnRoundsEnd.j9 k5 t579 t590 t594 true)) else (laws_FnRoundsEnd.j9 k5 t579 t590 t594 true)) = some r := H
           have A116 := Aside0.mk A1160
           clear A1160
           by_cases c117 : t625 = true
           ·as_aux_lemma =>
            subst c117
            have H1 : (if t624 = true then (laws_FnRoundsEnd.j9 k5 t579 t590 t594 (t623 != t594)) else (laws_FnRoundsEnd.j9 k5 t579 t590 t594 true)) = some r := by rw [if_pos rfl] at H; exact H
            clear H
            have H := H1
            clear H1
            by_cases c118 : t624 = true
            ·as_aux_lemma =>
             subst c118
             have H1 : (laws_FnRoundsEnd.j9 k5 t579 t590 t594 (t623 != t594)) = some r := by rw [if_pos rfl] at H; exact H
             clear H
             have H := H1
             clear H1
             have H' := Aside0.mk H
             clear H
             obtain ⟨Ao119, co119, eo119⟩ := Kd.S_slice HO622.out
             subst eo119
             go_wp2_with (first | (go_at_call 44; (with_reducible refine (laws_zRows.calls k5 _ _ t619 _ _ t582 true _ ?side1 ?side2 ?side3 ?side4 A116.out).mono ?_); (case side1 => repeat (first | exact (Kd.S_reads' HO622.out).2.2 | (with_reducible refine Kd.C_alloc ?_ _) | (with_reducible refine Kd.C_drewN ?_ _) | (with_reducible refine Kd.C_drew ?_))); (case side2 => exact (Kd.S_reads' HO622.out).2.1); (case side3 => repeat (first | exact (Kd.S_reads' HO_6.out).2.2 | (with_reducible refine Kd.C_alloc ?_ _) | (with_reducible refine Kd.C_drewN ?_ _) | (with_reducible refine Kd.C_drew ?_))); (case side4 => exact (Kd.S_reads' HO_6.out).2.1); rintro e w' ⟨rfl, ⟨nd, rfl⟩⟩))
             go_meet
             case rel => exact ⟨_, ((t623 != t594)), (by first | rfl | (simp; done) | (simp [*]; done)), H', ⟨by have := HJ11.out; have := HJ44.out; have := HK3.out; have := HJ85.out; have := HK5.out; first | omega | exact Nat.le_refl _⟩, ⟨by (with_reducible repeat (first | apply Kd.R_alloc | apply Kd.R_drewN | apply Kd.R_drew)); exact Kd.R_mono HO_5.out (fun _ hk => trivial)⟩, ⟨by repeat (first | (with_reducible first | exact HB.out | apply below_alloc | apply pw_below_drewN | apply below_drew1) | exact HB.out)⟩⟩
            ·as_aux_lemma =>
             replace c118 := Bool.eq_false_iff.mpr c118
             subst c118
             have H1 : (laws_FnRoundsEnd.j9 k5 t579 t590 t594 true) = some r := by rw [if_neg (show ¬ (false = true) by decide)] at H; exact H
             clear H
             have H := H1
             clear H1
             have H' := Aside0.mk H
             clear H
             obtain ⟨Ao120, co120, eo120⟩ := Kd.S_slice HO622.out
             subst eo120
             go_wp2_with (first | (go_at_call 44; (with_reducible refine (laws_zRows.calls k5 _ _ t619 _ _ t582 true _ ?side1 ?side2 ?side3 ?side4 A116.out).mono ?_); (case side1 => repeat (first | exact (Kd.S_reads' HO622.out).2.2 | (with_reducible refine Kd.C_alloc ?_ _) | (with_reducible refine Kd.C_drewN ?_ _) | (with_reducible refine Kd.C_drew ?_))); (case side2 => exact (Kd.S_reads' HO622.out).2.1); (case side3 => repeat (first | exact (Kd.S_reads' HO_6.out).2.2 | (with_reducible refine Kd.C_alloc ?_ _) | (with_reducible refine Kd.C_drewN ?_ _) | (with_reducible refine Kd.C_drew ?_))); (case side4 => exact (Kd.S_reads' HO_6.out).2.1); rintro e w' ⟨rfl, ⟨nd, rfl⟩⟩))
             go_meet
             case rel => exact ⟨_, (true), (by first | rfl | (simp; done) | (simp [*]; done)), H', ⟨by have := HJ11.out; have := HJ44.out; have := HK3.out; have := HJ85.out; have := HK5.out; first | omega | exact Nat.le_refl _⟩, ⟨by (with_reducible repeat (first | apply Kd.R_alloc | apply Kd.R_drewN | apply Kd.R_drew)); exact Kd.R_mono HO_5.out (fun _ hk => trivial)⟩, ⟨by repeat (first | (with_reducible first | exact HB.out | apply below_alloc | apply pw_below_drewN | apply below_drew1) | exact HB.out)⟩⟩
           ·as_aux_lemma =>
            replace c117 := Bool.eq_false_iff.mpr c117
            subst c117
            have H1 : (laws_FnRoundsEnd.j9 k5 t579 t590 t594 true) = some r := by rw [if_neg (show ¬ (false = true) by decide)] at H; exact H
            clear H
            have H := H1
            clear H1
            have H' := Aside0.mk H
            clear H
            obtain ⟨Ao121, co121, eo121⟩ := Kd.S_slice HO622.out
            subst eo121
            go_wp2_with (first | (go_at_call 44; (with_reducible refine (laws_zRows.calls k5 _ _ t619 _ _ t582 false _ ?side1 ?side2 ?side3 ?side4 A116.out).mono ?_); (case side1 => repeat (first | exact (Kd.S_reads' HO622.out).2.2 | (with_reducible refine Kd.C_alloc ?_ _) | (with_reducible refine Kd.C_drewN ?_ _) | (with_reducible refine Kd.C_drew ?_))); (case side2 => exact (Kd.S_reads' HO622.out).2.1); (case side3 => repeat (first | exact (Kd.S_reads' HO_6.out).2.2 | (with_reducible refine Kd.C_alloc ?_ _) | (with_reducible refine Kd.C_drewN ?_ _) | (with_reducible refine Kd.C_drew ?_))); (case side4 => exact (Kd.S_reads' HO_6.out).2.1); rintro e w' ⟨rfl, ⟨nd, rfl⟩⟩))
            go_meet
            case rel => exact ⟨_, (true), (by first | rfl | (simp; done) | (simp [*]; done)), H', ⟨by have := HJ11.out; have := HJ44.out; have := HK3.out; have := HJ85.out; have := HK5.out; first | omega | exact Nat.le_refl _⟩, ⟨by (with_reducible repeat (first | apply Kd.R_alloc | apply Kd.R_drewN | apply Kd.R_drew)); exact Kd.R_mono HO_5.out (fun _ hk => trivial)⟩, ⟨by repeat (first | (with_reducible first | exact HB.out | apply below_alloc | apply pw_below_drewN | apply below_drew1) | exact HB.out)⟩⟩
          ·as_aux_lemma =>
           replace c115 := Bool.eq_false_iff.mpr c115
           subst c115
           have H1 : (laws_FnRoundsEnd.j9 k5 t579 t590 t594 true) = some r := by rw [if_neg (show ¬ (false = true) by decide)] at H; exact H
           clear H
           have H := H1
           clear H1
           have H' := Aside0.mk H
           clear H
           go_wp2
           go_meet
           case rel => exact ⟨_, (true), (by first | rfl | (simp; done) | (simp [*]; done)), H', ⟨by have := HJ11.out; have := HJ44.out; have := HK3.out; have := HJ85.out; have := HK5.out; first | omega | exact Nat.le_refl _⟩, ⟨by (with_reducible repeat (first | apply Kd.R_alloc | apply Kd.R_drewN | apply Kd.R_drew)); exact Kd.R_mono HO_5.out (fun _ hk => trivial)⟩, ⟨by repeat (first | (with_reducible first | exact HB.out | apply below_alloc | apply pw_below_drewN | apply below_drew1) | exact HB.out)⟩⟩
         case rest => as_aux_lemma =>
          go_step
          exact laws_FnRoundsEnd.pc_j9 HJ11 (by assumption) HJ44 HK3 HJ85 HK5 (by assumption) hcut rfl rfl rfl
     ·as_aux_lemma =>
      rw [if_neg c93] at H
      exact absurd H (by simp)
    ·as_aux_lemma =>
     rw [if_neg c92] at H
     exact absurd H (by simp)
end Go.Proofs.Ytbiiklkkfkipeaa.X
