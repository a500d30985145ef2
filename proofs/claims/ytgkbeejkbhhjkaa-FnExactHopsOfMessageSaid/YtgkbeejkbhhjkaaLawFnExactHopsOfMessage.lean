/- FnExactHopsOfMessage: for every input the law returns true and its arguments read as before. No condition. Written by this session's program wip/xrow.py, out of the pure statement and the contract. -/
import Derived.Test.YtgkbeejkbhhjkaaRows
import Derived.Test.YtgkbeejkbhhjkaaX5
import Derived.Test.YtgkbeejkbhhjkaaPureFnExactHopsOfMessage
import Derived.Test.YtgkbeejkbhhjkaaRw
import Derived.WalkKit
import Derived.ProofKit
import Derived.OpenShut
import Derived.ShutString
import Derived.ChangeOld
import Derived.Below
import Derived.SizedLaws
import Derived.Lib.SmallJoins
import Derived.Deep.Fields
namespace Go.Proofs.Ytgkbeejkbhhjkaa.fnExactHopsOfMessage
open Go.ChangeShapes Go.WideShapes Go.ChangeAt Go.RowKit Go.Proofs.Ytgkbeejkbhhjkaa.X Go.Proofs.YtgkbeejkbhhjkaaW Go.Proofs.YtgkbeejkbhhjkaaW.PrintWords Go.Proofs.YtgkbeejkbhhjkaaW.PrintLast
open Go.ChangeMaps (open_string shut_string)
set_option linter.unusedVariables false
set_option linter.unusedSimpArgs false
theorem walk (a0_0 : Int) (a0_1 : Bool) (a1_0 : Int) (a1_1 : Int) (a1_2 : Int) (w : World) (w0_0 : (Lit.int .i64 a0_0).wf = true) (w1_0 : (Lit.int .i64 a1_0).wf = true) (w1_1 : (Lit.int .i64 a1_1).wf = true) (w1_2 : (Lit.int .i64 a1_2).wf = true) :
    Calls Try.prog 3 #[.agg #[.int .i64 a0_0, .bool a0_1], .agg #[.int .i64 a1_0, .int .i64 a1_1, .int .i64 a1_2]] w fun e w' => e = .returned (.bool true) ∧ Below w.heap.size w w' := by
  obtain ⟨k, h⟩ := Pure.FnExactHopsOfMessage a0_0 a0_1 a1_0 a1_1 a1_2 w0_0 w1_0 w1_1 w1_2
  refine (laws_FnExactHopsOfMessage.calls k a0_0 a0_1 a1_0 a1_1 a1_2 true w h).mono ?_
  rintro e w' ⟨rfl, hd⟩
  exact ⟨rfl, hd⟩
theorem own : ownKnob Try.prog.godebug = none := by kernel_rfl
theorem cells23 : Try.prog.cellsOf 23 = 2 := by kernel_rfl
theorem cells25 : Try.prog.cellsOf 25 = 3 := by kernel_rfl
set_option maxRecDepth 100000 in
theorem lifted (os : Os) (started : os.Started) (H : Type) (enc : TypeId × Value → H) :
    ReturnsInHanded {} Try.checked os 3 .any (Rows.fnExactHopsOfMessageSpec.pre6 enc Try.prog Try.f3 Rows.fnExactHopsOfMessageRow.domain false) (Rows.fnExactHopsOfMessageSpec.post enc Try.prog Try.f3 false true false false) := by
  refine returnsInHanded_of_change_sized (C := Try.checked) own started (by kernel_rfl) Try.func3
    (ChangeSpec.witness6 (enc := enc) (C := Try.checked) false ⟨#[], #[.agg #[.int .i64 0, .bool false], .agg #[.int .i64 0, .int .i64 0, .int .i64 0]], []⟩ 8 (by kernel_rfl) (by kernel_rfl) (by kernel_rfl) (by kernel_rfl)) ?_
  intro W base args ds gs before hval0 hW hcnd hsz0 _
  have hsz : (DataW.weightsEach Try.prog (Try.f3.params.toList ++ Rows.fnExactHopsOfMessageSpec.plain.varTypes Try.prog) (ds ++ gs)).all (· ≤ reachBytes) = true := hsz0
  have hval : ∀ (j : Nat) t v, Try.f3.params[j]? = some t → args[j]? = some v → Value.okWide Try.prog W .any base t v := hval0
  have hW' := hW
  obtain ⟨p, q, hA0, hV, rfl, hfz, hnd⟩ := hW
  have hA : DataW.TrodAll enc Try.prog W 0 (fun _ => true) true Try.f3.params.toList args.toList ds p := hA0
  rw [Try.params3] at hA hval hsz
  obtain ⟨v0, vs0, d0, ds0, p0, q0, hargs, rfl, rfl, h0, r0⟩ := trodAll_cons hA
  obtain ⟨v1, vs1, d1, ds1, p1, q1, rfl, rfl, rfl, h1, r1⟩ := trodAll_cons r0
  obtain ⟨rfl, rfl, rfl⟩ := trodAll_nil r1
  obtain rfl : args = #[v0, v1] := by cases args; simp_all
  obtain ⟨rfl, rfl⟩ := trodVars_none hV
  obtain ⟨c0_0, c0_1, y0_0, y0_1, m0, rfl, rfl, rfl, hy0_0, hy0_1⟩ := Go.Joins.open_agg2 Try.underlying23 (by kernel_rfl) cells23 (hval 0 23 v0 rfl rfl) h0
  obtain ⟨a0_0, e0_0, x0_0, w0_0⟩ := DataW.trod_int Try.underlying3 hy0_0
  injection e0_0 with e0_0
  subst e0_0 x0_0
  obtain ⟨a0_1, e0_1, x0_1⟩ := DataW.trod_bool Try.underlying4 hy0_1
  injection e0_1 with e0_1
  subst e0_1 x0_1
  obtain ⟨c1_0, c1_1, c1_2, y1_0, y1_1, y1_2, m1, rfl, rfl, rfl, hy1_0, hy1_1, hy1_2⟩ := Go.Joins.open_agg3 Try.underlying25 (by kernel_rfl) cells25 (hval 1 25 v1 rfl rfl) h1
  obtain ⟨a1_0, e1_0, x1_0, w1_0⟩ := DataW.trod_int Try.underlying3 hy1_0
  injection e1_0 with e1_0
  subst e1_0 x1_0
  obtain ⟨a1_1, e1_1, x1_1, w1_1⟩ := DataW.trod_int Try.underlying3 hy1_1
  injection e1_1 with e1_1
  subst e1_1 x1_1
  obtain ⟨a1_2, e1_2, x1_2, w1_2⟩ := DataW.trod_int Try.underlying3 hy1_2
  injection e1_2 with e1_2
  subst e1_2 x1_2
  clear hA0 hval0 hsz0 hsz
  refine (walk a0_0 a0_1 a1_0 a1_1 a1_2 W w0_0 w1_0 w1_1 w1_2).mono fun e W' ⟨he, bel⟩ => ?_
  subst he
  exact ⟨_, rfl, _, _, _, [], _, [], hW', trodAll_mk1 (shut_bool Try.underlying4 _), (trodAll_cons_mk (Go.Joins.shut_agg2 (y0 := (.lit (.int .i64 a0_0), [])) (y1 := (.lit (.bool a0_1), [])) Try.underlying23 (by kernel_rfl) cells23 (Rw.trod_int_mk Try.underlying3 w0_0) (Rw.trod_bool_mk Try.underlying4)) (trodAll_cons_mk (Go.Joins.shut_agg3 (y0 := (.lit (.int .i64 a1_0), [])) (y1 := (.lit (.int .i64 a1_1), [])) (y2 := (.lit (.int .i64 a1_2), [])) Try.underlying25 (by kernel_rfl) cells25 (Rw.trod_int_mk Try.underlying3 w1_0) (Rw.trod_int_mk Try.underlying3 w1_1) (Rw.trod_int_mk Try.underlying3 w1_2)) trodAll_mk0)), rfl, bel.frame _, fun h => by cases h⟩
theorem over : Rows.fnExactHopsOfMessageRow.holds Try.pinned (OpenSpec.ofChange Rows.fnExactHopsOfMessageSpec) :=
  OpenClaim.holds_of_wide 3 Try.f3 rfl rfl rfl rfl rfl rfl rfl ⟨rfl, rfl, rfl, rfl, rfl⟩ rfl rfl rfl rfl rfl (by kernel_rfl) Try.func3 (by kernel_rfl)
    (of_decide_eq_true (by kernel_rfl)) (by unfold Func.isWrapper; first | (rw [if_pos (by decide +kernel)]; kernel_rfl) | (rw [if_neg (by decide +kernel)]; exact ⟨rfl, rfl⟩))
    (fun os started H enc _ => lifted os started H enc)
theorem proved : Rows.FnExactHopsOfMessageSaid := over
end Go.Proofs.Ytgkbeejkbhhjkaa.fnExactHopsOfMessage
namespace Go.Proofs.Ytgkbeejkbhhjkaa
/-- The row, under a short name, for the claim. -/
theorem fnExactHopsOfMessage_holds : Rows.FnExactHopsOfMessageSaid := fnExactHopsOfMessage.proved
end Go.Proofs.Ytgkbeejkbhhjkaa
