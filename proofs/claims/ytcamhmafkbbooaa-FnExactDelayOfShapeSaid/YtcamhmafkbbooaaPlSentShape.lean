/- Plain lemmas: the program's sending (by a bucket). -/
import Derived.Test.YtcamhmafkbbooaaPlSentDefs
import Derived.Test.YtcamhmafkbbooaaX17
namespace Go.Proofs.Ytcamhmafkbbooaa.X
set_option linter.unusedSimpArgs false
set_option linter.unusedVariables false
open Go.RowKit Go.Proofs.YtcamhmafkbbooaaW.PrintWords
theorem shape_in {r d : Int} {l : List Int} (hr : 1 ≤ r ∧ r ≤ 100) (hd : 1 ≤ d ∧ d ≤ 1000) (h : isTr l = true) (t : Nat) (ht : t < 100) (LF CA V M : Int) (O : List Int) (v : List Int × Int × Int × Bool)
    (hv : Ev (fun k => impl_sentShape.l0 k l LF CA (gn r d l (t + 1)) (dues l (nd l (t + 1))) ((t + 1 : Nat) : Int) V r d O M (dly r d l (t + 1))) v) :
    Ev (fun k => impl_sentShape.l1 k l LF CA (gn r d l (t + 1)) (dues l (nd l (t + 1))) (t : Int) (amt r d l t) (dues l (nd l (t + 1))) ((dues l (nd l (t + 1))).length : Int) 0 V r d O M (dly r d l t)) v := by
  have hlen := dues_len l (nd l (t + 1))
  have hle := nd_le l (t + 1)
  have hl := isTr_len h
  have hg := gn_bound hr hd h (t + 1)
  have ha := amt_bound hr hd h t
  have key := evUp0 (nd l (t + 1)) (fun k (x : Int) (i : Nat) => impl_sentShape.l1 k l LF CA (gn r d l (t + 1)) (dues l (nd l (t + 1))) (t : Int) (amt r d l t) (dues l (nd l (t + 1))) ((dues l (nd l (t + 1))).length : Int) (i : Int) V r d O M x) (fun i x => x = dIn r d l t i (dly r d l t)) v (dly r d l t) rfl
    (by
      intro i x hi hI
      have hp := ps_bound h (i + 1) (by omega)
      have hdb := dIn_bound r d l t (by omega) i (dly r d l t) (dly_bound r d l t (by omega)).1 (dly_bound r d l t (by omega)).2
      have hrd := dues_rd l (nd l (t + 1)) i hi
      refine .inl ⟨dIn r d l t (i + 1) (dly r d l t), rfl, fun h => evNext (fun k => ?_) h⟩
      show impl_sentShape.l1 (k + 1) l LF CA (gn r d l (t + 1)) (dues l (nd l (t + 1))) (t : Int) (amt r d l t) (dues l (nd l (t + 1))) ((dues l (nd l (t + 1))).length : Int) (i : Int) V r d O M x = impl_sentShape.l1 k l LF CA (gn r d l (t + 1)) (dues l (nd l (t + 1))) (t : Int) (amt r d l t) (dues l (nd l (t + 1))) ((dues l (nd l (t + 1))).length : Int) ((i + 1 : Nat) : Int) V r d O M (dIn r d l t (i + 1) (dly r d l t))
      rw [impl_sentShape.l1.eq_2, if_pos (by omega), if_pos (by omega), if_pos (by omega), if_pos (by omega), hrd]
      rw [w64 (x := gn r d l (t + 1) - amt r d l t) (by omega) (by omega), w64 (x := (i : Int) + 1) (by omega) (by omega), w64 (x := (t : Int) - (i : Int)) (by omega) (by omega), mx_max]
      simp only [dIn, goes, ← hI]
      by_cases c1 : rd l (i : Int) > 0
      · rw [if_pos c1]
        by_cases c2 : ps l (i + 1) ≤ gn r d l (t + 1)
        · rw [if_pos c2]
          by_cases c3 : ps l (i + 1) > gn r d l (t + 1) - amt r d l t
          · rw [if_pos c3, if_pos ⟨c1, c2, c3⟩]
            rfl
          · rw [if_neg c3, if_neg (fun h => c3 h.2.2)]
            rfl
        · rw [if_neg c2, if_neg (fun h => c2 h.2.1)]
          rfl
      · rw [if_neg c1, if_neg (fun h => c1 h.1)]
        rfl)
    (by
      intro x hI
      refine evNext (fun k => ?_) hv
      show impl_sentShape.l1 (k + 1) l LF CA (gn r d l (t + 1)) (dues l (nd l (t + 1))) (t : Int) (amt r d l t) (dues l (nd l (t + 1))) ((dues l (nd l (t + 1))).length : Int) ((nd l (t + 1) : Nat) : Int) V r d O M x = _
      rw [impl_sentShape.l1.eq_2, if_neg (by omega), w64 (x := (t : Int) + 1) (by omega) (by omega), hI]
      rfl)
  exact key
theorem shape_ev {r d : Int} {l : List Int} (hr : 1 ≤ r ∧ r ≤ 100) (hd : 1 ≤ d ∧ d ≤ 1000) (h : isTr l = true) :
    Ev (fun k => impl_sentShape.f k l d r d) (match endOf r d l with | some t => (outs r d l t, mst r d l t, dly r d l t, true) | none => ([], 0, 0, false)) := by
  have hl := isTr_len h
  have key := runs r d l (fun k t => impl_sentShape.l0 k l (st r d l t).1 (ps l (nd l t)) (gn r d l t) (dues l (nd l t)) (t : Int) (st r d l t).2 r d (outs r d l t) (mst r d l t) (dly r d l t)) (fun t => (outs r d l t, mst r d l t, dly r d l t, true)) ([], 0, 0, false)
    (by
      intro t ht ho v hv
      have hb := st_bound hr hd h t
      have hc := cm_bound h t
      have hab := amt_bound hr hd h t
      have hg := gn_bound hr hd h t
      have hg1 := gn_bound hr hd h (t + 1)
      have ho1 := outs_len r d l t
      have hss := st_succ r d l t
      have hdl := dues_len l (nd l t)
      have hnl := nd_le l t
      have e3 : (st r d l (t + 1)).1 = (st r d l t).1 + cm l t - amt r d l t := by rw [hss]
      have e4 : (st r d l (t + 1)).2 = min d ((st r d l t).2 - amt r d l t + r) := by rw [hss]
      have e5 : mn ((st r d l t).1 + cm l t) (st r d l t).2 = amt r d l t := by rw [mn_min]; rfl
      have hlt : (outs r d l t).length < 17592186044416 := by omega
      have hlt2 : (dues l (nd l t)).length < 17592186044416 := by omega
      have hpc := ps_cm l t
      have hin := shape_in hr hd h t ht (st r d l (t + 1)).1 (ps l (nd l (t + 1))) (st r d l (t + 1)).2 (mst r d l (t + 1)) (outs r d l (t + 1)) v hv
      have h2 : Ev (fun k => impl_sentShape.j2 k l ((st r d l t).1 + cm l t) (ps l (nd l (t + 1))) (gn r d l t) (dues l (nd l (t + 1))) (t : Int) (st r d l t).2 r d (outs r d l t) (mst r d l t) (dly r d l t)) v := by
        refine evNext (fun k => ?_) hin
        rw [impl_sentShape.j2.eq_2, if_pos hlt, e5]
        rw [w64 (x := (st r d l t).1 + cm l t - amt r d l t) (by omega) (by omega), w64 (x := gn r d l t + amt r d l t) (by omega) (by omega), w64 (x := (st r d l t).2 - amt r d l t) (by omega) (by omega), w64 (x := (st r d l t).2 - amt r d l t + r) (by omega) (by omega), mx_max, mn_min, outs_succ, ← e3, ← e4]
        rw [dues_len]
        rfl
      refine Ev.step (f := fun k => impl_sentShape.j1 k l (st r d l t).1 (ps l (nd l t)) (gn r d l t) (dues l (nd l t)) (t : Int) true (st r d l t).2 r d (outs r d l t) (mst r d l t) (dly r d l t)) (fun k => ?_) (evNext (fun k => ?_) h2)
      · rw [impl_sentShape.l0.eq_2]
        rcases ho with ho | ho
        · rw [if_pos (by omega)]
        · rw [decide_eq_true (by omega)]
          split <;> rfl
      · rw [impl_sentShape.j1.eq_2, if_pos rfl, if_neg (by omega)]
        clear hss hin h2 e3 e4 e5
        by_cases hlt3 : t < l.length
        · have hcm : cm l t = rd l (t : Int) := by unfold cm; rw [if_pos hlt3]
          rw [hcm] at hc hpc ⊢
          have hnd := nd_on hlt3
          have hpb := ps_bound h (nd l t) (nd_le l t)
          have hps : ps l (nd l t + 1) = ps l (nd l t) + rd l (t : Int) := by rw [hnd.2]; rfl
          rw [if_pos (by omega), if_pos (by omega), if_pos hlt2, w64 (x := (st r d l t).1 + rd l (t : Int)) (by omega) (by omega), w64 (x := ps l (nd l t) + rd l (t : Int)) (by omega) (by omega), hnd.1, dues_succ, hps]
        · have hcm : cm l t = 0 := by unfold cm; rw [if_neg hlt3]
          rw [hcm, nd_off hlt3, Int.add_zero, if_neg (by omega)])
    (by
      intro t ht ho
      unfold on at ho
      refine Ev.step (f := fun k => impl_sentShape.j1 k l (st r d l t).1 (ps l (nd l t)) (gn r d l t) (dues l (nd l t)) (t : Int) false (st r d l t).2 r d (outs r d l t) (mst r d l t) (dly r d l t)) (fun k => ?_) (evEnd fun k => ?_)
      · rw [impl_sentShape.l0.eq_2, if_neg (by omega), decide_eq_false (by omega)]
      · rw [impl_sentShape.j1.eq_2, if_neg (by simp)])
    (by
      intro ho
      refine Ev.step (f := fun k => impl_sentShape.j1 k l (st r d l 100).1 (ps l (nd l 100)) (gn r d l 100) (dues l (nd l 100)) ((100 : Nat) : Int) true (st r d l 100).2 r d (outs r d l 100) (mst r d l 100) (dly r d l 100)) (fun k => ?_) (evEnd fun k => ?_)
      · rw [impl_sentShape.l0.eq_2]
        rcases ho with ho | ho
        · rw [if_pos (by omega)]
        · rw [decide_eq_true (by omega)]
          split <;> rfl
      · rw [impl_sentShape.j1.eq_2, if_pos rfl, if_pos (by omega)])
  exact key
end Go.Proofs.Ytcamhmafkbbooaa.X
