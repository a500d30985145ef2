/- Several texts of this session in one: X490. -/
import Derived.Test.YtbiiklkkfkipeaaMFnElectionsEnd0
import Derived.Test.YtbiiklkkfkipeaaMFnElectionsEnd1
/- What the functions of the program come to, and that they do: written by this session's program wip/xprint.py out of the translation; parts named extern are typed by hand. -/
namespace Go.Proofs.Ytbiiklkkfkipeaa.X
open Go.RowKit Go.Proofs.YtbiiklkkfkipeaaW.PrintWords Go.Proofs.YtbiiklkkfkipeaaW.PrintLast Go.Proofs.YtbiiklkkfkipeaaW.PrintMore
attribute [local go_sem] max2_int min2_int max_two min_two max_three min_three max_four min_four   -- for this text's walks alone
set_option linter.unusedVariables false
set_option linter.unusedSimpArgs false

/-! ### laws_FnElectionsEnd: function 14 -/
mutual
def laws_FnElectionsEnd.j0 : Nat → List Int → List Int → List Int → Bool → Int → Int → Bool → Option (Bool)
  | 0, _, _, _, _, _, _, _ => none
  | k + 1, x1, x5, x6, x7, x10, x12, x123 => if x123 = true then (some false) else (if x7 = true then (laws_FnElectionsEnd.l0 k x1 x5 x10 x12 (x5.length : Int) x6 (x6.length : Int) 0) else (laws_FnElectionsEnd.j5 k x1))
def laws_FnElectionsEnd.j5 : Nat → List Int → Option (Bool)
  | 0, _ => none
  | k + 1, x1 => (spec_DrawWorstNames.f x1).bind fun t675 => ((impl_WorstNames.f k t675).bind fun bt676 => ((spec_WorstNames.f k t675).bind fun bt680 => ((impl_BestNames.f k t675).bind fun bt684 => ((spec_BestNames.f k t675).bind fun bt688 => (if (bt676.2 != bt680.2) = true then (laws_FnElectionsEnd.j6 k x1 t675 bt676.1 bt676.2 bt684.1 true) else ((laws_zSame.f k bt676.1 bt680.1).bind fun t692 => (if t692 = true then (if (bt684.2 != bt688.2) = true then (laws_FnElectionsEnd.j6 k x1 t675 bt676.1 bt676.2 bt684.1 true) else ((laws_zSame.f k bt684.1 bt688.1).bind fun t693 => (laws_FnElectionsEnd.j6 k x1 t675 bt676.1 bt676.2 bt684.1 (!t693)))) else (laws_FnElectionsEnd.j6 k x1 t675 bt676.1 bt676.2 bt684.1 true))))))))
def laws_FnElectionsEnd.j6 : Nat → List Int → Int → List Int → Bool → List Int → Bool → Option (Bool)
  | 0, _, _, _, _, _, _ => none
  | k + 1, x1, x20, x21, x22, x25, x244 => if x244 = true then (some false) else (if x22 = true then ((impl_SimpleMessages.f k x21).bind fun bt694 => ((impl_SimpleMessages.f k x25).bind fun bt696 => (if bt694.2 = true then (if bt694.1 = (wrap64 (Int.tdiv (wrap64 (x20 * (wrap64 (x20 + 1)))) 2)) then (if bt696.2 = true then (if bt696.1 = (wrap64 ((wrap64 (2 * x20)) - 1)) then (laws_FnElectionsEnd.j7 k x1) else (some false)) else (some false)) else (some false)) else (some false)))) else (laws_FnElectionsEnd.j7 k x1))
def laws_FnElectionsEnd.j7 : Nat → List Int → Option (Bool)
  | 0, _ => none
  | k + 1, x1 => (spec_DrawSumOfMessages.f x1).bind fun t698 => ((impl_SumOfMessages.f k t698).bind fun bt699 => ((spec_SumOfMessages.f k t698).bind fun bt701 => (if (bt699.2 != bt701.2) = true then (laws_FnElectionsEnd.j8 k t698 bt699.1 bt699.2 true) else (laws_FnElectionsEnd.j8 k t698 bt699.1 bt699.2 (bt699.1 != bt701.1)))))
def laws_FnElectionsEnd.j8 : Nat → Int → Int → Bool → Bool → Option (Bool)
  | 0, _, _, _, _ => none
  | k + 1, x33, x34, x35, x297 => if x297 = true then (some false) else (if x35 = true then (laws_FnElectionsEnd.j9 k x33 x34 (decide (x33 ≤ 4))) else (laws_FnElectionsEnd.j9 k x33 x34 false))
def laws_FnElectionsEnd.j9 : Nat → Int → Int → Bool → Option (Bool)
  | 0, _, _, _ => none
  | k + 1, x33, x34, x302 => if x302 = true then (laws_FnElectionsEnd.l2 k x33 x34 0 1 0) else (some true)
def laws_FnElectionsEnd.l2 : Nat → Int → Int → Int → Int → Int → Option (Bool)
  | 0, _, _, _, _, _ => none
  | k + 1, x33, x34, x38, x39, x40 => if x40 < x33 then (laws_FnElectionsEnd.l2 k x33 x34 x38 (wrap64 (x39 * x33)) (wrap64 (x40 + 1))) else (laws_FnElectionsEnd.l3 k x33 x34 x38 x39 0)
def laws_FnElectionsEnd.l3 : Nat → Int → Int → Int → Int → Int → Option (Bool)
  | 0, _, _, _, _, _ => none
  | k + 1, x33, x34, x38, x39, x41 => if x41 < x39 then (if 0 ≤ x33 then (if (x33 : Int).toNat ≤ 35184372088832 then ((some (List.replicate (x33 : Int).toNat 0 : List Int)).bind fun y703 => (laws_FnElectionsEnd.l4 k x33 x34 x38 x39 x41 y703 x41 (y703.length : Int) 0)) else (none)) else (none)) else (some (x38 == x34))
def laws_FnElectionsEnd.l4 : Nat → Int → Int → Int → Int → Int → List Int → Int → Int → Int → Option (Bool)
  | 0, _, _, _, _, _, _, _, _, _ => none
  | k + 1, x33, x34, x38, x39, x41, x42, x43, x320, x321 => if x321 < x320 then (if x33 = 0 then (none) else (if 0 ≤ x321 then (if x321 < (x42.length : Int) then (laws_FnElectionsEnd.l4 k x33 x34 x38 x39 x41 (x42.set (x321 : Int).toNat (Int.tmod x43 x33)) (wrap64 (Int.tdiv x43 x33)) x320 (wrap64 (x321 + 1))) else (none)) else (none))) else ((impl_SimpleMessages.f k x42).bind fun bt707 => (if bt707.2 = true then (laws_FnElectionsEnd.l3 k x33 x34 (wrap64 (x38 + bt707.1)) x39 (wrap64 (x41 + 1))) else (laws_FnElectionsEnd.l3 k x33 x34 x38 x39 (wrap64 (x41 + 1)))))
def laws_FnElectionsEnd.l0 : Nat → List Int → List Int → Int → Int → Int → List Int → Int → Int → Option (Bool)
  | 0, _, _, _, _, _, _, _, _ => none
  | k + 1, x1, x5, x10, x12, x16, x127, x128, x129 => if x129 < x128 then (if 0 ≤ x129 then (if x129 < (x127.length : Int) then (if (((rd x127 x129) == x16) != (x129 == x12)) = true then (laws_FnElectionsEnd.j2 k x1 x5 x10 x12 x16 x129 (rd x127 x129) x127 x128 x129 true) else (if (rd x127 x129) < 1 then (laws_FnElectionsEnd.j2 k x1 x5 x10 x12 x16 x129 (rd x127 x129) x127 x128 x129 true) else (if (rd x127 x129) < x16 then (if x16 = 0 then (none) else (if 0 ≤ (Int.tmod (wrap64 (x129 + (rd x127 x129))) x16) then (if (Int.tmod (wrap64 (x129 + (rd x127 x129))) x16) < (x5.length : Int) then (if x129 < (x5.length : Int) then (laws_FnElectionsEnd.j2 k x1 x5 x10 x12 x16 x129 (rd x127 x129) x127 x128 x129 (decide ((rd x5 (Int.tmod (wrap64 (x129 + (rd x127 x129))) x16)) < (rd x5 x129)))) else (none)) else (none)) else (none))) else (laws_FnElectionsEnd.j2 k x1 x5 x10 x12 x16 x129 (rd x127 x129) x127 x128 x129 false)))) else (none)) else (none)) else (if x10 < (wrap64 ((wrap64 (2 * x16)) - 1)) then (some false) else (if x10 > (wrap64 (Int.tdiv (wrap64 (x16 * (wrap64 (x16 + 1)))) 2)) then (some false) else (laws_FnElectionsEnd.j5 k x1)))
def laws_FnElectionsEnd.j2 : Nat → List Int → List Int → Int → Int → Int → Int → Int → List Int → Int → Int → Bool → Option (Bool)
  | 0, _, _, _, _, _, _, _, _, _, _, _ => none
  | k + 1, x1, x5, x10, x12, x16, x17, x18, x127, x128, x129, x164 => if x164 = true then (some false) else (laws_FnElectionsEnd.l1 k x1 x5 x10 x12 x16 x17 x18 1 x127 x128 x129)
def laws_FnElectionsEnd.l1 : Nat → List Int → List Int → Int → Int → Int → Int → Int → Int → List Int → Int → Int → Option (Bool)
  | 0, _, _, _, _, _, _, _, _, _, _, _ => none
  | k + 1, x1, x5, x10, x12, x16, x17, x18, x19, x127, x128, x129 => if x19 < x18 then (laws_FnElectionsEnd.j4 k x1 x5 x10 x12 x16 x17 x18 x19 x127 x128 x129 (decide (x19 < x16))) else (laws_FnElectionsEnd.j4 k x1 x5 x10 x12 x16 x17 x18 x19 x127 x128 x129 false)
def laws_FnElectionsEnd.j4 : Nat → List Int → List Int → Int → Int → Int → Int → Int → Int → List Int → Int → Int → Bool → Option (Bool)
  | 0, _, _, _, _, _, _, _, _, _, _, _, _ => none
  | k + 1, x1, x5, x10, x12, x16, x17, x18, x19, x127, x128, x129, x172 => if x172 = true then (if x16 = 0 then (none) else (if 0 ≤ (Int.tmod (wrap64 (x17 + x19)) x16) then (if (Int.tmod (wrap64 (x17 + x19)) x16) < (x5.length : Int) then (if 0 ≤ x17 then (if x17 < (x5.length : Int) then (if (rd x5 (Int.tmod (wrap64 (x17 + x19)) x16)) > (rd x5 x17) then (some false) else (laws_FnElectionsEnd.l1 k x1 x5 x10 x12 x16 x17 x18 (wrap64 (x19 + 1)) x127 x128 x129)) else (none)) else (none)) else (none)) else (none))) else (laws_FnElectionsEnd.l0 k x1 x5 x10 x12 x16 x127 x128 (wrap64 (x129 + 1)))
end
def laws_FnElectionsEnd.f (k : Nat) (l0 : List Int) (l1 : List Int) : Option (Bool) := (laws_big.f l0 l1).bind fun t648 => (if t648 = true then (some true) else ((spec_DrawPassedOn.f k l0).bind fun t649 => ((impl_PassedOn.f k t649).bind fun bt652 => ((spec_PassedOn.f k t649).bind fun bt656 => ((impl_SimpleMessages.f k t649).bind fun bt660 => ((impl_WinnerOf.f k t649).bind fun bt662 => ((spec_WinnerOf.f k t649).bind fun bt664 => (if (bt652.2 != bt656.2) = true then (laws_FnElectionsEnd.j0 k l1 t649 bt652.1 bt652.2 bt660.1 bt662.1 true) else ((laws_zSame.f k bt652.1 bt656.1).bind fun t666 => (if t666 = true then (if (bt660.2 != bt652.2) = true then (laws_FnElectionsEnd.j0 k l1 t649 bt652.1 bt652.2 bt660.1 bt662.1 true) else ((laws_zSum.f k bt652.1).bind fun t667 => (if bt660.1 = t667 then (if (bt662.2 != bt664.2) = true then (laws_FnElectionsEnd.j0 k l1 t649 bt652.1 bt652.2 bt660.1 bt662.1 true) else (if bt662.1 = bt664.1 then (if (bt662.2 != bt652.2) = true then (laws_FnElectionsEnd.j0 k l1 t649 bt652.1 bt652.2 bt660.1 bt662.1 true) else ((impl_AreNames.f k t649).bind fun t668 => (if (bt652.2 != t668) = true then (laws_FnElectionsEnd.j0 k l1 t649 bt652.1 bt652.2 bt660.1 bt662.1 true) else ((spec_AreNames.f k t649).bind fun t669 => (laws_FnElectionsEnd.j0 k l1 t649 bt652.1 bt652.2 bt660.1 bt662.1 (bt652.2 != t669)))))) else (laws_FnElectionsEnd.j0 k l1 t649 bt652.1 bt652.2 bt660.1 bt662.1 true))) else (laws_FnElectionsEnd.j0 k l1 t649 bt652.1 bt652.2 bt660.1 bt662.1 true)))) else (laws_FnElectionsEnd.j0 k l1 t649 bt652.1 bt652.2 bt660.1 bt662.1 true)))))))))))
theorem laws_FnElectionsEnd.mono_l : ∀ k, (∀ y0 y1 y2 y3 y4 y5 y6, LeO (laws_FnElectionsEnd.j0 k y0 y1 y2 y3 y4 y5 y6) (laws_FnElectionsEnd.j0 (k + 1) y0 y1 y2 y3 y4 y5 y6)) ∧ (∀ y0, LeO (laws_FnElectionsEnd.j5 k y0) (laws_FnElectionsEnd.j5 (k + 1) y0)) ∧ (∀ y0 y1 y2 y3 y4 y5, LeO (laws_FnElectionsEnd.j6 k y0 y1 y2 y3 y4 y5) (laws_FnElectionsEnd.j6 (k + 1) y0 y1 y2 y3 y4 y5)) ∧ (∀ y0, LeO (laws_FnElectionsEnd.j7 k y0) (laws_FnElectionsEnd.j7 (k + 1) y0)) ∧ (∀ y0 y1 y2 y3, LeO (laws_FnElectionsEnd.j8 k y0 y1 y2 y3) (laws_FnElectionsEnd.j8 (k + 1) y0 y1 y2 y3)) ∧ (∀ y0 y1 y2, LeO (laws_FnElectionsEnd.j9 k y0 y1 y2) (laws_FnElectionsEnd.j9 (k + 1) y0 y1 y2)) ∧ (∀ y0 y1 y2 y3 y4, LeO (laws_FnElectionsEnd.l2 k y0 y1 y2 y3 y4) (laws_FnElectionsEnd.l2 (k + 1) y0 y1 y2 y3 y4)) ∧ (∀ y0 y1 y2 y3 y4, LeO (laws_FnElectionsEnd.l3 k y0 y1 y2 y3 y4) (laws_FnElectionsEnd.l3 (k + 1) y0 y1 y2 y3 y4)) ∧ (∀ y0 y1 y2 y3 y4 y5 y6 y7 y8, LeO (laws_FnElectionsEnd.l4 k y0 y1 y2 y3 y4 y5 y6 y7 y8) (laws_FnElectionsEnd.l4 (k + 1) y0 y1 y2 y3 y4 y5 y6 y7 y8)) ∧ (∀ y0 y1 y2 y3 y4 y5 y6 y7, LeO (laws_FnElectionsEnd.l0 k y0 y1 y2 y3 y4 y5 y6 y7) (laws_FnElectionsEnd.l0 (k + 1) y0 y1 y2 y3 y4 y5 y6 y7)) ∧ (∀ y0 y1 y2 y3 y4 y5 y6 y7 y8 y9 y10, LeO (laws_FnElectionsEnd.j2 k y0 y1 y2 y3 y4 y5 y6 y7 y8 y9 y10) (laws_FnElectionsEnd.j2 (k + 1) y0 y1 y2 y3 y4 y5 y6 y7 y8 y9 y10)) ∧ (∀ y0 y1 y2 y3 y4 y5 y6 y7 y8 y9 y10, LeO (laws_FnElectionsEnd.l1 k y0 y1 y2 y3 y4 y5 y6 y7 y8 y9 y10) (laws_FnElectionsEnd.l1 (k + 1) y0 y1 y2 y3 y4 y5 y6 y7 y8 y9 y10)) ∧ (∀ y0 y1 y2 y3 y4 y5 y6 y7 y8 y9 y10 y11, LeO (laws_FnElectionsEnd.j4 k y0 y1 y2 y3 y4 y5 y6 y7 y8 y9 y10 y11) (laws_FnElectionsEnd.j4 (k + 1) y0 y1 y2 y3 y4 y5 y6 y7 y8 y9 y10 y11))
  | 0 => ⟨fun _ _ _ _ _ _ _ r h => by simp [laws_FnElectionsEnd.j0] at h, fun _ r h => by simp [laws_FnElectionsEnd.j5] at h, fun _ _ _ _ _ _ r h => by simp [laws_FnElectionsEnd.j6] at h, fun _ r h => by simp [laws_FnElectionsEnd.j7] at h, fun _ _ _ _ r h => by simp [laws_FnElectionsEnd.j8] at h, fun _ _ _ r h => by simp [laws_FnElectionsEnd.j9] at h, fun _ _ _ _ _ r h => by simp [laws_FnElectionsEnd.l2] at h, fun _ _ _ _ _ r h => by simp [laws_FnElectionsEnd.l3] at h, fun _ _ _ _ _ _ _ _ _ r h => by simp [laws_FnElectionsEnd.l4] at h, fun _ _ _ _ _ _ _ _ r h => by simp [laws_FnElectionsEnd.l0] at h, fun _ _ _ _ _ _ _ _ _ _ _ r h => by simp [laws_FnElectionsEnd.j2] at h, fun _ _ _ _ _ _ _ _ _ _ _ r h => by simp [laws_FnElectionsEnd.l1] at h, fun _ _ _ _ _ _ _ _ _ _ _ _ r h => by simp [laws_FnElectionsEnd.j4] at h⟩
  | k + 1 => by
    obtain ⟨ih0, ih1, ih2, ih3, ih4, ih5, ih6, ih7, ih8, ih9, ih10, ih11, ih12⟩ := laws_FnElectionsEnd.mono_l k
    refine ⟨?_, ?_, ?_, ?_, ?_, ?_, ?_, ?_, ?_, ?_, ?_, ?_, ?_⟩
    · intro y0 y1 y2 y3 y4 y5 y6
      unfold laws_FnElectionsEnd.j0
      repeat' first
      | (with_reducible exact ih0 _ _ _ _ _ _ _)
      | (with_reducible exact ih1 _)
      | (with_reducible exact ih2 _ _ _ _ _ _)
      | (with_reducible exact ih3 _)
      | (with_reducible exact ih4 _ _ _ _)
      | (with_reducible exact ih5 _ _ _)
      | (with_reducible exact ih6 _ _ _ _ _)
      | (with_reducible exact ih7 _ _ _ _ _)
      | (with_reducible exact ih8 _ _ _ _ _ _ _ _ _)
      | (with_reducible exact ih9 _ _ _ _ _ _ _ _)
      | (with_reducible exact ih10 _ _ _ _ _ _ _ _ _ _ _)
      | (with_reducible exact ih11 _ _ _ _ _ _ _ _ _ _ _)
      | (with_reducible exact ih12 _ _ _ _ _ _ _ _ _ _ _ _)
      | (with_reducible exact impl_AreNames.mono _ _)
      | (with_reducible exact impl_BestNames.mono _ _)
      | (with_reducible exact impl_PassedOn.mono _ _)
      | (with_reducible exact impl_SimpleMessages.mono _ _)
      | (with_reducible exact impl_SumOfMessages.mono _ _)
      | (with_reducible exact impl_WinnerOf.mono _ _)
      | (with_reducible exact impl_WorstNames.mono _ _)
      | (with_reducible exact laws_zSame.mono _ _ _)
      | (with_reducible exact laws_zSum.mono _ _)
      | (with_reducible exact spec_AreNames.mono _ _)
      | (with_reducible exact spec_BestNames.mono _ _)
      | (with_reducible exact spec_DrawPassedOn.mono _ _)
      | (with_reducible exact spec_PassedOn.mono _ _)
      | (with_reducible exact spec_SumOfMessages.mono _ _)
      | (with_reducible exact spec_WinnerOf.mono _ _)
      | (with_reducible exact spec_WorstNames.mono _ _)
      | (with_reducible exact LeO.refl _)
      | (with_reducible exact LeO.none _)
      | (with_reducible refine LeO.ite ?_ ?_)
      | (with_reducible refine LeO.bind ?_ (fun _ => ?_))
      | exact ih0 _ _ _ _ _ _ _
      | exact ih1 _
      | exact ih2 _ _ _ _ _ _
      | exact ih3 _
      | exact ih4 _ _ _ _
      | exact ih5 _ _ _
      | exact ih6 _ _ _ _ _
      | exact ih7 _ _ _ _ _
      | exact ih8 _ _ _ _ _ _ _ _ _
      | exact ih9 _ _ _ _ _ _ _ _
      | exact ih10 _ _ _ _ _ _ _ _ _ _ _
      | exact ih11 _ _ _ _ _ _ _ _ _ _ _
      | exact ih12 _ _ _ _ _ _ _ _ _ _ _ _
      | exact impl_AreNames.mono _ _
      | exact impl_BestNames.mono _ _
      | exact impl_PassedOn.mono _ _
      | exact impl_SimpleMessages.mono _ _
      | exact impl_SumOfMessages.mono _ _
      | exact impl_WinnerOf.mono _ _
      | exact impl_WorstNames.mono _ _
      | exact laws_zSame.mono _ _ _
      | exact laws_zSum.mono _ _
      | exact spec_AreNames.mono _ _
      | exact spec_BestNames.mono _ _
      | exact spec_DrawPassedOn.mono _ _
      | exact spec_PassedOn.mono _ _
      | exact spec_SumOfMessages.mono _ _
      | exact spec_WinnerOf.mono _ _
      | exact spec_WorstNames.mono _ _
      | exact LeO.none _
      | refine LeO.ite ?_ ?_
      | refine LeO.bind ?_ (fun _ => ?_)
    · intro y0
      unfold laws_FnElectionsEnd.j5
      repeat' first
      | (with_reducible exact ih0 _ _ _ _ _ _ _)
      | (with_reducible exact ih1 _)
      | (with_reducible exact ih2 _ _ _ _ _ _)
      | (with_reducible exact ih3 _)
      | (with_reducible exact ih4 _ _ _ _)
      | (with_reducible exact ih5 _ _ _)
      | (with_reducible exact ih6 _ _ _ _ _)
      | (with_reducible exact ih7 _ _ _ _ _)
      | (with_reducible exact ih8 _ _ _ _ _ _ _ _ _)
      | (with_reducible exact ih9 _ _ _ _ _ _ _ _)
      | (with_reducible exact ih10 _ _ _ _ _ _ _ _ _ _ _)
      | (with_reducible exact ih11 _ _ _ _ _ _ _ _ _ _ _)
      | (with_reducible exact ih12 _ _ _ _ _ _ _ _ _ _ _ _)
      | (with_reducible exact impl_AreNames.mono _ _)
      | (with_reducible exact impl_BestNames.mono _ _)
      | (with_reducible exact impl_PassedOn.mono _ _)
      | (with_reducible exact impl_SimpleMessages.mono _ _)
      | (with_reducible exact impl_SumOfMessages.mono _ _)
      | (with_reducible exact impl_WinnerOf.mono _ _)
      | (with_reducible exact impl_WorstNames.mono _ _)
      | (with_reducible exact laws_zSame.mono _ _ _)
      | (with_reducible exact laws_zSum.mono _ _)
      | (with_reducible exact spec_AreNames.mono _ _)
      | (with_reducible exact spec_BestNames.mono _ _)
      | (with_reducible exact spec_DrawPassedOn.mono _ _)
      | (with_reducible exact spec_PassedOn.mono _ _)
      | (with_reducible exact spec_SumOfMessages.mono _ _)
      | (with_reducible exact spec_WinnerOf.mono _ _)
      | (with_reducible exact spec_WorstNames.mono _ _)
      | (with_reducible exact LeO.refl _)
      | (with_reducible exact LeO.none _)
      | (with_reducible refine LeO.ite ?_ ?_)
      | (with_reducible refine LeO.bind ?_ (fun _ => ?_))
      | exact ih0 _ _ _ _ _ _ _
      | exact ih1 _
      | exact ih2 _ _ _ _ _ _
      | exact ih3 _
      | exact ih4 _ _ _ _
      | exact ih5 _ _ _
      | exact ih6 _ _ _ _ _
      | exact ih7 _ _ _ _ _
      | exact ih8 _ _ _ _ _ _ _ _ _
      | exact ih9 _ _ _ _ _ _ _ _
      | exact ih10 _ _ _ _ _ _ _ _ _ _ _
      | exact ih11 _ _ _ _ _ _ _ _ _ _ _
      | exact ih12 _ _ _ _ _ _ _ _ _ _ _ _
      | exact impl_AreNames.mono _ _
      | exact impl_BestNames.mono _ _
      | exact impl_PassedOn.mono _ _
      | exact impl_SimpleMessages.mono _ _
      | exact impl_SumOfMessages.mono _ _
      | exact impl_WinnerOf.mono _ _
      | exact impl_WorstNames.mono _ _
      | exact laws_zSame.mono _ _ _
      | exact laws_zSum.mono _ _
      | exact spec_AreNames.mono _ _
      | exact spec_BestNames.mono _ _
      | exact spec_DrawPassedOn.mono _ _
      | exact spec_PassedOn.mono _ _
      | exact spec_SumOfMessages.mono _ _
      | exact spec_WinnerOf.mono _ _
      | exact spec_WorstNames.mono _ _
      | exact LeO.none _
      | refine LeO.ite ?_ ?_
      | refine LeO.bind ?_ (fun _ => ?_)
    · intro y0 y1 y2 y3 y4 y5
      unfold laws_FnElectionsEnd.j6
      repeat' first
      | (with_reducible exact ih0 _ _ _ _ _ _ _)
      | (with_reducible exact ih1 _)
      | (with_reducible exact ih2 _ _ _ _ _ _)
      | (with_reducible exact ih3 _)
      | (with_reducible exact ih4 _ _ _ _)
      | (with_reducible exact ih5 _ _ _)
      | (with_reducible exact ih6 _ _ _ _ _)
      | (with_reducible exact ih7 _ _ _ _ _)
      | (with_reducible exact ih8 _ _ _ _ _ _ _ _ _)
      | (with_reducible exact ih9 _ _ _ _ _ _ _ _)
      | (with_reducible exact ih10 _ _ _ _ _ _ _ _ _ _ _)
      | (with_reducible exact ih11 _ _ _ _ _ _ _ _ _ _ _)
      | (with_reducible exact ih12 _ _ _ _ _ _ _ _ _ _ _ _)
      | (with_reducible exact impl_AreNames.mono _ _)
      | (with_reducible exact impl_BestNames.mono _ _)
      | (with_reducible exact impl_PassedOn.mono _ _)
      | (with_reducible exact impl_SimpleMessages.mono _ _)
      | (with_reducible exact impl_SumOfMessages.mono _ _)
      | (with_reducible exact impl_WinnerOf.mono _ _)
      | (with_reducible exact impl_WorstNames.mono _ _)
      | (with_reducible exact laws_zSame.mono _ _ _)
      | (with_reducible exact laws_zSum.mono _ _)
      | (with_reducible exact spec_AreNames.mono _ _)
      | (with_reducible exact spec_BestNames.mono _ _)
      | (with_reducible exact spec_DrawPassedOn.mono _ _)
      | (with_reducible exact spec_PassedOn.mono _ _)
      | (with_reducible exact spec_SumOfMessages.mono _ _)
      | (with_reducible exact spec_WinnerOf.mono _ _)
      | (with_reducible exact spec_WorstNames.mono _ _)
      | (with_reducible exact LeO.refl _)
      | (with_reducible exact LeO.none _)
      | (with_reducible refine LeO.ite ?_ ?_)
      | (with_reducible refine LeO.bind ?_ (fun _ => ?_))
      | exact ih0 _ _ _ _ _ _ _
      | exact ih1 _
      | exact ih2 _ _ _ _ _ _
      | exact ih3 _
      | exact ih4 _ _ _ _
      | exact ih5 _ _ _
      | exact ih6 _ _ _ _ _
      | exact ih7 _ _ _ _ _
      | exact ih8 _ _ _ _ _ _ _ _ _
      | exact ih9 _ _ _ _ _ _ _ _
      | exact ih10 _ _ _ _ _ _ _ _ _ _ _
      | exact ih11 _ _ _ _ _ _ _ _ _ _ _
      | exact ih12 _ _ _ _ _ _ _ _ _ _ _ _
      | exact impl_AreNames.mono _ _
      | exact impl_BestNames.mono _ _
      | exact impl_PassedOn.mono _ _
      | exact impl_SimpleMessages.mono _ _
      | exact impl_SumOfMessages.mono _ _
      | exact impl_WinnerOf.mono _ _
      | exact impl_WorstNames.mono _ _
      | exact laws_zSame.mono _ _ _
      | exact laws_zSum.mono _ _
      | exact spec_AreNames.mono _ _
      | exact spec_BestNames.mono _ _
      | exact spec_DrawPassedOn.mono _ _
      | exact spec_PassedOn.mono _ _
      | exact spec_SumOfMessages.mono _ _
      | exact spec_WinnerOf.mono _ _
      | exact spec_WorstNames.mono _ _
      | exact LeO.none _
      | refine LeO.ite ?_ ?_
      | refine LeO.bind ?_ (fun _ => ?_)
    · intro y0
      unfold laws_FnElectionsEnd.j7
      repeat' first
      | (with_reducible exact ih0 _ _ _ _ _ _ _)
      | (with_reducible exact ih1 _)
      | (with_reducible exact ih2 _ _ _ _ _ _)
      | (with_reducible exact ih3 _)
      | (with_reducible exact ih4 _ _ _ _)
      | (with_reducible exact ih5 _ _ _)
      | (with_reducible exact ih6 _ _ _ _ _)
      | (with_reducible exact ih7 _ _ _ _ _)
      | (with_reducible exact ih8 _ _ _ _ _ _ _ _ _)
      | (with_reducible exact ih9 _ _ _ _ _ _ _ _)
      | (with_reducible exact ih10 _ _ _ _ _ _ _ _ _ _ _)
      | (with_reducible exact ih11 _ _ _ _ _ _ _ _ _ _ _)
      | (with_reducible exact ih12 _ _ _ _ _ _ _ _ _ _ _ _)
      | (with_reducible exact impl_AreNames.mono _ _)
      | (with_reducible exact impl_BestNames.mono _ _)
      | (with_reducible exact impl_PassedOn.mono _ _)
      | (with_reducible exact impl_SimpleMessages.mono _ _)
      | (with_reducible exact impl_SumOfMessages.mono _ _)
      | (with_reducible exact impl_WinnerOf.mono _ _)
      | (with_reducible exact impl_WorstNames.mono _ _)
      | (with_reducible exact laws_zSame.mono _ _ _)
      | (with_reducible exact laws_zSum.mono _ _)
      | (with_reducible exact spec_AreNames.mono _ _)
      | (with_reducible exact spec_BestNames.mono _ _)
      | (with_reducible exact spec_DrawPassedOn.mono _ _)
      | (with_reducible exact spec_PassedOn.mono _ _)
      | (with_reducible exact spec_SumOfMessages.mono _ _)
      | (with_reducible exact spec_WinnerOf.mono _ _)
      | (with_reducible exact spec_WorstNames.mono _ _)
      | (with_reducible exact LeO.refl _)
      | (with_reducible exact LeO.none _)
      | (with_reducible refine LeO.ite ?_ ?_)
      | (with_reducible refine LeO.bind ?_ (fun _ => ?_))
      | exact ih0 _ _ _ _ _ _ _
      | exact ih1 _
      | exact ih2 _ _ _ _ _ _
      | exact ih3 _
      | exact ih4 _ _ _ _
      | exact ih5 _ _ _
      | exact ih6 _ _ _ _ _
      | exact ih7 _ _ _ _ _
      | exact ih8 _ _ _ _ _ _ _ _ _
      | exact ih9 _ _ _ _ _ _ _ _
      | exact ih10 _ _ _ _ _ _ _ _ _ _ _
      | exact ih11 _ _ _ _ _ _ _ _ _ _ _
      | exact ih12 _ _ _ _ _ _ _ _ _ _ _ _
      | exact impl_AreNames.mono _ _
      | exact impl_BestNames.mono _ _
      | exact impl_PassedOn.mono _ _
      | exact impl_SimpleMessages.mono _ _
      | exact impl_SumOfMessages.mono _ _
      | exact impl_WinnerOf.mono _ _
      | exact impl_WorstNames.mono _ _
      | exact laws_zSame.mono _ _ _
      | exact laws_zSum.mono _ _
      | exact spec_AreNames.mono _ _
      | exact spec_BestNames.mono _ _
      | exact spec_DrawPassedOn.mono _ _
      | exact spec_PassedOn.mono _ _
      | exact spec_SumOfMessages.mono _ _
      | exact spec_WinnerOf.mono _ _
      | exact spec_WorstNames.mono _ _
      | exact LeO.none _
      | refine LeO.ite ?_ ?_
      | refine LeO.bind ?_ (fun _ => ?_)
    · intro y0 y1 y2 y3
      unfold laws_FnElectionsEnd.j8
      repeat' first
      | (with_reducible exact ih0 _ _ _ _ _ _ _)
      | (with_reducible exact ih1 _)
      | (with_reducible exact ih2 _ _ _ _ _ _)
      | (with_reducible exact ih3 _)
      | (with_reducible exact ih4 _ _ _ _)
      | (with_reducible exact ih5 _ _ _)
      | (with_reducible exact ih6 _ _ _ _ _)
      | (with_reducible exact ih7 _ _ _ _ _)
      | (with_reducible exact ih8 _ _ _ _ _ _ _ _ _)
      | (with_reducible exact ih9 _ _ _ _ _ _ _ _)
      | (with_reducible exact ih10 _ _ _ _ _ _ _ _ _ _ _)
      | (with_reducible exact ih11 _ _ _ _ _ _ _ _ _ _ _)
      | (with_reducible exact ih12 _ _ _ _ _ _ _ _ _ _ _ _)
      | (with_reducible exact impl_AreNames.mono _ _)
      | (with_reducible exact impl_BestNames.mono _ _)
      | (with_reducible exact impl_PassedOn.mono _ _)
      | (with_reducible exact impl_SimpleMessages.mono _ _)
      | (with_reducible exact impl_SumOfMessages.mono _ _)
      | (with_reducible exact impl_WinnerOf.mono _ _)
      | (with_reducible exact impl_WorstNames.mono _ _)
      | (with_reducible exact laws_zSame.mono _ _ _)
      | (with_reducible exact laws_zSum.mono _ _)
      | (with_reducible exact spec_AreNames.mono _ _)
      | (with_reducible exact spec_BestNames.mono _ _)
      | (with_reducible exact spec_DrawPassedOn.mono _ _)
      | (with_reducible exact spec_PassedOn.mono _ _)
      | (with_reducible exact spec_SumOfMessages.mono _ _)
      | (with_reducible exact spec_WinnerOf.mono _ _)
      | (with_reducible exact spec_WorstNames.mono _ _)
      | (with_reducible exact LeO.refl _)
      | (with_reducible exact LeO.none _)
      | (with_reducible refine LeO.ite ?_ ?_)
      | (with_reducible refine LeO.bind ?_ (fun _ => ?_))
      | exact ih0 _ _ _ _ _ _ _
      | exact ih1 _
      | exact ih2 _ _ _ _ _ _
      | exact ih3 _
      | exact ih4 _ _ _ _
      | exact ih5 _ _ _
      | exact ih6 _ _ _ _ _
      | exact ih7 _ _ _ _ _
      | exact ih8 _ _ _ _ _ _ _ _ _
      | exact ih9 _ _ _ _ _ _ _ _
      | exact ih10 _ _ _ _ _ _ _ _ _ _ _
      | exact ih11 _ _ _ _ _ _ _ _ _ _ _
      | exact ih12 _ _ _ _ _ _ _ _ _ _ _ _
      | exact impl_AreNames.mono _ _
      | exact impl_BestNames.mono _ _
      | exact impl_PassedOn.mono _ _
      | exact impl_SimpleMessages.mono _ _
      | exact impl_SumOfMessages.mono _ _
      | exact impl_WinnerOf.mono _ _
      | exact impl_WorstNames.mono _ _
      | exact laws_zSame.mono _ _ _
      | exact laws_zSum.mono _ _
      | exact spec_AreNames.mono _ _
      | exact spec_BestNames.mono _ _
      | exact spec_DrawPassedOn.mono _ _
      | exact spec_PassedOn.mono _ _
      | exact spec_SumOfMessages.mono _ _
      | exact spec_WinnerOf.mono _ _
      | exact spec_WorstNames.mono _ _
      | exact LeO.none _
      | refine LeO.ite ?_ ?_
      | refine LeO.bind ?_ (fun _ => ?_)
    · intro y0 y1 y2
      unfold laws_FnElectionsEnd.j9
      repeat' first
      | (with_reducible exact ih0 _ _ _ _ _ _ _)
      | (with_reducible exact ih1 _)
      | (with_reducible exact ih2 _ _ _ _ _ _)
      | (with_reducible exact ih3 _)
      | (with_reducible exact ih4 _ _ _ _)
      | (with_reducible exact ih5 _ _ _)
      | (with_reducible exact ih6 _ _ _ _ _)
      | (with_reducible exact ih7 _ _ _ _ _)
      | (with_reducible exact ih8 _ _ _ _ _ _ _ _ _)
      | (with_reducible exact ih9 _ _ _ _ _ _ _ _)
      | (with_reducible exact ih10 _ _ _ _ _ _ _ _ _ _ _)
      | (with_reducible exact ih11 _ _ _ _ _ _ _ _ _ _ _)
      | (with_reducible exact ih12 _ _ _ _ _ _ _ _ _ _ _ _)
      | (with_reducible exact impl_AreNames.mono _ _)
      | (with_reducible exact impl_BestNames.mono _ _)
      | (with_reducible exact impl_PassedOn.mono _ _)
      | (with_reducible exact impl_SimpleMessages.mono _ _)
      | (with_reducible exact impl_SumOfMessages.mono _ _)
      | (with_reducible exact impl_WinnerOf.mono _ _)
      | (with_reducible exact impl_WorstNames.mono _ _)
      | (with_reducible exact laws_zSame.mono _ _ _)
      | (with_reducible exact laws_zSum.mono _ _)
      | (with_reducible exact spec_AreNames.mono _ _)
      | (with_reducible exact spec_BestNames.mono _ _)
      | (with_reducible exact spec_DrawPassedOn.mono _ _)
      | (with_reducible exact spec_PassedOn.mono _ _)
      | (with_reducible exact spec_SumOfMessages.mono _ _)
      | (with_reducible exact spec_WinnerOf.mono _ _)
      | (with_reducible exact spec_WorstNames.mono _ _)
      | (with_reducible exact LeO.refl _)
      | (with_reducible exact LeO.none _)
      | (with_reducible refine LeO.ite ?_ ?_)
      | (with_reducible refine LeO.bind ?_ (fun _ => ?_))
      | exact ih0 _ _ _ _ _ _ _
      | exact ih1 _
      | exact ih2 _ _ _ _ _ _
      | exact ih3 _
      | exact ih4 _ _ _ _
      | exact ih5 _ _ _
      | exact ih6 _ _ _ _ _
      | exact ih7 _ _ _ _ _
      | exact ih8 _ _ _ _ _ _ _ _ _
      | exact ih9 _ _ _ _ _ _ _ _
      | exact ih10 _ _ _ _ _ _ _ _ _ _ _
      | exact ih11 _ _ _ _ _ _ _ _ _ _ _
      | exact ih12 _ _ _ _ _ _ _ _ _ _ _ _
      | exact impl_AreNames.mono _ _
      | exact impl_BestNames.mono _ _
      | exact impl_PassedOn.mono _ _
      | exact impl_SimpleMessages.mono _ _
      | exact impl_SumOfMessages.mono _ _
      | exact impl_WinnerOf.mono _ _
      | exact impl_WorstNames.mono _ _
      | exact laws_zSame.mono _ _ _
      | exact laws_zSum.mono _ _
      | exact spec_AreNames.mono _ _
      | exact spec_BestNames.mono _ _
      | exact spec_DrawPassedOn.mono _ _
      | exact spec_PassedOn.mono _ _
      | exact spec_SumOfMessages.mono _ _
      | exact spec_WinnerOf.mono _ _
      | exact spec_WorstNames.mono _ _
      | exact LeO.none _
      | refine LeO.ite ?_ ?_
      | refine LeO.bind ?_ (fun _ => ?_)
    · intro y0 y1 y2 y3 y4
      unfold laws_FnElectionsEnd.l2
      repeat' first
      | (with_reducible exact ih0 _ _ _ _ _ _ _)
      | (with_reducible exact ih1 _)
      | (with_reducible exact ih2 _ _ _ _ _ _)
      | (with_reducible exact ih3 _)
      | (with_reducible exact ih4 _ _ _ _)
      | (with_reducible exact ih5 _ _ _)
      | (with_reducible exact ih6 _ _ _ _ _)
      | (with_reducible exact ih7 _ _ _ _ _)
      | (with_reducible exact ih8 _ _ _ _ _ _ _ _ _)
      | (with_reducible exact ih9 _ _ _ _ _ _ _ _)
      | (with_reducible exact ih10 _ _ _ _ _ _ _ _ _ _ _)
      | (with_reducible exact ih11 _ _ _ _ _ _ _ _ _ _ _)
      | (with_reducible exact ih12 _ _ _ _ _ _ _ _ _ _ _ _)
      | (with_reducible exact impl_AreNames.mono _ _)
      | (with_reducible exact impl_BestNames.mono _ _)
      | (with_reducible exact impl_PassedOn.mono _ _)
      | (with_reducible exact impl_SimpleMessages.mono _ _)
      | (with_reducible exact impl_SumOfMessages.mono _ _)
      | (with_reducible exact impl_WinnerOf.mono _ _)
      | (with_reducible exact impl_WorstNames.mono _ _)
      | (with_reducible exact laws_zSame.mono _ _ _)
      | (with_reducible exact laws_zSum.mono _ _)
      | (with_reducible exact spec_AreNames.mono _ _)
      | (with_reducible exact spec_BestNames.mono _ _)
      | (with_reducible exact spec_DrawPassedOn.mono _ _)
      | (with_reducible exact spec_PassedOn.mono _ _)
      | (with_reducible exact spec_SumOfMessages.mono _ _)
      | (with_reducible exact spec_WinnerOf.mono _ _)
      | (with_reducible exact spec_WorstNames.mono _ _)
      | (with_reducible exact LeO.refl _)
      | (with_reducible exact LeO.none _)
      | (with_reducible refine LeO.ite ?_ ?_)
      | (with_reducible refine LeO.bind ?_ (fun _ => ?_))
      | exact ih0 _ _ _ _ _ _ _
      | exact ih1 _
      | exact ih2 _ _ _ _ _ _
      | exact ih3 _
      | exact ih4 _ _ _ _
      | exact ih5 _ _ _
      | exact ih6 _ _ _ _ _
      | exact ih7 _ _ _ _ _
      | exact ih8 _ _ _ _ _ _ _ _ _
      | exact ih9 _ _ _ _ _ _ _ _
      | exact ih10 _ _ _ _ _ _ _ _ _ _ _
      | exact ih11 _ _ _ _ _ _ _ _ _ _ _
      | exact ih12 _ _ _ _ _ _ _ _ _ _ _ _
      | exact impl_AreNames.mono _ _
      | exact impl_BestNames.mono _ _
      | exact impl_PassedOn.mono _ _
      | exact impl_SimpleMessages.mono _ _
      | exact impl_SumOfMessages.mono _ _
      | exact impl_WinnerOf.mono _ _
      | exact impl_WorstNames.mono _ _
      | exact laws_zSame.mono _ _ _
      | exact laws_zSum.mono _ _
      | exact spec_AreNames.mono _ _
      | exact spec_BestNames.mono _ _
      | exact spec_DrawPassedOn.mono _ _
      | exact spec_PassedOn.mono _ _
      | exact spec_SumOfMessages.mono _ _
      | exact spec_WinnerOf.mono _ _
      | exact spec_WorstNames.mono _ _
      | exact LeO.none _
      | refine LeO.ite ?_ ?_
      | refine LeO.bind ?_ (fun _ => ?_)
    · intro y0 y1 y2 y3 y4
      unfold laws_FnElectionsEnd.l3
      repeat' first
      | (with_reducible exact ih0 _ _ _ _ _ _ _)
      | (with_reducible exact ih1 _)
      | (with_reducible exact ih2 _ _ _ _ _ _)
      | (with_reducible exact ih3 _)
      | (with_reducible exact ih4 _ _ _ _)
      | (with_reducible exact ih5 _ _ _)
      | (with_reducible exact ih6 _ _ _ _ _)
      | (with_reducible exact ih7 _ _ _ _ _)
      | (with_reducible exact ih8 _ _ _ _ _ _ _ _ _)
      | (with_reducible exact ih9 _ _ _ _ _ _ _ _)
      | (with_reducible exact ih10 _ _ _ _ _ _ _ _ _ _ _)
      | (with_reducible exact ih11 _ _ _ _ _ _ _ _ _ _ _)
      | (with_reducible exact ih12 _ _ _ _ _ _ _ _ _ _ _ _)
      | (with_reducible exact impl_AreNames.mono _ _)
      | (with_reducible exact impl_BestNames.mono _ _)
      | (with_reducible exact impl_PassedOn.mono _ _)
      | (with_reducible exact impl_SimpleMessages.mono _ _)
      | (with_reducible exact impl_SumOfMessages.mono _ _)
      | (with_reducible exact impl_WinnerOf.mono _ _)
      | (with_reducible exact impl_WorstNames.mono _ _)
      | (with_reducible exact laws_zSame.mono _ _ _)
      | (with_reducible exact laws_zSum.mono _ _)
      | (with_reducible exact spec_AreNames.mono _ _)
      | (with_reducible exact spec_BestNames.mono _ _)
      | (with_reducible exact spec_DrawPassedOn.mono _ _)
      | (with_reducible exact spec_PassedOn.mono _ _)
      | (with_reducible exact spec_SumOfMessages.mono _ _)
      | (with_reducible exact spec_WinnerOf.mono _ _)
      | (with_reducible exact spec_WorstNames.mono _ _)
      | (with_reducible exact LeO.refl _)
      | (with_reducible exact LeO.none _)
      | (with_reducible refine LeO.ite ?_ ?_)
      | (with_reducible refine LeO.bind ?_ (fun _ => ?_))
      | exact ih0 _ _ _ _ _ _ _
      | exact ih1 _
      | exact ih2 _ _ _ _ _ _
      | exact ih3 _
      | exact ih4 _ _ _ _
      | exact ih5 _ _ _
      | exact ih6 _ _ _ _ _
      | exact ih7 _ _ _ _ _
      | exact ih8 _ _ _ _ _ _ _ _ _
      | exact ih9 _ _ _ _ _ _ _ _
      | exact ih10 _ _ _ _ _ _ _ _ _ _ _
      | exact ih11 _ _ _ _ _ _ _ _ _ _ _
      | exact ih12 _ _ _ _ _ _ _ _ _ _ _ _
      | exact impl_AreNames.mono _ _
      | exact impl_BestNames.mono _ _
      | exact impl_PassedOn.mono _ _
      | exact impl_SimpleMessages.mono _ _
      | exact impl_SumOfMessages.mono _ _
      | exact impl_WinnerOf.mono _ _
      | exact impl_WorstNames.mono _ _
      | exact laws_zSame.mono _ _ _
      | exact laws_zSum.mono _ _
      | exact spec_AreNames.mono _ _
      | exact spec_BestNames.mono _ _
      | exact spec_DrawPassedOn.mono _ _
      | exact spec_PassedOn.mono _ _
      | exact spec_SumOfMessages.mono _ _
      | exact spec_WinnerOf.mono _ _
      | exact spec_WorstNames.mono _ _
      | exact LeO.none _
      | refine LeO.ite ?_ ?_
      | refine LeO.bind ?_ (fun _ => ?_)
    · intro y0 y1 y2 y3 y4 y5 y6 y7 y8
      unfold laws_FnElectionsEnd.l4
      repeat' first
      | (with_reducible exact ih0 _ _ _ _ _ _ _)
      | (with_reducible exact ih1 _)
      | (with_reducible exact ih2 _ _ _ _ _ _)
      | (with_reducible exact ih3 _)
      | (with_reducible exact ih4 _ _ _ _)
      | (with_reducible exact ih5 _ _ _)
      | (with_reducible exact ih6 _ _ _ _ _)
      | (with_reducible exact ih7 _ _ _ _ _)
      | (with_reducible exact ih8 _ _ _ _ _ _ _ _ _)
      | (with_reducible exact ih9 _ _ _ _ _ _ _ _)
      | (with_reducible exact ih10 _ _ _ _ _ _ _ _ _ _ _)
      | (with_reducible exact ih11 _ _ _ _ _ _ _ _ _ _ _)
      | (with_reducible exact ih12 _ _ _ _ _ _ _ _ _ _ _ _)
      | (with_reducible exact impl_AreNames.mono _ _)
      | (with_reducible exact impl_BestNames.mono _ _)
      | (with_reducible exact impl_PassedOn.mono _ _)
      | (with_reducible exact impl_SimpleMessages.mono _ _)
      | (with_reducible exact impl_SumOfMessages.mono _ _)
      | (with_reducible exact impl_WinnerOf.mono _ _)
      | (with_reducible exact impl_WorstNames.mono _ _)
      | (with_reducible exact laws_zSame.mono _ _ _)
      | (with_reducible exact laws_zSum.mono _ _)
      | (with_reducible exact spec_AreNames.mono _ _)
      | (with_reducible exact spec_BestNames.mono _ _)
      | (with_reducible exact spec_DrawPassedOn.mono _ _)
      | (with_reducible exact spec_PassedOn.mono _ _)
      | (with_reducible exact spec_SumOfMessages.mono _ _)
      | (with_reducible exact spec_WinnerOf.mono _ _)
      | (with_reducible exact spec_WorstNames.mono _ _)
      | (with_reducible exact LeO.refl _)
      | (with_reducible exact LeO.none _)
      | (with_reducible refine LeO.ite ?_ ?_)
      | (with_reducible refine LeO.bind ?_ (fun _ => ?_))
      | exact ih0 _ _ _ _ _ _ _
      | exact ih1 _
      | exact ih2 _ _ _ _ _ _
      | exact ih3 _
      | exact ih4 _ _ _ _
      | exact ih5 _ _ _
      | exact ih6 _ _ _ _ _
      | exact ih7 _ _ _ _ _
      | exact ih8 _ _ _ _ _ _ _ _ _
      | exact ih9 _ _ _ _ _ _ _ _
      | exact ih10 _ _ _ _ _ _ _ _ _ _ _
      | exact ih11 _ _ _ _ _ _ _ _ _ _ _
      | exact ih12 _ _ _ _ _ _ _ _ _ _ _ _
      | exact impl_AreNames.mono _ _
      | exact impl_BestNames.mono _ _
      | exact impl_PassedOn.mono _ _
      | exact impl_SimpleMessages.mono _ _
      | exact impl_SumOfMessages.mono _ _
      | exact impl_WinnerOf.mono _ _
      | exact impl_WorstNames.mono _ _
      | exact laws_zSame.mono _ _ _
      | exact laws_zSum.mono _ _
      | exact spec_AreNames.mono _ _
      | exact spec_BestNames.mono _ _
      | exact spec_DrawPassedOn.mono _ _
      | exact spec_PassedOn.mono _ _
      | exact spec_SumOfMessages.mono _ _
      | exact spec_WinnerOf.mono _ _
      | exact spec_WorstNames.mono _ _
      | exact LeO.none _
      | refine LeO.ite ?_ ?_
      | refine LeO.bind ?_ (fun _ => ?_)
    · intro y0 y1 y2 y3 y4 y5 y6 y7
      unfold laws_FnElectionsEnd.l0
      repeat' first
      | (with_reducible exact ih0 _ _ _ _ _ _ _)
      | (with_reducible exact ih1 _)
      | (with_reducible exact ih2 _ _ _ _ _ _)
      | (with_reducible exact ih3 _)
      | (with_reducible exact ih4 _ _ _ _)
      | (with_reducible exact ih5 _ _ _)
      | (with_reducible exact ih6 _ _ _ _ _)
      | (with_reducible exact ih7 _ _ _ _ _)
      | (with_reducible exact ih8 _ _ _ _ _ _ _ _ _)
      | (with_reducible exact ih9 _ _ _ _ _ _ _ _)
      | (with_reducible exact ih10 _ _ _ _ _ _ _ _ _ _ _)
      | (with_reducible exact ih11 _ _ _ _ _ _ _ _ _ _ _)
      | (with_reducible exact ih12 _ _ _ _ _ _ _ _ _ _ _ _)
      | (with_reducible exact impl_AreNames.mono _ _)
      | (with_reducible exact impl_BestNames.mono _ _)
      | (with_reducible exact impl_PassedOn.mono _ _)
      | (with_reducible exact impl_SimpleMessages.mono _ _)
      | (with_reducible exact impl_SumOfMessages.mono _ _)
      | (with_reducible exact impl_WinnerOf.mono _ _)
      | (with_reducible exact impl_WorstNames.mono _ _)
      | (with_reducible exact laws_zSame.mono _ _ _)
      | (with_reducible exact laws_zSum.mono _ _)
      | (with_reducible exact spec_AreNames.mono _ _)
      | (with_reducible exact spec_BestNames.mono _ _)
      | (with_reducible exact spec_DrawPassedOn.mono _ _)
      | (with_reducible exact spec_PassedOn.mono _ _)
      | (with_reducible exact spec_SumOfMessages.mono _ _)
      | (with_reducible exact spec_WinnerOf.mono _ _)
      | (with_reducible exact spec_WorstNames.mono _ _)
      | (with_reducible exact LeO.refl _)
      | (with_reducible exact LeO.none _)
      | (with_reducible refine LeO.ite ?_ ?_)
      | (with_reducible refine LeO.bind ?_ (fun _ => ?_))
      | exact ih0 _ _ _ _ _ _ _
      | exact ih1 _
      | exact ih2 _ _ _ _ _ _
      | exact ih3 _
      | exact ih4 _ _ _ _
      | exact ih5 _ _ _
      | exact ih6 _ _ _ _ _
      | exact ih7 _ _ _ _ _
      | exact ih8 _ _ _ _ _ _ _ _ _
      | exact ih9 _ _ _ _ _ _ _ _
      | exact ih10 _ _ _ _ _ _ _ _ _ _ _
      | exact ih11 _ _ _ _ _ _ _ _ _ _ _
      | exact ih12 _ _ _ _ _ _ _ _ _ _ _ _
      | exact impl_AreNames.mono _ _
      | exact impl_BestNames.mono _ _
      | exact impl_PassedOn.mono _ _
      | exact impl_SimpleMessages.mono _ _
      | exact impl_SumOfMessages.mono _ _
      | exact impl_WinnerOf.mono _ _
      | exact impl_WorstNames.mono _ _
      | exact laws_zSame.mono _ _ _
      | exact laws_zSum.mono _ _
      | exact spec_AreNames.mono _ _
      | exact spec_BestNames.mono _ _
      | exact spec_DrawPassedOn.mono _ _
      | exact spec_PassedOn.mono _ _
      | exact spec_SumOfMessages.mono _ _
      | exact spec_WinnerOf.mono _ _
      | exact spec_WorstNames.mono _ _
      | exact LeO.none _
      | refine LeO.ite ?_ ?_
      | refine LeO.bind ?_ (fun _ => ?_)
    · intro y0 y1 y2 y3 y4 y5 y6 y7 y8 y9 y10
      unfold laws_FnElectionsEnd.j2
      repeat' first
      | (with_reducible exact ih0 _ _ _ _ _ _ _)
      | (with_reducible exact ih1 _)
      | (with_reducible exact ih2 _ _ _ _ _ _)
      | (with_reducible exact ih3 _)
      | (with_reducible exact ih4 _ _ _ _)
      | (with_reducible exact ih5 _ _ _)
      | (with_reducible exact ih6 _ _ _ _ _)
      | (with_reducible exact ih7 _ _ _ _ _)
      | (with_reducible exact ih8 _ _ _ _ _ _ _ _ _)
      | (with_reducible exact ih9 _ _ _ _ _ _ _ _)
      | (with_reducible exact ih10 _ _ _ _ _ _ _ _ _ _ _)
      | (with_reducible exact ih11 _ _ _ _ _ _ _ _ _ _ _)
      | (with_reducible exact ih12 _ _ _ _ _ _ _ _ _ _ _ _)
      | (with_reducible exact impl_AreNames.mono _ _)
      | (with_reducible exact impl_BestNames.mono _ _)
      | (with_reducible exact impl_PassedOn.mono _ _)
      | (with_reducible exact impl_SimpleMessages.mono _ _)
      | (with_reducible exact impl_SumOfMessages.mono _ _)
      | (with_reducible exact impl_WinnerOf.mono _ _)
      | (with_reducible exact impl_WorstNames.mono _ _)
      | (with_reducible exact laws_zSame.mono _ _ _)
      | (with_reducible exact laws_zSum.mono _ _)
      | (with_reducible exact spec_AreNames.mono _ _)
      | (with_reducible exact spec_BestNames.mono _ _)
      | (with_reducible exact spec_DrawPassedOn.mono _ _)
      | (with_reducible exact spec_PassedOn.mono _ _)
      | (with_reducible exact spec_SumOfMessages.mono _ _)
      | (with_reducible exact spec_WinnerOf.mono _ _)
      | (with_reducible exact spec_WorstNames.mono _ _)
      | (with_reducible exact LeO.refl _)
      | (with_reducible exact LeO.none _)
      | (with_reducible refine LeO.ite ?_ ?_)
      | (with_reducible refine LeO.bind ?_ (fun _ => ?_))
      | exact ih0 _ _ _ _ _ _ _
      | exact ih1 _
      | exact ih2 _ _ _ _ _ _
      | exact ih3 _
      | exact ih4 _ _ _ _
      | exact ih5 _ _ _
      | exact ih6 _ _ _ _ _
      | exact ih7 _ _ _ _ _
      | exact ih8 _ _ _ _ _ _ _ _ _
      | exact ih9 _ _ _ _ _ _ _ _
      | exact ih10 _ _ _ _ _ _ _ _ _ _ _
      | exact ih11 _ _ _ _ _ _ _ _ _ _ _
      | exact ih12 _ _ _ _ _ _ _ _ _ _ _ _
      | exact impl_AreNames.mono _ _
      | exact impl_BestNames.mono _ _
      | exact impl_PassedOn.mono _ _
      | exact impl_SimpleMessages.mono _ _
      | exact impl_SumOfMessages.mono _ _
      | exact impl_WinnerOf.mono _ _
      | exact impl_WorstNames.mono _ _
      | exact laws_zSame.mono _ _ _
      | exact laws_zSum.mono _ _
      | exact spec_AreNames.mono _ _
      | exact spec_BestNames.mono _ _
      | exact spec_DrawPassedOn.mono _ _
      | exact spec_PassedOn.mono _ _
      | exact spec_SumOfMessages.mono _ _
      | exact spec_WinnerOf.mono _ _
      | exact spec_WorstNames.mono _ _
      | exact LeO.none _
      | refine LeO.ite ?_ ?_
      | refine LeO.bind ?_ (fun _ => ?_)
    · intro y0 y1 y2 y3 y4 y5 y6 y7 y8 y9 y10
      unfold laws_FnElectionsEnd.l1
      repeat' first
      | (with_reducible exact ih0 _ _ _ _ _ _ _)
      | (with_reducible exact ih1 _)
      | (with_reducible exact ih2 _ _ _ _ _ _)
      | (with_reducible exact ih3 _)
      | (with_reducible exact ih4 _ _ _ _)
      | (with_reducible exact ih5 _ _ _)
      | (with_reducible exact ih6 _ _ _ _ _)
      | (with_reducible exact ih7 _ _ _ _ _)
      | (with_reducible exact ih8 _ _ _ _ _ _ _ _ _)
      | (with_reducible exact ih9 _ _ _ _ _ _ _ _)
      | (with_reducible exact ih10 _ _ _ _ _ _ _ _ _ _ _)
      | (with_reducible exact ih11 _ _ _ _ _ _ _ _ _ _ _)
      | (with_reducible exact ih12 _ _ _ _ _ _ _ _ _ _ _ _)
      | (with_reducible exact impl_AreNames.mono _ _)
      | (with_reducible exact impl_BestNames.mono _ _)
      | (with_reducible exact impl_PassedOn.mono _ _)
      | (with_reducible exact impl_SimpleMessages.mono _ _)
      | (with_reducible exact impl_SumOfMessages.mono _ _)
      | (with_reducible exact impl_WinnerOf.mono _ _)
      | (with_reducible exact impl_WorstNames.mono _ _)
      | (with_reducible exact laws_zSame.mono _ _ _)
      | (with_reducible exact laws_zSum.mono _ _)
      | (with_reducible exact spec_AreNames.mono _ _)
      | (with_reducible exact spec_BestNames.mono _ _)
      | (with_reducible exact spec_DrawPassedOn.mono _ _)
      | (with_reducible exact spec_PassedOn.mono _ _)
      | (with_reducible exact spec_SumOfMessages.mono _ _)
      | (with_reducible exact spec_WinnerOf.mono _ _)
      | (with_reducible exact spec_WorstNames.mono _ _)
      | (with_reducible exact LeO.refl _)
      | (with_reducible exact LeO.none _)
      | (with_reducible refine LeO.ite ?_ ?_)
      | (with_reducible refine LeO.bind ?_ (fun _ => ?_))
      | exact ih0 _ _ _ _ _ _ _
      | exact ih1 _
      | exact ih2 _ _ _ _ _ _
      | exact ih3 _
      | exact ih4 _ _ _ _
      | exact ih5 _ _ _
      | exact ih6 _ _ _ _ _
      | exact ih7 _ _ _ _ _
      | exact ih8 _ _ _ _ _ _ _ _ _
      | exact ih9 _ _ _ _ _ _ _ _
      | exact ih10 _ _ _ _ _ _ _ _ _ _ _
      | exact ih11 _ _ _ _ _ _ _ _ _ _ _
      | exact ih12 _ _ _ _ _ _ _ _ _ _ _ _
      | exact impl_AreNames.mono _ _
      | exact impl_BestNames.mono _ _
      | exact impl_PassedOn.mono _ _
      | exact impl_SimpleMessages.mono _ _
      | exact impl_SumOfMessages.mono _ _
      | exact impl_WinnerOf.mono _ _
      | exact impl_WorstNames.mono _ _
      | exact laws_zSame.mono _ _ _
      | exact laws_zSum.mono _ _
      | exact spec_AreNames.mono _ _
      | exact spec_BestNames.mono _ _
      | exact spec_DrawPassedOn.mono _ _
      | exact spec_PassedOn.mono _ _
      | exact spec_SumOfMessages.mono _ _
      | exact spec_WinnerOf.mono _ _
      | exact spec_WorstNames.mono _ _
      | exact LeO.none _
      | refine LeO.ite ?_ ?_
      | refine LeO.bind ?_ (fun _ => ?_)
    · intro y0 y1 y2 y3 y4 y5 y6 y7 y8 y9 y10 y11
      unfold laws_FnElectionsEnd.j4
      repeat' first
      | (with_reducible exact ih0 _ _ _ _ _ _ _)
      | (with_reducible exact ih1 _)
      | (with_reducible exact ih2 _ _ _ _ _ _)
      | (with_reducible exact ih3 _)
      | (with_reducible exact ih4 _ _ _ _)
      | (with_reducible exact ih5 _ _ _)
      | (with_reducible exact ih6 _ _ _ _ _)
      | (with_reducible exact ih7 _ _ _ _ _)
      | (with_reducible exact ih8 _ _ _ _ _ _ _ _ _)
      | (with_reducible exact ih9 _ _ _ _ _ _ _ _)
      | (with_reducible exact ih10 _ _ _ _ _ _ _ _ _ _ _)
      | (with_reducible exact ih11 _ _ _ _ _ _ _ _ _ _ _)
      | (with_reducible exact ih12 _ _ _ _ _ _ _ _ _ _ _ _)
      | (with_reducible exact impl_AreNames.mono _ _)
      | (with_reducible exact impl_BestNames.mono _ _)
      | (with_reducible exact impl_PassedOn.mono _ _)
      | (with_reducible exact impl_SimpleMessages.mono _ _)
      | (with_reducible exact impl_SumOfMessages.mono _ _)
      | (with_reducible exact impl_WinnerOf.mono _ _)
      | (with_reducible exact impl_WorstNames.mono _ _)
      | (with_reducible exact laws_zSame.mono _ _ _)
      | (with_reducible exact laws_zSum.mono _ _)
      | (with_reducible exact spec_AreNames.mono _ _)
      | (with_reducible exact spec_BestNames.mono _ _)
      | (with_reducible exact spec_DrawPassedOn.mono _ _)
      | (with_reducible exact spec_PassedOn.mono _ _)
      | (with_reducible exact spec_SumOfMessages.mono _ _)
      | (with_reducible exact spec_WinnerOf.mono _ _)
      | (with_reducible exact spec_WorstNames.mono _ _)
      | (with_reducible exact LeO.refl _)
      | (with_reducible exact LeO.none _)
      | (with_reducible refine LeO.ite ?_ ?_)
      | (with_reducible refine LeO.bind ?_ (fun _ => ?_))
      | exact ih0 _ _ _ _ _ _ _
      | exact ih1 _
      | exact ih2 _ _ _ _ _ _
      | exact ih3 _
      | exact ih4 _ _ _ _
      | exact ih5 _ _ _
      | exact ih6 _ _ _ _ _
      | exact ih7 _ _ _ _ _
      | exact ih8 _ _ _ _ _ _ _ _ _
      | exact ih9 _ _ _ _ _ _ _ _
      | exact ih10 _ _ _ _ _ _ _ _ _ _ _
      | exact ih11 _ _ _ _ _ _ _ _ _ _ _
      | exact ih12 _ _ _ _ _ _ _ _ _ _ _ _
      | exact impl_AreNames.mono _ _
      | exact impl_BestNames.mono _ _
      | exact impl_PassedOn.mono _ _
      | exact impl_SimpleMessages.mono _ _
      | exact impl_SumOfMessages.mono _ _
      | exact impl_WinnerOf.mono _ _
      | exact impl_WorstNames.mono _ _
      | exact laws_zSame.mono _ _ _
      | exact laws_zSum.mono _ _
      | exact spec_AreNames.mono _ _
      | exact spec_BestNames.mono _ _
      | exact spec_DrawPassedOn.mono _ _
      | exact spec_PassedOn.mono _ _
      | exact spec_SumOfMessages.mono _ _
      | exact spec_WinnerOf.mono _ _
      | exact spec_WorstNames.mono _ _
      | exact LeO.none _
      | refine LeO.ite ?_ ?_
      | refine LeO.bind ?_ (fun _ => ?_)
def cA : Code → Code
  | .seq a _ => a
  | .cond _ a _ => a
  | .block _ a => a
  | .loop a => a
  | .scope a => a
  | c => c
def cB : Code → Code
  | .seq _ b => b
  | .cond _ _ b => b
  | c => c
/-- The body of the law, by itself. -/
noncomputable def P14 : Code := Try.f14.body.getD .skip
end Go.Proofs.Ytbiiklkkfkipeaa.X
