-- Written by a program of this session (wip/gen/xp.py, over the kit's printer). Not trusted: Lean checks it.
import Derived.Test.YtnghgpceaahkaaaX0
import Derived.Test.YtnghgpceaahkaaaXf4
import Derived.Test.YtnghgpceaahkaaaXf5
import Derived.Test.YtnghgpceaahkaaaXf6
import Derived.Test.YtnghgpceaahkaaaXf7
namespace Go.Proofs.Ytnghgpceaahkaaa.X
open Go.RowKit Go.Proofs.YtnghgpceaahkaaaW.PrintWords Go.Proofs.YtnghgpceaahkaaaW.PrintLast Go.Proofs.YtnghgpceaahkaaaW.PrintMore
attribute [local go_sem] max2_int min2_int max_two min_two max_three min_three max_four min_four   -- for this text's walks alone
set_option linter.unusedVariables false
set_option linter.unusedSimpArgs false

/-! ### laws_FnSlacks: function 3 -/
mutual
def laws_FnSlacks.j0 : Nat → List (S38) → List Int → Int → List Int → Bool → List (S38) → Int → List (S38) → Bool → Bool → Option (Bool)
 | 0, _, _, _, _, _, _, _, _, _, _ => none
 | k + 1, x3, x4, x5, x6, x7, x10, x11, x12, x13, x87 => if x87 = true then (some false) else (if x13 = true then (laws_FnSlacks.l0 k x3 x4 x5 x6 x7 x10 x11 x12 0) else (laws_FnSlacks.j3 k x3 x4 x5 x6 x7))
def laws_FnSlacks.j3 : Nat → List (S38) → List Int → Int → List Int → Bool → Option (Bool)
 | 0, _, _, _, _, _ => none
 | k + 1, x3, x4, x5, x6, x7 => if x7 = true then ((impl_EndsOf.f k x3 x4).bind fun bt462 => (laws_FnSlacks.l2 k x3 x4 x5 x6 bt462.1 0)) else (some true)
def laws_FnSlacks.l2 : Nat → List (S38) → List Int → Int → List Int → List Int → Int → Option (Bool)
 | 0, _, _, _, _, _, _ => none
 | k + 1, x3, x4, x5, x6, x22, x24 => if x24 < (x4.length : Int) then (laws_FnSlacks.l3 k x3 x4 x5 x6 x22 x24 false x24) else (some true)
def laws_FnSlacks.l3 : Nat → List (S38) → List Int → Int → List Int → List Int → Int → Bool → Int → Option (Bool)
 | 0, _, _, _, _, _, _, _, _ => none
 | k + 1, x3, x4, x5, x6, x22, x24, x25, x26 => if x26 < (x4.length : Int) then (if 0 ≤ x26 then (if 0 ≤ (rd x4 x26) then (if (rd x4 x26) < (x22.length : Int) then (if 0 ≤ x24 then (if x24 < (x6.length : Int) then (if (rd x4 x26) < (x3.length : Int) then (if (wrap64 ((wrap64 ((rd x22 (rd x4 x26)) + (rd x6 x24))) - ((rd_T38 x3 (rd x4 x26)).f3))) > x5 then (some false) else (if x25 = true then (laws_FnSlacks.l3 k x3 x4 x5 x6 x22 x24 true (wrap64 (x26 + 1))) else (laws_FnSlacks.l3 k x3 x4 x5 x6 x22 x24 ((wrap64 ((wrap64 ((rd x22 (rd x4 x26)) + (rd x6 x24))) - ((rd_T38 x3 (rd x4 x26)).f3))) == x5) (wrap64 (x26 + 1))))) else (none)) else (none)) else (none)) else (none)) else (none)) else (none)) else (if x25 = true then (laws_FnSlacks.l2 k x3 x4 x5 x6 x22 (wrap64 (x24 + 1))) else (some false))
def laws_FnSlacks.l0 : Nat → List (S38) → List Int → Int → List Int → Bool → List (S38) → Int → List (S38) → Int → Option (Bool)
 | 0, _, _, _, _, _, _, _, _, _ => none
 | k + 1, x3, x4, x5, x6, x7, x10, x11, x12, x16 => if x16 < (x10.length : Int) then (if 0 ≤ x16 then (if x16 < (x12.length : Int) then (if ((rd_T38 x12 x16).f0) = (wrap64 (x11 * ((rd_T38 x10 x16).f0))) then (if ((rd_T38 x12 x16).f2) = (wrap64 (x11 * ((rd_T38 x10 x16).f2))) then (if ((rd_T38 x12 x16).f3) = (wrap64 (x11 * ((rd_T38 x10 x16).f3))) then (if ((rd_T38 x12 x16).f1) = ((rd_T38 x10 x16).f1) then (laws_FnSlacks.l0 k x3 x4 x5 x6 x7 x10 x11 x12 (wrap64 (x16 + 1))) else (some false)) else (some false)) else (some false)) else (some false)) else (none)) else (none)) else (laws_FnSlacks.l1 k x3 x4 x5 x6 x7 x10 x12 1)
def laws_FnSlacks.l1 : Nat → List (S38) → List Int → Int → List Int → Bool → List (S38) → List (S38) → Int → Option (Bool)
 | 0, _, _, _, _, _, _, _, _ => none
 | k + 1, x3, x4, x5, x6, x7, x10, x12, x17 => if x17 ≤ 4 then ((impl_RuledOrder.f k x10 x17).bind fun bt453 => ((impl_RuledOrder.f k x12 x17).bind fun bt457 => (if (bt453.2 != bt457.2) = true then (some false) else ((laws_vInts.f k bt453.1 bt457.1).bind fun t461 => (if t461 = true then (laws_FnSlacks.l1 k x3 x4 x5 x6 x7 x10 x12 (wrap64 (x17 + 1))) else (some false)))))) else (laws_FnSlacks.j3 k x3 x4 x5 x6 x7)
end
def laws_FnSlacks.f (k : Nat) (l0 : List Int) : Option (Bool) := (laws_vBig.f l0).bind fun t412 => (if t412 = true then (some true) else ((spec_DrawSlacksOf.f k l0).bind fun bt413 => ((impl_SlacksOf.f k bt413.1 bt413.2.1 bt413.2.2).bind fun bt420 => ((spec_SlacksOf.f k bt413.1 bt413.2.1 bt413.2.2).bind fun bt424 => ((laws_vCut.f l0 1).bind fun t428 => ((spec_DrawStretchedJobs.f k t428).bind fun bt431 => ((impl_StretchedJobs.f k bt431.1 bt431.2).bind fun bt435 => ((spec_StretchedJobs.f k bt431.1 bt431.2).bind fun bt439 => (if (bt420.2 != bt424.2) = true then (laws_FnSlacks.j0 k bt413.1 bt413.2.1 bt413.2.2 bt420.1 bt420.2 bt431.1 bt431.2 bt435.1 bt435.2 true) else ((laws_vInts.f k bt420.1 bt424.1).bind fun t443 => (if t443 = true then (if (bt435.2 != bt439.2) = true then (laws_FnSlacks.j0 k bt413.1 bt413.2.1 bt413.2.2 bt420.1 bt420.2 bt431.1 bt431.2 bt435.1 bt435.2 true) else ((laws_vJobs.f k bt435.1 bt439.1).bind fun t444 => (laws_FnSlacks.j0 k bt413.1 bt413.2.1 bt413.2.2 bt420.1 bt420.2 bt431.1 bt431.2 bt435.1 bt435.2 (!t444)))) else (laws_FnSlacks.j0 k bt413.1 bt413.2.1 bt413.2.2 bt420.1 bt420.2 bt431.1 bt431.2 bt435.1 bt435.2 true))))))))))))
theorem laws_FnSlacks.mono_l : ∀ k, (∀ y0 y1 y2 y3 y4 y5 y6 y7 y8 y9, LeO (laws_FnSlacks.j0 k y0 y1 y2 y3 y4 y5 y6 y7 y8 y9) (laws_FnSlacks.j0 (k + 1) y0 y1 y2 y3 y4 y5 y6 y7 y8 y9)) ∧ (∀ y0 y1 y2 y3 y4, LeO (laws_FnSlacks.j3 k y0 y1 y2 y3 y4) (laws_FnSlacks.j3 (k + 1) y0 y1 y2 y3 y4)) ∧ (∀ y0 y1 y2 y3 y4 y5, LeO (laws_FnSlacks.l2 k y0 y1 y2 y3 y4 y5) (laws_FnSlacks.l2 (k + 1) y0 y1 y2 y3 y4 y5)) ∧ (∀ y0 y1 y2 y3 y4 y5 y6 y7, LeO (laws_FnSlacks.l3 k y0 y1 y2 y3 y4 y5 y6 y7) (laws_FnSlacks.l3 (k + 1) y0 y1 y2 y3 y4 y5 y6 y7)) ∧ (∀ y0 y1 y2 y3 y4 y5 y6 y7 y8, LeO (laws_FnSlacks.l0 k y0 y1 y2 y3 y4 y5 y6 y7 y8) (laws_FnSlacks.l0 (k + 1) y0 y1 y2 y3 y4 y5 y6 y7 y8)) ∧ (∀ y0 y1 y2 y3 y4 y5 y6 y7, LeO (laws_FnSlacks.l1 k y0 y1 y2 y3 y4 y5 y6 y7) (laws_FnSlacks.l1 (k + 1) y0 y1 y2 y3 y4 y5 y6 y7))
 | 0 => ⟨fun _ _ _ _ _ _ _ _ _ _ r h => by simp [laws_FnSlacks.j0] at h, fun _ _ _ _ _ r h => by simp [laws_FnSlacks.j3] at h, fun _ _ _ _ _ _ r h => by simp [laws_FnSlacks.l2] at h, fun _ _ _ _ _ _ _ _ r h => by simp [laws_FnSlacks.l3] at h, fun _ _ _ _ _ _ _ _ _ r h => by simp [laws_FnSlacks.l0] at h, fun _ _ _ _ _ _ _ _ r h => by simp [laws_FnSlacks.l1] at h⟩
 | k + 1 => by
  obtain ⟨ih0, ih1, ih2, ih3, ih4, ih5⟩ := laws_FnSlacks.mono_l k
  refine ⟨?_, ?_, ?_, ?_, ?_, ?_⟩
  ·intro y0 y1 y2 y3 y4 y5 y6 y7 y8 y9
   unfold laws_FnSlacks.j0
   repeat' first
   | (with_reducible exact ih0 _ _ _ _ _ _ _ _ _ _)
   | (with_reducible exact ih1 _ _ _ _ _)
   | (with_reducible exact ih2 _ _ _ _ _ _)
   | (with_reducible exact ih3 _ _ _ _ _ _ _ _)
   | (with_reducible exact ih4 _ _ _ _ _ _ _ _ _)
   | (with_reducible exact ih5 _ _ _ _ _ _ _ _)
   | (with_reducible exact impl_EndsOf.mono _ _ _)
   | (with_reducible exact impl_RuledOrder.mono _ _ _)
   | (with_reducible exact impl_SlacksOf.mono _ _ _ _)
   | (with_reducible exact impl_StretchedJobs.mono _ _ _)
   | (with_reducible exact laws_vInts.mono _ _ _)
   | (with_reducible exact laws_vJobs.mono _ _ _)
   | (with_reducible exact spec_DrawSlacksOf.mono _ _)
   | (with_reducible exact spec_DrawStretchedJobs.mono _ _)
   | (with_reducible exact spec_SlacksOf.mono _ _ _ _)
   | (with_reducible exact spec_StretchedJobs.mono _ _ _)
   | (with_reducible exact LeO.refl _)
   | (with_reducible exact LeO.none _)
   | (with_reducible refine LeO.ite ?_ ?_)
   | (with_reducible refine LeO.bind ?_ (fun _ => ?_))
   | exact ih0 _ _ _ _ _ _ _ _ _ _
   | exact ih1 _ _ _ _ _
   | exact ih2 _ _ _ _ _ _
   | exact ih3 _ _ _ _ _ _ _ _
   | exact ih4 _ _ _ _ _ _ _ _ _
   | exact ih5 _ _ _ _ _ _ _ _
   | exact impl_EndsOf.mono _ _ _
   | exact impl_RuledOrder.mono _ _ _
   | exact impl_SlacksOf.mono _ _ _ _
   | exact impl_StretchedJobs.mono _ _ _
   | exact laws_vInts.mono _ _ _
   | exact laws_vJobs.mono _ _ _
   | exact spec_DrawSlacksOf.mono _ _
   | exact spec_DrawStretchedJobs.mono _ _
   | exact spec_SlacksOf.mono _ _ _ _
   | exact spec_StretchedJobs.mono _ _ _
   | exact LeO.none _
   | refine LeO.ite ?_ ?_
   | refine LeO.bind ?_ (fun _ => ?_)
  ·intro y0 y1 y2 y3 y4
   unfold laws_FnSlacks.j3
   repeat' first
   | (with_reducible exact ih0 _ _ _ _ _ _ _ _ _ _)
   | (with_reducible exact ih1 _ _ _ _ _)
   | (with_reducible exact ih2 _ _ _ _ _ _)
   | (with_reducible exact ih3 _ _ _ _ _ _ _ _)
   | (with_reducible exact ih4 _ _ _ _ _ _ _ _ _)
   | (with_reducible exact ih5 _ _ _ _ _ _ _ _)
   | (with_reducible exact impl_EndsOf.mono _ _ _)
   | (with_reducible exact impl_RuledOrder.mono _ _ _)
   | (with_reducible exact impl_SlacksOf.mono _ _ _ _)
   | (with_reducible exact impl_StretchedJobs.mono _ _ _)
   | (with_reducible exact laws_vInts.mono _ _ _)
   | (with_reducible exact laws_vJobs.mono _ _ _)
   | (with_reducible exact spec_DrawSlacksOf.mono _ _)
   | (with_reducible exact spec_DrawStretchedJobs.mono _ _)
   | (with_reducible exact spec_SlacksOf.mono _ _ _ _)
   | (with_reducible exact spec_StretchedJobs.mono _ _ _)
   | (with_reducible exact LeO.refl _)
   | (with_reducible exact LeO.none _)
   | (with_reducible refine LeO.ite ?_ ?_)
   | (with_reducible refine LeO.bind ?_ (fun _ => ?_))
   | exact ih0 _ _ _ _ _ _ _ _ _ _
   | exact ih1 _ _ _ _ _
   | exact ih2 _ _ _ _ _ _
   | exact ih3 _ _ _ _ _ _ _ _
   | exact ih4 _ _ _ _ _ _ _ _ _
   | exact ih5 _ _ _ _ _ _ _ _
   | exact impl_EndsOf.mono _ _ _
   | exact impl_RuledOrder.mono _ _ _
   | exact impl_SlacksOf.mono _ _ _ _
   | exact impl_StretchedJobs.mono _ _ _
   | exact laws_vInts.mono _ _ _
   | exact laws_vJobs.mono _ _ _
   | exact spec_DrawSlacksOf.mono _ _
   | exact spec_DrawStretchedJobs.mono _ _
   | exact spec_SlacksOf.mono _ _ _ _
   | exact spec_StretchedJobs.mono _ _ _
   | exact LeO.none _
   | refine LeO.ite ?_ ?_
   | refine LeO.bind ?_ (fun _ => ?_)
  ·intro y0 y1 y2 y3 y4 y5
   unfold laws_FnSlacks.l2
   repeat' first
   | (with_reducible exact ih0 _ _ _ _ _ _ _ _ _ _)
   | (with_reducible exact ih1 _ _ _ _ _)
   | (with_reducible exact ih2 _ _ _ _ _ _)
   | (with_reducible exact ih3 _ _ _ _ _ _ _ _)
   | (with_reducible exact ih4 _ _ _ _ _ _ _ _ _)
   | (with_reducible exact ih5 _ _ _ _ _ _ _ _)
   | (with_reducible exact impl_EndsOf.mono _ _ _)
   | (with_reducible exact impl_RuledOrder.mono _ _ _)
   | (with_reducible exact impl_SlacksOf.mono _ _ _ _)
   | (with_reducible exact impl_StretchedJobs.mono _ _ _)
   | (with_reducible exact laws_vInts.mono _ _ _)
   | (with_reducible exact laws_vJobs.mono _ _ _)
   | (with_reducible exact spec_DrawSlacksOf.mono _ _)
   | (with_reducible exact spec_DrawStretchedJobs.mono _ _)
   | (with_reducible exact spec_SlacksOf.mono _ _ _ _)
   | (with_reducible exact spec_StretchedJobs.mono _ _ _)
   | (with_reducible exact LeO.refl _)
   | (with_reducible exact LeO.none _)
   | (with_reducible refine LeO.ite ?_ ?_)
   | (with_reducible refine LeO.bind ?_ (fun _ => ?_))
   | exact ih0 _ _ _ _ _ _ _ _ _ _
   | exact ih1 _ _ _ _ _
   | exact ih2 _ _ _ _ _ _
   | exact ih3 _ _ _ _ _ _ _ _
   | exact ih4 _ _ _ _ _ _ _ _ _
   | exact ih5 _ _ _ _ _ _ _ _
   | exact impl_EndsOf.mono _ _ _
   | exact impl_RuledOrder.mono _ _ _
   | exact impl_SlacksOf.mono _ _ _ _
   | exact impl_StretchedJobs.mono _ _ _
   | exact laws_vInts.mono _ _ _
   | exact laws_vJobs.mono _ _ _
   | exact spec_DrawSlacksOf.mono _ _
   | exact spec_DrawStretchedJobs.mono _ _
   | exact spec_SlacksOf.mono _ _ _ _
   | exact spec_StretchedJobs.mono _ _ _
   | exact LeO.none _
   | refine LeO.ite ?_ ?_
   | refine LeO.bind ?_ (fun _ => ?_)
  ·intro y0 y1 y2 y3 y4 y5 y6 y7
   unfold laws_FnSlacks.l3
   repeat' first
   | (with_reducible exact ih0 _ _ _ _ _ _ _ _ _ _)
   | (with_reducible exact ih1 _ _ _ _ _)
   | (with_reducible exact ih2 _ _ _ _ _ _)
   | (with_reducible exact ih3 _ _ _ _ _ _ _ _)
   | (with_reducible exact ih4 _ _ _ _ _ _ _ _ _)
   | (with_reducible exact ih5 _ _ _ _ _ _ _ _)
   | (with_reducible exact impl_EndsOf.mono _ _ _)
   | (with_reducible exact impl_RuledOrder.mono _ _ _)
   | (with_reducible exact impl_SlacksOf.mono _ _ _ _)
   | (with_reducible exact impl_StretchedJobs.mono _ _ _)
   | (with_reducible exact laws_vInts.mono _ _ _)
   | (with_reducible exact laws_vJobs.mono _ _ _)
   | (with_reducible exact spec_DrawSlacksOf.mono _ _)
   | (with_reducible exact spec_DrawStretchedJobs.mono _ _)
   | (with_reducible exact spec_SlacksOf.mono _ _ _ _)
   | (with_reducible exact spec_StretchedJobs.mono _ _ _)
   | (with_reducible exact LeO.refl _)
   | (with_reducible exact LeO.none _)
   | (with_reducible refine LeO.ite ?_ ?_)
   | (with_reducible refine LeO.bind ?_ (fun _ => ?_))
   | exact ih0 _ _ _ _ _ _ _ _ _ _
   | exact ih1 _ _ _ _ _
   | exact ih2 _ _ _ _ _ _
   | exact ih3 _ _ _ _ _ _ _ _
   | exact ih4 _ _ _ _ _ _ _ _ _
   | exact ih5 _ _ _ _ _ _ _ _
   | exact impl_EndsOf.mono _ _ _
   | exact impl_RuledOrder.mono _ _ _
   | exact impl_SlacksOf.mono _ _ _ _
   | exact impl_StretchedJobs.mono _ _ _
   | exact laws_vInts.mono _ _ _
   | exact laws_vJobs.mono _ _ _
   | exact spec_DrawSlacksOf.mono _ _
   | exact spec_DrawStretchedJobs.mono _ _
   | exact spec_SlacksOf.mono _ _ _ _
   | exact spec_StretchedJobs.mono _ _ _
   | exact LeO.none _
   | refine LeO.ite ?_ ?_
   | refine LeO.bind ?_ (fun _ => ?_)
  ·intro y0 y1 y2 y3 y4 y5 y6 y7 y8
   unfold laws_FnSlacks.l0
   repeat' first
   | (with_reducible exact ih0 _ _ _ _ _ _ _ _ _ _)
   | (with_reducible exact ih1 _ _ _ _ _)
   | (with_reducible exact ih2 _ _ _ _ _ _)
   | (with_reducible exact ih3 _ _ _ _ _ _ _ _)
   | (with_reducible exact ih4 _ _ _ _ _ _ _ _ _)
   | (with_reducible exact ih5 _ _ _ _ _ _ _ _)
   | (with_reducible exact impl_EndsOf.mono _ _ _)
   | (with_reducible exact impl_RuledOrder.mono _ _ _)
   | (with_reducible exact impl_SlacksOf.mono _ _ _ _)
   | (with_reducible exact impl_StretchedJobs.mono _ _ _)
   | (with_reducible exact laws_vInts.mono _ _ _)
   | (with_reducible exact laws_vJobs.mono _ _ _)
   | (with_reducible exact spec_DrawSlacksOf.mono _ _)
   | (with_reducible exact spec_DrawStretchedJobs.mono _ _)
   | (with_reducible exact spec_SlacksOf.mono _ _ _ _)
   | (with_reducible exact spec_StretchedJobs.mono _ _ _)
   | (with_reducible exact LeO.refl _)
   | (with_reducible exact LeO.none _)
   | (with_reducible refine LeO.ite ?_ ?_)
   | (with_reducible refine LeO.bind ?_ (fun _ => ?_))
   | exact ih0 _ _ _ _ _ _ _ _ _ _
   | exact ih1 _ _ _ _ _
   | exact ih2 _ _ _ _ _ _
   | exact ih3 _ _ _ _ _ _ _ _
   | exact ih4 _ _ _ _ _ _ _ _ _
   | exact ih5 _ _ _ _ _ _ _ _
   | exact impl_EndsOf.mono _ _ _
   | exact impl_RuledOrder.mono _ _ _
   | exact impl_SlacksOf.mono _ _ _ _
   | exact impl_StretchedJobs.mono _ _ _
   | exact laws_vInts.mono _ _ _
   | exact laws_vJobs.mono _ _ _
   | exact spec_DrawSlacksOf.mono _ _
   | exact spec_DrawStretchedJobs.mono _ _
   | exact spec_SlacksOf.mono _ _ _ _
   | exact spec_StretchedJobs.mono _ _ _
   | exact LeO.none _
   | refine LeO.ite ?_ ?_
   | refine LeO.bind ?_ (fun _ => ?_)
  ·intro y0 y1 y2 y3 y4 y5 y6 y7
   unfold laws_FnSlacks.l1
   repeat' first
   | (with_reducible exact ih0 _ _ _ _ _ _ _ _ _ _)
   | (with_reducible exact ih1 _ _ _ _ _)
   | (with_reducible exact ih2 _ _ _ _ _ _)
   | (with_reducible exact ih3 _ _ _ _ _ _ _ _)
   | (with_reducible exact ih4 _ _ _ _ _ _ _ _ _)
   | (with_reducible exact ih5 _ _ _ _ _ _ _ _)
   | (with_reducible exact impl_EndsOf.mono _ _ _)
   | (with_reducible exact impl_RuledOrder.mono _ _ _)
   | (with_reducible exact impl_SlacksOf.mono _ _ _ _)
   | (with_reducible exact impl_StretchedJobs.mono _ _ _)
   | (with_reducible exact laws_vInts.mono _ _ _)
   | (with_reducible exact laws_vJobs.mono _ _ _)
   | (with_reducible exact spec_DrawSlacksOf.mono _ _)
   | (with_reducible exact spec_DrawStretchedJobs.mono _ _)
   | (with_reducible exact spec_SlacksOf.mono _ _ _ _)
   | (with_reducible exact spec_StretchedJobs.mono _ _ _)
   | (with_reducible exact LeO.refl _)
   | (with_reducible exact LeO.none _)
   | (with_reducible refine LeO.ite ?_ ?_)
   | (with_reducible refine LeO.bind ?_ (fun _ => ?_))
   | exact ih0 _ _ _ _ _ _ _ _ _ _
   | exact ih1 _ _ _ _ _
   | exact ih2 _ _ _ _ _ _
   | exact ih3 _ _ _ _ _ _ _ _
   | exact ih4 _ _ _ _ _ _ _ _ _
   | exact ih5 _ _ _ _ _ _ _ _
   | exact impl_EndsOf.mono _ _ _
   | exact impl_RuledOrder.mono _ _ _
   | exact impl_SlacksOf.mono _ _ _ _
   | exact impl_StretchedJobs.mono _ _ _
   | exact laws_vInts.mono _ _ _
   | exact laws_vJobs.mono _ _ _
   | exact spec_DrawSlacksOf.mono _ _
   | exact spec_DrawStretchedJobs.mono _ _
   | exact spec_SlacksOf.mono _ _ _ _
   | exact spec_StretchedJobs.mono _ _ _
   | exact LeO.none _
   | refine LeO.ite ?_ ?_
   | refine LeO.bind ?_ (fun _ => ?_)
theorem laws_FnSlacks.mono : ∀ a0 k, LeO (laws_FnSlacks.f k a0) (laws_FnSlacks.f (k + 1) a0) := by
 intro a0 k
 obtain ⟨ih0, ih1, ih2, ih3, ih4, ih5⟩ := laws_FnSlacks.mono_l k
 unfold laws_FnSlacks.f
 repeat' first
   | (with_reducible exact ih0 _ _ _ _ _ _ _ _ _ _)
   | (with_reducible exact ih1 _ _ _ _ _)
   | (with_reducible exact ih2 _ _ _ _ _ _)
   | (with_reducible exact ih3 _ _ _ _ _ _ _ _)
   | (with_reducible exact ih4 _ _ _ _ _ _ _ _ _)
   | (with_reducible exact ih5 _ _ _ _ _ _ _ _)
   | (with_reducible exact impl_EndsOf.mono _ _ _)
   | (with_reducible exact impl_RuledOrder.mono _ _ _)
   | (with_reducible exact impl_SlacksOf.mono _ _ _ _)
   | (with_reducible exact impl_StretchedJobs.mono _ _ _)
   | (with_reducible exact laws_vInts.mono _ _ _)
   | (with_reducible exact laws_vJobs.mono _ _ _)
   | (with_reducible exact spec_DrawSlacksOf.mono _ _)
   | (with_reducible exact spec_DrawStretchedJobs.mono _ _)
   | (with_reducible exact spec_SlacksOf.mono _ _ _ _)
   | (with_reducible exact spec_StretchedJobs.mono _ _ _)
   | (with_reducible exact LeO.refl _)
   | (with_reducible exact LeO.none _)
   | (with_reducible refine LeO.ite ?_ ?_)
   | (with_reducible refine LeO.bind ?_ (fun _ => ?_))
   | exact ih0 _ _ _ _ _ _ _ _ _ _
   | exact ih1 _ _ _ _ _
   | exact ih2 _ _ _ _ _ _
   | exact ih3 _ _ _ _ _ _ _ _
   | exact ih4 _ _ _ _ _ _ _ _ _
   | exact ih5 _ _ _ _ _ _ _ _
   | exact impl_EndsOf.mono _ _ _
   | exact impl_RuledOrder.mono _ _ _
   | exact impl_SlacksOf.mono _ _ _ _
   | exact impl_StretchedJobs.mono _ _ _
   | exact laws_vInts.mono _ _ _
   | exact laws_vJobs.mono _ _ _
   | exact spec_DrawSlacksOf.mono _ _
   | exact spec_DrawStretchedJobs.mono _ _
   | exact spec_SlacksOf.mono _ _ _ _
   | exact spec_StretchedJobs.mono _ _ _
   | exact LeO.none _
   | refine LeO.ite ?_ ?_
   | refine LeO.bind ?_ (fun _ => ?_)
set_option maxHeartbeats 8000000 in
set_option maxRecDepth 100000 in
theorem laws_FnSlacks.calls (k : Nat) (A0 : Option Addr) (c0 : Nat) (l0 : List Int) (r : Bool) (w : World) (hr0 : Kd.C (Kd.int .u8) w A0 l0.length l0) (hc0 : l0.length ≤ c0) (h : laws_FnSlacks.f k l0 = some r) :
  Calls Try.prog 3 #[.slice A0 l0.length c0] w fun e w' => e = .returned (.bool r) ∧ Below w.heap.size w w' := by
 have HR0 := Aside0.mk hr0
 have HC0 := Aside0.mk hc0
 clear hr0 hc0
 have HB := Aside0.mk (Below.refl w.heap.size w)
 have H : ((laws_vBig.f l0).bind fun t412 => (if t412 = true then (some true) else ((spec_DrawSlacksOf.f k l0).bind fun bt413 => ((impl_SlacksOf.f k bt413.1 bt413.2.1 bt413.2.2).bind fun bt420 => ((spec_SlacksOf.f k bt413.1 bt413.2.1 bt413.2.2).bind fun bt424 => ((laws_vCut.f l0 1).bind fun t428 => ((spec_DrawStretchedJobs.f k t428).bind fun bt431 => ((impl_StretchedJobs.f k bt431.1 bt431.2).bind fun bt435 => ((spec_StretchedJobs.f k bt431.1 bt431.2).bind fun bt439 => (if (bt420.2 != bt424.2) = true then (laws_FnSlacks.j0 k bt413.1 bt413.2.1 bt413.2.2 bt420.1 bt420.2 bt431.1 bt431.2 bt435.1 bt435.2 true) else ((laws_vInts.f k bt420.1 bt424.1).bind fun t443 => (if t443 = true then (if (bt435.2 != bt439.2) = true then (laws_FnSlacks.j0 k bt413.1 bt413.2.1 bt413.2.2 bt420.1 bt420.2 bt431.1 bt431.2 bt435.1 bt435.2 true) else ((laws_vJobs.f k bt435.1 bt439.1).bind fun t444 => (laws_FnSlacks.j0 k bt413.1 bt413.2.1 bt413.2.2 bt420.1 bt420.2 bt431.1 bt431.2 bt435.1 bt435.2 (!t444)))) else (laws_FnSlacks.j0 k bt413.1 bt413.2.1 bt413.2.2 bt420.1 bt420.2 bt431.1 bt431.2 bt435.1 bt435.2 true))))))))))))) = some r := h
 clear h
 replace H := Option.bind_eq_some_iff.mp H
 obtain ⟨t412, A20, H⟩ := H
 replace H : (if t412 = true then (some true) else ((spec_DrawSlacksOf.f k l0).bind fun bt413 => ((impl_SlacksOf.f k bt413.1 bt413.2.1 bt413.2.2).bind fun bt420 => ((spec_SlacksOf.f k bt413.1 bt413.2.1 bt413.2.2).bind fun bt424 => ((laws_vCut.f l0 1).bind fun t428 => ((spec_DrawStretchedJobs.f k t428).bind fun bt431 => ((impl_StretchedJobs.f k bt431.1 bt431.2).bind fun bt435 => ((spec_StretchedJobs.f k bt431.1 bt431.2).bind fun bt439 => (if (bt420.2 != bt424.2) = true then (laws_FnSlacks.j0 k bt413.1 bt413.2.1 bt413.2.2 bt420.1 bt420.2 bt431.1 bt431.2 bt435.1 bt435.2 true) else ((laws_vInts.f k bt420.1 bt424.1).bind fun t443 => (if t443 = true then (if (bt435.2 != bt439.2) = true then (laws_FnSlacks.j0 k bt413.1 bt413.2.1 bt413.2.2 bt420.1 bt420.2 bt431.1 bt431.2 bt435.1 bt435.2 true) else ((laws_vJobs.f k bt435.1 bt439.1).bind fun t444 => (laws_FnSlacks.j0 k bt413.1 bt413.2.1 bt413.2.2 bt420.1 bt420.2 bt431.1 bt431.2 bt435.1 bt435.2 (!t444)))) else (laws_FnSlacks.j0 k bt413.1 bt413.2.1 bt413.2.2 bt420.1 bt420.2 bt431.1 bt431.2 bt435.1 bt435.2 true)))))))))))) = some r := H
 have A2 := Aside0.mk A20
 clear A20
 by_cases c3 : t412 = true
 ·subst c3
  have H1 : (some true) = some r := by rw [if_pos rfl] at H; exact H
  clear H
  have H := H1
  clear H1
  obtain rfl := Option.some.inj H
  go_enter Try.func3, Try.ntmps3
  have go_ := True.intro
  repeat ((first | go_quiet (first | (go_at_call 4; (with_reducible refine (laws_vBig.calls _ _ l0 true _ ?side1 ?side2 A2.out).mono ?_); (case side1 => repeat (first | exact HR0.out | (with_reducible refine Kd.C_alloc ?_ _) | (with_reducible refine Kd.C_drewN ?_ _) | (with_reducible refine Kd.C_drew ?_))); (case side2 => exact HC0.out); rintro e w' ⟨rfl, ⟨nd, rfl⟩⟩; (try first | exact ⟨rfl, _, World.drewN_drewN _ _ _⟩ | exact ⟨rfl, _, Eq.trans (World.drewN_drewN _ _ _) (congrArg (World.drewN _) (Nat.add_assoc _ _ _))⟩))) | clear go_); go_wp2_with (first | (go_at_call 4; (with_reducible refine (laws_vBig.calls _ _ l0 true _ ?side1 ?side2 A2.out).mono ?_); (case side1 => repeat (first | exact HR0.out | (with_reducible refine Kd.C_alloc ?_ _) | (with_reducible refine Kd.C_drewN ?_ _) | (with_reducible refine Kd.C_drew ?_))); (case side2 => exact HC0.out); rintro e w' ⟨rfl, ⟨nd, rfl⟩⟩; (try first | exact ⟨rfl, _, World.drewN_drewN _ _ _⟩ | exact ⟨rfl, _, Eq.trans (World.drewN_drewN _ _ _) (congrArg (World.drewN _) (Nat.add_assoc _ _ _))⟩))))
  go_ret
  exact ⟨by first | rfl | (simp [errW_none, errW_some] <;> rfl) | (simp [*, errW_none, errW_some] <;> rfl), bw HB.out⟩
 replace c3 := Bool.eq_false_iff.mpr c3
 subst c3
 have H1 : ((spec_DrawSlacksOf.f k l0).bind fun bt413 => ((impl_SlacksOf.f k bt413.1 bt413.2.1 bt413.2.2).bind fun bt420 => ((spec_SlacksOf.f k bt413.1 bt413.2.1 bt413.2.2).bind fun bt424 => ((laws_vCut.f l0 1).bind fun t428 => ((spec_DrawStretchedJobs.f k t428).bind fun bt431 => ((impl_StretchedJobs.f k bt431.1 bt431.2).bind fun bt435 => ((spec_StretchedJobs.f k bt431.1 bt431.2).bind fun bt439 => (if (bt420.2 != bt424.2) = true then (laws_FnSlacks.j0 k bt413.1 bt413.2.1 bt413.2.2 bt420.1 bt420.2 bt431.1 bt431.2 bt435.1 bt435.2 true) else ((laws_vInts.f k bt420.1 bt424.1).bind fun t443 => (if t443 = true then (if (bt435.2 != bt439.2) = true then (laws_FnSlacks.j0 k bt413.1 bt413.2.1 bt413.2.2 bt420.1 bt420.2 bt431.1 bt431.2 bt435.1 bt435.2 true) else ((laws_vJobs.f k bt435.1 bt439.1).bind fun t444 => (laws_FnSlacks.j0 k bt413.1 bt413.2.1 bt413.2.2 bt420.1 bt420.2 bt431.1 bt431.2 bt435.1 bt435.2 (!t444)))) else (laws_FnSlacks.j0 k bt413.1 bt413.2.1 bt413.2.2 bt420.1 bt420.2 bt431.1 bt431.2 bt435.1 bt435.2 true))))))))))) = some r := by rw [if_neg (show ¬ (false = true) by decide)] at H; exact H
 clear H
 have H := H1
 clear H1
 replace H := Option.bind_eq_some_iff.mp H
 obtain ⟨⟨t413, t414, t415⟩, A40, H⟩ := H
 replace H : ((impl_SlacksOf.f k t413 t414 t415).bind fun bt420 => ((spec_SlacksOf.f k t413 t414 t415).bind fun bt424 => ((laws_vCut.f l0 1).bind fun t428 => ((spec_DrawStretchedJobs.f k t428).bind fun bt431 => ((impl_StretchedJobs.f k bt431.1 bt431.2).bind fun bt435 => ((spec_StretchedJobs.f k bt431.1 bt431.2).bind fun bt439 => (if (bt420.2 != bt424.2) = true then (laws_FnSlacks.j0 k t413 t414 t415 bt420.1 bt420.2 bt431.1 bt431.2 bt435.1 bt435.2 true) else ((laws_vInts.f k bt420.1 bt424.1).bind fun t443 => (if t443 = true then (if (bt435.2 != bt439.2) = true then (laws_FnSlacks.j0 k t413 t414 t415 bt420.1 bt420.2 bt431.1 bt431.2 bt435.1 bt435.2 true) else ((laws_vJobs.f k bt435.1 bt439.1).bind fun t444 => (laws_FnSlacks.j0 k t413 t414 t415 bt420.1 bt420.2 bt431.1 bt431.2 bt435.1 bt435.2 (!t444)))) else (laws_FnSlacks.j0 k t413 t414 t415 bt420.1 bt420.2 bt431.1 bt431.2 bt435.1 bt435.2 true)))))))))) = some r := H
 have A4 := Aside0.mk A40
 clear A40
 replace H := Option.bind_eq_some_iff.mp H
 obtain ⟨⟨t420, t421⟩, A50, H⟩ := H
 replace H : ((spec_SlacksOf.f k t413 t414 t415).bind fun bt424 => ((laws_vCut.f l0 1).bind fun t428 => ((spec_DrawStretchedJobs.f k t428).bind fun bt431 => ((impl_StretchedJobs.f k bt431.1 bt431.2).bind fun bt435 => ((spec_StretchedJobs.f k bt431.1 bt431.2).bind fun bt439 => (if (t421 != bt424.2) = true then (laws_FnSlacks.j0 k t413 t414 t415 t420 t421 bt431.1 bt431.2 bt435.1 bt435.2 true) else ((laws_vInts.f k t420 bt424.1).bind fun t443 => (if t443 = true then (if (bt435.2 != bt439.2) = true then (laws_FnSlacks.j0 k t413 t414 t415 t420 t421 bt431.1 bt431.2 bt435.1 bt435.2 true) else ((laws_vJobs.f k bt435.1 bt439.1).bind fun t444 => (laws_FnSlacks.j0 k t413 t414 t415 t420 t421 bt431.1 bt431.2 bt435.1 bt435.2 (!t444)))) else (laws_FnSlacks.j0 k t413 t414 t415 t420 t421 bt431.1 bt431.2 bt435.1 bt435.2 true))))))))) = some r := H
 have A5 := Aside0.mk A50
 clear A50
 replace H := Option.bind_eq_some_iff.mp H
 obtain ⟨⟨t424, t425⟩, A60, H⟩ := H
 replace H : ((laws_vCut.f l0 1).bind fun t428 => ((spec_DrawStretchedJobs.f k t428).bind fun bt431 => ((impl_StretchedJobs.f k bt431.1 bt431.2).bind fun bt435 => ((spec_StretchedJobs.f k bt431.1 bt431.2).bind fun bt439 => (if (t421 != t425) = true then (laws_FnSlacks.j0 k t413 t414 t415 t420 t421 bt431.1 bt431.2 bt435.1 bt435.2 true) else ((laws_vInts.f k t420 t424).bind fun t443 => (if t443 = true then (if (bt435.2 != bt439.2) = true then (laws_FnSlacks.j0 k t413 t414 t415 t420 t421 bt431.1 bt431.2 bt435.1 bt435.2 true) else ((laws_vJobs.f k bt435.1 bt439.1).bind fun t444 => (laws_FnSlacks.j0 k t413 t414 t415 t420 t421 bt431.1 bt431.2 bt435.1 bt435.2 (!t444)))) else (laws_FnSlacks.j0 k t413 t414 t415 t420 t421 bt431.1 bt431.2 bt435.1 bt435.2 true)))))))) = some r := H
 have A6 := Aside0.mk A60
 clear A60
 replace H := Option.bind_eq_some_iff.mp H
 obtain ⟨t428, A70, H⟩ := H
 replace H : ((spec_DrawStretchedJobs.f k t428).bind fun bt431 => ((impl_StretchedJobs.f k bt431.1 bt431.2).bind fun bt435 => ((spec_StretchedJobs.f k bt431.1 bt431.2).bind fun bt439 => (if (t421 != t425) = true then (laws_FnSlacks.j0 k t413 t414 t415 t420 t421 bt431.1 bt431.2 bt435.1 bt435.2 true) else ((laws_vInts.f k t420 t424).bind fun t443 => (if t443 = true then (if (bt435.2 != bt439.2) = true then (laws_FnSlacks.j0 k t413 t414 t415 t420 t421 bt431.1 bt431.2 bt435.1 bt435.2 true) else ((laws_vJobs.f k bt435.1 bt439.1).bind fun t444 => (laws_FnSlacks.j0 k t413 t414 t415 t420 t421 bt431.1 bt431.2 bt435.1 bt435.2 (!t444)))) else (laws_FnSlacks.j0 k t413 t414 t415 t420 t421 bt431.1 bt431.2 bt435.1 bt435.2 true))))))) = some r := H
 have A7 := Aside0.mk A70
 clear A70
 replace H := Option.bind_eq_some_iff.mp H
 obtain ⟨⟨t431, t432⟩, A80, H⟩ := H
 replace H : ((impl_StretchedJobs.f k t431 t432).bind fun bt435 => ((spec_StretchedJobs.f k t431 t432).bind fun bt439 => (if (t421 != t425) = true then (laws_FnSlacks.j0 k t413 t414 t415 t420 t421 t431 t432 bt435.1 bt435.2 true) else ((laws_vInts.f k t420 t424).bind fun t443 => (if t443 = true then (if (bt435.2 != bt439.2) = true then (laws_FnSlacks.j0 k t413 t414 t415 t420 t421 t431 t432 bt435.1 bt435.2 true) else ((laws_vJobs.f k bt435.1 bt439.1).bind fun t444 => (laws_FnSlacks.j0 k t413 t414 t415 t420 t421 t431 t432 bt435.1 bt435.2 (!t444)))) else (laws_FnSlacks.j0 k t413 t414 t415 t420 t421 t431 t432 bt435.1 bt435.2 true)))))) = some r := H
 have A8 := Aside0.mk A80
 clear A80
 replace H := Option.bind_eq_some_iff.mp H
 obtain ⟨⟨t435, t436⟩, A90, H⟩ := H
 replace H : ((spec_StretchedJobs.f k t431 t432).bind fun bt439 => (if (t421 != t425) = true then (laws_FnSlacks.j0 k t413 t414 t415 t420 t421 t431 t432 t435 t436 true) else ((laws_vInts.f k t420 t424).bind fun t443 => (if t443 = true then (if (t436 != bt439.2) = true then (laws_FnSlacks.j0 k t413 t414 t415 t420 t421 t431 t432 t435 t436 true) else ((laws_vJobs.f k t435 bt439.1).bind fun t444 => (laws_FnSlacks.j0 k t413 t414 t415 t420 t421 t431 t432 t435 t436 (!t444)))) else (laws_FnSlacks.j0 k t413 t414 t415 t420 t421 t431 t432 t435 t436 true))))) = some r := H
 have A9 := Aside0.mk A90
 clear A90
 replace H := Option.bind_eq_some_iff.mp H
 obtain ⟨⟨t439, t440⟩, A100, H⟩ := H
 replace H : (if (t421 != t425) = true then (laws_FnSlacks.j0 k t413 t414 t415 t420 t421 t431 t432 t435 t436 true) else ((laws_vInts.f k t420 t424).bind fun t443 => (if t443 = true then (if (t436 != t440) = true then (laws_FnSlacks.j0 k t413 t414 t415 t420 t421 t431 t432 t435 t436 true) else ((laws_vJobs.f k t435 t439).bind fun t444 => (laws_FnSlacks.j0 k t413 t414 t415 t420 t421 t431 t432 t435 t436 (!t444)))) else (laws_FnSlacks.j0 k t413 t414 t415 t420 t421 t431 t432 t435 t436 true)))) = some r := H
 have A10 := Aside0.mk A100
 clear A100
 have HC11 := Aside0.mk H
 clear H
 go_enter Try.func3, Try.ntmps3
 go_upto_region 9 with (first | (go_at_call 4; (with_reducible refine (laws_vBig.calls _ _ l0 false _ ?side1 ?side2 A2.out).mono ?_); (case side1 => repeat (first | exact HR0.out | (with_reducible refine Kd.C_alloc ?_ _) | (with_reducible refine Kd.C_drewN ?_ _) | (with_reducible refine Kd.C_drew ?_))); (case side2 => exact HC0.out); rintro e w' ⟨rfl, ⟨nd, rfl⟩⟩; (try first | exact ⟨rfl, _, World.drewN_drewN _ _ _⟩ | exact ⟨rfl, _, Eq.trans (World.drewN_drewN _ _ _) (congrArg (World.drewN _) (Nat.add_assoc _ _ _))⟩)) | (go_at_call 5; (with_reducible refine (spec_DrawSlacksOf.calls k _ _ l0 t413 t414 t415 _ ?side1 ?side2 A4.out).mono ?_); (case side1 => repeat (first | exact HR0.out | (with_reducible refine Kd.C_alloc ?_ _) | (with_reducible refine Kd.C_drewN ?_ _) | (with_reducible refine Kd.C_drew ?_))); (case side2 => exact HC0.out); rintro e w12 ⟨v416, v418, rfl, ho0, ho1, hb⟩; have n0_ := Aside0.mk (Kd.R_lower ho0 (below_size (bw HB.out))); have n1_ := Aside0.mk (Kd.R_lower ho1 (below_size (bw HB.out))); have n2_ := Aside0.mk (below_step (bw HB.out) hb); have HO417 := n0_; have HO419 := n1_; replace HB := n2_; clear n0_ n1_ n2_; (try clear hb); (try clear hb2); (try clear hk); (try clear hi); (try clear ho0); (try clear ho1); obtain ⟨Ao13, co13, eo13⟩ := Kd.R_slice HO417.out; subst eo13; obtain ⟨Ao14, co14, eo14⟩ := Kd.R_slice HO419.out; subst eo14) | (go_at_call 6; (with_reducible refine (impl_SlacksOf.calls k _ _ t413 _ _ t414 t415 t420 t421 _ ?side1 ?side2 ?side3 ?side4 A5.out).mono ?_); (case side1 => repeat (first | exact (Kd.R_reads' HO417.out).2.2 | (with_reducible refine Kd.C_alloc ?_ _) | (with_reducible refine Kd.C_drewN ?_ _) | (with_reducible refine Kd.C_drew ?_))); (case side2 => exact (Kd.R_reads' HO417.out).2.1); (case side3 => repeat (first | exact (Kd.R_reads' HO419.out).2.2 | (with_reducible refine Kd.C_alloc ?_ _) | (with_reducible refine Kd.C_drewN ?_ _) | (with_reducible refine Kd.C_drew ?_))); (case side4 => exact (Kd.R_reads' HO419.out).2.1); rintro e w15 ⟨v422, rfl, ho0, hb⟩; have n0_ := Aside0.mk (Kd.R_below (bR HO417.out) hb); have n1_ := Aside0.mk (Kd.R_elder' (bR HO419.out) (Kd.R_base ho0) hb); have n2_ := Aside0.mk (Kd.R_lower (Kd.R_new' ho0 (Kd.R_lt (bR HO419.out))) (below_size (bw HB.out))); have n3_ := Aside0.mk (below_step (bw HB.out) hb); replace HO417 := n0_; replace HO419 := n1_; have HO423 := n2_; replace HB := n3_; clear n0_ n1_ n2_ n3_; (try clear hb); (try clear hb2); (try clear hk); (try clear hi); (try clear ho0)) | (go_at_call 7; (with_reducible refine (spec_SlacksOf.calls k _ _ t413 _ _ t414 t415 t424 t425 _ ?side1 ?side2 ?side3 ?side4 A6.out).mono ?_); (case side1 => repeat (first | exact (Kd.R_reads' HO417.out).2.2 | (with_reducible refine Kd.C_alloc ?_ _) | (with_reducible refine Kd.C_drewN ?_ _) | (with_reducible refine Kd.C_drew ?_))); (case side2 => exact (Kd.R_reads' HO417.out).2.1); (case side3 => repeat (first | exact (Kd.R_reads' HO419.out).2.2 | (with_reducible refine Kd.C_alloc ?_ _) | (with_reducible refine Kd.C_drewN ?_ _) | (with_reducible refine Kd.C_drew ?_))); (case side4 => exact (Kd.R_reads' HO419.out).2.1); rintro e w16 ⟨v426, rfl, ho0, hb⟩; have n0_ := Aside0.mk (Kd.R_below (bR HO417.out) hb); have n1_ := Aside0.mk (Kd.R_elder' (bR HO419.out) (Kd.R_base ho0) hb); have n2_ := Aside0.mk (Kd.R_elder' (bR HO423.out) (Kd.R_base ho0) hb); have n3_ := Aside0.mk (Kd.R_lower (Kd.R_new' (Kd.R_new' ho0 (Kd.R_lt (bR HO419.out))) (Kd.R_lt (bR HO423.out))) (below_size (bw HB.out))); have n4_ := Aside0.mk (below_step (bw HB.out) hb); replace HO417 := n0_; replace HO419 := n1_; replace HO423 := n2_; have HO427 := n3_; replace HB := n4_; clear n0_ n1_ n2_ n3_ n4_; (try clear hb); (try clear hb2); (try clear hk); (try clear hi); (try clear ho0)) | (go_at_call 9; (with_reducible refine (laws_vCut.calls _ _ l0 1 t428 _ ?side1 ?side2 A7.out).mono ?_); (case side1 => first | exact bC HR0.out HB.out | exact Kd.C_below HR0.out HB.out); (case side2 => exact HC0.out); rintro e w17 ⟨v429, rfl, ho0, hb⟩; have n0_ := Aside0.mk (Kd.R_below (bR HO417.out) hb); have n1_ := Aside0.mk (Kd.R_below (bR HO419.out) hb); have n2_ := Aside0.mk (Kd.R_below (bR HO423.out) hb); have n3_ := Aside0.mk (Kd.R_below (bR HO427.out) hb); have n4_ := Aside0.mk (Kd.R_lower ho0 (below_size (bw HB.out))); have n5_ := Aside0.mk (below_step (bw HB.out) hb); replace HO417 := n0_; replace HO419 := n1_; replace HO423 := n2_; replace HO427 := n3_; have HO430 := n4_; replace HB := n5_; clear n0_ n1_ n2_ n3_ n4_ n5_; (try clear hb); (try clear hb2); (try clear hk); (try clear hi); (try clear ho0); obtain ⟨Ao18, co18, eo18⟩ := Kd.R_slice HO430.out; subst eo18) | (go_at_call 8; (with_reducible refine (spec_DrawStretchedJobs.calls k _ _ t428 t431 t432 _ ?side1 ?side2 A8.out).mono ?_); (case side1 => repeat (first | exact (Kd.R_reads' HO430.out).2.2 | (with_reducible refine Kd.C_alloc ?_ _) | (with_reducible refine Kd.C_drewN ?_ _) | (with_reducible refine Kd.C_drew ?_))); (case side2 => exact (Kd.R_reads' HO430.out).2.1); rintro e w19 ⟨v433, rfl, ho0, hb⟩; have n0_ := Aside0.mk (Kd.R_elder' (bR HO417.out) (Kd.R_base ho0) hb); have n1_ := Aside0.mk (Kd.R_below (bR HO419.out) hb); have n2_ := Aside0.mk (Kd.R_below (bR HO423.out) hb); have n3_ := Aside0.mk (Kd.R_below (bR HO427.out) hb); have n4_ := Aside0.mk (Kd.R_below (bR HO430.out) hb); have n5_ := Aside0.mk (Kd.R_lower (Kd.R_new' ho0 (Kd.R_lt (bR HO417.out))) (below_size (bw HB.out))); have n6_ := Aside0.mk (below_step (bw HB.out) hb); replace HO417 := n0_; replace HO419 := n1_; replace HO423 := n2_; replace HO427 := n3_; replace HO430 := n4_; have HO434 := n5_; replace HB := n6_; clear n0_ n1_ n2_ n3_ n4_ n5_ n6_; (try clear hb); (try clear hb2); (try clear hk); (try clear hi); (try clear ho0); obtain ⟨Ao20, co20, eo20⟩ := Kd.R_slice HO434.out; subst eo20) | (go_at_call 10; (with_reducible refine (impl_StretchedJobs.calls k _ _ t431 t432 t435 t436 _ ?side1 ?side2 A9.out).mono ?_); (case side1 => repeat (first | exact (Kd.R_reads' HO434.out).2.2 | (with_reducible refine Kd.C_alloc ?_ _) | (with_reducible refine Kd.C_drewN ?_ _) | (with_reducible refine Kd.C_drew ?_))); (case side2 => exact (Kd.R_reads' HO434.out).2.1); rintro e w21 ⟨v437, rfl, ho0, hb⟩; have n0_ := Aside0.mk (Kd.R_elder' (bR HO417.out) (Kd.R_base ho0) hb); have n1_ := Aside0.mk (Kd.R_below (bR HO419.out) hb); have n2_ := Aside0.mk (Kd.R_below (bR HO423.out) hb); have n3_ := Aside0.mk (Kd.R_below (bR HO427.out) hb); have n4_ := Aside0.mk (Kd.R_below (bR HO430.out) hb); have n5_ := Aside0.mk (Kd.R_elder' (bR HO434.out) (Kd.R_base ho0) hb); have n6_ := Aside0.mk (Kd.R_lower (Kd.R_new' (Kd.R_new' ho0 (Kd.R_lt (bR HO417.out))) (Kd.R_lt (bR HO434.out))) (below_size (bw HB.out))); have n7_ := Aside0.mk (below_step (bw HB.out) hb); replace HO417 := n0_; replace HO419 := n1_; replace HO423 := n2_; replace HO427 := n3_; replace HO430 := n4_; replace HO434 := n5_; have HO438 := n6_; replace HB := n7_; clear n0_ n1_ n2_ n3_ n4_ n5_ n6_ n7_; (try clear hb); (try clear hb2); (try clear hk); (try clear hi); (try clear ho0)) | (go_at_call 11; (with_reducible refine (spec_StretchedJobs.calls k _ _ t431 t432 t439 t440 _ ?side1 ?side2 A10.out).mono ?_); (case side1 => repeat (first | exact (Kd.R_reads' HO434.out).2.2 | (with_reducible refine Kd.C_alloc ?_ _) | (with_reducible refine Kd.C_drewN ?_ _) | (with_reducible refine Kd.C_drew ?_))); (case side2 => exact (Kd.R_reads' HO434.out).2.1); rintro e w22 ⟨v441, rfl, ho0, hb⟩; have n0_ := Aside0.mk (Kd.R_elder' (bR HO417.out) (Kd.R_base ho0) hb); have n1_ := Aside0.mk (Kd.R_below (bR HO419.out) hb); have n2_ := Aside0.mk (Kd.R_below (bR HO423.out) hb); have n3_ := Aside0.mk (Kd.R_below (bR HO427.out) hb); have n4_ := Aside0.mk (Kd.R_below (bR HO430.out) hb); have n5_ := Aside0.mk (Kd.R_elder' (bR HO434.out) (Kd.R_base ho0) hb); have n6_ := Aside0.mk (Kd.R_elder' (bR HO438.out) (Kd.R_base ho0) hb); have n7_ := Aside0.mk (Kd.R_lower (Kd.R_new' (Kd.R_new' (Kd.R_new' ho0 (Kd.R_lt (bR HO417.out))) (Kd.R_lt (bR HO434.out))) (Kd.R_lt (bR HO438.out))) (below_size (bw HB.out))); have n8_ := Aside0.mk (below_step (bw HB.out) hb); replace HO417 := n0_; replace HO419 := n1_; replace HO423 := n2_; replace HO427 := n3_; replace HO430 := n4_; replace HO434 := n5_; replace HO438 := n6_; have HO442 := n7_; replace HB := n8_; clear n0_ n1_ n2_ n3_ n4_ n5_ n6_ n7_ n8_; (try clear hb); (try clear hb2); (try clear hk); (try clear hi); (try clear ho0)))
 repeat (go_quiet (first | (go_at_call 4; (with_reducible refine (laws_vBig.calls _ _ l0 false _ ?side1 ?side2 A2.out).mono ?_); (case side1 => repeat (first | exact HR0.out | (with_reducible refine Kd.C_alloc ?_ _) | (with_reducible refine Kd.C_drewN ?_ _) | (with_reducible refine Kd.C_drew ?_))); (case side2 => exact HC0.out); rintro e w' ⟨rfl, ⟨nd, rfl⟩⟩; (try first | exact ⟨rfl, _, World.drewN_drewN _ _ _⟩ | exact ⟨rfl, _, Eq.trans (World.drewN_drewN _ _ _) (congrArg (World.drewN _) (Nat.add_assoc _ _ _))⟩)) | (go_at_call 5; (with_reducible refine (spec_DrawSlacksOf.calls k _ _ l0 t413 t414 t415 _ ?side1 ?side2 A4.out).mono ?_); (case side1 => repeat (first | exact HR0.out | (with_reducible refine Kd.C_alloc ?_ _) | (with_reducible refine Kd.C_drewN ?_ _) | (with_reducible refine Kd.C_drew ?_))); (case side2 => exact HC0.out); rintro e w12 ⟨v416, v418, rfl, ho0, ho1, hb⟩; have n0_ := Aside0.mk (Kd.R_lower ho0 (below_size (bw HB.out))); have n1_ := Aside0.mk (Kd.R_lower ho1 (below_size (bw HB.out))); have n2_ := Aside0.mk (below_step (bw HB.out) hb); have HO417 := n0_; have HO419 := n1_; replace HB := n2_; clear n0_ n1_ n2_; (try clear hb); (try clear hb2); (try clear hk); (try clear hi); (try clear ho0); (try clear ho1); obtain ⟨Ao13, co13, eo13⟩ := Kd.R_slice HO417.out; subst eo13; obtain ⟨Ao14, co14, eo14⟩ := Kd.R_slice HO419.out; subst eo14) | (go_at_call 6; (with_reducible refine (impl_SlacksOf.calls k _ _ t413 _ _ t414 t415 t420 t421 _ ?side1 ?side2 ?side3 ?side4 A5.out).mono ?_); (case side1 => repeat (first | exact (Kd.R_reads' HO417.out).2.2 | (with_reducible refine Kd.C_alloc ?_ _) | (with_reducible refine Kd.C_drewN ?_ _) | (with_reducible refine Kd.C_drew ?_))); (case side2 => exact (Kd.R_reads' HO417.out).2.1); (case side3 => repeat (first | exact (Kd.R_reads' HO419.out).2.2 | (with_reducible refine Kd.C_alloc ?_ _) | (with_reducible refine Kd.C_drewN ?_ _) | (with_reducible refine Kd.C_drew ?_))); (case side4 => exact (Kd.R_reads' HO419.out).2.1); rintro e w15 ⟨v422, rfl, ho0, hb⟩; have n0_ := Aside0.mk (Kd.R_below (bR HO417.out) hb); have n1_ := Aside0.mk (Kd.R_elder' (bR HO419.out) (Kd.R_base ho0) hb); have n2_ := Aside0.mk (Kd.R_lower (Kd.R_new' ho0 (Kd.R_lt (bR HO419.out))) (below_size (bw HB.out))); have n3_ := Aside0.mk (below_step (bw HB.out) hb); replace HO417 := n0_; replace HO419 := n1_; have HO423 := n2_; replace HB := n3_; clear n0_ n1_ n2_ n3_; (try clear hb); (try clear hb2); (try clear hk); (try clear hi); (try clear ho0)) | (go_at_call 7; (with_reducible refine (spec_SlacksOf.calls k _ _ t413 _ _ t414 t415 t424 t425 _ ?side1 ?side2 ?side3 ?side4 A6.out).mono ?_); (case side1 => repeat (first | exact (Kd.R_reads' HO417.out).2.2 | (with_reducible refine Kd.C_alloc ?_ _) | (with_reducible refine Kd.C_drewN ?_ _) | (with_reducible refine Kd.C_drew ?_))); (case side2 => exact (Kd.R_reads' HO417.out).2.1); (case side3 => repeat (first | exact (Kd.R_reads' HO419.out).2.2 | (with_reducible refine Kd.C_alloc ?_ _) | (with_reducible refine Kd.C_drewN ?_ _) | (with_reducible refine Kd.C_drew ?_))); (case side4 => exact (Kd.R_reads' HO419.out).2.1); rintro e w16 ⟨v426, rfl, ho0, hb⟩; have n0_ := Aside0.mk (Kd.R_below (bR HO417.out) hb); have n1_ := Aside0.mk (Kd.R_elder' (bR HO419.out) (Kd.R_base ho0) hb); have n2_ := Aside0.mk (Kd.R_elder' (bR HO423.out) (Kd.R_base ho0) hb); have n3_ := Aside0.mk (Kd.R_lower (Kd.R_new' (Kd.R_new' ho0 (Kd.R_lt (bR HO419.out))) (Kd.R_lt (bR HO423.out))) (below_size (bw HB.out))); have n4_ := Aside0.mk (below_step (bw HB.out) hb); replace HO417 := n0_; replace HO419 := n1_; replace HO423 := n2_; have HO427 := n3_; replace HB := n4_; clear n0_ n1_ n2_ n3_ n4_; (try clear hb); (try clear hb2); (try clear hk); (try clear hi); (try clear ho0)) | (go_at_call 9; (with_reducible refine (laws_vCut.calls _ _ l0 1 t428 _ ?side1 ?side2 A7.out).mono ?_); (case side1 => first | exact bC HR0.out HB.out | exact Kd.C_below HR0.out HB.out); (case side2 => exact HC0.out); rintro e w17 ⟨v429, rfl, ho0, hb⟩; have n0_ := Aside0.mk (Kd.R_below (bR HO417.out) hb); have n1_ := Aside0.mk (Kd.R_below (bR HO419.out) hb); have n2_ := Aside0.mk (Kd.R_below (bR HO423.out) hb); have n3_ := Aside0.mk (Kd.R_below (bR HO427.out) hb); have n4_ := Aside0.mk (Kd.R_lower ho0 (below_size (bw HB.out))); have n5_ := Aside0.mk (below_step (bw HB.out) hb); replace HO417 := n0_; replace HO419 := n1_; replace HO423 := n2_; replace HO427 := n3_; have HO430 := n4_; replace HB := n5_; clear n0_ n1_ n2_ n3_ n4_ n5_; (try clear hb); (try clear hb2); (try clear hk); (try clear hi); (try clear ho0); obtain ⟨Ao18, co18, eo18⟩ := Kd.R_slice HO430.out; subst eo18) | (go_at_call 8; (with_reducible refine (spec_DrawStretchedJobs.calls k _ _ t428 t431 t432 _ ?side1 ?side2 A8.out).mono ?_); (case side1 => repeat (first | exact (Kd.R_reads' HO430.out).2.2 | (with_reducible refine Kd.C_alloc ?_ _) | (with_reducible refine Kd.C_drewN ?_ _) | (with_reducible refine Kd.C_drew ?_))); (case side2 => exact (Kd.R_reads' HO430.out).2.1); rintro e w19 ⟨v433, rfl, ho0, hb⟩; have n0_ := Aside0.mk (Kd.R_elder' (bR HO417.out) (Kd.R_base ho0) hb); have n1_ := Aside0.mk (Kd.R_below (bR HO419.out) hb); have n2_ := Aside0.mk (Kd.R_below (bR HO423.out) hb); have n3_ := Aside0.mk (Kd.R_below (bR HO427.out) hb); have n4_ := Aside0.mk (Kd.R_below (bR HO430.out) hb); have n5_ := Aside0.mk (Kd.R_lower (Kd.R_new' ho0 (Kd.R_lt (bR HO417.out))) (below_size (bw HB.out))); have n6_ := Aside0.mk (below_step (bw HB.out) hb); replace HO417 := n0_; replace HO419 := n1_; replace HO423 := n2_; replace HO427 := n3_; replace HO430 := n4_; have HO434 := n5_; replace HB := n6_; clear n0_ n1_ n2_ n3_ n4_ n5_ n6_; (try clear hb); (try clear hb2); (try clear hk); (try clear hi); (try clear ho0); obtain ⟨Ao20, co20, eo20⟩ := Kd.R_slice HO434.out; subst eo20) | (go_at_call 10; (with_reducible refine (impl_StretchedJobs.calls k _ _ t431 t432 t435 t436 _ ?side1 ?side2 A9.out).mono ?_); (case side1 => repeat (first | exact (Kd.R_reads' HO434.out).2.2 | (with_reducible refine Kd.C_alloc ?_ _) | (with_reducible refine Kd.C_drewN ?_ _) | (with_reducible refine Kd.C_drew ?_))); (case side2 => exact (Kd.R_reads' HO434.out).2.1); rintro e w21 ⟨v437, rfl, ho0, hb⟩; have n0_ := Aside0.mk (Kd.R_elder' (bR HO417.out) (Kd.R_base ho0) hb); have n1_ := Aside0.mk (Kd.R_below (bR HO419.out) hb); have n2_ := Aside0.mk (Kd.R_below (bR HO423.out) hb); have n3_ := Aside0.mk (Kd.R_below (bR HO427.out) hb); have n4_ := Aside0.mk (Kd.R_below (bR HO430.out) hb); have n5_ := Aside0.mk (Kd.R_elder' (bR HO434.out) (Kd.R_base ho0) hb); have n6_ := Aside0.mk (Kd.R_lower (Kd.R_new' (Kd.R_new' ho0 (Kd.R_lt (bR HO417.out))) (Kd.R_lt (bR HO434.out))) (below_size (bw HB.out))); have n7_ := Aside0.mk (below_step (bw HB.out) hb); replace HO417 := n0_; replace HO419 := n1_; replace HO423 := n2_; replace HO427 := n3_; replace HO430 := n4_; replace HO434 := n5_; have HO438 := n6_; replace HB := n7_; clear n0_ n1_ n2_ n3_ n4_ n5_ n6_ n7_; (try clear hb); (try clear hb2); (try clear hk); (try clear hi); (try clear ho0)) | (go_at_call 11; (with_reducible refine (spec_StretchedJobs.calls k _ _ t431 t432 t439 t440 _ ?side1 ?side2 A10.out).mono ?_); (case side1 => repeat (first | exact (Kd.R_reads' HO434.out).2.2 | (with_reducible refine Kd.C_alloc ?_ _) | (with_reducible refine Kd.C_drewN ?_ _) | (with_reducible refine Kd.C_drew ?_))); (case side2 => exact (Kd.R_reads' HO434.out).2.1); rintro e w22 ⟨v441, rfl, ho0, hb⟩; have n0_ := Aside0.mk (Kd.R_elder' (bR HO417.out) (Kd.R_base ho0) hb); have n1_ := Aside0.mk (Kd.R_below (bR HO419.out) hb); have n2_ := Aside0.mk (Kd.R_below (bR HO423.out) hb); have n3_ := Aside0.mk (Kd.R_below (bR HO427.out) hb); have n4_ := Aside0.mk (Kd.R_below (bR HO430.out) hb); have n5_ := Aside0.mk (Kd.R_elder' (bR HO434.out) (Kd.R_base ho0) hb); have n6_ := Aside0.mk (Kd.R_elder' (bR HO438.out) (Kd.R_base ho0) hb); have n7_ := Aside0.mk (Kd.R_lower (Kd.R_new' (Kd.R_new' (Kd.R_new' ho0 (Kd.R_lt (bR HO417.out))) (Kd.R_lt (bR HO434.out))) (Kd.R_lt (bR HO438.out))) (below_size (bw HB.out))); have n8_ := Aside0.mk (below_step (bw HB.out) hb); replace HO417 := n0_; replace HO419 := n1_; replace HO423 := n2_; replace HO427 := n3_; replace HO430 := n4_; replace HO434 := n5_; replace HO438 := n6_; have HO442 := n7_; replace HB := n8_; clear n0_ n1_ n2_ n3_ n4_ n5_ n6_ n7_ n8_; (try clear hb); (try clear hb2); (try clear hk); (try clear hi); (try clear ho0))); go_upto_region 9 with (first | (go_at_call 4; (with_reducible refine (laws_vBig.calls _ _ l0 false _ ?side1 ?side2 A2.out).mono ?_); (case side1 => repeat (first | exact HR0.out | (with_reducible refine Kd.C_alloc ?_ _) | (with_reducible refine Kd.C_drewN ?_ _) | (with_reducible refine Kd.C_drew ?_))); (case side2 => exact HC0.out); rintro e w' ⟨rfl, ⟨nd, rfl⟩⟩; (try first | exact ⟨rfl, _, World.drewN_drewN _ _ _⟩ | exact ⟨rfl, _, Eq.trans (World.drewN_drewN _ _ _) (congrArg (World.drewN _) (Nat.add_assoc _ _ _))⟩)) | (go_at_call 5; (with_reducible refine (spec_DrawSlacksOf.calls k _ _ l0 t413 t414 t415 _ ?side1 ?side2 A4.out).mono ?_); (case side1 => repeat (first | exact HR0.out | (with_reducible refine Kd.C_alloc ?_ _) | (with_reducible refine Kd.C_drewN ?_ _) | (with_reducible refine Kd.C_drew ?_))); (case side2 => exact HC0.out); rintro e w12 ⟨v416, v418, rfl, ho0, ho1, hb⟩; have n0_ := Aside0.mk (Kd.R_lower ho0 (below_size (bw HB.out))); have n1_ := Aside0.mk (Kd.R_lower ho1 (below_size (bw HB.out))); have n2_ := Aside0.mk (below_step (bw HB.out) hb); have HO417 := n0_; have HO419 := n1_; replace HB := n2_; clear n0_ n1_ n2_; (try clear hb); (try clear hb2); (try clear hk); (try clear hi); (try clear ho0); (try clear ho1); obtain ⟨Ao13, co13, eo13⟩ := Kd.R_slice HO417.out; subst eo13; obtain ⟨Ao14, co14, eo14⟩ := Kd.R_slice HO419.out; subst eo14) | (go_at_call 6; (with_reducible refine (impl_SlacksOf.calls k _ _ t413 _ _ t414 t415 t420 t421 _ ?side1 ?side2 ?side3 ?side4 A5.out).mono ?_); (case side1 => repeat (first | exact (Kd.R_reads' HO417.out).2.2 | (with_reducible refine Kd.C_alloc ?_ _) | (with_reducible refine Kd.C_drewN ?_ _) | (with_reducible refine Kd.C_drew ?_))); (case side2 => exact (Kd.R_reads' HO417.out).2.1); (case side3 => repeat (first | exact (Kd.R_reads' HO419.out).2.2 | (with_reducible refine Kd.C_alloc ?_ _) | (with_reducible refine Kd.C_drewN ?_ _) | (with_reducible refine Kd.C_drew ?_))); (case side4 => exact (Kd.R_reads' HO419.out).2.1); rintro e w15 ⟨v422, rfl, ho0, hb⟩; have n0_ := Aside0.mk (Kd.R_below (bR HO417.out) hb); have n1_ := Aside0.mk (Kd.R_elder' (bR HO419.out) (Kd.R_base ho0) hb); have n2_ := Aside0.mk (Kd.R_lower (Kd.R_new' ho0 (Kd.R_lt (bR HO419.out))) (below_size (bw HB.out))); have n3_ := Aside0.mk (below_step (bw HB.out) hb); replace HO417 := n0_; replace HO419 := n1_; have HO423 := n2_; replace HB := n3_; clear n0_ n1_ n2_ n3_; (try clear hb); (try clear hb2); (try clear hk); (try clear hi); (try clear ho0)) | (go_at_call 7; (with_reducible refine (spec_SlacksOf.calls k _ _ t413 _ _ t414 t415 t424 t425 _ ?side1 ?side2 ?side3 ?side4 A6.out).mono ?_); (case side1 => repeat (first | exact (Kd.R_reads' HO417.out).2.2 | (with_reducible refine Kd.C_alloc ?_ _) | (with_reducible refine Kd.C_drewN ?_ _) | (with_reducible refine Kd.C_drew ?_))); (case side2 => exact (Kd.R_reads' HO417.out).2.1); (case side3 => repeat (first | exact (Kd.R_reads' HO419.out).2.2 | (with_reducible refine Kd.C_alloc ?_ _) | (with_reducible refine Kd.C_drewN ?_ _) | (with_reducible refine Kd.C_drew ?_))); (case side4 => exact (Kd.R_reads' HO419.out).2.1); rintro e w16 ⟨v426, rfl, ho0, hb⟩; have n0_ := Aside0.mk (Kd.R_below (bR HO417.out) hb); have n1_ := Aside0.mk (Kd.R_elder' (bR HO419.out) (Kd.R_base ho0) hb); have n2_ := Aside0.mk (Kd.R_elder' (bR HO423.out) (Kd.R_base ho0) hb); have n3_ := Aside0.mk (Kd.R_lower (Kd.R_new' (Kd.R_new' ho0 (Kd.R_lt (bR HO419.out))) (Kd.R_lt (bR HO423.out))) (below_size (bw HB.out))); have n4_ := Aside0.mk (below_step (bw HB.out) hb); replace HO417 := n0_; replace HO419 := n1_; replace HO423 := n2_; have HO427 := n3_; replace HB := n4_; clear n0_ n1_ n2_ n3_ n4_; (try clear hb); (try clear hb2); (try clear hk); (try clear hi); (try clear ho0)) | (go_at_call 9; (with_reducible refine (laws_vCut.calls _ _ l0 1 t428 _ ?side1 ?side2 A7.out).mono ?_); (case side1 => first | exact bC HR0.out HB.out | exact Kd.C_below HR0.out HB.out); (case side2 => exact HC0.out); rintro e w17 ⟨v429, rfl, ho0, hb⟩; have n0_ := Aside0.mk (Kd.R_below (bR HO417.out) hb); have n1_ := Aside0.mk (Kd.R_below (bR HO419.out) hb); have n2_ := Aside0.mk (Kd.R_below (bR HO423.out) hb); have n3_ := Aside0.mk (Kd.R_below (bR HO427.out) hb); have n4_ := Aside0.mk (Kd.R_lower ho0 (below_size (bw HB.out))); have n5_ := Aside0.mk (below_step (bw HB.out) hb); replace HO417 := n0_; replace HO419 := n1_; replace HO423 := n2_; replace HO427 := n3_; have HO430 := n4_; replace HB := n5_; clear n0_ n1_ n2_ n3_ n4_ n5_; (try clear hb); (try clear hb2); (try clear hk); (try clear hi); (try clear ho0); obtain ⟨Ao18, co18, eo18⟩ := Kd.R_slice HO430.out; subst eo18) | (go_at_call 8; (with_reducible refine (spec_DrawStretchedJobs.calls k _ _ t428 t431 t432 _ ?side1 ?side2 A8.out).mono ?_); (case side1 => repeat (first | exact (Kd.R_reads' HO430.out).2.2 | (with_reducible refine Kd.C_alloc ?_ _) | (with_reducible refine Kd.C_drewN ?_ _) | (with_reducible refine Kd.C_drew ?_))); (case side2 => exact (Kd.R_reads' HO430.out).2.1); rintro e w19 ⟨v433, rfl, ho0, hb⟩; have n0_ := Aside0.mk (Kd.R_elder' (bR HO417.out) (Kd.R_base ho0) hb); have n1_ := Aside0.mk (Kd.R_below (bR HO419.out) hb); have n2_ := Aside0.mk (Kd.R_below (bR HO423.out) hb); have n3_ := Aside0.mk (Kd.R_below (bR HO427.out) hb); have n4_ := Aside0.mk (Kd.R_below (bR HO430.out) hb); have n5_ := Aside0.mk (Kd.R_lower (Kd.R_new' ho0 (Kd.R_lt (bR HO417.out))) (below_size (bw HB.out))); have n6_ := Aside0.mk (below_step (bw HB.out) hb); replace HO417 := n0_; replace HO419 := n1_; replace HO423 := n2_; replace HO427 := n3_; replace HO430 := n4_; have HO434 := n5_; replace HB := n6_; clear n0_ n1_ n2_ n3_ n4_ n5_ n6_; (try clear hb); (try clear hb2); (try clear hk); (try clear hi); (try clear ho0); obtain ⟨Ao20, co20, eo20⟩ := Kd.R_slice HO434.out; subst eo20) | (go_at_call 10; (with_reducible refine (impl_StretchedJobs.calls k _ _ t431 t432 t435 t436 _ ?side1 ?side2 A9.out).mono ?_); (case side1 => repeat (first | exact (Kd.R_reads' HO434.out).2.2 | (with_reducible refine Kd.C_alloc ?_ _) | (with_reducible refine Kd.C_drewN ?_ _) | (with_reducible refine Kd.C_drew ?_))); (case side2 => exact (Kd.R_reads' HO434.out).2.1); rintro e w21 ⟨v437, rfl, ho0, hb⟩; have n0_ := Aside0.mk (Kd.R_elder' (bR HO417.out) (Kd.R_base ho0) hb); have n1_ := Aside0.mk (Kd.R_below (bR HO419.out) hb); have n2_ := Aside0.mk (Kd.R_below (bR HO423.out) hb); have n3_ := Aside0.mk (Kd.R_below (bR HO427.out) hb); have n4_ := Aside0.mk (Kd.R_below (bR HO430.out) hb); have n5_ := Aside0.mk (Kd.R_elder' (bR HO434.out) (Kd.R_base ho0) hb); have n6_ := Aside0.mk (Kd.R_lower (Kd.R_new' (Kd.R_new' ho0 (Kd.R_lt (bR HO417.out))) (Kd.R_lt (bR HO434.out))) (below_size (bw HB.out))); have n7_ := Aside0.mk (below_step (bw HB.out) hb); replace HO417 := n0_; replace HO419 := n1_; replace HO423 := n2_; replace HO427 := n3_; replace HO430 := n4_; replace HO434 := n5_; have HO438 := n6_; replace HB := n7_; clear n0_ n1_ n2_ n3_ n4_ n5_ n6_ n7_; (try clear hb); (try clear hb2); (try clear hk); (try clear hi); (try clear ho0)) | (go_at_call 11; (with_reducible refine (spec_StretchedJobs.calls k _ _ t431 t432 t439 t440 _ ?side1 ?side2 A10.out).mono ?_); (case side1 => repeat (first | exact (Kd.R_reads' HO434.out).2.2 | (with_reducible refine Kd.C_alloc ?_ _) | (with_reducible refine Kd.C_drewN ?_ _) | (with_reducible refine Kd.C_drew ?_))); (case side2 => exact (Kd.R_reads' HO434.out).2.1); rintro e w22 ⟨v441, rfl, ho0, hb⟩; have n0_ := Aside0.mk (Kd.R_elder' (bR HO417.out) (Kd.R_base ho0) hb); have n1_ := Aside0.mk (Kd.R_below (bR HO419.out) hb); have n2_ := Aside0.mk (Kd.R_below (bR HO423.out) hb); have n3_ := Aside0.mk (Kd.R_below (bR HO427.out) hb); have n4_ := Aside0.mk (Kd.R_below (bR HO430.out) hb); have n5_ := Aside0.mk (Kd.R_elder' (bR HO434.out) (Kd.R_base ho0) hb); have n6_ := Aside0.mk (Kd.R_elder' (bR HO438.out) (Kd.R_base ho0) hb); have n7_ := Aside0.mk (Kd.R_lower (Kd.R_new' (Kd.R_new' (Kd.R_new' ho0 (Kd.R_lt (bR HO417.out))) (Kd.R_lt (bR HO434.out))) (Kd.R_lt (bR HO438.out))) (below_size (bw HB.out))); have n8_ := Aside0.mk (below_step (bw HB.out) hb); replace HO417 := n0_; replace HO419 := n1_; replace HO423 := n2_; replace HO427 := n3_; replace HO430 := n4_; replace HO434 := n5_; replace HO438 := n6_; have HO442 := n7_; replace HB := n8_; clear n0_ n1_ n2_ n3_ n4_ n5_ n6_ n7_ n8_; (try clear hb); (try clear hb2); (try clear hk); (try clear hi); (try clear ho0))))
 (try simp only [Act.put, List.setIfInBounds_toArray, List.set_cons_zero, List.set_cons_succ])
 go_cut [87] (fun v87 wc => ∃ (kq : Nat) (x87_10 : Bool), v87 = .bool x87_10 ∧ Aside0 (laws_FnSlacks.j0 kq t413 t414 t415 t420 t421 t431 t432 t435 t436 x87_10 = some r) ∧ Aside0 (kq ≤ k) ∧ Aside0 (Kd.R k38 38 wc w.heap.size (fun k_ => some k_ ≠ ((.slice Ao20 t431.length co20) : Value).ownBlock ∧ some k_ ≠ (v437 : Value).ownBlock) (.slice Ao13 t413.length co13) t413) ∧ Aside0 (Kd.R (Kd.int .i64) 3 wc w.heap.size (fun k_ => some k_ ≠ (v422 : Value).ownBlock) (.slice Ao14 t414.length co14) t414) ∧ Aside0 (Kd.R (Kd.int .i64) 3 wc w.heap.size (fun k_ => some k_ ≠ ((.slice Ao14 t414.length co14) : Value).ownBlock) v422 t420) ∧ Aside0 (Kd.R k38 38 wc w.heap.size (fun k_ => some k_ ≠ ((.slice Ao13 t413.length co13) : Value).ownBlock ∧ some k_ ≠ (v437 : Value).ownBlock) (.slice Ao20 t431.length co20) t431) ∧ Aside0 (Kd.R k38 38 wc w.heap.size (fun k_ => some k_ ≠ ((.slice Ao13 t413.length co13) : Value).ownBlock ∧ some k_ ≠ ((.slice Ao20 t431.length co20) : Value).ownBlock) v437 t435) ∧ Aside0 (Below w.heap.size w wc))
 case first =>
  have H := HC11.out
  clear HC11
  by_cases c23 : (t421 != t425) = true
  ·rw [if_pos c23] at H
   have c23b0 : (t421 != t425) = true := c23
   (try (have c23b1 : decide (t421 = t425) = false := by simpa using c23))
   (try (have c23b2 : (t421 == t425) = false := by simpa using c23))
   (try (have c23b3 : ¬ (t421 = t425) := by simpa using c23))
   clear c23
   (first | rw [c23b0] | (simp only [i64_w, i32_w]; rw [c23b0]) | skip)
   have H' := Aside0.mk H
   clear H
   go_wp2
   repeat (go_quiet (fail); try go_wp2)
   go_meet
   case rel => exact ⟨_, (true), (by first | rfl | (simp; done) | (simp [*]; done)), H', ⟨by first | omega | exact Nat.le_refl _⟩, ⟨by (with_reducible repeat (first | apply Kd.R_alloc | apply Kd.R_drewN | apply Kd.R_drew)); exact Kd.R_mono HO417.out (fun _ hk => ⟨hk.1.1.2, hk.1.2⟩)⟩, ⟨by (with_reducible repeat (first | apply Kd.R_alloc | apply Kd.R_drewN | apply Kd.R_drew)); exact Kd.R_mono HO419.out (fun _ hk => hk.1.2)⟩, ⟨by (with_reducible repeat (first | apply Kd.R_alloc | apply Kd.R_drewN | apply Kd.R_drew)); exact Kd.R_mono HO423.out (fun _ hk => hk.1.2)⟩, ⟨by (with_reducible repeat (first | apply Kd.R_alloc | apply Kd.R_drewN | apply Kd.R_drew)); exact Kd.R_mono HO434.out (fun _ hk => ⟨hk.1.1.2, hk.1.2⟩)⟩, ⟨by (with_reducible repeat (first | apply Kd.R_alloc | apply Kd.R_drewN | apply Kd.R_drew)); exact Kd.R_mono HO438.out (fun _ hk => ⟨hk.1.1.2, hk.1.2⟩)⟩, ⟨bw HB.out⟩⟩
  rw [if_neg c23] at H
  have c23b0 : (t421 != t425) = false := by simpa using c23
  (try (have c23b1 : decide (t421 = t425) = true := by simpa using c23))
  (try (have c23b2 : (t421 == t425) = true := by simpa using c23))
  clear c23
  (first | rw [c23b0] | (simp only [i64_w, i32_w]; rw [c23b0]) | skip)
  replace H := Option.bind_eq_some_iff.mp H
  obtain ⟨t443, A240, H⟩ := H
  replace H : (if t443 = true then (if (t436 != t440) = true then (laws_FnSlacks.j0 k t413 t414 t415 t420 t421 t431 t432 t435 t436 true) else ((laws_vJobs.f k t435 t439).bind fun t444 => (laws_FnSlacks.j0 k t413 t414 t415 t420 t421 t431 t432 t435 t436 (!t444)))) else (laws_FnSlacks.j0 k t413 t414 t415 t420 t421 t431 t432 t435 t436 true)) = some r := H
  have A24 := Aside0.mk A240
  clear A240
  by_cases c25 : t443 = true
  rotate_left
  ·replace c25 := Bool.eq_false_iff.mpr c25
   subst c25
   have H1 : (laws_FnSlacks.j0 k t413 t414 t415 t420 t421 t431 t432 t435 t436 true) = some r := by rw [if_neg (show ¬ (false = true) by decide)] at H; exact H
   clear H
   have H := H1
   clear H1
   have H' := Aside0.mk H
   clear H
   obtain ⟨Ao34, co34, eo34⟩ := Kd.R_slice HO423.out
   subst eo34
   obtain ⟨Ao35, co35, eo35⟩ := Kd.R_slice HO427.out
   subst eo35
   have go_ := True.intro
   repeat ((first | go_quiet (first | (go_at_call 12; (with_reducible refine (laws_vInts.calls k _ _ t420 _ _ t424 false _ ?side1 ?side2 ?side3 ?side4 A24.out).mono ?_); (case side1 => repeat (first | exact (Kd.R_reads' HO423.out).2.2 | (with_reducible refine Kd.C_alloc ?_ _) | (with_reducible refine Kd.C_drewN ?_ _) | (with_reducible refine Kd.C_drew ?_))); (case side2 => exact (Kd.R_reads' HO423.out).2.1); (case side3 => repeat (first | exact (Kd.R_reads' HO427.out).2.2 | (with_reducible refine Kd.C_alloc ?_ _) | (with_reducible refine Kd.C_drewN ?_ _) | (with_reducible refine Kd.C_drew ?_))); (case side4 => exact (Kd.R_reads' HO427.out).2.1); rintro e w' ⟨rfl, ⟨nd, rfl⟩⟩; (try first | exact ⟨rfl, _, World.drewN_drewN _ _ _⟩ | exact ⟨rfl, _, Eq.trans (World.drewN_drewN _ _ _) (congrArg (World.drewN _) (Nat.add_assoc _ _ _))⟩))) | clear go_); go_wp2_with (first | (go_at_call 12; (with_reducible refine (laws_vInts.calls k _ _ t420 _ _ t424 false _ ?side1 ?side2 ?side3 ?side4 A24.out).mono ?_); (case side1 => repeat (first | exact (Kd.R_reads' HO423.out).2.2 | (with_reducible refine Kd.C_alloc ?_ _) | (with_reducible refine Kd.C_drewN ?_ _) | (with_reducible refine Kd.C_drew ?_))); (case side2 => exact (Kd.R_reads' HO423.out).2.1); (case side3 => repeat (first | exact (Kd.R_reads' HO427.out).2.2 | (with_reducible refine Kd.C_alloc ?_ _) | (with_reducible refine Kd.C_drewN ?_ _) | (with_reducible refine Kd.C_drew ?_))); (case side4 => exact (Kd.R_reads' HO427.out).2.1); rintro e w' ⟨rfl, ⟨nd, rfl⟩⟩; (try first | exact ⟨rfl, _, World.drewN_drewN _ _ _⟩ | exact ⟨rfl, _, Eq.trans (World.drewN_drewN _ _ _) (congrArg (World.drewN _) (Nat.add_assoc _ _ _))⟩))))
   go_meet
   case rel => exact ⟨_, (true), (by first | rfl | (simp; done) | (simp [*]; done)), H', ⟨by first | omega | exact Nat.le_refl _⟩, ⟨by (with_reducible repeat (first | apply Kd.R_alloc | apply Kd.R_drewN | apply Kd.R_drew)); exact Kd.R_mono HO417.out (fun _ hk => ⟨hk.1.1.2, hk.1.2⟩)⟩, ⟨by (with_reducible repeat (first | apply Kd.R_alloc | apply Kd.R_drewN | apply Kd.R_drew)); exact Kd.R_mono HO419.out (fun _ hk => hk.1.2)⟩, ⟨by (with_reducible repeat (first | apply Kd.R_alloc | apply Kd.R_drewN | apply Kd.R_drew)); exact Kd.R_mono HO423.out (fun _ hk => hk.1.2)⟩, ⟨by (with_reducible repeat (first | apply Kd.R_alloc | apply Kd.R_drewN | apply Kd.R_drew)); exact Kd.R_mono HO434.out (fun _ hk => ⟨hk.1.1.2, hk.1.2⟩)⟩, ⟨by (with_reducible repeat (first | apply Kd.R_alloc | apply Kd.R_drewN | apply Kd.R_drew)); exact Kd.R_mono HO438.out (fun _ hk => ⟨hk.1.1.2, hk.1.2⟩)⟩, ⟨bw HB.out⟩⟩
  subst c25
  have H1 : (if (t436 != t440) = true then (laws_FnSlacks.j0 k t413 t414 t415 t420 t421 t431 t432 t435 t436 true) else ((laws_vJobs.f k t435 t439).bind fun t444 => (laws_FnSlacks.j0 k t413 t414 t415 t420 t421 t431 t432 t435 t436 (!t444)))) = some r := by rw [if_pos rfl] at H; exact H
  clear H
  have H := H1
  clear H1
  by_cases c26 : (t436 != t440) = true
  ·rw [if_pos c26] at H
   have c26b0 : (t436 != t440) = true := c26
   (try (have c26b1 : decide (t436 = t440) = false := by simpa using c26))
   (try (have c26b2 : (t436 == t440) = false := by simpa using c26))
   (try (have c26b3 : ¬ (t436 = t440) := by simpa using c26))
   clear c26
   have H' := Aside0.mk H
   clear H
   obtain ⟨Ao27, co27, eo27⟩ := Kd.R_slice HO423.out
   subst eo27
   obtain ⟨Ao28, co28, eo28⟩ := Kd.R_slice HO427.out
   subst eo28
   have go_ := True.intro
   repeat ((first | go_quiet (first | (go_at_call 12; (with_reducible refine (laws_vInts.calls k _ _ t420 _ _ t424 true _ ?side1 ?side2 ?side3 ?side4 A24.out).mono ?_); (case side1 => repeat (first | exact (Kd.R_reads' HO423.out).2.2 | (with_reducible refine Kd.C_alloc ?_ _) | (with_reducible refine Kd.C_drewN ?_ _) | (with_reducible refine Kd.C_drew ?_))); (case side2 => exact (Kd.R_reads' HO423.out).2.1); (case side3 => repeat (first | exact (Kd.R_reads' HO427.out).2.2 | (with_reducible refine Kd.C_alloc ?_ _) | (with_reducible refine Kd.C_drewN ?_ _) | (with_reducible refine Kd.C_drew ?_))); (case side4 => exact (Kd.R_reads' HO427.out).2.1); rintro e w' ⟨rfl, ⟨nd, rfl⟩⟩; (try first | exact ⟨rfl, _, World.drewN_drewN _ _ _⟩ | exact ⟨rfl, _, Eq.trans (World.drewN_drewN _ _ _) (congrArg (World.drewN _) (Nat.add_assoc _ _ _))⟩))) | clear go_); go_wp2_with (first | (go_at_call 12; (with_reducible refine (laws_vInts.calls k _ _ t420 _ _ t424 true _ ?side1 ?side2 ?side3 ?side4 A24.out).mono ?_); (case side1 => repeat (first | exact (Kd.R_reads' HO423.out).2.2 | (with_reducible refine Kd.C_alloc ?_ _) | (with_reducible refine Kd.C_drewN ?_ _) | (with_reducible refine Kd.C_drew ?_))); (case side2 => exact (Kd.R_reads' HO423.out).2.1); (case side3 => repeat (first | exact (Kd.R_reads' HO427.out).2.2 | (with_reducible refine Kd.C_alloc ?_ _) | (with_reducible refine Kd.C_drewN ?_ _) | (with_reducible refine Kd.C_drew ?_))); (case side4 => exact (Kd.R_reads' HO427.out).2.1); rintro e w' ⟨rfl, ⟨nd, rfl⟩⟩; (try first | exact ⟨rfl, _, World.drewN_drewN _ _ _⟩ | exact ⟨rfl, _, Eq.trans (World.drewN_drewN _ _ _) (congrArg (World.drewN _) (Nat.add_assoc _ _ _))⟩))))
   go_meet
   case rel => exact ⟨_, (true), (by first | rfl | (simp; done) | (simp [*]; done)), H', ⟨by first | omega | exact Nat.le_refl _⟩, ⟨by (with_reducible repeat (first | apply Kd.R_alloc | apply Kd.R_drewN | apply Kd.R_drew)); exact Kd.R_mono HO417.out (fun _ hk => ⟨hk.1.1.2, hk.1.2⟩)⟩, ⟨by (with_reducible repeat (first | apply Kd.R_alloc | apply Kd.R_drewN | apply Kd.R_drew)); exact Kd.R_mono HO419.out (fun _ hk => hk.1.2)⟩, ⟨by (with_reducible repeat (first | apply Kd.R_alloc | apply Kd.R_drewN | apply Kd.R_drew)); exact Kd.R_mono HO423.out (fun _ hk => hk.1.2)⟩, ⟨by (with_reducible repeat (first | apply Kd.R_alloc | apply Kd.R_drewN | apply Kd.R_drew)); exact Kd.R_mono HO434.out (fun _ hk => ⟨hk.1.1.2, hk.1.2⟩)⟩, ⟨by (with_reducible repeat (first | apply Kd.R_alloc | apply Kd.R_drewN | apply Kd.R_drew)); exact Kd.R_mono HO438.out (fun _ hk => ⟨hk.1.1.2, hk.1.2⟩)⟩, ⟨bw HB.out⟩⟩
  rw [if_neg c26] at H
  have c26b0 : (t436 != t440) = false := by simpa using c26
  (try (have c26b1 : decide (t436 = t440) = true := by simpa using c26))
  (try (have c26b2 : (t436 == t440) = true := by simpa using c26))
  clear c26
  replace H := Option.bind_eq_some_iff.mp H
  obtain ⟨t444, A290, H⟩ := H
  replace H : (laws_FnSlacks.j0 k t413 t414 t415 t420 t421 t431 t432 t435 t436 (!t444)) = some r := H
  have A29 := Aside0.mk A290
  clear A290
  have H' := Aside0.mk H
  clear H
  obtain ⟨Ao30, co30, eo30⟩ := Kd.R_slice HO423.out
  subst eo30
  obtain ⟨Ao31, co31, eo31⟩ := Kd.R_slice HO427.out
  subst eo31
  have go_ := True.intro
  repeat ((first | go_quiet (first | (go_at_call 12; (with_reducible refine (laws_vInts.calls k _ _ t420 _ _ t424 true _ ?side1 ?side2 ?side3 ?side4 A24.out).mono ?_); (case side1 => repeat (first | exact (Kd.R_reads' HO423.out).2.2 | (with_reducible refine Kd.C_alloc ?_ _) | (with_reducible refine Kd.C_drewN ?_ _) | (with_reducible refine Kd.C_drew ?_))); (case side2 => exact (Kd.R_reads' HO423.out).2.1); (case side3 => repeat (first | exact (Kd.R_reads' HO427.out).2.2 | (with_reducible refine Kd.C_alloc ?_ _) | (with_reducible refine Kd.C_drewN ?_ _) | (with_reducible refine Kd.C_drew ?_))); (case side4 => exact (Kd.R_reads' HO427.out).2.1); rintro e w' ⟨rfl, ⟨nd, rfl⟩⟩; (try first | exact ⟨rfl, _, World.drewN_drewN _ _ _⟩ | exact ⟨rfl, _, Eq.trans (World.drewN_drewN _ _ _) (congrArg (World.drewN _) (Nat.add_assoc _ _ _))⟩); obtain ⟨Ao32, co32, eo32⟩ := Kd.R_slice HO438.out; subst eo32; obtain ⟨Ao33, co33, eo33⟩ := Kd.R_slice HO442.out; subst eo33) | (go_at_call 13; (with_reducible refine (laws_vJobs.calls k _ _ t435 _ _ t439 t444 _ ?side1 ?side2 ?side3 ?side4 A29.out).mono ?_); (case side1 => repeat (first | exact (Kd.R_reads' HO438.out).2.2 | (with_reducible refine Kd.C_alloc ?_ _) | (with_reducible refine Kd.C_drewN ?_ _) | (with_reducible refine Kd.C_drew ?_))); (case side2 => exact (Kd.R_reads' HO438.out).2.1); (case side3 => repeat (first | exact (Kd.R_reads' HO442.out).2.2 | (with_reducible refine Kd.C_alloc ?_ _) | (with_reducible refine Kd.C_drewN ?_ _) | (with_reducible refine Kd.C_drew ?_))); (case side4 => exact (Kd.R_reads' HO442.out).2.1); rintro e w' ⟨rfl, ⟨nd, rfl⟩⟩; (try first | exact ⟨rfl, _, World.drewN_drewN _ _ _⟩ | exact ⟨rfl, _, Eq.trans (World.drewN_drewN _ _ _) (congrArg (World.drewN _) (Nat.add_assoc _ _ _))⟩))) | clear go_); go_wp2_with (first | (go_at_call 12; (with_reducible refine (laws_vInts.calls k _ _ t420 _ _ t424 true _ ?side1 ?side2 ?side3 ?side4 A24.out).mono ?_); (case side1 => repeat (first | exact (Kd.R_reads' HO423.out).2.2 | (with_reducible refine Kd.C_alloc ?_ _) | (with_reducible refine Kd.C_drewN ?_ _) | (with_reducible refine Kd.C_drew ?_))); (case side2 => exact (Kd.R_reads' HO423.out).2.1); (case side3 => repeat (first | exact (Kd.R_reads' HO427.out).2.2 | (with_reducible refine Kd.C_alloc ?_ _) | (with_reducible refine Kd.C_drewN ?_ _) | (with_reducible refine Kd.C_drew ?_))); (case side4 => exact (Kd.R_reads' HO427.out).2.1); rintro e w' ⟨rfl, ⟨nd, rfl⟩⟩; (try first | exact ⟨rfl, _, World.drewN_drewN _ _ _⟩ | exact ⟨rfl, _, Eq.trans (World.drewN_drewN _ _ _) (congrArg (World.drewN _) (Nat.add_assoc _ _ _))⟩); obtain ⟨Ao32, co32, eo32⟩ := Kd.R_slice HO438.out; subst eo32; obtain ⟨Ao33, co33, eo33⟩ := Kd.R_slice HO442.out; subst eo33) | (go_at_call 13; (with_reducible refine (laws_vJobs.calls k _ _ t435 _ _ t439 t444 _ ?side1 ?side2 ?side3 ?side4 A29.out).mono ?_); (case side1 => repeat (first | exact (Kd.R_reads' HO438.out).2.2 | (with_reducible refine Kd.C_alloc ?_ _) | (with_reducible refine Kd.C_drewN ?_ _) | (with_reducible refine Kd.C_drew ?_))); (case side2 => exact (Kd.R_reads' HO438.out).2.1); (case side3 => repeat (first | exact (Kd.R_reads' HO442.out).2.2 | (with_reducible refine Kd.C_alloc ?_ _) | (with_reducible refine Kd.C_drewN ?_ _) | (with_reducible refine Kd.C_drew ?_))); (case side4 => exact (Kd.R_reads' HO442.out).2.1); rintro e w' ⟨rfl, ⟨nd, rfl⟩⟩; (try first | exact ⟨rfl, _, World.drewN_drewN _ _ _⟩ | exact ⟨rfl, _, Eq.trans (World.drewN_drewN _ _ _) (congrArg (World.drewN _) (Nat.add_assoc _ _ _))⟩))))
  go_meet
  case rel => exact ⟨_, (!t444), (by first | rfl | (simp; done) | (simp [*]; done)), H', ⟨by first | omega | exact Nat.le_refl _⟩, ⟨by (with_reducible repeat (first | apply Kd.R_alloc | apply Kd.R_drewN | apply Kd.R_drew)); exact Kd.R_mono HO417.out (fun _ hk => ⟨hk.1.1.2, hk.1.2⟩)⟩, ⟨by (with_reducible repeat (first | apply Kd.R_alloc | apply Kd.R_drewN | apply Kd.R_drew)); exact Kd.R_mono HO419.out (fun _ hk => hk.1.2)⟩, ⟨by (with_reducible repeat (first | apply Kd.R_alloc | apply Kd.R_drewN | apply Kd.R_drew)); exact Kd.R_mono HO423.out (fun _ hk => hk.1.2)⟩, ⟨by (with_reducible repeat (first | apply Kd.R_alloc | apply Kd.R_drewN | apply Kd.R_drew)); exact Kd.R_mono HO434.out (fun _ hk => ⟨hk.1.1.2, hk.1.2⟩)⟩, ⟨by (with_reducible repeat (first | apply Kd.R_alloc | apply Kd.R_drewN | apply Kd.R_drew)); exact Kd.R_mono HO438.out (fun _ hk => ⟨hk.1.1.2, hk.1.2⟩)⟩, ⟨bw HB.out⟩⟩
 case rest =>
  clear HC11
  try clear c2
  try clear p2
  try clear c3
  try clear c23
  try clear c23b0
  try clear c23b1
  try clear c23b2
  try clear c25
  try clear c26
  try clear c26b0
  try clear c26b1
  try clear c26b2
  obtain ⟨kq, x87_10, rfl, HA, HJ10, HO_3, HO_4, HO_6, HO_10, HO_12, HB⟩ := hcut
  cases kq with
  | zero => exact absurd HA.out (by simp [laws_FnSlacks.j0])
  | succ kj10 =>
   have H := HA.out
   clear HA
   simp only [laws_FnSlacks.j0] at H
   by_cases c36 : x87_10 = true
   ·subst c36
    have H1 : (some false) = some r := by rw [if_pos rfl] at H; exact H
    clear H
    have H := H1
    clear H1
    obtain rfl := Option.some.inj H
    go_wp2
    repeat (go_quiet (fail); try go_wp2)
    go_ret
    exact ⟨by first | rfl | (simp [errW_none, errW_some] <;> rfl) | (simp [*, errW_none, errW_some] <;> rfl), bw HB.out⟩
   replace c36 := Bool.eq_false_iff.mpr c36
   subst c36
   have H1 : (if t436 = true then (laws_FnSlacks.l0 kj10 t413 t414 t415 t420 t421 t431 t432 t435 0) else (laws_FnSlacks.j3 kj10 t413 t414 t415 t420 t421)) = some r := by rw [if_neg (show ¬ (false = true) by decide)] at H; exact H
   clear H
   have H := H1
   clear H1
   have HC37 := Aside0.mk H
   clear H
   go_upto_if 88 with (fail)
   repeat (go_quiet (fail); go_upto_if 88 with (fail))
   go_cut [] (fun wc => ∃ (kq : Nat), Aside0 (laws_FnSlacks.j3 kq t413 t414 t415 t420 t421 = some r) ∧ Aside0 (kq ≤ kj10) ∧ Aside0 (Kd.R k38 38 wc w.heap.size (fun _ => True) (.slice Ao13 t413.length co13) t413) ∧ Aside0 (Kd.R (Kd.int .i64) 3 wc w.heap.size (fun k_ => some k_ ≠ (v422 : Value).ownBlock) (.slice Ao14 t414.length co14) t414) ∧ Aside0 (Kd.R (Kd.int .i64) 3 wc w.heap.size (fun k_ => some k_ ≠ ((.slice Ao14 t414.length co14) : Value).ownBlock) v422 t420) ∧ Aside0 (Below w.heap.size w wc))
   case first =>
    have H := HC37.out
    clear HC37
    by_cases c38 : t436 = true
    rotate_left
    ·replace c38 := Bool.eq_false_iff.mpr c38
     subst c38
     have H1 : (laws_FnSlacks.j3 kj10 t413 t414 t415 t420 t421) = some r := by rw [if_neg (show ¬ (false = true) by decide)] at H; exact H
     clear H
     have H := H1
     clear H1
     have H' := Aside0.mk H
     clear H
     go_wp2
     repeat (go_quiet (fail); try go_wp2)
     go_meet
     case rel => exact ⟨_, H', ⟨by have := HJ10.out; first | omega | exact Nat.le_refl _⟩, ⟨by (with_reducible repeat (first | apply Kd.R_alloc | apply Kd.R_drewN | apply Kd.R_drew)); exact Kd.R_mono HO_3.out (fun _ hk => trivial)⟩, ⟨bR HO_4.out⟩, ⟨bR HO_6.out⟩, ⟨bw HB.out⟩⟩
    subst c38
    have H1 : (laws_FnSlacks.l0 kj10 t413 t414 t415 t420 t421 t431 t432 t435 0) = some r := by rw [if_pos rfl] at H; exact H
    clear H
    have H := H1
    clear H1
    have H' := Aside0.mk H
    clear H
    go_wp2
    repeat (go_quiet (fail); try go_wp2)
    go_loopg [16] kj10 (fun kq v16 w' => ∃ (x16_2 : Int), v16 = .int .i64 x16_2 ∧ Aside0 (laws_FnSlacks.l0 kq t413 t414 t415 t420 t421 t431 t432 t435 x16_2 = some r) ∧ Aside0 (kq ≤ kj10) ∧ Aside0 (Kd.R k38 38 w' w.heap.size (fun k_ => some k_ ≠ ((.slice Ao20 t431.length co20) : Value).ownBlock ∧ some k_ ≠ (v437 : Value).ownBlock) (.slice Ao13 t413.length co13) t413) ∧ Aside0 (Kd.R (Kd.int .i64) 3 w' w.heap.size (fun k_ => some k_ ≠ (v422 : Value).ownBlock) (.slice Ao14 t414.length co14) t414) ∧ Aside0 (Kd.R (Kd.int .i64) 3 w' w.heap.size (fun k_ => some k_ ≠ ((.slice Ao14 t414.length co14) : Value).ownBlock) v422 t420) ∧ Aside0 (Kd.R k38 38 w' w.heap.size (fun k_ => some k_ ≠ ((.slice Ao13 t413.length co13) : Value).ownBlock ∧ some k_ ≠ (v437 : Value).ownBlock) (.slice Ao20 t431.length co20) t431) ∧ Aside0 (Kd.R k38 38 w' w.heap.size (fun k_ => some k_ ≠ ((.slice Ao13 t413.length co13) : Value).ownBlock ∧ some k_ ≠ ((.slice Ao20 t431.length co20) : Value).ownBlock) v437 t435) ∧ Aside0 (Below w.heap.size w w'))
    case atStart => exact ⟨(0), (by first | rfl | (simp; done) | (simp [*]; done)), H', ⟨Nat.le_refl _⟩, ⟨bR HO_3.out⟩, ⟨bR HO_4.out⟩, ⟨bR HO_6.out⟩, ⟨bR HO_10.out⟩, ⟨bR HO_12.out⟩, ⟨bw HB.out⟩⟩
    case round => as_aux_lemma =>
     clear H'
     try clear c2
     try clear p2
     try clear c3
     try clear c23
     try clear c23b0
     try clear c23b1
     try clear c23b2
     try clear c25
     try clear c26
     try clear c26b0
     try clear c26b1
     try clear c26b2
     try clear c36
     try clear c38
     try clear p2
     obtain ⟨x16_2, rfl, HA, HK2, HO_3, HO_4, HO_6, HO_10, HO_12, HB⟩ := hrel
     cases gk with
     | zero => exact absurd HA.out (by simp [laws_FnSlacks.l0])
     | succ k2 =>
      have H := HA.out
      clear HA
      simp only [laws_FnSlacks.l0] at H
      by_cases c39 : x16_2 < (t431.length : Int)
      ·rw [if_pos c39] at H
       have c39b0 : decide (x16_2 < (t431.length : Int)) = true := decide_eq_true c39
       clear c39
       (first | rw [c39b0] | (simp only [i64_w, i32_w]; rw [c39b0]) | skip)
       by_cases c40 : 0 ≤ x16_2
       rotate_left
       ·rw [if_neg c40] at H
        exact absurd H (by simp)
       rw [if_pos c40] at H
       have c40b0 : decide (0 ≤ x16_2) = true := decide_eq_true c40
       clear c40
       by_cases c41 : x16_2 < (t435.length : Int)
       rotate_left
       ·rw [if_neg c41] at H
        exact absurd H (by simp)
       rw [if_pos c41] at H
       have c41b0 : decide (x16_2 < (t435.length : Int)) = true := decide_eq_true c41
       clear c41
       by_cases c42 : ((rd_T38 t435 x16_2).f0) = (wrap64 (t432 * ((rd_T38 t431 x16_2).f0)))
       rotate_left
       ·rw [if_neg c42] at H
        have c42b0 : (((rd_T38 t435 x16_2).f0) == (wrap64 (t432 * ((rd_T38 t431 x16_2).f0)))) = false := beq_eq_false_iff_ne.mpr c42
        have c42b1 : (((rd_T38 t435 x16_2).f0) != (wrap64 (t432 * ((rd_T38 t431 x16_2).f0)))) = true := bne_iff_ne.mpr c42
        obtain rfl := Option.some.inj H
        obtain ⟨Ao50, co50, eo50⟩ := Kd.R_slice HO_12.out
        subst eo50
        have p445 : 0 ≤ (x16_2 : Int) := of_decide_eq_true (by first | (with_reducible assumption) | assumption)
        have q445 : x16_2 < (t435.length : Int) := of_decide_eq_true (by first | (with_reducible assumption) | assumption)
        obtain ⟨ad445, e445, hx445_0, hx445_1, hx445_2, hx445_3⟩ := at_T38 (Kd.R_reads' HO_12.out).2.2 x16_2 p445 q445
        cases e445
        replace p445 := eq_true p445
        replace q445 := eq_true q445
        have p446 : 0 ≤ (x16_2 : Int) := of_decide_eq_true (by first | (with_reducible assumption) | assumption)
        have q446 : x16_2 < (t431.length : Int) := of_decide_eq_true (by first | (with_reducible assumption) | assumption)
        obtain ⟨ad446, e446, hx446_0, hx446_1, hx446_2, hx446_3⟩ := at_T38 (Kd.R_reads' HO_10.out).2.2 x16_2 p446 q446
        cases e446
        replace p446 := eq_true p446
        replace q446 := eq_true q446
        go_wp2
        repeat (go_quiet (fail); try go_wp2)
        go_ret
        exact ⟨by first | rfl | (simp [errW_none, errW_some] <;> rfl) | (simp [*, errW_none, errW_some] <;> rfl), bw HB.out⟩
       rw [if_pos c42] at H
       have c42b0 : (((rd_T38 t435 x16_2).f0) == (wrap64 (t432 * ((rd_T38 t431 x16_2).f0)))) = true := beq_iff_eq.mpr c42
       have c42b1 : (((rd_T38 t435 x16_2).f0) != (wrap64 (t432 * ((rd_T38 t431 x16_2).f0)))) = false := bne_eq_false_iff_eq.mpr c42
       clear c42
       by_cases c43 : ((rd_T38 t435 x16_2).f2) = (wrap64 (t432 * ((rd_T38 t431 x16_2).f2)))
       rotate_left
       ·rw [if_neg c43] at H
        have c43b0 : (((rd_T38 t435 x16_2).f2) == (wrap64 (t432 * ((rd_T38 t431 x16_2).f2)))) = false := beq_eq_false_iff_ne.mpr c43
        have c43b1 : (((rd_T38 t435 x16_2).f2) != (wrap64 (t432 * ((rd_T38 t431 x16_2).f2)))) = true := bne_iff_ne.mpr c43
        obtain rfl := Option.some.inj H
        obtain ⟨Ao49, co49, eo49⟩ := Kd.R_slice HO_12.out
        subst eo49
        have p445 : 0 ≤ (x16_2 : Int) := of_decide_eq_true (by first | (with_reducible assumption) | assumption)
        have q445 : x16_2 < (t435.length : Int) := of_decide_eq_true (by first | (with_reducible assumption) | assumption)
        obtain ⟨ad445, e445, hx445_0, hx445_1, hx445_2, hx445_3⟩ := at_T38 (Kd.R_reads' HO_12.out).2.2 x16_2 p445 q445
        cases e445
        replace p445 := eq_true p445
        replace q445 := eq_true q445
        have p446 : 0 ≤ (x16_2 : Int) := of_decide_eq_true (by first | (with_reducible assumption) | assumption)
        have q446 : x16_2 < (t431.length : Int) := of_decide_eq_true (by first | (with_reducible assumption) | assumption)
        obtain ⟨ad446, e446, hx446_0, hx446_1, hx446_2, hx446_3⟩ := at_T38 (Kd.R_reads' HO_10.out).2.2 x16_2 p446 q446
        cases e446
        replace p446 := eq_true p446
        replace q446 := eq_true q446
        have p447 : 0 ≤ (x16_2 : Int) := of_decide_eq_true (by first | (with_reducible assumption) | assumption)
        have q447 : x16_2 < (t435.length : Int) := of_decide_eq_true (by first | (with_reducible assumption) | assumption)
        obtain ⟨ad447, e447, hx447_0, hx447_1, hx447_2, hx447_3⟩ := at_T38 (Kd.R_reads' HO_12.out).2.2 x16_2 p447 q447
        obtain rfl : ad445 = ad447 := (by injection e447)
        replace p447 := eq_true p447
        replace q447 := eq_true q447
        have p448 : 0 ≤ (x16_2 : Int) := of_decide_eq_true (by first | (with_reducible assumption) | assumption)
        have q448 : x16_2 < (t431.length : Int) := of_decide_eq_true (by first | (with_reducible assumption) | assumption)
        obtain ⟨ad448, e448, hx448_0, hx448_1, hx448_2, hx448_3⟩ := at_T38 (Kd.R_reads' HO_10.out).2.2 x16_2 p448 q448
        obtain rfl : ad446 = ad448 := (by injection e448)
        replace p448 := eq_true p448
        replace q448 := eq_true q448
        go_wp2
        repeat (go_quiet (fail); try go_wp2)
        go_ret
        exact ⟨by first | rfl | (simp [errW_none, errW_some] <;> rfl) | (simp [*, errW_none, errW_some] <;> rfl), bw HB.out⟩
       rw [if_pos c43] at H
       have c43b0 : (((rd_T38 t435 x16_2).f2) == (wrap64 (t432 * ((rd_T38 t431 x16_2).f2)))) = true := beq_iff_eq.mpr c43
       have c43b1 : (((rd_T38 t435 x16_2).f2) != (wrap64 (t432 * ((rd_T38 t431 x16_2).f2)))) = false := bne_eq_false_iff_eq.mpr c43
       clear c43
       by_cases c44 : ((rd_T38 t435 x16_2).f3) = (wrap64 (t432 * ((rd_T38 t431 x16_2).f3)))
       rotate_left
       ·rw [if_neg c44] at H
        have c44b0 : (((rd_T38 t435 x16_2).f3) == (wrap64 (t432 * ((rd_T38 t431 x16_2).f3)))) = false := beq_eq_false_iff_ne.mpr c44
        have c44b1 : (((rd_T38 t435 x16_2).f3) != (wrap64 (t432 * ((rd_T38 t431 x16_2).f3)))) = true := bne_iff_ne.mpr c44
        obtain rfl := Option.some.inj H
        obtain ⟨Ao48, co48, eo48⟩ := Kd.R_slice HO_12.out
        subst eo48
        have p445 : 0 ≤ (x16_2 : Int) := of_decide_eq_true (by first | (with_reducible assumption) | assumption)
        have q445 : x16_2 < (t435.length : Int) := of_decide_eq_true (by first | (with_reducible assumption) | assumption)
        obtain ⟨ad445, e445, hx445_0, hx445_1, hx445_2, hx445_3⟩ := at_T38 (Kd.R_reads' HO_12.out).2.2 x16_2 p445 q445
        cases e445
        replace p445 := eq_true p445
        replace q445 := eq_true q445
        have p446 : 0 ≤ (x16_2 : Int) := of_decide_eq_true (by first | (with_reducible assumption) | assumption)
        have q446 : x16_2 < (t431.length : Int) := of_decide_eq_true (by first | (with_reducible assumption) | assumption)
        obtain ⟨ad446, e446, hx446_0, hx446_1, hx446_2, hx446_3⟩ := at_T38 (Kd.R_reads' HO_10.out).2.2 x16_2 p446 q446
        cases e446
        replace p446 := eq_true p446
        replace q446 := eq_true q446
        have p447 : 0 ≤ (x16_2 : Int) := of_decide_eq_true (by first | (with_reducible assumption) | assumption)
        have q447 : x16_2 < (t435.length : Int) := of_decide_eq_true (by first | (with_reducible assumption) | assumption)
        obtain ⟨ad447, e447, hx447_0, hx447_1, hx447_2, hx447_3⟩ := at_T38 (Kd.R_reads' HO_12.out).2.2 x16_2 p447 q447
        obtain rfl : ad445 = ad447 := (by injection e447)
        replace p447 := eq_true p447
        replace q447 := eq_true q447
        have p448 : 0 ≤ (x16_2 : Int) := of_decide_eq_true (by first | (with_reducible assumption) | assumption)
        have q448 : x16_2 < (t431.length : Int) := of_decide_eq_true (by first | (with_reducible assumption) | assumption)
        obtain ⟨ad448, e448, hx448_0, hx448_1, hx448_2, hx448_3⟩ := at_T38 (Kd.R_reads' HO_10.out).2.2 x16_2 p448 q448
        obtain rfl : ad446 = ad448 := (by injection e448)
        replace p448 := eq_true p448
        replace q448 := eq_true q448
        have p449 : 0 ≤ (x16_2 : Int) := of_decide_eq_true (by first | (with_reducible assumption) | assumption)
        have q449 : x16_2 < (t435.length : Int) := of_decide_eq_true (by first | (with_reducible assumption) | assumption)
        obtain ⟨ad449, e449, hx449_0, hx449_1, hx449_2, hx449_3⟩ := at_T38 (Kd.R_reads' HO_12.out).2.2 x16_2 p449 q449
        obtain rfl : ad445 = ad449 := (by injection e449)
        replace p449 := eq_true p449
        replace q449 := eq_true q449
        have p450 : 0 ≤ (x16_2 : Int) := of_decide_eq_true (by first | (with_reducible assumption) | assumption)
        have q450 : x16_2 < (t431.length : Int) := of_decide_eq_true (by first | (with_reducible assumption) | assumption)
        obtain ⟨ad450, e450, hx450_0, hx450_1, hx450_2, hx450_3⟩ := at_T38 (Kd.R_reads' HO_10.out).2.2 x16_2 p450 q450
        obtain rfl : ad446 = ad450 := (by injection e450)
        replace p450 := eq_true p450
        replace q450 := eq_true q450
        go_wp2
        repeat (go_quiet (fail); try go_wp2)
        go_ret
        exact ⟨by first | rfl | (simp [errW_none, errW_some] <;> rfl) | (simp [*, errW_none, errW_some] <;> rfl), bw HB.out⟩
       rw [if_pos c44] at H
       have c44b0 : (((rd_T38 t435 x16_2).f3) == (wrap64 (t432 * ((rd_T38 t431 x16_2).f3)))) = true := beq_iff_eq.mpr c44
       have c44b1 : (((rd_T38 t435 x16_2).f3) != (wrap64 (t432 * ((rd_T38 t431 x16_2).f3)))) = false := bne_eq_false_iff_eq.mpr c44
       clear c44
       by_cases c45 : ((rd_T38 t435 x16_2).f1) = ((rd_T38 t431 x16_2).f1)
       rotate_left
       ·rw [if_neg c45] at H
        have c45b0 : (((rd_T38 t435 x16_2).f1) == ((rd_T38 t431 x16_2).f1)) = false := beq_eq_false_iff_ne.mpr c45
        have c45b1 : (((rd_T38 t435 x16_2).f1) != ((rd_T38 t431 x16_2).f1)) = true := bne_iff_ne.mpr c45
        obtain rfl := Option.some.inj H
        obtain ⟨Ao47, co47, eo47⟩ := Kd.R_slice HO_12.out
        subst eo47
        have p445 : 0 ≤ (x16_2 : Int) := of_decide_eq_true (by first | (with_reducible assumption) | assumption)
        have q445 : x16_2 < (t435.length : Int) := of_decide_eq_true (by first | (with_reducible assumption) | assumption)
        obtain ⟨ad445, e445, hx445_0, hx445_1, hx445_2, hx445_3⟩ := at_T38 (Kd.R_reads' HO_12.out).2.2 x16_2 p445 q445
        cases e445
        replace p445 := eq_true p445
        replace q445 := eq_true q445
        have p446 : 0 ≤ (x16_2 : Int) := of_decide_eq_true (by first | (with_reducible assumption) | assumption)
        have q446 : x16_2 < (t431.length : Int) := of_decide_eq_true (by first | (with_reducible assumption) | assumption)
        obtain ⟨ad446, e446, hx446_0, hx446_1, hx446_2, hx446_3⟩ := at_T38 (Kd.R_reads' HO_10.out).2.2 x16_2 p446 q446
        cases e446
        replace p446 := eq_true p446
        replace q446 := eq_true q446
        have p447 : 0 ≤ (x16_2 : Int) := of_decide_eq_true (by first | (with_reducible assumption) | assumption)
        have q447 : x16_2 < (t435.length : Int) := of_decide_eq_true (by first | (with_reducible assumption) | assumption)
        obtain ⟨ad447, e447, hx447_0, hx447_1, hx447_2, hx447_3⟩ := at_T38 (Kd.R_reads' HO_12.out).2.2 x16_2 p447 q447
        obtain rfl : ad445 = ad447 := (by injection e447)
        replace p447 := eq_true p447
        replace q447 := eq_true q447
        have p448 : 0 ≤ (x16_2 : Int) := of_decide_eq_true (by first | (with_reducible assumption) | assumption)
        have q448 : x16_2 < (t431.length : Int) := of_decide_eq_true (by first | (with_reducible assumption) | assumption)
        obtain ⟨ad448, e448, hx448_0, hx448_1, hx448_2, hx448_3⟩ := at_T38 (Kd.R_reads' HO_10.out).2.2 x16_2 p448 q448
        obtain rfl : ad446 = ad448 := (by injection e448)
        replace p448 := eq_true p448
        replace q448 := eq_true q448
        have p449 : 0 ≤ (x16_2 : Int) := of_decide_eq_true (by first | (with_reducible assumption) | assumption)
        have q449 : x16_2 < (t435.length : Int) := of_decide_eq_true (by first | (with_reducible assumption) | assumption)
        obtain ⟨ad449, e449, hx449_0, hx449_1, hx449_2, hx449_3⟩ := at_T38 (Kd.R_reads' HO_12.out).2.2 x16_2 p449 q449
        obtain rfl : ad445 = ad449 := (by injection e449)
        replace p449 := eq_true p449
        replace q449 := eq_true q449
        have p450 : 0 ≤ (x16_2 : Int) := of_decide_eq_true (by first | (with_reducible assumption) | assumption)
        have q450 : x16_2 < (t431.length : Int) := of_decide_eq_true (by first | (with_reducible assumption) | assumption)
        obtain ⟨ad450, e450, hx450_0, hx450_1, hx450_2, hx450_3⟩ := at_T38 (Kd.R_reads' HO_10.out).2.2 x16_2 p450 q450
        obtain rfl : ad446 = ad450 := (by injection e450)
        replace p450 := eq_true p450
        replace q450 := eq_true q450
        have p451 : 0 ≤ (x16_2 : Int) := of_decide_eq_true (by first | (with_reducible assumption) | assumption)
        have q451 : x16_2 < (t435.length : Int) := of_decide_eq_true (by first | (with_reducible assumption) | assumption)
        obtain ⟨ad451, e451, hx451_0, hx451_1, hx451_2, hx451_3⟩ := at_T38 (Kd.R_reads' HO_12.out).2.2 x16_2 p451 q451
        obtain rfl : ad445 = ad451 := (by injection e451)
        replace p451 := eq_true p451
        replace q451 := eq_true q451
        have p452 : 0 ≤ (x16_2 : Int) := of_decide_eq_true (by first | (with_reducible assumption) | assumption)
        have q452 : x16_2 < (t431.length : Int) := of_decide_eq_true (by first | (with_reducible assumption) | assumption)
        obtain ⟨ad452, e452, hx452_0, hx452_1, hx452_2, hx452_3⟩ := at_T38 (Kd.R_reads' HO_10.out).2.2 x16_2 p452 q452
        obtain rfl : ad446 = ad452 := (by injection e452)
        replace p452 := eq_true p452
        replace q452 := eq_true q452
        go_wp2
        repeat (go_quiet (fail); try go_wp2)
        go_ret
        exact ⟨by first | rfl | (simp [errW_none, errW_some] <;> rfl) | (simp [*, errW_none, errW_some] <;> rfl), bw HB.out⟩
       rw [if_pos c45] at H
       have c45b0 : (((rd_T38 t435 x16_2).f1) == ((rd_T38 t431 x16_2).f1)) = true := beq_iff_eq.mpr c45
       have c45b1 : (((rd_T38 t435 x16_2).f1) != ((rd_T38 t431 x16_2).f1)) = false := bne_eq_false_iff_eq.mpr c45
       clear c45
       have H' := Aside0.mk H
       clear H
       obtain ⟨Ao46, co46, eo46⟩ := Kd.R_slice HO_12.out
       subst eo46
       have p445 : 0 ≤ (x16_2 : Int) := of_decide_eq_true (by first | (with_reducible assumption) | assumption)
       have q445 : x16_2 < (t435.length : Int) := of_decide_eq_true (by first | (with_reducible assumption) | assumption)
       obtain ⟨ad445, e445, hx445_0, hx445_1, hx445_2, hx445_3⟩ := at_T38 (Kd.R_reads' HO_12.out).2.2 x16_2 p445 q445
       cases e445
       replace p445 := eq_true p445
       replace q445 := eq_true q445
       have p446 : 0 ≤ (x16_2 : Int) := of_decide_eq_true (by first | (with_reducible assumption) | assumption)
       have q446 : x16_2 < (t431.length : Int) := of_decide_eq_true (by first | (with_reducible assumption) | assumption)
       obtain ⟨ad446, e446, hx446_0, hx446_1, hx446_2, hx446_3⟩ := at_T38 (Kd.R_reads' HO_10.out).2.2 x16_2 p446 q446
       cases e446
       replace p446 := eq_true p446
       replace q446 := eq_true q446
       have p447 : 0 ≤ (x16_2 : Int) := of_decide_eq_true (by first | (with_reducible assumption) | assumption)
       have q447 : x16_2 < (t435.length : Int) := of_decide_eq_true (by first | (with_reducible assumption) | assumption)
       obtain ⟨ad447, e447, hx447_0, hx447_1, hx447_2, hx447_3⟩ := at_T38 (Kd.R_reads' HO_12.out).2.2 x16_2 p447 q447
       obtain rfl : ad445 = ad447 := (by injection e447)
       replace p447 := eq_true p447
       replace q447 := eq_true q447
       have p448 : 0 ≤ (x16_2 : Int) := of_decide_eq_true (by first | (with_reducible assumption) | assumption)
       have q448 : x16_2 < (t431.length : Int) := of_decide_eq_true (by first | (with_reducible assumption) | assumption)
       obtain ⟨ad448, e448, hx448_0, hx448_1, hx448_2, hx448_3⟩ := at_T38 (Kd.R_reads' HO_10.out).2.2 x16_2 p448 q448
       obtain rfl : ad446 = ad448 := (by injection e448)
       replace p448 := eq_true p448
       replace q448 := eq_true q448
       have p449 : 0 ≤ (x16_2 : Int) := of_decide_eq_true (by first | (with_reducible assumption) | assumption)
       have q449 : x16_2 < (t435.length : Int) := of_decide_eq_true (by first | (with_reducible assumption) | assumption)
       obtain ⟨ad449, e449, hx449_0, hx449_1, hx449_2, hx449_3⟩ := at_T38 (Kd.R_reads' HO_12.out).2.2 x16_2 p449 q449
       obtain rfl : ad445 = ad449 := (by injection e449)
       replace p449 := eq_true p449
       replace q449 := eq_true q449
       have p450 : 0 ≤ (x16_2 : Int) := of_decide_eq_true (by first | (with_reducible assumption) | assumption)
       have q450 : x16_2 < (t431.length : Int) := of_decide_eq_true (by first | (with_reducible assumption) | assumption)
       obtain ⟨ad450, e450, hx450_0, hx450_1, hx450_2, hx450_3⟩ := at_T38 (Kd.R_reads' HO_10.out).2.2 x16_2 p450 q450
       obtain rfl : ad446 = ad450 := (by injection e450)
       replace p450 := eq_true p450
       replace q450 := eq_true q450
       have p451 : 0 ≤ (x16_2 : Int) := of_decide_eq_true (by first | (with_reducible assumption) | assumption)
       have q451 : x16_2 < (t435.length : Int) := of_decide_eq_true (by first | (with_reducible assumption) | assumption)
       obtain ⟨ad451, e451, hx451_0, hx451_1, hx451_2, hx451_3⟩ := at_T38 (Kd.R_reads' HO_12.out).2.2 x16_2 p451 q451
       obtain rfl : ad445 = ad451 := (by injection e451)
       replace p451 := eq_true p451
       replace q451 := eq_true q451
       have p452 : 0 ≤ (x16_2 : Int) := of_decide_eq_true (by first | (with_reducible assumption) | assumption)
       have q452 : x16_2 < (t431.length : Int) := of_decide_eq_true (by first | (with_reducible assumption) | assumption)
       obtain ⟨ad452, e452, hx452_0, hx452_1, hx452_2, hx452_3⟩ := at_T38 (Kd.R_reads' HO_10.out).2.2 x16_2 p452 q452
       obtain rfl : ad446 = ad452 := (by injection e452)
       replace p452 := eq_true p452
       replace q452 := eq_true q452
       go_wp2
       repeat (go_quiet (fail); try go_wp2)
       go_roundg k2
       case measure => have := HJ10.out; have := HK2.out; omega
       case rel => exact ⟨(wrap64 (x16_2 + 1)), (by first | rfl | (simp; done) | (simp [*]; done)), H', ⟨by have := HJ10.out; have := HK2.out; omega⟩, ⟨bR HO_3.out⟩, ⟨bR HO_4.out⟩, ⟨bR HO_6.out⟩, ⟨bR HO_10.out⟩, ⟨bR HO_12.out⟩, ⟨bw HB.out⟩⟩
      rw [if_neg c39] at H
      have c39b0 : decide (x16_2 < (t431.length : Int)) = false := decide_eq_false c39
      clear c39
      (first | rw [c39b0] | (simp only [i64_w, i32_w]; rw [c39b0]) | skip)
      have H' := Aside0.mk H
      clear H
      go_wp2
      repeat (go_quiet (fail); try go_wp2)
      go_loopg [17] k2 (fun kq v17 w' => ∃ (x17_3 : Int), v17 = .int .i64 x17_3 ∧ Aside0 (laws_FnSlacks.l1 kq t413 t414 t415 t420 t421 t431 t435 x17_3 = some r) ∧ Aside0 (kq ≤ k2) ∧ Aside0 (Kd.R k38 38 w' w.heap.size (fun k_ => some k_ ≠ ((.slice Ao20 t431.length co20) : Value).ownBlock ∧ some k_ ≠ (v437 : Value).ownBlock) (.slice Ao13 t413.length co13) t413) ∧ Aside0 (Kd.R (Kd.int .i64) 3 w' w.heap.size (fun k_ => some k_ ≠ (v422 : Value).ownBlock) (.slice Ao14 t414.length co14) t414) ∧ Aside0 (Kd.R (Kd.int .i64) 3 w' w.heap.size (fun k_ => some k_ ≠ ((.slice Ao14 t414.length co14) : Value).ownBlock) v422 t420) ∧ Aside0 (Kd.R k38 38 w' w.heap.size (fun k_ => some k_ ≠ ((.slice Ao13 t413.length co13) : Value).ownBlock ∧ some k_ ≠ (v437 : Value).ownBlock) (.slice Ao20 t431.length co20) t431) ∧ Aside0 (Kd.R k38 38 w' w.heap.size (fun k_ => some k_ ≠ ((.slice Ao13 t413.length co13) : Value).ownBlock ∧ some k_ ≠ ((.slice Ao20 t431.length co20) : Value).ownBlock) v437 t435) ∧ Aside0 (Below w.heap.size w w'))
      case atStart => exact ⟨(1), (by first | rfl | (simp; done) | (simp [*]; done)), H', ⟨Nat.le_refl _⟩, ⟨bR HO_3.out⟩, ⟨bR HO_4.out⟩, ⟨bR HO_6.out⟩, ⟨bR HO_10.out⟩, ⟨bR HO_12.out⟩, ⟨bw HB.out⟩⟩
      case round => as_aux_lemma =>
       clear H'
       try clear c2
       try clear p2
       try clear c3
       try clear c4
       try clear p4
       try clear q4
       try clear hx4
       try clear p6
       try clear c23
       try clear c23b0
       try clear c23b1
       try clear c23b2
       try clear c25
       try clear c26
       try clear c26b0
       try clear c26b1
       try clear c26b2
       try clear c36
       try clear c38
       try clear c39
       try clear c39b0
       try clear c40
       try clear c40b0
       try clear c41
       try clear c41b0
       try clear c42
       try clear c42b0
       try clear c42b1
       try clear c43
       try clear c43b0
       try clear c43b1
       try clear c44
       try clear c44b0
       try clear c44b1
       try clear p44
       try clear q44
       try clear hx44
       try clear c45
       try clear c45b0
       try clear c45b1
       try clear p45
       try clear q45
       try clear hx45
       try clear hx445_0
       try clear hx445_1
       try clear hx445_2
       try clear hx445_3
       try clear hx446_0
       try clear hx446_1
       try clear hx446_2
       try clear hx446_3
       try clear hx447_0
       try clear hx447_1
       try clear hx447_2
       try clear hx447_3
       try clear hx448_0
       try clear hx448_1
       try clear hx448_2
       try clear hx448_3
       try clear hx449_0
       try clear hx449_1
       try clear hx449_2
       try clear hx449_3
       try clear hx450_0
       try clear hx450_1
       try clear hx450_2
       try clear hx450_3
       try clear hx451_0
       try clear hx451_1
       try clear hx451_2
       try clear hx451_3
       try clear hx452_0
       try clear hx452_1
       try clear hx452_2
       try clear hx452_3
       try clear p2
       try clear p445
       try clear p446
       try clear p447
       try clear p448
       try clear p449
       try clear p450
       try clear p451
       try clear p452
       try clear q445
       try clear q446
       try clear q447
       try clear q448
       try clear q449
       try clear q450
       try clear q451
       try clear q452
       obtain ⟨x17_3, rfl, HA, HK3, HO_3, HO_4, HO_6, HO_10, HO_12, HB⟩ := hrel
       cases gk with
       | zero => exact absurd HA.out (by simp [laws_FnSlacks.l1])
       | succ k3 =>
        have H := HA.out
        clear HA
        simp only [laws_FnSlacks.l1] at H
        by_cases c51 : x17_3 ≤ 4
        rotate_left
        ·rw [if_neg c51] at H
         have c51b0 : decide (x17_3 ≤ 4) = false := decide_eq_false c51
         clear c51
         have H' := Aside0.mk H
         clear H
         go_wp2
         repeat (go_quiet (fail); try go_wp2)
         go_meet
         case rel => exact ⟨_, H', ⟨by have := HJ10.out; have := HK2.out; have := HK3.out; first | omega | exact Nat.le_refl _⟩, ⟨by (with_reducible repeat (first | apply Kd.R_alloc | apply Kd.R_drewN | apply Kd.R_drew)); exact Kd.R_mono HO_3.out (fun _ hk => trivial)⟩, ⟨bR HO_4.out⟩, ⟨bR HO_6.out⟩, ⟨bw HB.out⟩⟩
        rw [if_pos c51] at H
        have c51b0 : decide (x17_3 ≤ 4) = true := decide_eq_true c51
        clear c51
        replace H := Option.bind_eq_some_iff.mp H
        obtain ⟨⟨t453, t454⟩, A520, H⟩ := H
        replace H : ((impl_RuledOrder.f k3 t435 x17_3).bind fun bt457 => (if (t454 != bt457.2) = true then (some false) else ((laws_vInts.f k3 t453 bt457.1).bind fun t461 => (if t461 = true then (laws_FnSlacks.l1 k3 t413 t414 t415 t420 t421 t431 t435 (wrap64 (x17_3 + 1))) else (some false))))) = some r := H
        have A52 := Aside0.mk A520
        clear A520
        replace H := Option.bind_eq_some_iff.mp H
        obtain ⟨⟨t457, t458⟩, A530, H⟩ := H
        replace H : (if (t454 != t458) = true then (some false) else ((laws_vInts.f k3 t453 t457).bind fun t461 => (if t461 = true then (laws_FnSlacks.l1 k3 t413 t414 t415 t420 t421 t431 t435 (wrap64 (x17_3 + 1))) else (some false)))) = some r := H
        have A53 := Aside0.mk A530
        clear A530
        by_cases c54 : (t454 != t458) = true
        ·rw [if_pos c54] at H
         have c54b0 : (t454 != t458) = true := c54
         (try (have c54b1 : decide (t454 = t458) = false := by simpa using c54))
         (try (have c54b2 : (t454 == t458) = false := by simpa using c54))
         (try (have c54b3 : ¬ (t454 = t458) := by simpa using c54))
         clear c54
         obtain rfl := Option.some.inj H
         have go_ := True.intro
         repeat ((first | go_quiet (first | (go_at_call 14; (with_reducible refine (impl_RuledOrder.calls k3 _ _ t431 x17_3 t453 t454 _ ?side1 ?side2 A52.out).mono ?_); (case side1 => repeat (first | exact (Kd.R_reads' HO_10.out).2.2 | (with_reducible refine Kd.C_alloc ?_ _) | (with_reducible refine Kd.C_drewN ?_ _) | (with_reducible refine Kd.C_drew ?_))); (case side2 => exact (Kd.R_reads' HO_10.out).2.1); rintro e w55 ⟨v455, rfl, ho0, hb⟩; have n0_ := Aside0.mk (Kd.R_below (bR HO_3.out) hb); have n1_ := Aside0.mk (Kd.R_elder' (bR HO_4.out) (Kd.R_base ho0) hb); have n2_ := Aside0.mk (Kd.R_elder' (bR HO_6.out) (Kd.R_base ho0) hb); have n3_ := Aside0.mk (Kd.R_below (bR HO_10.out) hb); have n4_ := Aside0.mk (Kd.R_below (bR HO_12.out) hb); have n5_ := Aside0.mk (Kd.R_lower (Kd.R_new' (Kd.R_new' ho0 (Kd.R_lt (bR HO_4.out))) (Kd.R_lt (bR HO_6.out))) (below_size (bw HB.out))); have n6_ := Aside0.mk (below_step (bw HB.out) hb); replace HO_3 := n0_; replace HO_4 := n1_; replace HO_6 := n2_; replace HO_10 := n3_; replace HO_12 := n4_; have HO456 := n5_; replace HB := n6_; clear n0_ n1_ n2_ n3_ n4_ n5_ n6_; (try clear hb); (try clear hb2); (try clear hk); (try clear hi); (try clear ho0); obtain ⟨Ao56, co56, eo56⟩ := Kd.R_slice HO_12.out; subst eo56) | (go_at_call 14; (with_reducible refine (impl_RuledOrder.calls k3 _ _ t435 x17_3 t457 t458 _ ?side1 ?side2 A53.out).mono ?_); (case side1 => repeat (first | exact (Kd.R_reads' HO_12.out).2.2 | (with_reducible refine Kd.C_alloc ?_ _) | (with_reducible refine Kd.C_drewN ?_ _) | (with_reducible refine Kd.C_drew ?_))); (case side2 => exact (Kd.R_reads' HO_12.out).2.1); rintro e w57 ⟨v459, rfl, ho0, hb⟩; have n0_ := Aside0.mk (Kd.R_below (bR HO_3.out) hb); have n1_ := Aside0.mk (Kd.R_elder' (bR HO_4.out) (Kd.R_base ho0) hb); have n2_ := Aside0.mk (Kd.R_elder' (bR HO_6.out) (Kd.R_base ho0) hb); have n3_ := Aside0.mk (Kd.R_below (bR HO_10.out) hb); have n4_ := Aside0.mk (Kd.R_below (bR HO_12.out) hb); have n5_ := Aside0.mk (Kd.R_elder' (bR HO456.out) (Kd.R_base ho0) hb); have n6_ := Aside0.mk (Kd.R_lower (Kd.R_new' (Kd.R_new' (Kd.R_new' ho0 (Kd.R_lt (bR HO_4.out))) (Kd.R_lt (bR HO_6.out))) (Kd.R_lt (bR HO456.out))) (below_size (bw HB.out))); have n7_ := Aside0.mk (below_step (bw HB.out) hb); replace HO_3 := n0_; replace HO_4 := n1_; replace HO_6 := n2_; replace HO_10 := n3_; replace HO_12 := n4_; replace HO456 := n5_; have HO460 := n6_; replace HB := n7_; clear n0_ n1_ n2_ n3_ n4_ n5_ n6_ n7_; (try clear hb); (try clear hb2); (try clear hk); (try clear hi); (try clear ho0))) | clear go_); go_wp2_with (first | (go_at_call 14; (with_reducible refine (impl_RuledOrder.calls k3 _ _ t431 x17_3 t453 t454 _ ?side1 ?side2 A52.out).mono ?_); (case side1 => repeat (first | exact (Kd.R_reads' HO_10.out).2.2 | (with_reducible refine Kd.C_alloc ?_ _) | (with_reducible refine Kd.C_drewN ?_ _) | (with_reducible refine Kd.C_drew ?_))); (case side2 => exact (Kd.R_reads' HO_10.out).2.1); rintro e w55 ⟨v455, rfl, ho0, hb⟩; have n0_ := Aside0.mk (Kd.R_below (bR HO_3.out) hb); have n1_ := Aside0.mk (Kd.R_elder' (bR HO_4.out) (Kd.R_base ho0) hb); have n2_ := Aside0.mk (Kd.R_elder' (bR HO_6.out) (Kd.R_base ho0) hb); have n3_ := Aside0.mk (Kd.R_below (bR HO_10.out) hb); have n4_ := Aside0.mk (Kd.R_below (bR HO_12.out) hb); have n5_ := Aside0.mk (Kd.R_lower (Kd.R_new' (Kd.R_new' ho0 (Kd.R_lt (bR HO_4.out))) (Kd.R_lt (bR HO_6.out))) (below_size (bw HB.out))); have n6_ := Aside0.mk (below_step (bw HB.out) hb); replace HO_3 := n0_; replace HO_4 := n1_; replace HO_6 := n2_; replace HO_10 := n3_; replace HO_12 := n4_; have HO456 := n5_; replace HB := n6_; clear n0_ n1_ n2_ n3_ n4_ n5_ n6_; (try clear hb); (try clear hb2); (try clear hk); (try clear hi); (try clear ho0); obtain ⟨Ao56, co56, eo56⟩ := Kd.R_slice HO_12.out; subst eo56) | (go_at_call 14; (with_reducible refine (impl_RuledOrder.calls k3 _ _ t435 x17_3 t457 t458 _ ?side1 ?side2 A53.out).mono ?_); (case side1 => repeat (first | exact (Kd.R_reads' HO_12.out).2.2 | (with_reducible refine Kd.C_alloc ?_ _) | (with_reducible refine Kd.C_drewN ?_ _) | (with_reducible refine Kd.C_drew ?_))); (case side2 => exact (Kd.R_reads' HO_12.out).2.1); rintro e w57 ⟨v459, rfl, ho0, hb⟩; have n0_ := Aside0.mk (Kd.R_below (bR HO_3.out) hb); have n1_ := Aside0.mk (Kd.R_elder' (bR HO_4.out) (Kd.R_base ho0) hb); have n2_ := Aside0.mk (Kd.R_elder' (bR HO_6.out) (Kd.R_base ho0) hb); have n3_ := Aside0.mk (Kd.R_below (bR HO_10.out) hb); have n4_ := Aside0.mk (Kd.R_below (bR HO_12.out) hb); have n5_ := Aside0.mk (Kd.R_elder' (bR HO456.out) (Kd.R_base ho0) hb); have n6_ := Aside0.mk (Kd.R_lower (Kd.R_new' (Kd.R_new' (Kd.R_new' ho0 (Kd.R_lt (bR HO_4.out))) (Kd.R_lt (bR HO_6.out))) (Kd.R_lt (bR HO456.out))) (below_size (bw HB.out))); have n7_ := Aside0.mk (below_step (bw HB.out) hb); replace HO_3 := n0_; replace HO_4 := n1_; replace HO_6 := n2_; replace HO_10 := n3_; replace HO_12 := n4_; replace HO456 := n5_; have HO460 := n6_; replace HB := n7_; clear n0_ n1_ n2_ n3_ n4_ n5_ n6_ n7_; (try clear hb); (try clear hb2); (try clear hk); (try clear hi); (try clear ho0))))
         go_ret
         exact ⟨by first | rfl | (simp [errW_none, errW_some] <;> rfl) | (simp [*, errW_none, errW_some] <;> rfl), bw HB.out⟩
        rw [if_neg c54] at H
        have c54b0 : (t454 != t458) = false := by simpa using c54
        (try (have c54b1 : decide (t454 = t458) = true := by simpa using c54))
        (try (have c54b2 : (t454 == t458) = true := by simpa using c54))
        clear c54
        replace H := Option.bind_eq_some_iff.mp H
        obtain ⟨t461, A580, H⟩ := H
        replace H : (if t461 = true then (laws_FnSlacks.l1 k3 t413 t414 t415 t420 t421 t431 t435 (wrap64 (x17_3 + 1))) else (some false)) = some r := H
        have A58 := Aside0.mk A580
        clear A580
        by_cases c59 : t461 = true
        rotate_left
        ·replace c59 := Bool.eq_false_iff.mpr c59
         subst c59
         have H1 : (some false) = some r := by rw [if_neg (show ¬ (false = true) by decide)] at H; exact H
         clear H
         have H := H1
         clear H1
         obtain rfl := Option.some.inj H
         have go_ := True.intro
         repeat ((first | go_quiet (first | (go_at_call 14; (with_reducible refine (impl_RuledOrder.calls k3 _ _ t431 x17_3 t453 t454 _ ?side1 ?side2 A52.out).mono ?_); (case side1 => repeat (first | exact (Kd.R_reads' HO_10.out).2.2 | (with_reducible refine Kd.C_alloc ?_ _) | (with_reducible refine Kd.C_drewN ?_ _) | (with_reducible refine Kd.C_drew ?_))); (case side2 => exact (Kd.R_reads' HO_10.out).2.1); rintro e w65 ⟨v455, rfl, ho0, hb⟩; have n0_ := Aside0.mk (Kd.R_below (bR HO_3.out) hb); have n1_ := Aside0.mk (Kd.R_elder' (bR HO_4.out) (Kd.R_base ho0) hb); have n2_ := Aside0.mk (Kd.R_elder' (bR HO_6.out) (Kd.R_base ho0) hb); have n3_ := Aside0.mk (Kd.R_below (bR HO_10.out) hb); have n4_ := Aside0.mk (Kd.R_below (bR HO_12.out) hb); have n5_ := Aside0.mk (Kd.R_lower (Kd.R_new' (Kd.R_new' ho0 (Kd.R_lt (bR HO_4.out))) (Kd.R_lt (bR HO_6.out))) (below_size (bw HB.out))); have n6_ := Aside0.mk (below_step (bw HB.out) hb); replace HO_3 := n0_; replace HO_4 := n1_; replace HO_6 := n2_; replace HO_10 := n3_; replace HO_12 := n4_; have HO456 := n5_; replace HB := n6_; clear n0_ n1_ n2_ n3_ n4_ n5_ n6_; (try clear hb); (try clear hb2); (try clear hk); (try clear hi); (try clear ho0); obtain ⟨Ao66, co66, eo66⟩ := Kd.R_slice HO_12.out; subst eo66) | (go_at_call 14; (with_reducible refine (impl_RuledOrder.calls k3 _ _ t435 x17_3 t457 t458 _ ?side1 ?side2 A53.out).mono ?_); (case side1 => repeat (first | exact (Kd.R_reads' HO_12.out).2.2 | (with_reducible refine Kd.C_alloc ?_ _) | (with_reducible refine Kd.C_drewN ?_ _) | (with_reducible refine Kd.C_drew ?_))); (case side2 => exact (Kd.R_reads' HO_12.out).2.1); rintro e w67 ⟨v459, rfl, ho0, hb⟩; have n0_ := Aside0.mk (Kd.R_below (bR HO_3.out) hb); have n1_ := Aside0.mk (Kd.R_elder' (bR HO_4.out) (Kd.R_base ho0) hb); have n2_ := Aside0.mk (Kd.R_elder' (bR HO_6.out) (Kd.R_base ho0) hb); have n3_ := Aside0.mk (Kd.R_below (bR HO_10.out) hb); have n4_ := Aside0.mk (Kd.R_below (bR HO_12.out) hb); have n5_ := Aside0.mk (Kd.R_elder' (bR HO456.out) (Kd.R_base ho0) hb); have n6_ := Aside0.mk (Kd.R_lower (Kd.R_new' (Kd.R_new' (Kd.R_new' ho0 (Kd.R_lt (bR HO_4.out))) (Kd.R_lt (bR HO_6.out))) (Kd.R_lt (bR HO456.out))) (below_size (bw HB.out))); have n7_ := Aside0.mk (below_step (bw HB.out) hb); replace HO_3 := n0_; replace HO_4 := n1_; replace HO_6 := n2_; replace HO_10 := n3_; replace HO_12 := n4_; replace HO456 := n5_; have HO460 := n6_; replace HB := n7_; clear n0_ n1_ n2_ n3_ n4_ n5_ n6_ n7_; (try clear hb); (try clear hb2); (try clear hk); (try clear hi); (try clear ho0); obtain ⟨Ao68, co68, eo68⟩ := Kd.R_slice HO456.out; subst eo68; obtain ⟨Ao69, co69, eo69⟩ := Kd.R_slice HO460.out; subst eo69) | (go_at_call 12; (with_reducible refine (laws_vInts.calls k3 _ _ t453 _ _ t457 false _ ?side1 ?side2 ?side3 ?side4 A58.out).mono ?_); (case side1 => repeat (first | exact (Kd.R_reads' HO456.out).2.2 | (with_reducible refine Kd.C_alloc ?_ _) | (with_reducible refine Kd.C_drewN ?_ _) | (with_reducible refine Kd.C_drew ?_))); (case side2 => exact (Kd.R_reads' HO456.out).2.1); (case side3 => repeat (first | exact (Kd.R_reads' HO460.out).2.2 | (with_reducible refine Kd.C_alloc ?_ _) | (with_reducible refine Kd.C_drewN ?_ _) | (with_reducible refine Kd.C_drew ?_))); (case side4 => exact (Kd.R_reads' HO460.out).2.1); rintro e w' ⟨rfl, ⟨nd, rfl⟩⟩; (try first | exact ⟨rfl, _, World.drewN_drewN _ _ _⟩ | exact ⟨rfl, _, Eq.trans (World.drewN_drewN _ _ _) (congrArg (World.drewN _) (Nat.add_assoc _ _ _))⟩))) | clear go_); go_wp2_with (first | (go_at_call 14; (with_reducible refine (impl_RuledOrder.calls k3 _ _ t431 x17_3 t453 t454 _ ?side1 ?side2 A52.out).mono ?_); (case side1 => repeat (first | exact (Kd.R_reads' HO_10.out).2.2 | (with_reducible refine Kd.C_alloc ?_ _) | (with_reducible refine Kd.C_drewN ?_ _) | (with_reducible refine Kd.C_drew ?_))); (case side2 => exact (Kd.R_reads' HO_10.out).2.1); rintro e w65 ⟨v455, rfl, ho0, hb⟩; have n0_ := Aside0.mk (Kd.R_below (bR HO_3.out) hb); have n1_ := Aside0.mk (Kd.R_elder' (bR HO_4.out) (Kd.R_base ho0) hb); have n2_ := Aside0.mk (Kd.R_elder' (bR HO_6.out) (Kd.R_base ho0) hb); have n3_ := Aside0.mk (Kd.R_below (bR HO_10.out) hb); have n4_ := Aside0.mk (Kd.R_below (bR HO_12.out) hb); have n5_ := Aside0.mk (Kd.R_lower (Kd.R_new' (Kd.R_new' ho0 (Kd.R_lt (bR HO_4.out))) (Kd.R_lt (bR HO_6.out))) (below_size (bw HB.out))); have n6_ := Aside0.mk (below_step (bw HB.out) hb); replace HO_3 := n0_; replace HO_4 := n1_; replace HO_6 := n2_; replace HO_10 := n3_; replace HO_12 := n4_; have HO456 := n5_; replace HB := n6_; clear n0_ n1_ n2_ n3_ n4_ n5_ n6_; (try clear hb); (try clear hb2); (try clear hk); (try clear hi); (try clear ho0); obtain ⟨Ao66, co66, eo66⟩ := Kd.R_slice HO_12.out; subst eo66) | (go_at_call 14; (with_reducible refine (impl_RuledOrder.calls k3 _ _ t435 x17_3 t457 t458 _ ?side1 ?side2 A53.out).mono ?_); (case side1 => repeat (first | exact (Kd.R_reads' HO_12.out).2.2 | (with_reducible refine Kd.C_alloc ?_ _) | (with_reducible refine Kd.C_drewN ?_ _) | (with_reducible refine Kd.C_drew ?_))); (case side2 => exact (Kd.R_reads' HO_12.out).2.1); rintro e w67 ⟨v459, rfl, ho0, hb⟩; have n0_ := Aside0.mk (Kd.R_below (bR HO_3.out) hb); have n1_ := Aside0.mk (Kd.R_elder' (bR HO_4.out) (Kd.R_base ho0) hb); have n2_ := Aside0.mk (Kd.R_elder' (bR HO_6.out) (Kd.R_base ho0) hb); have n3_ := Aside0.mk (Kd.R_below (bR HO_10.out) hb); have n4_ := Aside0.mk (Kd.R_below (bR HO_12.out) hb); have n5_ := Aside0.mk (Kd.R_elder' (bR HO456.out) (Kd.R_base ho0) hb); have n6_ := Aside0.mk (Kd.R_lower (Kd.R_new' (Kd.R_new' (Kd.R_new' ho0 (Kd.R_lt (bR HO_4.out))) (Kd.R_lt (bR HO_6.out))) (Kd.R_lt (bR HO456.out))) (below_size (bw HB.out))); have n7_ := Aside0.mk (below_step (bw HB.out) hb); replace HO_3 := n0_; replace HO_4 := n1_; replace HO_6 := n2_; replace HO_10 := n3_; replace HO_12 := n4_; replace HO456 := n5_; have HO460 := n6_; replace HB := n7_; clear n0_ n1_ n2_ n3_ n4_ n5_ n6_ n7_; (try clear hb); (try clear hb2); (try clear hk); (try clear hi); (try clear ho0); obtain ⟨Ao68, co68, eo68⟩ := Kd.R_slice HO456.out; subst eo68; obtain ⟨Ao69, co69, eo69⟩ := Kd.R_slice HO460.out; subst eo69) | (go_at_call 12; (with_reducible refine (laws_vInts.calls k3 _ _ t453 _ _ t457 false _ ?side1 ?side2 ?side3 ?side4 A58.out).mono ?_); (case side1 => repeat (first | exact (Kd.R_reads' HO456.out).2.2 | (with_reducible refine Kd.C_alloc ?_ _) | (with_reducible refine Kd.C_drewN ?_ _) | (with_reducible refine Kd.C_drew ?_))); (case side2 => exact (Kd.R_reads' HO456.out).2.1); (case side3 => repeat (first | exact (Kd.R_reads' HO460.out).2.2 | (with_reducible refine Kd.C_alloc ?_ _) | (with_reducible refine Kd.C_drewN ?_ _) | (with_reducible refine Kd.C_drew ?_))); (case side4 => exact (Kd.R_reads' HO460.out).2.1); rintro e w' ⟨rfl, ⟨nd, rfl⟩⟩; (try first | exact ⟨rfl, _, World.drewN_drewN _ _ _⟩ | exact ⟨rfl, _, Eq.trans (World.drewN_drewN _ _ _) (congrArg (World.drewN _) (Nat.add_assoc _ _ _))⟩))))
         go_ret
         exact ⟨by first | rfl | (simp [errW_none, errW_some] <;> rfl) | (simp [*, errW_none, errW_some] <;> rfl), bw HB.out⟩
        subst c59
        have H1 : (laws_FnSlacks.l1 k3 t413 t414 t415 t420 t421 t431 t435 (wrap64 (x17_3 + 1))) = some r := by rw [if_pos rfl] at H; exact H
        clear H
        have H := H1
        clear H1
        have H' := Aside0.mk H
        clear H
        have go_ := True.intro
        repeat ((first | go_quiet (first | (go_at_call 14; (with_reducible refine (impl_RuledOrder.calls k3 _ _ t431 x17_3 t453 t454 _ ?side1 ?side2 A52.out).mono ?_); (case side1 => repeat (first | exact (Kd.R_reads' HO_10.out).2.2 | (with_reducible refine Kd.C_alloc ?_ _) | (with_reducible refine Kd.C_drewN ?_ _) | (with_reducible refine Kd.C_drew ?_))); (case side2 => exact (Kd.R_reads' HO_10.out).2.1); rintro e w60 ⟨v455, rfl, ho0, hb⟩; have n0_ := Aside0.mk (Kd.R_below (bR HO_3.out) hb); have n1_ := Aside0.mk (Kd.R_elder' (bR HO_4.out) (Kd.R_base ho0) hb); have n2_ := Aside0.mk (Kd.R_elder' (bR HO_6.out) (Kd.R_base ho0) hb); have n3_ := Aside0.mk (Kd.R_below (bR HO_10.out) hb); have n4_ := Aside0.mk (Kd.R_below (bR HO_12.out) hb); have n5_ := Aside0.mk (Kd.R_lower (Kd.R_new' (Kd.R_new' ho0 (Kd.R_lt (bR HO_4.out))) (Kd.R_lt (bR HO_6.out))) (below_size (bw HB.out))); have n6_ := Aside0.mk (below_step (bw HB.out) hb); replace HO_3 := n0_; replace HO_4 := n1_; replace HO_6 := n2_; replace HO_10 := n3_; replace HO_12 := n4_; have HO456 := n5_; replace HB := n6_; clear n0_ n1_ n2_ n3_ n4_ n5_ n6_; (try clear hb); (try clear hb2); (try clear hk); (try clear hi); (try clear ho0); obtain ⟨Ao61, co61, eo61⟩ := Kd.R_slice HO_12.out; subst eo61) | (go_at_call 14; (with_reducible refine (impl_RuledOrder.calls k3 _ _ t435 x17_3 t457 t458 _ ?side1 ?side2 A53.out).mono ?_); (case side1 => repeat (first | exact (Kd.R_reads' HO_12.out).2.2 | (with_reducible refine Kd.C_alloc ?_ _) | (with_reducible refine Kd.C_drewN ?_ _) | (with_reducible refine Kd.C_drew ?_))); (case side2 => exact (Kd.R_reads' HO_12.out).2.1); rintro e w62 ⟨v459, rfl, ho0, hb⟩; have n0_ := Aside0.mk (Kd.R_below (bR HO_3.out) hb); have n1_ := Aside0.mk (Kd.R_elder' (bR HO_4.out) (Kd.R_base ho0) hb); have n2_ := Aside0.mk (Kd.R_elder' (bR HO_6.out) (Kd.R_base ho0) hb); have n3_ := Aside0.mk (Kd.R_below (bR HO_10.out) hb); have n4_ := Aside0.mk (Kd.R_below (bR HO_12.out) hb); have n5_ := Aside0.mk (Kd.R_elder' (bR HO456.out) (Kd.R_base ho0) hb); have n6_ := Aside0.mk (Kd.R_lower (Kd.R_new' (Kd.R_new' (Kd.R_new' ho0 (Kd.R_lt (bR HO_4.out))) (Kd.R_lt (bR HO_6.out))) (Kd.R_lt (bR HO456.out))) (below_size (bw HB.out))); have n7_ := Aside0.mk (below_step (bw HB.out) hb); replace HO_3 := n0_; replace HO_4 := n1_; replace HO_6 := n2_; replace HO_10 := n3_; replace HO_12 := n4_; replace HO456 := n5_; have HO460 := n6_; replace HB := n7_; clear n0_ n1_ n2_ n3_ n4_ n5_ n6_ n7_; (try clear hb); (try clear hb2); (try clear hk); (try clear hi); (try clear ho0); obtain ⟨Ao63, co63, eo63⟩ := Kd.R_slice HO456.out; subst eo63; obtain ⟨Ao64, co64, eo64⟩ := Kd.R_slice HO460.out; subst eo64) | (go_at_call 12; (with_reducible refine (laws_vInts.calls k3 _ _ t453 _ _ t457 true _ ?side1 ?side2 ?side3 ?side4 A58.out).mono ?_); (case side1 => repeat (first | exact (Kd.R_reads' HO456.out).2.2 | (with_reducible refine Kd.C_alloc ?_ _) | (with_reducible refine Kd.C_drewN ?_ _) | (with_reducible refine Kd.C_drew ?_))); (case side2 => exact (Kd.R_reads' HO456.out).2.1); (case side3 => repeat (first | exact (Kd.R_reads' HO460.out).2.2 | (with_reducible refine Kd.C_alloc ?_ _) | (with_reducible refine Kd.C_drewN ?_ _) | (with_reducible refine Kd.C_drew ?_))); (case side4 => exact (Kd.R_reads' HO460.out).2.1); rintro e w' ⟨rfl, ⟨nd, rfl⟩⟩; (try first | exact ⟨rfl, _, World.drewN_drewN _ _ _⟩ | exact ⟨rfl, _, Eq.trans (World.drewN_drewN _ _ _) (congrArg (World.drewN _) (Nat.add_assoc _ _ _))⟩))) | clear go_); go_wp2_with (first | (go_at_call 14; (with_reducible refine (impl_RuledOrder.calls k3 _ _ t431 x17_3 t453 t454 _ ?side1 ?side2 A52.out).mono ?_); (case side1 => repeat (first | exact (Kd.R_reads' HO_10.out).2.2 | (with_reducible refine Kd.C_alloc ?_ _) | (with_reducible refine Kd.C_drewN ?_ _) | (with_reducible refine Kd.C_drew ?_))); (case side2 => exact (Kd.R_reads' HO_10.out).2.1); rintro e w60 ⟨v455, rfl, ho0, hb⟩; have n0_ := Aside0.mk (Kd.R_below (bR HO_3.out) hb); have n1_ := Aside0.mk (Kd.R_elder' (bR HO_4.out) (Kd.R_base ho0) hb); have n2_ := Aside0.mk (Kd.R_elder' (bR HO_6.out) (Kd.R_base ho0) hb); have n3_ := Aside0.mk (Kd.R_below (bR HO_10.out) hb); have n4_ := Aside0.mk (Kd.R_below (bR HO_12.out) hb); have n5_ := Aside0.mk (Kd.R_lower (Kd.R_new' (Kd.R_new' ho0 (Kd.R_lt (bR HO_4.out))) (Kd.R_lt (bR HO_6.out))) (below_size (bw HB.out))); have n6_ := Aside0.mk (below_step (bw HB.out) hb); replace HO_3 := n0_; replace HO_4 := n1_; replace HO_6 := n2_; replace HO_10 := n3_; replace HO_12 := n4_; have HO456 := n5_; replace HB := n6_; clear n0_ n1_ n2_ n3_ n4_ n5_ n6_; (try clear hb); (try clear hb2); (try clear hk); (try clear hi); (try clear ho0); obtain ⟨Ao61, co61, eo61⟩ := Kd.R_slice HO_12.out; subst eo61) | (go_at_call 14; (with_reducible refine (impl_RuledOrder.calls k3 _ _ t435 x17_3 t457 t458 _ ?side1 ?side2 A53.out).mono ?_); (case side1 => repeat (first | exact (Kd.R_reads' HO_12.out).2.2 | (with_reducible refine Kd.C_alloc ?_ _) | (with_reducible refine Kd.C_drewN ?_ _) | (with_reducible refine Kd.C_drew ?_))); (case side2 => exact (Kd.R_reads' HO_12.out).2.1); rintro e w62 ⟨v459, rfl, ho0, hb⟩; have n0_ := Aside0.mk (Kd.R_below (bR HO_3.out) hb); have n1_ := Aside0.mk (Kd.R_elder' (bR HO_4.out) (Kd.R_base ho0) hb); have n2_ := Aside0.mk (Kd.R_elder' (bR HO_6.out) (Kd.R_base ho0) hb); have n3_ := Aside0.mk (Kd.R_below (bR HO_10.out) hb); have n4_ := Aside0.mk (Kd.R_below (bR HO_12.out) hb); have n5_ := Aside0.mk (Kd.R_elder' (bR HO456.out) (Kd.R_base ho0) hb); have n6_ := Aside0.mk (Kd.R_lower (Kd.R_new' (Kd.R_new' (Kd.R_new' ho0 (Kd.R_lt (bR HO_4.out))) (Kd.R_lt (bR HO_6.out))) (Kd.R_lt (bR HO456.out))) (below_size (bw HB.out))); have n7_ := Aside0.mk (below_step (bw HB.out) hb); replace HO_3 := n0_; replace HO_4 := n1_; replace HO_6 := n2_; replace HO_10 := n3_; replace HO_12 := n4_; replace HO456 := n5_; have HO460 := n6_; replace HB := n7_; clear n0_ n1_ n2_ n3_ n4_ n5_ n6_ n7_; (try clear hb); (try clear hb2); (try clear hk); (try clear hi); (try clear ho0); obtain ⟨Ao63, co63, eo63⟩ := Kd.R_slice HO456.out; subst eo63; obtain ⟨Ao64, co64, eo64⟩ := Kd.R_slice HO460.out; subst eo64) | (go_at_call 12; (with_reducible refine (laws_vInts.calls k3 _ _ t453 _ _ t457 true _ ?side1 ?side2 ?side3 ?side4 A58.out).mono ?_); (case side1 => repeat (first | exact (Kd.R_reads' HO456.out).2.2 | (with_reducible refine Kd.C_alloc ?_ _) | (with_reducible refine Kd.C_drewN ?_ _) | (with_reducible refine Kd.C_drew ?_))); (case side2 => exact (Kd.R_reads' HO456.out).2.1); (case side3 => repeat (first | exact (Kd.R_reads' HO460.out).2.2 | (with_reducible refine Kd.C_alloc ?_ _) | (with_reducible refine Kd.C_drewN ?_ _) | (with_reducible refine Kd.C_drew ?_))); (case side4 => exact (Kd.R_reads' HO460.out).2.1); rintro e w' ⟨rfl, ⟨nd, rfl⟩⟩; (try first | exact ⟨rfl, _, World.drewN_drewN _ _ _⟩ | exact ⟨rfl, _, Eq.trans (World.drewN_drewN _ _ _) (congrArg (World.drewN _) (Nat.add_assoc _ _ _))⟩))))
        go_roundg k3
        case measure => have := HJ10.out; have := HK2.out; have := HK3.out; omega
        case rel => exact ⟨(wrap64 (x17_3 + 1)), (by first | rfl | (simp; done) | (simp [*]; done)), H', ⟨by have := HJ10.out; have := HK2.out; have := HK3.out; omega⟩, ⟨bR HO_3.out⟩, ⟨by (with_reducible repeat (first | apply Kd.R_alloc | apply Kd.R_drewN | apply Kd.R_drew)); exact Kd.R_mono HO_4.out (fun _ hk => hk.1.1)⟩, ⟨by (with_reducible repeat (first | apply Kd.R_alloc | apply Kd.R_drewN | apply Kd.R_drew)); exact Kd.R_mono HO_6.out (fun _ hk => hk.1.1)⟩, ⟨bR HO_10.out⟩, ⟨bR HO_12.out⟩, ⟨bw HB.out⟩⟩
   case rest =>
    clear HC37
    try clear c2
    try clear p2
    try clear c3
    try clear c4
    try clear p4
    try clear q4
    try clear hx4
    try clear c5
    try clear p6
    try clear c23
    try clear c23b0
    try clear c23b1
    try clear c23b2
    try clear c25
    try clear c26
    try clear c26b0
    try clear c26b1
    try clear c26b2
    try clear c36
    try clear c38
    try clear c39
    try clear c39b0
    try clear c40
    try clear c40b0
    try clear c41
    try clear c41b0
    try clear c42
    try clear c42b0
    try clear c42b1
    try clear c43
    try clear c43b0
    try clear c43b1
    try clear c44
    try clear c44b0
    try clear c44b1
    try clear p44
    try clear q44
    try clear hx44
    try clear c45
    try clear c45b0
    try clear c45b1
    try clear p45
    try clear q45
    try clear hx45
    try clear c51
    try clear c51b0
    try clear c54
    try clear c54b0
    try clear c54b1
    try clear c54b2
    try clear c59
    try clear p64
    try clear hx445_0
    try clear hx445_1
    try clear hx445_2
    try clear hx445_3
    try clear hx446_0
    try clear hx446_1
    try clear hx446_2
    try clear hx446_3
    try clear hx447_0
    try clear hx447_1
    try clear hx447_2
    try clear hx447_3
    try clear hx448_0
    try clear hx448_1
    try clear hx448_2
    try clear hx448_3
    try clear hx449_0
    try clear hx449_1
    try clear hx449_2
    try clear hx449_3
    try clear hx450_0
    try clear hx450_1
    try clear hx450_2
    try clear hx450_3
    try clear hx451_0
    try clear hx451_1
    try clear hx451_2
    try clear hx451_3
    try clear hx452_0
    try clear hx452_1
    try clear hx452_2
    try clear hx452_3
    try clear p2
    try clear p4
    try clear p44
    try clear p445
    try clear p446
    try clear p447
    try clear p448
    try clear p449
    try clear p45
    try clear p450
    try clear p451
    try clear p452
    try clear p6
    try clear q4
    try clear q44
    try clear q445
    try clear q446
    try clear q447
    try clear q448
    try clear q449
    try clear q45
    try clear q450
    try clear q451
    try clear q452
    obtain ⟨kq, HA, HJ36, HO_3, HO_4, HO_6, HB⟩ := hcut
    cases kq with
    | zero => exact absurd HA.out (by simp [laws_FnSlacks.j3])
    | succ kj36 =>
     have H := HA.out
     clear HA
     simp only [laws_FnSlacks.j3] at H
     by_cases c70 : t421 = true
     rotate_left
     ·replace c70 := Bool.eq_false_iff.mpr c70
      subst c70
      have H1 : (some true) = some r := by rw [if_neg (show ¬ (false = true) by decide)] at H; exact H
      clear H
      have H := H1
      clear H1
      obtain rfl := Option.some.inj H
      go_wp2
      repeat (go_quiet (fail); try go_wp2)
      go_ret
      exact ⟨by first | rfl | (simp [errW_none, errW_some] <;> rfl) | (simp [*, errW_none, errW_some] <;> rfl), bw HB.out⟩
     subst c70
     have H1 : ((impl_EndsOf.f kj36 t413 t414).bind fun bt462 => (laws_FnSlacks.l2 kj36 t413 t414 t415 t420 bt462.1 0)) = some r := by rw [if_pos rfl] at H; exact H
     clear H
     have H := H1
     clear H1
     replace H := Option.bind_eq_some_iff.mp H
     obtain ⟨⟨t462, t463⟩, A710, H⟩ := H
     replace H : (laws_FnSlacks.l2 kj36 t413 t414 t415 t420 t462 0) = some r := H
     have A71 := Aside0.mk A710
     clear A710
     have H' := Aside0.mk H
     clear H
     have go_ := True.intro
     repeat ((first | go_quiet (first | (go_at_call 15; (with_reducible refine (impl_EndsOf.calls kj36 _ _ t413 _ _ t414 t462 t463 _ ?side1 ?side2 ?side3 ?side4 A71.out).mono ?_); (case side1 => repeat (first | exact (Kd.R_reads' HO_3.out).2.2 | (with_reducible refine Kd.C_alloc ?_ _) | (with_reducible refine Kd.C_drewN ?_ _) | (with_reducible refine Kd.C_drew ?_))); (case side2 => exact (Kd.R_reads' HO_3.out).2.1); (case side3 => repeat (first | exact (Kd.R_reads' HO_4.out).2.2 | (with_reducible refine Kd.C_alloc ?_ _) | (with_reducible refine Kd.C_drewN ?_ _) | (with_reducible refine Kd.C_drew ?_))); (case side4 => exact (Kd.R_reads' HO_4.out).2.1); rintro e w72 ⟨v464, rfl, ho0, hb⟩; have n0_ := Aside0.mk (Kd.R_below (bR HO_3.out) hb); have n1_ := Aside0.mk (Kd.R_elder' (bR HO_4.out) (Kd.R_base ho0) hb); have n2_ := Aside0.mk (Kd.R_elder' (bR HO_6.out) (Kd.R_base ho0) hb); have n3_ := Aside0.mk (Kd.R_lower (Kd.R_new' (Kd.R_new' ho0 (Kd.R_lt (bR HO_4.out))) (Kd.R_lt (bR HO_6.out))) (below_size (bw HB.out))); have n4_ := Aside0.mk (below_step (bw HB.out) hb); replace HO_3 := n0_; replace HO_4 := n1_; replace HO_6 := n2_; have HO465 := n3_; replace HB := n4_; clear n0_ n1_ n2_ n3_ n4_; (try clear hb); (try clear hb2); (try clear hk); (try clear hi); (try clear ho0))) | clear go_); go_wp2_with (first | (go_at_call 15; (with_reducible refine (impl_EndsOf.calls kj36 _ _ t413 _ _ t414 t462 t463 _ ?side1 ?side2 ?side3 ?side4 A71.out).mono ?_); (case side1 => repeat (first | exact (Kd.R_reads' HO_3.out).2.2 | (with_reducible refine Kd.C_alloc ?_ _) | (with_reducible refine Kd.C_drewN ?_ _) | (with_reducible refine Kd.C_drew ?_))); (case side2 => exact (Kd.R_reads' HO_3.out).2.1); (case side3 => repeat (first | exact (Kd.R_reads' HO_4.out).2.2 | (with_reducible refine Kd.C_alloc ?_ _) | (with_reducible refine Kd.C_drewN ?_ _) | (with_reducible refine Kd.C_drew ?_))); (case side4 => exact (Kd.R_reads' HO_4.out).2.1); rintro e w72 ⟨v464, rfl, ho0, hb⟩; have n0_ := Aside0.mk (Kd.R_below (bR HO_3.out) hb); have n1_ := Aside0.mk (Kd.R_elder' (bR HO_4.out) (Kd.R_base ho0) hb); have n2_ := Aside0.mk (Kd.R_elder' (bR HO_6.out) (Kd.R_base ho0) hb); have n3_ := Aside0.mk (Kd.R_lower (Kd.R_new' (Kd.R_new' ho0 (Kd.R_lt (bR HO_4.out))) (Kd.R_lt (bR HO_6.out))) (below_size (bw HB.out))); have n4_ := Aside0.mk (below_step (bw HB.out) hb); replace HO_3 := n0_; replace HO_4 := n1_; replace HO_6 := n2_; have HO465 := n3_; replace HB := n4_; clear n0_ n1_ n2_ n3_ n4_; (try clear hb); (try clear hb2); (try clear hk); (try clear hi); (try clear ho0))))
     go_loopg [24] kj36 (fun kq v24 w' => ∃ (x24_3 : Int), v24 = .int .i64 x24_3 ∧ Aside0 (laws_FnSlacks.l2 kq t413 t414 t415 t420 t462 x24_3 = some r) ∧ Aside0 (kq ≤ kj36) ∧ Aside0 (Kd.R k38 38 w' w.heap.size (fun _ => True) (.slice Ao13 t413.length co13) t413) ∧ Aside0 (Kd.R (Kd.int .i64) 3 w' w.heap.size (fun k_ => some k_ ≠ (v422 : Value).ownBlock ∧ some k_ ≠ (v464 : Value).ownBlock) (.slice Ao14 t414.length co14) t414) ∧ Aside0 (Kd.R (Kd.int .i64) 3 w' w.heap.size (fun k_ => some k_ ≠ ((.slice Ao14 t414.length co14) : Value).ownBlock ∧ some k_ ≠ (v464 : Value).ownBlock) v422 t420) ∧ Aside0 (Kd.R (Kd.int .i64) 3 w' w.heap.size (fun k_ => some k_ ≠ ((.slice Ao14 t414.length co14) : Value).ownBlock ∧ some k_ ≠ (v422 : Value).ownBlock) v464 t462) ∧ Aside0 (Below w.heap.size w w'))
     case atStart => exact ⟨(0), (by first | rfl | (simp; done) | (simp [*]; done)), H', ⟨Nat.le_refl _⟩, ⟨bR HO_3.out⟩, ⟨bR HO_4.out⟩, ⟨bR HO_6.out⟩, ⟨by (with_reducible repeat (first | apply Kd.R_alloc | apply Kd.R_drewN | apply Kd.R_drew)); exact Kd.R_mono HO465.out (fun _ hk => ⟨hk.1.2, hk.2⟩)⟩, ⟨bw HB.out⟩⟩
     case round => as_aux_lemma =>
      clear H'
      try clear c2
      try clear p2
      try clear c3
      try clear c4
      try clear p4
      try clear q4
      try clear hx4
      try clear c5
      try clear p6
      try clear c7
      try clear c23
      try clear c23b0
      try clear c23b1
      try clear c23b2
      try clear c25
      try clear c26
      try clear c26b0
      try clear c26b1
      try clear c26b2
      try clear c36
      try clear c38
      try clear c39
      try clear c39b0
      try clear c40
      try clear c40b0
      try clear c41
      try clear c41b0
      try clear c42
      try clear c42b0
      try clear c42b1
      try clear c43
      try clear c43b0
      try clear c43b1
      try clear c44
      try clear c44b0
      try clear c44b1
      try clear p44
      try clear q44
      try clear hx44
      try clear c45
      try clear c45b0
      try clear c45b1
      try clear p45
      try clear q45
      try clear hx45
      try clear c51
      try clear c51b0
      try clear c54
      try clear c54b0
      try clear c54b1
      try clear c54b2
      try clear c59
      try clear p64
      try clear c70
      try clear hx445_0
      try clear hx445_1
      try clear hx445_2
      try clear hx445_3
      try clear hx446_0
      try clear hx446_1
      try clear hx446_2
      try clear hx446_3
      try clear hx447_0
      try clear hx447_1
      try clear hx447_2
      try clear hx447_3
      try clear hx448_0
      try clear hx448_1
      try clear hx448_2
      try clear hx448_3
      try clear hx449_0
      try clear hx449_1
      try clear hx449_2
      try clear hx449_3
      try clear hx450_0
      try clear hx450_1
      try clear hx450_2
      try clear hx450_3
      try clear hx451_0
      try clear hx451_1
      try clear hx451_2
      try clear hx451_3
      try clear hx452_0
      try clear hx452_1
      try clear hx452_2
      try clear hx452_3
      try clear p2
      try clear p4
      try clear p44
      try clear p445
      try clear p446
      try clear p447
      try clear p448
      try clear p449
      try clear p45
      try clear p450
      try clear p451
      try clear p452
      try clear p6
      try clear p64
      try clear q4
      try clear q44
      try clear q445
      try clear q446
      try clear q447
      try clear q448
      try clear q449
      try clear q45
      try clear q450
      try clear q451
      try clear q452
      obtain ⟨x24_3, rfl, HA, HK3, HO_3, HO_4, HO_6, HO_22, HB⟩ := hrel
      cases gk with
      | zero => exact absurd HA.out (by simp [laws_FnSlacks.l2])
      | succ k3 =>
       have H := HA.out
       clear HA
       simp only [laws_FnSlacks.l2] at H
       by_cases c73 : x24_3 < (t414.length : Int)
       rotate_left
       ·rw [if_neg c73] at H
        have c73b0 : decide (x24_3 < (t414.length : Int)) = false := decide_eq_false c73
        clear c73
        obtain rfl := Option.some.inj H
        go_wp2
        repeat (go_quiet (fail); try go_wp2)
        go_ret
        exact ⟨by first | rfl | (simp [errW_none, errW_some] <;> rfl) | (simp [*, errW_none, errW_some] <;> rfl), bw HB.out⟩
       rw [if_pos c73] at H
       have c73b0 : decide (x24_3 < (t414.length : Int)) = true := decide_eq_true c73
       clear c73
       have H' := Aside0.mk H
       clear H
       go_wp2
       repeat (go_quiet (fail); try go_wp2)
       go_loopg [25, 26] k3 (fun kq v25 v26 w' => ∃ (x25_4 : Bool) (x26_4 : Int), v25 = .bool x25_4 ∧ v26 = .int .i64 x26_4 ∧ Aside0 (laws_FnSlacks.l3 kq t413 t414 t415 t420 t462 x24_3 x25_4 x26_4 = some r) ∧ Aside0 (kq ≤ k3) ∧ Aside0 (Kd.R k38 38 w' w.heap.size (fun _ => True) (.slice Ao13 t413.length co13) t413) ∧ Aside0 (Kd.R (Kd.int .i64) 3 w' w.heap.size (fun k_ => some k_ ≠ (v422 : Value).ownBlock ∧ some k_ ≠ (v464 : Value).ownBlock) (.slice Ao14 t414.length co14) t414) ∧ Aside0 (Kd.R (Kd.int .i64) 3 w' w.heap.size (fun k_ => some k_ ≠ ((.slice Ao14 t414.length co14) : Value).ownBlock ∧ some k_ ≠ (v464 : Value).ownBlock) v422 t420) ∧ Aside0 (Kd.R (Kd.int .i64) 3 w' w.heap.size (fun k_ => some k_ ≠ ((.slice Ao14 t414.length co14) : Value).ownBlock ∧ some k_ ≠ (v422 : Value).ownBlock) v464 t462) ∧ Aside0 (Below w.heap.size w w'))
       case atStart => exact ⟨(false), (x24_3), (by first | rfl | (simp; done) | (simp [*]; done)), (by first | rfl | (simp; done) | (simp [*]; done)), H', ⟨Nat.le_refl _⟩, ⟨bR HO_3.out⟩, ⟨bR HO_4.out⟩, ⟨bR HO_6.out⟩, ⟨bR HO_22.out⟩, ⟨bw HB.out⟩⟩
       case round => as_aux_lemma =>
        clear H'
        try clear c2
        try clear p2
        try clear c3
        try clear c4
        try clear p4
        try clear q4
        try clear hx4
        try clear c5
        try clear p6
        try clear c7
        try clear c23
        try clear c23b0
        try clear c23b1
        try clear c23b2
        try clear c25
        try clear c26
        try clear c26b0
        try clear c26b1
        try clear c26b2
        try clear c36
        try clear c38
        try clear c39
        try clear c39b0
        try clear c40
        try clear c40b0
        try clear c41
        try clear c41b0
        try clear c42
        try clear c42b0
        try clear c42b1
        try clear c43
        try clear c43b0
        try clear c43b1
        try clear c44
        try clear c44b0
        try clear c44b1
        try clear p44
        try clear q44
        try clear hx44
        try clear c45
        try clear c45b0
        try clear c45b1
        try clear p45
        try clear q45
        try clear hx45
        try clear c51
        try clear c51b0
        try clear c54
        try clear c54b0
        try clear c54b1
        try clear c54b2
        try clear c59
        try clear p64
        try clear c70
        try clear c73
        try clear c73b0
        try clear hx445_0
        try clear hx445_1
        try clear hx445_2
        try clear hx445_3
        try clear hx446_0
        try clear hx446_1
        try clear hx446_2
        try clear hx446_3
        try clear hx447_0
        try clear hx447_1
        try clear hx447_2
        try clear hx447_3
        try clear hx448_0
        try clear hx448_1
        try clear hx448_2
        try clear hx448_3
        try clear hx449_0
        try clear hx449_1
        try clear hx449_2
        try clear hx449_3
        try clear hx450_0
        try clear hx450_1
        try clear hx450_2
        try clear hx450_3
        try clear hx451_0
        try clear hx451_1
        try clear hx451_2
        try clear hx451_3
        try clear hx452_0
        try clear hx452_1
        try clear hx452_2
        try clear hx452_3
        try clear p2
        try clear p4
        try clear p44
        try clear p445
        try clear p446
        try clear p447
        try clear p448
        try clear p449
        try clear p45
        try clear p450
        try clear p451
        try clear p452
        try clear p6
        try clear p64
        try clear q4
        try clear q44
        try clear q445
        try clear q446
        try clear q447
        try clear q448
        try clear q449
        try clear q45
        try clear q450
        try clear q451
        try clear q452
        obtain ⟨x25_4, x26_4, rfl, rfl, HA, HK4, HO_3, HO_4, HO_6, HO_22, HB⟩ := hrel
        cases gk with
        | zero => exact absurd HA.out (by simp [laws_FnSlacks.l3])
        | succ k4 =>
         have H := HA.out
         clear HA
         simp only [laws_FnSlacks.l3] at H
         by_cases c74 : x26_4 < (t414.length : Int)
         rotate_left
         ·rw [if_neg c74] at H
          have c74b0 : decide (x26_4 < (t414.length : Int)) = false := decide_eq_false c74
          clear c74
          by_cases c89 : x25_4 = true
          rotate_left
          ·replace c89 := Bool.eq_false_iff.mpr c89
           subst c89
           have H1 : (some false) = some r := by rw [if_neg (show ¬ (false = true) by decide)] at H; exact H
           clear H
           have H := H1
           clear H1
           obtain rfl := Option.some.inj H
           go_wp2
           repeat (go_quiet (fail); try go_wp2)
           go_ret
           exact ⟨by first | rfl | (simp [errW_none, errW_some] <;> rfl) | (simp [*, errW_none, errW_some] <;> rfl), bw HB.out⟩
          subst c89
          have H1 : (laws_FnSlacks.l2 k4 t413 t414 t415 t420 t462 (wrap64 (x24_3 + 1))) = some r := by rw [if_pos rfl] at H; exact H
          clear H
          have H := H1
          clear H1
          have H' := Aside0.mk H
          clear H
          go_wp2
          repeat (go_quiet (fail); try go_wp2)
          go_roundg k4
          case measure => have := HJ10.out; have := HJ36.out; have := HK3.out; have := HK4.out; omega
          case rel => exact ⟨(wrap64 (x24_3 + 1)), (by first | rfl | (simp; done) | (simp [*]; done)), H', ⟨by have := HJ10.out; have := HJ36.out; have := HK3.out; have := HK4.out; omega⟩, ⟨bR HO_3.out⟩, ⟨bR HO_4.out⟩, ⟨bR HO_6.out⟩, ⟨bR HO_22.out⟩, ⟨bw HB.out⟩⟩
         rw [if_pos c74] at H
         have c74b0 : decide (x26_4 < (t414.length : Int)) = true := decide_eq_true c74
         clear c74
         by_cases c75 : 0 ≤ x26_4
         rotate_left
         ·rw [if_neg c75] at H
          exact absurd H (by simp)
         rw [if_pos c75] at H
         have c75b0 : decide (0 ≤ x26_4) = true := decide_eq_true c75
         clear c75
         by_cases c76 : 0 ≤ (rd t414 x26_4)
         rotate_left
         ·rw [if_neg c76] at H
          exact absurd H (by simp)
         rw [if_pos c76] at H
         have c76b0 : decide (0 ≤ (rd t414 x26_4)) = true := decide_eq_true c76
         clear c76
         by_cases c77 : (rd t414 x26_4) < (t462.length : Int)
         rotate_left
         ·rw [if_neg c77] at H
          exact absurd H (by simp)
         rw [if_pos c77] at H
         have c77b0 : decide ((rd t414 x26_4) < (t462.length : Int)) = true := decide_eq_true c77
         clear c77
         by_cases c78 : 0 ≤ x24_3
         rotate_left
         ·rw [if_neg c78] at H
          exact absurd H (by simp)
         rw [if_pos c78] at H
         have c78b0 : decide (0 ≤ x24_3) = true := decide_eq_true c78
         clear c78
         by_cases c79 : x24_3 < (t420.length : Int)
         rotate_left
         ·rw [if_neg c79] at H
          exact absurd H (by simp)
         rw [if_pos c79] at H
         have c79b0 : decide (x24_3 < (t420.length : Int)) = true := decide_eq_true c79
         clear c79
         by_cases c80 : (rd t414 x26_4) < (t413.length : Int)
         rotate_left
         ·rw [if_neg c80] at H
          exact absurd H (by simp)
         rw [if_pos c80] at H
         have c80b0 : decide ((rd t414 x26_4) < (t413.length : Int)) = true := decide_eq_true c80
         clear c80
         by_cases c81 : (wrap64 ((wrap64 ((rd t462 (rd t414 x26_4)) + (rd t420 x24_3))) - ((rd_T38 t413 (rd t414 x26_4)).f3))) > t415
         ·rw [if_pos c81] at H
          have c81b0 : decide (t415 < (wrap64 ((wrap64 ((rd t462 (rd t414 x26_4)) + (rd t420 x24_3))) - ((rd_T38 t413 (rd t414 x26_4)).f3)))) = true := decide_eq_true c81
          clear c81
          obtain rfl := Option.some.inj H
          have p466 : 0 ≤ (x26_4 : Int) := of_decide_eq_true (by first | (with_reducible assumption) | assumption)
          have q466 : x26_4 < (t414.length : Int) := of_decide_eq_true (by first | (with_reducible assumption) | assumption)
          obtain ⟨ad466, e466, hx466_0⟩ := Kd.at_int (Kd.R_reads' HO_4.out).2.2 x26_4 p466 q466
          cases e466
          replace p466 := eq_true p466
          replace q466 := eq_true q466
          obtain ⟨Ao82, co82, eo82⟩ := Kd.R_slice HO_22.out
          subst eo82
          have p467 : 0 ≤ ((rd t414 x26_4) : Int) := of_decide_eq_true (by first | (with_reducible assumption) | assumption)
          have q467 : (rd t414 x26_4) < (t462.length : Int) := of_decide_eq_true (by first | (with_reducible assumption) | assumption)
          obtain ⟨ad467, e467, hx467_0⟩ := Kd.at_int (Kd.R_reads' HO_22.out).2.2 (rd t414 x26_4) p467 q467
          cases e467
          replace p467 := eq_true p467
          replace q467 := eq_true q467
          obtain ⟨Ao83, co83, eo83⟩ := Kd.R_slice HO_6.out
          subst eo83
          have p468 : 0 ≤ (x24_3 : Int) := of_decide_eq_true (by first | (with_reducible assumption) | assumption)
          have q468 : x24_3 < (t420.length : Int) := of_decide_eq_true (by first | (with_reducible assumption) | assumption)
          obtain ⟨ad468, e468, hx468_0⟩ := Kd.at_int (Kd.R_reads' HO_6.out).2.2 x24_3 p468 q468
          cases e468
          replace p468 := eq_true p468
          replace q468 := eq_true q468
          have p469 : 0 ≤ (x26_4 : Int) := of_decide_eq_true (by first | (with_reducible assumption) | assumption)
          have q469 : x26_4 < (t414.length : Int) := of_decide_eq_true (by first | (with_reducible assumption) | assumption)
          obtain ⟨ad469, e469, hx469_0⟩ := Kd.at_int (Kd.R_reads' HO_4.out).2.2 x26_4 p469 q469
          obtain rfl : ad466 = ad469 := (by injection e469)
          replace p469 := eq_true p469
          replace q469 := eq_true q469
          have p470 : 0 ≤ ((rd t414 x26_4) : Int) := of_decide_eq_true (by first | (with_reducible assumption) | assumption)
          have q470 : (rd t414 x26_4) < (t413.length : Int) := of_decide_eq_true (by first | (with_reducible assumption) | assumption)
          obtain ⟨ad470, e470, hx470_0, hx470_1, hx470_2, hx470_3⟩ := at_T38 (Kd.R_reads' HO_3.out).2.2 (rd t414 x26_4) p470 q470
          cases e470
          replace p470 := eq_true p470
          replace q470 := eq_true q470
          go_wp2
          repeat (go_quiet (fail); try go_wp2)
          go_ret
          exact ⟨by first | rfl | (simp [errW_none, errW_some] <;> rfl) | (simp [*, errW_none, errW_some] <;> rfl), bw HB.out⟩
         rw [if_neg c81] at H
         have c81b0 : decide (t415 < (wrap64 ((wrap64 ((rd t462 (rd t414 x26_4)) + (rd t420 x24_3))) - ((rd_T38 t413 (rd t414 x26_4)).f3)))) = false := decide_eq_false c81
         clear c81
         by_cases c84 : x25_4 = true
         ·subst c84
          have H1 : (laws_FnSlacks.l3 k4 t413 t414 t415 t420 t462 x24_3 true (wrap64 (x26_4 + 1))) = some r := by rw [if_pos rfl] at H; exact H
          clear H
          have H := H1
          clear H1
          have H' := Aside0.mk H
          clear H
          have p466 : 0 ≤ (x26_4 : Int) := of_decide_eq_true (by first | (with_reducible assumption) | assumption)
          have q466 : x26_4 < (t414.length : Int) := of_decide_eq_true (by first | (with_reducible assumption) | assumption)
          obtain ⟨ad466, e466, hx466_0⟩ := Kd.at_int (Kd.R_reads' HO_4.out).2.2 x26_4 p466 q466
          cases e466
          replace p466 := eq_true p466
          replace q466 := eq_true q466
          obtain ⟨Ao85, co85, eo85⟩ := Kd.R_slice HO_22.out
          subst eo85
          have p467 : 0 ≤ ((rd t414 x26_4) : Int) := of_decide_eq_true (by first | (with_reducible assumption) | assumption)
          have q467 : (rd t414 x26_4) < (t462.length : Int) := of_decide_eq_true (by first | (with_reducible assumption) | assumption)
          obtain ⟨ad467, e467, hx467_0⟩ := Kd.at_int (Kd.R_reads' HO_22.out).2.2 (rd t414 x26_4) p467 q467
          cases e467
          replace p467 := eq_true p467
          replace q467 := eq_true q467
          obtain ⟨Ao86, co86, eo86⟩ := Kd.R_slice HO_6.out
          subst eo86
          have p468 : 0 ≤ (x24_3 : Int) := of_decide_eq_true (by first | (with_reducible assumption) | assumption)
          have q468 : x24_3 < (t420.length : Int) := of_decide_eq_true (by first | (with_reducible assumption) | assumption)
          obtain ⟨ad468, e468, hx468_0⟩ := Kd.at_int (Kd.R_reads' HO_6.out).2.2 x24_3 p468 q468
          cases e468
          replace p468 := eq_true p468
          replace q468 := eq_true q468
          have p469 : 0 ≤ (x26_4 : Int) := of_decide_eq_true (by first | (with_reducible assumption) | assumption)
          have q469 : x26_4 < (t414.length : Int) := of_decide_eq_true (by first | (with_reducible assumption) | assumption)
          obtain ⟨ad469, e469, hx469_0⟩ := Kd.at_int (Kd.R_reads' HO_4.out).2.2 x26_4 p469 q469
          obtain rfl : ad466 = ad469 := (by injection e469)
          replace p469 := eq_true p469
          replace q469 := eq_true q469
          have p470 : 0 ≤ ((rd t414 x26_4) : Int) := of_decide_eq_true (by first | (with_reducible assumption) | assumption)
          have q470 : (rd t414 x26_4) < (t413.length : Int) := of_decide_eq_true (by first | (with_reducible assumption) | assumption)
          obtain ⟨ad470, e470, hx470_0, hx470_1, hx470_2, hx470_3⟩ := at_T38 (Kd.R_reads' HO_3.out).2.2 (rd t414 x26_4) p470 q470
          cases e470
          replace p470 := eq_true p470
          replace q470 := eq_true q470
          go_wp2
          repeat (go_quiet (fail); try go_wp2)
          go_roundg k4
          case measure => have := HJ10.out; have := HJ36.out; have := HK3.out; have := HK4.out; omega
          case rel => exact ⟨(true), (wrap64 (x26_4 + 1)), (by first | rfl | (simp; done) | (simp [*]; done)), (by first | rfl | (simp; done) | (simp [*]; done)), H', ⟨by have := HJ10.out; have := HJ36.out; have := HK3.out; have := HK4.out; omega⟩, ⟨bR HO_3.out⟩, ⟨bR HO_4.out⟩, ⟨bR HO_6.out⟩, ⟨bR HO_22.out⟩, ⟨bw HB.out⟩⟩
         replace c84 := Bool.eq_false_iff.mpr c84
         subst c84
         have H1 : (laws_FnSlacks.l3 k4 t413 t414 t415 t420 t462 x24_3 ((wrap64 ((wrap64 ((rd t462 (rd t414 x26_4)) + (rd t420 x24_3))) - ((rd_T38 t413 (rd t414 x26_4)).f3))) == t415) (wrap64 (x26_4 + 1))) = some r := by rw [if_neg (show ¬ (false = true) by decide)] at H; exact H
         clear H
         have H := H1
         clear H1
         have H' := Aside0.mk H
         clear H
         have p466 : 0 ≤ (x26_4 : Int) := of_decide_eq_true (by first | (with_reducible assumption) | assumption)
         have q466 : x26_4 < (t414.length : Int) := of_decide_eq_true (by first | (with_reducible assumption) | assumption)
         obtain ⟨ad466, e466, hx466_0⟩ := Kd.at_int (Kd.R_reads' HO_4.out).2.2 x26_4 p466 q466
         cases e466
         replace p466 := eq_true p466
         replace q466 := eq_true q466
         obtain ⟨Ao87, co87, eo87⟩ := Kd.R_slice HO_22.out
         subst eo87
         have p467 : 0 ≤ ((rd t414 x26_4) : Int) := of_decide_eq_true (by first | (with_reducible assumption) | assumption)
         have q467 : (rd t414 x26_4) < (t462.length : Int) := of_decide_eq_true (by first | (with_reducible assumption) | assumption)
         obtain ⟨ad467, e467, hx467_0⟩ := Kd.at_int (Kd.R_reads' HO_22.out).2.2 (rd t414 x26_4) p467 q467
         cases e467
         replace p467 := eq_true p467
         replace q467 := eq_true q467
         obtain ⟨Ao88, co88, eo88⟩ := Kd.R_slice HO_6.out
         subst eo88
         have p468 : 0 ≤ (x24_3 : Int) := of_decide_eq_true (by first | (with_reducible assumption) | assumption)
         have q468 : x24_3 < (t420.length : Int) := of_decide_eq_true (by first | (with_reducible assumption) | assumption)
         obtain ⟨ad468, e468, hx468_0⟩ := Kd.at_int (Kd.R_reads' HO_6.out).2.2 x24_3 p468 q468
         cases e468
         replace p468 := eq_true p468
         replace q468 := eq_true q468
         have p469 : 0 ≤ (x26_4 : Int) := of_decide_eq_true (by first | (with_reducible assumption) | assumption)
         have q469 : x26_4 < (t414.length : Int) := of_decide_eq_true (by first | (with_reducible assumption) | assumption)
         obtain ⟨ad469, e469, hx469_0⟩ := Kd.at_int (Kd.R_reads' HO_4.out).2.2 x26_4 p469 q469
         obtain rfl : ad466 = ad469 := (by injection e469)
         replace p469 := eq_true p469
         replace q469 := eq_true q469
         have p470 : 0 ≤ ((rd t414 x26_4) : Int) := of_decide_eq_true (by first | (with_reducible assumption) | assumption)
         have q470 : (rd t414 x26_4) < (t413.length : Int) := of_decide_eq_true (by first | (with_reducible assumption) | assumption)
         obtain ⟨ad470, e470, hx470_0, hx470_1, hx470_2, hx470_3⟩ := at_T38 (Kd.R_reads' HO_3.out).2.2 (rd t414 x26_4) p470 q470
         cases e470
         replace p470 := eq_true p470
         replace q470 := eq_true q470
         go_wp2
         repeat (go_quiet (fail); try go_wp2)
         go_roundg k4
         case measure => have := HJ10.out; have := HJ36.out; have := HK3.out; have := HK4.out; omega
         case rel => exact ⟨(((wrap64 ((wrap64 ((rd t462 (rd t414 x26_4)) + (rd t420 x24_3))) - ((rd_T38 t413 (rd t414 x26_4)).f3))) == t415)), (wrap64 (x26_4 + 1)), (by first | rfl | (simp; done) | (simp [*]; done)), (by first | rfl | (simp; done) | (simp [*]; done)), H', ⟨by have := HJ10.out; have := HJ36.out; have := HK3.out; have := HK4.out; omega⟩, ⟨bR HO_3.out⟩, ⟨bR HO_4.out⟩, ⟨bR HO_6.out⟩, ⟨bR HO_22.out⟩, ⟨bw HB.out⟩⟩

/-- THE ONE PURE STATEMENT of laws_FnSlacks: yours. -/
def laws_FnSlacks.PureK : Prop := ∀ (l0 : List Int), l0.length ≤ maxLen → l0.length * 1 ≤ 140737488351232 → (∀ x ∈ l0, (Lit.int .u8 x).wf = true) → ∃ k, laws_FnSlacks.f k l0 = some true
theorem laws_FnSlacks.walk (P : laws_FnSlacks.PureK) (a0 : Option Addr) (len0 cap0 : Nat) (z0 : List Int) (w : World) (w0 : (a0 = none ∧ len0 = 0 ∧ cap0 = 0 ∧ z0 = []) ∨ ∃ x, a0 = some x ∧ len0 ≤ cap0 ∧ cap0 ≤ maxLen ∧ z0.length = cap0 ∧ (∀ i, i < z0.length → w.cell? (x.add i) = some (.int .u8 (z0.getD i 0))) ∧ ∀ n ∈ z0, (Lit.int .u8 n).wf = true) (y0 : len0 * 1 ≤ 140737488351232) :
  Calls Try.prog 3 #[.slice a0 len0 cap0] w fun e w' => e = .returned (.bool true) ∧ Below w.heap.size w w' := by
 obtain ⟨l0, rfl, hr0, hm0, hw0, hc0⟩ := ReadsInt.ofRowC w0
 obtain ⟨k, h⟩ := P l0 hm0 y0 hw0
 refine (laws_FnSlacks.calls k _ _ l0 true w (Kd.C_of_reads (d := (0 : Int)) (h1 := fun _ => rfl) hr0) hc0 h).mono ?_
 rintro e w' ⟨rfl, hd⟩
 exact ⟨rfl, hd⟩

end Go.Proofs.Ytnghgpceaahkaaa.X
