-- Written by a program of this session (wip/gen/xp.py, over the kit's printer). Not trusted: Lean checks it.
import Derived.Test.YteakcfnhigaffaaX0
import Derived.Test.YteakcfnhigaffaaXe0
import Derived.Test.YteakcfnhigaffaaXe1
import Derived.Test.YteakcfnhigaffaaXf14
import Derived.Test.YteakcfnhigaffaaXf17
import Derived.Test.YteakcfnhigaffaaXf21
import Derived.Test.YteakcfnhigaffaaXf5
import Derived.Test.YteakcfnhigaffaaXf6
namespace Go.Proofs.Yteakcfnhigaffaa.X
open Go.RowKit Go.Proofs.YteakcfnhigaffaaW.PrintWords Go.Proofs.YteakcfnhigaffaaW.PrintLast Go.Proofs.YteakcfnhigaffaaW.PrintMore
attribute [local go_sem] max2_int min2_int max_two min_two max_three min_three max_four min_four   -- for this text's walks alone
set_option linter.unusedVariables false
set_option linter.unusedSimpArgs false

attribute [local go_sem high] eqA25 eqA33
/-! ### laws_FnLogs: function 3 -/
abbrev q3_0 : Array Bool := ⟨rl_ [32] false⟩
abbrev q3_1 : Array Bool := ⟨rl_ [1, 31] true⟩
abbrev q3_2 : Array Bool := ⟨rl_ [1, 1, 1, 29] true⟩
abbrev q3_3 : Array Bool := ⟨rl_ [3, 29] true⟩
abbrev q3_4 : Array Bool := ⟨rl_ [4, 28] true⟩
abbrev q3_17 : Array Bool := ⟨rl_ [17, 15] true⟩
abbrev q3_19 : Array Bool := ⟨rl_ [19, 13] true⟩
abbrev q3_20 : Array Bool := ⟨rl_ [20, 12] true⟩
abbrev q3_24 : Array Bool := ⟨rl_ [24, 8] true⟩
abbrev q3_25 : Array Bool := ⟨rl_ [25, 7] true⟩
abbrev q3_33 : Array Bool := ⟨rl_ [17, 1, 1, 13] true⟩
abbrev q3_34 : Array Bool := ⟨rl_ [28] false⟩
abbrev q3_35 : Array Bool := ⟨rl_ [1, 27] true⟩
abbrev q3_36 : Array Bool := ⟨rl_ [2, 26] true⟩
abbrev q3_51 : Array Bool := ⟨rl_ [17, 11] true⟩
abbrev q3_58 : Array Bool := ⟨rl_ [24, 4] true⟩
abbrev q3_59 : Array Bool := ⟨rl_ [25, 3] true⟩
mutual
def laws_FnLogs.j0 : Nat → Int → Bool → ByteArray → ByteArray → Int → ByteArray → ByteArray → ByteArray → ByteArray → Int → Option (Bool)
 | 0, _, _, _, _, _, _, _, _, _, _ => none
 | k + 1, x14, x103, x456000, x456001, x456002, x457000, x457001, x462000, x462001, x462002 => if x103 = true then (some false) else ((impl_SyncLog.f k x456000 x456001 x456002).bind fun bt471 => ((spec_SyncLog.f k x456000 x456001 x456002).bind fun bt476 => ((impl_LogRecords.f k x456000 x456001 x456002).bind fun bt481 => ((spec_LogRecords.f k x456000 x456001 x456002).bind fun bt485 => (if (!(bt471.1.toList == bt476.1.toList) || (!(bt471.2.1.toList == bt476.2.1.toList) || (!(bt471.2.2.1 == bt476.2.2.1)))) = true then (laws_FnLogs.j1 k x14 bt471.2.2.2 bt481.1 true x456000 x456001 x456002 x457000 x457001 x462000 x462001 x462002 bt471.1 bt471.2.1 bt471.2.2.1) else (if (bt471.2.2.2 != bt476.2.2.2) = true then (laws_FnLogs.j1 k x14 bt471.2.2.2 bt481.1 true x456000 x456001 x456002 x457000 x457001 x462000 x462001 x462002 bt471.1 bt471.2.1 bt471.2.2.1) else (if (bt481.2 != bt485.2) = true then (laws_FnLogs.j1 k x14 bt471.2.2.2 bt481.1 true x456000 x456001 x456002 x457000 x457001 x462000 x462001 x462002 bt471.1 bt471.2.1 bt471.2.2.1) else ((laws_vRecords.f k bt481.1 bt485.1).bind fun t489 => (laws_FnLogs.j1 k x14 bt471.2.2.2 bt481.1 (!t489) x456000 x456001 x456002 x457000 x457001 x462000 x462001 x462002 bt471.1 bt471.2.1 bt471.2.2.1)))))))))
def laws_FnLogs.j1 : Nat → Int → Bool → List (S25) → Bool → ByteArray → ByteArray → Int → ByteArray → ByteArray → ByteArray → ByteArray → Int → ByteArray → ByteArray → Int → Option (Bool)
 | 0, _, _, _, _, _, _, _, _, _, _, _, _, _, _, _ => none
 | k + 1, x14, x18, x21, x142, x456000, x456001, x456002, x457000, x457001, x462000, x462001, x462002, x476000, x476001, x476002 => if x142 = true then (some false) else ((impl_LogRecords.f k x476000 x476001 x476002).bind fun bt490 => (if x18 = true then ((laws_vRecords.f k bt490.1 x21).bind fun t494 => (laws_FnLogs.j2 k x14 x21 (!t494) x456000 x456001 x456002 x457000 x457001 x462000 x462001 x462002)) else (laws_FnLogs.j2 k x14 x21 false x456000 x456001 x456002 x457000 x457001 x462000 x462001 x462002)))
def laws_FnLogs.j2 : Nat → Int → List (S25) → Bool → ByteArray → ByteArray → Int → ByteArray → ByteArray → ByteArray → ByteArray → Int → Option (Bool)
 | 0, _, _, _, _, _, _, _, _, _, _, _ => none
 | k + 1, x14, x21, x154, x456000, x456001, x456002, x457000, x457001, x462000, x462001, x462002 => if x154 = true then (some false) else (if x14 = 0 then ((impl_LogRecords.f k x462000 x462001 x462002).bind fun bt495 => ((impl_IsValidLog.f k x462000 x462001 x462002).bind fun t499 => (if t499 = true then (if (bt495.1.length : Int) = (wrap64 ((x21.length : Int) + 1)) then (if 0 ≤ (x21.length : Int) then (if (x21.length : Int) ≤ (bt495.1.length : Int) then ((laws_vRecords.f k (bt495.1.take ((x21.length : Int) : Int).toNat) x21).bind fun t504 => (if t504 = true then (if (x21.length : Int) < (bt495.1.length : Int) then (some ((((rd_T25 bt495.1 (x21.length : Int)).f0).toList) == x457000.toList && ((((rd_T25 bt495.1 (x21.length : Int)).f1).toList) == x457001.toList))) else (none)) else (some false))) else (none)) else (none)) else (some false)) else (some false)))) else (some (x462000.toList == x456000.toList && (x462001.toList == x456001.toList && (x462002 == x456002)))))
end
def laws_FnLogs.f (k : Nat) (l0 : List Int) : Option (Bool) := (laws_vBig.f l0).bind fun t425 => (if t425 = true then (some true) else ((spec_DrawIsValidRecord.f l0).bind fun bt426 => ((laws_vCut.f l0 1).bind fun t429 => ((spec_DrawEncodeRecord.f t429).bind fun bt432 => ((impl_EncodeRecord.f k bt432.1 bt432.2.1 bt432.2.2).bind fun bt436 => ((spec_EncodeRecord.f k bt432.1 bt432.2.1 bt432.2.2).bind fun bt438 => ((laws_vCut.f l0 2).bind fun t440 => ((spec_DrawIsValidLog.f k t440).bind fun bt443 => ((laws_vCut.f l0 3).bind fun t447 => ((spec_DrawAppendRecord.f k t447).bind fun bt450 => ((impl_AppendRecord.f k bt450.1 bt450.2.1 bt450.2.2.1 bt450.2.2.2.1 bt450.2.2.2.2).bind fun bt457 => ((spec_AppendRecord.f k bt450.1 bt450.2.1 bt450.2.2.1 bt450.2.2.2.1 bt450.2.2.2.2).bind fun bt462 => ((impl_IsValidRecord.f k bt426.1 bt426.2).bind fun t467 => ((spec_IsValidRecord.f k bt426.1 bt426.2).bind fun t468 => (if (t467 != t468) = true then (laws_FnLogs.j0 k bt457.2.2.2 true bt450.1 bt450.2.1 bt450.2.2.1 bt450.2.2.2.1 bt450.2.2.2.2 bt457.1 bt457.2.1 bt457.2.2.1) else (if bt436.1.toList = bt438.1.toList then (if (bt436.2 != bt438.2) = true then (laws_FnLogs.j0 k bt457.2.2.2 true bt450.1 bt450.2.1 bt450.2.2.1 bt450.2.2.2.1 bt450.2.2.2.2 bt457.1 bt457.2.1 bt457.2.2.1) else ((impl_IsValidLog.f k bt443.1 bt443.2.1 bt443.2.2).bind fun t469 => ((spec_IsValidLog.f k bt443.1 bt443.2.1 bt443.2.2).bind fun t470 => (if (t469 != t470) = true then (laws_FnLogs.j0 k bt457.2.2.2 true bt450.1 bt450.2.1 bt450.2.2.1 bt450.2.2.2.1 bt450.2.2.2.2 bt457.1 bt457.2.1 bt457.2.2.1) else (if (!(bt457.1.toList == bt462.1.toList) || (!(bt457.2.1.toList == bt462.2.1.toList) || (!(bt457.2.2.1 == bt462.2.2.1)))) = true then (laws_FnLogs.j0 k bt457.2.2.2 true bt450.1 bt450.2.1 bt450.2.2.1 bt450.2.2.2.1 bt450.2.2.2.2 bt457.1 bt457.2.1 bt457.2.2.1) else (laws_FnLogs.j0 k bt457.2.2.2 (bt457.2.2.2 != bt462.2.2.2) bt450.1 bt450.2.1 bt450.2.2.1 bt450.2.2.2.1 bt450.2.2.2.2 bt457.1 bt457.2.1 bt457.2.2.1)))))) else (laws_FnLogs.j0 k bt457.2.2.2 true bt450.1 bt450.2.1 bt450.2.2.1 bt450.2.2.2.1 bt450.2.2.2.2 bt457.1 bt457.2.1 bt457.2.2.1)))))))))))))))))
theorem laws_FnLogs.mono_l : ∀ k, (∀ y0 y1 y2 y3 y4 y5 y6 y7 y8 y9, LeO (laws_FnLogs.j0 k y0 y1 y2 y3 y4 y5 y6 y7 y8 y9) (laws_FnLogs.j0 (k + 1) y0 y1 y2 y3 y4 y5 y6 y7 y8 y9)) ∧ (∀ y0 y1 y2 y3 y4 y5 y6 y7 y8 y9 y10 y11 y12 y13 y14, LeO (laws_FnLogs.j1 k y0 y1 y2 y3 y4 y5 y6 y7 y8 y9 y10 y11 y12 y13 y14) (laws_FnLogs.j1 (k + 1) y0 y1 y2 y3 y4 y5 y6 y7 y8 y9 y10 y11 y12 y13 y14)) ∧ (∀ y0 y1 y2 y3 y4 y5 y6 y7 y8 y9 y10, LeO (laws_FnLogs.j2 k y0 y1 y2 y3 y4 y5 y6 y7 y8 y9 y10) (laws_FnLogs.j2 (k + 1) y0 y1 y2 y3 y4 y5 y6 y7 y8 y9 y10))
 | 0 => ⟨fun _ _ _ _ _ _ _ _ _ _ r h => by simp [laws_FnLogs.j0] at h, fun _ _ _ _ _ _ _ _ _ _ _ _ _ _ _ r h => by simp [laws_FnLogs.j1] at h, fun _ _ _ _ _ _ _ _ _ _ _ r h => by simp [laws_FnLogs.j2] at h⟩
 | k + 1 => by
  obtain ⟨ih0, ih1, ih2⟩ := laws_FnLogs.mono_l k
  refine ⟨?_, ?_, ?_⟩
  ·intro y0 y1 y2 y3 y4 y5 y6 y7 y8 y9
   unfold laws_FnLogs.j0
   repeat' first
   | (with_reducible exact ih0 _ _ _ _ _ _ _ _ _ _)
   | (with_reducible exact ih1 _ _ _ _ _ _ _ _ _ _ _ _ _ _ _)
   | (with_reducible exact ih2 _ _ _ _ _ _ _ _ _ _ _)
   | (with_reducible exact impl_AppendRecord.mono _ _ _ _ _ _)
   | (with_reducible exact impl_EncodeRecord.mono _ _ _ _)
   | (with_reducible exact impl_IsValidLog.mono _ _ _ _)
   | (with_reducible exact impl_IsValidRecord.mono _ _ _)
   | (with_reducible exact impl_LogRecords.mono _ _ _ _)
   | (with_reducible exact impl_SyncLog.mono _ _ _ _)
   | (with_reducible exact laws_vRecords.mono _ _ _)
   | (with_reducible exact spec_AppendRecord.mono _ _ _ _ _ _)
   | (with_reducible exact spec_DrawAppendRecord.mono _ _)
   | (with_reducible exact spec_DrawIsValidLog.mono _ _)
   | (with_reducible exact spec_EncodeRecord.mono _ _ _ _)
   | (with_reducible exact spec_IsValidLog.mono _ _ _ _)
   | (with_reducible exact spec_IsValidRecord.mono _ _ _)
   | (with_reducible exact spec_LogRecords.mono _ _ _ _)
   | (with_reducible exact spec_SyncLog.mono _ _ _ _)
   | (with_reducible exact LeO.refl _)
   | (with_reducible exact LeO.none _)
   | (with_reducible refine LeO.ite ?_ ?_)
   | (with_reducible refine LeO.bind ?_ (fun _ => ?_))
   | exact ih0 _ _ _ _ _ _ _ _ _ _
   | exact ih1 _ _ _ _ _ _ _ _ _ _ _ _ _ _ _
   | exact ih2 _ _ _ _ _ _ _ _ _ _ _
   | exact impl_AppendRecord.mono _ _ _ _ _ _
   | exact impl_EncodeRecord.mono _ _ _ _
   | exact impl_IsValidLog.mono _ _ _ _
   | exact impl_IsValidRecord.mono _ _ _
   | exact impl_LogRecords.mono _ _ _ _
   | exact impl_SyncLog.mono _ _ _ _
   | exact laws_vRecords.mono _ _ _
   | exact spec_AppendRecord.mono _ _ _ _ _ _
   | exact spec_DrawAppendRecord.mono _ _
   | exact spec_DrawIsValidLog.mono _ _
   | exact spec_EncodeRecord.mono _ _ _ _
   | exact spec_IsValidLog.mono _ _ _ _
   | exact spec_IsValidRecord.mono _ _ _
   | exact spec_LogRecords.mono _ _ _ _
   | exact spec_SyncLog.mono _ _ _ _
   | exact LeO.none _
   | refine LeO.ite ?_ ?_
   | refine LeO.bind ?_ (fun _ => ?_)
  ·intro y0 y1 y2 y3 y4 y5 y6 y7 y8 y9 y10 y11 y12 y13 y14
   unfold laws_FnLogs.j1
   repeat' first
   | (with_reducible exact ih0 _ _ _ _ _ _ _ _ _ _)
   | (with_reducible exact ih1 _ _ _ _ _ _ _ _ _ _ _ _ _ _ _)
   | (with_reducible exact ih2 _ _ _ _ _ _ _ _ _ _ _)
   | (with_reducible exact impl_AppendRecord.mono _ _ _ _ _ _)
   | (with_reducible exact impl_EncodeRecord.mono _ _ _ _)
   | (with_reducible exact impl_IsValidLog.mono _ _ _ _)
   | (with_reducible exact impl_IsValidRecord.mono _ _ _)
   | (with_reducible exact impl_LogRecords.mono _ _ _ _)
   | (with_reducible exact impl_SyncLog.mono _ _ _ _)
   | (with_reducible exact laws_vRecords.mono _ _ _)
   | (with_reducible exact spec_AppendRecord.mono _ _ _ _ _ _)
   | (with_reducible exact spec_DrawAppendRecord.mono _ _)
   | (with_reducible exact spec_DrawIsValidLog.mono _ _)
   | (with_reducible exact spec_EncodeRecord.mono _ _ _ _)
   | (with_reducible exact spec_IsValidLog.mono _ _ _ _)
   | (with_reducible exact spec_IsValidRecord.mono _ _ _)
   | (with_reducible exact spec_LogRecords.mono _ _ _ _)
   | (with_reducible exact spec_SyncLog.mono _ _ _ _)
   | (with_reducible exact LeO.refl _)
   | (with_reducible exact LeO.none _)
   | (with_reducible refine LeO.ite ?_ ?_)
   | (with_reducible refine LeO.bind ?_ (fun _ => ?_))
   | exact ih0 _ _ _ _ _ _ _ _ _ _
   | exact ih1 _ _ _ _ _ _ _ _ _ _ _ _ _ _ _
   | exact ih2 _ _ _ _ _ _ _ _ _ _ _
   | exact impl_AppendRecord.mono _ _ _ _ _ _
   | exact impl_EncodeRecord.mono _ _ _ _
   | exact impl_IsValidLog.mono _ _ _ _
   | exact impl_IsValidRecord.mono _ _ _
   | exact impl_LogRecords.mono _ _ _ _
   | exact impl_SyncLog.mono _ _ _ _
   | exact laws_vRecords.mono _ _ _
   | exact spec_AppendRecord.mono _ _ _ _ _ _
   | exact spec_DrawAppendRecord.mono _ _
   | exact spec_DrawIsValidLog.mono _ _
   | exact spec_EncodeRecord.mono _ _ _ _
   | exact spec_IsValidLog.mono _ _ _ _
   | exact spec_IsValidRecord.mono _ _ _
   | exact spec_LogRecords.mono _ _ _ _
   | exact spec_SyncLog.mono _ _ _ _
   | exact LeO.none _
   | refine LeO.ite ?_ ?_
   | refine LeO.bind ?_ (fun _ => ?_)
  ·intro y0 y1 y2 y3 y4 y5 y6 y7 y8 y9 y10
   unfold laws_FnLogs.j2
   repeat' first
   | (with_reducible exact ih0 _ _ _ _ _ _ _ _ _ _)
   | (with_reducible exact ih1 _ _ _ _ _ _ _ _ _ _ _ _ _ _ _)
   | (with_reducible exact ih2 _ _ _ _ _ _ _ _ _ _ _)
   | (with_reducible exact impl_AppendRecord.mono _ _ _ _ _ _)
   | (with_reducible exact impl_EncodeRecord.mono _ _ _ _)
   | (with_reducible exact impl_IsValidLog.mono _ _ _ _)
   | (with_reducible exact impl_IsValidRecord.mono _ _ _)
   | (with_reducible exact impl_LogRecords.mono _ _ _ _)
   | (with_reducible exact impl_SyncLog.mono _ _ _ _)
   | (with_reducible exact laws_vRecords.mono _ _ _)
   | (with_reducible exact spec_AppendRecord.mono _ _ _ _ _ _)
   | (with_reducible exact spec_DrawAppendRecord.mono _ _)
   | (with_reducible exact spec_DrawIsValidLog.mono _ _)
   | (with_reducible exact spec_EncodeRecord.mono _ _ _ _)
   | (with_reducible exact spec_IsValidLog.mono _ _ _ _)
   | (with_reducible exact spec_IsValidRecord.mono _ _ _)
   | (with_reducible exact spec_LogRecords.mono _ _ _ _)
   | (with_reducible exact spec_SyncLog.mono _ _ _ _)
   | (with_reducible exact LeO.refl _)
   | (with_reducible exact LeO.none _)
   | (with_reducible refine LeO.ite ?_ ?_)
   | (with_reducible refine LeO.bind ?_ (fun _ => ?_))
   | exact ih0 _ _ _ _ _ _ _ _ _ _
   | exact ih1 _ _ _ _ _ _ _ _ _ _ _ _ _ _ _
   | exact ih2 _ _ _ _ _ _ _ _ _ _ _
   | exact impl_AppendRecord.mono _ _ _ _ _ _
   | exact impl_EncodeRecord.mono _ _ _ _
   | exact impl_IsValidLog.mono _ _ _ _
   | exact impl_IsValidRecord.mono _ _ _
   | exact impl_LogRecords.mono _ _ _ _
   | exact impl_SyncLog.mono _ _ _ _
   | exact laws_vRecords.mono _ _ _
   | exact spec_AppendRecord.mono _ _ _ _ _ _
   | exact spec_DrawAppendRecord.mono _ _
   | exact spec_DrawIsValidLog.mono _ _
   | exact spec_EncodeRecord.mono _ _ _ _
   | exact spec_IsValidLog.mono _ _ _ _
   | exact spec_IsValidRecord.mono _ _ _
   | exact spec_LogRecords.mono _ _ _ _
   | exact spec_SyncLog.mono _ _ _ _
   | exact LeO.none _
   | refine LeO.ite ?_ ?_
   | refine LeO.bind ?_ (fun _ => ?_)
theorem laws_FnLogs.mono : ∀ a0 k, LeO (laws_FnLogs.f k a0) (laws_FnLogs.f (k + 1) a0) := by
 intro a0 k
 obtain ⟨ih0, ih1, ih2⟩ := laws_FnLogs.mono_l k
 unfold laws_FnLogs.f
 repeat' first
   | (with_reducible exact ih0 _ _ _ _ _ _ _ _ _ _)
   | (with_reducible exact ih1 _ _ _ _ _ _ _ _ _ _ _ _ _ _ _)
   | (with_reducible exact ih2 _ _ _ _ _ _ _ _ _ _ _)
   | (with_reducible exact impl_AppendRecord.mono _ _ _ _ _ _)
   | (with_reducible exact impl_EncodeRecord.mono _ _ _ _)
   | (with_reducible exact impl_IsValidLog.mono _ _ _ _)
   | (with_reducible exact impl_IsValidRecord.mono _ _ _)
   | (with_reducible exact impl_LogRecords.mono _ _ _ _)
   | (with_reducible exact impl_SyncLog.mono _ _ _ _)
   | (with_reducible exact laws_vRecords.mono _ _ _)
   | (with_reducible exact spec_AppendRecord.mono _ _ _ _ _ _)
   | (with_reducible exact spec_DrawAppendRecord.mono _ _)
   | (with_reducible exact spec_DrawIsValidLog.mono _ _)
   | (with_reducible exact spec_EncodeRecord.mono _ _ _ _)
   | (with_reducible exact spec_IsValidLog.mono _ _ _ _)
   | (with_reducible exact spec_IsValidRecord.mono _ _ _)
   | (with_reducible exact spec_LogRecords.mono _ _ _ _)
   | (with_reducible exact spec_SyncLog.mono _ _ _ _)
   | (with_reducible exact LeO.refl _)
   | (with_reducible exact LeO.none _)
   | (with_reducible refine LeO.ite ?_ ?_)
   | (with_reducible refine LeO.bind ?_ (fun _ => ?_))
   | exact ih0 _ _ _ _ _ _ _ _ _ _
   | exact ih1 _ _ _ _ _ _ _ _ _ _ _ _ _ _ _
   | exact ih2 _ _ _ _ _ _ _ _ _ _ _
   | exact impl_AppendRecord.mono _ _ _ _ _ _
   | exact impl_EncodeRecord.mono _ _ _ _
   | exact impl_IsValidLog.mono _ _ _ _
   | exact impl_IsValidRecord.mono _ _ _
   | exact impl_LogRecords.mono _ _ _ _
   | exact impl_SyncLog.mono _ _ _ _
   | exact laws_vRecords.mono _ _ _
   | exact spec_AppendRecord.mono _ _ _ _ _ _
   | exact spec_DrawAppendRecord.mono _ _
   | exact spec_DrawIsValidLog.mono _ _
   | exact spec_EncodeRecord.mono _ _ _ _
   | exact spec_IsValidLog.mono _ _ _ _
   | exact spec_IsValidRecord.mono _ _ _
   | exact spec_LogRecords.mono _ _ _ _
   | exact spec_SyncLog.mono _ _ _ _
   | exact LeO.none _
   | refine LeO.ite ?_ ?_
   | refine LeO.bind ?_ (fun _ => ?_)
def laws_FnLogs.T11 : Bool × List (List Nat × List Nat) := (true, [([], []), ([0], [0]), ([], []), ([2, 1], [2]), ([1, 3], [1, 3]), ([4, 3], [4]), ([5], [5]), ([5], [5]), ([6, 7, 5], [5, 6, 7]), ([5, 8], [5, 8]), ([9, 5], [9]), ([10], [10]), ([10], [10]), ([11, 12, 10], [10, 11, 12]), ([10, 13], [10, 13]), ([14, 10], [14]), ([15], [15]), ([16, 15, 15], [15, 16]), ([15], [15]), ([18, 17, 15], [15, 18]), ([17, 19, 15], [15, 17, 19]), ([15, 20], [15, 20]), ([21, 19], [21]), ([22], [22]), ([22], [22]), ([23, 24, 22], [22, 23, 24]), ([22, 25], [22, 25]), ([26, 22], [26]), ([27], [27]), ([27], [27]), ([28, 29, 27], [27, 28, 29]), ([27, 30], [27, 30])])
def laws_FnLogs.B11 : List Nat := [0, 1, 0, 7, 15, 31, 63, 63, 255, 511, 1023, 2047, 2047, 8191, 16383, 32767, 65535, 131071, 65535, 524287, 1048575, 2097151, 4194303, 8388607, 8388607, 33554431, 67108863, 134217727, 268435455, 268435455, 1073741823, 2147483647]
theorem laws_FnLogs.tab11 : rtab .any (opsOf Try.f3 11) = laws_FnLogs.T11 := by kernel_rfl
theorem laws_FnLogs.bits11 : waitsOk laws_FnLogs.T11.2 laws_FnLogs.B11 = true := by kernel_rfl
def laws_FnLogs.T25 : Bool × List (List Nat × List Nat) := (true, [([], []), ([0], [0]), ([1, 1], [1]), ([2], [2]), ([3, 2], [2, 3]), ([2], [2]), ([5, 2], [2, 5]), ([6, 2], [2, 6]), ([4, 7, 2], [2, 4, 7]), ([2, 8], [2, 8]), ([9, 2], [9]), ([10], [10]), ([10], [10]), ([12, 10], [10, 12]), ([11, 13, 10], [10, 11, 13]), ([10], [10]), ([14, 15, 10, 10], [10, 14, 15]), ([10, 16], [10, 16]), ([17, 16], [17]), ([18], [18]), ([18], [18]), ([20, 18], [18, 20]), ([19, 21, 18], [18, 19, 21]), ([22, 18], [18, 22]), ([18], [18]), ([23, 24, 18], [18, 23, 24]), ([18, 25], [18, 25]), ([26, 18, 0, 1, 2, 3, 4, 5, 6, 7, 8, 9, 10, 11, 12, 13, 14, 15, 16, 17, 18, 19, 20, 21, 22, 23, 24, 25, 26], [26])])
def laws_FnLogs.B25 : List Nat := [0, 1, 3, 7, 15, 7, 39, 103, 255, 511, 1023, 2047, 2047, 6143, 16383, 2047, 65535, 131071, 262143, 524287, 524287, 1572863, 4194303, 8388607, 524287, 33554431, 67108863, 134217727]
theorem laws_FnLogs.tab25 : rtab .any (opsOf Try.f3 25) = laws_FnLogs.T25 := by kernel_rfl
theorem laws_FnLogs.bits25 : waitsOk laws_FnLogs.T25.2 laws_FnLogs.B25 = true := by kernel_rfl
end Go.Proofs.Yteakcfnhigaffaa.X
